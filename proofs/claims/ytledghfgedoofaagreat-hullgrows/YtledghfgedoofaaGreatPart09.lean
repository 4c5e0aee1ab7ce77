/- H4 S2 S3 NewsN W1 DigL R1 R2 W2 WL20 WG20 ReadN LastN LastG -/
import Derived.Test.YtledghfgedoofaaGreatPart08
import Derived.Test.YtledghfgedoofaaGreatPart07
import Derived.Test.YtledghfgedoofaaGreatPart04
import Derived.Deep.Slices
import Derived.ProofKit
import Derived.OpenShut
import Derived.WideKeyArgs
import Derived.SizedLaws
set_option linter.all false
namespace Orr
open Go Go.Proofs Orq
set_option maxRecDepth 10000
theorem Q1s {T:Nat} {t:Rat} {Bc:Tm→List Ct} {Br:Tm→List (List LV)} {r0:List (List LV)} (ht:Qs 400000 t) (hB:BuildOk Bc)
    (hb:∀ a c r1,Va a→CrOk c→Xt Tryz.prog 40 [.one (.ow 0 0),.agg (ta a)] [.blk T (Gq c r0 r1)] [.one (.row (Q4 (Bc a)))] [.blk T (Gq c r0 (Br a))])
    {K:Nat} {c c':Cr} {r1 r1':List (List LV)} {n:Int} (hc:CrOk c) (hev:0≤c.ev∧c.ev+K≤1000000000000000000) (h:Qu c.now t≤0) (hg:goF Bc Br t K c r1 0=some (c',r1',n)) :
    Xt Tryz.prog 41 [.one (.ow 0 0),.agg (rl t),.one (.ofn 40 [.ow 0 0] [])] [.blk T (Gq c r0 r1)] [.one (.int .i64 n),.one (.int .i64 0)] [.blk T (Gq c' r0 r1')]:=by
  have qt:Qb t:=ht.mono (by decide)
  have c1:=Eb hc.n.tb qt
  refine Jb Tryz.func41 rfl ?_
  refine go tt [.c [0] (Qoi hc.n),.c [] c1,.f (by simpa using h)] rfl trivial ?_
  refine lp (S:=Nat×Cr×List (List LV)×Int) 2 (fun L1 s=>(8,.v (.one (.int .i64 s.2.2.2)))::L1) (fun s=>[.blk T (Gq s.2.1 r0 s.2.2.1),.blk 40 (rl t)]) (fun s=>s.1) (fun s=>CrOk s.2.1∧(0≤s.2.1.ev∧s.2.1.ev+s.1≤1000000000000000000)∧(0≤s.2.2.2∧s.2.2.2+s.1≤1000000000000000000)∧goF Bc Br t s.1 s.2.1 s.2.2.1 s.2.2.2=some (c',r1',n)) (K,c,r1,0) ⟨hc,hev,⟨Int.le_refl 0,by dsimp only; omega⟩,hg⟩ rfl (fun _ _=>rfl) rfl fun ⟨k,x,r,m⟩ ⟨j1,j2,j3,j4⟩=>?_
  dsimp only at j1 j2 j3 j4 ⊢
  cases k with
  | zero=>cases j4
  |
   succ k =>
   simp only [goF] at j4
   obtain ⟨ws,w1,j4⟩:=Option.bind_eq_some_iff.1 j4
   obtain ⟨o,o1,j4⟩:=Option.bind_eq_some_iff.1 j4
   have cn:=Qum (T:=T) (r0:=r0) (r1:=r) j1 w1 o1
   have ca:=Qxs (Qe t.num) (Qe (t.den:Int)) (Nat.le_trans ht.1 (by decide)) (Nat.le_trans ht.2 (by decide)) (by rw [M8]; exact ht.mono (by decide))
   rw [M8] at ca
   cases o with
   |
    none =>
    injection j4 with j4; injection j4 with e1 j4; injection j4 with e2 e3
    subst e1; subst e2; subst e3
    exact ed tt [] [0] [.c [0] cn,.g 25 true rfl,.t rfl,.c [] ca] rfl trivial
   |
    some a =>
    have ha:=Q0f j1 w1 o1
    dsimp only at j4
    have cc:=Eb ha.tb qt
    by_cases h0:0<Qu a t
    · rw [if_pos h0] at j4
      injection j4 with j4; injection j4 with e1 j4; injection j4 with e2 e3
      subst e1; subst e2; subst e3
      exact ed tt [] [0] [.c [0] cn,.g 25 false rfl,.c [] cc,.t (by simpa using h0),.c [] ca] rfl trivial
    · rw [if_neg h0] at j4
      obtain ⟨w2,l1,j4⟩:=Option.bind_eq_some_iff.1 j4
      have j1':=Ld j1 w1
      have cl:=Hx (b:=a) (l:=[]) ha.tb (fun t ht=>by cases ht) (by decide) rfl
      have cb:=hb a { x with l:=ws } r ha j1'
      have cy:=Quk (T:=T) (r0:=r0) (r1:=Br a) j1' ha (hB.p a ha) (hB.n a ha) l1
      have hf:decide (0<Qu a t)=false:=by simpa using h0
      refine go tt [.c [0] cn,.g 25 false rfl,.c [] cc,.f hf,.c [] cl,.c [0] cb,.c [0] cy] rfl (by simp [Qa]; omega) ?_
      exact rd (k,⟨a,w2,x.ev+1⟩,Br a,m+1) (by dsimp only; omega) ⟨lay_ok _ j1' ha (hB.p a ha) (hB.n a ha) l1,by dsimp only; omega,by dsimp only; omega,j4⟩ rfl
def Qgn (l:List Pt) (a:Tm):Cr:=⟨a,(Z4 (bcH l a)).map fresh,0⟩
theorem Qjd {zs:List (List LV)} {qs l:List Pt} {x y x' y':LV} {n d:Int} (hz:IsPts 4294967294 1073741824 zs qs) (hq:qs.length≤6) (hnl:Vo [] qs=(l,0)) (hl:∀ p∈l,Sc p.c) (hn:l.length≤10) (h1:Xg x y n) (h2:Xg x' y' d) (bn:Qt n≤4294967295) (bd:Qt d≤4294967295) (ht:Qs 400000 (Vw n d)) :
    Xt Tryz.prog 9 [.agg [x,y,x',y'],.one (.row zs)] [] [.one (.ow 0 0),.one (.int .i64 0)] [.blk 71 (Gq (Qgn l (tq (Vw n d))) (Qk l) (brH l (tq (Vw n d))))]:=by
  have cn:=Q1u hz hq
  rw [hnl] at cn
  have co:=Qxs h1 h2 bn bd (ht.mono (by decide))
  have hv:=Qw8 ht
  have hB:=Qgk hl hn
  have cb:=Qmj hl hn hv
  have cg:=Qml (T:=71) (r0:=Qk l) (r1:=brH l (tq (Vw n d))) hv (hB.p _ hv) (hB.n _ hv)
  obtain ⟨b,l1,rfl,rfl,_⟩:=h1
  obtain ⟨b',l2,rfl,rfl,_⟩:=h2
  refine Jb Tryz.func9 rfl ?_
  exact ed tt [] [2] [.c [] cn,.f rfl,.c [] co,.c [2] cb,.c [2] cg] rfl trivial
theorem Qy5 {t:Rat} {l:List Pt} {K:Nat} {c c':Cr} {r1 r1':List (List LV)} {n:Int} (ht:Qs 400000 t) (hl:∀ p∈l,Sc p.c) (hn:l.length≤10) (hc:CrOk c) (hev:0≤c.ev∧c.ev+K≤1000000000000000000) (h:Qu c.now t≤0) (hg:goF (bcH l) (brH l) t K c r1 0=some (c',r1',n)) :
    Xt Tryz.prog 13 [.one (.ow 0 0),.agg (rl t)] [.blk 71 (Gq c (Qk l) r1)] [.one (.int .i64 n),.one (.int .i64 0)] [.blk 71 (Gq c' (Qk l) r1')]:=by
  have cg:=Q1s (T:=71) (r0:=Qk l) ht (Qgk hl hn) (fun a c r1 ha _=>Qmk (c:=c) (r1:=r1) hl hn ha) hc hev h hg
  refine Jb Tryz.func13 rfl ?_
  exact ed tt [] [0] [.c [] (Gw (ht.mono (by decide))),.c [0] cg] rfl trivial
theorem Qoh {c:Cr} {l s:List Pt} (hs:s.length≤1000000):Xt Tryz.prog 11 [.one (.ow 0 0)] [.blk 71 (Gq c (Qk l) (Qk s))] [.one (ids (s.map (·.id)))] [.blk 71 (Gq c (Qk l) (Qk s))]:=by
  have hcl:=Jf s
  refine Jb Tryz.func11 rfl ?_
  refine go tt [.o 3 3 1] rfl trivial ?_
  refine lp (S:=Nat) 2 (fun L1 i=>(11,.v (.one (.int .i64 (i:Int))))::(3,.v (.one (.orow 1 1 none)))::L1) (fun i=>[.blk 71 (Gq c (Qk l) (Qk s)),.row false 3 1 (((s.take i).map (·.id)).map fun (z:Int)=>[LV.int .i64 z])]) (fun i=>s.length-i) (fun i=>i≤s.length) 0 (Nat.zero_le _) rfl (fun _ _=>rfl) rfl fun i hi=>?_
  by_cases hlt:i<s.length
  · obtain ⟨p,hp⟩:∃ p,s[i]? = some p:=⟨_,List.getElem?_eq_getElem hlt⟩
    have hg:(((s.take (i+1)).map (·.id)).map fun (z:Int)=>[LV.int .i64 z])=(((s.take i).map (·.id)).map fun (z:Int)=>[LV.int .i64 z])++[[.int .i64 p.id]]:=by
      rw [List.take_succ,hp]; simp
    refine go tt [.t (by simp [hcl]; omega),.x (Je hp),.s (sz:=1) (l:=[[.int .i64 p.id]]) (fun c hc=>by rw [List.mem_singleton.1 hc]; rfl)] rfl (by simp [Qa]; omega) ?_
    exact rd (i+1) (by omega) hlt (by rw [hg]; rfl)
  · obtain rfl:i=s.length:=by omega
    rw [List.take_length]
    exact ed tt [1] [0] [.f (by simp [hcl])] rfl trivial
theorem Qjc {c:Cr} {l s:List Pt} {id:Int} (hs:s.length≤1000000):Xt Tryz.prog 12 [.one (.ow 0 0),.one (.int .i64 id)] [.blk 71 (Gq c (Qk l) (Qk s))] [.one (.bool (s.any fun p=>decide (p.id=id)))] [.blk 71 (Gq c (Qk l) (Qk s))]:=by
  have hcl:=Jf s
  refine Jb Tryz.func12 rfl ?_
  refine go tt [] rfl trivial ?_
  refine lp (S:=Nat) 1 (fun L1 i=>(12,.v (.one (.int .i64 (i:Int))))::L1) (fun _=>[.blk 71 (Gq c (Qk l) (Qk s))]) (fun i=>s.length-i) (fun i=>i≤s.length∧(s.any fun p=>decide (p.id=id))=(s.drop i).any fun p=>decide (p.id=id)) 0 ⟨Nat.zero_le _,by rw [List.drop_zero]⟩ rfl (fun _ _=>rfl) rfl fun i ⟨hi,he⟩=>?_
  by_cases hlt:i<s.length
  · obtain ⟨p,hp⟩:∃ p,s[i]? = some p:=⟨_,List.getElem?_eq_getElem hlt⟩
    have hdr:s.drop i=p::s.drop (i+1):=by
      rw [List.drop_eq_getElem_cons hlt]; congr 1
      have:=List.getElem?_eq_getElem hlt; rw [hp] at this; injection this with this; exact this.symm
    rw [hdr,List.any_cons] at he
    by_cases h:p.id=id
    · rw [decide_eq_true h,Bool.true_or] at he
      rw [he]
      exact ed tt [] [0] [.t (by simp [hcl]; omega),.x (Je hp),.t (decide_eq_true h)] rfl trivial
    · rw [decide_eq_false h,Bool.false_or] at he
      refine go tt [.t (by simp [hcl]; omega),.x (Je hp),.f (decide_eq_false h)] rfl (by simp [Qa]; omega) ?_
      exact rd (i+1) (by omega) ⟨hlt,he⟩ rfl
  · obtain rfl:i=s.length:=by omega
    rw [List.drop_length,List.any_nil] at he
    rw [he]
    exact ed tt [] [0] [.f (by simp [hcl])] rfl trivial
end Orr

namespace Orr
open Go Go.Proofs Orq
set_option maxRecDepth 10000
end Orr

namespace Orr
open Go Go.Proofs Orq
set_option maxRecDepth 10000
abbrev idl (l:List Int):List (List LV):=l.map fun (z:Int)=>[.int .i64 z]
theorem La {l:List Int} {i:Nat} {z:Int} (h:l[i]? = some z):(idl l)[i]? = some [.int .i64 z]:=J0 h
theorem Qov {a b:List Int} (ha:a.length≤1000000) (hb:b.length≤1000000):Qf Tryz.prog 10 [.one (ids a),.one (ids b)] [.one (.bool (decide (a=b)))]:=by
  show Qf Tryz.prog 10 [.one (.row (idl a)),.one (.row (idl b))] _
  have la:(idl a).length=a.length:=by simp
  have lb:(idl b).length=b.length:=by simp
  refine Jb Tryz.func10 rfl ?_
  by_cases hl:a.length=b.length
  · refine go tt [.f (by simp; omega)] rfl trivial ?_
    refine lp (S:=Nat) 0 (fun L1 i=>(5,.v (.one (.int .i64 (i:Int))))::L1) (fun _=>[]) (fun i=>a.length-i) (fun i=>i≤a.length∧a.take i=b.take i) 0 ⟨Nat.zero_le _,rfl⟩ rfl (fun _ _=>rfl) rfl fun i ⟨hi,he⟩=>?_
    by_cases hlt:i<a.length
    · obtain ⟨x,hx⟩:∃ p,a[i]? = some p:=⟨_,List.getElem?_eq_getElem hlt⟩
      obtain ⟨y,hy⟩:∃ p,b[i]? = some p:=⟨_,List.getElem?_eq_getElem (by omega)⟩
      by_cases e:x=y
      · refine go tt [.t (by simp; omega),.x (La hx),.x (La hy),.f (by simpa using e)] rfl (by simp [Qa]; omega) ?_
        exact rd (i+1) (by omega) ⟨hlt,by rw [List.take_succ,List.take_succ,hx,hy,he,e]⟩ rfl
      · have hne:a≠b:=fun h=>by rw [h,hy] at hx; injection hx with hx; exact e hx.symm
        exact en tt [.t (by simp; omega),.x (La hx),.x (La hy),.t (by simpa using e)] rfl (by simp [hne]) trivial
    · obtain rfl:i=a.length:=by omega
      have hab:a=b:=by rw [List.take_length] at he; rw [he,hl,List.take_length]
      exact en tt [.f (by simp)] rfl (by simp [hab]) trivial
  · have hne:a≠b:=fun h=>hl (by rw [h])
    exact en tt [.t (by simp; omega)] rfl (by simp [hne]) trivial
def Tj (v n:Int):Int:=if n<1 then 0 else v.emod n
theorem Qno {v n:Int} (h:0<n):(if v.tmod n<0 then v.tmod n+n else v.tmod n)=v % n:=by
  have h3:=Int.emod_nonneg v (show n≠0 by omega)
  have h4:=Int.emod_lt_of_pos v h
  have h1:=Int.tmod_eq_emod (a:=v) (b:=n)
  have hn:((n.natAbs:Nat):Int)=n:=by omega
  split at h1
  · rw [h1]; simp; omega
  · rename_i hc
    rw [h1,hn]
    have:v % n≠0:=fun e=>hc (.inr (Int.dvd_of_emod_eq_zero e))
    rw [if_pos (by omega)]; omega
theorem Hy {v n:Int} (hv:-9223372036854775808≤v∧v≤9223372036854775807) (hn:n≤1000000000):Qf Tryz.prog 6 [.one (.int .i64 v),.one (.int .i64 n)] [.one (.int .i64 (Tj v n))]:=by
  unfold Tj
  by_cases h:n<1
  · rw [if_pos h]
    exact w tt Tryz.func6 rfl [.t (by simpa using h)] rfl rfl trivial
  · rw [if_neg h]
    have e:=Qno (v:=v) (n:=n) (by omega)
    have h3:=Int.emod_nonneg v (show n≠0 by omega)
    have h4:=Int.emod_lt_of_pos v (show 0<n by omega)
    show Qf Tryz.prog 6 [.one (.int .i64 v),.one (.int .i64 n)] [.one (.int .i64 (v % n))]
    by_cases h0:v.tmod n<0
    · rw [if_pos h0] at e
      have b:-n≤v.tmod n:=by omega
      exact w tt Tryz.func6 rfl [.f (by simpa using h),.t (by simpa using h0)] rfl (by rw [e]) (by simp [Qa]; omega)
    · rw [if_neg h0] at e
      exact w tt Tryz.func6 rfl [.f (by simpa using h),.f (by simpa using h0)] rfl (by rw [e]) (by simp [Qa]; omega)
end Orr

namespace Orr
open Go Go.Proofs Orq
theorem If {x y:Int} (hx:-9223372036854775808≤x∧x≤9223372036854775807) (hy:-9223372036854775808≤y∧y≤9223372036854775807):Sc (U7 x y):=⟨Crv.nml _,((Qdo hx hy).norm (by decide)).mono (by decide) (by decide)⟩
theorem Sc.pt {p:Pt} (h:Sc p.c):Qge 4294967294 1073741824 p:=⟨h.n,h.c.mono (by decide) (by decide)⟩
end Orr

namespace Orr
open Go Go.Proofs
set_option maxRecDepth 10000
theorem Cs.up {s n s' n':Nat} {k:Crv} (h:Cs s n k) (hs:s≤s') (hn:n≤n'):Cs s' n' k:=⟨Qc h.x hs,Qc h.y hs,Nat.le_trans h.d hs,Nat.le_trans h.lx hn,Nat.le_trans h.ly hn⟩
end Orr

namespace Orr
open Go
def Tp:List Nat→Nat
  | []=>0
  | x::l=>x+10000*Tp l
def Dg (l:List Nat):Prop:=∀ x∈l,x<10000
def Tn (x:Nat):List Nat:=if h:x=0 then [] else (x % 10000)::Tn (x / 10000)
termination_by x
decreasing_by omega
theorem Yo:Tn 0=[]:=by unfold Tn; simp
theorem To {x:Nat} (h:x≠0):Tn x=(x % 10000)::Tn (x / 10000):=by rw [Tn]; simp [h]
theorem Qj8 (x:Nat):Tp (Tn x)=x:=by
  induction x using Nat.strongRecOn with
  |
   _ x ih =>
   rcases Nat.eq_zero_or_pos x with h | h
   · subst h; rw [Yo]; rfl
   · rw [To (by omega)]
     simp only [Tp]
     rw [ih _ (by omega)]; omega
theorem Qzl (x:Nat):Dg (Tn x):=by
  induction x using Nat.strongRecOn with
  |
   _ x ih =>
   rcases Nat.eq_zero_or_pos x with h | h
   · subst h; rw [Yo]; intro y hy; cases hy
   · rw [To (by omega)]
     intro y hy
     rcases List.mem_cons.1 hy with rfl | hy
     · omega
     · exact ih _ (by omega) y hy
theorem Qbb {x:Nat}:(Tn x).length=0↔x=0:=by
  constructor
  · intro h
    have h0:=List.eq_nil_of_length_eq_zero h
    have:=Qj8 x
    rw [h0] at this
    exact this.symm
  · rintro rfl; rw [Yo]; rfl
theorem Qvd {x:Nat} (h:x≠0):(Tn (x / 10000)).length+1=(Tn x).length:=by rw [To h]; rfl
theorem Qj0 (x:Nat):(Tn x).length≤sz x:=by
  induction x using Nat.strongRecOn with
  |
   _ x ih =>
   by_cases h0:x=0
   · subst h0; rw [Yo]; exact Nat.zero_le _
   · have h1:=Qvd h0
     have h2:=ih (x / 10000) (by omega)
     have h3:sz (x / 10000)+1≤sz x:=by
       have h4:x<2^sz x:=Ar x
       rcases hs:sz x with _ | k
       · rw [hs] at h4; simp at h4; omega
       · rw [hs] at h4
         have:sz (x / 10000)≤k:=Kc.2 (by rw [Nat.pow_succ] at h4; omega)
         omega
     omega
theorem Qg3 (a b:List Nat):Tp (a++b)=Tp a+10000^a.length*Tp b:=by
  induction a with
  | nil=>simp [Tp]
  |
   cons x a ih =>
   simp only [List.cons_append,Tp,ih,List.length_cons,Nat.pow_succ]
   rw [Nat.mul_add,←Nat.mul_assoc,Nat.mul_comm 10000 (10000^a.length)]; omega
theorem Qdx:∀ {l:List Nat},(∀ x∈l,x=0)→Tp l=0
  | [],_=>rfl
  |
   x::l,h=>by
   have h1:=h x (List.mem_cons_self ..)
   have h2:=Qdx (l:=l) fun y hy=>h y (List.mem_cons_of_mem _ hy)
   simp [Tp,h1,h2]
theorem Dg.take {l:List Nat} (h:Dg l) (k:Nat):Dg (l.take k):=fun x hx=>h x (List.mem_of_mem_take hx)
theorem Dg.snoc {l:List Nat} (h:Dg l) {x:Nat} (hx:x<10000):Dg (l++[x]):=by
  intro y hy
  rcases List.mem_append.1 hy with hy | hy
  · exact h y hy
  · rw [List.mem_singleton.1 hy]; exact hx
theorem Dg.nil:Dg []:=fun x h=>by cases h
theorem Qpu:∀ {l:List Nat},Dg l→(∀ x,l[l.length-1]? = some x→x≠0)→l=Tn (Tp l)
  | [],_,_=>by rw [Tp,Yo]
  |
   x::l,h,hl=>by
   have h1:=h x (List.mem_cons_self ..)
   have h2:l=Tn (Tp l):=Qpu (fun y hy=>h y (List.mem_cons_of_mem _ hy)) fun y hy=>hl y (by
     rcases l with _ | ⟨z,t⟩
     · simp at hy
     · simpa using hy)
   have h3:x+10000*Tp l≠0:=by
     intro e
     have hx:x=0:=by omega
     have hd:Tp l=0:=by omega
     rw [hd,Yo] at h2
     subst h2
     exact hl x rfl hx
   simp only [Tp]
   rw [To h3,show (x+10000*Tp l) % 10000=x by omega,show (x+10000*Tp l) / 10000=Tp l by omega,←h2]
theorem Qds {l:List Nat} {m:Nat} (hd:Dg l) (hm:m≤l.length) (h1:∀ j x,m≤j→l[j]? = some x→x=0) (h2:0<m→∃ y,l[m-1]? = some y∧y≠0):l.take m=Tn (Tp l):=by
  have e:Tp l=Tp (l.take m):=by
    conv=>lhs; rw [←List.take_append_drop m l,Qg3]
    rw [Qdx (l:=l.drop m) fun x hx=>?_]
    · omega
    · obtain ⟨j,hj⟩:=List.mem_iff_getElem?.1 hx
      rw [List.getElem?_drop] at hj
      exact h1 (m+j) x (by omega) hj
  rw [e]
  refine Qpu (hd.take m) fun x hx=>?_
  have hl:(l.take m).length=m:=by rw [List.length_take]; omega
  rw [hl] at hx
  rcases Nat.eq_zero_or_pos m with h0 | h0
  · subst h0; simp at hx
  · obtain ⟨y,hy,hy0⟩:=h2 h0
    rw [List.getElem?_take_of_lt (by omega),hy] at hx
    injection hx with hx; rw [←hx]; exact hy0
theorem Qp5 {l:List Nat} {j d:Nat} (h:l[j]? = some d):Tp (l.drop j)=d+10000*Tp (l.drop (j+1)):=by
  obtain ⟨hj,he⟩:=List.getElem?_eq_some_iff.1 h
  rw [List.drop_eq_getElem_cons hj,he]; rfl
theorem Qmu {l:List Nat} {j y:Nat} (h:j<l.length):(l.set j y).drop j=y::l.drop (j+1):=by
  rw [List.drop_eq_getElem_cons (by simpa using h)]
  simp only [List.getElem_set_self]
  rw [List.drop_set_of_lt (by omega)]
theorem Dg.set {l:List Nat} (h:Dg l) {j y:Nat} (hy:y<10000):Dg (l.set j y):=by
  intro x hx
  rcases List.mem_or_eq_of_mem_set hx with hx | rfl
  · exact h x hx
  · exact hy
theorem Dg.zeros (n:Nat):Dg (List.replicate n 0):=by
  intro x hx; rw [List.eq_of_mem_replicate hx]; decide
theorem Qp0 {V kd d:Nat} (hk:0<kd):(d+10000*V) / kd=(V % kd*10000+d) / kd+10000*(V / kd)∧(d+10000*V) % kd=(V % kd*10000+d) % kd∧(d<10000→(V % kd*10000+d) / kd<10000):=by
  have e:=Nat.div_add_mod V kd
  have e2:d+10000*V=(V % kd*10000+d)+kd*(10000*(V / kd)):=by
    conv=>lhs; rw [←e]
    grind
  refine ⟨?_,?_,fun hd=>?_⟩
  · rw [e2,Nat.add_mul_div_left _ _ hk]
  · rw [e2,Nat.add_mul_mod_self_left]
  · have:=Nat.mod_lt V hk
    exact (Nat.div_lt_iff_lt_mul hk).2 (by grind)
def dl (l:List Nat):LV:=.row (l.map fun (x:Nat)=>[.int .i64 (x:Int)])
theorem D4 (l:List Nat):(l.map fun (x:Nat)=>[LV.int .i64 (x:Int)]).length=l.length:=by simp
theorem Qbd {l:List Nat} {i x:Nat} (h:l[i]? = some x):(l.map fun (x:Nat)=>[LV.int .i64 (x:Int)])[i]? = some [.int .i64 (x:Int)]:=by rw [List.getElem?_map,h]; rfl
abbrev nd (x:Nat):LV:=dl (Tn x)
end Orr

namespace Orr
open Go Go.Proofs
set_option maxRecDepth 10000
abbrev dlm (l:List Nat):List (List LV):=l.map fun (x:Nat)=>[.int .i64 (x:Int)]
theorem Qzd {l:List Nat} (hd:Dg l):Qf Tryz.prog 98 [.one (.row (dlm l))] [.one (nd (Tp l))]:=by
  refine Jb Tryz.func98 rfl (ln 0 rfl rfl fun hl=>?_)
  rw [List.length_map] at hl
  refine go tt [] rfl trivial ?_
  refine lp (S:=Nat) 0 (fun L1 n=>(3,.v (.one (.int .i64 (n:Int))))::L1) (fun _=>[]) id (fun n=>n≤l.length∧∀ j x,n≤j→l[j]? = some x→x=0) (dlm l).length ⟨by simp,fun j x h1 h2=>by
    have:=(List.getElem?_eq_some_iff.1 h2).1; simp at h1; omega⟩ rfl (fun _ _=>rfl) rfl fun n ⟨h1,h2⟩=>?_
  cases n with
  | zero=>exact en tt [.g 8 false (by simp),.f rfl,.i 0] rfl (by have:=Qds hd h1 h2 (fun h=>by omega); unfold nd; rw [←this]; simp [dl]) (by simp [Qa])
  |
   succ n =>
   obtain ⟨x,hx⟩:∃ x,l[n]? = some x:=⟨_,List.getElem?_eq_getElem (by omega)⟩
   by_cases h0:x=0
   · refine go tt [.g 8 true (by simp),.r 11 (v:=.one (.int .i64 (n:Int))) (by simp),.x (Qbd hx),.t (by simp [h0]),.r 17 (v:=.one (.int .i64 (n:Int))) (by simp)] rfl (by simp [Qa]; omega) ?_
     exact rd n (by simp) ⟨by omega,fun j y h3 h4=>by
         rcases Nat.eq_or_lt_of_le h3 with rfl | h3
         · rw [hx] at h4; injection h4 with h4; rw [←h4,h0]
         · exact h2 j y h3 h4⟩ rfl
   · exact en tt [.g 8 true (by simp),.r 11 (v:=.one (.int .i64 (n:Int))) (by simp),.x (Qbd hx),.f (by simp [h0]),.i (n+1)] rfl (by have:=Qds hd h1 h2 (fun _=>⟨x,hx,h0⟩); unfold nd; rw [←this]; simp [dl,List.map_take]) (by simp [Qa] <;> omega)
theorem Qjq {x kd:Nat} (hxs:sz x≤100000000) (hk:0<kd∧kd≤65536):Qf Tryz.prog 97 [.one (nd x),.one (.int .i64 (kd:Int))] [.one (nd (x / kd)),.one (.int .i64 ((x % kd:Nat):Int))]:=by
  have hln:=Nat.le_trans (Qj0 x) hxs
  obtain ⟨l,hl⟩:∃ l,l=Tn x:=⟨_,rfl⟩
  have hx:Tp l=x:=by rw [hl,Qj8]
  have hd:Dg l:=by rw [hl]; exact Qzl x
  show Qf Tryz.prog 97 [.one (.row (dlm (Tn x))),.one (.int .i64 (kd:Int))] _
  rw [←hl] at hln ⊢
  rw [←hx]
  have hll:=D4 l
  refine Jb Tryz.func97 rfl ?_
  refine go tt [.i (dlm l).length,.i (dlm l).length] rfl (by simp [Qa]; omega) ?_
  rw [hll,show List.replicate l.length [LV.int .i64 0]=dlm (List.replicate l.length 0) from by simp [dlm]]
  refine lp (S:=Nat×List Nat×Nat) 1 (fun L1 s=>(8,.v (.one (.int .i64 ((s.1:Int)-1))))::(7,.v (.one (.int .i64 (s.2.2:Int))))::L1) (fun s=>[.row false 3 1 (dlm s.2.1)]) (fun s=>s.1) (fun s=>s.1≤l.length∧s.2.1.length=l.length∧Dg s.2.1∧Tp (s.2.1.drop s.1)=Tp (l.drop s.1) / kd∧s.2.2=Tp (l.drop s.1) % kd) (l.length,List.replicate l.length 0,0) ⟨Nat.le_refl _,by simp,Dg.zeros _,by simp [Tp],by simp [Tp]⟩ rfl (fun _ _=>rfl) rfl fun ⟨k,o,R⟩ ⟨j1,j2,j3,j4,hR⟩=>?_
  dsimp only at j1 j2 j3 j4 hR ⊢
  cases k with
  |
   zero =>
   have cc:=Qzd j3
   rw [List.drop_zero,List.drop_zero] at j4
   rw [j4] at cc
   exact en tt [.f (by simp),.c [] cc] rfl (by rw [hR,List.drop_zero]) trivial
  |
   succ k =>
   obtain ⟨d,hdk⟩:∃ d,l[k]? = some d:=⟨_,List.getElem?_eq_getElem (by omega)⟩
   have hd0:=hd d (List.mem_of_getElem? hdk)
   have hdd:=Qp5 hdk
   obtain ⟨s1,s2,s3⟩:=Qp0 (V:=Tp (l.drop (k+1))) (kd:=kd) (d:=d) hk.1
   rw [←hdd] at s1 s2
   have hr:=Nat.mod_lt (Tp (l.drop (k+1))) hk.1
   rw [←hR] at s1 s2 s3 hr
   have e:((k+1:Nat):Int)-1=(k:Int):=by omega
   have htd:((R:Int)*10000+(d:Int)).tdiv (kd:Int)=(((R*10000+d) / kd:Nat):Int):=rfl
   have hle:=Nat.div_le_self (R*10000+d) kd
   have htb:0≤((R:Int)*10000+(d:Int)).tdiv (kd:Int)∧((R:Int)*10000+(d:Int)).tdiv (kd:Int)≤655369999:=by
     rw [htd]; revert hle; generalize (R*10000+d) / kd=Q; intro hle; omega
   rw [e]
   refine go tt [.t (by simp),.x (Qbd hdk),.r 26 (eI (b:=((R*10000+d:Nat):Int)) (by omega)),.r 31 (eI (b:=(((R*10000+d) / kd:Nat):Int)) (by rfl)),.i k,.r 35 (eI (b:=(((R*10000+d) % kd:Nat):Int)) (by rfl))] rfl (by simp [Qa]; omega) ?_
   exact rd (k,o.set k ((R*10000+d) / kd),(R*10000+d) % kd) (by dsimp only; omega) ⟨by dsimp only; omega,by simp [j2],j3.set (s3 hd0),by dsimp only; rw [Qmu (by omega)]; simp only [Tp]; rw [j4,s1],by dsimp only; exact s2.symm⟩ (by simp [dlm,List.map_set]; rfl)
theorem Q02 (x k:Nat):sz (x / k)≤sz x:=Ym (Nat.div_le_self _ _)
theorem Qhi {x y:Nat} {o:List Nat} (h:Qw x=o++Qw y) (h0:y≠0):Qw x=(o++[y % 4294967296])++Qw (y / 4294967296):=by
  rw [h,W5 h0]; simp
theorem Qvw (o:List Nat) (z:Nat):lm (o++[z])=lm o++[[.int .u32 (z:Int)]]:=by simp [lm]
theorem Q12 {x:Nat} (hx:sz x≤100000000):Qf Tryz.prog 51 [.one (nd x)] [lr (Qw x)]:=by
  have hlx:=X1 hx
  refine Jb Tryz.func51 rfl ?_
  refine go tt [.o 3 143 1] rfl trivial ?_
  refine lp (S:=Nat×List Nat) 1 (fun L1 s=>(0,.v (.one (nd s.1)))::(3,.v (.one (.orow 0 1 none)))::L1) (fun s=>[.row false 143 1 (lm s.2)]) (fun s=>s.1) (fun s=>Qw x=s.2++Qw s.1∧s.1≤x) (x,[]) ⟨rfl,Nat.le_refl _⟩ rfl (fun _ _=>rfl) rfl fun ⟨y,o⟩ ⟨j1,j2⟩=>?_
  dsimp only at j1 j2 ⊢
  by_cases h0:y=0
  · subst h0
    rw [Ze,List.append_nil] at j1
    rw [j1]
    exact en tt [.f (by simp [Yo])] rfl rfl trivial
  · have hs:=Qhi j1 h0
    have hsy:sz y≤100000000:=Nat.le_trans (Ym j2) hx
    have c1:=Qjq (x:=y) (kd:=65536) hsy (by decide)
    have c2:=Qjq (x:=y / 65536) (kd:=65536) (Nat.le_trans (Q02 _ _) hsy) (by decide)
    have hl:(Tn y).length≠0:=fun h=>h0 (Qbb.1 h)
    have ol:o.length≤(Qw x).length:=by rw [j1]; simp
    have e:y / 65536 % 65536*65536+y % 65536=y % 4294967296:=by omega
    have e2:y / 65536 / 65536=y / 4294967296:=by omega
    refine go tt [.t (by simp; omega),.c [] c1,.c [] c2,.r 26 (Ui (b:=((y % 4294967296:Nat):Int)) (by omega)),.s (sz:=1) (l:=[[.int .u32 ((y % 4294967296:Nat):Int)]]) (fun c hc=>by rw [List.mem_singleton.1 hc]; rfl)] rfl (by simp [Qa,Qd]; omega) ?_
    rw [←e2] at hs
    exact rd (y / 65536 / 65536,o++[y % 4294967296]) (by dsimp only; omega) ⟨hs,by dsimp only; omega⟩ (by rw [Qvw]; rfl)
abbrev ri (z:Int):List LV:=[nd z.natAbs,sg z]
theorem Q2v (b:Bool) (m:Nat):[nd m,LV.bool (b && decide (0<m))]=ri (Qr b m):=by
  simp only [ri,sg,Xd,Ay]
theorem Q0d (x:Nat):(0<(Tn x).length)↔0<x:=by
  have:=Qbb (x:=x); omega
theorem Quu (b:Bool) (m:Nat):Qf Tryz.prog 52 [.one (nd m),.one (.bool b)] [.agg (ri (Qr b m))]:=by
  rw [←Q2v]
  have e:=Q0d m
  cases b with
  | false=>exact w tt Tryz.func52 rfl [.g 7 false rfl] rfl rfl trivial
  | true=>exact w tt Tryz.func52 rfl [.g 7 true rfl] rfl (by simp [e]) trivial
theorem Qus {z:Int}:Qf Tryz.prog 83 [.agg (ri z)] [.one (.bool (decide (z=0)))] :=
  w tt Tryz.func83 rfl [] rfl (by have h:=Qbb (x:=z.natAbs); simp only [D4]; congr 3; rw [decide_eq_decide]; omega) trivial
theorem Q11 {z:Int} (hz:Qt z≤100000000):Qf Tryz.prog 26 [.agg (ri z)] [.agg (Z1 z)] :=
  w tt Tryz.func26 rfl [.c [] (Q12 hz)] rfl rfl trivial
theorem eBo {a b:Bool} (h:a=b):TV.one (LV.bool a)=.one (.bool b):=h ▸ rfl
theorem Qj5 (l:List Nat) (x:Nat):dlm (l++[x])=dlm l++[[.int .i64 (x:Int)]]:=by simp [dlm]
theorem Qdr {x y:Nat} {o:List Nat} (h:Tn x=o++Tn y) (h0:y≠0):Tn x=(o++[y % 10000])++Tn (y / 10000):=by
  rw [h,To h0]; simp
theorem Qzc {b:Bool} {x:Nat} (hx:x≤4000000000000000000) (hb:b=true→0<x):Qf Tryz.prog 29 [.one (.int .i64 (Qr b x))] [.agg (ri (Qr b x))]:=by
  have hl:(Tn x).length≤100:=by
    have:=Qj0 x
    have h2:sz x≤64:=Kc.2 (by omega)
    omega
  have hm:=Quu b x
  refine Jb Tryz.func29 rfl ?_
  cases b with
  |
   false =>
   show AK Tryz.prog _ _ _ (Sp 0 [.one (.int .i64 (x:Int))]) []
   refine go tt [.f (by simp <;> omega),.r 3 (eBo (b:=false) (by simp)),.f rfl,.o 4 3 1] rfl trivial ?_
   refine lp (S:=Nat×List Nat) 2 (fun L1 s=>(0,.v (.one (.int .i64 (s.1:Int))))::(4,.v (.one (.orow 1 1 none)))::L1) (fun s=>[.blk 50 [.nils,.bool false],.row false 3 1 (dlm s.2)]) (fun s=>s.1) (fun s=>Tn x=s.2++Tn s.1∧s.1≤x) (x,[]) ⟨rfl,Nat.le_refl _⟩ rfl (fun _ _=>rfl) rfl fun ⟨y,o⟩ ⟨j1,j2⟩=>?_
   dsimp only at j1 j2 ⊢
   by_cases h0:y=0
   · subst h0
     rw [Yo,List.append_nil] at j1
     rw [←j1]
     exact en tt [.f (by simp),.c [] hm] rfl rfl trivial
   · have hs:=Qdr j1 h0
     have ol:o.length≤(Tn x).length:=by rw [j1]; simp
     refine go tt [.t (by simp; omega),.r 18 (eI (b:=((y % 10000:Nat):Int)) (by rfl)),.s (sz:=1) (l:=[[.int .i64 ((y % 10000:Nat):Int)]]) (fun c hc=>by rw [List.mem_singleton.1 hc]; rfl),.r 22 (eI (b:=((y / 10000:Nat):Int)) (by rfl))] rfl (by simp [Qa,D4]; omega) ?_
     exact rd (y / 10000,o++[y % 10000]) (by dsimp only; omega) ⟨hs,by dsimp only; omega⟩ (by rw [Qj5]; rfl)
  |
   true =>
   show AK Tryz.prog _ _ _ (Sp 0 [.one (.int .i64 (-(x:Int)))]) []
   refine go tt [.f (by simp <;> omega),.r 3 (eBo (b:=true) (by simpa using hb rfl)),.t rfl,.r 0 (eI (b:=(x:Int)) (by omega)),.o 4 3 1] rfl (by simp [Qa]; omega) ?_
   refine lp (S:=Nat×List Nat) 2 (fun L1 s=>(0,.v (.one (.int .i64 (s.1:Int))))::(4,.v (.one (.orow 1 1 none)))::L1) (fun s=>[.blk 50 [.nils,.bool false],.row false 3 1 (dlm s.2)]) (fun s=>s.1) (fun s=>Tn x=s.2++Tn s.1∧s.1≤x) (x,[]) ⟨rfl,Nat.le_refl _⟩ rfl (fun _ _=>rfl) rfl fun ⟨y,o⟩ ⟨j1,j2⟩=>?_
   dsimp only at j1 j2 ⊢
   by_cases h0:y=0
   · subst h0
     rw [Yo,List.append_nil] at j1
     rw [←j1]
     exact en tt [.f (by simp),.c [] hm] rfl rfl trivial
   · have hs:=Qdr j1 h0
     have ol:o.length≤(Tn x).length:=by rw [j1]; simp
     refine go tt [.t (by simp; omega),.r 18 (eI (b:=((y % 10000:Nat):Int)) (by rfl)),.s (sz:=1) (l:=[[.int .i64 ((y % 10000:Nat):Int)]]) (fun c hc=>by rw [List.mem_singleton.1 hc]; rfl),.r 22 (eI (b:=((y / 10000:Nat):Int)) (by rfl))] rfl (by simp [Qa,D4]; omega) ?_
     exact rd (y / 10000,o++[y % 10000]) (by dsimp only; omega) ⟨hs,by dsimp only; omega⟩ (by rw [Qj5]; rfl)
theorem Qxu {n:Int} (hn:-4000000000000000000≤n∧n≤4000000000000000000):Qf Tryz.prog 29 [.one (.int .i64 n)] [.agg (ri n)]:=by
  have e:Qr (decide (n<0)) n.natAbs=n:=by unfold Qr; by_cases h:n<0 <;> simp [h] <;> omega
  have h:=Qzc (b:=decide (n<0)) (x:=n.natAbs) (by omega) (fun h=>by have:=of_decide_eq_true h; omega)
  rwa [e] at h
end Orr

namespace Orr
open Go Go.Proofs
set_option maxRecDepth 10000
abbrev fr (q:Rat):List LV:=ri q.num++ri (q.den:Int)
theorem Qj1:Tn 1=[1]:=by rw [To (by decide)]; rw [Yo]
theorem Qo5 {n:Int}:Qf Tryz.prog 43 [.agg (ri n),.agg (ri 1)] [.agg (fr (n:Rat))]:=by
  have h0:(dlm (Tn (1:Int).natAbs))[0]? = some [LV.int .i64 1]:=by rw [show (1:Int).natAbs=1 from rfl,Qj1]; rfl
  have h1:decide (((dlm (Tn (1:Int).natAbs)).length:Int)=1)=true:=by rw [show (1:Int).natAbs=1 from rfl,Qj1]; rfl
  exact w tt Tryz.func43 rfl [.c [] (Qus (z:=1)),.f rfl,.f rfl,.g 19 true h1,.x h0,.t rfl] rfl rfl trivial
theorem Qza {n:Int} (hn:-4000000000000000000≤n∧n≤4000000000000000000):Qf Tryz.prog 15 [.one (.int .i64 n),.one (.int .i64 1)] [.agg (fr (n:Rat))] :=
  w tt Tryz.func15 rfl [.c [] (Qxu hn),.c [] (Qxu (n:=1) (by decide)),.c [] Qo5] rfl rfl trivial
theorem Q13 {q:Rat} (hq:Qs 100000000 q):Qf Tryz.prog 14 [.agg (fr q)] [.agg (rl q)] :=
  w tt Tryz.func14 rfl [.c [] (Q11 hq.1),.c [] (Q11 hq.2)] rfl rfl trivial
end Orr

namespace Orr
open Go Go.Proofs Orq
set_option maxRecDepth 10000
end Orr

namespace Orr
open Go Go.Proofs Orq
set_option maxRecDepth 10000
abbrev wkH:List Pt:=[⟨U7 1 0,1⟩,⟨U7 0 1,2⟩,⟨U7 0 0,3⟩]
theorem Qxb:(Zt wkH (tq 0)).map (·.id)=[3,1,2]:=by decide +kernel
theorem Q1d:(Zt wkH (tq 0)).any (fun p=>decide (p.id=2))=true:=by decide +kernel
theorem Q1e:(Zt wkH (tq 0)).any (fun p=>decide (p.id=9))=false:=by decide +kernel
theorem Qtq:∀ p∈wkH,Sc p.c:=fun p hp=>by
  rcases List.mem_cons.1 hp with rfl | hp
  · exact If (by decide) (by decide)
  rcases List.mem_cons.1 hp with rfl | hp
  · exact If (by decide) (by decide)
  · rw [List.mem_singleton.1 hp]; exact If (by decide) (by decide)
theorem Ft:Qf Tryz.prog 17 [] [.one (.bool true)]:=by
  have hq:Qs 400000 (Vw 0 0):=⟨by decide,by decide⟩
  have ez:Vw 0 0=0:=by decide
  have zp:IsPts 4294967294 1073741824 (Qk [⟨U7 0 0,3⟩,⟨U7 0 1,2⟩,⟨U7 1 0,1⟩]) [⟨U7 0 0,3⟩,⟨U7 0 1,2⟩,⟨U7 1 0,1⟩]:=Qbq fun p hp=>(Qtq p (by simp at hp ⊢; rcases hp with h | h | h <;> simp [h])).pt
  have hnl:Vo [] [⟨U7 0 0,3⟩,⟨U7 0 1,2⟩,⟨U7 1 0,1⟩]=(wkH,0):=rfl
  have cn:=Qjd zp (by decide) hnl Qtq (by decide) J7 J7 (by decide) (by decide) hq
  rw [ez] at cn
  have hl:(Zt wkH (tq 0)).length≤1000000:=Nat.le_trans (Fq _ _) (by decide)
  have ci:=Qoh (c:=Qgn wkH (tq 0)) (l:=wkH) hl
  have o2:=Qjc (c:=Qgn wkH (tq 0)) (l:=wkH) (id:=2) hl
  have o9:=Qjc (c:=Qgn wkH (tq 0)) (l:=wkH) (id:=9) hl
  rw [Qxb] at ci
  rw [Q1d] at o2
  rw [Q1e] at o9
  have cs:=Qov (a:=[3,1,2]) (b:=[3,1,2]) (by decide) (by decide)
  refine Jb Tryz.func17 rfl ?_
  exact en tt [.c [] (Qa0 (x:=0) (y:=0) (by decide) (by decide)),.c [] (Qa0 (x:=0) (y:=1) (by decide) (by decide)),.c [] (Qa0 (x:=1) (y:=0) (by decide) (by decide)),.c [0] cn,.g 17 true rfl,.g 21 true rfl,.c [0] ci,.c [] cs,.g 27 true rfl,.c [0] o2,.g 31 true rfl,.c [0] o9] rfl rfl trivial
theorem Qn3 (l:List Pt):(Ip l).length=l.length*(l.length*l.length):=by
  have h:∀ {α:Type} (f:Pt→List α) (k:Nat) (m:List Pt),(∀ x,(f x).length=k)→(m.flatMap f).length=m.length*k:=fun f k m hf=>by
    induction m with
    | nil=>simp
    | cons y m ih=>rw [List.flatMap_cons,List.length_append,ih,hf,List.length_cons,Nat.add_mul,Nat.one_mul,Nat.add_comm]
  unfold Ip
  exact h _ _ _ fun a=>h _ _ _ fun b=>List.length_map _
theorem Qn2 {l:List Pt} (h:l.length≤10):(Np l++Ip l).length≤1000000:=by
  rw [List.length_append,Qn4,Qn3]
  have h1:l.length*(l.length*2)≤10*(10*2):=Nat.mul_le_mul h (Nat.mul_le_mul h (Nat.le_refl 2))
  have h2:l.length*(l.length*l.length)≤10*(10*10):=Nat.mul_le_mul h (Nat.mul_le_mul h h)
  omega
end Orr

namespace Orr
open Go Go.Proofs Orq
set_option maxRecDepth 10000
theorem Qa6 {T place speed:Int} (hT:0≤T∧T<20):Qf Tryz.prog 16 [.one (.int .i64 place),.one (.int .i64 speed),.one (.sh [.int .i64 T])] [.one (.bool (outB T place speed))]:=by
  by_cases h1:5+T<place
  · have e:outB T place speed=true:=by unfold outB; rw [decide_eq_true h1]; rfl
    rw [e]
    refine w tt Tryz.func16 rfl [.g 10 true (decide_eq_true h1)] rfl rfl ?_
    simp only [Qa]; omega
  by_cases h2:place=5+T
  · have e:outB T place speed=decide (1<speed):=by unfold outB; rw [decide_eq_false h1,decide_eq_true h2,Bool.false_or,Bool.true_and]
    rw [e]
    refine w tt Tryz.func16 rfl [.g 10 false (decide_eq_false h1),.g 15 true (decide_eq_true h2)] rfl rfl ?_
    simp only [Qa]; omega
  · have e:outB T place speed=false:=by unfold outB; rw [decide_eq_false h1,decide_eq_false h2]; rfl
    rw [e]
    refine w tt Tryz.func16 rfl [.g 10 false (decide_eq_false h1),.g 15 false (decide_eq_false h2)] rfl rfl ?_
    simp only [Qa]; omega
theorem Qvl (x u y v i:Int):Crv.norm (Crv.mk (Qp [x,u]) (Qp [y,v]) 0)=(Uu x u y v i).c:=Crv.norm_of (k:=(Uu x u y v i).c) (Qk9 (Z2 _) (Z2 _))
theorem Qdh {x u y v i:Int} (h:x.natAbs≤100∧u.natAbs≤100∧y.natAbs≤100∧v.natAbs≤100):Qf Tryz.prog 7 [pr (Qp [x,u]),pr (Qp [y,v])] [.agg (cl (Uu x u y v i).c)]:=by
  have hc:=(Bp (i:=i) h).c
  have hcs:Cs 90 3 (Crv.mk (Qp [x,u]) (Qp [y,v]) 0):=⟨hc.x,hc.y,by show Qt 0≤90; decide,hc.lx,hc.ly⟩
  have co:=Qxt (Zu (Qp [x,u])) (Zu (Qp [y,v])) (hcs.mono (by decide) (by decide))
  rw [Qvl x u y v i] at co
  exact co
theorem Quw {x u:Int} (h:x.natAbs≤100∧u.natAbs≤100):Qf Tryz.prog 8 [.one (ids [x,u])] [pr (Qp [x,u])]:=Qdf (p:=[x,u]) (by simp) (fun z hz=>by simp only [List.mem_cons,List.not_mem_nil,or_false] at hz; omega)
theorem Qrl {u t:Int} (hu:-3≤u∧u≤3) (ht:0≤t∧t<20):-60≤u*t∧u*t≤60:=by
  have h1:u*t≤3*t:=Int.mul_le_mul_of_nonneg_right hu.2 ht.1
  have h2:-3*t≤u*t:=Int.mul_le_mul_of_nonneg_right hu.1 ht.1
  omega
set_option maxHeartbeats 4000000 in
theorem Ir {x y u v t:Int} (hx:-9223372036854775808≤x∧x≤9223372036854775807) (hy:-9223372036854775808≤y∧y≤9223372036854775807) (hu:-9223372036854775808≤u∧u≤9223372036854775807) (hv:-9223372036854775808≤v∧v≤9223372036854775807) (ht:-9223372036854775808≤t∧t≤9223372036854775807):Qf Tryz.prog 3 [.one (.int .i64 x),.one (.int .i64 y),.one (.int .i64 u),.one (.int .i64 v),.one (.int .i64 t)] [.one (.bool true)]:=by
  have cx:=Hy (v:=x) (n:=9) hx (by decide)
  have cy:=Hy (v:=y) (n:=9) hy (by decide)
  have cu:=Hy (v:=u) (n:=7) hu (by decide)
  have cv:=Hy (v:=v) (n:=7) hv (by decide)
  have ct:=Hy (v:=t) (n:=20) ht (by decide)
  have bx:0≤Tj x 9∧Tj x 9<9:=by show 0≤x % 9∧x % 9<9; omega
  have by_:0≤Tj y 9∧Tj y 9<9:=by show 0≤y % 9∧y % 9<9; omega
  have bu:0≤Tj u 7∧Tj u 7<7:=by show 0≤u % 7∧u % 7<7; omega
  have bv:0≤Tj v 7∧Tj v 7<7:=by show 0≤v % 7∧v % 7<7; omega
  have bt:0≤Tj t 20∧Tj t 20<20:=by show 0≤t % 20∧t % 20<20; omega
  generalize Tj x 9=x0 at *
  generalize Tj y 9=y0 at *
  generalize Tj u 7=u0 at *
  generalize Tj v 7=v0 at *
  generalize Tj t 20=T at *
  obtain ⟨X,hX⟩:∃ X,x0-4=X:=⟨_,rfl⟩
  obtain ⟨Y,hY⟩:∃ Y,y0-4=Y:=⟨_,rfl⟩
  obtain ⟨U,hU⟩:∃ U,u0-3=U:=⟨_,rfl⟩
  obtain ⟨V,hV⟩:∃ V,v0-3=V:=⟨_,rfl⟩
  have hb4:X.natAbs≤4∧U.natAbs≤3∧Y.natAbs≤4∧V.natAbs≤3:=by omega
  have hb:X.natAbs≤100∧U.natAbs≤100∧Y.natAbs≤100∧V.natAbs≤100:=by omega
  have mU:=Qrl (u:=U) (t:=T) (by omega) bt
  have mV:=Qrl (u:=V) (t:=T) (by omega) bt
  obtain ⟨A,hA⟩:∃ A,X+U*T=A:=⟨_,rfl⟩
  obtain ⟨B,hB⟩:∃ B,Y+V*T=B:=⟨_,rfl⟩
  have hsc:=Qx9 (x:=X) (u:=U) (y:=Y) (v:=V) hb
  have hln:(gl X U Y V).length≤10:=by show 5≤10; decide
  have hd:Q4f (gl X U Y V):=Qx8 X U Y V
  have hq0:Qs 400000 (Vw 0 0):=⟨by decide,by decide⟩
  have hnl:Vo [] (gl X U Y V)=(gl X U Y V,0):=by
    have:=Qes (gl X U Y V) [] (by rw [List.nil_append]; exact Qqx X U Y V) (by rw [List.nil_append]; show 5≤_; decide)
    rw [List.nil_append] at this; exact this
  have zp:=Qbq (s:=4294967294) (n:=1073741824) fun p hp=>(hsc p hp).pt
  have cn:=Qjd zp (by show 5≤6; decide) hnl hsc hln J7 J7 (by decide) (by decide) hq0
  have r0:Vw 0 0=((0:Int):Rat):=by decide
  rw [r0] at cn hq0
  have hv0:Va (tq ((0:Int):Rat)):=Qw8 hq0
  have hT:Qs 400000 (T:Rat):=⟨Nat.le_trans (Y3.2 (show T.natAbs<2^60 by omega)) (by decide),by show Qt 1≤400000; decide⟩
  have g0:=Qq0 hb4 hq0
  have gT:=Qvm hb4 bt.1 hT
  rw [hA,hB] at gT
  have S:=Q20 hsc hln hd
  have hst:KSt (bcH (gl X U Y V)) (brH (gl X U Y V)) (Qgn (gl X U Y V) (tq ((0:Int):Rat))) (brH (gl X U Y V) (tq ((0:Int):Rat))):=Qy1 S hv0
  have hcmp:Qu (Qgn (gl X U Y V) (tq ((0:Int):Rat))).now (T:Rat)≤0:=by
    show Qu (tq ((0:Int):Rat)) (T:Rat)≤0
    rw [Ql5]
    exact D3.2 (Rat.intCast_le_intCast.2 bt.1)
  obtain ⟨K,c',E,hK,hg,hnow,hS',hev,hEl,hE⟩:=Qyu S (Du hsc) (fun a _=>Qas) (Qn2 hln) hT hst hcmp
  have cadv:=Qy5 (l:=gl X U Y V) (K:=K) hT hsc hln hst.inv.ok ⟨Int.le_refl 0,by show (0:Int)+K≤1000000000000000000; omega⟩ hcmp hg
  have b0:brH (gl X U Y V) (tq ((0:Int):Rat))=Qk Bm:=by show Qk (Zt _ _)=_; rw [g0]
  obtain ⟨C,hC⟩:∃ C,C=Zt (gl X U Y V) (tq (T:Rat)):=⟨_,rfl⟩
  have bT:brH (gl X U Y V) (tq (T:Rat))=Qk C:=by show Qk (Zt _ _)=_; rw [hC]
  have hCl:C.length≤1000000:=by
    have:=Fq (gl X U Y V) (tq (T:Rat))
    rw [hC]; omega
  rw [b0] at cn cadv
  rw [bT] at cadv
  rw [←hC] at gT
  obtain ⟨c0,hc0⟩:∃ c0,c0=Qgn (gl X U Y V) (tq ((0:Int):Rat)):=⟨_,rfl⟩
  rw [←hc0] at cn cadv
  have cids:Xt Tryz.prog 11 [.one (.ow 0 0)] [.blk 71 (Gq c0 (Qk (gl X U Y V)) (Qk Bm))] [.one (ids [0,1,2,3])] [.blk 71 (Gq c0 (Qk (gl X U Y V)) (Qk Bm))]:=Qoh (s:=Bm) (by decide)
  have con:Xt Tryz.prog 12 [.one (.ow 0 0),.one (.int .i64 4)] [.blk 71 (Gq c0 (Qk (gl X U Y V)) (Qk Bm))] [.one (.bool false)] [.blk 71 (Gq c0 (Qk (gl X U Y V)) (Qk Bm))]:=Qjc (s:=Bm) (id:=4) (by decide)
  have con2:=Qjc (c:=c') (l:=gl X U Y V) (s:=C) (id:=4) hCl
  have cs:=Qov (a:=[0,1,2,3]) (b:=[0,1,2,3]) (by decide) (by decide)
  rw [decide_eq_true rfl] at cs
  rw [gT] at con2
  have p1:=Quw (x:=-5) (u:=-1) (by decide)
  have p2:=Quw (x:=5) (u:=1) (by decide)
  have p3:=Quw (x:=X) (u:=U) (by omega)
  have p4:=Quw (x:=Y) (u:=V) (by omega)
  have k0:=Qdh (x:=-5) (u:=-1) (y:=-5) (v:=-1) (i:=0) (by decide)
  have k1:=Qdh (x:=5) (u:=1) (y:=-5) (v:=-1) (i:=1) (by decide)
  have k2:=Qdh (x:=5) (u:=1) (y:=5) (v:=1) (i:=2) (by decide)
  have k3:=Qdh (x:=-5) (u:=-1) (y:=5) (v:=1) (i:=3) (by decide)
  have k4:=Qdh (x:=X) (u:=U) (y:=Y) (v:=V) (i:=4) hb
  have o1:=Qa6 (T:=T) (place:=A) (speed:=U) bt
  have o2:=Qa6 (T:=T) (place:=-A) (speed:=-U) bt
  have o3:=Qa6 (T:=T) (place:=B) (speed:=V) bt
  have o4:=Qa6 (T:=T) (place:=-B) (speed:=-V) bt
  have hbl:Qk (gl X U Y V)=[Zq (Uu (-5) (-1) (-5) (-1) 0),Zq (Uu 5 1 (-5) (-1) 1),Zq (Uu 5 1 5 1 2),Zq (Uu (-5) (-1) 5 1 3),Zq (Uu X U Y V 4)]:=rfl
  rw [hbl] at cn cadv cids con con2
  refine Jb Tryz.func3 rfl ?_
  refine go tt [.c [] cx,.r 22 (eI (b:=X) hX),.c [] cy,.r 25 (eI (b:=Y) hY),.c [] cu,.r 28 (eI (b:=U) hU),.c [] cv,.r 31 (eI (b:=V) hV),.c [] ct,.c [] p1,.c [] p1,.c [] k0,.c [] p2,.c [] p1,.c [] k1,.c [] p2,.c [] p2,.c [] k2,.c [] p1,.c [] p2,.c [] k3,.c [] p3,.c [] p4,.c [] k4,.c [1] cn,.g 77 false rfl,.g 81 false rfl,.c [1] cids,.c [] cs,.g 88 false rfl,.c [1] con,.f rfl,.c [] (Qza (n:=T) (by omega)),.c [] (Q13 (hT.mono (by decide))),.c [1] cadv,.f rfl,.r 107 (eI (b:=A) hA),.r 112 (eI (b:=B) hB)] rfl ?_ ?_
  · simp only [Qa]; omega
  cases e1:outB T A U with
  |
   true =>
   rw [e1] at o1 con2
   refine en tt [.c [] o1,.g 117 true rfl,.g 125 true rfl,.g 131 true rfl,.c [1] con2,.g 143 true rfl,.c [] Ft] rfl rfl ?_
   first | trivial | (simp only [Qa]; omega)
  |
   false =>
   rw [e1,Bool.false_or] at con2
   rw [e1] at o1
   cases e2:outB T (-A) (-U) with
   |
    true =>
    rw [e2] at o2 con2
    refine en tt [.c [] o1,.g 117 false rfl,.c [] o2,.g 125 true rfl,.g 131 true rfl,.c [1] con2,.g 143 true rfl,.c [] Ft] rfl rfl ?_
    first | trivial | (simp only [Qa]; omega)
   |
    false =>
    rw [e2,Bool.false_or] at con2
    rw [e2] at o2
    cases e3:outB T B V with
    |
     true =>
     rw [e3] at o3 con2
     refine en tt [.c [] o1,.g 117 false rfl,.c [] o2,.g 125 false rfl,.c [] o3,.g 131 true rfl,.c [1] con2,.g 143 true rfl,.c [] Ft] rfl rfl ?_
     first | trivial | (simp only [Qa]; omega)
    |
     false =>
     rw [e3,Bool.false_or] at con2
     rw [e3] at o3
     cases e4:outB T (-B) (-V) with
     |
      true =>
      rw [e4] at o4 con2
      refine en tt [.c [] o1,.g 117 false rfl,.c [] o2,.g 125 false rfl,.c [] o3,.g 131 false rfl,.c [] o4,.c [1] con2,.g 143 true rfl,.c [] Ft] rfl rfl ?_
      first | trivial | (simp only [Qa]; omega)
     |
      false =>
      rw [e4] at o4 con2
      refine en tt [.c [] o1,.g 117 false rfl,.c [] o2,.g 125 false rfl,.c [] o3,.g 131 false rfl,.c [] o4,.c [1] con2,.g 143 true rfl,.c [] Ft] rfl rfl ?_
      first | trivial | (simp only [Qa]; omega)
end Orr

namespace Orr
open Go Go.Proofs
variable {H:Type} {enc:TypeId×Value→H} {w:World} {base:Nat} {spare:Nat→Bool} {held:Bool}
end Orr

namespace Orr
open Go Go.Proofs Go.ChangeShapes Go.WideShapes Go.ChangeAt Go.RowKit Go.WideElems
def fr0 (w:World):Fr:=⟨fun b=>b<w.heap.size,fun _=>False,w,fun _=>False,fun _=>none⟩
theorem Io (w:World):HS (fr0 w) (ob []) (nw []) (fun _=>none) (fun _=>False) w where
  size:=Nat.le_refl _
  kept:=fun b hb=>⟨hb,rfl,Iff.rfl⟩
  ids:=fun i h=>h.elim
  nj:=fun i h=>by rw [Qb0] at h; cases h
  io:=⟨rfl,rfl⟩
  blk:=fun i=>by rw [Qb0]; trivial
  nk:=fun i g c m h _=>by rw [Qb0] at h; cases h
  inj:=fun i j g c m c' m' h _ _ _=>by rw [Qb0] at h; cases h
  mlt:=fun b h=>h.elim
  m0:=fun b _ h=>h.elim
  un:=fun i _=>⟨rfl,rfl⟩
  uj:=fun i _ h=>h.elim
theorem Qvt {w w':World} {bl:Nat→OB} {U:Nat→Prop} {E:Vh} {M:Nat→Prop} (h:HS (fr0 w) bl U E M w') (may:MemPlace→Prop):w.keptBut w' may:=by
  refine ⟨h.io.1,h.io.2,fun i hi=>?_⟩
  have e:w'.heap[i]? = w.heap[i]? := (h.kept i hi).2.1
  rw [e]
  cases w.heap[i]? with
  | none=>rfl
  | some o=>cases o <;> simp
end Orr

namespace Orr
open Go Go.Proofs Go.ChangeShapes Go.WideShapes Go.ChangeAt Go.RowKit Go.WideElems
set_option maxRecDepth 20000 in
theorem Qrb {f:FuncId} {fn:Func} {s:ChangeSpec} (hp:fn.params = #[3,3,3,3,3]) (hr:fn.resultTypes = #[4]) (hv:s.vars=[])
    (hs:∀ (H:Type) (d1 d2 d3 d4 d5:DataW H),s.fn H [d1,d2,d3,d4,d5]={ results:=[.lit (.bool true)],args:=[d1,d2,d3,d4,d5] })
    (law:∀ (a b c d e:Int),(-2^63≤a∧a≤2^63-1)→(-2^63≤b∧b≤2^63-1)→(-2^63≤c∧c≤2^63-1)→(-2^63≤d∧d≤2^63-1)→(-2^63≤e∧e≤2^63-1)→Qf Tryz.prog f [.one (.int .i64 a),.one (.int .i64 b),.one (.int .i64 c),.one (.int .i64 d),.one (.int .i64 e)] [.one (.bool true)])
    {H:Type} {enc:TypeId×Value→H} {W:World} {base:Nat} {args:Array Value} {ds gs:List (DataW H)} {Xu:List MemPlace} {fresh handsOn:Bool}
    (hval:∀ (j:Nat) t v,fn.params[j]? = some t→args[j]? = some v→Value.okWide Tryz.prog W .any base t v)
    (hW:DataW.Whole enc Tryz.prog fn.params.toList s.vars false W args.toList ds gs Xu) :
    Calls Tryz.prog f args W fun e W'=>∃ v,e=.returned v∧s.post enc Tryz.prog fn false fresh handsOn false W args v W':=by
  have hW':=hW
  obtain ⟨p,q,hA0,hV,rfl,hfz,hnd⟩:=hW
  have hA:DataW.TrodAll enc Tryz.prog W 0 (fun _=>true) true fn.params.toList args.toList ds p:=hA0
  rw [hv] at hV
  obtain ⟨rfl,rfl⟩:=trodVars_none hV
  rw [hp] at hA hval
  obtain ⟨v0,vs0,d0,ds0,p0,q0,hargs0,rfl,rfl,h0,r0⟩:=trodAll_cons hA
  obtain ⟨v1,vs1,d1,ds1,p1,q1,rfl,rfl,rfl,h1,r1⟩:=trodAll_cons r0
  obtain ⟨v2,vs2,d2,ds2,p2,q2,rfl,rfl,rfl,h2,r2⟩:=trodAll_cons r1
  obtain ⟨v3,vs3,d3,ds3,p3,q3,rfl,rfl,rfl,h3,r3⟩:=trodAll_cons r2
  obtain ⟨v4,vs4,d4,ds4,p4,q4,rfl,rfl,rfl,h4,r4⟩:=trodAll_cons r3
  obtain ⟨rfl,rfl,rfl⟩:=trodAll_nil r4
  obtain rfl:args = #[v0,v1,v2,v3,v4]:=by cases args; simp_all
  obtain ⟨a,rfl,rfl,rfl,wa⟩:=open_int Tryz.underlying3 (hval 0 3 v0 rfl rfl) h0
  obtain ⟨b,rfl,rfl,rfl,wb⟩:=open_int Tryz.underlying3 (hval 1 3 v1 rfl rfl) h1
  obtain ⟨c,rfl,rfl,rfl,wc⟩:=open_int Tryz.underlying3 (hval 2 3 v2 rfl rfl) h2
  obtain ⟨d,rfl,rfl,rfl,wd⟩:=open_int Tryz.underlying3 (hval 3 3 v3 rfl rfl) h3
  obtain ⟨e,rfl,rfl,rfl,we⟩:=open_int Tryz.underlying3 (hval 4 3 v4 rfl rfl) h4
  have key:∀ {n:Int},(Lit.int IntKind.i64 n).wf=true→-2^63≤n∧n≤2^63-1:=fun h=>by simpa [Lit.wf,IntKind.min,IntKind.max,IntKind.signed,IntKind.bits] using h
  have xi:∀ n:Int,XRep W (fun _=>False) (fun _=>none) (.int .i64 n) (.int .i64 n):=fun n=>(LRep.int .i64 n).x
  have hcall:=(law a b c d e (key wa) (key wb) (key wc) (key wd) (key we)).2 (fr0 W) (fun _=>none) (fun _=>False) W [.int .i64 a,.int .i64 b,.int .i64 c,.int .i64 d,.int .i64 e] (Io W) (.cons (xi a) (.cons (xi b) (.cons (xi c) (.cons (xi d) (.cons (xi e) .nil)))))
  refine hcall.mono fun x W' ⟨v,u,Bo,E',M',he,⟨hu,hBo⟩,_,hm,har⟩=>?_
  subst hu
  obtain rfl:v=.bool true:=by
    have h:LRep _ _ v (.bool true):=har
    cases h
    rfl
  refine ⟨_,he,?_⟩
  refine ⟨[.lit (.int .i64 a),.lit (.int .i64 b),.lit (.int .i64 c),.lit (.int .i64 d),.lit (.int .i64 e)],[],_,[],[]++([]++([]++([]++([]++[])))),[],hW',?_,?_,?_,Qvt hm _,fun h=>by cases h⟩
  · rw [hr,List.append_nil,hs]
    exact trodAll_cons_mk (shut_bool Tryz.underlying4 true) trodAll_mk0
  · rw [hp,List.append_nil,hs]
    exact trodAll_cons_mk (shut_int Tryz.underlying3 wa) (trodAll_cons_mk (shut_int Tryz.underlying3 wb) (trodAll_cons_mk (shut_int Tryz.underlying3 wc) (trodAll_cons_mk (shut_int Tryz.underlying3 wd) (trodAll_cons_mk (shut_int Tryz.underlying3 we) trodAll_mk0))))
  · rw [hv,List.append_nil,hs]
    rfl
end Orr
