/- BegL R11 R12 R13 R14 R15 R16 R17 R18 NewsN W1 W2 WR18 ReadN LastN LastR -/
import Derived.Test.YtbnjginelkkonaaGreatPart09
import Derived.Test.YtbnjginelkkonaaGreatPart05
import Derived.Test.YtbnjginelkkonaaGreatPart08
import Derived.Deep.Slices
import Derived.ProofKit
import Derived.OpenShut
import Derived.WideKeyArgs
import Derived.SizedLaws
set_option linter.all false

namespace Orr
open Go
section
variable {α : Type} {lt : α → α → Bool}
theorem Qo9 (out : List α) (c : α) : (Kt lt out c).Perm (c :: out) := by
  unfold Kt
  exact (List.perm_middle).trans (by rw [List.take_append_drop])
theorem Ia : ∀ (l acc : List α),(l.foldl (Kt lt) acc).Perm (l ++ acc)
  | [],acc => List.Perm.refl _
  |
   c :: l,acc => by
   simp only [List.foldl_cons]
   exact (Ia l _).trans (((Qo9 acc c).append_left l).trans List.perm_middle)
theorem Od (l : List α) : (Z8 lt l).Perm l := by
  have := Ia (lt := lt) l []
  rwa [List.append_nil] at this
end
def Pj (a b : Pt) : Bool := decide (a.id < b.id)
def Pt.m5 (p : Pt) : Pt := ⟨p.c,p.id % 5⟩
def Sx (O : List Pt) (i : Nat) : List Pt := (O.take i).map Pt.m5 ++ O.drop i
theorem Qug (O : List Pt) : Sx O 0 = O := by simp [Sx]
theorem Em (O : List Pt) (i : Nat) : (Sx O i).length = O.length := by
  unfold Sx; rw [List.length_append,List.length_map,List.length_take,List.length_drop]; omega
theorem Qmr {O : List Pt} {i : Nat} {p : Pt} (h : O[i]? = some p) : (Sx O i).set i p.m5 = Sx O (i + 1) := by
  have hi := (List.getElem?_eq_some_iff.1 h).1
  have hl : ((O.take i).map Pt.m5).length = i := by rw [List.length_map,List.length_take]; omega
  unfold Sx
  rw [List.set_append,if_neg (by omega),hl,Nat.sub_self,List.take_succ,h,Option.toList_some,List.map_append,List.append_assoc]
  congr 1
  rw [List.drop_eq_getElem_cons hi]
  have : O[i] = p := by
    have := (List.getElem?_eq_some_iff.1 h).2
    exact this
  rfl
theorem Qzs {O : List Pt} {i : Nat} {p : Pt} (h : O[i]? = some p) : (Sx O i)[i]? = some p := by
  have hi := (List.getElem?_eq_some_iff.1 h).1
  have hl : ((O.take i).map Pt.m5).length = i := by rw [List.length_map,List.length_take]; omega
  unfold Sx
  rw [List.getElem?_append_right (by omega),hl,Nat.sub_self,List.getElem?_drop]
  exact h
theorem Qmq {O : List Pt} {i k : Nat} {p : Pt} (hk : k < i) (h : O[k]? = some p) : (Sx O i)[k]? = some p.m5 := by
  have hi := (List.getElem?_eq_some_iff.1 h).1
  unfold Sx
  rw [List.getElem?_append_left (by rw [List.length_map,List.length_take]; omega),List.getElem?_map,List.getElem?_take,if_pos hk,h]; rfl
theorem Qga {O : List Pt} {e i : Nat} (h : e ≤ i) (hi : i ≤ O.length) : (Sx O i).take e = (O.take e).map Pt.m5 := by
  unfold Sx
  rw [List.take_append_of_le_length (by rw [List.length_map,List.length_take]; omega),← List.map_take,List.take_take,Nat.min_eq_left h]
def Jw (O : List Pt) (e : Nat) : List Pt := (O.take e).map Pt.m5
def Rt (O : List Pt) (e : Nat) : List Pt := (Jw O e).map Pt.nrm
def Ff (l : List Pt) : Prop := l.Pairwise fun a b => a.id ≠ b.id
theorem Qor {O : List Pt} {i : Nat} {p : Pt} (h : O[i]? = some p) : Jw O (i + 1) = Jw O i ++ [p.m5] := by
  unfold Jw; rw [List.take_succ,h,Option.toList_some,List.map_append]; rfl
theorem Qox {O : List Pt} {i : Nat} {p : Pt} (h : O[i]? = some p) (hd : Ff (Jw O i)) (hn : ∀ k x,k < i → O[k]? = some x → x.m5.id ≠ p.m5.id) : Ff (Jw O (i + 1)) := by
  rw [Qor h]
  refine List.pairwise_append.2 ⟨hd,List.pairwise_singleton _ _,fun a ha b hb => ?_⟩
  rw [List.mem_singleton.1 hb]
  obtain ⟨x,hx,rfl⟩ := List.mem_map.1 ha
  obtain ⟨k,hk,rfl⟩ := List.mem_iff_getElem.1 hx
  rw [List.length_take] at hk
  rw [List.getElem_take]
  exact hn k _ (by omega) (List.getElem?_eq_getElem (by omega))
theorem Qag {O : List Pt} {e : Nat} (h : Ff (Jw O e)) : Ff (Rt O e) := List.Pairwise.map Pt.nrm (fun _ _ h => h) h
theorem Lb (O : List Pt) (e : Nat) : (Rt O e).length = (Jw O e).length := by unfold Rt; rw [List.length_map]
theorem M6 {O : List Pt} {e : Nat} (h : e ≤ O.length) : (Jw O e).length = e := by unfold Jw; rw [List.length_map,List.length_take]; omega
def Qnz (p : Pt) : Prop := Cs 10 3 p.c
theorem Qa9 {n : Nat} {most : Int} (hm : 0 ≤ most ∧ most ≤ 999) {l : List RawPt} : ∀ p ∈ Dh n most l,Qnz p := fun p hp => by
  rcases Nc _ _ hp with h | h
  · cases h
  · obtain ⟨z,_,rfl⟩ := List.mem_map.1 h
    exact Qaf hm _ _ _
theorem Qfb {O : List Pt} (h : ∀ p ∈ O,Qnz p) (e : Nat) : ∀ p ∈ Jw O e,Qnz p := fun p hp => by
  obtain ⟨x,hx,rfl⟩ := List.mem_map.1 hp
  exact h x (List.mem_of_mem_take hx)
theorem Qlt {O : List Pt} (h : ∀ p ∈ O,Qnz p) (e : Nat) : ∀ p ∈ Rt O e,Nml p.c ∧ Cs 10 3 p.c := fun p hp => by
  obtain ⟨x,hx,rfl⟩ := List.mem_map.1 hp
  exact ⟨x.c.nml,(Qfb h e x hx).norm (by decide)⟩
theorem Qa4 {s n : Nat} : ∀ {l : List Pt},(∀ p ∈ l,Cs s n p.c) → IsPts s n (l.map Vp) (l.map Pt.nrm)
  | [],_ => trivial
  | p :: l,h => ⟨⟨p.c.x.map Zg,p.c.y.map Zg,_,_,_,_,p.c.d,rfl,Z0 _,Z0 _,Qe _,h p (List.mem_cons_self ..),rfl⟩,Qa4 fun x hx => h x (List.mem_cons_of_mem _ hx)⟩
theorem Qby : ∀ {l m : List Pt},Wi l → Wi m → (∀ x,x ∈ l ↔ x ∈ m) → l = m
  | [],[],_,_,_ => rfl
  | [],b :: m,_,_,h => absurd ((h b).2 (List.mem_cons_self ..)) (by simp)
  | a :: l,[],_,_,h => absurd ((h a).1 (List.mem_cons_self ..)) (by simp)
  |
   a :: l,b :: m,h1,h2,h => by
   have h1' := List.pairwise_cons.1 h1
   have h2' := List.pairwise_cons.1 h2
   have hab : a = b := by
     rcases List.mem_cons.1 ((h a).1 (List.mem_cons_self ..)) with e | e
     · exact e
     · rcases List.mem_cons.1 ((h b).2 (List.mem_cons_self ..)) with e2 | e2
       · exact e2.symm
       · have := h2'.1 a e; have := h1'.1 b e2; omega
   subst hab
   congr 1
   refine Qby h1'.2 h2'.2 fun x => ⟨fun hx => ?_,fun hx => ?_⟩
   · rcases List.mem_cons.1 ((h x).1 (List.mem_cons_of_mem _ hx)) with e | e
     · have := h1'.1 x hx; rw [e] at this; omega
     · exact e
   · rcases List.mem_cons.1 ((h x).2 (List.mem_cons_of_mem _ hx)) with e | e
     · have := h2'.1 x hx; rw [e] at this; omega
     · exact e
theorem Qd8 {l : List Pt} (h : Ff l) : Wi (Z8 Pj l) :=
  Orq.foldG_pw (R := fun a b : Pt => a.id < b.id) (S := fun _ => True) (D := fun a b : Pt => a.id ≠ b.id) (fun x y z h1 h2 => Int.lt_trans h1 h2) (fun x y _ _ h => of_decide_eq_true h) (fun x y _ _ h1 h => by have := of_decide_eq_false h; omega) l [] .nil (fun x hx => by cases hx) (fun _ _ => trivial) h (fun x hx => by cases hx)
theorem Qvf (l : List Pt) (q : Pt) : (put l q).Perm (q :: l) := by
  unfold put
  exact List.perm_middle.trans (by rw [List.take_append_drop])
theorem Qbe : ∀ (qs acc : List Pt),(Jr acc qs).2 = 0 → (Jr acc qs).1.Perm (qs ++ acc)
  | [],acc,_ => List.Perm.refl _
  |
   q :: qs,acc,h => by
   simp only [Jr] at h ⊢
   split
   · rename_i h0
     rw [if_pos h0] at h
     refine (Qbe qs _ h).trans ?_
     exact ((Qvf acc q).append_left qs).trans List.perm_middle
   · rename_i h0
     rw [if_neg h0] at h
     exact absurd h h0
theorem Qpi {qs : List Pt} (hl : qs.length ≤ 6) (hd : Ff qs) : (Jr [] qs).2 = 0 ∧ (Jr [] qs).1 = Z8 Pj qs := by
  rcases Qph hl with ⟨h1,h2,_,_⟩ | ⟨_,h2⟩
  · refine ⟨h1,Qby h2 (Qd8 hd) fun x => ?_⟩
    have h3 := Qbe qs [] h1
    rw [List.append_nil] at h3
    rw [h3.mem_iff,Wh]
  · exact absurd hd h2
def Vy : List Pt → Int → Int
  | [],_ => -1
  | p :: l,id => if p.id = id then 0 else if Vy l id < 0 then -1 else Vy l id + 1
theorem Qtd : ∀ (l : List Pt) (id : Int),Vy l id < 0 → Vy l id = -1
  | [],_,_ => rfl
  |
   p :: l,id,h => by
   simp only [Vy] at h ⊢
   split
   · rename_i h0; rw [if_pos h0] at h; omega
   · rename_i h0; rw [if_neg h0] at h
     split
     · rfl
     · rename_i h1; rw [if_neg h1] at h; omega
theorem Qo4 {M : List Pt} {i : Nat} {x : Pt} {id : Int} (hx : M[i]? = some x) (h : x.id = id) : Vy (M.drop i) id + (if Vy (M.drop i) id < 0 then 0 else (i : Int)) = (i : Int) := by
  have hi := (List.getElem?_eq_some_iff.1 hx).1
  have e : M.drop i = x :: M.drop (i + 1) := by
    rw [List.drop_eq_getElem_cons hi,(List.getElem?_eq_some_iff.1 hx).2]
  rw [e]
  simp only [Vy,if_pos h]
  simp
theorem Qis {M : List Pt} {i : Nat} {x : Pt} {id : Int} (hx : M[i]? = some x) (h : ¬ x.id = id) : Vy (M.drop i) id + (if Vy (M.drop i) id < 0 then 0 else (i : Int)) = Vy (M.drop (i + 1)) id + (if Vy (M.drop (i + 1)) id < 0 then 0 else ((i + 1 : Nat) : Int)) := by
  have hi := (List.getElem?_eq_some_iff.1 hx).1
  have e : M.drop i = x :: M.drop (i + 1) := by
    rw [List.drop_eq_getElem_cons hi,(List.getElem?_eq_some_iff.1 hx).2]
  rw [e]
  have h2 := Qtd (M.drop (i + 1)) id
  simp only [Vy,if_neg h]
  split
  · rename_i h3
    rw [h2 h3]
    simp
  · rename_i h3
    rw [if_neg (by omega)]
    push_cast
    omega
end Orr

namespace Orr
open Go Go.Proofs
set_option maxRecDepth 10000
theorem Qzg {α : Type} {f : α → List LV} {lt : α → α → Bool} {O : List α} {c : α} {k : Nat} (hp : Jy lt O c O.length = k) : (O.map f).take k ++ (f c :: (O.map f).drop k) = (Kt lt O c).map f := by
  simp [Kt,hp,List.map_take,List.map_drop]
theorem Qfy {α : Type} {f : α → List LV} {lt : α → α → Bool} {O : List α} {c : α} {k : Nat} (hp : Jy lt O c O.length = k) : (O.map f).take k ++ ([f c] ++ ((O.map f).drop k).take ((O.map f).length - k)) = (Kt lt O c).map f := by
  rw [List.take_of_length_le (l := (O.map f).drop k) (by simp)]
  exact Qzg hp
theorem Nj {lt : Pt → Pt → Bool} {O : List Pt} {c : Pt} {k : Nat} (hp : Jy lt O c O.length = k) : (Q3 O).take k ++ ([rpt c] ++ ((Q3 O).drop k).take ((Q3 O).length - k)) = Q3 (Kt lt O c) := Qfy hp
theorem Jo (l : List Pt) : (Q3 l).length = l.length := by simp [Q3]
theorem Bh (l : List Pt) : ∀ c ∈ Q3 l,c.length = 7 := fun c hc => by obtain ⟨x,_,rfl⟩ := List.mem_map.1 hc; rfl
theorem Jk {l : List Pt} {i : Nat} {c : Pt} (h : l[i]? = some c) : (Q3 l)[i]? = some (rpt c) := Z9 h
theorem Qym {l : List Pt} (hn : l.length ≤ 1000000) : Qc Tryz.prog 86 [.one (.row (Q3 l))] [.one (.row (Q3 (Z8 Pj l)))] := by
  have hcl := Jo l
  refine Z6 Tryz.func86 rfl ?_
  refine go tt [.o 3 112 7] rfl trivial ?_
  refine lp (S := Nat) 1 (fun L1 i => (8,.v (.one (.int .i64 (i : Int)))) :: (3,.v (.one (.orow 0 7 none))) :: L1) (fun i => [.row false 112 7 (Q3 (Z8 Pj (l.take i)))]) (fun i => l.length - i) (fun i => i ≤ l.length) 0 (Nat.zero_le _) rfl (fun _ _ => rfl) rfl fun i hi => ?_
  by_cases hlt : i < l.length
  · obtain ⟨c,hc⟩ : ∃ c,l[i]? = some c := ⟨_,List.getElem?_eq_getElem hlt⟩
    have hst : Z8 Pj (l.take (i + 1)) = Kt Pj (Z8 Pj (l.take i)) c := H4 hc
    obtain ⟨O,hO⟩ : ∃ O,O = Z8 Pj (l.take i) := ⟨_,rfl⟩
    have hOl : O.length = i := by rw [hO,J6,List.length_take]; omega
    have hrl := Jo O
    rw [← hO] at hst ⊢
    refine go tt [.t (decide_eq_true (by omega))] rfl trivial ?_
    refine lp (S := Nat) 1 (fun L1 k => (5,.v (.one (.int .i64 (k : Int)))) :: L1) (fun _ => [.row false 112 7 (Q3 O)]) id (fun k => k ≤ O.length ∧ Jy Pj O c k = Jy Pj O c O.length) (Q3 O).length ⟨by omega,by rw [hrl]⟩ rfl (fun _ _ => rfl) rfl fun k ⟨hk,hp⟩ => ?_
    have h7 := Bh O
    have h7z : ∀ y ∈ [rpt c],y.length = 7 := fun y hy => by rw [List.mem_singleton.1 hy]; rfl
    cases k with
    |
     zero =>
     have hp : Jy Pj O c O.length = 0 := by rw [← hp]; rfl
     refine go tt [.g 15 false (by simp),.f rfl,.i 0,.x (Jk hc),.lo,.i 0,.s (sz := 7) (fun y hy => h7 y (List.mem_of_mem_take hy)),.s (sz := 7) (fun y hy => (List.mem_append.1 hy).elim (h7z y) fun hy => h7 y (List.mem_of_mem_take hy))] rfl (by simp [Qa]; omega) ?_
     exact rd (i + 1) (by omega) hlt (by rw [hst,← Nj hp]; rfl)
    |
     succ k =>
     obtain ⟨x,hx⟩ : ∃ x,O[k]? = some x := ⟨_,List.getElem?_eq_getElem (by omega)⟩
     by_cases hlc : Pj c x = true
     · refine go tt [.g 15 true (by simp),.x (Jk hc),.r 23 (eI (b := (k : Int)) (by simp)),.i k,.x (Jk hx),.t hlc,.r 30 (eI (b := (k : Int)) (by simp))] rfl (by simp [Qa]; omega) ?_
       exact rd k (by simp) ⟨by omega,by rw [← hp,Nv hx hlc]⟩ rfl
     · have hlc : Pj c x = false := by simpa using hlc
       have hp : Jy Pj O c O.length = k + 1 := by rw [← hp,Tu hx hlc]
       refine go tt [.g 15 true (by simp),.x (Jk hc),.r 23 (eI (b := (k : Int)) (by simp)),.i k,.x (Jk hx),.f hlc,.i (k + 1),.x (Jk hc),.lo,.i (k + 1),.s (sz := 7) (fun y hy => h7 y (List.mem_of_mem_drop (List.mem_of_mem_take hy))),.s (sz := 7) (fun y hy => (List.mem_append.1 hy).elim (h7z y) fun hy => h7 y (List.mem_of_mem_drop (List.mem_of_mem_take hy)))] rfl (by simp [Qa]; omega) ?_
       exact rd (i + 1) (by omega) hlt (by rw [hst,← Nj hp]; rfl)
  · obtain rfl : i = l.length := by omega
    rw [List.take_length]
    exact en tt [.f (decide_eq_false (by omega))] rfl rfl trivial
end Orr

namespace Orr
open Go Go.Proofs
set_option maxRecDepth 10000
def O4 (q : Rat) (a b : Pt) : Bool := if Te (Yk a.c b.c) q ≠ 0 then decide (0 < Te (Yk a.c b.c) q) else if Te (Vq a.c b.c) q ≠ 0 then decide (0 < Te (Vq a.c b.c) q) else decide (a.id < b.id)
theorem Qoj {a b : Pt} {q : Rat} {c : List (List Int)} (ha : Rs a.c) (hb : Rs b.c) (hq : Qs 1000000 q) : Qc Tryz.prog 310 [.agg (rpt a),.agg (rpt b),.agg (aq q c)] [.one (.bool (O4 q a b))] := by
  have c1 := M3 (p := Yk a.c b.c) (c := c) (Qd (S0 ha hb).1 (by decide)) (Nat.le_trans (S0 ha hb).2 (by decide)) hq
  have c2 := M3 (p := Vq a.c b.c) (c := c) (Qd (Sz ha hb).1 (by decide)) (Nat.le_trans (Sz ha hb).2 (by decide)) hq
  by_cases h1 : Te (Yk a.c b.c) q ≠ 0
  · exact w tt Tryz.func310 rfl [.c [] (Rq ha hb),.c [] c1,.t (decide_eq_true h1)] rfl (by unfold O4; rw [if_pos h1]) trivial
  by_cases h2 : Te (Vq a.c b.c) q ≠ 0
  · exact w tt Tryz.func310 rfl [.c [] (Rq ha hb),.c [] c1,.f (decide_eq_false h1),.c [] (Al ha hb),.c [] c2,.t (decide_eq_true h2)] rfl (by unfold O4; rw [if_neg h1,if_pos h2]) trivial
  · exact w tt Tryz.func310 rfl [.c [] (Rq ha hb),.c [] c1,.f (decide_eq_false h1),.c [] (Al ha hb),.c [] c2,.f (decide_eq_false h2)] rfl (by unfold O4; rw [if_neg h1,if_neg h2]) trivial
theorem Qol {l : List Pt} {q : Rat} {cs : List (List Int)} (hl : ∀ p ∈ l,Rs p.c) (hn : l.length ≤ 1000000) (hq : Qs 1000000 q) : Qc Tryz.prog 287 [.one (.row (Q3 l)),.agg (aq q cs)] [.one (.row (Q3 (Z8 (O4 q) l)))] := by
  have hcl := Jo l
  obtain ⟨lt,hlt0⟩ : ∃ lt,lt = O4 q := ⟨_,rfl⟩
  rw [← hlt0]
  refine Z6 Tryz.func287 rfl ?_
  refine go tt [.o 5 112 7] rfl trivial ?_
  refine lp (S := Nat) 2 (fun L1 i => (10,.v (.one (.int .i64 (i : Int)))) :: (5,.v (.one (.orow 1 7 none))) :: L1) (fun i => [.blk 102 (aq q cs),.row false 112 7 (Q3 (Z8 lt (l.take i)))]) (fun i => l.length - i) (fun i => i ≤ l.length) 0 (Nat.zero_le _) rfl (fun _ _ => rfl) rfl fun i hi => ?_
  by_cases hlt : i < l.length
  · obtain ⟨c,hc⟩ : ∃ c,l[i]? = some c := ⟨_,List.getElem?_eq_getElem hlt⟩
    have hst : Z8 lt (l.take (i + 1)) = Kt lt (Z8 lt (l.take i)) c := H4 hc
    have hcp := hl c (List.mem_of_getElem? hc)
    obtain ⟨O,hO⟩ : ∃ O,O = Z8 lt (l.take i) := ⟨_,rfl⟩
    have hOl : O.length = i := by rw [hO,J6,List.length_take]; omega
    have hOm : ∀ x ∈ O,Rs x.c := fun x hx => by rw [hO,Wh] at hx; exact hl x (List.mem_of_mem_take hx)
    have hrl := Jo O
    rw [← hO] at hst ⊢
    refine go tt [.t (decide_eq_true (by omega))] rfl trivial ?_
    refine lp (S := Nat) 2 (fun L1 k => (7,.v (.one (.int .i64 (k : Int)))) :: L1) (fun _ => [.blk 102 (aq q cs),.row false 112 7 (Q3 O)]) id (fun k => k ≤ O.length ∧ Jy lt O c k = Jy lt O c O.length) (Q3 O).length ⟨by omega,by rw [hrl]⟩ rfl (fun _ _ => rfl) rfl fun k ⟨hk,hp⟩ => ?_
    have h7 := Bh O
    have h7z : ∀ y ∈ [rpt c],y.length = 7 := fun y hy => by rw [List.mem_singleton.1 hy]; rfl
    cases k with
    |
     zero =>
     have hp : Jy lt O c O.length = 0 := by rw [← hp]; rfl
     refine go tt [.g 17 false (by simp),.f rfl,.i 0,.x (Jk hc),.lo,.i 0,.s (sz := 7) (fun y hy => h7 y (List.mem_of_mem_take hy)),.s (sz := 7) (fun y hy => (List.mem_append.1 hy).elim (h7z y) fun hy => h7 y (List.mem_of_mem_take hy))] rfl (by simp [Qa]; omega) ?_
     exact rd (i + 1) (by omega) hlt (by rw [hst,← Nj hp]; rfl)
    |
     succ k =>
     obtain ⟨x,hx⟩ : ∃ x,O[k]? = some x := ⟨_,List.getElem?_eq_getElem (by omega)⟩
     have cb := Qoj (c := cs) hcp (hOm x (List.mem_of_getElem? hx)) hq
     rw [← hlt0] at cb
     by_cases hlc : lt c x = true
     · refine go tt [.g 17 true (by simp),.x (Jk hc),.r 24 (eI (b := (k : Int)) (by simp)),.i k,.x (Jk hx),.c [] cb,.t hlc,.r 31 (eI (b := (k : Int)) (by simp))] rfl (by simp [Qa]; omega) ?_
       exact rd k (by simp) ⟨by omega,by rw [← hp,Nv hx hlc]⟩ rfl
     · have hlc : lt c x = false := by simpa using hlc
       have hp : Jy lt O c O.length = k + 1 := by rw [← hp,Tu hx hlc]
       refine go tt [.g 17 true (by simp),.x (Jk hc),.r 24 (eI (b := (k : Int)) (by simp)),.i k,.x (Jk hx),.c [] cb,.f hlc,.i (k + 1),.x (Jk hc),.lo,.i (k + 1),.s (sz := 7) (fun y hy => h7 y (List.mem_of_mem_drop (List.mem_of_mem_take hy))),.s (sz := 7) (fun y hy => (List.mem_append.1 hy).elim (h7z y) fun hy => h7 y (List.mem_of_mem_drop (List.mem_of_mem_take hy)))] rfl (by simp [Qa]; omega) ?_
       exact rd (i + 1) (by omega) hlt (by rw [hst,← Nj hp]; rfl)
  · obtain rfl : i = l.length := by omega
    rw [List.take_length]
    exact en tt [.f (decide_eq_false (by omega))] rfl rfl trivial
def rct (c : Ct) : List LV := [.int .i64 c.kind,.int .i64 c.i0,.int .i64 c.i1,.int .i64 c.i2,.int .i64 c.i3,rp (zp c.p),.int .i64 c.want,.row [],.bool false]
def Jd (l : List Ct) : List (List LV) := l.map rct
theorem H2 (l : List Ct) : (Jd l).length = l.length := by simp [Jd]
theorem Qgy (l : List Ct) : ∀ c ∈ Jd l,c.length = 9 := fun c hc => by obtain ⟨x,_,rfl⟩ := List.mem_map.1 hc; rfl
theorem S5 {l : List Ct} {i : Nat} {c : Ct} (h : l[i]? = some c) : (Jd l)[i]? = some (rct c) := Z9 h
theorem Qfx {lt : Ct → Ct → Bool} {O : List Ct} {c : Ct} {k : Nat} (hp : Jy lt O c O.length = k) : (Jd O).take k ++ ([rct c] ++ ((Jd O).drop k).take ((Jd O).length - k)) = Jd (Kt lt O c) := Qfy hp
theorem Qyo {k i0 i1 i2 i3 l j0 j1 j2 j3 : Int} : Qc Tryz.prog 312 [.agg [.int .i64 k,.int .i64 i0,.int .i64 i1,.int .i64 i2,.int .i64 i3],.agg [.int .i64 l,.int .i64 j0,.int .i64 j1,.int .i64 j2,.int .i64 j3]] [.one (.bool (Xs [k,i0,i1,i2,i3] [l,j0,j1,j2,j3]))] := by
  by_cases hk : k = l
  · subst hk
    rw [show Xs [k,i0,i1,i2,i3] [k,j0,j1,j2,j3] = Xs [i0,i1,i2,i3] [j0,j1,j2,j3] from by simp [Xs]]
    refine Z6 Tryz.func312 rfl ?_
    refine go tt [.f (by simp)] rfl trivial ?_
    refine lp (S := Nat) 2 (fun L1 i => (5,.v (.one (.int .i64 (i : Int)))) :: L1) (fun _ => [.blk 159 [.int .i64 k,.int .i64 i0,.int .i64 i1,.int .i64 i2,.int .i64 i3],.blk 159 [.int .i64 k,.int .i64 j0,.int .i64 j1,.int .i64 j2,.int .i64 j3]]) (fun i => 4 - i) (fun i => i ≤ 4 ∧ Xs ([i0,i1,i2,i3].drop i) ([j0,j1,j2,j3].drop i) = Xs [i0,i1,i2,i3] [j0,j1,j2,j3]) 0 ⟨by omega,rfl⟩ rfl (fun _ _ => rfl) rfl fun i ⟨hi,he⟩ => ?_
    rw [← he]
    rcases (show i = 0 ∨ i = 1 ∨ i = 2 ∨ i = 3 ∨ i = 4 by omega) with rfl | rfl | rfl | rfl | rfl
    · by_cases h : i0 = j0
      · exact go tt [.t rfl,.i 0,.i 0,.f (by simpa using h)] rfl (by simp [Qa]) (rd 1 (by omega) ⟨by omega,by simp [Xs,h]⟩ rfl)
      · exact en tt [.t rfl,.i 0,.i 0,.t (by simpa using h),.i 0,.i 0] rfl (by simp [Xs,h]) trivial
    · by_cases h : i1 = j1
      · exact go tt [.t rfl,.i 1,.i 1,.f (by simpa using h)] rfl (by simp [Qa]) (rd 2 (by omega) ⟨by omega,by simp [Xs,h]⟩ rfl)
      · exact en tt [.t rfl,.i 1,.i 1,.t (by simpa using h),.i 1,.i 1] rfl (by simp [Xs,h]) trivial
    · by_cases h : i2 = j2
      · exact go tt [.t rfl,.i 2,.i 2,.f (by simpa using h)] rfl (by simp [Qa]) (rd 3 (by omega) ⟨by omega,by simp [Xs,h]⟩ rfl)
      · exact en tt [.t rfl,.i 2,.i 2,.t (by simpa using h),.i 2,.i 2] rfl (by simp [Xs,h]) trivial
    · by_cases h : i3 = j3
      · exact go tt [.t rfl,.i 3,.i 3,.f (by simpa using h)] rfl (by simp [Qa]) (rd 4 (by omega) ⟨by omega,by simp [Xs,h]⟩ rfl)
      · exact en tt [.t rfl,.i 3,.i 3,.t (by simpa using h),.i 3,.i 3] rfl (by simp [Xs,h]) trivial
    · exact en tt [.f rfl] rfl (by simp [Xs]) trivial
  · exact w tt Tryz.func312 rfl [.t (by simpa using hk)] rfl (by simp [Xs,hk]) trivial
theorem Qys {l : List Ct} (hn : l.length ≤ 1000000) : Qc Tryz.prog 289 [.one (.row (Jd l))] [.one (.row (Jd (Z8 Kx l)))] := by
  have hcl := H2 l
  refine Z6 Tryz.func289 rfl ?_
  refine go tt [.o 3 265 9] rfl trivial ?_
  refine lp (S := Nat) 1 (fun L1 i => (8,.v (.one (.int .i64 (i : Int)))) :: (3,.v (.one (.orow 0 9 none))) :: L1) (fun i => [.row false 265 9 (Jd (Z8 Kx (l.take i)))]) (fun i => l.length - i) (fun i => i ≤ l.length) 0 (Nat.zero_le _) rfl (fun _ _ => rfl) rfl fun i hi => ?_
  by_cases hlt : i < l.length
  · obtain ⟨c,hc⟩ : ∃ c,l[i]? = some c := ⟨_,List.getElem?_eq_getElem hlt⟩
    have hst : Z8 Kx (l.take (i + 1)) = Kt Kx (Z8 Kx (l.take i)) c := H4 hc
    obtain ⟨O,hO⟩ : ∃ O,O = Z8 Kx (l.take i) := ⟨_,rfl⟩
    have hOl : O.length = i := by rw [hO,J6,List.length_take]; omega
    have hrl := H2 O
    rw [← hO] at hst ⊢
    refine go tt [.t (decide_eq_true (by omega))] rfl trivial ?_
    refine lp (S := Nat) 1 (fun L1 k => (5,.v (.one (.int .i64 (k : Int)))) :: L1) (fun _ => [.row false 265 9 (Jd O)]) id (fun k => k ≤ O.length ∧ Jy Kx O c k = Jy Kx O c O.length) (Jd O).length ⟨by omega,by rw [hrl]⟩ rfl (fun _ _ => rfl) rfl fun k ⟨hk,hp⟩ => ?_
    have h7 := Qgy O
    have h7z : ∀ y ∈ [rct c],y.length = 9 := fun y hy => by rw [List.mem_singleton.1 hy]; rfl
    cases k with
    |
     zero =>
     have hp : Jy Kx O c O.length = 0 := by rw [← hp]; rfl
     refine go tt [.g 15 false (by simp),.f rfl,.i 0,.x (S5 hc),.lo,.i 0,.s (sz := 9) (fun y hy => h7 y (List.mem_of_mem_take hy)),.s (sz := 9) (fun y hy => (List.mem_append.1 hy).elim (h7z y) fun hy => h7 y (List.mem_of_mem_take hy))] rfl (by simp [Qa]; omega) ?_
     exact rd (i + 1) (by omega) hlt (by rw [hst,← Qfx hp]; rfl)
    |
     succ k =>
     obtain ⟨x,hx⟩ : ∃ x,O[k]? = some x := ⟨_,List.getElem?_eq_getElem (by omega)⟩
     have cb := Qyo (k := c.kind) (i0 := c.i0) (i1 := c.i1) (i2 := c.i2) (i3 := c.i3) (l := x.kind) (j0 := x.i0) (j1 := x.i1) (j2 := x.i2) (j3 := x.i3)
     by_cases hlc : Kx c x = true
     · refine go tt [.g 15 true (by simp),.x (S5 hc),.r 23 (eI (b := (k : Int)) (by simp)),.i k,.x (S5 hx),.c [] cb,.t hlc,.r 30 (eI (b := (k : Int)) (by simp))] rfl (by simp [Qa]; omega) ?_
       exact rd k (by simp) ⟨by omega,by rw [← hp,Nv hx hlc]⟩ rfl
     · have hlc : Kx c x = false := by simpa using hlc
       have hp : Jy Kx O c O.length = k + 1 := by rw [← hp,Tu hx hlc]
       refine go tt [.g 15 true (by simp),.x (S5 hc),.r 23 (eI (b := (k : Int)) (by simp)),.i k,.x (S5 hx),.c [] cb,.f hlc,.i (k + 1),.x (S5 hc),.lo,.i (k + 1),.s (sz := 9) (fun y hy => h7 y (List.mem_of_mem_drop (List.mem_of_mem_take hy))),.s (sz := 9) (fun y hy => (List.mem_append.1 hy).elim (h7z y) fun hy => h7 y (List.mem_of_mem_drop (List.mem_of_mem_take hy)))] rfl (by simp [Qa]; omega) ?_
       exact rd (i + 1) (by omega) hlt (by rw [hst,← Qfx hp]; rfl)
  · obtain rfl : i = l.length := by omega
    rw [List.take_length]
    exact en tt [.f (decide_eq_false (by omega))] rfl rfl trivial
end Orr

namespace Orr
open Go Go.Proofs
set_option maxRecDepth 10000
abbrev sgq (q : Rat) : List Int → Int := fun p => Zv p q
abbrev rzc : List LV := [.int .i64 0,.int .i64 0,.int .i64 0,.int .i64 0,.int .i64 0,.nils,.int .i64 0,.nils,.bool false]
theorem Qr9 {a b : Pt} {q : Rat} {c : List (List Int)} (ha : Rs a.c) (hb : Rs b.c) (hq : Qs 1000000 q) : Qc Tryz.prog 311 [.one (.int .i64 1),.agg (aq q c),.one (.row [rpt a,rpt b])] [.agg (rct (Ul (sgq q) a b)),.one (.bool true)] := by
  have hfl := Ls (Yk a.c b.c)
  have x0 : [rpt a,rpt b][0]? = some (rpt a) := rfl
  have x1 : [rpt a,rpt b][1]? = some (rpt b) := rfl
  refine Z6 Tryz.func311 rfl ?_
  refine go tt [.g 14 false rfl,.g 18 false rfl,.x (l := [[.int .i64 0],[.int .i64 2],[.int .i64 2],[.int .i64 3],[.int .i64 4],[.int .i64 4]]) (i := 1) (xs := [.int .i64 2]) rfl,.f rfl] rfl trivial ?_
  refine lp (S := Nat) 3 (fun L1 i => (33,.v (.one (.int .i64 (i : Int)))) :: L1) (fun i => [.blk 102 (aq q c),.blk 265 rzc,.blk 265 [.int .i64 1,.int .i64 (if 0 < i then a.id else 0),.int .i64 (if 1 < i then b.id else 0),.int .i64 0,.int .i64 0,.nils,.int .i64 0,.nils,.bool false]]) (fun i => 2 - i) (fun i => i ≤ 2) 0 (by decide) rfl (fun _ _ => rfl) rfl fun i hi => ?_
  rcases (show i = 0 ∨ i = 1 ∨ i = 2 by omega) with rfl | rfl | rfl
  · exact go tt [.t rfl,.x x0,.i 0] rfl (by simp [Qa]) (rd 1 (by omega) (by omega) rfl)
  · exact go tt [.t rfl,.x x1,.i 1] rfl (by simp [Qa]) (rd 2 (by omega) (by omega) rfl)
  by_cases h0 : (Yk a.c b.c).length = 0
  · have e : Ix a b = Vq a.c b.c := if_neg (by omega)
    exact en tt [.f rfl,.t rfl,.x x0,.x x1,.c [] (Rq ha hb),.t (decide_eq_true (by omega)),.x x0,.x x1,.c [] (Al ha hb),.c [] (M3 (p := Vq a.c b.c) (c := c) (Qd (Sz ha hb).1 (by decide)) (Nat.le_trans (Sz ha hb).2 (by decide)) hq)] rfl (by unfold Ul; rw [e]; rfl) trivial
  · have e : Ix a b = Yk a.c b.c := if_pos (by omega)
    exact en tt [.f rfl,.t rfl,.x x0,.x x1,.c [] (Rq ha hb),.f (decide_eq_false (by omega)),.c [] (M3 (p := Yk a.c b.c) (c := c) (Qd (S0 ha hb).1 (by decide)) (Nat.le_trans (S0 ha hb).2 (by decide)) hq)] rfl (by unfold Ul; rw [e]; rfl) trivial
theorem Qyt {a b : Pt} {q : Rat} {c : List (List Int)} (ha : Rs a.c) (hb : Rs b.c) (hq : Qs 1000000 q) : Qc Tryz.prog 288 [.one (.int .i64 1),.agg (aq q c),.one (.row [rpt a,rpt b])] [.agg (rct (Ul (sgq q) a b))] :=
  w tt Tryz.func288 rfl [.c [] (Qr9 ha hb hq)] rfl rfl trivial
def Pv (q : Rat) (l : List Pt) : List Ct := Z8 Kx (Y5 (sgq q) (Z8 (O4 q) l))
theorem Qcj {l : List Pt} {q : Rat} {cs : List (List Int)} (hl : ∀ p ∈ l,Rs p.c) (hn : l.length ≤ 1000) (hq : Qs 1000000 q) : Qc Tryz.prog 256 [.one (.row (Q3 l)),.agg (aq q cs)] [.one (.row (Jd (Pv q l)))] := by
  have c1 := Qol (cs := cs) hl (by omega) hq
  have hML : (Z8 (O4 q) l).length = l.length := J6 _ _
  have hMl : ∀ p ∈ Z8 (O4 q) l,Rs p.c := fun p hp => hl p (Wh.1 hp)
  unfold Pv
  obtain ⟨M,hM⟩ : ∃ M,M = Z8 (O4 q) l := ⟨_,rfl⟩
  rw [← hM] at c1 hML hMl ⊢
  have hcl := Jo M
  have hrl := Wd (sgq q) M
  have c2 := Qys (l := Y5 (sgq q) M) (by omega)
  refine Z6 Tryz.func256 rfl ?_
  refine go tt [.c [] c1,.o 6 265 9] rfl trivial ?_
  refine lp (S := Nat) 2 (fun L1 i => (7,.v (.one (.int .i64 (i : Int)))) :: (6,.v (.one (.orow 1 9 none))) :: L1) (fun i => [.blk 102 (aq q cs),.row false 265 9 (Jd ((Y5 (sgq q) M).take i))]) (fun i => M.length - i) (fun i => i ≤ M.length - 1) 0 (Nat.zero_le _) rfl (fun _ _ => rfl) rfl fun i hi => ?_
  have htl : (Jd ((Y5 (sgq q) M).take i)).length = i := by rw [H2,List.length_take]; omega
  by_cases hlt : i + 1 < M.length
  · obtain ⟨a,ha⟩ : ∃ a,M[i]? = some a := ⟨_,List.getElem?_eq_getElem (by omega)⟩
    obtain ⟨b,hb⟩ : ∃ b,M[i + 1]? = some b := ⟨_,List.getElem?_eq_getElem hlt⟩
    have hg := Dm (sgq q) ha hb
    have hm : ∀ y ∈ [rct (Ul (sgq q) a b)],y.length = 9 := fun y hy => by rw [List.mem_singleton.1 hy]; rfl
    refine go tt [.t (decide_eq_true (by omega)),.x (Jk ha),.x (Jk hb),.c [] (Qyt (hMl a (List.mem_of_getElem? ha)) (hMl b (List.mem_of_getElem? hb)) hq),.s (sz := 9) hm] rfl (by simp [Qa,htl]; omega) ?_
    exact rd (i + 1) (by omega) (by omega) (by rw [hg]; simp [Jd]; rfl)
  · have e : (Y5 (sgq q) M).take i = Y5 (sgq q) M := List.take_of_length_le (by omega)
    rw [e]
    exact en tt [.f (decide_eq_false (by omega)),.c [] c2] rfl rfl (by simp [Qa]; omega)
theorem Qok {l : List Pt} {q : Rat} {cs : List (List Int)} (hl : ∀ p ∈ l,Rs p.c) (hn : l.length ≤ 1000) (hq : Qs 1000000 q) : Qc Tryz.prog 209 [.one (.int .i64 0),.one (.row (Q3 l)),.agg (aq q cs)] [.one (.row (Jd (Pv q l)))] :=
  w tt Tryz.func209 rfl [.t rfl,.c [] (Qcj hl hn hq)] rfl rfl trivial
theorem Qh1 {l : List Pt} {q : Rat} {cs : List (List Int)} (hl : ∀ p ∈ l,Rs p.c) (hn : l.length ≤ 1000) (hq : Qs 1000000 q) : Qc Tryz.prog 149 [.one (.int .i64 0),.one (.row (Q3 l)),.agg (aq q cs)] [.one (.row (Jd (Pv q l)))] :=
  w tt Tryz.func149 rfl [.c [] (Qok hl hn hq)] rfl rfl trivial
theorem Qr8 {l : List Ct} (hn : l.length ≤ 1000000) : Qc Tryz.prog 148 [.one (.row []),.one (.row (Jd l))] [.one (.row (Jd l))] := by
  have hcl := H2 l
  refine Z6 Tryz.func148 rfl ?_
  refine go tt [] rfl trivial ?_
  refine lp (S := Nat) 0 (fun L1 i => (9,.v (.one (.int .i64 (i : Int)))) :: L1) (fun _ => []) (fun i => l.length - i) (fun i => i ≤ l.length) 0 (Nat.zero_le _) rfl (fun _ _ => rfl) rfl fun i hi => ?_
  by_cases hlt : i < l.length
  · refine go tt [.t (decide_eq_true (by omega))] rfl trivial ?_
    refine lp (S := Nat) 0 (fun L1 k => (14,.v (.one (.int .i64 (k : Int)))) :: L1) (fun _ => []) (fun k => 0 - k) (fun k => k = 0) 0 rfl rfl (fun _ _ => rfl) rfl fun k hk => ?_
    subst hk
    exact go tt [.f rfl] rfl (by simp [Qa]; omega) (rd (i + 1) (by omega) hlt rfl)
  · exact en tt [.f (decide_eq_false (by omega))] rfl rfl trivial
end Orr

namespace Orr
open Go Go.Proofs
set_option maxRecDepth 10000
theorem Qzp (l : List Nat) (n : Nat) : (lm l).take (min l.length n) = lm (l.take n) := by
  rw [lm,lm,← List.map_take]
  rcases Nat.le_total l.length n with h | h
  · rw [Nat.min_eq_left h,List.take_length,List.take_of_length_le h]
  · rw [Nat.min_eq_right h]
theorem Q3k {l : List Nat} {n : Nat} (hn : n ≤ 1000) : Qc Tryz.prog 246 [.one (.row (lm l)),.one (.int .i64 (n : Int))] [.one (.row (lm (l.take n)))] := by
  rw [← Qzp]
  have hll : (lm l).length = l.length := by simp [lm]
  exact w tt Tryz.func246 rfl [.r 9 (eI (b := ((min l.length n : Nat) : Int)) (by omega)),.i (min l.length n)] rfl rfl (by simp [Qa,hll]; omega)
theorem Qrt {z : RawInt} : Qc Tryz.prog 203 [.agg (Dl z),.one (.int .i64 1)] [.agg (Dl z.cut)] :=
  w tt Tryz.func203 rfl [.c [] (Q3k (l := z.l) (n := 1) (by decide))] rfl rfl trivial
def Px (l : List RawInt) : List (List LV) := l.map Dl
theorem S6 (l : List RawInt) : (Px l).length = l.length := by simp [Px]
theorem Qla {l : List RawInt} : Qc Tryz.prog 202 [.one (.row (Px l)),.one (.int .i64 3),.one (.int .i64 1)] [.one (.row (Px ((l.take 3).map RawInt.cut)))] := by
  have hll := S6 l
  refine Z6 Tryz.func202 rfl (ln 0 rfl rfl fun hzl => ?_)
  rw [hll] at hzl
  refine go tt [.o 7 29 2] rfl trivial ?_
  refine lp (S := Nat) 1 (fun L1 i => (8,.v (.one (.int .i64 (i : Int)))) :: (7,.v (.one (.orow 0 2 none))) :: L1) (fun i => [.row false 29 2 (Px ((l.take i).map RawInt.cut))]) (fun i => 3 - i) (fun i => i ≤ 3 ∧ i ≤ l.length) 0 ⟨by decide,Nat.zero_le _⟩ rfl (fun _ _ => rfl) rfl fun i ⟨hi,hi2⟩ => ?_
  have hil : (Px ((l.take i).map RawInt.cut)).length = i := by rw [S6,List.length_map,List.length_take]; omega
  by_cases h1 : i < l.length
  · by_cases h2 : i < 3
    · obtain ⟨z,hz⟩ : ∃ z,l[i]? = some z := ⟨_,List.getElem?_eq_getElem h1⟩
      have hm : ∀ y ∈ [Dl z.cut],y.length = 2 := fun y hy => by rw [List.mem_singleton.1 hy]; rfl
      refine go tt [.g 13 true (decide_eq_true (by omega)),.t (decide_eq_true (by omega)),.x (Z9 (f := Dl) hz),.c [] Qrt,.s (sz := 2) hm] rfl (by simp [Qa,hil,-List.map_take]; omega) ?_
      exact rd (i + 1) (by omega) ⟨h2,h1⟩ (by rw [List.take_succ,hz]; simp [Px]; rfl)
    · have e : i = 3 := by omega
      have e2 : l.take 3 = l.take i := by rw [e]
      rw [e2]
      exact en tt [.g 13 true (decide_eq_true (by omega)),.f (decide_eq_false (by omega))] rfl rfl trivial
  · have e : l.take i = l.take 3 := by rw [List.take_of_length_le (by omega),List.take_of_length_le (by omega)]
    rw [e]
    exact en tt [.g 13 false (decide_eq_false (by omega)),.f rfl] rfl rfl trivial
abbrev rcw (z : RawPt) : List LV := [.row (Px z.x),.row (Px z.y),.bool z.d.b,.row (lm z.d.l)]
def RawPt.cut (z : RawPt) : RawPt := ⟨(z.x.take 3).map RawInt.cut,(z.y.take 3).map RawInt.cut,z.d.cut,z.id⟩
theorem Q58 {z : RawPt} : Qc Tryz.prog 144 [.agg (rcw z),.one (.int .i64 3),.one (.int .i64 1)] [.agg (rcw z.cut)] :=
  w tt Tryz.func144 rfl [.c [] (Qla (l := z.x)),.c [] (Qla (l := z.y)),.c [] (Qrt (z := z.d))] rfl rfl trivial
theorem Mz {z : RawInt} (hz : z.Ok) {most : Int} (hm : 0 ≤ most ∧ most ≤ 999) : Qc Tryz.prog 204 [.agg (Dl z),.one (.int .i64 most)] [.agg (Zg (X5 most z))] := by
  obtain ⟨b,l⟩ := z
  have hb := Ma hm.1 ⟨b,l⟩
  have hs : Qm (X5 most ⟨b,l⟩) ≤ 100000000 := Nat.le_trans (Jq.2 (show (X5 most ⟨b,l⟩).natAbs < 2 ^ 10 by omega)) (by decide)
  cases l with
  | nil => exact w tt Tryz.func204 rfl [.t rfl] rfl (by simp [X5,U8]) trivial
  |
   cons u l =>
   have hu := hz.u u (List.mem_cons_self ..)
   have co := Ue (n := X5 most ⟨b,u :: l⟩) (by omega)
   have ct := Qri hs
   have hr : Int.tmod (u : Int) (most + 1) = (u : Int) % (most + 1) := Int.tmod_eq_emod_of_nonneg (by omega)
   have h1 := Int.emod_nonneg (u : Int) (b := most + 1) (by omega)
   have h2 := Int.emod_lt_of_pos (u : Int) (b := most + 1) (by omega)
   cases b with
   |
    true =>
    rw [show X5 most ⟨true,u :: l⟩ = -((u : Int) % (most + 1)) from rfl] at co ct ⊢
    exact w tt Tryz.func204 rfl [.f (decide_eq_false (by simp [lm]; try omega)),.x (l := lm (u :: l)) (i := 0) (xs := [.int .u32 (u : Int)]) rfl,.r 18 (eI hr),.t rfl,.c [] co,.c [] ct] rfl rfl (by simp [Qa]; omega)
   |
    false =>
    rw [show X5 most ⟨false,u :: l⟩ = (u : Int) % (most + 1) from rfl] at co ct ⊢
    exact w tt Tryz.func204 rfl [.f (decide_eq_false (by simp [lm]; try omega)),.x (l := lm (u :: l)) (i := 0) (xs := [.int .u32 (u : Int)]) rfl,.r 18 (eI hr),.f rfl,.c [] co,.c [] ct] rfl rfl (by simp [Qa]; omega)
end Orr

namespace Orr
open Go Go.Proofs
set_option maxRecDepth 10000
theorem oz2 {P : Program} [Mo P] {n : Nat} {Q : Exit → Sg → List OB → Prop} {L L' : Sg} {B B' : List OB} (d off T sz : Nat) {it : List It} (hs : Jm it = true) (h : Qu8 (P := P) d L B [.oc d off T sz] = some (L',B',[],[])) (k : AK P n Q it L' B') : AK P n Q it L B := AK.sub (Qjn h EqOk.nil) hs k
theorem pz {P : Program} [Mo P] {n : Nat} {Q : Exit → Sg → List OB → Prop} {L L' : Sg} {B B' : List OB} (i : Nat) {it : List It} (hs : Jm it = true) (h : Qvc [i] L B = some (L',B')) (k : AK P n Q it L' B') : AK P n Q it L B := AK.sub (Eq h) hs k
def Gu (l : List Int) : List (List LV) := l.map Zg
theorem Qpe (l : List Int) : (Gu l).length = l.length := by simp [Gu]
theorem C9 {most : Int} {l : List RawInt} {i : Nat} {a : RawInt} (hi : i < 3) (h : l[i]? = some a) : Gu (Zz most (l.take (i + 1))) = Gu (Zz most (l.take i)) ++ [Zg (X5 most a)] := by
  rw [Qdb hi h]; simp [Gu]
theorem Qda {most : Int} {l : List RawInt} {i : Nat} (hi : i ≤ 3) (h : i ≤ l.length) : (Gu (Zz most (l.take i))).length = i := by
  rw [Qpe]; unfold Zz; rw [List.length_map,List.length_take,List.length_take]; omega
theorem Qq1 {z : RawPt} (hz : z.Ok) {most : Int} (hm : 0 ≤ most ∧ most ≤ 999) : Qc Tryz.prog 145 [.agg (rcw z),.one (.int .i64 most)] [.agg (cl4 (Nk most z.x z.y z.d))] := by
  have hxl := S6 z.x
  have hyl := S6 z.y
  obtain ⟨D,hD⟩ : ∃ D,D = X5 3 z.d := ⟨_,rfl⟩
  have cd := Mz hz.d (most := 3) (by decide)
  have hx0 : ∀ {i : Nat},z.x.length ≤ i ∨ 3 ≤ i → Zz most (z.x.take i) = Zz most z.x := D7 most
  have hy0 : ∀ {i : Nat},z.y.length ≤ i ∨ 3 ≤ i → Zz most (z.y.take i) = Zz most z.y := D7 most
  unfold Nk
  rw [← hD] at cd ⊢
  refine Z6 Tryz.func145 rfl ?_
  refine go tt [.c [] cd] rfl trivial ?_
  refine oz2 5 0 29 2 rfl rfl ?_
  refine lp (S := Nat) 4 (fun L1 i => (6,.v (.one (.int .i64 (i : Int)))) :: L1) (fun i => [.blk 31 (rcw z),.blk 31 [.nils,.nils,.bool false,.nils],.blk 31 [.orow 3 2 none,.nils,sg D,mg D],.row false 29 2 (Gu (Zz most (z.x.take i)))]) (fun i => 3 - i) (fun i => i ≤ 3 ∧ i ≤ z.x.length) 0 ⟨by decide,Nat.zero_le _⟩ rfl (fun _ _ => rfl) rfl fun i ⟨hi,hi2⟩ => ?_
  have hll := Qda (most := most) hi hi2
  by_cases hr : i < z.x.length ∧ i < 3
  · obtain ⟨a,ha⟩ : ∃ a,z.x[i]? = some a := ⟨_,List.getElem?_eq_getElem hr.1⟩
    have hs : ∀ y ∈ [Zg (X5 most a)],y.length = 2 := fun y hy => by rw [List.mem_singleton.1 hy]; rfl
    refine go tt [.g 17 true (decide_eq_true (by omega)),.t (decide_eq_true (by omega)),.x (Z9 (f := Dl) ha),.c [] (Mz (hz.x a (List.mem_of_getElem? ha)) hm),.s (sz := 2) hs] rfl (by simp [Qa,hll]; omega) ?_
    exact rd (i + 1) (by omega) ⟨hr.2,hr.1⟩ (by rw [C9 hr.2 ha]; rfl)
  have hg1 : decide ((i : Int) < ((Px z.x).length : Int)) = true → i < z.x.length := fun h => by have := of_decide_eq_true h; omega
  rw [hx0 (by omega)]
  clear hll
  have hfin : ∀ {j : Nat},j ≤ 3 ∧ j ≤ z.y.length → ¬ (j < z.y.length ∧ j < 3) → Gu (Zz most (z.y.take j)) = Gu (Zz most z.y) := fun h1 h2 => by rw [hy0 (by omega)]
  by_cases hxx : i < z.x.length
  · refine go tt [.g 17 true (decide_eq_true (by omega)),.f (decide_eq_false (by omega))] rfl trivial ?_
    refine pz 3 rfl rfl ?_
    refine oz2 5 1 29 2 rfl rfl ?_
    refine lp (S := Nat) 5 (fun L1 j => (7,.v (.one (.int .i64 (j : Int)))) :: L1) (fun j => [.blk 31 (rcw z),.blk 31 [.nils,.nils,.bool false,.nils],.blk 31 [.row (Gu (Zz most z.x)),.orow 4 2 none,sg D,mg D],.gone,.row false 29 2 (Gu (Zz most (z.y.take j)))]) (fun j => 3 - j) (fun j => j ≤ 3 ∧ j ≤ z.y.length) 0 ⟨by decide,Nat.zero_le _⟩ rfl (fun _ _ => rfl) rfl fun j ⟨hj,hj2⟩ => ?_
    have hll := Qda (most := most) hj hj2
    by_cases hr : j < z.y.length ∧ j < 3
    · obtain ⟨a,ha⟩ : ∃ a,z.y[j]? = some a := ⟨_,List.getElem?_eq_getElem hr.1⟩
      have hs : ∀ y ∈ [Zg (X5 most a)],y.length = 2 := fun y hy => by rw [List.mem_singleton.1 hy]; rfl
      refine go tt [.g 40 true (decide_eq_true (by omega)),.t (decide_eq_true (by omega)),.x (Z9 (f := Dl) ha),.c [] (Mz (hz.y a (List.mem_of_getElem? ha)) hm),.s (sz := 2) hs] rfl (by simp [Qa,hll]; omega) ?_
      exact rd (j + 1) (by omega) ⟨hr.2,hr.1⟩ (by rw [C9 hr.2 ha]; rfl)
    rw [hfin ⟨hj,hj2⟩ hr]
    by_cases hyy : j < z.y.length
    · exact ed tt [4] [] [.g 40 true (decide_eq_true (by omega)),.f (decide_eq_false (by omega))] rfl trivial
    · exact ed tt [4] [] [.g 40 false (decide_eq_false (by omega)),.f rfl] rfl trivial
  · refine go tt [.g 17 false (decide_eq_false (by omega)),.f rfl] rfl trivial ?_
    refine pz 3 rfl rfl ?_
    refine oz2 5 1 29 2 rfl rfl ?_
    refine lp (S := Nat) 5 (fun L1 j => (7,.v (.one (.int .i64 (j : Int)))) :: L1) (fun j => [.blk 31 (rcw z),.blk 31 [.nils,.nils,.bool false,.nils],.blk 31 [.row (Gu (Zz most z.x)),.orow 4 2 none,sg D,mg D],.gone,.row false 29 2 (Gu (Zz most (z.y.take j)))]) (fun j => 3 - j) (fun j => j ≤ 3 ∧ j ≤ z.y.length) 0 ⟨by decide,Nat.zero_le _⟩ rfl (fun _ _ => rfl) rfl fun j ⟨hj,hj2⟩ => ?_
    have hll := Qda (most := most) hj hj2
    by_cases hr : j < z.y.length ∧ j < 3
    · obtain ⟨a,ha⟩ : ∃ a,z.y[j]? = some a := ⟨_,List.getElem?_eq_getElem hr.1⟩
      have hs : ∀ y ∈ [Zg (X5 most a)],y.length = 2 := fun y hy => by rw [List.mem_singleton.1 hy]; rfl
      refine go tt [.g 40 true (decide_eq_true (by omega)),.t (decide_eq_true (by omega)),.x (Z9 (f := Dl) ha),.c [] (Mz (hz.y a (List.mem_of_getElem? ha)) hm),.s (sz := 2) hs] rfl (by simp [Qa,hll]; omega) ?_
      exact rd (j + 1) (by omega) ⟨hr.2,hr.1⟩ (by rw [C9 hr.2 ha]; rfl)
    rw [hfin ⟨hj,hj2⟩ hr]
    by_cases hyy : j < z.y.length
    · exact ed tt [4] [] [.g 40 true (decide_eq_true (by omega)),.f (decide_eq_false (by omega))] rfl trivial
    · exact ed tt [4] [] [.g 40 false (decide_eq_false (by omega)),.f rfl] rfl trivial
theorem Qyc {n d : Int} (hn : -9223372036854775808 ≤ n ∧ n ≤ 9223372036854775807) (hd : -9223372036854775808 ≤ d ∧ d ≤ 9223372036854775807) : Qc Tryz.prog 32 [.one (.int .i64 n),.one (.int .i64 d)] [.agg (fr (Zi (Rh n 61 - 30) (1 + Rh d 6)))] := by
  have h1 : Rh n 61 = n % 61 := rfl
  have h2 : Rh d 6 = d % 6 := rfl
  exact w tt Tryz.func32 rfl [.c [] (Mx (v := n) (n := 61) hn (by decide)),.c [] (Mx (v := d) (n := 6) hd (by decide)),.c [] (Q6d (n := Rh n 61 - 30) (d := 1 + Rh d 6) (by omega) (by omega))] rfl rfl (by simp [Qa]; omega)
end Orr

namespace Orr
open Go Go.Proofs
set_option maxRecDepth 10000
def rwq (z : RawPt) : List LV := rcw z ++ [.int .i64 z.id]
def Bi (l : List RawPt) : List (List LV) := l.map rwq
theorem Qpx (l : List RawPt) : (Bi l).length = l.length := by simp [Bi]
theorem Qd5 {l : List RawPt} {i : Nat} {z : RawPt} (h : l[i]? = some z) : (Bi l)[i]? = some (rwq z) := Z9 h
theorem Q3q {most : Int} (hm : 0 ≤ most ∧ most ≤ 999) (z : RawPt) : Cs 100000 16 (Sw most z).c := (Qaf hm z.x z.y z.d).mono (by decide) (by decide)
def Ha (n : Nat) (most : Int) (zs : List RawPt) (i : Nat) : List Pt := Dh n most (zs.take i)
theorem Qva (n : Nat) (most : Int) (zs : List RawPt) (i : Nat) : (Ha n most zs i).length ≤ n := Tc _ _ (Nat.zero_le _)
theorem Q0c {n : Nat} {most : Int} {zs : List RawPt} {i : Nat} {z : RawPt} (h : zs[i]? = some z) (hl : (Ha n most zs i).length < n) (ha : (Ha n most zs i).any (fun x => decide (x.id = (Sw most z).id)) = true) : Ha n most zs (i + 1) = Ha n most zs i := by
  unfold Ha Dh at *
  rw [List.take_succ,h,Option.toList_some,List.map_append]
  exact Hw _ _ _ hl ha
theorem Qvb {n : Nat} {most : Int} {zs : List RawPt} {i : Nat} {z : RawPt} (h : zs[i]? = some z) (hl : (Ha n most zs i).length < n) (ha : (Ha n most zs i).any (fun x => decide (x.id = (Sw most z).id)) = false) : Ha n most zs (i + 1) = Ha n most zs i ++ [Sw most z] := by
  unfold Ha Dh at *
  rw [List.take_succ,h,Option.toList_some,List.map_append]
  exact Fw _ _ _ hl ha
theorem Qu9 {n : Nat} {most : Int} {zs : List RawPt} {i : Nat} (h : ¬ (i < zs.length ∧ (Ha n most zs i).length < n)) : Ha n most zs i = Dh n most zs := by
  by_cases h1 : i < zs.length
  · have hl : n ≤ (Ha n most zs i).length := Nat.le_of_not_lt fun h2 => h ⟨h1,h2⟩
    unfold Ha Dh at *
    conv => rhs; rw [← List.take_append_drop i zs,List.map_append]
    exact (Cy _ _ _ hl).symm
  · unfold Ha; rw [List.take_of_length_le (by omega)]
theorem Qqh {f : Pt → Bool} {l : List Pt} {k : Nat} {x : Pt} (h : l[k]? = some x) : (l.take (k + 1)).any f = ((l.take k).any f || f x) := by
  rw [List.take_succ,h]; simp
theorem Qoa {zs : List RawPt} (hz : ∀ z ∈ zs,z.Ok) : Ja Tryz.prog 85 [.one (.row (Bi zs)),.one (.int .i64 4)] [] [.one (.orow 0 5 none),.one (.orow 1 7 none)] [.row false 35 5 (Qt (Dh 4 20 zs)),.row false 112 7 (Q3 ((Dh 4 20 zs).map Pt.nrm))] := by
  have hzl := Qpx zs
  refine Z6 Tryz.func85 rfl (ln 0 rfl rfl fun hz63 => ?_)
  rw [hzl] at hz63
  refine go tt [.o 6 35 5,.o 7 112 7] rfl trivial ?_
  refine lp (S := Nat) 2 (fun L1 i => (8,.v (.one (.int .i64 (i : Int)))) :: (6,.v (.one (.orow 0 5 none))) :: (7,.v (.one (.orow 1 7 none))) :: L1) (fun i => [.row false 35 5 (Qt (Ha 4 20 zs i)),.row false 112 7 (Q3 ((Ha 4 20 zs i).map Pt.nrm))]) (fun i => zs.length - i) (fun i => i ≤ zs.length) 0 (Nat.zero_le _) rfl (fun _ _ => rfl) rfl fun i hi => ?_
  have hOl := Qva 4 20 zs i
  have hend := Qu9 (n := 4) (most := 20) (zs := zs) (i := i)
  by_cases h1 : i < zs.length
  · by_cases h2 : (Ha 4 20 zs i).length < 4
    · obtain ⟨z,hzi⟩ : ∃ z,zs[i]? = some z := ⟨_,List.getElem?_eq_getElem h1⟩
      have hzok := hz z (List.mem_of_getElem? hzi)
      have hin := Q0c hzi h2
      have hout := Qvb hzi h2
      obtain ⟨O,hO⟩ : ∃ O,O = Ha 4 20 zs i := ⟨_,rfl⟩
      rw [← hO] at hOl h2 hin hout ⊢
      have hpl := Yo O
      have hrl : (Q3 (O.map Pt.nrm)).length = O.length := by rw [Jo,List.length_map]
      obtain ⟨p,hp⟩ : ∃ p,p = Sw 20 z := ⟨_,rfl⟩
      have hid : Rh z.id 1000 = p.id := by rw [hp]; rfl
      have cw := Mx (v := z.id) (n := 1000) hzok.id (by decide)
      have cl := Qq1 hzok (most := 20) (by decide)
      have ecl : cl4 (Nk 20 z.x z.y z.d) = cl4 p.c := by rw [hp]; rfl
      rw [hid] at cw
      rw [ecl] at cl
      rw [← hp] at hin hout
      refine go tt [.g 16 true (decide_eq_true (by omega)),.t (decide_eq_true (by omega)),.x (Qd5 hzi),.c [] (Q58 (z := z)),.x (Qd5 hzi),.c [] cw,.f rfl,.t rfl,.x (Qd5 hzi),.c [] cl] rfl trivial ?_
      refine lp (S := Nat) 3 (fun L1 k => (57,.v (.one (.int .i64 (k : Int)))) :: (10,.v (.one (.bool ((O.take k).any (fun x => decide (x.id = p.id)))))) :: L1) (fun _ => [.row false 35 5 (Qt O),.row false 112 7 (Q3 (O.map Pt.nrm)),.blk 35 [pl p.c.x,pl p.c.y,sg p.c.d,mg p.c.d,.int .i64 p.id]]) (fun k => O.length - k) (fun k => k ≤ O.length) 0 (Nat.zero_le _) rfl (fun _ _ => rfl) rfl fun k hk => ?_
      by_cases hk2 : k < O.length
      · obtain ⟨x,hx⟩ : ∃ x,O[k]? = some x := ⟨_,List.getElem?_eq_getElem hk2⟩
        have ha := Qqh (f := fun x => decide (x.id = p.id)) hx
        cases hb : (O.take k).any (fun x => decide (x.id = p.id)) with
        |
         true =>
         rw [hb,Bool.true_or] at ha
         exact go tt [.t (decide_eq_true (by omega)),.g 61 true rfl] rfl (by simp [Qa]; omega) (rd (k + 1) (by omega) hk2 (by rw [ha]; rfl))
        |
         false =>
         rw [hb,Bool.false_or] at ha
         exact go tt [.t (decide_eq_true (by omega)),.g 61 false rfl,.i k,.x (Vb hx)] rfl (by simp [Qa,hpl]; omega) (rd (k + 1) (by omega) hk2 (by rw [ha]; rfl))
      have hk3 : O.take k = O := List.take_of_length_le (by omega)
      rw [hk3]
      cases hb : O.any (fun x => decide (x.id = p.id)) with
      |
       true =>
       refine go tt [.f (decide_eq_false (by omega)),.f rfl] rfl (by simp [Qa]; omega) ?_
       exact rd (i + 1) (by omega) h1 (by rw [hin hb]; rfl)
      |
       false =>
       have cf := Qr7 (k := p.c) (id := p.id) (by rw [hp]; exact Q3q (by decide) z)
       have hm1 : ∀ y ∈ [Vp p],y.length = 5 := fun y hy => by rw [List.mem_singleton.1 hy]; rfl
       have hm2 : ∀ y ∈ [rpt p.nrm],y.length = 7 := fun y hy => by rw [List.mem_singleton.1 hy]; rfl
       have e1 : Qt (O ++ [p]) = Qt O ++ [Vp p] := by simp [Qt]
       have e2 : Q3 ((O ++ [p]).map Pt.nrm) = Q3 (O.map Pt.nrm) ++ [rpt p.nrm] := by simp [Q3]
       refine go tt [.f (decide_eq_false (by omega)),.t rfl,.s (sz := 5) hm1,.c [] cf,.s (sz := 7) hm2] rfl (by simp [Qa,hpl,hrl]; omega) ?_
       exact rd (i + 1) (by omega) h1 (by rw [hout hb,e1,e2]; rfl)
    · rw [hend (fun h => h2 h.2)]
      rw [hend (fun h => h2 h.2)] at h2
      have hpl := Yo (Dh 4 20 zs)
      exact ed tt [] [0,1] [.g 16 true (decide_eq_true (by omega)),.f (decide_eq_false (by omega))] rfl trivial
  · rw [hend (fun h => h1 h.1)]
    exact ed tt [] [0,1] [.g 16 false (decide_eq_false (by omega)),.f rfl] rfl trivial
end Orr

namespace Orr
open Go Go.Proofs
set_option maxRecDepth 10000
abbrev plZ (M : List Pt) (q : Rat) : List LV := .row (Q3 M) :: (fr q ++ [.nils,.nils,.nils,.bool false,.nils,.bool false,.nils,.bool false,.nils,.bool false,.nils,.int .i64 0,.nils])
abbrev plB (M : List Pt) (q : Rat) (c : List (List Int)) (w : List Ct) : List LV := .row (Q3 M) :: (fr q ++ (aq q c ++ [.row (Jd w),.int .i64 0,.nils]))
theorem Qie {M : List Pt} {q : Rat} {c : List (List Int)} (hM : ∀ p ∈ M,Rs p.c) (hl : M.length ≤ 1000) (hq : Qs 1000000 q) (hC : Qko q c) : Ja Tryz.prog 105 [.one (.ow 0 0)] [.blk 128 (plZ M q)] [] [.blk 128 (plB M q c (Pv q M))] := by
  have hw : (Pv q M).length ≤ 1000000 := by
    unfold Pv
    rw [J6,Wd,J6]; omega
  refine Z6 Tryz.func105 rfl ?_
  exact ed tt [] [0] [.c [] (Qez hq hC),.c [] (Qh1 (cs := c) hM hl hq),.c [] (Qr8 hw)] rfl trivial
theorem Qrr {M : List Pt} {q : Rat} {c : List (List Int)} {w : List Ct} {id : Int} (hM : M.length ≤ 1000000) : Ja Tryz.prog 58 [.one (.ow 0 0),.one (.int .i64 id)] [.blk 128 (plB M q c w)] [.one (.int .i64 (Vy M id))] [.blk 128 (plB M q c w)] := by
  have hml := Jo M
  refine Z6 Tryz.func58 rfl ?_
  refine go tt [] rfl trivial ?_
  refine lp (S := Nat) 1 (fun L1 i => (11,.v (.one (.int .i64 (i : Int)))) :: L1) (fun _ => [.blk 128 (plB M q c w)]) (fun i => M.length - i) (fun i => i ≤ M.length ∧ Vy (M.drop i) id + (if Vy (M.drop i) id < 0 then 0 else (i : Int)) = Vy M id) 0 ⟨Nat.zero_le _,by rw [List.drop_zero]; split <;> simp⟩ rfl (fun _ _ => rfl) rfl fun i ⟨hi,he⟩ => ?_
  by_cases h : i < M.length
  · obtain ⟨x,hx⟩ : ∃ x,M[i]? = some x := ⟨_,List.getElem?_eq_getElem h⟩
    by_cases hid : x.id = id
    · have e := Qo4 hx hid
      rw [he] at e
      rw [e]
      exact ed tt [] [0] [.t (decide_eq_true (by omega)),.x (Jk hx),.t (decide_eq_true hid)] rfl (by simp [Qa]; try omega)
    · have e := Qis hx hid
      refine go tt [.t (decide_eq_true (by omega)),.x (Jk hx),.f (decide_eq_false hid)] rfl (by simp [Qa]; omega) ?_
      exact rd (i + 1) (by omega) ⟨h,by rw [← e]; exact he⟩ rfl
  · have e : Vy M id = -1 := by
      rw [List.drop_of_length_le (by omega)] at he
      rw [← he]; rfl
    rw [e]
    exact ed tt [] [0] [.f (decide_eq_false (by omega))] rfl trivial
end Orr

namespace Orr
open Go Go.Proofs Orq
set_option maxRecDepth 10000
theorem Qy6 {O : List Pt} {e j : Nat} (h : Ff (Jw O e)) (hj : j ≤ e) : Ff (Jw O j) := by
  have : Jw O j = (Jw O e).take j := by unfold Jw; rw [← List.map_take,List.take_take,Nat.min_eq_left hj]
  rw [this]
  exact List.Pairwise.sublist (List.take_sublist _ _) h
theorem Q3s (O : List Pt) : ∃ e,e ≤ O.length ∧ Ff (Jw O e) ∧ (e < O.length → ¬ Ff (Jw O (e + 1))) := by
  have key : ∀ k,Ff (Jw O k) ∨ ∃ e,e < k ∧ Ff (Jw O e) ∧ ¬ Ff (Jw O (e + 1)) := by
    intro k
    induction k with
    | zero => exact .inl List.Pairwise.nil
    |
     succ k ih =>
     rcases ih with h | ⟨e,h1,h2,h3⟩
     · by_cases h4 : Ff (Jw O (k + 1))
       · exact .inl h4
       · exact .inr ⟨k,Nat.lt_succ_self k,h,h4⟩
     · exact .inr ⟨e,by omega,h2,h3⟩
  rcases key O.length with h | ⟨e,h1,h2,h3⟩
  · exact ⟨O.length,Nat.le_refl _,h,fun h => absurd h (Nat.lt_irrefl _)⟩
  · exact ⟨e,by omega,h2,fun _ => h3⟩
theorem Qds {O : List Pt} {i : Nat} {p : Pt} (h : O[i]? = some p) : (Qt (Sx O i)).set i [pl p.c.x,pl p.c.y,sg p.c.d,mg p.c.d,.int .i64 p.m5.id] = Qt (Sx O (i + 1)) := by
  rw [← Qmr h]; simp only [Qt,List.map_set]; rfl
theorem O5 {O : List Pt} {i : Nat} {p : Pt} (h : O[i]? = some p) : (Q3 ((Sx O i).map Pt.nrm)).set i [rp (Mt p.nrm.c.x p.nrm.c.d),rp (Mt p.nrm.c.y p.nrm.c.d),pl p.nrm.c.x,pl p.nrm.c.y,sg p.nrm.c.d,mg p.nrm.c.d,.int .i64 p.m5.id] = Q3 ((Sx O (i + 1)).map Pt.nrm) := by
  rw [← Qmr h]; simp only [Q3,List.map_set]; rfl
theorem Qpr {O : List Pt} {e i : Nat} (h : e ≤ i) (hi : i ≤ O.length) : (Qt (Sx O i)).take e = Qt (Jw O e) := by
  unfold Qt; rw [← List.map_take,Qga h hi]; rfl
theorem Qj1 {O : List Pt} {e i : Nat} (h : e ≤ i) (hi : i ≤ O.length) : (Q3 ((Sx O i).map Pt.nrm)).take e = Q3 (Rt O e) := by
  unfold Q3; rw [← List.map_take,← List.map_take,Qga h hi]; rfl
theorem Qf9 {O : List Pt} : Sx O O.length = Jw O O.length := by unfold Sx Jw; simp
abbrev H3 (n d : Int) : Rat := Zi (Rh n 61 - 30) (1 + Rh d 6)
theorem Qbx (n d : Int) : Qs 100 (H3 n d) := by
  have h1 : Rh n 61 = n % 61 := rfl
  have h2 : Rh d 6 = d % 6 := rfl
  unfold H3 Zi
  rw [if_neg (by omega)]
  exact Qs.divInt (Nat.le_trans (Jq.2 (show (Rh n 61 - 30).natAbs < 2 ^ 10 by omega)) (by decide)) (Nat.le_trans (Jq.2 (show (1 + Rh d 6).natAbs < 2 ^ 10 by omega)) (by decide)) (by decide)
theorem Q0d {n : Nat} {most : Int} {l : List RawPt} : ∀ p ∈ Dh n most l,0 ≤ p.id ∧ p.id < 1000 := fun p hp => by
  rcases Nc _ _ hp with h | h
  · cases h
  · obtain ⟨z,_,rfl⟩ := List.mem_map.1 h
    exact ⟨Int.emod_nonneg _ (by decide),Int.emod_lt_of_pos _ (by decide)⟩
theorem Qoe {zs : List RawPt} {n d : Int} {O M : List Pt} {e : Nat} {c : List (List Int)} (hz : ∀ z ∈ zs, z.Ok) (hO : Dh 4 20 zs = O) (he : e ≤ O.length) (hd : Ff (Jw O e)) (hm : e < O.length → ¬ Ff (Jw O (e + 1))) (hn : -9223372036854775808 ≤ n ∧ n ≤ 9223372036854775807) (hdd : -9223372036854775808 ≤ d ∧ d ≤ 9223372036854775807) (hC : Qko (H3 n d) c) (hM : M = Z8 Pj (Rt O e)) :
    Ja Tryz.prog 54 [.one (.row (Bi zs)),.one (.int .i64 n),.one (.int .i64 d)] [] [.one (.ow 0 0),.one (.ow 1 0),.one (.bool true)] [.blk 96 (Re (Qhx M (tq (H3 n d))) (Qt M) (brS M (tq (H3 n d)))),.blk 128 (plB M (H3 n d) c (Pv (H3 n d) M))] := by
  have hO4 : O.length ≤ 4 := by rw [← hO]; exact Tc _ _ (Nat.zero_le _)
  have hid : ∀ p ∈ O,-9223372036854775808 ≤ p.id ∧ p.id ≤ 9223372036854775807 := fun p hp => by
    rw [← hO] at hp; have := Q0d p hp; omega
  have hlit : ∀ p ∈ O,Qnz p := fun p hp => by rw [← hO] at hp; exact Qa9 (by decide) p hp
  have hcl : (Jw O e).length = e := M6 he
  have hcn : (Rt O e).length = e := by rw [Lb,hcl]
  have hMl : M.length = e := by rw [hM,J6,hcn]
  have hok : ∀ p ∈ M,Nml p.c ∧ Cs 10 3 p.c := fun p hp => by rw [hM,Wh] at hp; exact Qlt hlit e p hp
  have hq := Qbx n d
  obtain ⟨q,hqq⟩ : ∃ q,q = H3 n d := ⟨_,rfl⟩
  have cb := Qym (l := Rt O e) (by omega)
  rw [← hM] at cb
  rw [← hqq] at hq hC ⊢
  have csm := Qyc hn hdd
  have c2 := Qie (M := M) (q := q) (c := c) (fun p hp => ⟨(hok p hp).1,(hok p hp).2.mono (by decide) (by decide)⟩) (by omega) (hq.mono (by decide)) hC
  have ctr := Q1y (q := q) (hq.mono (by decide))
  have hnl := Qpi (qs := Rt O e) (by omega) (Qag hd)
  have hnl2 : Jr [] (Rt O e) = (M,0) := by rw [hM,← hnl.2,← hnl.1]
  have cs := Qk5 (zs := Qt (Jw O e)) (qs := Rt O e) (l := M) (n := q.num) (d := (q.den : Int)) (Qa4 fun p hp => (Qfb hlit e p hp).mono (by decide) (by decide)) (by omega) hnl2 (fun p hp => ⟨(hok p hp).1,(hok p hp).2.mono (by decide) (by decide)⟩) (by omega) (Qe q.num) (Qe (q.den : Int)) (Nat.le_trans hq.1 (by decide)) (Nat.le_trans hq.2 (by decide)) (by rw [H1]; exact hq.mono (by decide))
  rw [H1] at cs
  rw [show Zi (Rh n 61 - 30) (1 + Rh d 6) = q from hqq.symm] at csm
  have cp := Qoa hz
  rw [hO] at cp
  refine Z6 Tryz.func54 rfl ?_
  refine go tt [.c [0,1] cp] rfl trivial ?_
  have h0l := Yo O
  refine ct 2 (S := Unit) (fun _ => [(1,.v (.one (.int .i64 n))),(2,.v (.one (.int .i64 d))),(9,.v (.one (.row (Qt (Jw O e))))),(10,.v (.one (.row (Q3 (Rt O e)))))]) (fun _ => [.gone,.gone]) (fun _ => True) rfl ?_ (fun _ _ => ?_)
  · refine lp (S := Nat) 2 (fun L1 i => (23,.v (.one (.int .i64 (i : Int)))) :: (9,.v (.one (.orow 0 5 none))) :: (10,.v (.one (.orow 1 7 none))) :: L1) (fun i => [.row false 35 5 (Qt (Sx O i)),.row false 112 7 (Q3 ((Sx O i).map Pt.nrm))]) (fun i => O.length - i) (fun i => i ≤ O.length ∧ i ≤ e ∧ Ff (Jw O i)) 0 ⟨Nat.zero_le _,Nat.zero_le _,List.Pairwise.nil⟩ rfl (fun _ _ => rfl) (by rw [Qug]; rfl) fun i ⟨hi,hie,hdi⟩ => ?_
    have hl1 : (Qt (Sx O (i + 1))).length = O.length := by rw [Yo,Em]
    have hl0 : (Qt (Sx O i)).length = O.length := by rw [Yo,Em]
    have hr0 : (Q3 ((Sx O i).map Pt.nrm)).length = O.length := by rw [Jo,List.length_map,Em]
    have hr1 : (Q3 ((Sx O (i + 1)).map Pt.nrm)).length = O.length := by rw [Jo,List.length_map,Em]
    by_cases h : i < O.length
    · obtain ⟨p,hp⟩ : ∃ p,O[i]? = some p := ⟨_,List.getElem?_eq_getElem h⟩
      have hx := Qzs hp
      have hxn : ((Sx O i).map Pt.nrm)[i]? = some p.nrm := by rw [List.getElem?_map,hx]; rfl
      have cw := Mx (v := p.id) (n := 5) (hid p (List.mem_of_getElem? hp)) (by decide)
      rw [show Rh p.id 5 = p.m5.id from rfl] at cw
      refine go tt [.t (decide_eq_true (by omega)),.i i,.x (Vb hx),.c [] cw,.i i,.x (Vb hx),.c [] cw,.i i,.x (Vb hx),.i i,.x (Jk hxn)] rfl (by simp [Qa,hl0,hr0]; omega) ?_
      rw [Qds hp,O5 hp]
      refine lp (S := Nat) 2 (fun L1 j => (12,.v (.one (.int .i64 (j : Int)))) :: (9,.v (.one (.orow 0 5 none))) :: (10,.v (.one (.orow 1 7 none))) :: L1) (fun _ => [.row false 35 5 (Qt (Sx O (i + 1))),.row false 112 7 (Q3 ((Sx O (i + 1)).map Pt.nrm))]) (fun j => i - j) (fun j => j ≤ i ∧ ∀ k x,k < j → O[k]? = some x → x.m5.id ≠ p.m5.id) 0 ⟨Nat.zero_le _,fun k x h => absurd h (Nat.not_lt_zero _)⟩ rfl (fun _ _ => rfl) rfl fun j ⟨hj,hjn⟩ => ?_
      by_cases hji : j < i
      · obtain ⟨x,hxj⟩ : ∃ x,O[j]? = some x := ⟨_,List.getElem?_eq_getElem (by omega)⟩
        have g1 := Qmq (i := i + 1) (show j < i + 1 by omega) hxj
        have g2 := Qmq (i := i + 1) (show i < i + 1 by omega) hp
        by_cases hq : x.m5.id = p.m5.id
        · have hnd : ¬ Ff (Jw O (i + 1)) := fun hD => by
            have := List.pairwise_iff_getElem.1 hD j i (by rw [M6 (by omega)]; omega) (by rw [M6 (by omega)]; omega) hji
            refine this ?_
            have e1 : (Jw O (i + 1))[j]? = some x.m5 := by unfold Jw; rw [List.getElem?_map,List.getElem?_take,if_pos (by omega),hxj]; rfl
            have e2 : (Jw O (i + 1))[i]? = some p.m5 := by unfold Jw; rw [List.getElem?_map,List.getElem?_take,if_pos (by omega),hp]; rfl
            rw [(List.getElem?_eq_some_iff.1 e1).2,(List.getElem?_eq_some_iff.1 e2).2]; exact hq
          have hie2 : i = e := by
            rcases Nat.lt_or_ge i e with h3 | h3
            · exact absurd (Qy6 hd h3) hnd
            · omega
          have c1 : (Qt (Sx O (i + 1))).take i = Qt (Jw O e) := by rw [Qpr (by omega) (by omega),hie2]
          have c2 : (Q3 ((Sx O (i + 1)).map Pt.nrm)).take i = Q3 (Rt O e) := by rw [Qj1 (by omega) (by omega),hie2]
          refine go tt [.t (decide_eq_true (by omega)),.i j,.x (Vb g1),.i i,.x (Vb g2),.t (decide_eq_true hq),.i i,.i i] rfl (by simp [Qa,hl1,hr1]; omega) ?_
          refine pz 0 rfl rfl ?_
          refine pz 1 rfl rfl ?_
          exact go tt [.t (decide_eq_true (by omega))] rfl trivial (rc () trivial (by rw [c1,c2]; rfl))
        · refine go tt [.t (decide_eq_true (by omega)),.i j,.x (Vb g1),.i i,.x (Vb g2),.f (decide_eq_false hq)] rfl (by simp [Qa,hl1]; omega) ?_
          exact rd (j + 1) (by omega) ⟨hji,fun k y hk hy => by
            rcases Nat.lt_or_ge k j with h3 | h3
            · exact hjn k y h3 hy
            · have : k = j := by omega
              subst this; rw [hxj] at hy; injection hy with hy; rw [← hy]; exact hq⟩ rfl
      · have hji2 : j = i := by omega
        rw [hji2] at hjn
        have hD := Qox hp hdi hjn
        have hle : i + 1 ≤ e := by
          rcases Nat.lt_or_ge i e with h3 | h3
          · exact h3
          · have : i = e := by omega
            rw [this] at hD h
            exact absurd hD (hm h)
        refine go tt [.f (decide_eq_false (by omega)),.f (decide_eq_false (by omega))] rfl (by simp [Qa]; omega) ?_
        exact rd (i + 1) (by omega) ⟨h,hle,hD⟩ rfl
    · have hiO : i = O.length := by omega
      have hie2 : i = e := by omega
      have c1 : Qt (Sx O i) = Qt (Jw O e) := by rw [← hie2,hiO,Qf9]
      have c2 : Q3 ((Sx O i).map Pt.nrm) = Q3 (Rt O e) := by rw [← hie2,hiO,Qf9]; rfl
      refine go tt [] rfl trivial ?_
      rw [c1,c2]
      refine pz 0 rfl rfl ?_
      refine pz 1 rfl rfl ?_
      exact go tt [.f (decide_eq_false (by omega))] rfl trivial (rc () trivial rfl)
  · exact ed tt [] [3,2] [.c [] cb,.c [] csm,.c [2] c2,.c [] ctr,.c [3] cs,.g 96 true rfl] rfl trivial
end Orr

namespace Orr
open Go Go.Proofs Orq
theorem Qv6 {x y : Int} (hx : -9223372036854775808 ≤ x ∧ x ≤ 9223372036854775807) (hy : -9223372036854775808 ≤ y ∧ y ≤ 9223372036854775807) : Sc (Qwm x y) := ⟨Crv.nml _,((Qfa hx hy).norm (by decide)).mono (by decide) (by decide)⟩
theorem Sc.pt {p : Pt} (h : Sc p.c) : Qqd 4294967294 1073741824 p := ⟨h.n,h.c.mono (by decide) (by decide)⟩
end Orr

namespace Orr
open Go Go.Proofs
set_option maxRecDepth 10000
theorem Qq9 {n : Nat} (hn : n ≤ 256) : Qc Tryz.prog 160 [.agg (Zg 1),.one (.int .i64 (n : Int))] [.agg (Zg 1)] := by
  have cm := K7 (Qe 1) (Qe 1) (by decide) (by decide)
  rw [show (1 : Int) * 1 = 1 from rfl] at cm
  refine Z6 Tryz.func160 rfl ?_
  refine go tt [.c [] (Oo (z := 1) (by decide)),.r 8 (v := .one (.int .i64 (n : Int))) (by simp; omega),.r 9 (v := .one (.int .i64 (n : Int))) (by simp)] rfl trivial ?_
  refine lp (S := Nat) 3 (fun L1 i => (10,.v (.one (.int .i64 (i : Int)))) :: L1) (fun _ => [.blk 29 (Zg 1),.blk 29 [.bool false,.nils],.blk 29 (Zg 1)]) (fun i => n - i) (fun i => i ≤ n) 0 (Nat.zero_le _) rfl (fun _ _ => rfl) rfl fun i hi => ?_
  by_cases h : i < n
  · refine go tt [.t (by simp; omega),.c [] cm] rfl (by simp [Qa]; omega) ?_
    exact rd (i + 1) (by omega) h rfl
  · obtain rfl : i = n := by omega
    exact en tt [.f (by simp)] rfl rfl trivial
theorem Qx5 : Qc Tryz.prog 157 [pr [],.agg (Zg 0),.agg (Zg 1)] [pr [],.one (.int .i64 0)] := by
  have n0 := Yt (Qe 0) (by decide)
  have n1 := Yt (Qe 1) (by decide)
  have cn := Z7 (p := []) rfl (by decide) K5
  refine Z6 Tryz.func157 rfl ?_
  refine go tt [.c [] n1,.c [] (Ua (z := 1)),.f rfl,.c [] cn,.z 8,.c [] n0,.c [] n1,.c [] (Oo (z := 1) (by decide))] rfl (by simp [Qa]) ?_
  refine lp (S := Unit) 3 (fun L1 _ => (11,.v (.one (.int .i64 (-1)))) :: (8,.v (pr [])) :: L1) (fun _ => [.blk 29 (Zg 0),.blk 29 (Zg 1),.blk 29 (Zg 1)]) (fun _ => 0) (fun _ => True) () trivial rfl (fun _ _ => rfl) rfl fun _ _ => ?_
  exact en tt [.f (b := decide ((0 : Int) ≤ -1)) (by decide)] rfl rfl trivial
theorem Qx6 : Qc Tryz.prog 157 [pr [0,1],.agg (Zg 0),.agg (Zg 1)] [pr [0,1],.one (.int .i64 0)] := by
  have n0 := Yt (Qe 0) (by decide)
  have n1 := Yt (Qe 1) (by decide)
  have b01 : Bd 4 ([0,1] : List Int) := fun z hz => by rcases List.mem_cons.1 hz with rfl | hz; decide; rw [List.mem_singleton.1 hz]; decide
  have b1 : Bd 4 ([1] : List Int) := fun z hz => by rw [List.mem_singleton.1 hz]; decide
  have b0 : Bd 4 ([0] : List Int) := fun z hz => by rw [List.mem_singleton.1 hz]; decide
  have cn := Z7 (p := [0,1]) rfl (by decide) (Qd b01 (by decide))
  have m1 := Qh6 (p := []) (q := [0,1]) (s := 4) (t := 4) rfl rfl (by decide) (by decide) K5 b01 (by decide)
  have m2 := Qh6 (p := [1]) (q := [0,1]) (s := 4) (t := 4) rfl rfl (by decide) (by decide) b1 b01 (by decide)
  have a1 := Qh5 (p := []) (q := [1]) (by decide) (by decide) K5 (Qd b1 (by decide))
  have a2 := Qh5 (p := [0,1]) (q := [0]) (by decide) (by decide) (Qd b01 (by decide)) (Qd b0 (by decide))
  rw [show Zl [] [0,1] = [] from rfl] at m1
  rw [show Zl [1] [0,1] = [0,1] from rfl] at m2
  rw [show Pk [] [1] = [1] from rfl] at a1
  rw [show Pk [0,1] [0] = [0,1] from rfl] at a2
  have w1 := K7 (Qe 1) (Qe 1) (by decide) (by decide)
  have w0 := K7 (Qe 0) (Qe 1) (by decide) (by decide)
  rw [show (1 : Int) * 1 = 1 from rfl] at w1
  rw [show (0 : Int) * 1 = 0 from rfl] at w0
  refine Z6 Tryz.func157 rfl ?_
  refine go tt [.c [] n1,.c [] (Ua (z := 1)),.f rfl,.c [] cn,.z 8,.c [] n0,.c [] n1,.c [] (Oo (z := 1) (by decide)),.r 25 (eI (b := 1) rfl)] rfl (by simp [Qa]) ?_
  refine lp (S := Nat) 3 (fun L1 k => (11,.v (.one (.int .i64 (if k = 2 then 1 else if k = 1 then 0 else -1)))) :: (8,.v (pr (if k = 2 then [] else if k = 1 then [1] else [0,1]))) :: L1) (fun _ => [.blk 29 (Zg 0),.blk 29 (Zg 1),.blk 29 (Zg 1)]) (fun k => k) (fun k => k ≤ 2) 2 (Nat.le_refl _) rfl (fun _ _ => rfl) rfl fun k hk => ?_
  rcases (show k = 0 ∨ k = 1 ∨ k = 2 by omega) with rfl | rfl | rfl
  · exact en tt [.f (b := decide ((0 : Int) ≤ -1)) (by decide)] rfl rfl trivial
  · refine go tt [.t rfl,.c [] m2,.x (i := 0) (xs := Zg 0) rfl,.c [] w0,.c [] a2,.c [] w1,.r 29 (eI (b := -1) rfl)] rfl (by simp [Qa]) ?_
    exact rd 0 (by omega) (by omega) rfl
  · refine go tt [.t rfl,.c [] m1,.x (i := 1) (xs := Zg 1) rfl,.c [] w1,.c [] a1,.c [] w1,.r 29 (eI (b := 0) rfl)] rfl (by simp [Qa]) ?_
    exact rd 1 (by omega) (by omega) rfl
abbrev Qv2 : Crv := ⟨[0,1],[],1⟩
theorem Qge : Nml Qv2 := ⟨rfl,rfl,by decide,by decide⟩
theorem cs_run1 : Cs 3 3 Qv2 := by
  refine ⟨fun z hz => ?_,fun z hz => (by cases hz),by decide,by decide,by decide⟩
  rcases List.mem_cons.1 hz with rfl | hz
  · decide
  · rw [List.mem_singleton.1 hz]; decide
theorem Cs.up {s n s' n' : Nat} {k : Crv} (h : Cs s n k) (hs : s ≤ s') (hn : n ≤ n') : Cs s' n' k := ⟨Qd h.x hs,Qd h.y hs,Nat.le_trans h.d hs,Nat.le_trans h.lx hn,Nat.le_trans h.ly hn⟩
theorem Qyr {x y x' y' : LV} {n d : Int} (h1 : Xl x y n) (h2 : Xl x' y' d) (hn : Qm n ≤ 4294967295) (hd : Qm d ≤ 4294967295) (hq : Qs 4294967295 (Zi n d)) : Qc Tryz.prog 156 [.agg [x,y,x',y']] [.agg (rl (-(Zi n d)))] := by
  have c1 := M4 h1 h2 hn hd
  obtain ⟨b,l,rfl,rfl,_⟩ := h1
  obtain ⟨b',l',rfl,rfl,_⟩ := h2
  exact w tt Tryz.func156 rfl [.c [] c1,.c [] (Dy (Qe _) hq.1)] rfl rfl trivial
theorem Q3f : Qc Tryz.prog 95 [.one (.row [[.bool false,.row []],[.bool false,.row [[.int .u32 1]]]]),.one (.row []),.agg [.bool false,.row [],.bool false,.row []]] [.agg (cl Qv2)] := by
  have i01 : IsInts [[.bool false,.row []],[.bool false,.row [[.int .u32 1]]]] [0,1] := by
    refine ⟨⟨_,_,rfl,false,[],rfl,rfl,(fun x hx => by cases hx),rfl⟩,⟨_,_,rfl,false,[1],rfl,rfl,(fun x hx => by rw [List.mem_singleton.1 hx]; decide),rfl⟩,trivial⟩
  have cn := Wl i01 (by decide) (Qd cs_run1.x (by decide))
  have cn0 := Z7 (p := []) rfl (by decide) K5
  rw [show trim [0,1] = [0,1] from rfl] at cn
  have cg := Qyr Yh Yh (by decide) (by decide) (show Qs 4294967295 (Zi 0 0) from ⟨by decide,by decide⟩)
  rw [show -(Zi 0 0) = 0 from by decide] at cg
  have p0 := Qq9 (n := 0) (by decide)
  have p1 := Qq9 (n := 1) (by decide)
  have s1 := Wx (p := [0,1]) (c := 1) (by decide) (Qd cs_run1.x (by decide)) (by decide)
  have s0 := Wx (p := []) (c := 1) (by decide) K5 (by decide)
  rw [show Qu [0,1] 1 = [0,1] from rfl] at s1
  rw [show Qu [] 1 = [] from rfl] at s0
  have ck := Qrm Qge (cs_run1.up (by decide) (by decide))
  refine Z6 Tryz.func95 rfl ?_
  refine go tt [.c [] cn,.c [] cn0,.c [] cg,.c [] Qx6,.c [] Qx5,.c [] (Y3 _),.r 40 (eI (b := 1) (by decide)),.c [] (Y3 _),.r 43 (eI (b := 0) (by decide)),.r 46 (eI (b := ((1 : Nat) : Int)) (by decide))] rfl (by simp [Qa]) ?_
  exact en tt [.r 52 (eI (b := ((0 : Nat) : Int)) (by decide)),.c [] p0,.c [] s1,.r 60 (eI (b := ((1 : Nat) : Int)) (by decide)),.c [] p1,.c [] s0,.c [] p1,.c [] ck] rfl rfl (by simp [Qa])
end Orr

namespace Orr
open Go Go.Proofs Orq
set_option maxRecDepth 10000
theorem Qtt {Bc : Tm → List Ct} {Br : Tm → List (List LV)} {t : Rat} : ∀ {k : Nat} {c c' : Cr} {r r' : List (List LV)} {n n' : Int},goF Bc Br t k c r n = some (c',r',n') → r' = r ∨ ∃ a,r' = Br a
  | 0,_,_,_,_,_,_,h => by cases h
  |
   k + 1,c,c',r,r',n,n',h => by
   simp only [goF] at h
   obtain ⟨ws,_,h⟩ := Option.bind_eq_some_iff.1 h
   obtain ⟨o,_,h⟩ := Option.bind_eq_some_iff.1 h
   cases o with
   | none => injection h with h; injection h with _ h; injection h with h _; exact .inl h.symm
   |
    some a =>
    dsimp only at h
    split at h
    · injection h with h; injection h with _ h; injection h with h _; exact .inl h.symm
    · obtain ⟨w2,_,h⟩ := Option.bind_eq_some_iff.1 h
      rcases Qtt h with e | e
      · exact .inr ⟨a,e⟩
      · exact .inr e
abbrev wkP : List Pt := [⟨Qv2,1⟩,⟨Qwm 1 0,2⟩]
def Q2i (l : List LV) : Int := match l with
  | [_,_,_,_,.int _ z] => z
  | _ => 0
theorem Qt4 (l : List Pt) : (Qt l).map Q2i = l.map (·.id) := by
  simp only [Qt,List.map_map]; rfl
theorem Q8j : (goF (bcS wkP) (brS wkP) 1 5 (Qhx wkP (tq 0)) (brS wkP (tq 0)) 0).map (fun x => (x.2.1.map Q2i,x.2.2)) = some ([2,1],1) := by decide +kernel
theorem Q5p : (Bb (tq 0) wkP).map (·.id) = [1,2] := by decide +kernel
theorem Q0w : Sc Qv2 := ⟨Qge,cs_run1.up (by decide) (by decide)⟩
theorem Qnx : ∀ p ∈ wkP,Sc p.c := fun p hp => by
  rcases List.mem_cons.1 hp with rfl | hp
  · exact Q0w
  · rw [List.mem_singleton.1 hp]; exact Qv6 (by decide) (by decide)
theorem Qot : Qc Tryz.prog 45 [] [.one (.bool true)] := by
  have hq : Qs 900 (Zi 0 0) := ⟨by decide,by decide⟩
  have ez : Zi 0 0 = 0 := by decide
  have zp : IsPts 4294967294 1073741824 (Qt wkP) wkP := Qmd fun p hp => (Qnx p hp).pt
  have hnl : Jr [] wkP = (wkP,0) := rfl
  have cn := Qk5 (qs := wkP) zp (by decide) hnl Qnx (by decide) Yh Yh (by decide) (by decide) hq
  rw [ez] at cn
  have ci := Qh8 (c := Qhx wkP (tq 0)) (l := wkP) (s := Bb (tq 0) wkP) (by rw [W5]; decide)
  rw [Q5p] at ci
  have cs := Qrf (a := [1,2]) (b := [1,2]) (by decide) (by decide)
  have cs2 := Qrf (a := [2,1]) (b := [2,1]) (by decide) (by decide)
  obtain ⟨x,hx,hx2⟩ := Option.map_eq_some_iff.1 Q8j
  obtain ⟨c',r',n'⟩ := x
  injection hx2 with h3 h4
  dsimp only at h3 h4
  subst h4
  obtain ⟨s,hs,hsl⟩ : ∃ s,r' = Qt s ∧ s.length ≤ 1000000 := by
    rcases Qtt hx with e | ⟨a,e⟩
    · exact ⟨_,e,by rw [W5]; decide⟩
    · exact ⟨_,e,by rw [W5]; decide⟩
  subst hs
  rw [Qt4] at h3
  have hB := Qb8 Qnx (by decide)
  have hv : Va (tq 0) := Q5l (by rw [← ez]; exact hq)
  have hc : CrOk (Qhx wkP (tq 0)) := ⟨hv, fun w hw => by
      obtain ⟨x,hx,rfl⟩ := List.mem_map.1 hw
      exact ⟨hB.p _ hv x (S9 hx),fun t ht => by cases ht⟩,by
      show ((Xu (bcS wkP (tq 0))).map fresh).length ≤ 1000
      rw [List.length_map,V1]; exact hB.n _ hv⟩
  have ca := Q3g (t := 1) ⟨by decide,by decide⟩ Qnx (by decide) hc ⟨by decide,by decide⟩ (by decide +kernel) hx
  have ci2 := Qh8 (c := c') (l := wkP) (s := s) hsl
  rw [h3] at ci2
  have co := Cf (n := 1) (by decide)
  have ct := Q1y (q := 1) ⟨by decide,by decide⟩
  refine Z6 Tryz.func45 rfl ?_
  exact en tt [.z 6,.c [] Q3f,.c [] (Qyd (by decide) (by decide)),.c [0] cn,.g 21 false rfl,.g 25 false rfl,.c [0] ci,.c [] cs,.f rfl,.c [] co,.c [] ct,.c [0] ca,.g 41 true rfl,.g 45 true rfl,.c [0] ci2,.c [] cs2] rfl rfl trivial
end Orr

namespace Orr
open Go Go.Proofs Orq
set_option maxRecDepth 10000
theorem Qfo : ∀ {l : List Pt} {id : Int},(∃ p ∈ l,p.id = id) → 0 ≤ Vy l id
  | [],_,⟨p,h,_⟩ => absurd h (by simp)
  |
   x :: l,id,⟨p,h,e⟩ => by
   simp only [Vy]
   split
   · omega
   · rename_i hx
     have ih := Qfo (l := l) (id := id) ⟨p,by
       rcases List.mem_cons.1 h with rfl | h
       · exact absurd e hx
       · exact h,e⟩
     rw [if_neg (by omega)]; omega
theorem Qoq {O : List Pt} {e : Nat} : ∀ p ∈ Rt O e,0 ≤ p.id ∧ p.id < 5 := fun p hp => by
  obtain ⟨x,hx,rfl⟩ := List.mem_map.1 hp
  obtain ⟨y,hy,rfl⟩ := List.mem_map.1 hx
  exact ⟨Int.emod_nonneg _ (by decide),Int.emod_lt_of_pos _ (by decide)⟩
theorem Qqn {l : List Pt} {a : Tm} (hl : ∀ p ∈ l,Sc p.c) (hn : l.length ≤ 1000) (ha : Va a) : CrOk (Qhx l a) := by
  have hB := Qb8 hl hn
  refine ⟨ha,fun w hw => ?_,?_⟩
  · obtain ⟨x,hx,rfl⟩ := List.mem_map.1 hw
    exact ⟨hB.p _ ha x (S9 hx),fun t ht => by cases ht⟩
  · show ((Xu (bcS l a)).map fresh).length ≤ 1000
    rw [List.length_map,V1]; exact hB.n _ ha
theorem Qah {l m : List Pt} (h : l.Perm m) (hd : Ff l) : Ff m := (h.pairwise_iff (fun h => fun e => h e.symm)).1 hd
set_option maxHeartbeats 4000000 in
theorem Ot {zs : List RawPt} {n d : Int} (hz : ∀ z ∈ zs,z.Ok) (hn : -9223372036854775808 ≤ n ∧ n ≤ 9223372036854775807) (hdd : -9223372036854775808 ≤ d ∧ d ≤ 9223372036854775807) : Qc Tryz.prog 10 [.one (.row (Bi zs)),.one (.int .i64 n),.one (.int .i64 d)] [.one (.bool true)] := by
  obtain ⟨e,he,hd,hm⟩ := Q3s (Dh 4 20 zs)
  have hq0 := Qbx n d
  have cb := Qoe hz rfl he hd hm hn hdd (Q68 (hq0.mono (by decide))) rfl
  obtain ⟨O,hO⟩ : ∃ O,O = Dh 4 20 zs := ⟨_,rfl⟩
  have hO4 : O.length ≤ 4 := by rw [hO]; exact Tc _ _ (Nat.zero_le _)
  have hlit : ∀ p ∈ O,Qnz p := fun p hp => by rw [hO] at hp; exact Qa9 (by decide) p hp
  rw [← hO] at cb he hd
  obtain ⟨M,hM⟩ : ∃ M,M = Z8 Pj (Rt O e) := ⟨_,rfl⟩
  rw [← hM] at cb
  obtain ⟨q,hq⟩ : ∃ q,q = H3 n d := ⟨_,rfl⟩
  rw [← hq] at cb hq0
  have hcn : (Rt O e).length = e := by rw [Lb,M6 he]
  have hMl : M.length = e := by rw [hM,J6,hcn]
  have hMd : Ff M := by rw [hM]; exact Qah (Od _).symm (Qag hd)
  have hsc : ∀ p ∈ M,Sc p.c := fun p hp => by
    rw [hM,Wh] at hp
    have := Qlt hlit e p hp
    exact ⟨this.1,this.2.mono (by decide) (by decide)⟩
  have h5 : ∀ p ∈ M,0 ≤ p.id ∧ p.id < 5 := fun p hp => by rw [hM,Wh] at hp; exact Qoq p hp
  have hln : M.length ≤ 1000 := by omega
  have hv : Va (tq q) := Q5l (hq0.mono (by decide))
  obtain ⟨s,hs⟩ : ∃ s,s = Bb (tq q) M := ⟨_,rfl⟩
  have hbr : brS M (tq q) = Qt s := by rw [hs]
  rw [hbr] at cb
  have hsl : s.length = e := by rw [hs,W5,hMl]
  have hsm : ∀ p,p ∈ s ↔ p ∈ M := fun p => by rw [hs]; exact Be
  have hsd : Ff s := by rw [hs]; exact Qah (Od _).symm hMd
  obtain ⟨c,hc⟩ : ∃ c,c = Qhx M (tq q) := ⟨_,rfl⟩
  have hok : CrOk c := by rw [hc]; exact Qqn hsc hln hv
  have hcl : (Z2 (Xu (c.l.map (·.c)))).length = e - 1 := by
    rw [Uz,V1,List.length_map,hc]
    show ((Xu (bcS M (tq q))).map fresh).length = _
    rw [List.length_map,V1]
    show (Y5 (Ll (tq q)) (Bb (tq q) M)).length = _
    rw [Wd,W5,hMl]
  rw [← hc] at cb
  have cI := Qh8 (c := c) (l := M) (s := s) (by omega)
  have cC := Qqw (T := 96) (c := c) (r0 := Qt M) (r1 := Qt s) hok
  have hil : (List.map (fun (z : Int) => [LV.int .i64 z]) (List.map (fun (x : Pt) => x.id) s)).length = e := by rw [List.length_map,List.length_map,hsl]
  have hrl := Jo M
  refine Z6 Tryz.func10 rfl ?_
  refine go tt [.c [0,1] cb,.f rfl,.c [0] cI] rfl trivial ?_
  refine lp (S := Nat) 2 (fun L1 i => (30,.v (.one (.int .i64 (i : Int)))) :: L1) (fun _ => [.blk 96 (Re c (Qt M) (Qt s)),.blk 128 (plB M q [[-q.num,(q.den : Int)],[1]] (Pv q M))]) (fun i => e - i) (fun i => i ≤ e) 0 (Nat.zero_le _) rfl (fun _ _ => rfl) rfl fun i hi => ?_
  by_cases h : i < e
  · obtain ⟨p,hp⟩ : ∃ p,s[i]? = some p := ⟨_,List.getElem?_eq_getElem (by omega)⟩
    have hpg : (idl (s.map (·.id)))[i]? = some [.int .i64 p.id] := Nh (by rw [List.getElem?_map,hp]; rfl)
    have cr := Qk4 (c := c) (l := M) (s := s) (id := p.id) (by omega) (r := some i) ⟨⟨p,hp,rfl⟩,fun j x hj hx => by
      have h1 := List.pairwise_iff_getElem.1 hsd j i (by omega) (by omega) hj
      rw [(List.getElem?_eq_some_iff.1 hx).2,(List.getElem?_eq_some_iff.1 hp).2] at h1
      exact h1⟩
    have cf := Qrr (M := M) (q := q) (c := [[-q.num,(q.den : Int)],[1]]) (w := Pv q M) (id := p.id) (by omega)
    have hf := Qfo (l := M) (id := p.id) ⟨p,(hsm p).1 (List.mem_of_getElem? hp),rfl⟩
    refine go tt [.t (decide_eq_true (by omega)),.x hpg,.c [0] cr,.g 44 false rfl,.g 49 false (decide_eq_false (by simp)),.x hpg,.c [1] cf,.f (decide_eq_false (by omega))] rfl (by simp [Qa]; omega) ?_
    exact rd (i + 1) (by omega) h rfl
  have cr := Qk4 (c := c) (l := M) (s := s) (id := 77) (by omega) (r := none) (fun p hp => by have := h5 p ((hsm p).1 hp); omega)
  have hie : i = e := by omega
  exact en tt [.f (decide_eq_false (by omega)),.c [0] cr,.g 72 true (decide_eq_true (by omega)),.g 76 true rfl,.c [0] cC,.g 88 true (decide_eq_true (by omega)),.c [] Qot] rfl rfl (by simp [Qa]; omega)
end Orr

namespace Orr
open Go Go.Proofs
variable {H : Type} {enc : TypeId × Value → H} {w : World} {base : Nat} {spare : Nat → Bool} {held : Bool}
theorem U5 {α : Type} {l : List α} {n i : Nat} (h : l.length = n) (hi : i < n) : ∃ x,l[i]? = some x := ⟨l[i]'(by omega),List.getElem?_eq_getElem (by omega)⟩
end Orr

namespace Orr
open Go Go.Proofs Go.ChangeShapes Go.WideShapes Go.ChangeAt Go.RowKit Go.WideElems
theorem Qyw {w : World} {a : Addr} {v : Value} (h : w.cell? a = some v) : a.spot = none ∧ a.block < w.heap.size := by
  simp only [World.cell?] at h
  split at h
  · rename_i c t fr hc
    split at h
    · cases h
    · rename_i hs
      refine ⟨by cases e : a.spot with | none => rfl | some _ => simp [e] at hs,?_⟩
      exact (Array.getElem?_eq_some_iff.1 hc).1
  · cases h
theorem Qxn {a : Addr} (h : a.spot = none) (n m : Nat) : (a.add n).add m = ⟨a.block,a.off + n + m,none⟩ := by
  obtain ⟨b,o,s⟩ := a
  simp only at h
  subst h
  simp only [Addr.add]
  split
  · rename_i h; subst h
    split
    · rename_i h; subst h; simp
    · simp
  · split
    · rename_i h; subst h; simp
    · simp
def fr0 (w : World) : Fr := ⟨fun b => b < w.heap.size,fun _ => False,w,fun _ => False,fun _ => none⟩
theorem hs0 (w : World) : HS (fr0 w) (ob []) (nw []) (fun _ => none) (fun _ => False) w where
  size := Nat.le_refl _
  kept := fun b hb => ⟨hb,rfl,Iff.rfl⟩
  ids := fun i h => h.elim
  nj := fun i h => by rw [Qdl] at h; cases h
  io := ⟨rfl,rfl⟩
  blk := fun i => by rw [Qdl]; trivial
  nk := fun i g c m h _ => by rw [Qdl] at h; cases h
  inj := fun i j g c m c' m' h _ _ _ => by rw [Qdl] at h; cases h
  mlt := fun b h => h.elim
  m0 := fun b _ h => h.elim
  un := fun i _ => ⟨rfl,rfl⟩
  uj := fun i _ h => h.elim
theorem Q0v {w w' : World} {bl : Nat → OB} {U : Nat → Prop} {E : V6} {M : Nat → Prop} (h : HS (fr0 w) bl U E M w') {p : MemPlace} (hp : p.block < w.heap.size) : w.sameAt w' p := by
  cases p with
  | cell b off => simp only [World.sameAt,World.cell?]; rw [(h.kept b hp).2.1]; rfl
  | map b => exact (h.kept b hp).2.1
theorem Qzj {w w' : World} {bl : Nat → OB} {U : Nat → Prop} {E : V6} {M : Nat → Prop} (h : HS (fr0 w) bl U E M w') (may : MemPlace → Prop) : w.keptBut w' may := by
  refine ⟨h.io.1,h.io.2,fun i hi => ?_⟩
  have e : w'.heap[i]? = w.heap[i]? := (h.kept i hi).2.1
  rw [e]
  cases w.heap[i]? with
  | none => rfl
  | some o => cases o <;> simp
end Orr

namespace Orr
open Go Go.Proofs Go.ChangeShapes Go.WideShapes Go.ChangeAt Go.RowKit Go.WideElems
theorem Sj {H : Type} {P : Program} {e : TypeId} : ∀ {l : List (DataW H)} {i : Nat} {d : DataW H},l[i]? = some d → ∀ n ∈ d.weights P e,n ∈ DataW.weightsAll P e l
  | [],i,d,h,_,_ => by simp at h
  |
   x :: l,0,d,h,n,hn => by
   simp at h; subst h
   simp only [DataW.weightsAll,List.mem_append]; exact .inl hn
  |
   x :: l,i + 1,d,h,n,hn => by
   simp only [DataW.weightsAll,List.mem_append]
   exact .inr (Sj (i := i) (by simpa using h) n hn)
theorem Gf {H : Type} {P : Program} {t : TypeId} {fs : Array Field} {parts : List (DataW H)} (hu : P.underlying t = some (.struct fs)) (hz : ((DataW.agg parts).weights P t).all (· ≤ reachBytes) = true) {i : Nat} {f : Field} {d : DataW H} (hf : fs[i]? = some f) (hd : parts[i]? = some d) :
    (d.weights P f.type).all (· ≤ reachBytes) = true := by
  rw [List.all_eq_true] at hz ⊢
  intro n hn
  refine hz n ?_
  simp only [DataW.weights,hu]
  exact DataW.weights_mem_each (j := i) (by rw [List.getElem?_map]; simp [hf]) hd n hn
variable {H : Type} {enc : TypeId × Value → H} {w : World}
abbrev O0 : Nat → Prop := fun _ => False
def Els (w : World) (cs : List Value) (ls : List LV) : Prop := cs.length = ls.length ∧ ∀ (j : Nat) (u : LV),ls[j]? = some u → ∃ v,cs[j]? = some v ∧ LRep w O0 v u
theorem Bf {α : Type} {rw_ : α → List LV} {Ok : α → Prop} {t e sz : Nat} (hu : Tryz.prog.underlying t = some (.slice e)) (hc : Tryz.prog.cellsOf e = sz) (hsz : 0 < sz) (hb : 1 ≤ Tryz.prog.bytesOf e) (hw : ∀ z, (rw_ z).length = sz)
    (elem : ∀ fuel cs x,DataW.trod enc Tryz.prog w 0 (fun _ => true) true fuel e cs = some x → (x.1.weights Tryz.prog e).all (· ≤ reachBytes) = true → ∃ z,Ok z ∧ Els w cs (rw_ z))
    {fuel : Nat} {cs : List Value} {x : DataW H × List MemPlace} (h : DataW.trod enc Tryz.prog w 0 (fun _ => true) true fuel t cs = some x) (hz : (x.1.weights Tryz.prog t).all (· ≤ reachBytes) = true) :
    ∃ (v : Value) (l : List α),cs = [v] ∧ (∀ z ∈ l,Ok z) ∧ l.length < 2 ^ 47 ∧ LRep w O0 v (.row (l.map rw_)) := by
  rcases Go.Deep.open_slice hu h with ⟨rfl,_⟩ | ⟨a',len,cap,m,n,D,Pl,rfl,_,hlc,hcap,hm,rfl,hr⟩
  · refine ⟨_,[],rfl,by simp,Nat.two_pow_pos 47,?_⟩
    exact LRep.row none 0 0 0 0 [] (fun _ _ => .bool true) (Nat.le_refl _) (by decide) (by simp) (by simp) (by simp) (by simp)
  · simp only [if_true] at hm
    subst hm
    rw [List.all_eq_true] at hz
    have hlen : len < 2 ^ 47 := by
      have h0 := hz ((len + (m - len)) * Tryz.prog.bytesOf e) (by simp [DataW.weights,hu])
      have h1 : len ≤ (len + (m - len)) * Tryz.prog.bytesOf e := by
        have := Nat.mul_le_mul (Nat.le_add_right len (m - len)) hb
        omega
      have h2 : (len + (m - len)) * Tryz.prog.bytesOf e ≤ reachBytes := by simpa using h0
      exact Nat.lt_of_le_of_lt (Nat.le_trans h1 h2) reachBytes_lt
    have hel : ∀ i,i < len → ((D i).weights Tryz.prog e).all (· ≤ reachBytes) = true := fun i hi => by
      rw [List.all_eq_true]
      intro k hk
      refine hz k ?_
      simp only [DataW.weights,hu]
      refine List.mem_cons_of_mem _ (List.mem_append.2 (.inl (Sj (i := i) ?_ k hk)))
      rw [List.getElem?_map,List.getElem?_range hi]; rfl
    have hone : ∀ i,i < len → ∃ z cs',Ok z ∧ Els w cs' (rw_ z) ∧ ∀ j,j < sz → w.cell? ((a'.add (i * sz)).add j) = cs'[j]? := fun i hi => by
      obtain ⟨cs',hcs,htr⟩ := hr i (by omega)
      rw [hc] at hcs
      obtain ⟨_,hl,hcell⟩ := World.cells?_some hcs
      obtain ⟨z,hz1,hz2⟩ := elem _ _ _ htr (hel i hi)
      refine ⟨z,cs',hz1,hz2,fun j hj => ?_⟩
      rw [hcell j (by omega)]
    have hspot : 0 < len → a'.spot = none ∧ a'.block < w.heap.size := fun h0 => by
      obtain ⟨z,cs',_,⟨hl,_⟩,h3⟩ := hone 0 h0
      have h4 := h3 0 hsz
      have : (a'.add (0 * sz)).add 0 = a' := by simp [Addr.add]
      rw [this,List.getElem?_eq_getElem (by rw [hl,hw]; exact hsz)] at h4
      exact Qyw h4
    obtain ⟨l,hll,hl⟩ : ∃ l : List α,l.length = len ∧ ∀ i z,l[i]? = some z → Ok z ∧ ∃ cs',Els w cs' (rw_ z) ∧ ∀ j,j < sz → w.cell? ((a'.add (i * sz)).add j) = cs'[j]? := by
      have : ∀ k,k ≤ len → ∃ l : List α,l.length = k ∧ ∀ i z,l[i]? = some z → Ok z ∧ ∃ cs',Els w cs' (rw_ z) ∧ ∀ j,j < sz → w.cell? ((a'.add (i * sz)).add j) = cs'[j]? := by
        intro k
        induction k with
        | zero => intro _; exact ⟨[],rfl,fun i z h => by simp at h⟩
        |
         succ k ih =>
         intro hk
         obtain ⟨l,h1,h2⟩ := ih (by omega)
         obtain ⟨z,cs',h3,h4,h5⟩ := hone k (by omega)
         refine ⟨l ++ [z],by simp [h1],fun i y hy => ?_⟩
         rcases Nat.lt_or_ge i l.length with hi | hi
         · rw [List.getElem?_append_left hi] at hy; exact h2 i y hy
         · rw [List.getElem?_append_right hi] at hy
           have : i - l.length = 0 := by
             rcases Nat.eq_zero_or_pos (i - l.length) with h | h
             · exact h
             · rw [List.getElem?_eq_none (by rw [List.length_singleton]; exact h)] at hy; cases hy
           rw [this] at hy
           simp at hy
           subst hy
           have : i = k := by omega
           subst this
           exact ⟨h3,cs',h4,h5⟩
      exact this len (Nat.le_refl _)
    refine ⟨_,l,rfl,fun z hz => ?_,by rw [hll]; exact hlen,?_⟩
    · obtain ⟨i,hi⟩ := List.mem_iff_getElem?.1 hz
      exact (hl i z hi).1
    · have key : LRep w O0 (.slice (some a') (l.map rw_).length m) (.row (l.map rw_)) := by
        have hgl : ∀ i c,(l.map rw_)[i]? = some c → ∃ z,l[i]? = some z ∧ c = rw_ z ∧ i < len := fun i c h => by
          rw [List.getElem?_map] at h
          cases e : l[i]? with
          | none => rw [e] at h; cases h
          | some z => rw [e] at h; simp at h; exact ⟨z,rfl,h.symm,by have := (List.getElem?_eq_some_iff.1 e).1; omega⟩
        have hcl : ∀ i c,(l.map rw_)[i]? = some c → ∃ cs' : List Value,Els w cs' c ∧ ∀ j,j < sz → w.cell? ⟨a'.block,a'.off + i * sz + j,none⟩ = cs'[j]? := fun i c h => by
          obtain ⟨z,hz,rfl,hi⟩ := hgl i c h
          obtain ⟨_,cs',h1,h2⟩ := hl i z hz
          refine ⟨cs',h1,fun j hj => ?_⟩
          rw [← h2 j hj,Qxn (hspot (by omega)).1]
        refine LRep.row (some a') m sz a'.block a'.off (l.map rw_) (fun i j => (w.cell? ⟨a'.block,a'.off + i * sz + j,none⟩).getD (.bool true)) (by rw [List.length_map]; omega) ?_ ?_ ?_ ?_ ?_
        · have : maxLen = 2 ^ 63 - 1 := by rfl
          omega
        · intro c hc2
          obtain ⟨z,_,rfl⟩ := List.mem_map.1 hc2
          exact hw z
        · intro h0
          rw [List.length_map,hll] at h0
          obtain ⟨hs,hb⟩ := hspot h0
          refine ⟨?_,hb,by simp [O0]⟩
          obtain ⟨b,o,s⟩ := a'
          simp only at hs
          rw [hs]
        · intro i c hi j hj
          obtain ⟨z,_,rfl,_⟩ := hgl i c hi
          obtain ⟨cs',⟨h1,_⟩,h2⟩ := hcl i _ hi
          have hjs : j < sz := by rw [← hw z]; exact hj
          rw [h2 j hjs,List.getElem?_eq_getElem (by rw [h1]; exact hj)]; rfl
        · intro i c hi j u hu2
          obtain ⟨z,_,rfl,_⟩ := hgl i c hi
          obtain ⟨cs',⟨h1,h3⟩,h2⟩ := hcl i _ hi
          obtain ⟨v,hv,hr2⟩ := h3 j u hu2
          have hjs : j < sz := by rw [← hw z]; exact (List.getElem?_eq_some_iff.1 hu2).1
          show LRep w O0 ((w.cell? ⟨a'.block,a'.off + i * sz + j,none⟩).getD (.bool true)) u
          rw [h2 j hjs,hv]; exact hr2
      rw [List.length_map,hll] at key
      exact key
abbrev Q8g (x : Nat) : List LV := [.int .u32 (x : Int)]
theorem Qwz : ∀ fuel cs x,DataW.trod enc Tryz.prog w 0 (fun _ => true) true fuel 169 cs = some x → (x.1.weights Tryz.prog 169).all (· ≤ reachBytes) = true → ∃ z : Nat,z < 4294967296 ∧ Els w cs (Q8g z) := by
  intro fuel cs x h _
  obtain ⟨n,rfl,_,hwf⟩ := DataW.trod_int Tryz.underlying169 h
  have hn : 0 ≤ n ∧ n < 4294967296 := by
    have : 0 ≤ n ∧ n ≤ 4294967295 := by simpa [Lit.wf,IntKind.min,IntKind.max,IntKind.signed,IntKind.bits] using hwf
    omega
  refine ⟨n.toNat,by omega,rfl,fun j u hu => ?_⟩
  match j,hu with
  |
   0,hu =>
   simp at hu; subst hu
   refine ⟨_,rfl,?_⟩
   rw [show max n 0 = n by omega]
   exact .int _ _
  | j + 1,hu => simp at hu
set_option maxRecDepth 20000 in
theorem Ij : ∀ fuel cs x,DataW.trod enc Tryz.prog w 0 (fun _ => true) true fuel 29 cs = some x → (x.1.weights Tryz.prog 29).all (· ≤ reachBytes) = true → ∃ z : RawInt,z.Ok ∧ Els w cs (Dl z) := by
  intro fuel cs x h hz
  obtain ⟨xs,n,_,rfl,hl,hxs,hf⟩ := DataW.trod_struct Tryz.underlying29 h
  have hl : cs.length = 2 := hl
  match cs,hl with
  |
   [v0,v1],_ =>
   obtain ⟨z0,hz0⟩ := U5 (i := 0) hxs (by decide)
   obtain ⟨z1,hz1⟩ := U5 (i := 1) hxs (by decide)
   have h0 := hf 0 _ rfl
   have h1 := hf 1 _ rfl
   rw [hz0] at h0; rw [hz1] at h1
   obtain ⟨b,e0,_⟩ := DataW.trod_bool Tryz.underlying4 h0
   have f0 : v0 = .bool b := (List.cons.inj (show [v0] = [Value.bool b] from e0)).1
   have hw1 := Gf Tryz.underlying29 hz (i := 1) rfl (d := z1.1) (by rw [List.getElem?_map,hz1]; rfl)
   obtain ⟨v,l,e1,hlo,_,hrep⟩ := Bf (sz := 1) (Ok := fun u : Nat => u < 4294967296) (rw_ := Q8g) Tryz.underlying27 (by kernel_rfl) (by decide) (of_decide_eq_true (by kernel_rfl)) (fun _ => rfl) Qwz h1 hw1
   have f1 : v1 = v := (List.cons.inj (show [v1] = [v] from e1)).1
   subst f0 f1
   refine ⟨⟨b,l⟩,⟨hlo⟩,rfl,fun j u hu => ?_⟩
   match j,hu with
   | 0,hu => simp at hu; subst hu; exact ⟨_,rfl,.bool _⟩
   | 1,hu => simp at hu; subst hu; exact ⟨_,rfl,hrep⟩
   | j + 2,hu => simp at hu
set_option maxRecDepth 20000 in
theorem Qji : ∀ fuel cs x,DataW.trod enc Tryz.prog w 0 (fun _ => true) true fuel 35 cs = some x → (x.1.weights Tryz.prog 35).all (· ≤ reachBytes) = true → ∃ z : RawPt,z.Ok ∧ Els w cs (rwq z) := by
  intro fuel cs x h hz
  obtain ⟨xs,n,_,rfl,hl,hxs,hf⟩ := DataW.trod_struct Tryz.underlying35 h
  have hl : cs.length = 5 := hl
  match cs,hl with
  |
   [v0,v1,v2,v3,v4],_ =>
   obtain ⟨z0,hz0⟩ := U5 (i := 0) hxs (by decide)
   obtain ⟨z1,hz1⟩ := U5 (i := 1) hxs (by decide)
   have h0 := hf 0 _ rfl
   have h1 := hf 1 _ rfl
   rw [hz0] at h0; rw [hz1] at h1
   obtain ⟨id,e4,_,hwf⟩ := DataW.trod_int Tryz.underlying3 h1
   have f4 : v4 = .int .i64 id := (List.cons.inj (show [v4] = [Value.int .i64 id] from e4)).1
   have hw0 := Gf Tryz.underlying35 hz (i := 0) rfl (d := z0.1) (by rw [List.getElem?_map,hz0]; rfl)
   obtain ⟨ys,n2,_,e5,_,hys,hg⟩ := DataW.trod_struct Tryz.underlying31 h0
   rw [e5] at hw0
   obtain ⟨y0,hy0⟩ := U5 (i := 0) hys (by decide)
   obtain ⟨y1,hy1⟩ := U5 (i := 1) hys (by decide)
   obtain ⟨y2,hy2⟩ := U5 (i := 2) hys (by decide)
   have g0 := hg 0 _ rfl
   have g1 := hg 1 _ rfl
   have g2 := hg 2 _ rfl
   rw [hy0] at g0; rw [hy1] at g1; rw [hy2] at g2
   have w0 := Gf Tryz.underlying31 hw0 (i := 0) rfl (d := y0.1) (by rw [List.getElem?_map,hy0]; rfl)
   have w1 := Gf Tryz.underlying31 hw0 (i := 1) rfl (d := y1.1) (by rw [List.getElem?_map,hy1]; rfl)
   have w2 := Gf Tryz.underlying31 hw0 (i := 2) rfl (d := y2.1) (by rw [List.getElem?_map,hy2]; rfl)
   obtain ⟨u0,lx,e0,hx,_,rx⟩ := Bf (sz := 2) (Ok := RawInt.Ok) (rw_ := Dl) Tryz.underlying26 (by kernel_rfl) (by decide) (of_decide_eq_true (by kernel_rfl)) (fun _ => rfl) Ij g0 w0
   obtain ⟨u1,ly,e1,hy,_,ry⟩ := Bf (sz := 2) (Ok := RawInt.Ok) (rw_ := Dl) Tryz.underlying26 (by kernel_rfl) (by decide) (of_decide_eq_true (by kernel_rfl)) (fun _ => rfl) Ij g1 w1
   obtain ⟨d,hd,hde⟩ := Ij _ _ _ g2 w2
   have f0 : v0 = u0 := (List.cons.inj (show [v0] = [u0] from e0)).1
   have f1 : v1 = u1 := (List.cons.inj (show [v1] = [u1] from e1)).1
   have hde2 : Els w [v2,v3] (Dl d) := hde
   subst f0 f1 f4
   obtain ⟨q2,hq2,r2⟩ := hde2.2 0 _ rfl
   obtain ⟨q3,hq3,r3⟩ := hde2.2 1 _ rfl
   simp at hq2 hq3
   subst hq2 hq3
   refine ⟨⟨lx,ly,d,id⟩,⟨hx,hy,hd,by simpa [Lit.wf,IntKind.min,IntKind.max,IntKind.signed,IntKind.bits] using hwf⟩,rfl,fun j u hu => ?_⟩
   match j,hu with
   | 0,hu => simp [rwq] at hu; subst hu; exact ⟨_,rfl,rx⟩
   | 1,hu => simp [rwq] at hu; subst hu; exact ⟨_,rfl,ry⟩
   | 2,hu => simp [rwq] at hu; subst hu; exact ⟨_,rfl,r2⟩
   | 3,hu => simp [rwq] at hu; subst hu; exact ⟨_,rfl,r3⟩
   | 4,hu => simp [rwq] at hu; subst hu; exact ⟨_,rfl,.int _ _⟩
   | j + 5,hu => simp [rwq] at hu
set_option maxRecDepth 20000 in
theorem Qi0 {f : FuncId} {fn : Func} {s : ChangeSpec} (hp : fn.params = #[24, 3, 3]) (hr : fn.resultTypes = #[4]) (hv : s.vars = [])
    (hs : ∀ (H : Type) (d1 d2 d3 : DataW H),s.fn H [d1,d2,d3] = { results := [.lit (.bool true)],args := [d1,d2,d3] })
    (hlaid : laidOutB Tryz.prog = true) (hr22 : Tryz.prog.readableRec 24 = true) (hr3 : Tryz.prog.readableRec 3 = true) (hs22 : 24 < Tryz.prog.types.size) (hs3 : 3 < Tryz.prog.types.size)
    (law : ∀ (zs : List RawPt) (n d : Int),(∀ z ∈ zs,z.Ok) → (-2^63 ≤ n ∧ n ≤ 2^63-1) → (-2^63 ≤ d ∧ d ≤ 2^63-1) → Qc Tryz.prog f [.one (.row (Bi zs)),.one (.int .i64 n),.one (.int .i64 d)] [.one (.bool true)])
    {H : Type} {enc : TypeId × Value → H} {W : World} {base : Nat} {args : Array Value} {ds gs : List (DataW H)} {Cc : List MemPlace} {fresh handsOn : Bool}
    (hval : ∀ (j : Nat) t v,fn.params[j]? = some t → args[j]? = some v → Value.okWide Tryz.prog W .any base t v)
    (hW : DataW.Whole enc Tryz.prog fn.params.toList s.vars false W args.toList ds gs Cc)
    (hz : (DataW.weightsEach Tryz.prog (fn.params.toList ++ s.plain.varTypes Tryz.prog) (ds ++ gs)).all (· ≤ reachBytes) = true) :
    Calls Tryz.prog f args W fun e W' => ∃ v,e = .returned v ∧ s.post enc Tryz.prog fn false fresh handsOn false W args v W' := by
  have hW' := hW
  obtain ⟨p,q,hA0,hV,rfl,hfz,hnd⟩ := hW
  have hA : DataW.TrodAll enc Tryz.prog W 0 (fun _ => true) true fn.params.toList args.toList ds p := hA0
  rw [hv] at hV
  obtain ⟨rfl,rfl⟩ := trodVars_none hV
  have hlt := hW'.lt
  rw [hp] at hA hval hz
  obtain ⟨v0,vs0,d0,ds0,p0,q0,hargs0,rfl,rfl,h0,r0⟩ := trodAll_cons hA
  obtain ⟨v1,vs1,d1,ds1,p1,q1,rfl,rfl,rfl,h1,r1⟩ := trodAll_cons r0
  obtain ⟨v2,vs2,d2,ds2,p2,q2,rfl,rfl,rfl,h2,r2⟩ := trodAll_cons r1
  obtain ⟨rfl,rfl,rfl⟩ := trodAll_nil r2
  obtain rfl : args = #[v0,v1,v2] := by cases args; simp_all
  obtain ⟨n,rfl,rfl,rfl,w1⟩ := open_int Tryz.underlying3 (hval 1 3 v1 rfl rfl) h1
  obtain ⟨d,rfl,rfl,rfl,w2⟩ := open_int Tryz.underlying3 (hval 2 3 v2 rfl rfl) h2
  have hv0 := hval 0 24 v0 rfl rfl
  obtain ⟨a,len,cap,rfl⟩ := okWide_slice Tryz.underlying24 hv0
  have hz0 : (d0.weights Tryz.prog 24).all (· ≤ reachBytes) = true := by
    rw [List.all_eq_true] at hz ⊢
    intro k hk
    exact hz k (DataW.weights_mem_each (j := 0) rfl rfl k hk)
  have h0' := h0
  obtain ⟨fu,h0'⟩ := h0'
  obtain ⟨v,zs,e0,hok,hlen,hrep⟩ := Bf (sz := 5) (Ok := RawPt.Ok) (rw_ := rwq) Tryz.underlying24 (by kernel_rfl) (by decide) (of_decide_eq_true (by kernel_rfl)) (fun _ => rfl) Qji h0' hz0
  have f0 : Value.slice a len cap = v := (List.cons.inj (show [Value.slice a len cap] = [v] from e0)).1
  subst f0
  have hd1 : -2^63 ≤ d ∧ d ≤ 2^63-1 := by simpa [Lit.wf,IntKind.min,IntKind.max,IntKind.signed,IntKind.bits] using w2
  have hrep : LRep W (fun _ => False) (.slice a len cap) (.row (Bi zs)) := hrep
  have hn1 : -2^63 ≤ n ∧ n ≤ 2^63-1 := by simpa [Lit.wf,IntKind.min,IntKind.max,IntKind.signed,IntKind.bits] using w1
  have hcall := (law zs n d hok hn1 hd1).2 (fr0 W) (fun _ => none) (fun _ => False) W [.slice a len cap,.int .i64 n,.int .i64 d] (hs0 W) (.cons (show XRep W (fun _ => False) (fun _ => none) (.slice a len cap) (.row (Bi zs)) from hrep.x) (.cons (show XRep W (fun _ => False) (fun _ => none) (.int .i64 n) (.int .i64 n) from (LRep.int .i64 n).x) (.cons (show XRep W (fun _ => False) (fun _ => none) (.int .i64 d) (.int .i64 d) from (LRep.int .i64 d).x) .nil)))
  refine hcall.mono fun e W' ⟨v,u,Bo,E',M',he,⟨hu,hBo⟩,_,hm,har⟩ => ?_
  subst hu
  obtain rfl : v = .bool true := by
    have h : LRep _ _ v (.bool true) := har
    cases h
    rfl
  refine ⟨_,he,?_⟩
  refine ⟨[d0,.lit (.int .i64 n),.lit (.int .i64 d)],[],_,[],p0 ++ ([] ++ ([] ++ [])),[],hW',?_,?_,?_,Qzj hm _,fun h => by cases h⟩
  · rw [hr,List.append_nil,hs]
    exact trodAll_cons_mk (shut_bool Tryz.underlying4 true) trodAll_mk0
  · rw [hp,List.append_nil,hs]
    have hb : ∀ p ∈ p0,p.block < W.heap.size := fun p hp => hlt p (by simp [hp])
    exact trodAll_cons_mk (Trod_stays hlaid hr22 hs22 h0 (fun p hp => Q0v hm (hb p hp)) (fun p hp => by simpa using hb p hp)) (trodAll_cons_mk (shut_int Tryz.underlying3 w1) (trodAll_cons_mk (shut_int Tryz.underlying3 w2) trodAll_mk0))
  · rw [hv,List.append_nil,hs]
    rfl
end Orr
