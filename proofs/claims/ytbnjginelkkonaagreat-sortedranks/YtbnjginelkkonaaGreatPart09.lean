/- G3 G4 K3 K4 S1 S2 S3 R5 R6 RefGL R7 RatOkL R8 R9 RefCL R10 RawL NewsL KGoL SortQ -/
import Derived.Test.YtbnjginelkkonaaGreatPart08
import Derived.Test.YtbnjginelkkonaaGreatPart05
set_option linter.all false

namespace Orr
open Go Go.Proofs Orq
set_option maxRecDepth 10000
def Qt (l : List Pt) : List (List LV) := l.map Vp
theorem Vb {l : List Pt} {i : Nat} {c : Pt} (h : l[i]? = some c) : (Qt l)[i]? = some (Vp c) := Z9 h
theorem Yo (l : List Pt) : (Qt l).length = l.length := by simp [Qt]
theorem Q0r (l : List Pt) : ∀ c ∈ Qt l,c.length = 5 := fun c hc => by
  obtain ⟨x,_,rfl⟩ := List.mem_map.1 hc; rfl
abbrev zPt : List LV := [.nils,.nils,.bool false,.nils,.int .i64 0]
theorem Qmb {lt : Pt → Pt → Bool} {O : List Pt} {z : List LV} {c : Pt} {k m : Nat} {l2 : List (List LV)} (hk : k ≤ O.length) (hp : Jy lt O c O.length = k) (hm : m = O.length - k) (h2 : l2.take m = ((Qt O ++ [z]).drop k).take m) :
    ((Qt O ++ [z]).take (k + 1) ++ (l2.take m ++ (Qt O ++ [z]).drop (k + 1 + m))).set k (Vp c) = Qt (Kt lt O c) := by
  rw [h2,← List.append_assoc,Qfz (Qt O) z (Vp c) (by rw [Yo]; omega) (by rw [Yo]; omega)]
  simp [Kt,hp,Qt,List.map_take,List.map_drop]
def Bb (t : Tm) (l : List Pt) : List Pt := Z8 (Cc (Ll t)) l
theorem Q1v {l : List Pt} {t : Tm} (hl : ∀ p ∈ l,Sc p.c) (hn : l.length ≤ 1000000) (ht : Va t) : Qc Tryz.prog 154 [.agg (ta t),.one (pts l)] [.one (pts (Bb t l))] := by
  have hcl := Yo l
  show Qc Tryz.prog 154 [.agg (ta t),.one (.row (Qt l))] [.one (.row (Qt (Bb t l)))]
  obtain ⟨lt,hlt0⟩ : ∃ lt,lt = Cc (Ll t) := ⟨_,rfl⟩
  unfold Bb
  rw [← hlt0]
  refine Z6 Tryz.func154 rfl ?_
  refine go tt [.o 5 35 5] rfl trivial ?_
  refine lp (S := Nat) 2 (fun L1 i => (11,.v (.one (.int .i64 (i : Int)))) :: (5,.v (.one (.orow 1 5 none))) :: L1) (fun i => [.blk 67 (ta t),.row false 35 5 (Qt (Z8 lt (l.take i)))]) (fun i => l.length - i) (fun i => i ≤ l.length) 0 (Nat.zero_le _) rfl (fun _ _ => rfl) rfl fun i hi => ?_
  by_cases hlt : i < l.length
  · obtain ⟨c,hc⟩ : ∃ c,l[i]? = some c := ⟨_,List.getElem?_eq_getElem hlt⟩
    have hst : Z8 lt (l.take (i + 1)) = Kt lt (Z8 lt (l.take i)) c := H4 hc
    have hcp := hl c (List.mem_of_getElem? hc)
    obtain ⟨O,hO⟩ : ∃ O,O = Z8 lt (l.take i) := ⟨_,rfl⟩
    have hOl : O.length = i := by rw [hO,J6,List.length_take]; omega
    have hOm : ∀ x ∈ O,Sc x.c := fun x hx => by rw [hO,Wh] at hx; exact hl x (List.mem_of_mem_take hx)
    rw [← hO] at hst ⊢
    refine go tt [.t (by simp [hcl]; omega),.x (Vb hc)] rfl trivial ?_
    refine lp (S := Nat) 3 (fun L1 k => (8,.v (.one (.int .i64 (k : Int)))) :: L1) (fun k => [.blk 67 (ta t),.row false 35 5 (Qt O),.blk 35 (Vp c)]) id (fun k => k ≤ O.length ∧ Jy lt O c k = Jy lt O c O.length) (Qt O).length ⟨by rw [Yo]; exact Nat.le_refl _,by rw [Yo]⟩ rfl (fun _ _ => rfl) rfl fun k ⟨hk,hp⟩ => ?_
    have hz : ∀ y ∈ [zPt],y.length = 5 := fun y hy => by rw [List.mem_singleton.1 hy]; rfl
    have h77 : ∀ y ∈ Qt O ++ [zPt],y.length = 5 := fun y hy => by
      rcases List.mem_append.1 hy with hy | hy
      · exact Q0r O y hy
      · exact hz y hy
    cases k with
    |
     zero =>
     have hp : Jy lt O c O.length = 0 := by rw [← hp]; rfl
     refine go tt [.g 19 false (by simp),.f rfl,.s (sz := 5) hz,.r 37 (eI (b := ((0 + 1 : Nat) : Int)) (by simp)),.i (0 + 1),.i (0),.s (sz := 5) (fun y hy => h77 y (List.mem_of_mem_take hy)),.i (O.length),.i (0)] rfl (by simp [Qa,Yo]; omega) ?_
     exact rd (i + 1) (by omega) hlt (by rw [hst,← Qmb (z := zPt) (l2 := (Qt O ++ [zPt]).take ((Qt O ++ [zPt]).length - 0)) (k := 0) (m := O.length) (by omega) hp (by omega) (by congr 1; exact List.take_of_length_le (by simp))]; rfl)
    |
     succ k =>
     obtain ⟨x,hx⟩ : ∃ x,O[k]? = some x := ⟨_,List.getElem?_eq_getElem (by omega)⟩
     have cb := Qqp hcp (hOm x (List.mem_of_getElem? hx)) ht
     rw [← hlt0] at cb
     by_cases hlc : lt c x = true
     · refine go tt [.g 19 true (by simp),.r 23 (eI (b := (k : Int)) (by simp)),.i k,.x (Vb hx),.c [] cb,.t hlc,.r 30 (eI (b := (k : Int)) (by simp))] rfl (by simp [Qa,Yo]; omega) ?_
       exact rd k (by simp) ⟨by omega,by rw [← hp,Nv hx hlc]⟩ rfl
     · have hlc : lt c x = false := by simpa using hlc
       have hp : Jy lt O c O.length = k + 1 := by rw [← hp,Tu hx hlc]
       refine go tt [.g 19 true (by simp),.r 23 (eI (b := (k : Int)) (by simp)),.i k,.x (Vb hx),.c [] cb,.f hlc,.s (sz := 5) hz,.r 37 (eI (b := ((k + 1 + 1 : Nat) : Int)) (by simp)),.i (k + 1 + 1),.i (k + 1),.s (sz := 5) (fun y hy => h77 y (List.mem_of_mem_drop (List.mem_of_mem_take hy))),.i (O.length - (k + 1)),.i (k + 1)] rfl (by simp [Qa,Yo]; omega) ?_
       exact rd (i + 1) (by omega) hlt (by rw [hst,← Qmb (z := zPt) (l2 := ((Qt O ++ [zPt]).drop (k + 1)).take ((Qt O ++ [zPt]).length - (k + 1))) (k := k + 1) (m := O.length - (k + 1)) (by omega) hp (by omega) (by congr 1; exact List.take_of_length_le (by simp))]; rfl)
  · obtain rfl : i = l.length := by omega
    rw [List.take_length]
    exact en tt [.f (by simp [hcl])] rfl rfl trivial
def Y5 (sg : List Int → Int) : List Pt → List Ct
  | a :: b :: l => Ul sg a b :: Y5 sg (b :: l)
  | _ => []
theorem Wd (sg : List Int → Int) : ∀ l : List Pt,(Y5 sg l).length = l.length - 1
  | [] => rfl
  | [_] => rfl
  | a :: b :: l => by simp only [Y5,List.length_cons,Wd sg (b :: l)]; omega
theorem Dm (sg : List Int → Int) : ∀ {l : List Pt} {i : Nat} {a b : Pt},l[i]? = some a → l[i + 1]? = some b → (Y5 sg l).take (i + 1) = (Y5 sg l).take i ++ [Ul sg a b]
  | [],i,a,b,h,_ => by simp at h
  | [x],i,a,b,_,h => by cases i <;> simp at h
  | x :: y :: l,0,a,b,h1,h2 => by simp at h1 h2; subst h1; subst h2; simp [Y5]
  |
   x :: y :: l,i + 1,a,b,h1,h2 => by
   have ih := Dm sg (l := y :: l) (i := i) (a := a) (b := b) (by simpa using h1) (by simpa using h2)
   simp only [Y5,List.take_succ_cons] at ih ⊢
   rw [ih]; rfl
theorem Ae {l : List Pt} {t : Tm} (hl : ∀ p ∈ l,Sc p.c) (hn : l.length ≤ 1000000) (ht : Va t) : Qc Tryz.prog 155 [.agg (ta t),.one (pts l)] [.one (.row (Z2 (Y5 (Ll t) l)))] := by
  have hcl := Yo l
  show Qc Tryz.prog 155 [.agg (ta t),.one (.row (Qt l))] [.one (.row (Z2 (Y5 (Ll t) l)))]
  refine Z6 Tryz.func155 rfl ?_
  refine go tt [.o 5 161 7] rfl trivial ?_
  refine lp (S := Nat) 2 (fun L1 i => (6,.v (.one (.int .i64 ((i + 1 : Nat) : Int)))) :: (5,.v (.one (.orow 1 7 none))) :: L1) (fun i => [.blk 67 (ta t),.row false 161 7 (Z2 ((Y5 (Ll t) l).take i))]) (fun i => l.length - i) (fun i => i ≤ l.length - 1) 0 (Nat.zero_le _) rfl (fun _ _ => rfl) rfl fun i hi => ?_
  by_cases hlt : i + 1 < l.length
  · obtain ⟨a,ha⟩ : ∃ a,l[i]? = some a := ⟨_,List.getElem?_eq_getElem (by omega)⟩
    obtain ⟨b,hb⟩ : ∃ b,l[i + 1]? = some b := ⟨_,List.getElem?_eq_getElem hlt⟩
    have hg := Dm (Ll t) ha hb
    have hm : ∀ y ∈ [O2 (Ul (Ll t) a b)],y.length = 7 := fun y hy => by rw [List.mem_singleton.1 hy]; rfl
    refine go tt [.t (by simp [hcl]; omega),.r 19 (eI (b := (i : Int)) (by simp)),.x (Vb ha),.x (Vb hb),.c [] (Qx4 (hl a (List.mem_of_getElem? ha)) (hl b (List.mem_of_getElem? hb)) ht),.s (sz := 7) hm,.r 14 (eI (b := ((i + 1 + 1 : Nat) : Int)) (by simp))] rfl (by simp [Qa,Yo,Uz,Wd]; omega) ?_
    exact rd (i + 1) (by omega) (by omega) (by rw [hg]; simp [Z2]; rfl)
  · have e : (Y5 (Ll t) l).take i = Y5 (Ll t) l := List.take_of_length_le (by rw [Wd]; omega)
    rw [e]
    exact en tt [.f (by simp [hcl]; omega)] rfl rfl trivial
end Orr

namespace Orr
open Go Go.Proofs Orq
set_option maxRecDepth 10000
theorem Qyb : Qc Tryz.prog 230 [pr []] [.one .nilp,.one (.int .i64 2)] := by
  have h : Yy [] = some [] := rfl
  exact w tt Tryz.func230 rfl [.c [] (Af Dd h),.t rfl] rfl rfl trivial
theorem Qrd : Qc Tryz.prog 303 [pr []] [.one (.row []),.one (.int .i64 2)] :=
  w tt Tryz.func303 rfl [.c [] Qyb,.t rfl] rfl rfl trivial
theorem Q4o {a o : List Int} (ha : Pb a) (h : Qjh a = some o) : Pb o := by
  unfold Qjh at h
  split at h
  · injection h with h; subst h; exact Dd
  · obtain ⟨l,hl,h⟩ := Option.bind_eq_some_iff.1 h
    obtain ⟨fs,hf,h⟩ := Option.bind_eq_some_iff.1 h
    exact Sy Quw (Qcw (Ek (Xq ha) hl).2 hf) h
theorem Qqu {p : List Int} {l : List Tm} (hp : Pb p) (h : Mn p = some l) (hl : l.length ≤ 1000000) : Qc Tryz.prog 276 [pr p] [.one (tas l)] := by
  unfold Mn at h
  obtain ⟨q,hq,h⟩ := Option.bind_eq_some_iff.1 h
  have qp := Q4o hp hq
  have co := Q6c hp hq
  split at h
  · rename_i h0
    injection h with h; subst h
    obtain rfl := List.eq_nil_of_length_eq_zero h0
    exact w tt Tryz.func276 rfl [.c [] co,.c [] Qrd,.t rfl] rfl rfl trivial
  · exact w tt Tryz.func276 rfl [.c [] co,.c [] (Qya qp h hl),.f rfl] rfl rfl trivial
def ota : Option Tm → List LV
  | none => zTr
  | some t => ta t
theorem Qxz {p : List Int} {a : Tm} {l : List Tm} {r : Option Tm} (hp : Pb p) (ha : Tb a) (h : Mn p = some l) (hl : l.length ≤ 1000000) (ht : ∀ t ∈ l,Tb t) (hr : Pp a l = some r) : Qc Tryz.prog 241 [pr p,.agg (ta a)] [.agg (ota r),.one (.bool r.isSome)] := by
  have hll : (l.map fun t => ta t).length = l.length := by simp
  refine Z6 Tryz.func241 rfl ?_
  refine go tt [.c [] (Qqu hp h hl)] rfl trivial ?_
  refine lp (S := Nat) 2 (fun L1 i => (11,.v (.one (.int .i64 (i : Int)))) :: L1) (fun _ => [.blk 67 (ta a),.blk 67 zTm]) (fun i => l.length - i) (fun i => i ≤ l.length ∧ Pp a (l.drop i) = some r) 0 ⟨Nat.zero_le _,hr⟩ rfl (fun _ _ => rfl) rfl fun i ⟨hi,hf⟩ => ?_
  by_cases hlt : i < l.length
  · obtain ⟨t,hx⟩ : ∃ t,l[i]? = some t := ⟨_,List.getElem?_eq_getElem hlt⟩
    have hdr : l.drop i = t :: l.drop (i + 1) := by
      rw [List.drop_eq_getElem_cons hlt]; congr 1
      have := List.getElem?_eq_getElem hlt; rw [hx] at this; injection this with this; exact this.symm
    rw [hdr] at hf
    simp only [Pp] at hf
    obtain ⟨c,c1,hf⟩ := Option.bind_eq_some_iff.1 hf
    have cc := Qb9 (ht t (List.mem_of_getElem? hx)) ha c1
    by_cases hc : 0 < c
    · rw [if_pos hc] at hf
      injection hf with hf; subst hf
      exact en tt [.t (by simp; omega),.x (E5 hx),.c [] cc,.t (by simpa using hc)] rfl rfl trivial
    · rw [if_neg hc] at hf
      refine go tt [.t (by simp; omega),.x (E5 hx),.c [] cc,.f (by simpa using hc)] rfl (by simp [Qa]; omega) ?_
      exact rd (i + 1) (by omega) ⟨hlt,hf⟩ rfl
  · obtain rfl : i = l.length := by omega
    rw [List.drop_length] at hf
    simp only [Pp] at hf
    injection hf with hf; subst hf
    exact en tt [.f (by simp)] rfl rfl trivial
end Orr

namespace Orr
open Go Go.Proofs Orq
set_option maxRecDepth 10000
def La (now : Tm) : List Wt → Option (List Wt)
  | [] => some []
  | w :: l => (if w.known = true then some w else (Qbf w.c.p now).bind fun r => some ⟨w.c,true,r⟩).bind fun w' => (La now l).bind fun r => some (w' :: r)
theorem Da {now : Tm} : ∀ {l ws : List Wt},La now l = some ws → ws.length = l.length ∧ ∀ (i : Nat) (w : Wt),l[i]? = some w → ∃ v,ws[i]? = some v ∧ (w.known = true ∧ v = w ∨ w.known = false ∧ ∃ r,Qbf w.c.p now = some r ∧ v = ⟨w.c,true,r⟩)
  | [],ws,h => by injection h with h; subst h; exact ⟨rfl,fun i x hx => by simp at hx⟩
  |
   y :: l,ws,h => by
   simp only [La] at h
   obtain ⟨v,hv,h⟩ := Option.bind_eq_some_iff.1 h
   obtain ⟨r,hr,h⟩ := Option.bind_eq_some_iff.1 h
   injection h with h; subst h
   obtain ⟨a,b⟩ := Da hr
   refine ⟨by simp [a],fun i x hx => ?_⟩
   cases i with
   |
    zero =>
    injection hx with hx; subst hx
    refine ⟨v,rfl,?_⟩
    split at hv
    · rename_i hk; injection hv with hv; exact .inl ⟨hk,hv.symm⟩
    · rename_i hk
      obtain ⟨q,hq,hv⟩ := Option.bind_eq_some_iff.1 hv
      injection hv with hv
      exact .inr ⟨by simpa using hk,q,hq,hv.symm⟩
   | succ i => exact b i x (by simpa using hx)
theorem Qqt {p : List Int} {a : Tm} {r : Option Tm} (hp : Cp p) (ha : Va a) (h : Qbf p a = some r) : Qc Tryz.prog 241 [pr p,.agg (ta a)] [.agg (ota r),.one (.bool r.isSome)] := by
  obtain ⟨l,l1,l2,l3,_⟩ := Qhf hp
  unfold Qbf at h
  rw [l1] at h
  exact Qxz (Dp.pb hp.dp) ha.tb l1 (by omega) (fun t ht => (l3 t ht).tb) h
theorem Qx2 {T : Nat} {c : Cr} {r0 r1 : List (List LV)} {ws : List Wt} (hc : CrOk c) (h : La c.now c.l = some ws) : Ja Tryz.prog 195 [.one (.ow 0 0)] [.blk T (Re c r0 r1)] [] [.blk T (Re { c with l := ws } r0 r1)] := by
  have hk := hc.k
  have hw := W9 c.l
  obtain ⟨h1,h2⟩ := Da h
  refine Z6 Tryz.func195 rfl ?_
  refine go tt [.o 2 164 18,.c [0] (Qqx hc.n)] rfl trivial ?_
  refine lp (S := Nat) 3 (fun L1 i => (13,.v (.one (.int .i64 (i : Int)))) :: (2,.v (.one (.orow 1 18 none))) :: L1) (fun i => [.blk T (Re c r0 r1),.row false 164 18 (Mr (ws.take i)),.blk 67 (ta c.now)]) (fun i => c.l.length - i) (fun i => i ≤ c.l.length) 0 (Nat.zero_le _) rfl (fun _ _ => rfl) rfl fun i hi => ?_
  by_cases hlt : i < c.l.length
  · obtain ⟨w,hx⟩ : ∃ w,c.l[i]? = some w := ⟨_,List.getElem?_eq_getElem hlt⟩
    obtain ⟨v,hv,h3⟩ := h2 i w hx
    have hm : ∀ y ∈ [wl v],y.length = 18 := fun y hy => by rw [List.mem_singleton.1 hy]; rfl
    have hg := Dv hv
    have hl : decide ((i : Int) < ((Mr c.l).length : Int)) = true := by simp [hw]; omega
    rcases h3 with ⟨k1,rfl⟩ | ⟨k1,r,k2,rfl⟩
    · obtain ⟨vc,vk,vf⟩ := v
      cases vf <;> (refine go tt [.t hl,.x (Yp hx),.f (by rw [show vk = true from k1]; rfl),.s (sz := 18) hm] rfl (by simp [Qa,W9]; omega) ?_; exact rd (i + 1) (by omega) hlt (by rw [hg]; rfl))
    · have cg := Qqt (hc.l w (List.mem_of_getElem? hx)).p hc.n k2
      obtain ⟨wc,wk,wf⟩ := w
      cases r <;> cases wf <;> (refine go tt [.t hl,.x (Yp hx),.t (by rw [show wk = false from k1]; rfl),.c [] cg,.s (sz := 18) hm] rfl (by simp [Qa,W9]; omega) ?_; exact rd (i + 1) (by omega) hlt (by rw [hg]; rfl))
  · obtain rfl : i = c.l.length := by omega
    rw [← h1,List.take_length]
    exact ed tt [1] [0] [.f (by simp [hw,h1])] rfl trivial
def Qpl (ws : List Wt) : Option (Option Tm) := match ws.filterMap (·.fails) with
  | [] => some none
  | b :: l => (Ti b l).map some
theorem Qdc {c : Cr} {ws : List Wt} (hc : CrOk c) (h : La c.now c.l = some ws) : CrOk { c with l := ws } := by
  obtain ⟨h1,h2⟩ := Da h
  refine ⟨hc.n,fun v hv => ?_,by show ws.length ≤ 1000; rw [h1]; exact hc.k⟩
  obtain ⟨i,hi⟩ := List.getElem?_of_mem hv
  have hil : i < c.l.length := by rw [← h1]; exact (List.getElem?_eq_some_iff.1 hi).1
  obtain ⟨v',h3,h4⟩ := h2 i _ (List.getElem?_eq_getElem hil)
  rw [hi] at h3; injection h3 with h3; subst h3
  have hw := hc.l _ (List.getElem_mem hil)
  rcases h4 with ⟨_,rfl⟩ | ⟨_,r,k2,rfl⟩
  · exact hw
  · obtain ⟨r',r1,r2⟩ := Qum hw.p hc.n
    rw [k2] at r1; injection r1 with r1; subst r1
    refine ⟨hw.p,fun t ht => ?_⟩
    have ht : r = some t := ht
    subst ht
    exact r2.2.1
theorem Qx3 {T : Nat} {c : Cr} {r0 r1 : List (List LV)} {ws : List Wt} {r : Option Tm} (hc : CrOk c) (h : La c.now c.l = some ws) (hr : Qpl ws = some r) : Ja Tryz.prog 135 [.one (.ow 0 0)] [.blk T (Re c r0 r1)] [.agg (ota r),.one (.bool r.isSome)] [.blk T (Re { c with l := ws } r0 r1)] := by
  have hcl := Qx2 (T := T) (r0 := r0) (r1 := r1) hc h
  have hc' := Qdc hc h
  have hk := hc'.k
  have hw := W9 ws
  have hvb : ∀ t ∈ ws.filterMap (·.fails),Tb t := fun t ht => by
    obtain ⟨w,w1,w2⟩ := List.mem_filterMap.1 ht
    exact ((hc'.l w w1).f t w2).tb
  refine Z6 Tryz.func135 rfl ?_
  refine go tt [.c [0] hcl,.o 4 67 9] rfl trivial ?_
  refine lp (S := Nat) 3 (fun L1 i => (14,.v (.one (.int .i64 (i : Int)))) :: (4,.v (.one (.orow 2 9 none))) :: L1) (fun i => [.blk T (Re { c with l := ws } r0 r1),.blk 67 zTm,.row false 67 9 (tal ((ws.take i).filterMap (·.fails)))]) (fun i => ws.length - i) (fun i => i ≤ ws.length) 0 (Nat.zero_le _) rfl (fun _ _ => rfl) rfl fun i hi => ?_
  by_cases hlt : i < ws.length
  · obtain ⟨w,hx⟩ : ∃ w,ws[i]? = some w := ⟨_,List.getElem?_eq_getElem hlt⟩
    have hl : decide ((i : Int) < ((Mr ws).length : Int)) = true := by simp [hw]; omega
    have hfl : ((ws.take i).filterMap (·.fails)).length ≤ i := Nat.le_trans (List.length_filterMap_le _ _) (by rw [List.length_take]; omega)
    have hg : (ws.take (i + 1)).filterMap (·.fails) = (ws.take i).filterMap (·.fails) ++ (match w.fails with | none => [] | some t => [t]) := by
      rw [List.take_succ,hx,List.filterMap_append]
      show _ ++ List.filterMap (·.fails) [w] = _
      cases hwf : w.fails <;> simp [hwf]
    obtain ⟨wc,wk,wf⟩ := w
    have hk : ws.length ≤ 1000 := hk
    cases wf with
    |
     none =>
     refine go tt [.t hl,.x (Yp hx),.f rfl] rfl (by simp [Qa]; omega) ?_
     exact rd (i + 1) (by omega) hlt (by rw [hg]; simp; rfl)
    |
     some t =>
     refine go tt [.t hl,.x (Yp hx),.t rfl,.s (l := [ta t]) (sz := 9) (fun c hc => by rw [List.mem_singleton.1 hc]; rfl)] rfl (by simp [Qa]; omega) ?_
     exact rd (i + 1) (by omega) hlt (by rw [hg]; simp [tal]; rfl)
  · obtain rfl : i = ws.length := by omega
    rw [List.take_length]
    have hf : decide ((ws.length : Int) < ((Mr ws).length : Int)) = false := by simp [hw]
    have hln : (ws.filterMap (·.fails)).length ≤ 1000 := Nat.le_trans (List.length_filterMap_le _ _) hk
    unfold Qpl at hr
    cases hfm : ws.filterMap (·.fails) with
    |
     nil =>
     rw [hfm] at hr
     injection hr with hr; subst hr
     exact ed tt [] [0] [.f hf,.p 2,.c [] Qqy] rfl trivial
    |
     cons b l =>
     rw [hfm] at hr hvb hln
     obtain ⟨m,m1,rfl⟩ := Option.map_eq_some_iff.1 hr
     have cl := Rm (hvb b (List.mem_cons_self ..)) (fun t ht => hvb t (List.mem_cons_of_mem _ ht)) (by simp at hln; omega) m1
     exact ed tt [] [0] [.f hf,.p 2,.c [] cl] rfl trivial
end Orr

namespace Orr
open Go Go.Proofs Orq
set_option maxRecDepth 10000
theorem Qf2 {at_ : Tm} {x : Ct} : ∀ {l : List Wt} {w : Wt},Ra l x at_ = some w → w = fresh x ∨ ∃ v ∈ l,v.known = true ∧ v.c.p = x.p ∧ w = ⟨x,true,v.fails⟩ ∧ ∀ t,v.fails = some t → ∃ c,Oq t at_ = some c ∧ 0 < c
  | [],w,h => by simp only [Ra] at h; injection h with h; exact .inl h.symm
  |
   v :: l,w,h => by
   simp only [Ra] at h
   have tl : Ra l x at_ = some w → w = fresh x ∨ ∃ v' ∈ v :: l,v'.known = true ∧ v'.c.p = x.p ∧ w = ⟨x,true,v'.fails⟩ ∧ ∀ t,v'.fails = some t → ∃ c,Oq t at_ = some c ∧ 0 < c := fun h => by
     rcases Qf2 h with h | ⟨v',h1,h2⟩
     · exact .inl h
     · exact .inr ⟨v',List.mem_cons_of_mem _ h1,h2⟩
   split at h
   · rename_i hk
     cases hf : v.fails with
     |
      none =>
      rw [hf] at h
      injection h with h
      exact .inr ⟨v,List.mem_cons_self ..,hk.2.1,hk.2.2,by rw [hf]; exact h.symm,fun t ht => by rw [hf] at ht; cases ht⟩
     |
      some t =>
      rw [hf] at h
      obtain ⟨c,c1,h⟩ := Option.bind_eq_some_iff.1 h
      split at h
      · rename_i h0
        injection h with h
        exact .inr ⟨v,List.mem_cons_self ..,hk.2.1,hk.2.2,by rw [hf]; exact h.symm,fun u hu => by rw [hf] at hu; injection hu with hu; subst hu; exact ⟨c,c1,h0⟩⟩
      · exact tl h
   · exact tl h
theorem Qc7 {c : Cr} {at_ : Tm} {l : List Ct} {ws : List Wt} (ev : Int) (hc : CrOk c) (ha : Va at_) (hl : ∀ x ∈ l,Cp x.p) (hn : l.length ≤ 1000) (h : Qa5 c.l at_ (Xu l) = some ws) : CrOk ⟨at_,ws,ev⟩ := by
  obtain ⟨h1,h2⟩ := Ip h
  refine ⟨ha,fun w hw => ?_,by show ws.length ≤ 1000; rw [h1,V1]; exact hn⟩
  obtain ⟨i,hi⟩ := List.getElem?_of_mem hw
  have hil : i < (Xu l).length := by rw [← h1]; exact (List.getElem?_eq_some_iff.1 hi).1
  obtain ⟨v,h3,h4⟩ := h2 i _ (List.getElem?_eq_getElem hil)
  rw [hi] at h4; injection h4 with h4; subst h4
  have hx := hl _ (S9 (List.getElem_mem hil))
  rcases Qf2 h3 with e | ⟨v,v1,_,v3,e,_⟩
  · rw [e]; exact ⟨hx,fun t ht => by cases ht⟩
  · rw [e]; exact ⟨hx,fun t ht => (hc.l v v1).f t ht⟩
def goF {β : Type} (Bc : Tm → List Ct) (Br : Tm → β) (t : Rat) : Nat → Cr → β → Int → Option (Cr × β × Int)
  | 0,_,_,_ => none
  |
   k + 1,c,r,n => (La c.now c.l).bind fun ws => (Qpl ws).bind fun o => match o with
   | none => some (⟨tq t,ws,c.ev⟩,r,n)
   | some a => if 0 < Zn a t then some (⟨tq t,ws,c.ev⟩,r,n) else (Qa5 ws a (Xu (Bc a))).bind fun w2 => goF Bc Br t k ⟨a,w2,c.ev + 1⟩ (Br a) (n + 1)
theorem Qup {ws : List Wt} {a : Tm} (h : Qpl ws = some (some a)) (hv : ∀ t ∈ ws.filterMap (·.fails),Va t) : a ∈ ws.filterMap (·.fails) ∧ ∀ t ∈ ws.filterMap (·.fails),¬ Lp t a := by
  unfold Qpl at h
  cases hf : ws.filterMap (·.fails) with
  | nil => rw [hf] at h; injection h with h; cases h
  |
   cons b l =>
   rw [hf] at h hv
   obtain ⟨m,m1,m2⟩ := Option.map_eq_some_iff.1 h
   injection m2 with m2; subst m2
   obtain ⟨m',n1,n2,n3⟩ := Qa6 l b hv
   rw [m1] at n1; injection n1 with n1; subst n1
   exact ⟨n2,n3⟩
theorem Q4n {c : Cr} {ws : List Wt} {a : Tm} (hc : CrOk c) (h : La c.now c.l = some ws) (hr : Qpl ws = some (some a)) : Va a := by
  have hc' := Qdc hc h
  have hv : ∀ t ∈ ws.filterMap (·.fails),Va t := fun t ht => by
    obtain ⟨w,w1,w2⟩ := List.mem_filterMap.1 ht
    exact (hc'.l w w1).f t w2
  exact hv a (Qup hr hv).1
structure BuildOk (Bc : Tm → List Ct) : Prop where
  p : ∀ a,Va a → ∀ x ∈ Bc a,Cp x.p
  n : ∀ a,Va a → (Bc a).length ≤ 1000
theorem Q59 {T : Nat} {t : Rat} {Bc : Tm → List Ct} {Br : Tm → List (List LV)} {r0 : List (List LV)} (ht : Qs 900 t) (hB : BuildOk Bc)
    (hb : ∀ a c r1,Va a → CrOk c → Ja Tryz.prog 94 [.one (.ow 0 0),.agg (ta a)] [.blk T (Re c r0 r1)] [.one (.row (Z2 (Bc a)))] [.blk T (Re c r0 (Br a))])
    {K : Nat} {c c' : Cr} {r1 r1' : List (List LV)} {n : Int} (hc : CrOk c) (hev : 0 ≤ c.ev ∧ c.ev + K ≤ 1000000000000000000) (h : Zn c.now t ≤ 0) (hg : goF Bc Br t K c r1 0 = some (c',r1',n)) :
    Ja Tryz.prog 81 [.one (.ow 0 0),.agg (rl t),.one (.ofn 94 [.ow 0 0] [])] [.blk T (Re c r0 r1)] [.one (.int .i64 n),.one (.int .i64 0)] [.blk T (Re c' r0 r1')] := by
  have qt : Qb t := ht.mono (by decide)
  have c1 := Ad hc.n.tb qt
  refine Z6 Tryz.func81 rfl ?_
  refine go tt [.c [0] (Qqx hc.n),.c [] c1,.f (by simpa using h)] rfl trivial ?_
  refine lp (S := Nat × Cr × List (List LV) × Int) 2 (fun L1 s => (8,.v (.one (.int .i64 s.2.2.2))) :: L1) (fun s => [.blk T (Re s.2.1 r0 s.2.2.1),.blk 41 (rl t)]) (fun s => s.1) (fun s => CrOk s.2.1 ∧ (0 ≤ s.2.1.ev ∧ s.2.1.ev + s.1 ≤ 1000000000000000000) ∧ (0 ≤ s.2.2.2 ∧ s.2.2.2 + s.1 ≤ 1000000000000000000) ∧ goF Bc Br t s.1 s.2.1 s.2.2.1 s.2.2.2 = some (c',r1',n)) (K,c,r1,0) ⟨hc,hev,⟨Int.le_refl 0,by dsimp only; omega⟩,hg⟩ rfl (fun _ _ => rfl) rfl fun ⟨k,x,r,m⟩ ⟨j1,j2,j3,j4⟩ => ?_
  dsimp only at j1 j2 j3 j4 ⊢
  cases k with
  | zero => cases j4
  |
   succ k =>
   simp only [goF] at j4
   obtain ⟨ws,w1,j4⟩ := Option.bind_eq_some_iff.1 j4
   obtain ⟨o,o1,j4⟩ := Option.bind_eq_some_iff.1 j4
   have cn := Qx3 (T := T) (r0 := r0) (r1 := r) j1 w1 o1
   have ca := Q1z (Qe t.num) (Qe (t.den : Int)) (Nat.le_trans ht.1 (by decide)) (Nat.le_trans ht.2 (by decide)) (by rw [H1]; exact ht.mono (by decide))
   rw [H1] at ca
   cases o with
   |
    none =>
    injection j4 with j4; injection j4 with e1 j4; injection j4 with e2 e3
    subst e1; subst e2; subst e3
    exact ed tt [] [0] [.c [0] cn,.g 25 true rfl,.t rfl,.c [] ca] rfl trivial
   |
    some a =>
    have ha := Q4n j1 w1 o1
    dsimp only at j4
    have cc := Ad ha.tb qt
    by_cases h0 : 0 < Zn a t
    · rw [if_pos h0] at j4
      injection j4 with j4; injection j4 with e1 j4; injection j4 with e2 e3
      subst e1; subst e2; subst e3
      exact ed tt [] [0] [.c [0] cn,.g 25 false rfl,.c [] cc,.t (by simpa using h0),.c [] ca] rfl trivial
    · rw [if_neg h0] at j4
      obtain ⟨w2,l1,j4⟩ := Option.bind_eq_some_iff.1 j4
      have j1' := Qdc j1 w1
      have cl := Rm (b := a) (l := []) ha.tb (fun t ht => by cases ht) (by decide) rfl
      have cb := hb a { x with l := ws } r ha j1'
      have cy := Qx1 (T := T) (r0 := r0) (r1 := Br a) j1' ha (hB.p a ha) (hB.n a ha) l1
      have hf : decide (0 < Zn a t) = false := by simpa using h0
      refine go tt [.c [0] cn,.g 25 false rfl,.c [] cc,.f hf,.c [] cl,.c [0] cb,.c [0] cy] rfl (by simp [Qa]; omega) ?_
      exact rd (k,⟨a,w2,x.ev + 1⟩,Br a,m + 1) (by dsimp only; omega) ⟨Qc7 _ j1' ha (hB.p a ha) (hB.n a ha) l1,by dsimp only; omega,by dsimp only; omega,j4⟩ rfl
end Orr

namespace Orr
open Go Go.Proofs Orq
set_option maxRecDepth 10000
theorem Qsn {a b : Pt} (ha : Sc a.c) (hb : Sc b.c) : Cp (Ix a b) := Qaj (Aq ha hb) (Ap ha hb)
def bcS (l : List Pt) (a : Tm) : List Ct := Y5 (Ll a) (Bb a l)
abbrev brS (l : List Pt) (a : Tm) : List (List LV) := Qt (Bb a l)
theorem Qg2 {sg : List Int → Int} : ∀ {l : List Pt},(∀ p ∈ l,Sc p.c) → ∀ x ∈ Y5 sg l,Cp x.p
  | [],_,x,hx => by cases hx
  | [_],_,x,hx => by cases hx
  |
   a :: b :: l,h,x,hx => by
   simp only [Y5] at hx
   rcases List.mem_cons.1 hx with rfl | hx
   · exact Qsn (h a (by simp)) (h b (by simp))
   · exact Qg2 (fun p hp => h p (List.mem_cons_of_mem _ hp)) x hx
theorem Be {t : Tm} {l : List Pt} {p : Pt} : p ∈ Bb t l ↔ p ∈ l := by
  unfold Bb Z8; rw [P6]; simp
theorem W5 (t : Tm) (l : List Pt) : (Bb t l).length = l.length := J6 _ _
theorem Qb8 {l : List Pt} (hl : ∀ p ∈ l,Sc p.c) (hn : l.length ≤ 1000) : BuildOk (bcS l) :=
  ⟨fun a _ x hx => Qg2 (fun p hp => hl p (Be.1 hp)) x hx,fun a _ => by unfold bcS; rw [Wd,W5]; omega⟩
theorem Qoc {l : List Pt} {a : Tm} {c : Cr} {r1 : List (List LV)} (hl : ∀ p ∈ l,Sc p.c) (hn : l.length ≤ 1000) (ha : Va a) : Ja Tryz.prog 94 [.one (.ow 0 0),.agg (ta a)] [.blk 96 (Re c (Qt l) r1)] [.one (.row (Z2 (bcS l a)))] [.blk 96 (Re c (Qt l) (brS l a))] := by
  have cr := Q1v hl (by omega) ha
  have cc := Ae (l := Bb a l) (t := a) (fun p hp => hl p (Be.1 hp)) (by rw [W5]; omega) ha
  refine Z6 Tryz.func94 rfl ?_
  exact ed tt [] [0] [.c [] Qq0,.c [] cr,.c [] cc] rfl trivial
theorem Qob {l : List Pt} {a : Tm} (hl : ∀ p ∈ l,Sc p.c) (hn : l.length ≤ 1000) (ha : Va a) : Ja Tryz.prog 94 [.one (.ow 0 0),.agg (ta a)] [.blk 96 (crz (.row (Qt l)) .nils)] [.one (.row (Z2 (bcS l a)))] [.blk 96 (crz (.row (Qt l)) (.row (brS l a)))] := by
  have cr := Q1v hl (by omega) ha
  have cc := Ae (l := Bb a l) (t := a) (fun p hp => hl p (Be.1 hp)) (by rw [W5]; omega) ha
  refine Z6 Tryz.func94 rfl ?_
  exact ed tt [] [0] [.c [] Qq0,.c [] cr,.c [] cc] rfl trivial
def Qhx (l : List Pt) (a : Tm) : Cr := ⟨a,(Xu (bcS l a)).map fresh,0⟩
theorem Qk5 {zs : List (List LV)} {qs l : List Pt} {x y x' y' : LV} {n d : Int} (hz : IsPts 4294967294 1073741824 zs qs) (hq : qs.length ≤ 6) (hnl : Jr [] qs = (l, 0)) (hl : ∀ p ∈ l, Sc p.c) (hn : l.length ≤ 1000) (h1 : Xl x y n) (h2 : Xl x' y' d) (bn : Qm n ≤ 4294967295) (bd : Qm d ≤ 4294967295) (ht : Qs 900 (Zi n d)) :
    Ja Tryz.prog 41 [.agg [x,y,x',y'],.one (.row zs)] [] [.one (.ow 0 0),.one (.int .i64 0)] [.blk 96 (Re (Qhx l (tq (Zi n d))) (Qt l) (brS l (tq (Zi n d))))] := by
  have cn := Q6b hz hq
  rw [hnl] at cn
  have co := Q1z h1 h2 bn bd (ht.mono (by decide))
  have hv := Q5l ht
  have hB := Qb8 hl hn
  have cb := Qob hl hn hv
  have cg := Qn9 (T := 96) (r0 := Qt l) (r1 := brS l (tq (Zi n d))) hv (hB.p _ hv) (hB.n _ hv)
  obtain ⟨b,l1,rfl,rfl,_⟩ := h1
  obtain ⟨b',l2,rfl,rfl,_⟩ := h2
  refine Z6 Tryz.func41 rfl ?_
  exact ed tt [] [2] [.c [] cn,.f rfl,.c [] co,.c [2] cb,.c [2] cg] rfl trivial
end Orr

namespace Orr
open Go Go.Proofs Orq
set_option maxRecDepth 10000
theorem Qh8 {c : Cr} {l s : List Pt} (hs : s.length ≤ 1000000) : Ja Tryz.prog 44 [.one (.ow 0 0)] [.blk 96 (Re c (Qt l) (Qt s))] [.one (ids (s.map (·.id)))] [.blk 96 (Re c (Qt l) (Qt s))] := by
  have hcl := Yo s
  refine Z6 Tryz.func44 rfl ?_
  refine go tt [.o 3 3 1] rfl trivial ?_
  refine lp (S := Nat) 2 (fun L1 i => (11,.v (.one (.int .i64 (i : Int)))) :: (3,.v (.one (.orow 1 1 none))) :: L1) (fun i => [.blk 96 (Re c (Qt l) (Qt s)),.row false 3 1 (((s.take i).map (·.id)).map fun (z : Int) => [LV.int .i64 z])]) (fun i => s.length - i) (fun i => i ≤ s.length) 0 (Nat.zero_le _) rfl (fun _ _ => rfl) rfl fun i hi => ?_
  by_cases hlt : i < s.length
  · obtain ⟨p,hp⟩ : ∃ p,s[i]? = some p := ⟨_,List.getElem?_eq_getElem hlt⟩
    have hg : (((s.take (i + 1)).map (·.id)).map fun (z : Int) => [LV.int .i64 z]) = (((s.take i).map (·.id)).map fun (z : Int) => [LV.int .i64 z]) ++ [[.int .i64 p.id]] := by
      rw [List.take_succ,hp]; simp
    refine go tt [.t (by simp [hcl]; omega),.x (Vb hp),.s (sz := 1) (l := [[.int .i64 p.id]]) (fun c hc => by rw [List.mem_singleton.1 hc]; rfl)] rfl (by simp [Qa]; omega) ?_
    exact rd (i + 1) (by omega) hlt (by rw [hg]; rfl)
  · obtain rfl : i = s.length := by omega
    rw [List.take_length]
    exact ed tt [1] [0] [.f (by simp [hcl])] rfl trivial
theorem Q3g {t : Rat} {l : List Pt} {K : Nat} {c c' : Cr} {r1 r1' : List (List LV)} {n : Int} (ht : Qs 900 t) (hl : ∀ p ∈ l, Sc p.c) (hn : l.length ≤ 1000) (hc : CrOk c) (hev : 0 ≤ c.ev ∧ c.ev + K ≤ 1000000000000000000) (h : Zn c.now t ≤ 0) (hg : goF (bcS l) (brS l) t K c r1 0 = some (c', r1', n)) :
    Ja Tryz.prog 42 [.one (.ow 0 0),.agg (rl t)] [.blk 96 (Re c (Qt l) r1)] [.one (.int .i64 n),.one (.int .i64 0)] [.blk 96 (Re c' (Qt l) r1')] := by
  have cg := Q59 (T := 96) (r0 := Qt l) ht (Qb8 hl hn) (fun a c r1 ha _ => Qoc (c := c) (r1 := r1) hl hn ha) hc hev h hg
  refine Z6 Tryz.func42 rfl ?_
  exact ed tt [] [0] [.c [] (Hl (ht.mono (by decide))),.c [0] cg] rfl trivial
end Orr

namespace Orr
open Go Go.Proofs Orq
set_option maxRecDepth 10000
theorem Qk4 {c : Cr} {l s : List Pt} {id : Int} (hs : s.length ≤ 1000000) {r : Option Nat} (hr : match r with
    | some k => (∃ p,s[k]? = some p ∧ p.id = id) ∧ ∀ (j : Nat) (p : Pt),j < k → s[j]? = some p → p.id ≠ id
    | none => ∀ p ∈ s,p.id ≠ id) : Ja Tryz.prog 57 [.one (.ow 0 0),.one (.int .i64 id)] [.blk 96 (Re c (Qt l) (Qt s))] [.one (.int .i64 (r.getD 0 : Nat)),.one (.bool r.isSome)] [.blk 96 (Re c (Qt l) (Qt s))] := by
  have hcl := Yo s
  refine Z6 Tryz.func57 rfl ?_
  refine go tt [] rfl trivial ?_
  refine lp (S := Nat) 1 (fun L1 i => (13,.v (.one (.int .i64 (i : Int)))) :: L1) (fun _ => [.blk 96 (Re c (Qt l) (Qt s))]) (fun i => s.length - i) (fun i => i ≤ s.length ∧ ∀ k,r = some k → i ≤ k) 0 ⟨Nat.zero_le _,fun _ _ => Nat.zero_le _⟩ rfl (fun _ _ => rfl) rfl fun i ⟨hi,hk⟩ => ?_
  by_cases hlt : i < s.length
  · obtain ⟨p,hp⟩ : ∃ p,s[i]? = some p := ⟨_,List.getElem?_eq_getElem hlt⟩
    by_cases e : p.id = id
    · cases r with
      | none => exact absurd e (hr p (List.mem_of_getElem? hp))
      |
       some k =>
       have h1 := hk k rfl
       obtain rfl : i = k := by
         rcases Nat.lt_or_eq_of_le h1 with h2 | h2
         · exact absurd e (hr.2 i p h2 hp)
         · exact h2
       exact ed tt [] [0] [.t (by simp [hcl]; omega),.x (Vb hp),.t (by simpa using e)] rfl trivial
    · refine go tt [.t (by simp [hcl]; omega),.x (Vb hp),.f (by simpa using e)] rfl (by simp [Qa]; omega) ?_
      exact rd (i + 1) (by omega) ⟨hlt,fun k hk' => by
        have h1 := hk k hk'
        rcases Nat.lt_or_eq_of_le h1 with h2 | h2
        · exact h2
        · subst hk'; subst h2
          obtain ⟨q,q1,q2⟩ := hr.1
          rw [hp] at q1; injection q1 with q1; subst q1
          exact absurd q2 e⟩ rfl
  · obtain rfl : i = s.length := by omega
    cases r with
    | none => exact ed tt [] [0] [.f (by simp [hcl])] rfl trivial
    |
     some k =>
     have h1 := hk k rfl
     obtain ⟨p,p1,_⟩ := hr.1
     have := (List.getElem?_eq_some_iff.1 p1).1
     omega
abbrev idl (l : List Int) : List (List LV) := l.map fun (z : Int) => [.int .i64 z]
theorem Nh {l : List Int} {i : Nat} {z : Int} (h : l[i]? = some z) : (idl l)[i]? = some [.int .i64 z] := Z9 h
theorem Qrf {a b : List Int} (ha : a.length ≤ 1000000) (hb : b.length ≤ 1000000) : Qc Tryz.prog 71 [.one (ids a),.one (ids b)] [.one (.bool (decide (a = b)))] := by
  show Qc Tryz.prog 71 [.one (.row (idl a)),.one (.row (idl b))] _
  have la : (idl a).length = a.length := by simp
  have lb : (idl b).length = b.length := by simp
  refine Z6 Tryz.func71 rfl ?_
  by_cases hl : a.length = b.length
  · refine go tt [.f (by simp; omega)] rfl trivial ?_
    refine lp (S := Nat) 0 (fun L1 i => (5,.v (.one (.int .i64 (i : Int)))) :: L1) (fun _ => []) (fun i => a.length - i) (fun i => i ≤ a.length ∧ a.take i = b.take i) 0 ⟨Nat.zero_le _,rfl⟩ rfl (fun _ _ => rfl) rfl fun i ⟨hi,he⟩ => ?_
    by_cases hlt : i < a.length
    · obtain ⟨x,hx⟩ : ∃ p,a[i]? = some p := ⟨_,List.getElem?_eq_getElem hlt⟩
      obtain ⟨y,hy⟩ : ∃ p,b[i]? = some p := ⟨_,List.getElem?_eq_getElem (by omega)⟩
      by_cases e : x = y
      · refine go tt [.t (by simp; omega),.x (Nh hx),.x (Nh hy),.f (by simpa using e)] rfl (by simp [Qa]; omega) ?_
        exact rd (i + 1) (by omega) ⟨hlt,by rw [List.take_succ,List.take_succ,hx,hy,he,e]⟩ rfl
      · have hne : a ≠ b := fun h => by rw [h,hy] at hx; injection hx with hx; exact e hx.symm
        exact en tt [.t (by simp; omega),.x (Nh hx),.x (Nh hy),.t (by simpa using e)] rfl (by simp [hne]) trivial
    · obtain rfl : i = a.length := by omega
      have hab : a = b := by rw [List.take_length] at he; rw [he,hl,List.take_length]
      exact en tt [.f (by simp)] rfl (by simp [hab]) trivial
  · have hne : a ≠ b := fun h => hl (by rw [h])
    exact en tt [.t (by simp; omega)] rfl (by simp [hne]) trivial
def Rh (v n : Int) : Int := if n < 1 then 0 else v.emod n
theorem Qp5 {v n : Int} (h : 0 < n) : (if v.tmod n < 0 then v.tmod n + n else v.tmod n) = v % n := by
  have h3 := Int.emod_nonneg v (show n ≠ 0 by omega)
  have h4 := Int.emod_lt_of_pos v h
  have h1 := Int.tmod_eq_emod (a := v) (b := n)
  have hn : ((n.natAbs : Nat) : Int) = n := by omega
  split at h1
  · rw [h1]; simp; omega
  · rename_i hc
    rw [h1,hn]
    have : v % n ≠ 0 := fun e => hc (.inr (Int.dvd_of_emod_eq_zero e))
    rw [if_pos (by omega)]; omega
theorem Mx {v n : Int} (hv : -9223372036854775808 ≤ v ∧ v ≤ 9223372036854775807) (hn : n ≤ 1000000000) : Qc Tryz.prog 15 [.one (.int .i64 v),.one (.int .i64 n)] [.one (.int .i64 (Rh v n))] := by
  unfold Rh
  by_cases h : n < 1
  · rw [if_pos h]
    exact w tt Tryz.func15 rfl [.t (by simpa using h)] rfl rfl trivial
  · rw [if_neg h]
    have e := Qp5 (v := v) (n := n) (by omega)
    have h3 := Int.emod_nonneg v (show n ≠ 0 by omega)
    have h4 := Int.emod_lt_of_pos v (show 0 < n by omega)
    show Qc Tryz.prog 15 [.one (.int .i64 v),.one (.int .i64 n)] [.one (.int .i64 (v % n))]
    by_cases h0 : v.tmod n < 0
    · rw [if_pos h0] at e
      have b : -n ≤ v.tmod n := by omega
      exact w tt Tryz.func15 rfl [.f (by simpa using h),.t (by simpa using h0)] rfl (by rw [e]) (by simp [Qa]; omega)
    · rw [if_neg h0] at e
      exact w tt Tryz.func15 rfl [.f (by simpa using h),.f (by simpa using h0)] rfl (by rw [e]) (by simp [Qa]; omega)
end Orr

namespace Orr
open Go Go.Proofs
set_option maxRecDepth 10000
def Xe (p : List Rat) : List (List LV) := p.map fr
theorem Jf (p : List Rat) : (Xe p).length = p.length := by simp [Xe]
theorem U4 {p : List Rat} {i : Nat} {q : Rat} (h : p[i]? = some q) : (Xe p)[i]? = some (fr q) := Z9 h
theorem Qax (p : List Rat) (q : Rat) : Xe (p ++ [q]) = Xe p ++ [fr q] := by simp [Xe]
theorem Cw (p : List Rat) : ∀ c ∈ Xe p,c.length = 4 := fun c hc => by obtain ⟨x,_,rfl⟩ := List.mem_map.1 hc; rfl
abbrev rp (p : List Rat) : LV := .row (Xe p)
theorem Qjc (q : Rat) : ∀ c ∈ [fr q],c.length = 4 := fun c hc => by rw [List.mem_singleton.1 hc]; rfl
theorem Qrp : Qc Tryz.prog 308 [] [.agg (fr 0)] := w tt Tryz.func308 rfl [.c [] (Cf (n := 0) (by decide))] rfl rfl trivial
theorem Rp {p : List Rat} : Qc Tryz.prog 280 [.one (rp p)] [.one (rp (Kz p))] := by
  refine Z6 Tryz.func280 rfl (ln 0 rfl rfl fun hl => ?_)
  rw [Jf] at hl
  have hpl := Jf p
  refine go tt [] rfl trivial ?_
  refine lp (S := Nat) 0 (fun L1 n => (3,.v (.one (.int .i64 (n : Int)))) :: L1) (fun _ => []) id (fun n => n ≤ p.length ∧ ∀ j x,n ≤ j → p[j]? = some x → x = 0) (Xe p).length ⟨by rw [hpl]; exact Nat.le_refl _,fun j x h1 h2 => by
    have := (List.getElem?_eq_some_iff.1 h2).1; rw [hpl] at h1; omega⟩ rfl (fun _ _ => rfl) rfl fun n hs => ?_
  obtain ⟨h1,h2⟩ := hs
  cases n with
  |
   zero =>
   have e := Do h1 (fun j x h => h2 j x h) (fun h => absurd h (by decide))
   exact en tt [.g 8 false (by simp),.f rfl,.i 0] rfl (by rw [e]; rfl) (by simp [Qa])
  |
   succ n =>
   obtain ⟨x,hx⟩ : ∃ x,p[n]? = some x := ⟨_,List.getElem?_eq_getElem (by omega)⟩
   have hn := Rat.num_eq_zero (q := x)
   by_cases h0 : x = 0
   · refine go tt [.g 8 true (by simp),.r 11 (eI (b := (n : Int)) (by simp)),.x (U4 hx),.c [] (Vk (z := x.num)),.t (decide_eq_true (hn.2 h0)),.r 18 (eI (b := (n : Int)) (by simp))] rfl (by simp [Qa]; omega) ?_
     exact rd n (by simp) ⟨by omega, fun j y h3 h4 => by
         rcases Nat.eq_or_lt_of_le h3 with rfl | h3
         · rw [hx] at h4; injection h4 with h4; rw [← h4,h0]
         · exact h2 j y h3 h4⟩ rfl
   · have e := Do h1 (fun j x h => h2 j x h) (fun _ => ⟨x,hx,h0⟩)
     exact en tt [.g 8 true (by simp),.r 11 (eI (b := (n : Int)) (by simp)),.x (U4 hx),.c [] (Vk (z := x.num)),.f (decide_eq_false fun h => h0 (hn.1 h)),.i (n + 1)] rfl (by rw [e]; simp [rp,Xe,List.map_take]) (by simp [Qa,hpl] <;> omega)
theorem Q12 {p : List Rat} {i : Nat} (hi : i < 1099511627776) : Qc Tryz.prog 286 [.one (rp p),.one (.int .i64 (i : Int))] [.agg (fr (p.getD i 0))] := by
  have hpl := Jf p
  by_cases h : i < p.length
  · have e : p.getD i 0 = p[i] := by rw [List.getD_eq_getElem?_getD,List.getElem?_eq_getElem h]; rfl
    rw [e]
    exact w tt Tryz.func286 rfl [.g 7 false (decide_eq_false (by omega)),.f (decide_eq_false (by omega)),.x (U4 (List.getElem?_eq_getElem h))] rfl rfl trivial
  · have e : p.getD i 0 = 0 := by rw [List.getD_eq_getElem?_getD,List.getElem?_eq_none (by omega)]; rfl
    rw [e]
    exact w tt Tryz.func286 rfl [.g 7 false (decide_eq_false (by omega)),.t (decide_eq_true (by omega)),.c [] Qrp] rfl rfl trivial
theorem Qr4 : Qc Tryz.prog 281 [.one (ids [1])] [.one (rp (zp [1]))] := by
  have cc := Rp (p := zp [1])
  rw [Kr,show trim [1] = [1] from rfl] at cc
  refine Z6 Tryz.func281 rfl ?_
  refine go tt [.o 3 49 4] rfl trivial ?_
  refine lp (S := Nat) 1 (fun L1 i => (7,.v (.one (.int .i64 (i : Int)))) :: (3,.v (.one (.orow 0 4 none))) :: L1) (fun i => [.row false 49 4 (Xe ((zp [1]).take i))]) (fun i => 1 - i) (fun i => i ≤ 1) 0 (by decide) rfl (fun _ _ => rfl) rfl fun i hi => ?_
  rcases (show i = 0 ∨ i = 1 by omega) with rfl | rfl
  · refine go tt [.t rfl,.x (l := idl [1]) (i := 0) (xs := [.int .i64 1]) rfl,.c [] (Cf (n := 1) (by decide)),.s (sz := 4) (Qjc _)] rfl (by simp [Qa,Xe]) ?_
    exact rd 1 (by omega) (by omega) rfl
  · exact en tt [.f rfl,.c [] cc] rfl rfl trivial
theorem So {p : List Int} (hb : Bd 90000000 p) (hl : p.length ≤ 1000000) : Qc Tryz.prog 249 [pr p] [.one (rp (zp (trim p)))] := by
  have hpl : (p.map Zg).length = p.length := by simp
  have cc := Rp (p := zp p)
  rw [Kr] at cc
  show Qc Tryz.prog 249 [.one (.row (p.map Zg))] _
  refine Z6 Tryz.func249 rfl ?_
  refine go tt [.o 3 49 4] rfl trivial ?_
  refine lp (S := Nat) 1 (fun L1 i => (7,.v (.one (.int .i64 (i : Int)))) :: (3,.v (.one (.orow 0 4 none))) :: L1) (fun i => [.row false 49 4 (Xe (zp (p.take i)))]) (fun i => p.length - i) (fun i => i ≤ p.length) 0 (Nat.zero_le _) rfl (fun _ _ => rfl) rfl fun i hi => ?_
  have hol : (Xe (zp (p.take i))).length = i := by rw [Jf,Ya,List.length_take]; omega
  by_cases h : i < p.length
  · obtain ⟨z,hz⟩ : ∃ z,p[i]? = some z := ⟨_,List.getElem?_eq_getElem h⟩
    have hzb := hb z (List.mem_of_getElem? hz)
    have hg : Xe (zp (p.take (i + 1))) = Xe (zp (p.take i)) ++ [fr (z : Rat)] := by
      rw [List.take_succ,hz]; simp [Xe,zp]
    refine go tt [.t (decide_eq_true (by omega)),.x (Z9 (f := Zg) hz),.c [] (Qca (z := z) (by omega)),.c [] (Ue (n := 1) (by decide)),.c [] (Vd (n := z)),.s (sz := 4) (Qjc _)] rfl (by simp [Qa,hol,-List.getD_eq_getElem?_getD]; omega) ?_
    exact rd (i + 1) (by omega) h (by rw [hg]; rfl)
  · have e : i = p.length := by omega
    rw [e,List.take_length]
    exact en tt [.f (decide_eq_false (by omega)),.c [] cc] rfl rfl trivial
theorem Q11 {p : List Int} (hb : Bd 90000000 p) (hl : p.length ≤ 1000000) : Qc Tryz.prog 277 [.one (rp (zp p))] [pr p] := by
  have hpl : (Xe (zp p)).length = p.length := by rw [Jf,Ya]
  show Qc Tryz.prog 277 [.one (rp (zp p))] [.one (.row (p.map Zg))]
  refine Z6 Tryz.func277 rfl ?_
  refine go tt [.o 3 29 2] rfl trivial ?_
  refine lp (S := Nat) 1 (fun L1 i => (7,.v (.one (.int .i64 (i : Int)))) :: (3,.v (.one (.orow 0 2 none))) :: L1) (fun i => [.row false 29 2 ((p.take i).map Zg)]) (fun i => p.length - i) (fun i => i ≤ p.length) 0 (Nat.zero_le _) rfl (fun _ _ => rfl) rfl fun i hi => ?_
  have hol : ((p.take i).map Zg).length = i := by rw [List.length_map,List.length_take]; omega
  by_cases h : i < p.length
  · obtain ⟨z,hz⟩ : ∃ z,p[i]? = some z := ⟨_,List.getElem?_eq_getElem h⟩
    have hzb := hb z (List.mem_of_getElem? hz)
    have hq : ∀ c ∈ [Zg z],c.length = 2 := fun c hc => by rw [List.mem_singleton.1 hc]; rfl
    have hg : (p.take (i + 1)).map Zg = (p.take i).map Zg ++ [Zg z] := by
      rw [List.take_succ,hz]; simp
    refine go tt [.t (decide_eq_true (by omega)),.x (U4 (Qxa hz)),.c [] (Qri (z := z) (by omega)),.s (sz := 2) hq] rfl (by simp [Qa]; omega) ?_
    exact rd (i + 1) (by omega) h (by rw [hg]; rfl)
  · have e : i = p.length := by omega
    rw [e,List.take_length]
    exact en tt [.f (decide_eq_false (by omega))] rfl rfl trivial
theorem Qr1 {p q : List Rat} (hp : Rb 20000000 p) (hq : Rb 20000000 q) (hlp : p.length ≤ 1000000) (hlq : q.length ≤ 1000000) : Qc Tryz.prog 255 [.one (rp p),.one (rp q)] [.one (rp (Qpt p q))] := by
  have h1 := Jf p
  have h2 := Jf q
  obtain ⟨M,hM⟩ : ∃ M,M = max p.length q.length := ⟨_,rfl⟩
  have cc := Rp (p := Rg (fun i => p.getD i 0 + q.getD i 0) M)
  unfold Qpt
  rw [← hM]
  refine Z6 Tryz.func255 rfl ?_
  refine go tt [.o 5 49 4] rfl trivial ?_
  refine lp (S := Nat) 1 (fun L1 i => (6,.v (.one (.int .i64 (i : Int)))) :: (5,.v (.one (.orow 0 4 none))) :: L1) (fun i => [.row false 49 4 (Xe (Rg (fun i => p.getD i 0 + q.getD i 0) i))]) (fun i => M - i) (fun i => i ≤ M) 0 (Nat.zero_le _) rfl (fun _ _ => rfl) rfl fun i hi => ?_
  have hol : (Xe (Rg (fun i => p.getD i 0 + q.getD i 0) i)).length = i := by rw [Jf,Bp]
  by_cases h : i < M
  · refine go tt [.r 12 (eI (b := (M : Int)) (by omega)),.t (decide_eq_true (by omega)),.c [] (Q12 (p := p) (i := i) (by omega)),.c [] (Q12 (p := q) (i := i) (by omega)),.c [] (Qqo (hp.getD (by decide) i) (hq.getD (by decide) i)),.s (sz := 4) (Qjc _)] rfl (by simp [Qa,hol,-List.getD_eq_getElem?_getD]; omega) ?_
    exact rd (i + 1) (by omega) h (by rw [Qb0,Qax]; rfl)
  · have e : i = M := by omega
    rw [e]
    exact en tt [.r 12 (eI (b := (M : Int)) (by omega)),.f (decide_eq_false (by omega)),.c [] cc] rfl rfl trivial
theorem Gh {p : List Rat} {c : Rat} (hp : Rb 40000000 p) (hc : Qs 40000000 c) (hlp : p.length ≤ 1000000) : Qc Tryz.prog 248 [.one (rp p),.agg (fr c)] [.one (rp (Vc p c))] := by
  have h1 := Jf p
  have cc := Rp (p := Rg (fun i => p.getD i 0 * c) p.length)
  unfold Vc
  refine Z6 Tryz.func248 rfl ?_
  refine go tt [.o 5 49 4] rfl trivial ?_
  refine lp (S := Nat) 2 (fun L1 i => (9,.v (.one (.int .i64 (i : Int)))) :: (5,.v (.one (.orow 1 4 none))) :: L1) (fun i => [.blk 49 (fr c),.row false 49 4 (Xe (Rg (fun i => p.getD i 0 * c) i))]) (fun i => p.length - i) (fun i => i ≤ p.length) 0 (Nat.zero_le _) rfl (fun _ _ => rfl) rfl fun i hi => ?_
  have hol : (Xe (Rg (fun i => p.getD i 0 * c) i)).length = i := by rw [Jf,Bp]
  by_cases h : i < p.length
  · have hg : p[i]? = some (p.getD i 0) := by rw [List.getD_eq_getElem?_getD,List.getElem?_eq_getElem h]; rfl
    refine go tt [.t (decide_eq_true (by omega)),.x (U4 hg),.c [] (Qq2 (hp.getD (by decide) i) hc),.s (sz := 4) (Qjc _)] rfl (by simp [Qa,hol,-List.getD_eq_getElem?_getD]; omega) ?_
    exact rd (i + 1) (by omega) h (by rw [Qb0,Qax]; rfl)
  · have e : i = p.length := by omega
    rw [e]
    exact en tt [.f (decide_eq_false (by omega)),.c [] cc] rfl rfl trivial
theorem Qih {p : List Rat} (hp : Rb 40000000 p) (hlp : p.length ≤ 1000000) : Qc Tryz.prog 253 [.one (rp p)] [.one (rp (Qd1 p))] := by
  have cs := Gh (p := p) (c := -1) hp ⟨by decide,by decide⟩ hlp
  have co := Cf (n := -1) (by decide)
  rw [show ((-1 : Int) : Rat) = -1 from rfl] at co
  exact w tt Tryz.func253 rfl [.c [] co,.c [] cs] rfl rfl trivial
theorem Q0i {s t : Nat} {a b : Rat} (ha : Qs s a) (hb : Qs t b) : Qs (s + t + 1) (a * b) := by
  rw [← Qbb]
  unfold Zi
  rw [if_neg (Int.mul_ne_zero (K9 a) (K9 b))]
  have h1 := Qz a.num b.num
  have h2 := Qz (a.den : Int) (b.den : Int)
  have := ha.1; have := ha.2; have := hb.1; have := hb.2
  exact Qs.divInt (by omega) (by omega) (by omega)
theorem Qvn {s : Nat} {p : List Rat} (hp : Rb s p) : Rb (s + 2) (Qd1 p) := by
  unfold Qd1 Vc
  refine Rb.trim (Q1b fun i hi => ?_)
  have h1 : Qs (s + 0) (p.getD i 0) := by
    have hi : i < p.length := hi
    rw [List.getD_eq_getElem?_getD,List.getElem?_eq_getElem hi]
    exact hp _ (List.getElem_mem hi)
  have := Q0i h1 (show Qs 1 (-1 : Rat) from ⟨by decide,by decide⟩)
  exact this.mono (by omega)
theorem Qg1 (p : List Rat) : (Qd1 p).length ≤ p.length := by
  unfold Qd1 Vc
  exact Nat.le_trans (Qbu _) (by rw [Bp]; exact Nat.le_refl _)
theorem Q3n {p q : List Rat} (hp : Rb 19000000 p) (hq : Rb 19000000 q) (hlp : p.length ≤ 1000000) (hlq : q.length ≤ 1000000) : Qc Tryz.prog 208 [.one (rp p),.one (rp q)] [.one (rp (Qv0 p q))] :=
  w tt Tryz.func208 rfl [.c [] (Qih (hq.mono (by decide)) hlq),.c [] (Qr1 (hp.mono (by decide)) ((Qvn hq).mono (by decide)) hlp (Nat.le_trans (Qg1 q) hlq))] rfl rfl trivial
end Orr

namespace Orr
open Go Go.Proofs
set_option maxRecDepth 10000
theorem Qq3 {a b : Int} (ha : Qm a ≤ 40000000) (hb : Qm b ≤ 40000000) : Qc Tryz.prog 279 [.agg (fr (a : Rat)),.agg (fr (b : Rat))] [.agg (fr ((a * b : Int) : Rat))] := by
  have h := Qq2 (Uc ha (by decide)) (Uc hb (by decide))
  rw [← Rat.intCast_mul] at h; exact h
theorem Q28 {a b : Int} (ha : Qm a ≤ 20000000) (hb : Qm b ≤ 20000000) : Qc Tryz.prog 285 [.agg (fr (a : Rat)),.agg (fr (b : Rat))] [.agg (fr ((a + b : Int) : Rat))] := by
  have h := Qqo (Uc ha (by decide)) (Uc hb (by decide))
  rw [← Rat.intCast_add] at h; exact h
theorem Qfr (l : List Int) (i : Nat) (z : Int) : (Xe (zp l)).set i (fr (z : Rat)) = Xe (zp (l.set i z)) := by simp [Xe,zp,List.map_set]
theorem Qxb {p : List Int} {i : Nat} (h : i < p.length) : (zp p)[i]? = some ((p.getD i 0 : Int) : Rat) := Qxa (Xp h)
theorem X4 {p : List Int} {i : Nat} (h : i < p.length) : (Xe (zp p))[i]? = some (fr ((p.getD i 0 : Int) : Rat)) := U4 (Qxb h)
theorem Ls (p : List Int) : (Xe (zp p)).length = p.length := by rw [Jf,Ya]
abbrev zR : List LV := [.nils,.bool false,.nils,.bool false]
theorem Qcx {n i : Nat} (h : i < n) : (List.replicate i (fr 0) ++ List.replicate (n - i) zR).set i (fr 0) = List.replicate (i + 1) (fr 0) ++ List.replicate (n - (i + 1)) zR := by
  rw [List.set_append_right _ _ (by simp),List.length_replicate,Nat.sub_self,show n - i = n - (i + 1) + 1 by omega,List.replicate_succ (n := n - (i + 1)),List.set_cons_zero,List.replicate_succ' (n := i),List.append_assoc]; rfl
theorem Oi (n : Nat) : List.replicate n (fr 0) ++ List.replicate (n - n) zR = Xe (zp (List.replicate n 0)) := by simp [zp,Xe]
theorem Qr3 {p q : List Int} {s t : Nat} (hlp : p.length ≤ 1000000) (hlq : q.length ≤ 1000000) (hp : Bd s p) (hq : Bd t q) (hst : s + t ≤ 19000000) : Qc Tryz.prog 283 [.one (rp (zp p)),.one (rp (zp q))] [.one (rp (zp (Zl p q)))] := by
  have hpl := Ls p
  have hql := Ls q
  rcases Nat.eq_zero_or_pos p.length with h0 | h0
  · have e : Zl p q = [] := by unfold Zl; rw [if_pos (.inl h0)]
    rw [e]
    exact w tt Tryz.func283 rfl [.g 12 true (decide_eq_true (by omega)),.t rfl] rfl rfl trivial
  rcases Nat.eq_zero_or_pos q.length with h1 | h1
  · have e : Zl p q = [] := by unfold Zl; rw [if_pos (.inr h1)]
    rw [e]
    exact w tt Tryz.func283 rfl [.g 12 false (decide_eq_false (by omega)),.t (decide_eq_true (by omega))] rfl rfl trivial
  have e : Zl p q = trim (Ke p q (List.replicate (p.length + q.length - 1) 0) p.length) := by unfold Zl; rw [if_neg (by omega)]
  rw [e]
  obtain ⟨N,hN⟩ : ∃ N,N = p.length + q.length - 1 := ⟨_,rfl⟩
  rw [← hN]
  obtain ⟨o,ho⟩ : ∃ o,o = List.replicate N (0 : Int) := ⟨_,rfl⟩
  rw [← ho]
  have hol : o.length = N := by rw [ho]; simp
  have ho0 : ∀ m,o.getD m 0 = 0 := fun m => by rw [ho]; exact Jp N m
  have cc := Rp (p := zp (Ke p q o p.length))
  rw [Kr] at cc
  refine Z6 Tryz.func283 rfl ?_
  refine go tt [.g 12 false (decide_eq_false (by omega)),.f (decide_eq_false (by omega)),.r 22 (eI (b := (N : Int)) (by omega)),.i N,.i N,.r 25 (eI (b := (N : Int)) (by simp))] rfl (by simp [Qa]; omega) ?_
  refine lp (S := Nat) 1 (fun L1 i => (26,.v (.one (.int .i64 (i : Int)))) :: L1) (fun i => [.row false 49 4 (List.replicate i (fr 0) ++ List.replicate (N - i) zR)]) (fun i => N - i) (fun i => i ≤ N) 0 (Nat.zero_le _) rfl (fun _ _ => rfl) rfl fun i hi => ?_
  by_cases hlt : i < N
  · refine go tt [.t (decide_eq_true (by omega)),.c [] Qrp,.i i] rfl (by simp [Qa]; omega) ?_
    rw [Qcx hlt]
    exact rd (i + 1) (by omega) hlt rfl
  have hiN : i = N := by omega
  rw [hiN,Oi,← ho]
  clear hiN hlt hi
  refine go tt [.f (decide_eq_false (by omega))] rfl trivial ?_
  refine lp (S := Nat) 1 (fun L1 i => (36,.v (.one (.int .i64 (i : Int)))) :: L1) (fun i => [.row false 49 4 (Xe (zp (Ke p q o i)))]) (fun i => p.length - i) (fun i => i ≤ p.length) 0 (Nat.zero_le _) rfl (fun _ _ => rfl) rfl fun i hi => ?_
  by_cases hlt : i < p.length
  · refine go tt [.t (decide_eq_true (by omega))] rfl trivial ?_
    refine lp (S := Nat) 1 (fun L1 k => (41,.v (.one (.int .i64 (k : Int)))) :: L1) (fun k => [.row false 49 4 (Xe (zp (Gw (p.getD i 0) q i (Ke p q o i) k)))]) (fun k => q.length - k) (fun k => k ≤ q.length) 0 (Nat.zero_le _) rfl (fun _ _ => rfl) rfl fun k hk => ?_
    by_cases hk2 : k < q.length
    · have hm1 : Qm ((Gw (p.getD i 0) q i (Ke p q o i) k).getD (i + k) 0) ≤ 20000000 := Nat.le_trans (Fx (t := 39) (Qdh (by rw [Kf]; omega) (Qdg (fun j hj => by omega) ho0 (fun i j => Vh (Qp hp i) (Qp hq j))) (fun j => Vh (Qp hp i) (Qp hq j)) (i + k)) (Nat.lt_of_lt_of_eq (show i + 1 < 549755813888 by omega) (by decide))) (by omega)
      have hm2 : Qm (p.getD i 0 * q.getD k 0) ≤ 20000000 := Nat.le_trans (Qz _ _) (by have := Qp hp i; have := Qp hq k; omega)
      have hml : (Gw (p.getD i 0) q i (Ke p q o i) k).length = N := by rw [Gx,Kf,hol]
      have cm := Qq3 (a := p.getD i 0) (b := q.getD k 0) (Nat.le_trans (Qp hp i) (by omega)) (Nat.le_trans (Qp hq k) (by omega))
      have hfl := Ls (Gw (p.getD i 0) q i (Ke p q o i) k)
      refine go tt [.t (decide_eq_true (by omega)),.i (i + k),.x (X4 (p := Gw (p.getD i 0) q i (Ke p q o i) k) (i := i + k) (by omega)),.x (X4 hlt),.x (X4 hk2),.c [] cm,.c [] (Q28 hm1 hm2),.i (i + k)] rfl (by simp [Qa,hfl,-List.getD_eq_getElem?_getD] <;> omega) ?_
      rw [Qfr]
      exact rd (k + 1) (by omega) hk2 rfl
    · obtain rfl : k = q.length := by omega
      exact go tt [.f (decide_eq_false (by omega))] rfl (by simp [Qa]; omega) (rd (i + 1) (by omega) hlt rfl)
  · obtain rfl : i = p.length := by omega
    exact en tt [.f (decide_eq_false (by omega)),.c [] cc] rfl rfl trivial
def Qfl (p : List Int) (n : Nat) : List Int := (List.range n).map fun k => p.getD (k + 1) 0 * ((k + 1 : Nat) : Int)
theorem Qsz (p : List Int) (n : Nat) : (Qfl p n).length = n := by simp [Qfl]
theorem Qo0 (p : List Int) (n : Nat) : Qfl p (n + 1) = Qfl p n ++ [p.getD (n + 1) 0 * ((n + 1 : Nat) : Int)] := by simp [Qfl,List.range_succ]
theorem Qeo (p : List Int) (z : Int) : Xe (zp (p ++ [z])) = Xe (zp p) ++ [fr (z : Rat)] := by simp [Xe,zp]
theorem Qif {p : List Int} (hp : Bd 40000000 p) (hl : p.length ≤ 1000000) : Qc Tryz.prog 252 [.one (rp (zp p))] [.one (rp (zp (Zk p)))] := by
  have hpl := Ls p
  have cc := Rp (p := zp (Qfl p (p.length - 1)))
  rw [Kr] at cc
  refine Z6 Tryz.func252 rfl ?_
  refine go tt [.o 3 49 4] rfl trivial ?_
  refine lp (S := Nat) 1 (fun L1 j => (4,.v (.one (.int .i64 ((j + 1 : Nat) : Int)))) :: (3,.v (.one (.orow 0 4 none))) :: L1) (fun j => [.row false 49 4 (Xe (zp (Qfl p j)))]) (fun j => p.length - j) (fun j => j ≤ p.length - 1) 0 (Nat.zero_le _) rfl (fun _ _ => rfl) rfl fun j hj => ?_
  have hfl := Ls (Qfl p j)
  rw [Qsz] at hfl
  by_cases h : j + 1 < p.length
  · have hk : Qm ((j + 1 : Nat) : Int) ≤ 40000000 := Nat.le_trans (Qc5 (t := 38) (k := j + 1) (Nat.lt_of_lt_of_eq (show j + 1 < 274877906944 by omega) (by decide))) (by decide)
    refine go tt [.t (decide_eq_true (by omega)),.x (X4 h),.c [] (Cf (n := ((j + 1 : Nat) : Int)) (by omega)),.c [] (Qq3 (Qp hp (j + 1)) hk),.s (sz := 4) (Qjc _)] rfl (by simp [Qa,hfl,-List.getD_eq_getElem?_getD] <;> omega) ?_
    exact rd (j + 1) (by omega) (by omega) (by rw [Qo0,Qeo]; rfl)
  · have e : j = p.length - 1 := by omega
    rw [e]
    exact en tt [.f (decide_eq_false (by omega)),.c [] cc] rfl rfl trivial
theorem Q33 (z : Int) : fr (z : Rat) = [nd z.natAbs,sg z,.row [[.int .i64 1]],.bool false] := by
  have e : Qx 1 = [1] := by rw [Hp (by decide),show 1 / 10000 = 0 from rfl,Zx]
  show [nd z.natAbs,sg z,nd 1,sg 1] = _
  unfold nd dl
  rw [e]; rfl
theorem Qr5 {p : List Int} (hl : p.length ≤ 1000000) : Qc Tryz.prog 345 [.one (rp (zp p))] [.one (.bool true)] := by
  have hpl := Ls p
  refine Z6 Tryz.func345 rfl ?_
  refine go tt [] rfl trivial ?_
  refine lp (S := Nat) 0 (fun L1 i => (6,.v (.one (.int .i64 (i : Int)))) :: L1) (fun _ => []) (fun i => p.length - i) (fun i => i ≤ p.length) 0 (Nat.zero_le _) rfl (fun _ _ => rfl) rfl fun i hi => ?_
  by_cases h : i < p.length
  · have hg := X4 h
    rw [Q33] at hg
    refine go tt [.t (decide_eq_true (by omega)),.x hg,.g 17 false rfl,.x hg,.x (l := [[.int .i64 1]]) (i := 0) (xs := [.int .i64 1]) rfl,.f rfl] rfl (by simp [Qa]; omega) ?_
    exact rd (i + 1) (by omega) h rfl
  · exact en tt [.f (decide_eq_false (by omega))] rfl rfl trivial
theorem Qnh : [LV.nils,LV.bool false].map Lv = ri 0 := by
  show _ = [nd 0,sg 0]
  unfold nd dl
  rw [Zx]; rfl
theorem Qjm (p : List Int) (q : Rat) : Int.sign (Y0 p q.num q.den p.length).1 = Zv p q := by
  unfold Zv Q0g V5
  generalize (Y0 p q.num q.den p.length).1 = z
  rcases Int.lt_trichotomy z 0 with h | h | h
  · rw [if_pos h,Int.sign_eq_neg_one_of_neg h]
  · subst h; rfl
  · rw [if_neg (by omega),if_pos h,Int.sign_eq_one_of_pos h]
theorem Qld {p : List Int} {q : Rat} (hp : Bd 30000000 p) (hl : p.length ≤ 64) (hq : Qs 1000000 q) : Qc Tryz.prog 338 [.one (rp (zp p)),.agg (fr q)] [.one (.int .i64 (Zv p q))] := by
  have hpl := Ls p
  refine Z6 Tryz.func338 rfl ?_
  refine go tt [.c [] (Qr5 (p := p) (by omega)),.f rfl,.c [] (Ue (n := 1) (by decide)),.r 19 (eI (b := (p.length : Int) - 1 - ((0 : Nat) : Int)) (by simp; omega))] rfl (by simp [Qa]; omega) ?_
  refine nlb 1 rfl rfl rfl ?_
  rw [Qnh]
  refine lp (S := Nat) 3 (fun L1 j => (7,.v (.one (.int .i64 ((p.length : Int) - 1 - (j : Int))))) :: L1) (fun j => [.blk 49 (fr q),.blk 47 (ri (Y0 p q.num q.den j).1),.blk 47 (ri (Y0 p q.num q.den j).2)]) (fun j => p.length - j) (fun j => j ≤ p.length) 0 (Nat.zero_le _) rfl (fun _ _ => rfl) rfl fun j hj => ?_
  have hv := Qei (k := j) hp hq.1 hq.2
  have hjl : j * (1000000 + 1) ≤ p.length * (1000000 + 1) := Nat.mul_le_mul_right _ (by omega)
  by_cases h : j < p.length
  · have hc := Qp hp (p.length - 1 - j)
    have hq1 := hq.1
    have hq2 := hq.2
    have hm1 : Qm ((Y0 p q.num q.den j).1 * q.num) ≤ 200000000 := Nat.le_trans (Qz _ _) (by omega)
    have hm2 : Qm (p.getD (p.length - 1 - j) 0 * (Y0 p q.num q.den j).2) ≤ 200000000 := Nat.le_trans (Qz _ _) (by omega)
    refine go tt [.t (decide_eq_true (by omega)),.c [] (Yg (a := (Y0 p q.num q.den j).1) (b := q.num) (by omega) (by omega)),.r 29 (eI (b := ((p.length - 1 - j : Nat) : Int)) (by omega)),.x (X4 (p := p) (i := p.length - 1 - j) (by omega)),.c [] (Yg (a := p.getD (p.length - 1 - j) 0) (b := (Y0 p q.num q.den j).2) (by omega) (by omega)),.c [] (Qic hm1 hm2),.c [] (Yg (a := (Y0 p q.num q.den j).2) (b := (q.den : Int)) (by omega) (by omega)),.r 23 (eI (b := (p.length : Int) - 1 - ((j + 1 : Nat) : Int)) (by omega))] rfl (by simp [Qa] <;> omega) ?_
    exact rd (j + 1) (by omega) h rfl
  · obtain rfl : j = p.length := by omega
    exact en tt [.f (decide_eq_false (by omega)),.c [] Qk9] rfl (by rw [Qjm]) trivial
end Orr

namespace Orr
def Q9 (p : List Int) : Int := p.getD (p.length - 1) 0
def Sa (a b : List Int) : Int := if Q9 b < 0 then -(Q9 a) else Q9 a
def F0 (a b : List Int) (i : Nat) : Int := a.getD i 0 * ((Q9 b).natAbs : Int) - (if a.length - b.length ≤ i then Sa a b * b.getD (i - (a.length - b.length)) 0 else 0)
def Qbs (a b : List Int) : List Int := Y7 a.length (F0 a b)
inductive RRun (b : List Int) : Nat → List Int → List Int → Prop
  | stop {a : List Int} : a.length < b.length → RRun b 0 a a
  | step {k : Nat} {a r : List Int} : b.length ≤ a.length → a.length ≤ 1000 → Bd 9000000 a → Bd 9000000 b → RRun b k (Qbs a b) r → RRun b (k + 1) a r
def Gk (p : List Int) : Nat → Nat
  | 0 => 0
  | i + 1 => Int.gcd (Gk p i : Nat) (p.getD i 0)
def Pi (p : List Int) : Nat := Gk p p.length
theorem Ci (p : List Int) : ∀ {i j : Nat},j < i → ((Gk p i : Nat) : Int) ∣ p.getD j 0
  | 0,_,h => absurd h (Nat.not_lt_zero _)
  |
   i + 1,j,h => by
   simp only [Gk]
   rcases Nat.lt_or_ge j i with h1 | h1
   · exact Int.dvd_trans (Int.gcd_dvd_left ..) (Ci p h1)
   · rw [show j = i by omega]; exact Int.gcd_dvd_right ..
theorem Qe8 (p : List Int) (j : Nat) : ((Pi p : Nat) : Int) ∣ p.getD j 0 := by
  rcases Nat.lt_or_ge j p.length with h | h
  · exact Ci p h
  · rw [List.getD_eq_getElem?_getD,List.getElem?_eq_none h]; exact Int.dvd_zero _
theorem Rr {s : Nat} {p : List Int} (h : Bd s p) : ∀ i,Qm ((Gk p i : Nat) : Int) ≤ s
  | 0 => by simp [Gk,Vf]
  |
   i + 1 => by
   simp only [Gk]
   by_cases h0 : p.getD i 0 = 0
   · rw [h0,Int.gcd_zero_right]; exact Rr h i
   · have h1 := Int.gcd_dvd_right (Gk p i : Nat) (p.getD i 0)
     have h2 : (Int.gcd (Gk p i : Nat) (p.getD i 0)) ≤ (p.getD i 0).natAbs := Nat.le_of_dvd (by omega) (by simpa using Int.natAbs_dvd_natAbs.2 h1)
     have h3 := Qp h i
     rw [Jq] at h3 ⊢
     simp only [Int.natAbs_natCast]
     omega
theorem Qop {p : List Int} {j i : Nat} (hj : j < i) (h : p.getD j 0 ≠ 0) : 0 < Gk p i := by
  have := Ci p hj
  rcases Nat.eq_zero_or_pos (Gk p i) with h0 | h0
  · rw [h0] at this
    exact absurd (Int.zero_dvd.1 this) h
  · exact h0
theorem Qe9 {p : List Int} (ht : Qj p) (h : 0 < p.length) : 0 < Pi p := Qop (j := p.length - 1) (by omega) (Xw ht h)
def Vx (p : List Int) : Int := if Q9 p < 0 then -((Pi p : Nat) : Int) else ((Pi p : Nat) : Int)
def Xm (p : List Int) : List Int := Y7 p.length fun i => p.getD i 0 / Vx p
def Y9 (p : List Int) : List Int := if Q9 p < 0 then Yx (Xm p) else Xm p
theorem Qo2 (p : List Int) (j : Nat) : Vx p ∣ p.getD j 0 := by
  unfold Vx
  split
  · exact Int.neg_dvd.2 (Qe8 p j)
  · exact Qe8 p j
theorem Qtb {p : List Int} (ht : Qj p) (h : 0 < p.length) : Vx p ≠ 0 := by
  have := Qe9 ht h
  unfold Vx
  split <;> omega
theorem Qap {s : Nat} {p : List Int} (h : Bd s p) : Qm (Vx p) ≤ s := by
  unfold Vx
  split
  · rw [Z1]; exact Rr h _
  · exact Rr h _
theorem Qj3 {p : List Int} {c : Int} (hc : c ≠ 0) (hd : ∀ j,c ∣ p.getD j 0) : Vc (zp p) (1 / (c : Rat)) = zp (Y7 p.length fun i => p.getD i 0 / c) := by
  unfold Vc Y7
  rw [E4 (g := fun i => p.getD i 0 / c) _ fun i _ => ?_,Kr,Ya]
  obtain ⟨k,hk⟩ := hd i
  have hc' : (c : Rat) ≠ 0 := fun e => hc (by exact_mod_cast e)
  rw [B5,hk,Int.mul_ediv_cancel_left _ hc,Rat.intCast_mul]
  grind
theorem Ab {s : Nat} {p : List Int} (h : Bd s p) : Bd s (Xm p) := Sl fun i _ => Nat.le_trans (Th _ _) (Qp h i)
theorem C7 (p : List Int) : (Xm p).length ≤ p.length := Gm _ _
theorem Qn4 {s : Nat} {p : List Int} (h : Bd s p) : Bd s (Y9 p) := by
  unfold Y9
  split
  · exact Ea (Ab h)
  · exact Ab h
theorem Qi2 (p : List Int) : (Y9 p).length ≤ p.length := by
  unfold Y9
  split
  · exact Nat.le_trans (Tk _) (C7 p)
  · exact C7 p
inductive GRun : Nat → List Int → List Int → List Int → Prop
  | stop (a : List Int) : GRun 0 a [] a
  | step {k m : Nat} {a b r g : List Int} : 0 < b.length → b.length ≤ 1000 → Bd 9000000 b → RRun b m a r → r.length ≤ 1000 → Bd 9000000 r → Qj r → GRun k b (Xm r) g → GRun (k + 1) a b g
theorem GRun.inv {k : Nat} {a b g : List Int} (h : GRun k a b g) : (k = 0 ∧ b.length = 0 ∧ a = g) ∨ ∃ j m r,k = j + 1 ∧ 0 < b.length ∧ b.length ≤ 1000 ∧ Bd 9000000 b ∧ RRun b m a r ∧ r.length ≤ 1000 ∧ Bd 9000000 r ∧ Qj r ∧ GRun j b (Xm r) g := by
  cases h with
  | stop => exact .inl ⟨rfl,rfl,rfl⟩
  | step h1 h2 h3 h4 h5 h6 h7 h8 => exact .inr ⟨_,_,_,rfl,h1,h2,h3,h4,h5,h6,h7,h8⟩
def Fb (k : Nat) (p : List Int) : List Int := List.replicate k 0 ++ p
theorem Qj6 (k : Nat) (p : List Int) : (Fb k p).length = k + p.length := by simp [Fb]
theorem Qn5 {s k : Nat} {p : List Int} (h : Bd s p) : Bd s (Fb k p) := fun z hz => by
  rcases List.mem_append.1 hz with h1 | h1
  · rw [List.eq_of_mem_replicate h1,Vf]; exact Nat.zero_le _
  · exact h z h1
inductive DRun (b : List Int) : Nat → List Int → List Int → List Int → List Int → Prop
  | stop {a q : List Int} : a.length < b.length → DRun b 0 a q q a
  | step {k : Nat} {a q qf r : List Int} : b.length ≤ a.length → a.length ≤ 1000 → Bd 9000000 a → Q9 b ≠ 0 → Q9 b ∣ Q9 a → a.length - b.length < q.length →
      DRun b k (Vr a (Fb (a.length - b.length) (Qu b (Q9 a / Q9 b)))) (q.set (a.length - b.length) (Q9 a / Q9 b)) qf r → DRun b (k + 1) a q qf r
theorem DRun.inv {b a q qf r : List Int} {k : Nat} (h : DRun b k a q qf r) : (k = 0 ∧ q = qf ∧ a = r ∧ a.length < b.length) ∨ ∃ j, k = j + 1 ∧ b.length ≤ a.length ∧ a.length ≤ 1000 ∧ Bd 9000000 a ∧ Q9 b ≠ 0 ∧ Q9 b ∣ Q9 a ∧ a.length - b.length < q.length ∧
    DRun b j (Vr a (Fb (a.length - b.length) (Qu b (Q9 a / Q9 b)))) (q.set (a.length - b.length) (Q9 a / Q9 b)) qf r := by
  cases h with
  | stop h => exact .inl ⟨rfl,rfl,rfl,h⟩
  | step h1 h2 h3 h4 h5 h6 h7 => exact .inr ⟨_,rfl,h1,h2,h3,h4,h5,h6,h7⟩
def Y4 (l : List (List Int)) : List Int := l.getD (l.length - 1) []
inductive LRun : Nat → List (List Int) → List (List Int) → Prop
  | stop {l : List (List Int)} : (Y4 l).length ≤ 1 → LRun 0 l l
  | step {k m : Nat} {l f : List (List Int)} {g : List Int} : 1 < (Y4 l).length → (Y4 l).length ≤ 1000 → Qj (Y4 l) → Bd 9000000 (Y4 l) → Bd 9000000 (Zk (Y4 l)) → GRun m (Xm (Y4 l)) (Xm (Zk (Y4 l))) g → l.length ≤ 1000 → LRun k (l ++ [g]) f → LRun (k + 1) l f
theorem LRun.inv {k : Nat} {l f : List (List Int)} (h : LRun k l f) : (k = 0 ∧ l = f ∧ (Y4 l).length ≤ 1) ∨ ∃ j m g,k = j + 1 ∧ 1 < (Y4 l).length ∧ (Y4 l).length ≤ 1000 ∧ Qj (Y4 l) ∧ Bd 9000000 (Y4 l) ∧ Bd 9000000 (Zk (Y4 l)) ∧ GRun m (Xm (Y4 l)) (Xm (Zk (Y4 l))) g ∧ l.length ≤ 1000 ∧ LRun j (l ++ [g]) f := by
  cases h with
  | stop h => exact .inl ⟨rfl,rfl,h⟩
  | step h1 h2 h3 h4 h5 h6 h7 h8 => exact .inr ⟨_,_,_,rfl,h1,h2,h3,h4,h5,h6,h7,h8⟩
def DOk (a b q : List Int) : Prop := 0 < b.length ∧ b.length ≤ 1000 ∧ a.length ≤ 1000 ∧ Bd 9000000 b ∧ ∃ qf r n,Bd 9000000 qf ∧ qf.length ≤ 1000 ∧ DRun b n a (List.replicate (a.length + 1 - b.length) 0) qf r ∧ q = trim qf
theorem DOk.bd {a b q : List Int} (h : DOk a b q) : Bd 9000000 q := by
  obtain ⟨_,_,_,_,qf,r,n,h1,_,_,rfl⟩ := h
  exact X8 h1
theorem DOk.len {a b q : List Int} (h : DOk a b q) : q.length ≤ 1000 := by
  obtain ⟨_,_,_,_,qf,r,n,_,h1,_,rfl⟩ := h
  exact Nat.le_trans (Xa _) h1
theorem DOk.trim {a b q : List Int} (h : DOk a b q) : Qj q := by
  obtain ⟨_,_,_,_,qf,r,n,_,_,_,rfl⟩ := h
  exact Xk _
def Q51 (a b c f : List Int) : Prop := ∃ x y z,DOk a b x ∧ DOk b c y ∧ DOk (Xm x) (Xm y) z ∧ f = Xm z
structure FRun (a : List Int) (m : Nat) (f : Nat → List Int) : Prop where
  run : ∃ n l,LRun n [Xm a] l ∧ l.length = m + 1 ∧ ∀ k,k < m → Q51 ((l ++ [[1]]).getD k []) ((l ++ [[1]]).getD (k + 1) []) ((l ++ [[1]]).getD (k + 2) []) (f k)
  small : m ≤ 1000
def Og (f : Nat → List Int) (n : Nat) : List (List Int) := (List.range n).map f
theorem Qhb (f : Nat → List Int) (n : Nat) : (Og f n).length = n := by simp [Og]
theorem Qp2 (f : Nat → List Int) (n : Nat) : Og f (n + 1) = Og f n ++ [f n] := by simp [Og,List.range_succ]
theorem Qwt {f : Nat → List Int} {n i : Nat} (h : i < n) : (Og f n)[i]? = some (f i) := by simp [Og,List.getElem?_range h]
theorem Qix {l : List (List Int)} {i : Nat} (h : i < l.length) : l[i]? = some (l.getD i []) := by
  rw [List.getD_eq_getElem?_getD,List.getElem?_eq_getElem h]; rfl
def G6 (f : Nat → List Int) : Nat → List Int
  | 0 => [1]
  | i + 1 => Zl (G6 f i) (f i)
def Q50 (m : Nat) (f : Nat → List Int) : Prop := ∀ i,i < m → Bd 9000000 (G6 f i) ∧ (G6 f i).length ≤ 1000 ∧ Bd 9000000 (f i) ∧ (f i).length ≤ 1000
inductive CRun : Nat → List (List Int) → List Int → List (List Int) → Prop
  | stop {l : List (List Int)} {g : List Int} : g.length = 0 → CRun 0 l g l
  | step {k m : Nat} {l f : List (List Int)} {g r : List Int} : 0 < g.length → g.length ≤ 1000 → Bd 9000000 g → RRun g m (Y4 l) r → Qj r → Bd 9000000 r → r.length ≤ 1000 → 0 < l.length → l.length ≤ 1000 → CRun k (l ++ [g]) (Yx (Y9 r)) f → CRun (k + 1) l g f
theorem CRun.inv {k : Nat} {l f : List (List Int)} {g : List Int} (h : CRun k l g f) : (k = 0 ∧ l = f ∧ g.length = 0) ∨ ∃ j m r,k = j + 1 ∧ 0 < g.length ∧ g.length ≤ 1000 ∧ Bd 9000000 g ∧ RRun g m (Y4 l) r ∧ Qj r ∧ Bd 9000000 r ∧ r.length ≤ 1000 ∧ 0 < l.length ∧ l.length ≤ 1000 ∧ CRun j (l ++ [g]) (Yx (Y9 r)) f := by
  cases h with
  | stop h => exact .inl ⟨rfl,rfl,h⟩
  | step h1 h2 h3 h4 h5 h6 h7 h8 h9 h10 => exact .inr ⟨_,_,_,rfl,h1,h2,h3,h4,h5,h6,h7,h8,h9,h10⟩
structure ChRun (a : List Int) (sq : List Int) (c : List (List Int)) : Prop where
  fac : ∃ m f,FRun a m f ∧ Q50 m f ∧ sq = G6 f m
  Gi : ∃ n,CRun n [sq] (Y9 (Zk sq)) c
  bd : Bd 8000000 sq
  len : sq.length ≤ 1000
  small : c.length ≤ 1000
def Qko (q : Rat) (c : List (List Int)) : Prop := ∃ sq,ChRun [-q.num,(q.den : Int)] sq c
end Orr

namespace Orr
open Go Go.Proofs
set_option maxRecDepth 10000
theorem RRun.inv {b a r : List Int} {k : Nat} (h : RRun b k a r) : (k = 0 ∧ a = r ∧ a.length < b.length) ∨ (∃ j,k = j + 1 ∧ b.length ≤ a.length ∧ a.length ≤ 1000 ∧ Bd 9000000 a ∧ Bd 9000000 b ∧ RRun b j (Qbs a b) r) := by
  cases h with
  | stop h => exact .inl ⟨rfl,rfl,h⟩
  | step h1 h2 h3 h4 h5 => exact .inr ⟨_,rfl,h1,h2,h3,h4,h5⟩
theorem Q0s {a b : List Int} (ha : Bd 9000000 a) : Qm (Sa a b) ≤ 9000000 := by
  unfold Sa; split
  · rw [Z1]; exact Qp ha _
  · exact Qp ha _
theorem Q0n (n : Nat) : ri (n : Int) = [nd n,.bool false] := by
  show [nd n,sg (n : Int)] = _
  unfold sg
  rw [decide_eq_false (by omega)]
def Qd2 (a b : List Int) (n : Nat) : List Int := (List.range n).map (F0 a b)
theorem Qv1 (a b : List Int) (n : Nat) : (Qd2 a b n).length = n := by simp [Qd2]
theorem Qbt (a b : List Int) (n : Nat) : Qd2 a b (n + 1) = Qd2 a b n ++ [F0 a b n] := by simp [Qd2,List.range_succ]
theorem Qlf {a0 b res : List Int} {n : Nat} (hb0 : 0 < b.length) (hb1 : b.length ≤ 1000) (hbb0 : Bd 9000000 b) (hrun : RRun b n a0 res) : Qc Tryz.prog 254 [.one (rp (zp a0)),.one (rp (zp b))] [.one (rp (zp res))] := by
  have hbl := Ls b
  have hle : Qm (((Q9 b).natAbs : Nat) : Int) ≤ 9000000 := Qp hbb0 _
  refine Z6 Tryz.func254 rfl ?_
  refine go tt [.r 15 (eI (b := ((b.length - 1 : Nat) : Int)) (by omega)),.x (X4 (p := b) (i := b.length - 1) (by omega))] rfl (by simp [Qa]; omega) ?_
  refine sb [(0,.v (.one (rp (zp a0)))),(1,.v (.one (rp (zp b)))),(5,.v (.one (.ow 0 0))),(6,.v (.one (.ow 1 0)))] [.blk 47 (ri (Q9 b)),.blk 47 [nd (Q9 b).natAbs,.bool false]] rfl rfl ?_
  refine lp (S := Nat × List Int) 2 (fun L1 s => (0,.v (.one (rp (zp s.2)))) :: L1) (fun _ => [.blk 47 (ri (Q9 b)),.blk 47 [nd (Q9 b).natAbs,.bool false]]) (fun s => s.1) (fun s => RRun b s.1 s.2 res) (n,a0) hrun rfl (fun _ _ => rfl) rfl fun ⟨k,a⟩ hs => ?_
  have hal := Ls a
  have hs : RRun b k a res := hs
  rcases RRun.inv hs with ⟨rfl,rfl,h1⟩ | ⟨j,rfl,h1,h2,ha,hb,hr⟩
  · exact en tt [.f (decide_eq_false (by dsimp only; omega))] rfl rfl trivial
  obtain ⟨K,hK⟩ : ∃ K,K = a.length - b.length := ⟨_,rfl⟩
  have htb := Q0s (b := b) ha
  have cc := Rp (p := zp (Qd2 a b a.length))
  rw [Kr,show trim (Qd2 a b a.length) = Qbs a b from rfl] at cc
  refine go tt [.t (decide_eq_true (by dsimp only; omega)),.r 30 (eI (b := (K : Int)) (by dsimp only; omega)),.r 34 (eI (b := ((a.length - 1 : Nat) : Int)) (by dsimp only; omega)),.x (X4 (p := a) (i := a.length - 1) (by omega))] rfl (by simp [Qa]; omega) ?_
  refine ct 1 (S := Unit) (fun _ => [(0,.v (.one (rp (zp a)))),(1,.v (.one (rp (zp b)))),(5,.v (.one (.ow 0 0))),(6,.v (.one (.ow 1 0))),(7,.v (.one (.int .i64 (K : Int)))),(8,.v (.one (.ow 2 0)))]) (fun _ => [.blk 47 (ri (Q9 b)),.blk 47 [nd (Q9 b).natAbs,.bool false],.blk 47 (ri (Sa a b))]) (fun _ => True) rfl ?_ (fun _ _ => ?_)
  · by_cases hn : Q9 b < 0
    · have e : Sa a b = -(Q9 a) := if_pos hn
      rw [e]
      exact go tt [.t (decide_eq_true hn),.c [] (Hi (z := Q9 a))] rfl trivial (rc () trivial rfl)
    · have e : Sa a b = Q9 a := if_neg hn
      rw [e]
      exact go tt [.f (decide_eq_false hn)] rfl trivial (rc () trivial rfl)
  refine go tt [.o 9 49 4] rfl trivial ?_
  refine lp (S := Nat) 4 (fun L1 i => (44,.v (.one (.int .i64 (i : Int)))) :: (9,.v (.one (.orow 3 4 none))) :: L1) (fun i => [.blk 47 (ri (Q9 b)),.blk 47 [nd (Q9 b).natAbs,.bool false],.blk 47 (ri (Sa a b)),.row false 49 4 (Xe (zp (Qd2 a b i)))]) (fun i => a.length - i) (fun i => i ≤ a.length) 0 (Nat.zero_le _) rfl (fun _ _ => rfl) rfl fun i hi => ?_
  have hfl := Ls (Qd2 a b i)
  rw [Qv1] at hfl
  by_cases h : i < a.length
  · have cm := Yg (a := a.getD i 0) (b := (((Q9 b).natAbs : Nat) : Int)) (Nat.le_trans (Qp ha i) (by decide)) (by omega)
    have hm := Qz (a.getD i 0) (((Q9 b).natAbs : Nat) : Int)
    have hai := Qp ha i
    rw [Q0n (Q9 b).natAbs] at cm
    by_cases hk : K ≤ i
    · have hbi := Qp hb (i - K)
      have hm2 := Qz (Sa a b) (b.getD (i - K) 0)
      have e : F0 a b i = a.getD i 0 * (((Q9 b).natAbs : Nat) : Int) - Sa a b * b.getD (i - K) 0 := by unfold F0; rw [if_pos (by omega),hK]
      refine go tt [.t (decide_eq_true (by omega)),.x (X4 h),.c [] cm,.t (decide_eq_true (by omega)),.r 62 (eI (b := ((i - K : Nat) : Int)) (by omega)),.x (X4 (p := b) (i := i - K) (by omega)),.c [] (Yg (a := Sa a b) (b := b.getD (i - K) 0) (by omega) (by omega)),.c [] (Qrq (by omega) (by omega)),.c [] (Ue (n := 1) (by decide)),.c [] (Vd (n := a.getD i 0 * (((Q9 b).natAbs : Nat) : Int) - Sa a b * b.getD (i - K) 0)),.s (sz := 4) (Qjc _)] rfl (by simp [Qa,hfl,-List.getD_eq_getElem?_getD] <;> omega) ?_
      exact rd (i + 1) (by omega) h (by rw [Qbt,Qeo,e]; rfl)
    · have e : F0 a b i = a.getD i 0 * (((Q9 b).natAbs : Nat) : Int) := by unfold F0; rw [if_neg (by omega),Int.sub_zero]
      refine go tt [.t (decide_eq_true (by omega)),.x (X4 h),.c [] cm,.f (decide_eq_false (by omega)),.c [] (Ue (n := 1) (by decide)),.c [] (Vd (n := a.getD i 0 * (((Q9 b).natAbs : Nat) : Int))),.s (sz := 4) (Qjc _)] rfl (by simp [Qa,hfl,-List.getD_eq_getElem?_getD] <;> omega) ?_
      exact rd (i + 1) (by omega) h (by rw [Qbt,Qeo,e]; rfl)
  · have e : i = a.length := by omega
    rw [e]
    exact go tt [.f (decide_eq_false (by omega)),.c [] cc] rfl trivial (rd (j,Qbs a b) (by omega) hr rfl)
theorem Q3l : Qc Tryz.prog 47 [.agg (ri 1),.agg (ri 1)] [.agg (ri 1)] := Yg (a := 1) (b := 1) (by decide) (by decide)
theorem Qyi : Qc Tryz.prog 141 [.agg (ri 1),.agg (ri 1)] [.agg (ri 1)] := Ai (a := 1) (b := 1) (by decide) (by decide)
theorem Qx7 {z : Int} (hz : Qm z ≤ 90000000) : Qc Tryz.prog 47 [.agg (ri z),.agg (ri 1)] [.agg (ri z)] := by
  have h := Yg (a := z) (b := 1) (by omega) (by decide)
  rwa [Int.mul_one] at h
theorem Qk2 {z : Int} (hz : Qm z ≤ 90000000) : Qc Tryz.prog 142 [.agg (ri z),.agg (ri 1)] [.agg (ri z)] := by
  have h := Cg (a := z) (b := 1) hz (by decide) (by decide) (Int.emod_one z)
  rwa [Int.ediv_one] at h
theorem Qq4 {z : Int} : Qc Tryz.prog 206 [.agg (fr (z : Rat))] [.agg (fr ((-z : Int) : Rat))] := by
  have h := Q3d (a := (z : Rat))
  rwa [← Rat.intCast_neg] at h
theorem Q4t {c : Int} (hc : c ≠ 0) (hs : Qm c ≤ 9000000) : Qs 40000000 (((1 : Int) : Rat) / (c : Rat)) := by
  have h0 : (c : Rat) ≠ 0 := fun e => hc (by exact_mod_cast e)
  rw [← Qbm h0]
  unfold Zi
  rw [if_neg (Int.mul_ne_zero (K9 _) (fun e => hc (by simpa using e)))]
  refine Qs.divInt (by show Qm (1 * 1) ≤ _; decide) ?_ (by decide)
  show Qm (1 * c) ≤ _
  rw [Int.one_mul]; omega
theorem Qh9 {p : List Int} {c : Int} (hc : c ≠ 0) (hs : Qm c ≤ 9000000) (hd : ∀ j,c ∣ p.getD j 0) (hp : Bd 9000000 p) (hl : p.length ≤ 1000) : Qc Tryz.prog 248 [.one (rp (zp p)),.agg (fr (((1 : Int) : Rat) / (c : Rat)))] [.one (rp (zp (Y7 p.length fun i => p.getD i 0 / c)))] := by
  have h := Gh ((Pw hp (by omega)).mono (by omega)) (Q4t hc hs) (by rw [Ya]; omega)
  rwa [show ((1 : Int) : Rat) = 1 from rfl,Qj3 hc hd] at h
theorem Hk {p : List Int} (tp : Qj p) (hp : Bd 9000000 p) (hl : p.length ≤ 1000) : Qc Tryz.prog 284 [.one (rp (zp p))] [.agg (fr ((Vx p : Int) : Rat)),.one (rp (zp (Xm p)))] := by
  have hpl := Ls p
  rcases Nat.eq_zero_or_pos p.length with h0 | h0
  · have e := List.eq_nil_of_length_eq_zero h0
    subst e
    exact w tt Tryz.func284 rfl [.t rfl,.c [] Qrp] rfl rfl trivial
  have hc := Qtb tp h0
  refine Z6 Tryz.func284 rfl ?_
  refine go tt [.f (decide_eq_false (by omega)),.c [] (Ue (n := 1) (by decide))] rfl trivial ?_
  refine lp (S := Nat) 2 (fun L1 i => (16,.v (.one (.int .i64 (i : Int)))) :: L1) (fun i => [.blk 49 [.nils,.bool false,.nils,.bool false],.blk 47 (ri 1)]) (fun i => p.length - i) (fun i => i ≤ p.length) 0 (Nat.zero_le _) rfl (fun _ _ => rfl) rfl fun i hi => ?_
  by_cases h : i < p.length
  · refine go tt [.t (decide_eq_true (by omega)),.x (X4 h),.c [] Q3l,.x (X4 h),.c [] Qyi,.c [] (Qk2 (z := 1) (by decide))] rfl (by simp [Qa]; omega) ?_
    exact rd (i + 1) (by omega) h rfl
  refine go tt [.f (decide_eq_false (by omega))] rfl trivial ?_
  clear h hi
  refine nlb 2 rfl rfl rfl ?_
  rw [Qnh]
  refine lp (S := Nat) 3 (fun L1 i => (37,.v (.one (.int .i64 (i : Int)))) :: L1) (fun i => [.blk 49 [.nils,.bool false,.nils,.bool false],.blk 47 (ri 1),.blk 47 (ri ((Gk p i : Nat) : Int))]) (fun i => p.length - i) (fun i => i ≤ p.length) 0 (Nat.zero_le _) rfl (fun _ _ => rfl) rfl fun i hi => ?_
  by_cases h : i < p.length
  · have hb := Qp hp i
    have hg := Rr hp i
    refine go tt [.t (decide_eq_true (by omega)),.x (X4 h),.c [] (Qx7 (z := p.getD i 0) (by omega)),.x (X4 h),.c [] (Qk2 (z := p.getD i 0) (by omega)),.c [] (Ai (a := ((Gk p i : Nat) : Int)) (b := p.getD i 0) (by omega) (by omega))] rfl (by simp [Qa]; omega) ?_
    exact rd (i + 1) (by omega) h rfl
  have e : i = p.length := by omega
  rw [e]
  have co := Cf (n := 1) (by decide)
  have cs := Qh9 hc (Qap hp) (Qo2 p) hp hl
  by_cases hn : Q9 p < 0
  · have e2 : Vx p = -((Pi p : Nat) : Int) := if_pos hn
    rw [show (fun i => p.getD i 0 / Vx p) = fun i => p.getD i 0 / Vx p from rfl] at cs
    have cn := Qq4 (z := ((Pi p : Nat) : Int))
    rw [← e2] at cn
    exact en tt [.f (decide_eq_false (by omega)),.c [] (Vd (n := ((Pi p : Nat) : Int))),.r 62 (eI (b := ((p.length - 1 : Nat) : Int)) (by omega)),.x (X4 (p := p) (i := p.length - 1) (by omega)),.t (decide_eq_true hn),.c [] cn,.c [] co,.c [] (Qh7 (a := ((1 : Int) : Rat)) (b := ((Vx p : Int) : Rat)) ⟨by decide,by decide⟩ (Uc (by have := Qap hp; omega) (by decide)) (fun e => hc (by exact_mod_cast e))),.c [] cs] rfl rfl (by simp [Qa]; omega)
  · have e2 : Vx p = ((Pi p : Nat) : Int) := if_neg hn
    have cm := Vd (n := Vx p)
    rw [e2] at cm cs hc ⊢
    exact en tt [.f (decide_eq_false (by omega)),.c [] cm,.r 62 (eI (b := ((p.length - 1 : Nat) : Int)) (by omega)),.x (X4 (p := p) (i := p.length - 1) (by omega)),.f (decide_eq_false hn),.c [] co,.c [] (Qh7 (a := ((1 : Int) : Rat)) (b := ((((Pi p : Nat) : Int) : Int) : Rat)) ⟨by decide,by decide⟩ (Uc (by have := Rr hp p.length; unfold Pi; omega) (by decide)) (fun e => hc (by exact_mod_cast e))),.c [] cs] rfl (by unfold Xm; rw [e2]; rfl) (by simp [Qa]; omega)
theorem Hj {p : List Int} (tp : Qj p) (hp : Bd 9000000 p) (hl : p.length ≤ 1000) : Qc Tryz.prog 305 [.one (rp (zp p))] [.one (rp (zp (Xm p)))] :=
  w tt Tryz.func305 rfl [.c [] (Hk tp hp hl)] rfl rfl trivial
theorem Qaq {p : List Int} (tp : Qj p) : Vx p < 0 ↔ Q9 p < 0 := by
  unfold Vx
  rcases Nat.eq_zero_or_pos p.length with h0 | h0
  · have := List.eq_nil_of_length_eq_zero h0; subst this; decide
  · have := Qe9 tp h0
    split <;> omega
theorem Qrz {p : List Int} (hp : Bd 9000000 p) (hl : p.length ≤ 1000000) : Qc Tryz.prog 253 [.one (rp (zp p))] [.one (rp (zp (Yx p)))] := by
  have h := Qih ((Pw hp (by decide)).mono (by decide)) (by rw [Ya]; exact hl)
  rwa [Qni] at h
theorem Qe0 {p : List Int} (tp : Qj p) (hp : Bd 9000000 p) (hl : p.length ≤ 1000) : Qc Tryz.prog 251 [.one (rp (zp p))] [.one (rp (zp (Y9 p)))] := by
  by_cases hn : Q9 p < 0
  · have e : Y9 p = Yx (Xm p) := if_pos hn
    rw [e]
    exact w tt Tryz.func251 rfl [.c [] (Hk tp hp hl),.t (decide_eq_true ((Qaq tp).2 hn)),.c [] (Qrz (Ab hp) (Nat.le_trans (C7 p) (by omega)))] rfl rfl trivial
  · have e : Y9 p = Xm p := if_neg hn
    rw [e]
    exact w tt Tryz.func251 rfl [.c [] (Hk tp hp hl),.f (decide_eq_false fun h => hn ((Qaq tp).1 h))] rfl rfl trivial
end Orr

namespace Orr
theorem Gn (f : Nat → Int) : Y7 1 f = trim [f 0] := rfl
theorem A3 (f : Nat → Int) : Y7 2 f = trim [f 0,f 1] := rfl
theorem Bt (x : Int) : trim [x] = if x = 0 then [] else [x] := rfl
theorem Qb2 (x y : Int) : trim [x,y] = if y = 0 then trim [x] else [x,y] := by
  simp only [trim]; split <;> split <;> simp_all
theorem bd1 {s : Nat} {x : Int} (h : Qm x ≤ s) : Bd s [x] := fun z hz => by simp at hz; subst hz; exact h
theorem bd2 {s : Nat} {x y : Int} (h : Qm x ≤ s) (h' : Qm y ≤ s) : Bd s [x,y] := fun z hz => by
  simp only [List.mem_cons,List.not_mem_nil,or_false] at hz
  rcases hz with rfl | rfl <;> assumption
section
variable {x d : Int} (hd : 0 < d) (hg : Int.gcd x d = 1) (hx : Qm x ≤ 1000000) (hs : Qm d ≤ 1000000)
theorem b1 {s : Nat} (h : 1 ≤ s) : Bd s [1] := bd1 (Nat.le_trans (show Qm 1 ≤ 1 by decide) h)
include hd in
theorem Nx (hg : Int.gcd x d = 1) : Xm [x,d] = [x,d] := by
  have hc : Vx [x,d] = 1 := by
    have h1 : Pi [x,d] = 1 := by
      show Int.gcd (Int.gcd ((0 : Nat) : Int) x : Nat) d = 1
      rw [show Int.gcd ((0 : Nat) : Int) x = x.natAbs by simp,show Int.gcd ((x.natAbs : Nat) : Int) d = Int.gcd x d by simp [Int.gcd],hg]
    unfold Vx
    rw [if_neg (show ¬ Q9 [x,d] < 0 from by show ¬ d < 0; omega),h1]; rfl
  unfold Xm
  rw [hc]
  show Y7 2 _ = _
  rw [A3,Qb2]
  show (if d / 1 = 0 then _ else [x / 1,d / 1]) = _
  rw [Int.ediv_one,if_neg (by omega),Int.ediv_one]
theorem Qu4 : Xm [1] = [1] := by decide
include hd in
theorem I4 : Xm [d] = [1] := by
  have hc : Vx [d] = d := by
    have h1 : ((Pi [d] : Nat) : Int) = d := by
      show ((Int.gcd ((0 : Nat) : Int) d : Nat) : Int) = d
      simp; omega
    unfold Vx
    rw [if_neg (show ¬ Q9 [d] < 0 from by show ¬ d < 0; omega),h1]
  unfold Xm
  rw [hc]
  show Y7 1 _ = _
  rw [Gn,Bt]
  show (if d / d = 0 then _ else [d / d]) = _
  rw [Int.ediv_self (by omega)]; rfl
include hd in
theorem Qcp : Zk [x,d] = [d] := by
  show Y7 1 _ = _
  rw [Gn,Bt]
  show (if d * 1 = 0 then _ else [d * 1]) = _
  rw [Int.mul_one,if_neg (by omega)]
include hd hx hs in
theorem Qg0 : ∃ m,RRun [1] m [x,d] [] := by
  have h1 : Qbs [x,d] [1] = trim [x] := by
    show Y7 2 _ = _
    rw [A3,Qb2]
    have e1 : F0 [x,d] [1] 1 = 0 := by
      show d * 1 - (if 1 ≤ 1 then Sa [x,d] [1] * 1 else 0) = 0
      have : Sa [x,d] [1] = d := by unfold Sa; rw [if_neg (by decide)]; rfl
      rw [this]; simp
    have e0 : F0 [x,d] [1] 0 = x := by
      show x * 1 - (if 1 ≤ 0 then _ else 0) = x
      simp
    rw [e1,if_pos rfl,e0]
  have hb : Bd 9000000 [x,d] := bd2 (by omega) (by omega)
  by_cases h0 : x = 0
  · refine ⟨1,.step (by show 1 ≤ 2; decide) (by show 2 ≤ 1000; decide) hb (b1 (by decide)) ?_⟩
    rw [h1,h0]
    exact .stop (by decide)
  · refine ⟨2,.step (by show 1 ≤ 2; decide) (by show 2 ≤ 1000; decide) hb (b1 (by decide)) ?_⟩
    rw [h1,Bt,if_neg h0]
    refine .step (Nat.le_refl 1) (by show 1 ≤ 1000; decide) (bd1 (by omega)) (b1 (by decide)) ?_
    have h2 : Qbs [x] [1] = [] := by
      show Y7 1 _ = _
      rw [Gn,Bt]
      have e0 : F0 [x] [1] 0 = 0 := by
        show x * 1 - (if 0 ≤ 0 then Sa [x] [1] * 1 else 0) = 0
        have : Sa [x] [1] = x := by unfold Sa; rw [if_neg (by decide)]; rfl
        rw [this]; simp
      rw [e0,if_pos rfl]
    rw [h2]
    exact .stop (by decide)
include hd hx hs in
theorem Qtw : ∃ m,GRun m [x,d] [1] [1] := by
  obtain ⟨m,h⟩ := Qg0 hd hx hs
  exact ⟨1,.step (by decide) (by decide) (b1 (by decide)) h (by decide) K5 rfl (by rw [show Xm [] = [] by decide]; exact .stop _)⟩
theorem Qpq (c : Int) : Vr [c] [c] = [] := by
  show Y7 1 _ = _
  rw [Gn,Bt]
  show (if c - c = 0 then _ else _) = _
  rw [if_pos (by omega)]
include hd hx hs in
theorem Qlx : DOk [x,d] [1] [x,d] := by
  refine ⟨by decide,by decide,by show 2 ≤ 1000; decide,b1 (by decide),[x,d],[],?_⟩
  have hpl : Q9 [x,d] / Q9 [1] = d := by show d / 1 = d; rw [Int.ediv_one]
  have hsc : Qu [1] d = [d] := by
    show Y7 1 _ = _
    rw [Gn,Bt]
    show (if 1 * d = 0 then _ else [1 * d]) = _
    rw [Int.one_mul,if_neg (by omega)]
  have hsub : Vr [x,d] (Fb 1 [d]) = trim [x] := by
    show Y7 2 _ = _
    rw [A3,Qb2]
    show (if d - d = 0 then trim [x - 0] else _) = _
    rw [if_pos (by omega),Int.sub_zero]
  have hb : Bd 9000000 [x,d] := bd2 (by omega) (by omega)
  have ht : trim [x,d] = [x,d] := by rw [Qb2,if_neg (by omega)]
  by_cases h0 : x = 0
  · refine ⟨1,hb,by show 2 ≤ 1000; decide,?_,ht.symm⟩
    refine .step (by show 1 ≤ 2; decide) (by show 2 ≤ 1000; decide) hb (by decide) (by show (1 : Int) ∣ d; exact Int.one_dvd d) (by show 1 < 2; decide) ?_
    rw [hpl,hsc,show [x,d].length - [(1 : Int)].length = 1 from rfl,hsub,Bt,if_pos h0]
    show DRun [1] 0 [] [0,d] [x,d] []
    rw [h0]; exact .stop (by decide)
  · refine ⟨2,hb,by show 2 ≤ 1000; decide,?_,ht.symm⟩
    refine .step (by show 1 ≤ 2; decide) (by show 2 ≤ 1000; decide) hb (by decide) (by show (1 : Int) ∣ d; exact Int.one_dvd d) (by show 1 < 2; decide) ?_
    rw [hpl,hsc,show [x,d].length - [(1 : Int)].length = 1 from rfl,hsub,Bt,if_neg h0]
    refine .step (by show 1 ≤ 1; decide) (by show 1 ≤ 1000; decide) (bd1 (by omega)) (by decide) (by show (1 : Int) ∣ x; exact Int.one_dvd x) (by show 0 < 2; decide) ?_
    have hpl2 : Q9 [x] / Q9 [1] = x := by show x / 1 = x; rw [Int.ediv_one]
    have hsc2 : Qu [1] x = [x] := by
      show Y7 1 _ = _
      rw [Gn,Bt]
      show (if 1 * x = 0 then _ else [1 * x]) = _
      rw [Int.one_mul,if_neg h0]
    rw [hpl2,hsc2,show [x].length - [(1 : Int)].length = 0 from rfl,show Fb 0 [x] = [x] from rfl,Qpq]
    exact .stop (by decide)
theorem div_one : DOk [1] [1] [1] := by
  refine ⟨by decide,by decide,by decide,b1 (by decide),[1],[],1,b1 (by decide),by decide,?_,by decide⟩
  refine .step (by decide) (by decide) (b1 (by decide)) (by decide) (by decide) (by decide) ?_
  exact .stop (by decide)
include hd hg hx hs in
theorem Qtf : FRun [x,d] 1 (fun _ => [x,d]) := by
  obtain ⟨m,hm⟩ := Qtw (x := x) hd hx hs
  refine ⟨⟨1,[[x,d],[1]],?_,rfl,?_⟩,by decide⟩
  · rw [Nx hd hg]
    refine .step (by show 1 < 2; decide) (by show 2 ≤ 1000; decide) (by show trim [x,d] = [x,d]; rw [Qb2,if_neg (by omega)]) (by show Bd 9000000 [x,d]; exact bd2 (by omega) (by omega)) ?_ ?_ (by show 1 ≤ 1000; decide) (m := m) (g := [1]) ?_
    · show Bd 9000000 (Zk [x,d])
      rw [Qcp hd]; exact bd1 (by omega)
    · show GRun m (Xm [x,d]) (Xm (Zk [x,d])) [1]
      rw [Nx hd hg,Qcp hd,I4 hd]; exact hm
    · exact .stop (by show 1 ≤ 1; decide)
  · intro k hk
    have : k = 0 := by omega
    subst this
    exact ⟨[x,d],[1],[x,d],Qlx hd hx hs,div_one,by rw [Nx hd hg,Qu4]; exact Qlx hd hx hs,(Nx hd hg).symm⟩
theorem Qpg {p : List Int} (hp : Qj p) (h0 : 0 < p.length) : Zl [1] p = p := by
  refine Ry (Zw _ _) hp fun k => ?_
  unfold Zl
  rw [if_neg (by
   rintro (h | h); · cases h
   · omega),Uv]
  show (Ke [1] p (List.replicate (1 + p.length - 1) 0) 1).getD k 0 = _
  simp only [Ke]
  rw [Db _ _ _ _ _ _ (by simp),Jp]
  split
  · show 0 + 1 * p.getD (k - 0) 0 = _
    rw [Nat.sub_zero]; omega
  · rename_i h
    rw [List.getD_eq_getElem?_getD,List.getElem?_eq_none (by omega)]; rfl
include hd hg hx hs in
theorem Qoo : ChRun [x,d] [x,d] [[x,d],[1]] := by
  obtain ⟨m,hm⟩ := Qg0 (x := x) hd hx hs
  have ht : Qj [x,d] := by show trim [x,d] = _; rw [Qb2,if_neg (by omega)]
  refine ⟨⟨1,fun _ => [x,d],Qtf hd hg hx hs,?_,?_⟩,⟨1,?_⟩,bd2 (by omega) (by omega),by show 2 ≤ 1000; decide,by show 2 ≤ 1000; decide⟩
  · intro i hi
    have : i = 0 := by omega
    subst this
    exact ⟨b1 (by decide),by show 1 ≤ 1000; decide,bd2 (by omega) (by omega),by show 2 ≤ 1000; decide⟩
  · show [x,d] = Zl [1] [x,d]
    rw [Qpg ht (by show 0 < 2; decide)]
  · have hz : Y9 (Zk [x, d]) = [1] := by
      rw [Qcp hd]
      unfold Y9
      rw [if_neg (show ¬ Q9 [d] < 0 from by show ¬ d < 0; omega),I4 hd]
    rw [hz]
    refine .step (by decide) (by decide) (b1 (by decide)) (m := m) (r := []) hm rfl K5 (by decide) (by show 0 < 1; decide) (by show 1 ≤ 1000; decide) ?_
    exact .stop (by decide)
end
theorem Q68 {q : Rat} (h : Qs 1000000 q) : Qko q [[-q.num,(q.den : Int)],[1]] := by
  refine ⟨[-q.num,(q.den : Int)],Qoo (den_pos q) ?_ (by rw [Z1]; exact h.1) h.2⟩
  rw [Int.neg_gcd]
  have := q.reduced
  unfold Nat.Coprime at this
  simpa [Int.gcd] using this
end Orr

namespace Orr
open Go Go.Proofs
set_option maxRecDepth 10000
theorem Q3m {a b g : List Int} {n : Nat} (ta : Qj a) (tb : Qj b) (ha : Bd 9000000 a) (hb : Bd 9000000 b) (la : a.length ≤ 1000) (lb : b.length ≤ 1000) (hrun : GRun n (Xm a) (Xm b) g) : Qc Tryz.prog 306 [.one (rp (zp a)),.one (rp (zp b))] [.one (rp (zp g))] := by
  refine Z6 Tryz.func306 rfl ?_
  refine go tt [.c [] (Hj ta ha la),.c [] (Hj tb hb lb)] rfl trivial ?_
  refine sb [(0,.v (.one (rp (zp (Xm a))))),(1,.v (.one (rp (zp (Xm b)))))] [] rfl rfl ?_
  refine lp (S := Nat × List Int × List Int) 0 (fun L1 s => (0,.v (.one (rp (zp s.2.1)))) :: (1,.v (.one (rp (zp s.2.2)))) :: L1) (fun _ => []) (fun s => s.1) (fun s => GRun s.1 s.2.1 s.2.2 g) (n,Xm a,Xm b) hrun rfl (fun _ _ => rfl) rfl fun ⟨k,x,y⟩ hs => ?_
  have hs : GRun k x y g := hs
  have hyl := Ls y
  rcases hs.inv with ⟨hk,hy0,hxg⟩ | ⟨j,m2,r,hk,hy0,hy1,hyb,hrr,hrl,hrb,hrt,hgr⟩
  · rw [← hxg]
    exact en tt [.f (decide_eq_false (by dsimp only; omega))] rfl rfl trivial
  · subst hk
    refine go tt [.t (decide_eq_true (by dsimp only; omega)),.c [] (Qlf (a0 := x) (b := y) (res := r) hy0 hy1 hyb hrr),.c [] (Hj (p := r) hrt hrb hrl)] rfl trivial ?_
    exact rd (j,y,Xm r) (by dsimp only; omega) hgr rfl
theorem Qx9 {x y : Int} (hx : Qm x ≤ 9000000) (hy : Qm y ≤ 9000000) (h0 : y ≠ 0) (hd : y ∣ x) : Qc Tryz.prog 309 [.agg (fr (x : Rat)),.agg (fr (y : Rat))] [.agg (fr ((x / y : Int) : Rat))] := by
  have hy0 : (y : Rat) ≠ 0 := fun e => h0 (by exact_mod_cast e)
  have h := Qh7 (Uc (s := 40000000) (z := x) (by omega) (by omega)) (Uc (s := 40000000) (z := y) (by omega) (by omega)) hy0
  obtain ⟨k,rfl⟩ := hd
  rw [Int.mul_ediv_cancel_left _ h0]
  rwa [show (((y * k : Int) : Rat)) / (y : Rat) = (k : Rat) by rw [Rat.intCast_mul]; grind] at h
theorem Qog {p : List Int} {c : Int} (hp : Bd 40000000 p) (hc : Qm c ≤ 40000000) (hl : p.length ≤ 1000000) : Qc Tryz.prog 248 [.one (rp (zp p)),.agg (fr (c : Rat))] [.one (rp (zp (Qu p c)))] := by
  have h := Gh (Pw hp (by omega)) (Uc hc (by omega)) (by rw [Ya]; exact hl)
  rwa [Qbr] at h
theorem Q04 (k : Nat) (p : List Int) : Xe (zp (List.replicate k 0)) ++ Xe (zp p) = Xe (zp (Fb k p)) := by simp [zp,Fb,Xe]
theorem Qo6 (l : List Int) (i : Nat) (z : Int) : (Xe (zp l)).set i [nd ((z : Rat)).num.natAbs,sg ((z : Rat)).num,nd (((z : Rat)).den : Int).natAbs,sg (((z : Rat)).den : Int)] = Xe (zp (l.set i z)) := Qfr l i z
theorem Qyl {p q : List Int} (hp : Bd 18000000 p) (hq : Bd 18000000 q) (hlp : p.length ≤ 1000000) (hlq : q.length ≤ 1000000) : Ja Tryz.prog 208 [.one (rp (zp p)),.one (.orow 0 4 none)] [.row false 49 4 (Xe (zp q))] [.one (rp (zp (Vr p q)))] [.gone] := by
  have hn := Qih ((Pw hq (by decide)).mono (by decide)) (by rw [Ya]; exact hlq)
  have ha := Qr1 (p := zp p) (q := Qd1 (zp q)) ((Pw hp (by decide)).mono (by decide)) ((Qvn (Pw hq (by decide))).mono (by decide)) (by rw [Ya]; exact hlp) (Nat.le_trans (Qg1 _) (by rw [Ya]; exact hlq))
  have e : Qpt (zp p) (Qd1 (zp q)) = zp (Vr p q) := Qnl p q
  rw [e] at ha
  refine Z6 Tryz.func208 rfl ?_
  exact ed tt [] [0] [.c [] hn,.c [] ha] rfl trivial
theorem Qoh {a0 b qf rem : List Int} {n : Nat} (hb0 : 0 < b.length) (hb1 : b.length ≤ 1000) (hl0 : a0.length ≤ 1000) (hbb : Bd 9000000 b) (hqb : Bd 9000000 qf) (hrun : DRun b n a0 (List.replicate (a0.length + 1 - b.length) 0) qf rem) : Qc Tryz.prog 307 [.one (rp (zp a0)),.one (rp (zp b))] [.one (rp (zp (trim qf))),.one (rp (zp rem))] := by
  have h0l := Ls a0
  have hbl := Ls b
  obtain ⟨N,hN⟩ : ∃ N,N = a0.length + 1 - b.length := ⟨_,rfl⟩
  rw [← hN] at hrun
  have cc := Rp (p := zp qf)
  rw [Kr] at cc
  refine Z6 Tryz.func307 rfl ?_
  refine go tt [.r 18 (eI (b := (N : Int)) (by omega)),.i N,.i N,.r 21 (eI (b := (N : Int)) (by simp))] rfl (by simp [Qa]; omega) ?_
  refine lp (S := Nat) 1 (fun L1 i => (22,.v (.one (.int .i64 (i : Int)))) :: L1) (fun i => [.row false 49 4 (List.replicate i (fr 0) ++ List.replicate (N - i) zR)]) (fun i => N - i) (fun i => i ≤ N) 0 (Nat.zero_le _) rfl (fun _ _ => rfl) rfl fun i hi => ?_
  by_cases hlt : i < N
  · refine go tt [.t (decide_eq_true (by omega)),.c [] Qrp,.i i] rfl (by simp [Qa]; omega) ?_
    rw [Qcx hlt]
    exact rd (i + 1) (by omega) hlt rfl
  have hiN : i = N := by omega
  rw [hiN,Oi]
  clear hiN hlt hi
  refine go tt [.f (decide_eq_false (by omega))] rfl trivial ?_
  refine sb [(0,.v (.one (rp (zp a0)))),(1,.v (.one (rp (zp b)))),(6,.v (.one (.orow 0 4 none)))] [.row false 49 4 (Xe (zp (List.replicate N 0)))] rfl rfl ?_
  refine lp (S := Nat × List Int × List Int) 1 (fun L1 s => (0,.v (.one (rp (zp s.2.1)))) :: L1) (fun s => [.row false 49 4 (Xe (zp s.2.2))]) (fun s => s.1) (fun s => DRun b s.1 s.2.1 s.2.2 qf rem ∧ s.2.2.length = N) (n,a0,List.replicate N 0) ⟨hrun,List.length_replicate⟩ rfl (fun _ _ => rfl) rfl fun ⟨k,a,q⟩ ⟨hr0,hr1⟩ => ?_
  have hr0 : DRun b k a q qf rem := hr0
  have hr1 : q.length = N := hr1
  have hal := Ls a
  have hql := Ls q
  rcases hr0.inv with ⟨hk,hqf,har,hlt⟩ | ⟨j,hk,hba,hal2,hab,hpb,hpd,hkq,hrj⟩
  · subst hqf; subst har
    exact en tt [.f (decide_eq_false (by dsimp only; omega)),.c [] cc] rfl rfl trivial
  subst hk
  obtain ⟨K,hK⟩ : ∃ K,K = a.length - b.length := ⟨_,rfl⟩
  rw [← hK] at hrj hkq
  have hla : Qm (Q9 a) ≤ 9000000 := Qp hab _
  have hlb : Qm (Q9 b) ≤ 9000000 := Qp hbb _
  obtain ⟨c,hc⟩ : ∃ c,c = Q9 a / Q9 b := ⟨_,rfl⟩
  have cq := Qx9 hla hlb hpb hpd
  have hcs : Qm (Q9 a / Q9 b) ≤ 9000000 := Nat.le_trans (Th _ _) hla
  rw [← hc] at cq hcs hrj
  have hsl := Q6 b c
  have hqs : ∀ x,(q.set K x).length = N := fun x => by rw [List.length_set]; exact hr1
  dsimp only
  refine go tt [.t (decide_eq_true (by omega)),.r 39 (eI (b := (K : Int)) (by omega)),.r 43 (eI (b := ((a.length - 1 : Nat) : Int)) (by omega)),.x (X4 (p := a) (i := a.length - 1) (by omega)),.r 49 (eI (b := ((b.length - 1 : Nat) : Int)) (by omega)),.x (X4 (p := b) (i := b.length - 1) (by omega)),.c [] cq,.i K,.i K,.i K,.r 60 (eI (b := (K : Int)) (by simp))] rfl (by simp [Qa,hql] <;> omega) ?_
  rw [Qo6]
  refine lp (S := Nat) 3 (fun L1 i => (61,.v (.one (.int .i64 (i : Int)))) :: L1) (fun i => [.row false 49 4 (Xe (zp (q.set K c))),.blk 49 (fr (c : Rat)),.row false 49 4 (List.replicate i (fr 0) ++ List.replicate (K - i) zR)]) (fun i => K - i) (fun i => i ≤ K) 0 (Nat.zero_le _) rfl (fun _ _ => rfl) rfl fun i hi => ?_
  by_cases hlt : i < K
  · refine go tt [.t (decide_eq_true (by omega)),.c [] Qrp,.i i] rfl (by simp [Qa]; omega) ?_
    rw [Qcx hlt]
    exact rd (i + 1) (by omega) hlt rfl
  have hiK : i = K := by omega
  rw [hiK,Oi]
  clear hiK hlt hi
  have hzl := Ls (List.replicate K 0)
  rw [List.length_replicate] at hzl
  have hpl := Ls (Qu b c)
  refine go tt [.f (decide_eq_false (by omega))] rfl trivial ?_
  refine sb [(10,.v (.one (.orow 2 4 none))),(9,.v (.one (.ow 1 0))),(0,.v (.one (rp (zp a)))),(1,.v (.one (rp (zp b)))),(6,.v (.one (.orow 0 4 none)))] [.row false 49 4 (Xe (zp (q.set K c))),.blk 49 (fr (c : Rat)),.row false 49 4 (Xe (zp (List.replicate K 0)))] rfl rfl ?_
  have p2 := Qyl (p := a) (q := Fb K (Qu b c)) (Qd hab (by decide)) (Qd (Qn5 (Zj hbb hcs)) (by decide)) (by omega) (by rw [Qj6]; omega)
  rw [← Q04] at p2
  refine go tt [.c [] (Qog (c := c) (Qd hbb (by decide)) (by omega) (by omega)),.s (sz := 4) (Cw (zp (Qu b c))),.c [2] p2] rfl (by simp [Qa,hzl,hpl]; omega) ?_
  exact rd (j,Vr a (Fb K (Qu b c)),q.set K c) (by dsimp only; omega) ⟨hrj,hqs c⟩ rfl
end Orr

namespace Orr
open Go Go.Proofs
set_option maxRecDepth 10000
def zls (l : List (List Int)) : List (List LV) := l.map fun p => [rp (zp p)]
theorem Ph (l : List (List Int)) : (zls l).length = l.length := by simp [zls]
theorem B4 (l : List (List Int)) (g : List Int) : zls l ++ [[rp (zp g)]] = zls (l ++ [g]) := by simp [zls]
theorem Pg {l : List (List Int)} {i : Nat} (h : i < l.length) : (zls l)[i]? = some [rp (zp (l.getD i []))] := Z9 (Qix h)
theorem Qz5 (x : LV) : ∀ c ∈ [[x]],c.length = 1 := fun c hc => by rw [List.mem_singleton.1 hc]; rfl
theorem Ak {a b q : List Int} (h : DOk a b q) : ∃ r,Qc Tryz.prog 307 [.one (rp (zp a)),.one (rp (zp b))] [.one (rp (zp q)),.one (rp (zp r))] := by
  obtain ⟨h1,h2,h3,h4,qf,r,n,h5,h6,h7,rfl⟩ := h
  exact ⟨r,Qoh h1 h2 h3 h4 h5 h7⟩
theorem Qig {a : List Int} {mf : Nat} {f : Nat → List Int} (ta : Qj a) (ha : Bd 9000000 a) (la : a.length ≤ 1000) (h2 : 2 ≤ a.length) (hF : FRun a mf f) : Qc Tryz.prog 282 [.one (rp (zp a))] [.one (.row (zls (Og f mf)))] := by
  obtain ⟨⟨n,ls,hrun,hlen,hq⟩,hms⟩ := hF
  have hal := Ls a
  refine Z6 Tryz.func282 rfl ?_
  refine go tt [.f (decide_eq_false (by omega)),.c [] (Hj ta ha la),.o 3 99 1,.lo] rfl trivial ?_
  refine sb [(3,.v (.one (.orow 0 1 none))),(4,.v (.one (.orow 1 1 none)))] [.row false 99 1 [],.row false 99 1 (zls [Xm a])] rfl rfl ?_
  refine lp (S := Nat × List (List Int)) 2 (fun L1 s => (4,.v (.one (.orow 1 1 none))) :: L1) (fun s => [.row false 99 1 [],.row false 99 1 (zls s.2)]) (fun s => s.1) (fun s => LRun s.1 s.2 ls ∧ 0 < s.2.length ∧ s.2.length ≤ 1001) (n,[Xm a]) ⟨hrun,by show 0 < 1; decide,by show 1 ≤ 1001; decide⟩ rfl (fun _ _ => rfl) rfl fun ⟨k,l⟩ ⟨hs1,hs2,hs3⟩ => ?_
  have hs1 : LRun k l ls := hs1
  have hs2 : 0 < l.length := hs2
  have hs3 : l.length ≤ 1001 := hs3
  have hll := Ph l
  have hlast : (zls l)[l.length - 1]? = some [rp (zp (Y4 l))] := Pg (by omega)
  have hpl := Ls (Y4 l)
  dsimp only
  rcases hs1.inv with ⟨hk,hlf,hl1⟩ | ⟨j,m2,g,hk,hg1,hg2,hg3,hg4,hg5,hg6,hg7,hlr⟩
  · have hlm : l.length = mf + 1 := by rw [hlf]; exact hlen
    rw [← hlf] at hq
    have hl2 := Ph (l ++ [[1]])
    have hl3 : (l ++ [[1]]).length = mf + 2 := by simp [hlm]
    refine go tt [.r 23 (eI (b := ((l.length - 1 : Nat) : Int)) (by omega)),.i (l.length - 1),.x hlast,.f (decide_eq_false (by omega)),.c [] Qr4,.s (sz := 1) (Qz5 _)] rfl (by simp [Qa,hll]; omega) ?_
    rw [B4]
    refine lp (S := Nat) 2 (fun L1 i => (6,.v (.one (.int .i64 (i : Int)))) :: (3,.v (.one (.orow 0 1 none))) :: L1) (fun i => [.row false 99 1 (zls (Og f i)),.row false 99 1 (zls (l ++ [[1]]))]) (fun i => mf - i) (fun i => i ≤ mf) 0 (Nat.zero_le _) rfl (fun _ _ => rfl) rfl fun i hi => ?_
    have htl := Ph (Og f i)
    rw [Qhb] at htl
    by_cases h : i < mf
    · obtain ⟨x,y,z,hx,hy,hz,hf⟩ := hq i h
      obtain ⟨rx,hdx⟩ := Ak hx
      obtain ⟨ry,hdy⟩ := Ak hy
      obtain ⟨rz,hdz⟩ := Ak hz
      refine go tt [.t (decide_eq_true (by omega)),.i i,.x (Pg (by omega)),.i (i + 1),.x (Pg (by omega)),.c [] hdx,.i (i + 1),.x (Pg (by omega)),.i (i + 2),.x (Pg (by omega)),.c [] hdy,.c [] (Hj hx.trim hx.bd hx.len),.c [] (Hj hy.trim hy.bd hy.len),.c [] hdz,.c [] (Hj hz.trim hz.bd hz.len),.s (sz := 1) (Qz5 _)] rfl (by simp [Qa,hl2,htl]; omega) ?_
      exact rd (i + 1) (by omega) h (by rw [B4,Qp2,hf]; rfl)
    · have e : i = mf := by omega
      rw [e]
      exact en tt [.f (decide_eq_false (by omega))] rfl rfl (by simp [Qa]; omega)
  · subst hk
    refine go tt [.r 23 (eI (b := ((l.length - 1 : Nat) : Int)) (by omega)),.i (l.length - 1),.x hlast,.t (decide_eq_true (by omega)),.r 31 (eI (b := ((l.length - 1 : Nat) : Int)) (by omega)),.i (l.length - 1),.x hlast,.c [] (Qif (Qd hg4 (by decide)) (by omega)),.c [] (Q3m hg3 (Q8 _ _) hg4 hg5 hg2 (Nat.le_trans (Vg _) (by omega)) hg6),.s (sz := 1) (Qz5 _)] rfl (by simp [Qa,hll]; omega) ?_
    exact rd (j,l ++ [g]) (by dsimp only; omega) ⟨hlr,by simp,by simp; omega⟩ (by rw [B4]; rfl)
theorem Qoi {a : List Int} {mf : Nat} {f : Nat → List Int} (ta : Qj a) (ha : Bd 9000000 a) (la : a.length ≤ 1000) (h2 : 2 ≤ a.length) (hF : FRun a mf f) (hP : Q50 mf f) : Qc Tryz.prog 250 [.one (rp (zp a))] [.one (rp (zp (G6 f mf)))] := by
  have hms := hF.small
  have hal := Ls a
  have htl := Ph (Og f mf)
  rw [Qhb] at htl
  refine Z6 Tryz.func250 rfl ?_
  refine go tt [.f (decide_eq_false (by omega)),.c [] Qr4,.c [] (Qig ta ha la h2 hF)] rfl trivial ?_
  refine lp (S := Nat) 0 (fun L1 i => (15,.v (.one (.int .i64 (i : Int)))) :: (3,.v (.one (rp (zp (G6 f i))))) :: L1) (fun _ => []) (fun i => mf - i) (fun i => i ≤ mf) 0 (Nat.zero_le _) rfl (fun _ _ => rfl) rfl fun i hi => ?_
  by_cases h : i < mf
  · obtain ⟨g1,g2,g3,g4⟩ := hP i h
    refine go tt [.t (decide_eq_true (by omega)),.x (Z9 (f := fun p => [rp (zp p)]) (Qwt h)),.c [] (Qr3 (p := G6 f i) (q := f i) (by omega) (by omega) g1 g3 (by decide))] rfl (by simp [Qa]; omega) ?_
    exact rd (i + 1) (by omega) h rfl
  · have e : i = mf := by omega
    rw [e]
    exact en tt [.f (decide_eq_false (by omega))] rfl rfl trivial
theorem Qpc {l : List (List Int)} (g : List Int) (h : 0 < l.length) : (zls l ++ [[rp (zp g)]])[l.length - 1]? = some [rp (zp (Y4 l))] := by
  rw [List.getElem?_append_left (by rw [Ph]; omega)]
  exact Pg (by omega)
theorem Qr2 {a sq : List Int} {c : List (List Int)} (ta : Qj a) (ha : Bd 9000000 a) (la : a.length ≤ 1000) (h2 : 2 ≤ a.length) (hC : ChRun a sq c) : Qc Tryz.prog 207 [.one (rp (zp a))] [.one (.row (zls c))] := by
  obtain ⟨⟨mf,f,hF,hP,rfl⟩,⟨n,hcr⟩,hbd,hle,hsm⟩ := hC
  refine Z6 Tryz.func207 rfl ?_
  refine go tt [.c [] (Qoi ta ha la h2 hF hP),.lo,.c [] (Qif (p := G6 f mf) (Qd hbd (by decide)) (by omega)),.c [] (Qe0 (p := Zk (G6 f mf)) (Q8 _ _) (Qd (L9 (t := 10) hbd (by omega)) (by decide)) (Nat.le_trans (Vg _) (by omega)))] rfl trivial ?_
  refine sb [(5,.v (.one (rp (zp (Y9 (Zk (G6 f mf))))))),(4,.v (.one (.orow 0 1 none)))] [.row false 99 1 (zls [G6 f mf])] rfl rfl ?_
  refine lp (S := Nat × List (List Int) × List Int) 1 (fun L1 s => (5,.v (.one (rp (zp s.2.2)))) :: (4,.v (.one (.orow 0 1 none))) :: L1) (fun s => [.row false 99 1 (zls s.2.1)]) (fun s => s.1) (fun s => CRun s.1 s.2.1 s.2.2 c ∧ 0 < s.2.1.length ∧ s.2.1.length ≤ 1001) (n,[G6 f mf],Y9 (Zk (G6 f mf))) ⟨hcr,by show 0 < 1; decide,by show 1 ≤ 1001; decide⟩ rfl (fun _ _ => rfl) rfl fun ⟨k,l,g⟩ ⟨hs1,hs2,hs3⟩ => ?_
  have hs1 : CRun k l g c := hs1
  have hs2 : 0 < l.length := hs2
  have hs3 : l.length ≤ 1001 := hs3
  have hll := Ph l
  have hgl := Ls g
  dsimp only
  rcases hs1.inv with ⟨hk,hlf,hg0⟩ | ⟨j,m2,r,hk,hg1,hg2,hg3,hrr,hrt,hrb,hrl,hl0,hl1,hcj⟩
  · subst hlf
    exact en tt [.f (decide_eq_false (by omega))] rfl rfl trivial
  · subst hk
    refine go tt [.t (decide_eq_true (by omega)),.s (sz := 1) (Qz5 _),.r 23 (eI (b := ((l.length - 1 : Nat) : Int)) (by simp; omega)),.i (l.length - 1),.x (Qpc g hl0),.c [] (Qlf (a0 := Y4 l) (b := g) (res := r) hg1 hg2 hg3 hrr),.c [] (Qe0 (p := r) hrt hrb hrl),.c [] (Qrz (p := Y9 r) (Qn4 hrb) (Nat.le_trans (Qi2 r) (by omega)))] rfl (by simp [Qa,hll]; omega) ?_
    exact rd (j,l ++ [g],Yx (Y9 r)) (by dsimp only; omega) ⟨hcj,by simp,by simp; omega⟩ (by rw [B4]; rfl)
theorem Q56 {q : Rat} (h1 : Qm q.num ≤ 1000000) (h2 : Qm (q.den : Int) ≤ 1000000) : Bd 9000000 [-q.num,(q.den : Int)] := fun z hz => by
  simp only [List.mem_cons,List.not_mem_nil,or_false] at hz
  rcases hz with rfl | rfl
  · rw [Z1]; omega
  · omega
abbrev aq (q : Rat) (c : List (List Int)) : List LV := [rp (zp [-q.num,(q.den : Int)]),.row (zls c)] ++ fr q ++ fr q
theorem Qez {q : Rat} {c : List (List Int)} (hq : Qs 1000000 q) (hC : Qko q c) : Qc Tryz.prog 147 [.agg (fr q)] [.agg (aq q c)] := by
  obtain ⟨sq,hch⟩ := hC
  have co := Ue (n := 1) (by decide)
  exact w tt Tryz.func147 rfl [.c [] co,.c [] (Vd (n := q.num)),.c [] (Qq4 (z := q.num)),.c [] co,.c [] (Vd (n := (q.den : Int))),.c [] (Qr2 (a := [-q.num,(q.den : Int)]) (Qns q) (Q56 hq.1 hq.2) (by show 2 ≤ 1000; decide) (Nat.le_refl 2) hch)] rfl rfl trivial
theorem Qe1 {q : Rat} {c : List (List Int)} (hq : Qs 1000000 q) : Qc Tryz.prog 337 [.agg (aq q c)] [.one (.bool true)] := by
  have cr := Qyf (a := q) (b := q) (hq.mono (by decide)) (hq.mono (by decide))
  rw [K8] at cr
  exact w tt Tryz.func337 rfl [.c [] cr] rfl rfl trivial
theorem Qpp {p : List Int} (h : p.length = 0) (q : Rat) : Zv p q = 0 := by rw [List.eq_nil_of_length_eq_zero h]; rfl
theorem Qle {p : List Int} {q : Rat} {c : List (List Int)} (hp : Bd 30000000 p) (hl : p.length ≤ 64) (hq : Qs 1000000 q) : Qc Tryz.prog 336 [.one (rp (zp p)),.agg (aq q c)] [.one (.bool (decide (Zv p q = 0)))] := by
  have hpl := Ls p
  rcases Nat.eq_zero_or_pos p.length with h0 | h0
  · rw [decide_eq_true (Qpp h0 q)]
    exact w tt Tryz.func336 rfl [.t (decide_eq_true (by omega))] rfl rfl trivial
  · exact w tt Tryz.func336 rfl [.f (decide_eq_false (by omega)),.c [] (Qe1 hq),.t rfl,.c [] (Qld hp hl hq)] rfl rfl trivial
theorem Qab {p : List Int} {q : Rat} {c : List (List Int)} (hp : Bd 30000000 p) (hl : p.length ≤ 64) (hq : Qs 1000000 q) : Qc Tryz.prog 327 [.one (rp (zp p)),.agg (aq q c)] [.one (.int .i64 (Zv p q))] := by
  by_cases h0 : Zv p q = 0
  · have cz := Qle (c := c) hp hl hq
    rw [h0] at cz ⊢
    exact w tt Tryz.func327 rfl [.c [] cz,.t rfl] rfl rfl trivial
  · exact w tt Tryz.func327 rfl [.c [] (Qle hp hl hq),.f (decide_eq_false h0),.c [] (Qe1 hq),.g 11 true rfl,.t rfl,.c [] (Qld hp hl hq)] rfl rfl trivial
theorem M3 {p : List Int} {q : Rat} {c : List (List Int)} (hp : Bd 20000000 p) (hl : p.length ≤ 64) (hq : Qs 1000000 q) : Qc Tryz.prog 315 [.one (rp (zp p)),.agg (aq q c)] [.one (.int .i64 (Te p q))] := by
  refine Z6 Tryz.func315 rfl ?_
  refine go tt [] rfl trivial ?_
  refine lp (S := List Int) 1 (fun L1 r => (0,.v (.one (rp (zp r)))) :: L1) (fun _ => [.blk 102 (aq q c)]) (fun r => r.length) (fun r => r.length ≤ 64 ∧ Bd (25000000 - 30 * r.length) r ∧ Y8 (fun p => Zv p q) r.length r = Te p q) p ⟨hl,Qd hp (by omega),rfl⟩ rfl (fun _ _ => rfl) rfl fun r ⟨hr0,hr1,hr2⟩ => ?_
  have hrl := Ls r
  rcases Nat.eq_zero_or_pos r.length with h0 | h0
  · rw [D4 _ h0] at hr2
    exact en tt [.f (decide_eq_false (by omega))] rfl (by rw [← hr2]) trivial
  by_cases hs : Zv r q = 0
  · have hd := Vg r
    refine go tt [.t (decide_eq_true (by omega)),.c [] (Qab (p := r) (c := c) (Qd hr1 (by omega)) hr0 hq),.f (decide_eq_false (fun h => h hs)),.c [] (Qif (p := r) (Qd hr1 (by omega)) (by omega))] rfl trivial ?_
    exact rd (Zk r) (by omega) ⟨by omega,Qd (L9 (t := 6) hr1 (by omega)) (by omega),by rw [← hr2,D3 _ h0 hs]⟩ rfl
  · exact en tt [.t (decide_eq_true (by omega)),.c [] (Qab (p := r) (c := c) (Qd hr1 (by omega)) hr0 hq),.t (decide_eq_true hs)] rfl (by rw [← hr2,D2 _ h0 hs]) trivial
end Orr

namespace Orr
def Mt (p : List Int) (d : Int) : List Rat := p.map fun (z : Int) => (z : Rat) / (d : Rat)
theorem Fs (p : List Int) (d : Int) : (Mt p d).length = p.length := List.length_map _
theorem Q0u {p : List Int} {i : Nat} {z : Int} {d : Int} (h : p[i]? = some z) : (Mt p d)[i]? = some ((z : Rat) / (d : Rat)) := by simp [Mt,h]
theorem Qv4 (p : List Int) (d : Int) (i : Nat) : (Mt p d).getD i 0 = ((p.getD i 0 : Int) : Rat) / (d : Rat) := by
  simp only [List.getD_eq_getElem?_getD,Mt,List.getElem?_map]
  cases p[i]? with
  | none => simp; grind
  | some z => rfl
theorem Hq (z d : Int) : (z : Rat) / (d : Rat) = Rat.divInt z d := by
  by_cases h : d = 0
  · subst h; simp; grind
  · rw [Rat.div_def]
    have e1 : (z : Rat) = Rat.divInt z 1 := by have := Rat.num_divInt_den (z : Rat); simpa using this.symm
    have e2 : (d : Rat)⁻¹ = Rat.divInt 1 d := by
      have : (d : Rat) = Rat.divInt d 1 := by have := Rat.num_divInt_den (d : Rat); simpa using this.symm
      rw [this,Rat.inv_divInt]
    rw [e1,e2,Rat.divInt_mul_divInt]
    simp
theorem Qy4 {z d : Int} (hd : 0 < d) : (((z : Rat) / (d : Rat)).den : Int) * (Int.gcd z d : Nat) = d := by
  rw [Hq]
  have h := (Qdd (n := z) hd).2
  rw [← h,Ka,Int.gcd_comm]
  exact Int.ediv_mul_cancel (Int.gcd_dvd_right ..)
theorem Qt5 {d a b L : Nat} (hd : 0 < d) (ha : L * a = d) {D : Nat} (hb : D * b = d) : L * D / Nat.gcd L D * Nat.gcd a b = d := by
  have hL : 0 < L := Nat.pos_of_ne_zero fun e => by rw [e] at ha; omega
  have hD : 0 < D := Nat.pos_of_ne_zero fun e => by rw [e] at hb; omega
  have hg : 0 < Nat.gcd L D := Nat.gcd_pos_of_pos_left _ hL
  show Nat.lcm L D * Nat.gcd a b = d
  rw [← Nat.gcd_mul_left]
  refine Nat.dvd_antisymm ?_ ?_
  · -- gcd (M a) (M b) | d
    obtain ⟨u,hu⟩ := Nat.gcd_dvd_left L D
    obtain ⟨v,hv⟩ := Nat.gcd_dvd_right L D
    have hM : Nat.lcm L D = Nat.gcd L D * (u * v) := by
      unfold Nat.lcm
      conv => lhs; rw [show L * D = Nat.gcd L D * u * (Nat.gcd L D * v) by rw [← hu,← hv]]
      rw [show Nat.gcd L D * u * (Nat.gcd L D * v) = Nat.gcd L D * (Nat.gcd L D * (u * v)) by rw [Nat.mul_assoc,Nat.mul_left_comm u,]]
      exact Nat.mul_div_cancel_left _ hg
    have h1 : Nat.lcm L D * a = v * d := by
      rw [hM,← ha]
      conv => rhs; rw [hu]
      simp [Nat.mul_comm,Nat.mul_left_comm,Nat.mul_assoc]
    have h2 : Nat.lcm L D * b = u * d := by
      rw [hM,← hb]
      conv => rhs; rw [hv]
      simp [Nat.mul_comm,Nat.mul_left_comm,Nat.mul_assoc]
    have huv : Nat.gcd u v = 1 := by
      have := Nat.gcd_mul_left (Nat.gcd L D) u v
      rw [← hu,← hv] at this
      exact Nat.eq_of_mul_eq_mul_left hg (by omega)
    rw [h1,h2,Nat.gcd_mul_right,Nat.gcd_comm,huv,Nat.one_mul]
    exact Nat.dvd_refl d
  · refine Nat.dvd_gcd ?_ ?_
    · rw [← ha]; exact Nat.mul_dvd_mul_right (Nat.dvd_lcm_left L D) a
    · rw [← hb]; exact Nat.mul_dvd_mul_right (Nat.dvd_lcm_right L D) b
def lcd (z : List Int) (d : Int) : Nat → Int
  | 0 => 1
  | i + 1 => lcd z d i * ((((z.getD i 0 : Int) : Rat) / (d : Rat)).den : Int) / (Int.gcd (lcd z d i) ((((z.getD i 0 : Int) : Rat) / (d : Rat)).den : Int) : Nat)
theorem Qi1 {z : List Int} {d : Int} (hd : 0 < d) : ∀ i,i ≤ z.length → lcd z d i * ((Z4 (d :: z.take i) : Nat) : Int) = d
  |
   0,_ => by
   show 1 * _ = d
   have : ((Z4 [d] : Nat) : Int) = d := by unfold Z4; simp; omega
   rw [List.take_zero,this,Int.one_mul]
  |
   i + 1,hi => by
   have ih := Qi1 (z := z) hd i (by omega)
   have hz : z[i]? = some (z.getD i 0) := getD_some (l := z) (by omega)
   have hstep : Z4 (d :: z.take (i + 1)) = Nat.gcd (Z4 (d :: z.take i)) (z.getD i 0).natAbs := by
     have := Qay (l := d :: z) (i := i + 1) (z := z.getD i 0) (by simpa using hz)
     simpa using this
   have hdn := Qy4 (z := z.getD i 0) hd
   simp only [lcd]
   generalize hL : lcd z d i = L at *
   generalize hD : (((z.getD i 0 : Int) : Rat) / (d : Rat)).den = D at *
   have hLp : 0 < L := by
     rcases Int.lt_trichotomy L 0 with h | h | h
     · have := Int.mul_nonneg (Int.neg_nonneg_of_nonpos (Int.le_of_lt h)) (Int.natCast_nonneg (Z4 (d :: z.take i)))
       rw [Int.neg_mul] at this; omega
     · rw [h,Int.zero_mul] at ih; omega
     · exact h
   obtain ⟨l,rfl⟩ := Int.eq_ofNat_of_zero_le (Int.le_of_lt hLp)
   obtain ⟨e,rfl⟩ := Int.eq_ofNat_of_zero_le (Int.le_of_lt hd)
   have h1 : l * Z4 (((e : Nat) : Int) :: z.take i) = e := by exact_mod_cast ih
   have h2 : D * Int.gcd (z.getD i 0) ((e : Nat) : Int) = e := by exact_mod_cast hdn
   have h3 := Qt5 (d := e) (by omega) h1 h2
   have h4 : Nat.gcd (Z4 (((e : Nat) : Int) :: z.take i)) (Int.gcd (z.getD i 0) ((e : Nat) : Int)) = Nat.gcd (Z4 (((e : Nat) : Int) :: z.take i)) (z.getD i 0).natAbs := by
     have hge : Z4 (((e : Nat) : Int) :: z.take i) ∣ e := ⟨l,by rw [Nat.mul_comm]; exact h1.symm⟩
     show Nat.gcd _ (Nat.gcd (z.getD i 0).natAbs e) = _
     rw [Nat.gcd_comm (z.getD i 0).natAbs e,← Nat.gcd_assoc,Nat.gcd_eq_left hge]
   rw [hstep,← h4]
   rw [show Int.gcd ((l : Nat) : Int) ((D : Nat) : Int) = Nat.gcd l D by simp [Int.gcd]]
   exact_mod_cast h3
theorem Qzk {x y : List Int} {d : Int} (hd : 0 < d) (hg : Z4 (d :: (x ++ y)) = 1) : lcd (x ++ y) d (x ++ y).length = d := by
  have := Qi1 (z := x ++ y) hd (x ++ y).length (Nat.le_refl _)
  rw [List.take_length,hg] at this
  simpa using this
theorem Qzm {z : List Int} {d : Int} (hd : 0 < d) {i : Nat} (hi : i ≤ z.length) : Qm (lcd z d i) ≤ Qm d := by
  have h := Qi1 (z := z) hd i hi
  refine Xv ?_
  have h0 : Z4 (d :: z.take i) ≠ 0 := fun e => by rw [e] at h; simp at h; omega
  have : d.natAbs = (lcd z d i).natAbs * Z4 (d :: z.take i) := by
    conv => lhs; rw [← h]
    rw [Int.natAbs_mul]; simp
  rw [this]
  exact Nat.le_mul_of_pos_right _ (Nat.pos_of_ne_zero h0)
end Orr

namespace Orr
open Go Go.Proofs
set_option maxRecDepth 10000
abbrev cl4 (k : Crv) : List LV := [pl k.x,pl k.y,sg k.d,mg k.d]
abbrev rcl (c : Crv) : List LV := [rp (Mt c.x c.d),rp (Mt c.y c.d)] ++ cl4 c
def rpt (p : Pt) : List LV := rcl p.c ++ [.int .i64 p.id]
def Q3 (l : List Pt) : List (List LV) := l.map rpt
structure Rs (k : Crv) : Prop where
  n : Nml k
  c : Cs 100000 16 k
theorem Rs.d0 {k : Crv} (h : Rs k) : 0 < k.d := h.n.2.2.1
theorem Qjv {x : List Int} {d : Int} {s : Nat} (hx : Bd s x) (hd : Qm d ≤ s) (h1 : 1 ≤ s) : Rb s (Mt x d) := fun q hq => by
  obtain ⟨z,hz,rfl⟩ := List.mem_map.1 hq
  rw [Hq]
  exact Qs.divInt (hx z hz) hd h1
theorem I9 {x : List Int} {d : Int} (tx : Qj x) (hd : d ≠ 0) : Vc (Mt x d) (d : Rat) = zp x := by
  have hd' : (d : Rat) ≠ 0 := fun e => hd (by exact_mod_cast e)
  unfold Vc
  rw [E4 (g := fun i => x.getD i 0) _ fun i _ => ?_,Fs,Is,Kr,tx]
  rw [Qv4]; grind
theorem Qe2 {p : List Rat} {c : Int} (hp : Rb 40000000 p) (hc : Qm c ≤ 40000000) (hl : p.length ≤ 1000000) : Qc Tryz.prog 278 [.one (rp p),.agg (ri c)] [.one (rp (Vc p (c : Rat)))] :=
  w tt Tryz.func278 rfl [.c [] (Ue (n := 1) (by decide)),.c [] (Vd (n := c)),.c [] (Gh (p := p) (c := (c : Rat)) hp (Uc hc (by omega)) hl)] rfl rfl trivial
theorem Q0t (x y : List Int) (d : Int) : Xe (Mt x d) ++ Xe (Mt y d) = Xe (Mt (x ++ y) d) := by simp [Mt,Xe]
theorem Bj {z : List Int} {d : Int} {i : Nat} (h : i < z.length) : (Mt z d)[i]? = some (((z.getD i 0 : Int) : Rat) / (d : Rat)) := Q0u (getD_some h)
theorem Or (a b : Int) (hb : b ≠ 0) {s : Nat} (h : Qm b ≤ s) : Qm ((Int.gcd a b : Nat) : Int) ≤ s := by
  refine Nat.le_trans (Xv ?_) h
  simp only [Int.natAbs_natCast]
  exact Nat.le_of_dvd (by omega) (by simpa using Int.natAbs_dvd_natAbs.2 (Int.gcd_dvd_right a b))
theorem Qzl (a b : Int) : (a * b) % ((Int.gcd a b : Nat) : Int) = 0 := Int.emod_eq_zero_of_dvd (Int.dvd_trans (Int.gcd_dvd_left ..) (Int.dvd_mul_right a b))
theorem Qac {k : Crv} (hs : Rs k) : Qc Tryz.prog 247 [.one (rp (Mt k.x k.d)),.one (rp (Mt k.y k.d))] [.agg (rcl k)] := by
  have hlx := hs.c.lx
  have hly := hs.c.ly
  have hds := hs.c.d
  have hxy : Bd 100000 (k.x ++ k.y) := fun z hz => by rcases List.mem_append.1 hz with h | h; exact hs.c.x z h; exact hs.c.y z h
  have hfx : (Xe (Mt k.x k.d)).length = k.x.length := by rw [Jf,Fs]
  have hfy : (Xe (Mt k.y k.d)).length = k.y.length := by rw [Jf,Fs]
  have hfl : (Xe (Mt (k.x ++ k.y) k.d)).length = k.x.length + k.y.length := by rw [Jf,Fs,List.length_append]
  have hd0 := hs.d0
  refine Z6 Tryz.func247 rfl ?_
  refine go tt [.c [] (Ue (n := 1) (by decide)),.s (sz := 4) (Cw _),.s (sz := 4) (Cw _)] rfl (by simp [Qa,hfx,hfy]; omega) ?_
  rw [Q0t]
  refine lp (S := Nat) 3 (fun L1 i => (15,.v (.one (.int .i64 (i : Int)))) :: L1) (fun i => [.blk 110 [.nils,.nils,.nils,.nils,.bool false,.nils],.blk 47 (ri (lcd (k.x ++ k.y) k.d i)),.row false 49 4 (Xe (Mt (k.x ++ k.y) k.d))]) (fun i => k.x.length + k.y.length - i) (fun i => i ≤ k.x.length + k.y.length) 0 (Nat.zero_le _) rfl (fun _ _ => rfl) rfl fun i hi => ?_
  have hll : (k.x ++ k.y).length = k.x.length + k.y.length := List.length_append
  by_cases h : i < k.x.length + k.y.length
  · have hlt : i < (k.x ++ k.y).length := by omega
    have hqe := Qjv (x := (k.x ++ k.y)) (d := k.d) (s := 100000) hxy hs.c.d (by decide)
    have hqi := hqe.get (Bj hlt)
    obtain ⟨D,hD⟩ : ∃ D,D = ((((k.x ++ k.y).getD i 0 : Int) : Rat) / (k.d : Rat)) := ⟨_,rfl⟩
    have hg := U4 (Bj (d := k.d) hlt)
    have es : lcd (k.x ++ k.y) k.d (i + 1) = lcd (k.x ++ k.y) k.d i * (D.den : Int) / ((Int.gcd (lcd (k.x ++ k.y) k.d i) (D.den : Int) : Nat) : Int) := by rw [hD]; rfl
    rw [← hD] at hqi hg
    have hq2 := hqi.2
    have hli := Nat.le_trans (Qzm (z := (k.x ++ k.y)) hs.d0 (i := i) (by omega)) hs.c.d
    have hg0 : ((Int.gcd (lcd (k.x ++ k.y) k.d i) (D.den : Int) : Nat) : Int) ≠ 0 := by have := Int.gcd_ne_zero_right (a := (lcd (k.x ++ k.y) k.d i)) (K9 D); omega
    have hmu := Qz (lcd (k.x ++ k.y) k.d i) (D.den : Int)
    refine go tt [.t (decide_eq_true (by omega)),.i i,.x hg,.c [] (Yg (a := lcd (k.x ++ k.y) k.d i) (b := (D.den : Int)) (by omega) (by omega)),.i i,.x hg,.c [] (Ai (a := lcd (k.x ++ k.y) k.d i) (b := (D.den : Int)) (by omega) (by omega)),.c [] (Cg (by omega) (Nat.le_trans (Or _ _ (K9 D) hq2) (by decide)) hg0 (Qzl _ _))] rfl (by simp [Qa,hfl]; omega) ?_
    exact rd (i + 1) (by omega) h (by rw [es]; rfl)
  have e : lcd (k.x ++ k.y) k.d i = k.d := by rw [show i = (k.x ++ k.y).length by omega]; exact Qzk hs.d0 hs.n.2.2.2
  rw [e]
  have hx := Qe2 (p := Mt k.x k.d) (c := k.d) ((Qjv (s := 100000) hs.c.x hs.c.d (by decide)).mono (by omega)) (by omega) (by rw [Fs]; omega)
  have hy := Qe2 (p := Mt k.y k.d) (c := k.d) ((Qjv (s := 100000) hs.c.y hs.c.d (by decide)).mono (by omega)) (by omega) (by rw [Fs]; omega)
  rw [I9 hs.n.1 (by omega)] at hx
  rw [I9 hs.n.2.1 (by omega)] at hy
  exact en tt [.f (decide_eq_false (by omega)),.c [] hx,.c [] (Q11 (p := k.x) (Qd hs.c.x (by omega)) (by omega)),.c [] hy,.c [] (Q11 (p := k.y) (Qd hs.c.y (by omega)) (by omega)),.c [] (Qri (z := k.d) (by omega))] rfl rfl trivial
theorem Qdx (k : Crv) : Zi 1 k.d' = ((1 : Int) : Rat) / (k.d' : Rat) := by
  unfold Zi; rw [if_neg k.d'_ne,Hq]
theorem Lh {x : List Int} {g d : Int} (hg : g ≠ 0) (hd : d ≠ 0) (hgd : g ∣ d) (tx : Qj x) (hx : ∀ z ∈ x,g ∣ z) : Vc (zp x) (((1 : Int) : Rat) / (d : Rat)) = Mt (trim (x.map (· / g))) (d / g) := by
  have ht : Qj (x.map (· / g)) := Fd tx hg hx
  rw [show trim (x.map (· / g)) = x.map (· / g) from ht]
  obtain ⟨e,rfl⟩ := hgd
  have he : e ≠ 0 := fun h => hd (by rw [h,Int.mul_zero])
  rw [Int.mul_ediv_cancel_left _ hg]
  have hgq : (g : Rat) ≠ 0 := fun h => hg (by exact_mod_cast h)
  have heq : (e : Rat) ≠ 0 := fun h => he (by exact_mod_cast h)
  unfold Vc
  rw [Ya]
  have hval : ∀ i,i < x.length → (zp x).getD i 0 * (((1 : Int) : Rat) / ((g * e : Int) : Rat)) = (((x.map (· / g)).getD i 0 : Int) : Rat) / (e : Rat) := fun i hi => by
    rw [B5]
    have hz := getD_some hi
    have hm : (x.map (· / g)).getD i 0 = x.getD i 0 / g := by simp [List.getD_eq_getElem?_getD,List.getElem?_eq_getElem hi]
    obtain ⟨w,hw⟩ := hx _ (List.mem_of_getElem? hz)
    rw [hm,hw,Int.mul_ediv_cancel_left _ hg,Rat.intCast_mul,Rat.intCast_mul]
    have : ((1 : Int) : Rat) = 1 := rfl
    rw [this]
    grind
  have htab : Rg (fun i => (zp x).getD i 0 * (((1 : Int) : Rat) / ((g * e : Int) : Rat))) x.length = Mt (x.map (· / g)) e := by
    apply List.ext_getElem?
    intro i
    by_cases hi : i < x.length
    · rw [Bj (by simpa using hi)]
      simp only [Rg,List.getElem?_map,List.getElem?_range hi,Option.map_some]
      rw [hval i hi]
    · rw [List.getElem?_eq_none (by rw [Bp]; omega),List.getElem?_eq_none (by rw [Fs]; simp; omega)]
  rw [htab]
  rcases Nat.eq_zero_or_pos x.length with h0 | h0
  · have := List.eq_nil_of_length_eq_zero h0; subst this; rfl
  · have hl : (Mt (x.map (· / g)) e).length = x.length := by rw [Fs,List.length_map]
    have := Do (l := Mt (x.map (· / g)) e) (m := x.length) (by omega) (fun j y hj hy => by rw [List.getElem?_eq_none (by omega)] at hy; cases hy) (fun _ => ⟨_,Bj (z := x.map (· / g)) (d := e) (i := x.length - 1) (by rw [List.length_map]; omega),fun h => by
      have h3 : (((x.map (· / g)).getD (x.length - 1) 0 : Int) : Rat) = 0 := by grind
      have h4 : (x.map (· / g)).getD (x.length - 1) 0 = 0 := by exact_mod_cast h3
      have := Xw ht (by rw [List.length_map]; omega)
      rw [List.length_map] at this
      exact this h4⟩)
    rw [this,List.take_of_length_le (by omega)]
theorem Qvm {k : Crv} (hk : Cs 100000 16 k) : Qs 40000000 (Zi 1 k.d') := by
  have h1 := Qc4 hk.d (by decide)
  rw [Qdx,Hq]
  exact Qs.divInt (by decide) (by omega) (by decide)
theorem Crv.g_dvd' (k : Crv) {z : Int} (h : z ∈ k.d' :: (trim k.x ++ trim k.y)) : k.g ∣ z := Int.dvd_of_emod_eq_zero (k.g_dvd z h)
theorem Qvy (k : Crv) : Vc (zp (trim k.x)) (Zi 1 k.d') = Mt k.norm.x k.norm.d := by
  rw [Qdx]
  exact Lh k.g_ne k.d'_ne (k.g_dvd' (by simp)) (Xk _) (fun z hz => k.g_dvd' (by simp [hz]))
theorem Qvz (k : Crv) : Vc (zp (trim k.y)) (Zi 1 k.d') = Mt k.norm.y k.norm.d := by
  rw [Qdx]
  exact Lh k.g_ne k.d'_ne (k.g_dvd' (by simp)) (Xk _) (fun z hz => k.g_dvd' (by simp [hz]))
theorem Qnk {k : Crv} (h : Cs 100000 16 k) : Rs k.norm := ⟨k.nml,h.norm (by decide)⟩
theorem Qyn {k : Crv} (hk : Cs 100000 16 k) : Qc Tryz.prog 205 [.agg (cl4 k)] [.agg (rcl (Crv.norm k))] := by
  have hlx := hk.lx
  have hly := hk.ly
  have hkd := hk.d
  have hrq := Qvm hk
  have hdi : Qm k.d' ≤ 100000 := Qc4 hk.d (by decide)
  have hx := Gh (p := zp (trim k.x)) (c := Zi 1 k.d') (Pw (Qd (X8 hk.x) (by omega)) (by omega)) hrq (by rw [Ya]; have := Xa k.x; omega)
  have hy := Gh (p := zp (trim k.y)) (c := Zi 1 k.d') (Pw (Qd (X8 hk.y) (by omega)) (by omega)) hrq (by rw [Ya]; have := Xa k.y; omega)
  rw [Qvy] at hx
  rw [Qvz] at hy
  have c1 := Ue (n := 1) (by decide)
  have cm := My (a := 1) (b := k.d') (by decide) (by omega)
  by_cases h0 : k.d = 0
  · have e : k.d' = 1 := by unfold Crv.d'; rw [if_pos h0]
    rw [e] at hx hy cm
    exact w tt Tryz.func205 rfl [.c [] (Qca (z := k.d) (by omega)),.c [] Vk,.t (decide_eq_true h0),.c [] c1,.c [] c1,.c [] cm,.c [] (So (p := k.x) (Qd hk.x (by omega)) (by omega)),.c [] hx,.c [] (So (p := k.y) (Qd hk.y (by omega)) (by omega)),.c [] hy,.c [] (Qac (Qnk hk))] rfl rfl trivial
  · have e : k.d' = k.d := by unfold Crv.d'; rw [if_neg h0]
    rw [e] at hx hy cm
    exact w tt Tryz.func205 rfl [.c [] (Qca (z := k.d) (by omega)),.c [] Vk,.f (decide_eq_false h0),.c [] c1,.c [] cm,.c [] (So (p := k.x) (Qd hk.x (by omega)) (by omega)),.c [] hx,.c [] (So (p := k.y) (Qd hk.y (by omega)) (by omega)),.c [] hy,.c [] (Qac (Qnk hk))] rfl rfl trivial
theorem Qr7 {k : Crv} {id : Int} (hk : Cs 100000 16 k) : Qc Tryz.prog 146 [.agg (cl4 k ++ [.int .i64 id])] [.agg (rpt ⟨Crv.norm k,id⟩)] :=
  w tt Tryz.func146 rfl [.c [] (Qyn hk)] rfl rfl trivial
theorem Qcl {k : Crv} (hk : Rs k) : Qc Tryz.prog 328 [.agg (rcl k)] [.one (rp (zp k.x)),.one (rp (zp k.y)),.one (rp (zp [k.d]))] := by
  have hlx := hk.c.lx
  have hly := hk.c.ly
  have hkd := hk.c.d
  have hx := So (p := k.x) (Qd hk.c.x (by omega)) (by omega)
  have hy := So (p := k.y) (Qd hk.c.y (by omega)) (by omega)
  rw [show trim k.x = k.x from hk.n.1] at hx
  rw [show trim k.y = k.y from hk.n.2.1] at hy
  exact w tt Tryz.func328 rfl [.c [] (Qca (z := k.d) (by omega)),.c [] (Ue (n := 1) (by decide)),.c [] (Vd (n := k.d)),.c [] hx,.c [] hy] rfl rfl trivial
theorem Qjg {p : List Int} {d : Int} (tp : Qj p) (hd : d ≠ 0) : Zl p [d] = Qu p d := by
  refine Ry (Zw _ _) (Q8 _ _) fun m => ?_
  unfold Qu
  rw [J3]
  unfold Zl
  by_cases h0 : p.length = 0
  · rw [if_pos (.inl h0),if_neg (by omega)]; rfl
  · rw [if_neg (by simp; exact fun h => h0 (by rw [h]; rfl)),Uv]
    show (Ke p [d] (List.replicate (p.length + 1 - 1) 0) p.length).getD m 0 = _
    have key : ∀ i,i ≤ p.length → (Ke p [d] (List.replicate (p.length + 1 - 1) 0) i).getD m 0 = if m < i then p.getD m 0 * d else 0 := by
      intro i
      induction i with
      | zero => intro _; simp only [Ke]; rw [Jp,if_neg (by omega)]
      |
       succ i ih =>
       intro hi
       simp only [Ke]
       rw [Db _ _ _ _ _ _ (by rw [Kf,List.length_replicate]; show i + 1 ≤ _; omega),ih (by omega)]
       show (if i ≤ m ∧ m < i + 1 then (if m < i then p.getD m 0 * d else 0) + p.getD i 0 * [d].getD (m - i) 0 else _) = _
       by_cases e : m = i
       · subst e
         rw [if_pos ⟨Nat.le_refl _,by omega⟩,if_neg (by omega),if_pos (by omega),Nat.sub_self]
         show 0 + p.getD m 0 * d = _
         omega
       · rw [if_neg (by omega)]
         by_cases h1 : m < i
         · rw [if_pos h1,if_pos (by omega)]
         · rw [if_neg h1,if_neg (by omega)]
    rw [key _ (Nat.le_refl _)]
theorem Q9f {s : Nat} {d : Int} (h : Qm d ≤ s) : Bd s [d] := fun z hz => by simp at hz; subst hz; exact h
theorem Qci {p : List Int} {d : Int} (tp : Qj p) (hd : d ≠ 0) (hp : Bd 9000000 p) (hs : Qm d ≤ 9000000) (hl : p.length ≤ 1000) : Qc Tryz.prog 283 [.one (rp (zp p)),.one (rp (zp [d]))] [.one (rp (zp (Qu p d)))] := by
  have h := Qr3 (p := p) (q := [d]) (by omega) (by show 1 ≤ 1000000; decide) hp (Q9f hs) (by decide)
  rwa [Qjg tp hd] at h
theorem Rs.dn {k : Crv} (h : Rs k) : k.d ≠ 0 := by have := h.d0; omega
theorem Qlc {p q : List Int} (hp : Bd 19000000 p) (hq : Bd 19000000 q) (hlp : p.length ≤ 1000000) (hlq : q.length ≤ 1000000) : Qc Tryz.prog 208 [.one (rp (zp p)),.one (rp (zp q))] [.one (rp (zp (Vr p q)))] := by
  have h := Q3n (Pw hp (by decide)) (Pw hq (by decide)) (by rw [Ya]; exact hlp) (by rw [Ya]; exact hlq)
  rwa [Qnl] at h
theorem Rq {a b : Crv} (ha : Rs a) (hb : Rs b) : Qc Tryz.prog 323 [.agg (rcl a),.agg (rcl b)] [.one (rp (zp (Yk a b)))] :=
  w tt Tryz.func323 rfl [.c [] (Qcl ha),.c [] (Qcl hb),.c [] (Qci (p := b.x) (d := a.d) hb.n.1 ha.dn (Qd hb.c.x (by decide)) (Nat.le_trans ha.c.d (by decide)) (by have := hb.c.lx; omega)),.c [] (Qci (p := a.x) (d := b.d) ha.n.1 hb.dn (Qd ha.c.x (by decide)) (Nat.le_trans hb.c.d (by decide)) (by have := ha.c.lx; omega)),.c [] (Qlc (p := Qu b.x a.d) (q := Qu a.x b.d) (Qd (Zj hb.c.x ha.c.d) (by decide)) (Qd (Zj ha.c.x hb.c.d) (by decide)) (by have := Q6 b.x a.d; have := hb.c.lx; omega) (by have := Q6 a.x b.d; have := ha.c.lx; omega))] rfl rfl trivial
theorem Al {a b : Crv} (ha : Rs a) (hb : Rs b) : Qc Tryz.prog 324 [.agg (rcl a),.agg (rcl b)] [.one (rp (zp (Vq a b)))] :=
  w tt Tryz.func324 rfl [.c [] (Qcl ha),.c [] (Qcl hb),.c [] (Qci (p := b.y) (d := a.d) hb.n.2.1 ha.dn (Qd hb.c.y (by decide)) (Nat.le_trans ha.c.d (by decide)) (by have := hb.c.ly; omega)),.c [] (Qci (p := a.y) (d := b.d) ha.n.2.1 hb.dn (Qd ha.c.y (by decide)) (Nat.le_trans hb.c.d (by decide)) (by have := ha.c.ly; omega)),.c [] (Qlc (p := Qu b.y a.d) (q := Qu a.y b.d) (Qd (Zj hb.c.y ha.c.d) (by decide)) (Qd (Zj ha.c.y hb.c.d) (by decide)) (by have := Q6 b.y a.d; have := hb.c.ly; omega) (by have := Q6 a.y b.d; have := ha.c.ly; omega))] rfl rfl trivial
theorem S0 {a b : Crv} (ha : Rs a) (hb : Rs b) : Bd 200001 (Yk a b) ∧ (Yk a b).length ≤ 16 := by
  refine ⟨Qd (Sn (Zj hb.c.x ha.c.d) (Zj ha.c.x hb.c.d)) (by omega),Nat.le_trans (Gt _ _) ?_⟩
  have := Q6 b.x a.d; have := Q6 a.x b.d; have := ha.c.lx; have := hb.c.lx; omega
theorem Sz {a b : Crv} (ha : Rs a) (hb : Rs b) : Bd 200001 (Vq a b) ∧ (Vq a b).length ≤ 16 := by
  refine ⟨Qd (Sn (Zj hb.c.y ha.c.d) (Zj ha.c.y hb.c.d)) (by omega),Nat.le_trans (Gt _ _) ?_⟩
  have := Q6 b.y a.d; have := Q6 a.y b.d; have := ha.c.ly; have := hb.c.ly; omega
end Orr

namespace Orr
open Go
structure RawInt where
  b : Bool
  l : List Nat
structure RawPt where
  x : List RawInt
  y : List RawInt
  d : RawInt
  id : Int
abbrev Dl (z : RawInt) : List LV := [.bool z.b,Q5h z.l]
structure RawInt.Ok (z : RawInt) : Prop where
  u : ∀ u ∈ z.l,u < 4294967296
structure RawPt.Ok (z : RawPt) : Prop where
  x : ∀ a ∈ z.x,a.Ok
  y : ∀ a ∈ z.y,a.Ok
  d : z.d.Ok
  id : -9223372036854775808 ≤ z.id ∧ z.id ≤ 9223372036854775807
def RawInt.cut (z : RawInt) : RawInt := ⟨z.b,z.l.take 1⟩
def X5 (most : Int) (z : RawInt) : Int := match z.l with
  | [] => 0
  | u :: _ => if z.b = true then -((u : Int) % (most + 1)) else (u : Int) % (most + 1)
theorem Ma {most : Int} (h : 0 ≤ most) (z : RawInt) : -most ≤ X5 most z ∧ X5 most z ≤ most := by
  unfold X5
  split
  · omega
  · rename_i u _ _
    have h1 := Int.emod_nonneg (u : Int) (b := most + 1) (by omega)
    have h2 := Int.emod_lt_of_pos (u : Int) (b := most + 1) (by omega)
    split <;> omega
def Zz (most : Int) (l : List RawInt) : List Int := (l.take 3).map (X5 most)
def Nk (most : Int) (x y : List RawInt) (d : RawInt) : Crv := ⟨Zz most x,Zz most y,X5 3 d⟩
def Sw (most : Int) (z : RawPt) : Pt := ⟨Nk most z.x z.y z.d,z.id % 1000⟩
theorem D8 (most : Int) (l : List RawInt) : (Zz most l).length ≤ 3 := by unfold Zz; rw [List.length_map,List.length_take]; omega
theorem Qdb {most : Int} {l : List RawInt} {i : Nat} {z : RawInt} (hi : i < 3) (h : l[i]? = some z) : Zz most (l.take (i + 1)) = Zz most (l.take i) ++ [X5 most z] := by
  unfold Zz
  rw [List.take_take,List.take_take,Nat.min_eq_right (by omega),Nat.min_eq_right (by omega),List.take_succ,h]
  simp
theorem D7 (most : Int) {l : List RawInt} {i : Nat} (h : l.length ≤ i ∨ 3 ≤ i) : Zz most (l.take i) = Zz most l := by
  unfold Zz
  rw [List.take_take]
  rcases Nat.le_total 3 i with h3 | h3
  · rw [Nat.min_eq_left h3]
  · rcases h with h | h
    · rw [Nat.min_eq_right h3,List.take_of_length_le (l := l) (i := i) (by omega),List.take_of_length_le (l := l) (i := 3) (by omega)]
    · rw [Nat.min_eq_right h3,show i = 3 by omega]
theorem D9 {most : Int} {l : List RawInt} {z : Int} (hm : 0 ≤ most) (h : z ∈ Zz most l) : -most ≤ z ∧ z ≤ most := by
  obtain ⟨a,_,rfl⟩ := List.mem_map.1 h
  exact Ma hm a
theorem Qaf {most : Int} (hm : 0 ≤ most ∧ most ≤ 999) (x y : List RawInt) (d : RawInt) : Cs 10 3 (Nk most x y d) := by
  have key : ∀ z : Int,-999 ≤ z ∧ z ≤ 999 → Qm z ≤ 10 := fun z h => Jq.2 (by omega)
  refine ⟨fun z hz => ?_,fun z hz => ?_,?_,D8 _ _,D8 _ _⟩
  · have := D9 hm.1 hz; exact key _ (by omega)
  · have := D9 hm.1 hz; exact key _ (by omega)
  · have := Ma (most := 3) (by decide) d
    show Qm (X5 3 d) ≤ 10
    exact key _ (by omega)
def Yc (n : Nat) : List Pt → List Pt → List Pt
  | out,[] => out
  | out,p :: l => if out.length < n then (if out.any (fun x => decide (x.id = p.id)) = true then Yc n out l else Yc n (out ++ [p]) l) else out
theorem Hw {n : Nat} : ∀ (l out : List Pt) (p : Pt),(Yc n out l).length < n → (Yc n out l).any (fun x => decide (x.id = p.id)) = true → Yc n out (l ++ [p]) = Yc n out l
  |
   [],out,p,h,ha => by
   simp only [Yc] at h ha
   show Yc n out [p] = out
   simp only [Yc]
   rw [if_pos h,if_pos ha]
  |
   x :: l,out,p,h,ha => by
   show Yc n out (x :: (l ++ [p])) = Yc n out (x :: l)
   simp only [Yc] at h ha ⊢
   split
   · rename_i h0
     rw [if_pos h0] at h ha
     split
     · rename_i h1
       rw [if_pos h1] at h ha
       exact Hw l out p h ha
     · rename_i h1
       rw [if_neg h1] at h ha
       exact Hw l _ p h ha
   · rfl
theorem Fw {n : Nat} : ∀ (l out : List Pt) (p : Pt),(Yc n out l).length < n → (Yc n out l).any (fun x => decide (x.id = p.id)) = false → Yc n out (l ++ [p]) = Yc n out l ++ [p]
  |
   [],out,p,h,ha => by
   simp only [Yc] at h ha
   show Yc n out [p] = out ++ [p]
   simp only [Yc]
   rw [if_pos h,if_neg (by rw [ha]; simp)]
  |
   x :: l,out,p,h,ha => by
   show Yc n out (x :: (l ++ [p])) = Yc n out (x :: l) ++ [p]
   simp only [Yc] at h ha ⊢
   split
   · rename_i h0
     rw [if_pos h0] at h ha
     split
     · rename_i h1
       rw [if_pos h1] at h ha
       exact Fw l out p h ha
     · rename_i h1
       rw [if_neg h1] at h ha
       exact Fw l _ p h ha
   · rename_i h0
     rw [if_neg h0] at h
     omega
theorem Cy {n : Nat} : ∀ (l m out : List Pt),n ≤ (Yc n out l).length → Yc n out (l ++ m) = Yc n out l
  |
   [],m,out,h => by
   simp only [Yc] at h
   show Yc n out m = out
   match m with
   | [] => rfl
   | p :: m => simp only [Yc]; rw [if_neg (by omega)]
  |
   x :: l,m,out,h => by
   show Yc n out (x :: (l ++ m)) = Yc n out (x :: l)
   simp only [Yc] at h ⊢
   split
   · rename_i h0
     rw [if_pos h0] at h
     split
     · rename_i h1
       rw [if_pos h1] at h
       exact Cy l m out h
     · rename_i h1
       rw [if_neg h1] at h
       exact Cy l m _ h
   · rfl
theorem Tc {n : Nat} : ∀ (l out : List Pt),out.length ≤ n → (Yc n out l).length ≤ n
  | [],out,h => h
  |
   x :: l,out,h => by
   simp only [Yc]
   split
   · split
     · exact Tc l out h
     · exact Tc l _ (by rw [List.length_append]; show _ + 1 ≤ _; omega)
   · exact h
theorem Nc {n : Nat} : ∀ (l out : List Pt) {p : Pt},p ∈ Yc n out l → p ∈ out ∨ p ∈ l
  | [],out,p,h => .inl h
  |
   x :: l,out,p,h => by
   simp only [Yc] at h
   split at h
   · split at h
     · rcases Nc l out h with h | h
       · exact .inl h
       · exact .inr (List.mem_cons_of_mem _ h)
     · rcases Nc l _ h with h | h
       · rcases List.mem_append.1 h with h | h
         · exact .inl h
         · exact .inr (by rw [List.mem_singleton.1 h]; exact List.mem_cons_self ..)
       · exact .inr (List.mem_cons_of_mem _ h)
   · exact .inl h
def Dh (n : Nat) (most : Int) (zs : List RawPt) : List Pt := Yc n [] (zs.map (Sw most))
def Pt.nrm (p : Pt) : Pt := ⟨p.c.norm,p.id⟩
end Orr

namespace Orr
def Wi (l : List Pt) : Prop := l.Pairwise fun a b => a.id < b.id
theorem Qzd (id : Int) : has [] id = false := rfl
theorem Qfu (p : Pt) (l : List Pt) (id : Int) : has (p :: l) id = if p.id < id then has l id else decide (p.id = id) := by
  by_cases h : p.id < id
  · rw [if_pos h]; unfold has; simp only [Om]; rw [if_pos h]; simp
  · rw [if_neg h]; unfold has; simp only [Om]; rw [if_neg h]; simp
theorem Qve (p : Pt) (l : List Pt) (q : Pt) : put (p :: l) q = if p.id < q.id then p :: put l q else q :: p :: l := by
  unfold put
  simp only [Om]
  split <;> simp
theorem Qc2 : ∀ {l : List Pt} {id : Int},Wi l → (has l id = true ↔ ∃ p ∈ l,p.id = id)
  | [],id,_ => by simp [Qzd]
  |
   p :: l,id,h => by
   have h1 := List.pairwise_cons.1 h
   rw [Qfu]
   split
   · rename_i hlt
     rw [Qc2 h1.2]
     constructor
     · rintro ⟨x,hx,e⟩; exact ⟨x,List.mem_cons_of_mem _ hx,e⟩
     · rintro ⟨x,hx,e⟩
       rcases List.mem_cons.1 hx with rfl | hx
       · omega
       · exact ⟨x,hx,e⟩
   · rename_i hge
     rw [decide_eq_true_iff]
     constructor
     · intro e; exact ⟨p,List.mem_cons_self ..,e⟩
     · rintro ⟨x,hx,e⟩
       rcases List.mem_cons.1 hx with rfl | hx
       · exact e
       · have := h1.1 x hx; omega
theorem I6 : ∀ {l : List Pt} {q : Pt},Wi l → has l q.id = false → Wi (put l q)
  | [],q,_,_ => by simp [put,Om,Wi]
  |
   p :: l,q,h,hn => by
   have h1 := List.pairwise_cons.1 h
   rw [Qfu] at hn
   rw [Qve]
   split
   · rename_i hlt
     rw [if_pos hlt] at hn
     refine List.pairwise_cons.2 ⟨fun x hx => ?_,I6 h1.2 hn⟩
     rcases Qne hx with rfl | hx
     · exact hlt
     · exact h1.1 x hx
   · rename_i hge
     rw [if_neg hge,decide_eq_false_iff_not] at hn
     refine List.pairwise_cons.2 ⟨fun x hx => ?_,h⟩
     rcases List.mem_cons.1 hx with rfl | hx
     · omega
     · have := h1.1 x hx; omega
theorem Qmp {l : List Pt} {q p : Pt} (h : p = q ∨ p ∈ l) : p ∈ put l q := by
  unfold put
  rcases h with rfl | h
  · simp
  · rw [← List.take_append_drop (Om l q.id) l] at h
    simp only [List.mem_append,List.mem_cons] at h ⊢
    rcases h with h | h
    · exact .inl h
    · exact .inr (.inr h)
theorem Qvd {l : List Pt} {q : Pt} (h : l.length < 6) : Tz l q = if has l q.id = true then 6 else 0 := by
  unfold Tz
  split
  · rfl
  · rw [if_neg (by omega)]
theorem Qbd : ∀ (qs acc : List Pt), Wi acc → acc.length + qs.length ≤ 6 →
    ((Jr acc qs).2 = 0 ∧ Wi (Jr acc qs).1 ∧ (Jr acc qs).1.length = acc.length + qs.length ∧ qs.Pairwise (fun a b => a.id ≠ b.id) ∧ ∀ q ∈ qs,∀ p ∈ acc,p.id ≠ q.id) ∨
    ((Jr acc qs).2 = 6 ∧ ¬ (qs.Pairwise (fun a b => a.id ≠ b.id) ∧ ∀ q ∈ qs,∀ p ∈ acc,p.id ≠ q.id))
  | [],acc,hs,_ => .inl ⟨rfl,hs,rfl,List.Pairwise.nil,fun _ h => absurd h (by simp)⟩
  |
   q :: qs,acc,hs,hl => by
   simp only [List.length_cons] at hl
   have he := Qvd (l := acc) (q := q) (by omega)
   simp only [Jr]
   cases hh : has acc q.id with
   |
    true =>
    rw [hh,if_pos rfl] at he
    rw [he,if_neg (by decide)]
    obtain ⟨p,hp,e⟩ := (Qc2 hs).1 hh
    exact .inr ⟨rfl,fun h => h.2 q (List.mem_cons_self ..) p hp e⟩
   |
    false =>
    rw [hh,if_neg (by decide)] at he
    rw [he,if_pos rfl]
    have hno : ∀ p ∈ acc,p.id ≠ q.id := fun p hp e => by
      have := (Qc2 hs).2 ⟨p,hp,e⟩
      rw [hh] at this; cases this
    have hpl := Qnd acc q
    rcases Qbd qs (put acc q) (I6 hs hh) (by omega) with ⟨h1,h2,h3,h4,h5⟩ | ⟨h1,h2⟩
    · refine .inl ⟨h1,h2,by simp only [List.length_cons]; omega,List.pairwise_cons.2 ⟨fun x hx => h5 x hx q (Qmp (.inl rfl)),h4⟩,fun x hx p hp => ?_⟩
      rcases List.mem_cons.1 hx with rfl | hx
      · exact hno p hp
      · exact h5 x hx p (Qmp (.inr hp))
    · refine .inr ⟨h1,fun h => h2 ⟨(List.pairwise_cons.1 h.1).2,fun x hx p hp => ?_⟩⟩
      rcases Qne hp with rfl | hp
      · exact (List.pairwise_cons.1 h.1).1 x hx
      · exact h.2 x (List.mem_cons_of_mem _ hx) p hp
theorem Qph {qs : List Pt} (hl : qs.length ≤ 6) :
    ((Jr [] qs).2 = 0 ∧ Wi (Jr [] qs).1 ∧ (Jr [] qs).1.length = qs.length ∧ qs.Pairwise (fun a b => a.id ≠ b.id)) ∨ ((Jr [] qs).2 = 6 ∧ ¬ qs.Pairwise (fun a b => a.id ≠ b.id)) := by
  rcases Qbd qs [] List.Pairwise.nil (by simpa using hl) with ⟨h1,h2,h3,h4,_⟩ | ⟨h1,h2⟩
  · exact .inl ⟨h1,h2,by simpa using h3,h4⟩
  · exact .inr ⟨h1,fun h => h2 ⟨h,fun _ _ _ hp => absurd hp (by simp)⟩⟩
end Orr

namespace Orq
open Orr Go
open Classical in
noncomputable def mu (T : List Tm) (a : Tm) : Nat := (T.filter fun t => decide (Lp a t)).length
open Classical in
def tms (p : List Int) : List Tm := (Mn p).getD []
structure KInv (c : Cr) : Prop where
  ok : CrOk c
  k : ∀ w ∈ c.l,w.known = true → O9 w.c.p c.now w.fails ∧ ∀ t,w.fails = some t → t ∈ tms w.c.p
structure Stab {β : Type} (Bc : Tm → List Ct) (Br : Tm → β) : Prop where
  ok : BuildOk Bc
  fin : ∃ Ps : List (List Int),(∀ p ∈ Ps,Cp p) ∧ ∀ a,Va a → ∀ x ∈ Bc a,x.p ∈ Ps
  st : ∀ a b,Va a → Va b → (∀ x ∈ Bc a,Qo8 (Ll b) x.p = Qo8 (Ll a) x.p) → Bc b = Bc a ∧ Br b = Br a
structure KSt {β : Type} (Bc : Tm → List Ct) (Br : Tm → β) (c : Cr) (r1 : β) : Prop where
  inv : KInv c
  cs : c.l.map (·.c) = Xu (Bc c.now)
  r : r1 = Br c.now
inductive Evs (Bc : Tm → List Ct) (t : Rat) : Tm → List Tm → Prop
  | nil {a : Tm} (h : ∀ x ∈ Bc a,∃ o,O9 x.p a o ∧ ∀ u,o = some u → Lp (tq t) u) : Evs Bc t a []
  | cons {a e : Tm} {E : List Tm} (he : Va e) (h1 : Lp a e) (h2 : ¬ Lp (tq t) e) (h3 : ∀ x ∈ Bc a,∃ o,O9 x.p a o ∧ ∀ u,o = some u → ¬ Lp u e) (h4 : ∃ x ∈ Bc a,O9 x.p a (some e)) (h5 : Evs Bc t e E) : Evs Bc t a (e :: E)
end Orq

namespace Orq
open Orr Go
section Srt
variable {α : Type} {lt : α → α → Bool} {R : α → α → Prop}
theorem Qbj {out : List α} {x : α} : ∀ k,k ≤ out.length → (∀ j y,Jy lt out x k ≤ j → j < k → out[j]? = some y → lt x y = true) ∧ (0 < Jy lt out x k → ∃ y,out[Jy lt out x k - 1]? = some y ∧ lt x y = false)
  | 0,_ => ⟨fun j y _ h => by omega,fun h => by simp [Jy] at h⟩
  |
   k + 1,hk => by
   obtain ⟨y,hy⟩ : ∃ y,out[k]? = some y := ⟨_,List.getElem?_eq_getElem (by omega)⟩
   by_cases h : lt x y = true
   · rw [Nv hy h]
     obtain ⟨h1,h2⟩ := Qbj (out := out) (x := x) k (by omega)
     refine ⟨fun j z a1 a2 a3 => ?_,h2⟩
     by_cases e : j = k
     · subst e; rw [hy] at a3; injection a3 with a3; subst a3; exact h
     · exact h1 j z a1 (by omega) a3
   · have h : lt x y = false := by simpa using h
     rw [Tu hy h]
     exact ⟨fun j z a1 a2 _ => by omega,fun _ => ⟨y,by simpa using hy,h⟩⟩
theorem Qzh (tr : ∀ x y z,R x y → R y z → R x z) {out : List α} {x : α} (ho : out.Pairwise R) (h1 : ∀ y ∈ out,lt x y = true → R x y) (h2 : ∀ y ∈ out,lt x y = false → R y x) : (Kt lt out x).Pairwise R := by
  obtain ⟨s1,s2⟩ := Qbj (lt := lt) (out := out) (x := x) out.length (Nat.le_refl _)
  have hle := Qdr lt out x out.length
  unfold Kt
  obtain ⟨k,hk⟩ : ∃ k,k = Jy lt out x out.length := ⟨_,rfl⟩
  rw [← hk] at s1 s2 hle ⊢
  have hd : (out.take k ++ out.drop k).Pairwise R := by rw [List.take_append_drop]; exact ho
  obtain ⟨d1,d2,d3⟩ := List.pairwise_append.1 hd
  have hR : ∀ y ∈ out.drop k,R x y := fun y hy => by
    obtain ⟨i,hi⟩ := List.getElem?_of_mem hy
    rw [List.getElem?_drop] at hi
    have : k + i < out.length := (List.getElem?_eq_some_iff.1 hi).1
    exact h1 y (List.mem_of_mem_drop hy) (s1 (k + i) y (by omega) this hi)
  have hL : ∀ y ∈ out.take k,R y x := fun y hy => by
    obtain ⟨i,hi⟩ := List.getElem?_of_mem hy
    have hik : i < k := by have := (List.getElem?_eq_some_iff.1 hi).1; simp at this; omega
    rw [List.getElem?_take_of_lt hik] at hi
    obtain ⟨z,z1,z2⟩ := s2 (by omega)
    have hz := h2 z (List.mem_of_getElem? z1) z2
    by_cases e : i = k - 1
    · subst e; rw [hi] at z1; injection z1 with z1; subst z1; exact hz
    · have hp := List.pairwise_iff_getElem.1 ho i (k - 1) (by omega) (by omega) (by omega)
      obtain ⟨_,e1⟩ := List.getElem?_eq_some_iff.1 hi
      obtain ⟨_,e2⟩ := List.getElem?_eq_some_iff.1 z1
      rw [e1,e2] at hp
      exact tr _ _ _ hp hz
  refine List.pairwise_append.2 ⟨d1,List.pairwise_cons.2 ⟨hR,d2⟩,fun y hy z hz => ?_⟩
  rcases List.mem_cons.1 hz with rfl | hz
  · exact hL y hy
  · exact d3 y hy z hz
theorem foldG_pw (tr : ∀ x y z, R x y → R y z → R x z) {S : α → Prop} (h1 : ∀ x y, S x → S y → lt x y = true → R x y) {D : α → α → Prop} (h2 : ∀ x y, S x → S y → D y x → lt x y = false → R y x) :
    ∀ (l acc : List α),acc.Pairwise R → (∀ x ∈ acc,S x) → (∀ x ∈ l,S x) → l.Pairwise D → (∀ x ∈ acc,∀ y ∈ l,D x y) → (l.foldl (Kt lt) acc).Pairwise R
  | [],acc,ha,_,_,_,_ => ha
  |
   x :: l,acc,ha,hs,hl,hd,hx => by
   rw [List.pairwise_cons] at hd
   refine foldG_pw tr h1 h2 l (Kt lt acc x) ?_ ?_ (fun y hy => hl y (List.mem_cons_of_mem _ hy)) hd.2 ?_
   · exact Qzh tr ha (fun y hy => h1 x y (hl x (by simp)) (hs y hy)) (fun y hy => h2 x y (hl x (by simp)) (hs y hy) (hx y hy x (by simp)))
   · intro y hy
     rcases Ii.1 hy with rfl | hy
     · exact hl _ (by simp)
     · exact hs y hy
   · intro y hy z hz
     rcases Ii.1 hy with rfl | hy
     · exact hd.1 z hz
     · exact hx y hy z (List.mem_cons_of_mem _ hz)
end Srt
def px (p : Pt) (q : Rat) : Rat := Qi p.c.x q / (p.c.d : Rat)
def py (p : Pt) (q : Rat) : Rat := Qi p.c.y q / (p.c.d : Rat)
end Orq
