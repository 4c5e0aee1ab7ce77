/- Regions that draw their order, where the last of the drawn operations is a store. Closures that hold pointers to own blocks: made, and called. Regions that draw their order, with allocations, where the last of the drawn operations stores into what has been allocated. Package det, and what is reckoned by it, told in data. A row in the order just after a time, and its certificates, told in data. A shared row that is full: what is appended makes a new one. Rows that a struct holds: taken as one's own, and given away. -/
import Derived.Test.YtaffmkgbfgjgeaaGreatPart08
import Derived.Test.YtaffmkgbfgjgeaaGreatPart02
set_option linter.all false

namespace Orr
open Go
variable {P : Program} {ops : Array Oper} {n : Nat} {rest : List Oper} {N : Sg → List OB → Prop} {L : Sg} {B : List OB} {d : Nat} {ty : TypeId} {pos : String} {after : Array Edge}
theorem dd_app (D : List Nat) (j : Nat) (h : j < D.length) : dd (D.map some ++ [none]) j = D.getD j 0 ∧ dE (D.map some ++ [none]) j = true := by
  unfold dd dE
  simp [List.getD_eq_getElem?_getD, List.getElem?_append_left, h]
theorem dE_last (D : List Nat) : dE (D.map some ++ [none]) D.length = false := by
  unfold dE
  simp [List.getD_eq_getElem?_getD]
theorem dL_app (D : List Nat) (v : Nat → Value) (js : List Nat) (h : ∀ j ∈ js, j < D.length) : dL (D.map some ++ [none]) v js = js.map fun j => (D.getD j 0, v j) := by
  unfold dL
  have : js.filter (dE (D.map some ++ [none])) = js := List.filter_eq_self.2 fun j hj => (dd_app D j (h j hj)).2
  rw [this]
  exact List.map_congr_left fun j hj => by rw [(dd_app D j (h j hj)).1]
theorem dL_all (D : List Nat) (v : Nat → Value) : dL (D.map some ++ [none]) v (List.range (D.length + 1)) = (List.range D.length).map fun j => (D.getD j 0, v j) := by
  have h := dL_app D v (List.range D.length) fun j hj => List.mem_range.1 hj
  rw [← h]
  unfold dL
  rw [List.range_succ, List.filter_append]
  simp [dE_last]
end Orr

namespace Orr
open Go
section
variable {w : World} {O : Nat → Prop}
end
variable {P : Program} {ops : Array Oper} {n d : Nat} {rest : List Oper} {N : Sg → List OB → Prop} {L : Sg} {B : List OB} {ty : TypeId} {pos : String} {after : Array Edge}
end Orr
namespace Orr
open Go
variable {P : Program} {ops : Array Oper} {n d : Nat} {rest : List Oper} {N : Sg → List OB → Prop} {L : Sg} {B : List OB} {c : Code} {Q : Exit → Sg → List OB → Prop}
theorem SA.swap {K Ob : Nat → Prop} {w0 w : World} {a : Act} {A C : List OB} (h : SA K Ob w0 w a n L (A ++ C)) : SA K Ob w0 w a n L (C ++ A) := by
  obtain ⟨L', Bs, h1, h2, h3⟩ := h
  obtain ⟨Bi, Bq, rfl, h4, h5⟩ := bs_split h3
  have hp : (Bi ++ Bq).Perm (Bq ++ Bi) := List.perm_append_comm
  have ho : owns Ob (Bi ++ Bq) = owns Ob (Bq ++ Bi) := by
    funext b
    simp only [owns]
    rw [show (b ∈ (Bi ++ Bq).map (·.1)) = (b ∈ (Bq ++ Bi).map (·.1)) from propext ((hp.map _).mem_iff)]
  rw [ho] at h2 h4 h5
  exact ⟨L', Bq ++ Bi, h1.perm hp.symm, h2, bs_join h5 h4⟩
end Orr
namespace Orr
open Go
variable {P : Program} {ops : Array Oper} {n d : Nat} {rest : List Oper} {N : Sg → List OB → Prop} {L : Sg} {B : List OB} {c : Code} {Q : Exit → Sg → List OB → Prop}
/-- a slot that is nil is an empty row -/
theorem SA.slotNil {K Ob : Nat → Prop} {w0 w : World} {a : Act} (h : SA K Ob w0 w a n L B) {t : Nat} (ht : lk L t = some (.one .nils)) : SA K Ob w0 w a n ((t, .one (.row [])) :: L) B := by
  obtain ⟨L', Bs, h1, h2, h3⟩ := h
  refine ⟨L', Bs, h1, fun s x hx => ?_, h3⟩
  simp only [lk] at hx
  cases e : Nat.beq s t <;> rw [e] at hx
  · exact h2 s x hx
  · injection hx with hx
    subst hx
    rw [Nat.eq_of_beq_eq_true e]
    obtain ⟨v, hv, hr⟩ := h2 t _ ht
    exact ⟨v, hv, (nils_row (w := w) (O := owns Ob Bs) hr).x⟩
theorem ac_slotNil (t : Nat) (ht : lk L t = some (.one .nils)) (k : AC P n c Q ((t, .one (.row [])) :: L) B) : AC P n c Q L B := fun _ _ _ _ _ hs => k _ _ _ _ _ (hs.slotNil ht)
end Orr

namespace Orr
open Go
variable {P : Program} {ops : Array Oper} {n : Nat} {L : Sg} {B : List OB} {ty : TypeId} {pos : String} {after : Array Edge} {Q : Exit → Sg → List OB → Prop}
theorem upd_whole : ∀ (cs vs : List Value), vs.length = cs.length → upd cs 0 vs = vs
  | [], [], _ => rfl
  | c :: cs, v :: vs, h => by
    simp only [upd]
    rw [upd_whole cs vs (by simpa using h)]
  | [], _ :: _, h => by simp at h
  | _ :: _, [], h => by simp at h
/-- the block that is stored into -/
def hdB (c t j T : Nat) (cs : List Value) (p : Nat → Bool) (v : Nat → Value) : List Blk := if p t = true then [(gOf (v t), T, if p c = true then (v j).cells.toList else cs)] else []
theorem hdB_other {c t j T i : Nat} {cs : List Value} {p : Nat → Bool} {v : Nat → Value} (u : Value) (h1 : i ≠ t) (h2 : i ≠ c) (h3 : p c = true → i ≠ j) : hdB c t j T cs (fun k => k == i || p k) (fun k => if k = i then u else v k) = hdB c t j T cs p v := by
  unfold hdB
  have e1 : (t == i || p t) = p t := by simp [Ne.symm h1]
  have e2 : (c == i || p c) = p c := by simp [Ne.symm h2]
  simp only [e1, e2, if_neg (Ne.symm h1)]
  split
  · congr 3
    split
    · rename_i hc
      rw [if_neg (Ne.symm (h3 hc))]
    · rfl
  · rfl
theorem findA_none : ∀ {A : Made} {i : Nat}, (∀ x ∈ A, x.1 ≠ i) → findA A i = none
  | [], _, _ => rfl
  | x :: A, i, h => by
    simp only [findA]
    have hx := h x (List.mem_cons_self ..)
    have : Nat.beq x.1 i = false := by
      cases e : Nat.beq x.1 i with
      | false => rfl
      | true => exact absurd (Nat.eq_of_beq_eq_true e) hx
    rw [this]
    exact findA_none fun y hy => h y (List.mem_cons_of_mem _ hy)
theorem ac_drawAS {id : Nat} {l : List Oper} (hm : P.follows .mixedOrders = true) (c t j T T0 dp dv : Nat) (cs : List Value) (ys : List LV) (D : List Nat) (deps : List (List Nat)) (us : List AV) (A2 : Made) (zss : List (List LV)) (hchk : chkDraw l (c + 1) (D.map some ++ [none]) deps = true)
    (hDm : (Nat.beq D.length c && Nat.beq us.length c && Nat.blt t c && Nat.blt j c && !(Nat.beq j t) && (findA A2 j).isNone && deps.all fun js => js.all fun j => Nat.blt j c) = true) (hAs : (A2.all fun x => Nat.blt x.1 c) = true) (hnd : (((t, T, cs) :: A2 : Made).map (·.1)).Nodup) (hzl : zlAll A2 zss) (hnone : (D.all fun t => (lk L t).isNone) = true)
    (hdp : ((deps.take c).all fun js => js.all fun k => (findA ((t, T, cs) :: A2) k).isNone) = true) (hjs : (match deps[c]? with
      | some js => js.contains t && js.contains j
      | none => false) = true)
    (ho0 : l[c]? = some { dst := none, op := .store T0 (.tmp dp) (.tmp dv), type := ty, pos := pos, after := after, guard := none }) (hDt : D[t]? = some dp) (hDj : D[j]? = some dv) (hT0 : ∀ w, (Go.sizeOf T0).run P w = .ok cs.length w)
    {uj : AV} (huj0 : us[j]? = some uj) (hul : leaves uj = some ys) (hyl : Nat.beq ys.length cs.length = true)
    (hops : DOps P l.toArray n L B ((t, T, cs) :: A2) D us 0 (depsOf D us deps) (l.take c))
    (k : ∀ g : Nat → Nat, ∃ L2 B2, slotsA ((t, T, cs) :: A2) g 0 D us L = some L2 ∧ made A2 zss g = some B2 ∧ AW P l.toArray n (l.drop (c + 1)) (fun L B => Q .normal L B) L2 (.blk (g t) T ys :: (B2 ++ B))) : AC P n (.region id l.toArray true) Q L B := by
  rintro K Ob w0 w a ⟨L', Bs, h, hL, hB⟩
  simp only [Bool.and_eq_true, List.all_eq_true] at hDm hnone hAs hdp
  obtain ⟨⟨⟨⟨⟨⟨hD, hU⟩, htc⟩, hjc⟩, hjt⟩, hjA⟩, hdl1⟩ := hDm
  have huj : ∀ u, us[j]? = some u → leaves u = some ys := fun u h => by rw [huj0] at h; injection h with h; subst h; exact hul
  have hD := Nat.eq_of_beq_eq_true hD
  have hU := Nat.eq_of_beq_eq_true hU
  rw [Nat.blt_eq] at htc hjc
  have hjt : j ≠ t := fun e => by subst e; simp at hjt
  rw [Option.isNone_iff_eq_none] at hjA
  have hdl1 : ∀ js ∈ deps, ∀ k ∈ js, k < c := fun js hj k hk => by have := hdl1 js hj k hk; rwa [Nat.blt_eq] at this
  have hnd1 := List.nodup_cons.1 (show (t :: A2.map (·.1)).Nodup from hnd)
  have htA : findA A2 t = none := findA_none fun x hx e => hnd1.1 (List.mem_map.2 ⟨x, hx, e⟩)
  let As : Made := (t, T, cs) :: A2
  have hft : findA As t = some (T, cs) := by
    show (match Nat.beq t t with
      | true => some (T, cs)
      | false => findA A2 t) = _
    rw [Nat.beq_refl]
  have hfo : ∀ i, i ≠ t → findA As i = findA A2 i := fun i hi => by
    show (match Nat.beq t i with
      | true => some (T, cs)
      | false => findA A2 i) = _
    have : Nat.beq t i = false := by
      cases e : Nat.beq t i with
      | false => rfl
      | true => exact absurd (Nat.eq_of_beq_eq_true e).symm hi
    rw [this]
  have hdl2 : ∀ i, i < c → ∀ dj, deps[i]? = some dj → ∀ k ∈ dj, findA As k = none := fun i hi dj hd k hk => by
    have hmem : dj ∈ deps.take c := List.mem_of_getElem? (i := i) (by rw [List.getElem?_take, if_pos hi]; exact hd)
    have := hdp dj hmem k hk
    rwa [Option.isNone_iff_eq_none] at this
  obtain ⟨L3, h1, h2, h3⟩ := only L hL
  have hst : St K Ob w0 w a n L3 [] Bs := { h with slots := fun t v hv => h.slots t v (h2 t v hv) }
  have hst2 := hst.add (f := SF L L3 B Bs [] []) ⟨h3, hB, trivial⟩
  have hc := chk_of hchk
  have hS : ∀ i, (hi : i < c) → (dFs As 0 us).getD i noF = dF As i (us[i]'(by rw [hU]; exact hi)) := fun i hi => by
    have := dFs_get As (us := us) (k := 0) (i := i) (List.getElem?_eq_getElem (by rw [hU]; exact hi))
    rw [List.getD_eq_getElem?_getD, this, Nat.zero_add]; rfl
  have hus : ∀ i, (hi : i < c) → us.getD i .un = us[i]'(by rw [hU]; exact hi) := fun i hi => by
    rw [List.getD_eq_getElem?_getD, List.getElem?_eq_getElem (by rw [hU]; exact hi)]; rfl
  have hget : ∀ (os : List Oper) (ds : List (List (Nat × AV))) (k : Nat), DOps P l.toArray n L B As D us k ds os → ∀ (i : Nat) dep o, ds[i]? = some dep → os[i]? = some o → DOp P l.toArray n L B As (k + i) (D.getD (k + i) 0) (us.getD (k + i) .un) dep o := by
    intro os
    induction os with
    | nil => intro ds k _ i dep o _ ho; simp at ho
    | cons o os ih =>
      intro ds k hap i dep o' hd ho
      rcases ds with _ | ⟨dp, ds⟩
      · simp at hd
      · cases i with
        | zero => simp at hd ho; subst hd ho; exact hap.1
        | succ i =>
          have := ih ds (k + 1) hap.2 i dep o' (by simpa using hd) (by simpa using ho)
          rw [show k + (i + 1) = k + 1 + i from by omega]
          exact this
  let Bf : (Nat → Bool) → (Nat → Value) → List Blk := fun p v => hdB c t j T cs p v ++ (mkB A2 p v ++ Bs)
  let Inv : (Nat → Bool) → (Nat → Value) → World → List Blk → Prop := fun p v _ Bx => (p c = true → p t = true ∧ p j = true) ∧ Bx = Bf p v
  have hone : ∀ (i : Nat) (dj : List Nat) (o : Oper), deps[i]? = some dj → l[i]? = some o → i < c + 1 → DrawOpI P l.toArray K Ob w0 n L3 [SF L L3 B Bs [] []] Inv (D.map some ++ [none]) (dFs As 0 us) i dj o := by
    intro i dj o hd ho hi p hpi hpd v Fx a' w' Bx hinv hs
    obtain ⟨hcl, rfl⟩ := hinv
    have hjm := hdl1 dj (List.mem_of_getElem? hd)
    rw [dL_app D v dj fun j hj => by rw [hD]; exact hjm j hj] at hs
    obtain ⟨h6, h7, _⟩ : (SF L L3 B Bs [] []).holds w' (owns Ob (Bf p v)) := hs.facts _ (List.mem_append.2 (.inr (by simp)))
    have hfact : ∀ j ∈ dj, (dF As j (us.getD j .un) (v j)).holds w' (owns Ob (Bf p v)) := fun j hj => by
      have := hs.facts ((dFs As 0 us).getD j noF (v j)) (List.mem_append.2 (.inl (List.mem_map.2 ⟨j, hj, rfl⟩)))
      rw [hS j (hjm j hj)] at this
      rw [hus j (hjm j hj)]
      exact this
    rcases Nat.lt_or_ge i c with hic | hic
    · have hop := hget (l.take c) _ 0 hops i _ o (depsOf_get hd) (by rw [List.getElem?_take, if_pos hic]; exact ho)
      rw [Nat.zero_add] at hop
      have hjn := hdl2 i hic dj hd
      have hfacts : ∀ j ∈ dj, ARep w' (owns Ob (Bf p v)) (v j) (us.getD j .un) := fun j hj => by
        have := hfact j hj
        unfold dF at this
        rw [hjn j hj] at this
        exact this
      have hdk := dd_app D i (by rw [hD]; exact hic)
      have hne : i ≠ c := by omega
      have hpc : ∀ u : Value, ((c == i || p c) = true → (t == i || p t) = true ∧ (j == i || p j) = true) := fun _ hh => by
        have hh : p c = true := by simpa [Ne.symm hne] using hh
        obtain ⟨h8, h9⟩ := hcl hh
        simp [h8, h9]
      have hij : p c = true → i ≠ j := fun hh e => by subst e; rw [(hcl hh).2] at hpi; cases hpi
      unfold DOp at hop
      by_cases hit : i = t
      · subst hit
        rw [hft] at hop
        have hw := hop K Ob w0 w' a' _ _ _ hs
        refine wp_next hs.defers (fun _ _ ⟨_, hh⟩ => hh.defers) hw fun a2 w2 hh => ?_
        obtain ⟨g, h8⟩ := hh
        have hpc0 : p c = false := by
          cases hh : p c with
          | false => rfl
          | true => rw [(hcl hh).1] at hpi; cases hpi
        have e1 : (i, T, cs).1 = i := rfl
        have hBf : Bf (fun j => j == i || p j) (fun j => if j = i then .pointer (some ⟨g, 0, none⟩) else v j) = (g, T, cs) :: Bf p v := by
          have e2 : hdB c i j T cs p v = [] := by unfold hdB; rw [if_neg (by rw [hpi]; decide)]
          have e3 : hdB c i j T cs (fun j => j == i || p j) (fun j => if j = i then .pointer (some ⟨g, 0, none⟩) else v j) = [(g, T, cs)] := by
            unfold hdB
            simp [hpc0, Ne.symm hne, gOf]
          show _ ++ (mkB A2 _ _ ++ Bs) = (g, T, cs) :: (hdB c i j T cs p v ++ (mkB A2 p v ++ Bs))
          rw [e2, e3, mkB_other (As := A2) p v _ htA]; rfl
        refine wpList_nil ⟨rfl, .pointer (some ⟨g, 0, none⟩), _, ⟨hpc undef, hBf.symm⟩, ?_⟩
        rw [if_pos hdk.2, hdk.1, hS i hic]
        refine h8.drawEnd (by simp [look]) ?_
        unfold dF; rw [hft]; exact ⟨g, rfl⟩
      · rw [hfo i hit] at hop
        cases hf : findA A2 i with
        | none =>
          rw [hf] at hop
          have hw := AP.frame hop K Ob w0 w' a' (hdB c t j T cs p v ++ mkB A2 p v) Bs _ _ (by rw [List.append_assoc]; exact hs) (by rw [List.append_assoc]; exact lk_dep h6 hfacts) (by rw [List.append_assoc]; exact h7)
          refine wp_next hs.defers (fun _ _ ⟨_, hh, _⟩ => hh.defers) hw fun a2 w2 hh => ?_
          obtain ⟨x, h8, h9⟩ := hh
          rw [List.append_assoc] at h8 h9
          have hBf : Bf (fun j => j == i || p j) (fun j => if j = i then x else v j) = Bf p v := by
            show _ ++ (mkB A2 _ _ ++ Bs) = _
            rw [hdB_other x hit hne hij, mkB_other (As := A2) p v x hf]
          refine wpList_nil ⟨rfl, x, Bf p v, ⟨hpc x, hBf.symm⟩, ?_⟩
          rw [if_pos hdk.2, hdk.1, hS i hic]
          rw [hus i hic] at h9
          refine h8.drawEnd (by simp [look]) ?_
          unfold dF; rw [hfo i hit, hf]; exact h9
        | some q =>
          obtain ⟨T', cs'⟩ := q
          rw [hf] at hop
          have hw := hop K Ob w0 w' a' _ _ _ hs
          refine wp_next hs.defers (fun _ _ ⟨_, hh⟩ => hh.defers) hw fun a2 w2 hh => ?_
          obtain ⟨g, h8⟩ := hh
          have hp := mkB_new (As := A2) p v g hnd1.2 hf hpi
          have hperm : (Bf (fun j => j == i || p j) (fun j => if j = i then .pointer (some ⟨g, 0, none⟩) else v j)).Perm ((g, T', cs') :: Bf p v) := by
            show (hdB c t j T cs _ _ ++ (mkB A2 _ _ ++ Bs)).Perm ((g, T', cs') :: (hdB c t j T cs p v ++ (mkB A2 p v ++ Bs)))
            rw [hdB_other _ hit hne hij]
            refine ((hp.append_right Bs).append_left _).trans ?_
            exact List.perm_middle
          refine wpList_nil ⟨rfl, .pointer (some ⟨g, 0, none⟩), _, ⟨hpc undef, rfl⟩, ?_⟩
          rw [if_pos hdk.2, hdk.1, hS i hic]
          have h9 := h8.perm hperm
          refine h9.drawEnd (by simp [look]) ?_
          unfold dF; rw [hfo i hit, hf]; exact ⟨g, rfl⟩
    · obtain rfl : i = c := by omega
      rw [ho] at ho0
      injection ho0 with ho0
      subst ho0
      rw [hd] at hjs
      simp only [Bool.and_eq_true, List.contains_iff_mem] at hjs
      have hpt := hpd t hjs.1
      have hpj := hpd j hjs.2
      have ht1 := hfact t hjs.1
      unfold dF at ht1
      rw [hft] at ht1
      obtain ⟨g, hg⟩ : ∃ g, v t = .pointer (some ⟨g, 0, none⟩) := ht1
      have hj1 := hfact j hjs.2
      unfold dF at hj1
      rw [hfo j hjt, hjA] at hj1
      have hj1 : ARep w' (owns Ob (Bf p v)) (v j) (us.getD j .un) := hj1
      obtain ⟨hc2, _⟩ := leaves_of hj1 (huj _ (by rw [hus j hjc]; exact List.getElem?_eq_getElem _))
      have hBf : Bf p v = (g, T, cs) :: (mkB A2 p v ++ Bs) := by
        show hdB i t j T cs p v ++ _ = _
        unfold hdB
        rw [if_pos hpt, if_neg (by rw [hpi]; decide), hg]; rfl
      have hlx : look (dj.map (fun j => (D.getD j 0, v j)) ++ L3) dp = some (v t) := by
        have := look_map (D := fun j => D.getD j 0) (v := v) (L := L3) (ls := dj) hjs.1 (fun x hx y hy e => ?_)
        · rw [List.getD_eq_getElem?_getD, hDt] at this; exact this
        · exact hc.inj x (by have := hjm x hx; omega) y (by have := hjm y hy; omega) (dd_app D x (by rw [hD]; exact hjm x hx)).2 (dd_app D y (by rw [hD]; exact hjm y hy)).2 (by rw [(dd_app D x (by rw [hD]; exact hjm x hx)).1, (dd_app D y (by rw [hD]; exact hjm y hy)).1]; exact e)
      have hly : look (dj.map (fun j => (D.getD j 0, v j)) ++ L3) dv = some (v j) := by
        have := look_map (D := fun j => D.getD j 0) (v := v) (L := L3) (ls := dj) hjs.2 (fun x hx y hy e => ?_)
        · rw [List.getD_eq_getElem?_getD, hDj] at this; exact this
        · exact hc.inj x (by have := hjm x hx; omega) y (by have := hjm y hy; omega) (dd_app D x (by rw [hD]; exact hjm x hx)).2 (dd_app D y (by rw [hD]; exact hjm y hy)).2 (by rw [(dd_app D x (by rw [hD]; exact hjm x hx)).1, (dd_app D y (by rw [hD]; exact hjm y hy)).1]; exact e)
      have hyl := Nat.eq_of_beq_eq_true hyl
      have hvl : (v j).cells.toList.length = cs.length := hc2.len.trans hyl
      rw [hBf] at hs
      refine st_store (g := g) (o := 0) (cs := cs) (T' := T) hs 0 rfl (by show look _ _ = _; rw [hlx, hg]) (by show look _ _ = _; exact hly) hT0 rfl hvl (by rw [Nat.ble_eq]; omega) (List.all_eq_true.2 hc2.one) fun w2 h8 => ?_
      rw [upd_whole _ _ hvl] at h8
      have hBf2 : Bf (fun k => k == i || p k) (fun k => if k = i then undef else v k) = (g, T, (v j).cells.toList) :: (mkB A2 p v ++ Bs) := by
        show hdB i t j T cs _ _ ++ (mkB A2 _ _ ++ Bs) = _
        have e2 : findA A2 i = none := findA_none fun x hx e => by have := hAs x hx; rw [Nat.blt_eq] at this; omega
        rw [mkB_other (As := A2) p v _ e2]
        unfold hdB
        have e3 : t ≠ i := by omega
        have e4 : j ≠ i := by omega
        simp [hpt, e3, e4, hg, gOf]
      refine wpList_nil ⟨rfl, undef, _, ⟨fun _ => by simp [hpt, hpj], rfl⟩, ?_⟩
      have hE : dE (D.map some ++ [none]) i = false := by rw [← hD]; exact dE_last D
      rw [if_neg (by rw [hE]; decide), hBf2]
      have e5 : (dFs As 0 us).getD i noF = noF := by
        have hlen : ∀ (us : List AV) (k : Nat), (dFs As k us).length = us.length := by
          intro us
          induction us with
          | nil => intro k; rfl
          | cons u us ih => intro k; simp [dFs, ih]
        rw [List.getD_eq_getElem?_getD, List.getElem?_eq_none (by rw [hlen, hU]; exact Nat.le_refl _)]; rfl
      rw [e5]
      exact St.drawEnd0 (f := noF undef) (h8 : St K Ob w0 w2 a' n _ (_ ++ ([SF L L3 B Bs [] []] ++ Fx)) _) trivial
  have hdrawops : ∀ (js : List (List Nat)) (os : List Oper) (k : Nat), (∀ i dj o, js[i]? = some dj → os[i]? = some o → DrawOpI P l.toArray K Ob w0 n L3 [SF L L3 B Bs [] []] Inv (D.map some ++ [none]) (dFs As 0 us) (k + i) dj o) →
      DrawOpsI P l.toArray K Ob w0 n L3 [SF L L3 B Bs [] []] Inv (D.map some ++ [none]) (dFs As 0 us) k js os := by
    intro js
    induction js with
    | nil => intro os k _; cases os <;> trivial
    | cons dj js ih =>
      intro os k hall
      rcases os with _ | ⟨o, os⟩
      · trivial
      · refine ⟨by have := hall 0 dj o rfl rfl; rwa [Nat.add_zero] at this, ih os (k + 1) fun i dj' o' hd ho => ?_⟩
        have := hall (i + 1) dj' o' (by simpa using hd) (by simpa using ho)
        rwa [show k + (i + 1) = k + 1 + i from by omega] at this
  refine drawI_ hm (c + 1) (D.map some ++ [none]) deps (dFs As 0 us) Inv hchk hst2 (fun w' hw' => ⟨fun hh => by simp at hh, by show Bs = hdB _ _ _ _ _ _ _ ++ _; unfold hdB; simp [mkB]⟩) ?_ (hdrawops deps l 0 fun i dj o hd ho => by
    rw [Nat.zero_add]
    exact hone i dj o hd ho (by have := (List.getElem?_eq_some_iff.1 hd).1; rw [hc.deplen] at this; exact this)) fun p hp v a' w' Bx hinv hs => ?_
  · rw [List.all_eq_true]
    intro j hj
    have hjm : j < c + 1 := List.mem_range.1 hj
    rcases Nat.lt_or_ge j c with hjc | hjc
    · rw [(dd_app D j (by rw [hD]; exact hjc)).1]
      have hmem : D.getD j 0 ∈ D := by rw [List.getD_eq_getElem?_getD, List.getElem?_eq_getElem (by rw [hD]; exact hjc)]; exact List.getElem_mem _
      have := hnone _ hmem
      rw [Option.isNone_iff_eq_none] at this
      rw [h1 _ this]; simp
    · obtain rfl : j = c := by omega
      have hE : dE (D.map some ++ [none]) j = false := by rw [← hD]; exact dE_last D
      rw [hE]; rfl
  · obtain ⟨_, rfl⟩ := hinv
    have hdL := dL_all D v
    rw [hD] at hdL
    rw [hdL] at hs
    let g : Nat → Nat := fun j => gOf (v j)
    have hfct : ∀ i, (hi : i < c) → (dF As i (us.getD i .un) (v i)).holds w' (owns Ob (Bf p v)) := fun i hi => by
      have := hs.facts ((dFs As 0 us).getD i noF (v i)) (List.mem_append.2 (.inl (List.mem_map.2 ⟨i, List.mem_range.2 (by omega), rfl⟩)))
      rw [hS i hi] at this
      rw [hus i hi]
      exact this
    have hall : Bf p v = (g t, T, (v j).cells.toList) :: (A2.map (fun x => (g x.1, x.2.1, x.2.2)) ++ Bs) := by
      show hdB c t j T cs p v ++ (mkB A2 p v ++ Bs) = _
      unfold hdB mkB
      rw [if_pos (hp t (by omega)), if_pos (hp c (by omega)), List.filter_eq_self.2 fun x hx => hp x.1 (by have := hAs x hx; rw [Nat.blt_eq] at this; omega)]
      rfl
    have hf1 : ∀ k, k < D.length → findA As (0 + k) = none → ARep w' (owns Ob (Bf p v)) (v (0 + k)) (us.getD k .un) := fun k hk hf => by
      rw [Nat.zero_add] at hf ⊢
      have := hfct k (by omega)
      unfold dF at this
      rw [hf] at this
      exact this
    have hf2 : ∀ k, k < D.length → (findA As (0 + k)).isSome = true → v (0 + k) = .pointer (some ⟨g (0 + k), 0, none⟩) := fun k hk hf => by
      rw [Nat.zero_add] at hf ⊢
      have := hfct k (by omega)
      unfold dF at this
      cases hq : findA As k with
      | none => rw [hq] at hf; cases hf
      | some q =>
        rw [hq] at this
        obtain ⟨g', hg⟩ := this
        show v k = .pointer (some ⟨gOf (v k), 0, none⟩)
        rw [hg]; rfl
    obtain ⟨h6, h7, _⟩ : (SF L L3 B Bs [] []).holds w' (owns Ob (Bf p v)) := hs.facts _ (List.mem_append.2 (.inr (by simp)))
    obtain ⟨L2, B2, hk1, hk2, hk3⟩ := k g
    have hlk := lk_slotsA h6 hk1 hf1 hf2
    have hr : List.range' 0 D.length = List.range c := by rw [List.range_eq_range', hD]
    rw [hr] at hlk
    simp only [Nat.sub_zero] at hlk
    have hj1 := hf1 j (by omega) (by rw [Nat.zero_add, hfo j hjt]; exact hjA)
    rw [Nat.zero_add] at hj1
    obtain ⟨hc2, _⟩ := leaves_of hj1 (huj _ (by rw [hus j hjc]; exact List.getElem?_eq_getElem _))
    have hB2 := made_rep (w := w') (O := owns Ob (Bf p v)) hzl hk2 h7
    have hB3 : BsRep w' (owns Ob (Bf p v)) (.blk (g t) T ys :: (B2 ++ B)) (Bf p v) := by
      have : BsRep w' (owns Ob (Bf p v)) (.blk (g t) T ys :: (B2 ++ B)) ((g t, T, (v j).cells.toList) :: (A2.map (fun x => (g x.1, x.2.1, x.2.2)) ++ Bs)) := ⟨[_], _, rfl, ⟨_, rfl, hc2⟩, hB2⟩
      rwa [← hall] at this
    exact hk3 K Ob w0 w' a' _ ⟨_, Bf p v, hs.noFacts, hlk, hB3⟩ fun a2 w2 h => h
end Orr

namespace Orr
open Go Go.Proofs
abbrev SmallP (p : List Int) : Prop := Trim p ∧ p.length < 274877906944 ∧ Bd 4294967295 p
theorem drop_snoc {α : Type} {l : List α} {j : Nat} {x : α} (h : l[j]? = some x) (h0 : 0 < j) : (l.take (j + 1)).drop 1 = (l.take j).drop 1 ++ [x] := by
  rw [take_snoc h, List.drop_append_of_le_length (by rw [List.length_take]; have := (List.getElem?_eq_some_iff.1 h).1; omega)]
theorem drop_zero' {α : Type} (l : List α) : (l.take (0 + 1)).drop 1 = (l.take 0).drop 1 := by cases l <;> rfl

theorem d_det_Row {ps : List (List Int)} (hl : ps.length ≤ 1000) (hp : ∀ p ∈ ps, SmallP p) : Does Tryz.prog 233 [.one (pls ps)] (.one (pls ps)) := by
  refine does_ (n := 19) Tryz.func233 rfl Tryz.ntmps233 rfl ?_
  refine ac_seq ?_
  refine ac_reg ?_
  refine w_ (p_assign rfl rfl) ?_
  refine aw_nil ?_
  refine ac_seq ?_
  refine ac_reg ?_
  refine w_ (p_assign rfl rfl) ?_
  refine aw_nil ?_
  refine ac_seq ?_
  refine ac_seq ?_
  refine ac_reg ?_
  refine w_ (p_move rfl rfl) ?_
  refine w_ (p_len (m := ps.length) Tryz.runUnderlying287 rfl (rlen_pls _) rfl) ?_
  refine w_ (p_move rfl rfl) ?_
  refine aw_nil ?_
  refine ac_block ?_
  refine ac_ownNil [3] 52 1 rfl (allAre1 rfl) rfl ?_
  refine ac_pick [3, 6, 7, 8] rfl ?_
  refine ac_loop (fun m L B => ∃ i r, i ≤ ps.length ∧ m = ps.length - i ∧ L = [(3, .one (.orow r 1 0 i)), (6, .one (pls ps)), (7, .one (.int .i64 (((ps.length : Nat) : Int)))), (8, .one (.int .i64 (((i : Nat) : Int))))] ∧ B = [.row r 52 1 ((ps.take i).map (fun p => [pl p]))]) (m := _) ⟨0, none, Nat.zero_le _, rfl, rfl, rfl⟩ ?_
  rintro m L B ⟨i, r, hp0, hm, rfl, rfl⟩
  by_cases hlt : i < ps.length
  · obtain ⟨p, hpi⟩ : ∃ p, ps[i]? = some p := ⟨_, List.getElem?_eq_getElem hlt⟩
    have hpp := hp p (List.mem_of_getElem? hpi)
    refine ac_seq ?_
    refine ac_reg ?_
    refine w_ (p_cmp rfl rfl rfl rfl) ?_
    refine aw_nil ?_
    refine ac_seq ?_
    refine ac_t rfl (decide_eq_true (by omega)) ?_
    refine ac_skip ?_
    refine ac_seq ?_
    refine ac_block ?_
    refine ac_seq ?_
    refine ac_reg ?_
    refine w_ (p_index (i) Tryz.runUnderlying287 Tryz.sizeOf52 rfl rfl (rfl) (map_get hpi) rfl rfl) ?_
    refine w_ (p_loadSh Tryz.isAgg52 Tryz.sizeOf52 rfl rfl rfl rfl) ?_
    refine w_ (p_assign rfl rfl) ?_
    refine aw_nil ?_
    refine ac_reg ?_
    refine w_ (p_move rfl rfl) ?_
    refine w_ (p_move rfl rfl) ?_
    refine w_ (p_call Tryz.func189 rfl rfl rfl rfl (d_poly_NormT hpp.1 hpp.2.1 hpp.2.2) rfl) ?_
    refine w_ (p_lit Tryz.runUnderlying287 Tryz.sizeOf52 Tryz.zeroValue52 rfl rfl rfl rfl rfl rfl rfl rfl rfl rfl) ?_
    refine a_append (ls2 := (ps.take (i + 1)).map (fun p => [pl p])) (m2 := i + 1) 0 Tryz.runUnderlying287 Tryz.runUnderlying287 Tryz.typeInfo52 rfl rfl Tryz.sizeOf52 Tryz.zeroValue52 rfl rfl rfl rfl rfl rfl rfl (by rw [List.length_map, List.length_take]; omega) (one_w rfl) (one_f rfl) (by show _ + 1 < _; omega) (by rw [List.take_of_length_le (by rw [List.length_map, List.length_take]; omega), take_snoc hpi, List.map_append]; rfl) (rfl) fun r1 => ?_
    refine w_ (p_assign rfl rfl) ?_
    refine aw_nil ?_
    refine ac_reg ?_
    refine w_ (p_add (r := ((i + 1 : Nat) : Int)) rfl rfl (i64_is (by omega) (by omega)) rfl) ?_
    refine w_ (p_move rfl rfl) ?_
    refine aw_pick [3, 6, 7, 8] rfl ?_
    refine aw_nil ?_
    refine ⟨_, ?_, i + 1, r1, by omega, rfl, rfl, rfl⟩
    omega
  · have hi : ps.take i = ps := List.take_of_length_le (by omega)
    refine ac_pub (L2 := _) 0 [3] rfl (allAre1 rfl) (by rw [List.length_map, hi]; omega) (by rw [List.length_map, hi]; omega) rfl ?_
    refine ac_slotEq 3 (y := .one (pls ps)) rfl (by rw [hi]; rfl) ?_
    refine ac_seq ?_
    refine ac_reg ?_
    refine w_ (p_cmp rfl rfl rfl rfl) ?_
    refine aw_nil ?_
    refine ac_seq ?_
    refine ac_f rfl (decide_eq_false (by omega)) ?_
    refine ac_exit ?_
    repeat refine seqQ_exit ?_
    refine blkQ_here ?_
    refine ac_seq ?_
    refine ac_reg ?_
    refine w_ (p_move rfl rfl) ?_
    refine w_ (p_assign rfl rfl) ?_
    refine aw_nil ?_
    refine ac_ret ?_
    exact retB_1 Tryz.results233 (rv_tmp rfl rfl) (rfl)

theorem d_det_may {M : List (List (List Int))} (hM : ∀ r ∈ M, r.length = M.length) (h4 : M.length ≤ 4) : Does Tryz.prog 292 [.one (mats M)] (.one (.bool true)) := by
  refine does_ (n := 20) Tryz.func292 rfl Tryz.ntmps292 rfl ?_
  refine ac_seq ?_
  refine ac_reg ?_
  refine w_ (p_assign rfl rfl) ?_
  refine aw_nil ?_
  refine ac_seq ?_
  refine ac_seq ?_
  refine ac_reg ?_
  refine w_ (p_move rfl rfl) ?_
  refine w_ (p_len (m := M.length) Tryz.runUnderlying342 rfl (rlen_mats _) rfl) ?_
  refine w_ (p_move rfl rfl) ?_
  refine aw_nil ?_
  refine ac_block ?_
  refine ac_pick [0, 5, 6, 7] rfl ?_
  refine ac_loop (fun m L B => ∃ i, i ≤ M.length ∧ m = M.length - i ∧ L = [(0, .one (mats M)), (5, .one (mats M)), (6, .one (.int .i64 (((M.length : Nat) : Int)))), (7, .one (.int .i64 (((i : Nat) : Int))))] ∧ B = []) (m := _) ⟨0, Nat.zero_le _, rfl, rfl, rfl⟩ ?_
  rintro m L B ⟨i, hp0, hm, rfl, rfl⟩
  by_cases hlt : i < M.length
  · obtain ⟨r, hr⟩ : ∃ r, M[i]? = some r := ⟨_, List.getElem?_eq_getElem hlt⟩
    have hrl := hM r (List.mem_of_getElem? hr)
    refine ac_seq ?_
    refine ac_reg ?_
    refine w_ (p_cmp rfl rfl rfl rfl) ?_
    refine aw_nil ?_
    refine ac_seq ?_
    refine ac_t rfl (decide_eq_true (by omega)) ?_
    refine ac_skip ?_
    refine ac_seq ?_
    refine ac_block ?_
    refine ac_seq ?_
    refine ac_reg ?_
    refine w_ (p_index (i) Tryz.runUnderlying342 Tryz.sizeOf287 rfl rfl (rfl) (map_get hr) rfl rfl) ?_
    refine w_ (p_loadSh Tryz.isAgg287 Tryz.sizeOf287 rfl rfl rfl rfl) ?_
    refine w_ (p_assign rfl rfl) ?_
    refine aw_nil ?_
    refine ac_seq ?_
    refine ac_reg ?_
    refine w_ (p_move rfl rfl) ?_
    refine w_ (p_len (m := r.length) Tryz.runUnderlying287 rfl (rlen_pls _) rfl) ?_
    refine w_ (p_move rfl rfl) ?_
    refine w_ (p_len (m := M.length) Tryz.runUnderlying342 rfl (rlen_mats _) rfl) ?_
    refine w_ (p_cmp rfl rfl rfl rfl) ?_
    refine aw_nil ?_
    refine ac_f rfl (decide_eq_false (by omega)) ?_
    refine ac_skip ?_
    refine ac_reg ?_
    refine w_ (p_add (r := ((i + 1 : Nat) : Int)) rfl rfl (i64_is (by omega) (by omega)) rfl) ?_
    refine w_ (p_move rfl rfl) ?_
    refine aw_pick [0, 5, 6, 7] rfl ?_
    refine aw_nil ?_
    refine ⟨_, ?_, i + 1, by omega, rfl, rfl, rfl⟩
    omega
  · skip
    refine ac_seq ?_
    refine ac_reg ?_
    refine w_ (p_cmp rfl rfl rfl rfl) ?_
    refine aw_nil ?_
    refine ac_seq ?_
    refine ac_f rfl (decide_eq_false (by omega)) ?_
    refine ac_exit ?_
    repeat refine seqQ_exit ?_
    refine blkQ_here ?_
    refine ac_seq ?_
    refine ac_reg ?_
    refine w_ (p_move rfl rfl) ?_
    refine w_ (p_len (m := M.length) Tryz.runUnderlying342 rfl (rlen_mats _) rfl) ?_
    refine w_ (p_cmp rfl rfl rfl rfl) ?_
    refine w_ (p_assign rfl rfl) ?_
    refine aw_nil ?_
    refine ac_ret ?_
    exact retB_1 Tryz.results292 (rv_tmp rfl rfl) (by rw [decide_eq_true (by omega)])

theorem d_det_minor {M : List (List (List Int))} {i : Nat} (hl : M.length ≤ 4) (hr : ∀ r ∈ M, r.length ≤ 4 ∧ ∀ p ∈ r, SmallP p) : Does Tryz.prog 319 [.one (.int .i64 (((i : Nat) : Int))), .one (.int .i64 0), .one (mats M)] (.one (mats ((minor0 i M)))) := by
  refine does_ (n := 45) Tryz.func319 rfl Tryz.ntmps319 rfl ?_
  refine ac_seq ?_
  refine ac_reg ?_
  refine w_ (p_assign rfl rfl) ?_
  refine aw_nil ?_
  refine ac_seq ?_
  refine ac_reg ?_
  refine w_ (p_assign rfl rfl) ?_
  refine aw_nil ?_
  refine ac_seq ?_
  refine ac_seq ?_
  refine ac_reg ?_
  refine w_ (p_move rfl rfl) ?_
  refine w_ (p_len (m := M.length) Tryz.runUnderlying342 rfl (rlen_mats _) rfl) ?_
  refine w_ (p_move rfl rfl) ?_
  refine aw_nil ?_
  refine ac_block ?_
  refine ac_ownNil [7] 287 1 rfl (allAre1 rfl) rfl ?_
  refine ac_pick [0, 1, 7, 13, 14, 15] rfl ?_
  refine ac_loop (fun m L B => ∃ k r O, k ≤ M.length ∧ O = minor0 i (M.take k) ∧ O.length ≤ k ∧ m = M.length - k ∧ L = [(0, .one (.int .i64 (((i : Nat) : Int)))), (1, .one (.int .i64 0)), (7, .one (.orow r 1 0 O.length)), (13, .one (mats M)), (14, .one (.int .i64 (((M.length : Nat) : Int)))), (15, .one (.int .i64 (((k : Nat) : Int))))] ∧ B = [.row r 287 1 (O.map (fun r => [pls r]))]) (m := _) ⟨0, none, [], Nat.zero_le _, rfl, Nat.zero_le _, rfl, rfl, rfl⟩ ?_
  rintro m L B ⟨k, r, O, hp0, hp1, hp2, hm, rfl, rfl⟩
  by_cases hlt : k < M.length
  · obtain ⟨w, hw⟩ : ∃ w, M[k]? = some w := ⟨_, List.getElem?_eq_getElem hlt⟩
    obtain ⟨hwl, hwp⟩ := hr w (List.mem_of_getElem? hw)
    by_cases hki : k = i
    · skip
      refine ac_seq ?_
      refine ac_reg ?_
      refine w_ (p_cmp rfl rfl rfl rfl) ?_
      refine aw_nil ?_
      refine ac_seq ?_
      refine ac_t rfl (decide_eq_true (by omega)) ?_
      refine ac_skip ?_
      refine ac_seq ?_
      refine ac_block ?_
      refine ac_seq ?_
      refine ac_reg ?_
      refine w_ (p_move rfl rfl) ?_
      refine w_ (p_index (k) Tryz.runUnderlying342 Tryz.sizeOf287 rfl rfl (rfl) (map_get hw) rfl rfl) ?_
      refine w_ (p_loadSh Tryz.isAgg287 Tryz.sizeOf287 rfl rfl rfl rfl) ?_
      refine w_ (p_assign rfl rfl) ?_
      refine w_ (p_assign rfl rfl) ?_
      refine aw_nil ?_
      refine ac_seq ?_
      refine ac_seq ?_
      refine ac_reg ?_
      refine w_ (p_move rfl rfl) ?_
      refine w_ (p_move rfl rfl) ?_
      refine w_ (p_cmp rfl rfl rfl rfl) ?_
      refine aw_nil ?_
      refine ac_t rfl (decide_eq_true (by omega)) ?_
      refine ac_exit ?_
      repeat refine seqQ_exit ?_
      refine blkQ_here ?_
      refine ac_reg ?_
      refine w_ (p_add (r := ((k + 1 : Nat) : Int)) rfl rfl (i64_is (by omega) (by omega)) rfl) ?_
      refine w_ (p_move rfl rfl) ?_
      refine aw_pick [0, 1, 7, 13, 14, 15] rfl ?_
      refine aw_nil ?_
      refine ⟨_, ?_, k + 1, r, O, by omega, by rw [hp1, hki, minor_eq (by rw [← hki]; exact hw)], by omega, rfl, rfl, rfl⟩
      omega
    · skip
      refine ac_seq ?_
      refine ac_reg ?_
      refine w_ (p_cmp rfl rfl rfl rfl) ?_
      refine aw_nil ?_
      refine ac_seq ?_
      refine ac_t rfl (decide_eq_true (by omega)) ?_
      refine ac_skip ?_
      refine ac_seq ?_
      refine ac_block ?_
      refine ac_seq ?_
      refine ac_reg ?_
      refine w_ (p_move rfl rfl) ?_
      refine w_ (p_index (k) Tryz.runUnderlying342 Tryz.sizeOf287 rfl rfl (rfl) (map_get hw) rfl rfl) ?_
      refine w_ (p_loadSh Tryz.isAgg287 Tryz.sizeOf287 rfl rfl rfl rfl) ?_
      refine w_ (p_assign rfl rfl) ?_
      refine w_ (p_assign rfl rfl) ?_
      refine aw_nil ?_
      refine ac_seq ?_
      refine ac_seq ?_
      refine ac_reg ?_
      refine w_ (p_move rfl rfl) ?_
      refine w_ (p_move rfl rfl) ?_
      refine w_ (p_cmp rfl rfl rfl rfl) ?_
      refine aw_nil ?_
      refine ac_f rfl (decide_eq_false (by omega)) ?_
      refine ac_skip ?_
      refine ac_seq ?_
      refine ac_reg ?_
      refine w_ (p_assign rfl rfl) ?_
      refine aw_nil ?_
      refine ac_seq ?_
      refine ac_seq ?_
      refine ac_reg ?_
      refine w_ (p_move rfl rfl) ?_
      refine w_ (p_len (m := w.length) Tryz.runUnderlying287 rfl (rlen_pls _) rfl) ?_
      refine w_ (p_move rfl rfl) ?_
      refine aw_nil ?_
      refine ac_block ?_
      refine ac_ownNil [10] 52 1 rfl (allAre1 rfl) rfl ?_
      refine ac_pick [0, 1, 7, 13, 14, 15, 23, 24, 10, 25] rfl ?_
      refine ac_loop (fun m L B => ∃ c q Q, c ≤ w.length ∧ Q = (w.take c).drop 1 ∧ Q.length ≤ c ∧ m = w.length - c ∧ L = [(0, .one (.int .i64 (((i : Nat) : Int)))), (1, .one (.int .i64 0)), (7, .one (.orow r 1 0 O.length)), (13, .one (mats M)), (14, .one (.int .i64 (((M.length : Nat) : Int)))), (15, .one (.int .i64 (((k : Nat) : Int)))), (23, .one (pls w)), (24, .one (.int .i64 (((w.length : Nat) : Int)))), (10, .one (.orow q 1 0 Q.length)), (25, .one (.int .i64 (((c : Nat) : Int))))] ∧ B = [.row q 52 1 (Q.map (fun p => [pl p])), .row r 287 1 (O.map (fun r => [pls r]))]) (m := _) ⟨0, none, [], Nat.zero_le _, rfl, Nat.zero_le _, rfl, rfl, rfl⟩ ?_
      rintro m L B ⟨c, q, Q, hq0, hq1, hq2, hm, rfl, rfl⟩
      by_cases h2 : c < w.length
      · obtain ⟨p, hpc⟩ : ∃ p, w[c]? = some p := ⟨_, List.getElem?_eq_getElem h2⟩
        have hpp := hwp p (List.mem_of_getElem? hpc)
        by_cases hc0 : c = 0
        · skip
          refine ac_seq ?_
          refine ac_reg ?_
          refine w_ (p_cmp rfl rfl rfl rfl) ?_
          refine aw_nil ?_
          refine ac_seq ?_
          refine ac_t rfl (decide_eq_true (by omega)) ?_
          refine ac_skip ?_
          refine ac_seq ?_
          refine ac_block ?_
          refine ac_seq ?_
          refine ac_reg ?_
          refine w_ (p_move rfl rfl) ?_
          refine w_ (p_index (c) Tryz.runUnderlying287 Tryz.sizeOf52 rfl rfl (rfl) (map_get hpc) rfl rfl) ?_
          refine w_ (p_loadSh Tryz.isAgg52 Tryz.sizeOf52 rfl rfl rfl rfl) ?_
          refine w_ (p_assign rfl rfl) ?_
          refine w_ (p_assign rfl rfl) ?_
          refine aw_nil ?_
          refine ac_seq ?_
          refine ac_reg ?_
          refine w_ (p_move rfl rfl) ?_
          refine w_ (p_move rfl rfl) ?_
          refine w_ (p_cmp rfl rfl rfl rfl) ?_
          refine aw_nil ?_
          refine ac_f rfl (decide_eq_false (fun h => h (by omega))) ?_
          refine ac_skip ?_
          refine ac_reg ?_
          refine w_ (p_add (r := ((c + 1 : Nat) : Int)) rfl rfl (i64_is (by omega) (by omega)) rfl) ?_
          refine w_ (p_move rfl rfl) ?_
          refine aw_pick [0, 1, 7, 13, 14, 15, 23, 24, 10, 25] rfl ?_
          refine aw_nil ?_
          refine ⟨_, ?_, c + 1, q, Q, by omega, by rw [hq1, hc0]; exact (drop_zero' w).symm, by omega, rfl, rfl, rfl⟩
          omega
        · skip
          refine ac_seq ?_
          refine ac_reg ?_
          refine w_ (p_cmp rfl rfl rfl rfl) ?_
          refine aw_nil ?_
          refine ac_seq ?_
          refine ac_t rfl (decide_eq_true (by omega)) ?_
          refine ac_skip ?_
          refine ac_seq ?_
          refine ac_block ?_
          refine ac_seq ?_
          refine ac_reg ?_
          refine w_ (p_move rfl rfl) ?_
          refine w_ (p_index (c) Tryz.runUnderlying287 Tryz.sizeOf52 rfl rfl (rfl) (map_get hpc) rfl rfl) ?_
          refine w_ (p_loadSh Tryz.isAgg52 Tryz.sizeOf52 rfl rfl rfl rfl) ?_
          refine w_ (p_assign rfl rfl) ?_
          refine w_ (p_assign rfl rfl) ?_
          refine aw_nil ?_
          refine ac_seq ?_
          refine ac_reg ?_
          refine w_ (p_move rfl rfl) ?_
          refine w_ (p_move rfl rfl) ?_
          refine w_ (p_cmp rfl rfl rfl rfl) ?_
          refine aw_nil ?_
          refine ac_t rfl (decide_eq_true (by omega)) ?_
          refine ac_reg ?_
          refine w_ (p_move rfl rfl) ?_
          refine w_ (p_move rfl rfl) ?_
          refine w_ (p_call Tryz.func189 rfl rfl rfl rfl (d_poly_NormT hpp.1 hpp.2.1 hpp.2.2) rfl) ?_
          refine w_ (p_lit Tryz.runUnderlying287 Tryz.sizeOf52 Tryz.zeroValue52 rfl rfl rfl rfl rfl rfl rfl rfl rfl rfl) ?_
          refine a_append (ls2 := (Q ++ [p]).map (fun p => [pl p])) (m2 := (Q ++ [p]).length) 0 Tryz.runUnderlying287 Tryz.runUnderlying287 Tryz.typeInfo52 rfl rfl Tryz.sizeOf52 Tryz.zeroValue52 rfl rfl rfl rfl rfl rfl rfl (by rw [List.length_map]; exact Nat.le_refl _) (one_w rfl) (one_f rfl) (by show _ + 1 < _; omega) (by rw [List.take_of_length_le (by rw [List.length_map]; exact Nat.le_refl _), List.map_append]; rfl) (by rw [List.length_append]; rfl) fun r1 => ?_
          refine w_ (p_assign rfl rfl) ?_
          refine aw_nil ?_
          refine ac_reg ?_
          refine w_ (p_add (r := ((c + 1 : Nat) : Int)) rfl rfl (i64_is (by omega) (by omega)) rfl) ?_
          refine w_ (p_move rfl rfl) ?_
          refine aw_pick [0, 1, 7, 13, 14, 15, 23, 24, 10, 25] rfl ?_
          refine aw_nil ?_
          refine ⟨_, ?_, c + 1, r1, (Q ++ [p]), by omega, by rw [hq1, drop_snoc hpc (by omega)], by rw [List.length_append]; show Q.length + 1 ≤ _; omega, rfl, rfl, rfl⟩
          omega
      · have hQ : Q = w.drop 1 := by rw [hq1, List.take_of_length_le (by omega)]
        refine ac_pub (L2 := _) 0 [10] rfl (allAre1 rfl) (by rw [List.length_map]) (by rw [List.length_map]; omega) rfl ?_
        refine ac_slotEq 10 (y := .one (pls (w.drop 1))) rfl (by rw [hQ]; rfl) ?_
        refine ac_seq ?_
        refine ac_reg ?_
        refine w_ (p_cmp rfl rfl rfl rfl) ?_
        refine aw_nil ?_
        refine ac_seq ?_
        refine ac_f rfl (decide_eq_false (by omega)) ?_
        refine ac_exit ?_
        repeat refine seqQ_exit ?_
        refine blkQ_here ?_
        refine ac_reg ?_
        refine w_ (p_move rfl rfl) ?_
        refine w_ (p_move rfl rfl) ?_
        refine w_ (p_lit Tryz.runUnderlying342 Tryz.sizeOf287 Tryz.zeroValue287 rfl rfl rfl rfl rfl rfl rfl rfl rfl rfl) ?_
        refine a_append (ls2 := (O ++ [w.drop 1]).map (fun r => [pls r])) (m2 := (O ++ [w.drop 1]).length) 0 Tryz.runUnderlying342 Tryz.runUnderlying342 Tryz.typeInfo287 rfl rfl Tryz.sizeOf287 Tryz.zeroValue287 rfl rfl rfl rfl rfl rfl rfl (by rw [List.length_map]; exact Nat.le_refl _) (one_w rfl) (one_f rfl) (by show _ + 1 < _; omega) (by rw [List.take_of_length_le (by rw [List.length_map]; exact Nat.le_refl _), List.map_append]; rfl) (by rw [List.length_append]; rfl) fun r2 => ?_
        refine w_ (p_assign rfl rfl) ?_
        refine aw_nil ?_
        refine ac_reg ?_
        refine w_ (p_add (r := ((k + 1 : Nat) : Int)) rfl rfl (i64_is (by omega) (by omega)) rfl) ?_
        refine w_ (p_move rfl rfl) ?_
        refine aw_pick [0, 1, 7, 13, 14, 15] rfl ?_
        refine aw_nil ?_
        refine ⟨_, ?_, k + 1, r2, (O ++ [w.drop 1]), by omega, by rw [hp1, minor_ne hw hki], by rw [List.length_append]; show O.length + 1 ≤ _; omega, rfl, rfl, rfl⟩
        omega
  · have hO : O = minor0 i M := by rw [hp1, List.take_of_length_le (by omega)]
    refine ac_pub (L2 := _) 0 [7] rfl (allAre1 rfl) (by rw [List.length_map]) (by rw [List.length_map]; omega) rfl ?_
    refine ac_slotEq 7 (y := .one (mats (minor0 i M))) rfl (by rw [hO]; rfl) ?_
    refine ac_seq ?_
    refine ac_reg ?_
    refine w_ (p_cmp rfl rfl rfl rfl) ?_
    refine aw_nil ?_
    refine ac_seq ?_
    refine ac_f rfl (decide_eq_false (by omega)) ?_
    refine ac_exit ?_
    repeat refine seqQ_exit ?_
    refine blkQ_here ?_
    refine ac_seq ?_
    refine ac_reg ?_
    refine w_ (p_move rfl rfl) ?_
    refine w_ (p_assign rfl rfl) ?_
    refine aw_nil ?_
    refine ac_ret ?_
    exact retB_1 Tryz.results319 (rv_tmp rfl rfl) (rfl)

theorem rows_small {cs : List (Nat × Nat)} {M : List (List (List Int))} (hM : M.length ≤ 4) (hcs : cs.length = M.length) (hc : ColsOk cs) (hr : ∀ r ∈ M, RowB cs r) (hb : bsum cs ≤ 1000000000) : ∀ r ∈ M, r.length ≤ 4 ∧ ∀ p ∈ r, SmallP p := by
  intro r h
  have h1 := hr r h
  refine ⟨by rw [h1.len]; omega, fun p hp => ?_⟩
  obtain ⟨h2, c, h3, h4, h5⟩ := h1.get p hp
  have := hc c h3
  have := bsum_le h3
  exact ⟨h2, by omega, bd_mono h5 (by omega)⟩

theorem lsum_le : ∀ {cs : List (Nat × Nat)}, ColsOk cs → lsum cs ≤ 31 * cs.length
  | [], _ => Nat.le_refl _
  | c :: cs, h => by
    have h1 := h c (List.mem_cons_self ..)
    have h2 := lsum_le (cs := cs) fun x hx => h x (List.mem_cons_of_mem _ hx)
    simp only [lsum, List.length_cons]; omega

theorem d_det_sum0 {M : List (List (List Int))} (hM : M.length = 0) : Does Tryz.prog 293 [.one (mats M)] (.one (pl (det 0 M))) := by
  refine does_ (n := 44) Tryz.func293 rfl Tryz.ntmps293 rfl ?_
  refine ac_seq ?_
  refine ac_reg ?_
  refine w_ (p_assign rfl rfl) ?_
  refine aw_nil ?_
  refine ac_seq ?_
  refine ac_seq ?_
  refine ac_reg ?_
  refine w_ (p_move rfl rfl) ?_
  refine w_ (p_len (m := M.length) Tryz.runUnderlying342 rfl (rlen_mats _) rfl) ?_
  refine w_ (p_cmp rfl rfl rfl rfl) ?_
  refine aw_nil ?_
  refine ac_t rfl (decide_eq_true (by omega)) ?_
  refine ac_seq ?_
  refine ac_reg ?_
  refine w_ (p_lit Tryz.runUnderlying23 Tryz.sizeOf3 Tryz.zeroValue3 rfl rfl rfl rfl rfl rfl rfl rfl rfl rfl) ?_
  refine w_ (p_call Tryz.func113 rfl rfl rfl rfl (d_poly_Of (p := [1]) (by decide) (by decide)) rfl) ?_
  refine w_ (p_assign rfl rfl) ?_
  refine aw_nil ?_
  refine ac_ret ?_
  exact retB_1 Tryz.results293 (rv_tmp rfl rfl) (rfl)

set_option maxRecDepth 20000 in
theorem d_det_sum1 {dn : Nat} {c0 : Nat × Nat} {cs : List (Nat × Nat)} {M : List (List (List Int))} (hM : M.length = dn + 1) (hcs : cs.length = dn) (h4 : dn + 1 ≤ 4) (hc : ColsOk (c0 :: cs)) (hr : ∀ r ∈ M, RowB (c0 :: cs) r) (hb : bsum (c0 :: cs) ≤ 1000000000)
    (ih : ∀ M' : List (List (List Int)), M'.length = dn → (∀ r ∈ M', RowB cs r) → Does Tryz.prog 293 [.one (mats M')] (.one (pl (det dn M')))) : Does Tryz.prog 293 [.one (mats M)] (.one (pl (det (dn + 1) M))) := by
  refine does_ (n := 44) Tryz.func293 rfl Tryz.ntmps293 rfl ?_
  have hsm := rows_small (by omega) (by simp; omega) hc hr hb
  have hf : ∀ i, i < M.length → DetB cs (det dn (minor0 i M)) := fun i hi => det_b dn cs (minor0 i M) hcs (by rw [minor_len hi]; omega) (by omega) (fun x hx => hc x (List.mem_cons_of_mem _ hx)) (minor_rows hr i)
  have hbs : c0.2 + bsum cs ≤ 1000000000 := hb
  · skip
    refine ac_seq ?_
    refine ac_reg ?_
    refine w_ (p_assign rfl rfl) ?_
    refine aw_nil ?_
    refine ac_seq ?_
    refine ac_seq ?_
    refine ac_reg ?_
    refine w_ (p_move rfl rfl) ?_
    refine w_ (p_len (m := M.length) Tryz.runUnderlying342 rfl (rlen_mats _) rfl) ?_
    refine w_ (p_cmp rfl rfl rfl rfl) ?_
    refine aw_nil ?_
    refine ac_f rfl (decide_eq_false (by omega)) ?_
    refine ac_skip ?_
    refine ac_seq ?_
    refine ac_reg ?_
    refine w_ (p_assign rfl rfl) ?_
    refine aw_nil ?_
    refine ac_seq ?_
    refine ac_seq ?_
    refine ac_reg ?_
    refine w_ (p_move rfl rfl) ?_
    refine w_ (p_len (m := M.length) Tryz.runUnderlying342 rfl (rlen_mats _) rfl) ?_
    refine w_ (p_move rfl rfl) ?_
    refine aw_nil ?_
    refine ac_block ?_
    refine ac_slotNil 3 rfl ?_
    refine ac_pick [0, 3, 12, 13, 14] rfl ?_
    refine ac_loop (fun m L B => ∃ i d, i ≤ M.length ∧ d = detK (det dn) M i ∧ m = M.length - i ∧ L = [(0, .one (mats M)), (3, .one (pl d)), (12, .one (mats M)), (13, .one (.int .i64 (((M.length : Nat) : Int)))), (14, .one (.int .i64 (((i : Nat) : Int))))] ∧ B = []) (m := _) ⟨0, [], Nat.zero_le _, rfl, rfl, rfl, rfl⟩ ?_
    rintro m L B ⟨i, d, hp0, hp1, hm, rfl, rfl⟩
    by_cases hlt : i < M.length
    · obtain ⟨r, hr1⟩ : ∃ r, M[i]? = some r := ⟨_, List.getElem?_eq_getElem hlt⟩
      obtain ⟨p, hp0, hpe, tp, lp, bp⟩ := head_of hr hr1
      have hcc := hc c0 (List.mem_cons_self ..)
      have hdk := detK_b hc hr hf i (by omega) (by omega)
      rw [← hp1] at hdk
      have hmi := hf i hlt
      have hls := lsum_le (cs := cs) (fun x hx => hc x (List.mem_cons_of_mem _ hx))
      have hm1 := len_pmul p (det dn (minor0 i M))
      have hm2 := bd_pmul (u := 5) bp hmi.2.2 (by omega)
      have hdl := hdk.2.1
      have hml := hmi.2.1
      by_cases h0 : p.length = 0
      · skip
        refine ac_seq ?_
        refine ac_reg ?_
        refine w_ (p_cmp rfl rfl rfl rfl) ?_
        refine aw_nil ?_
        refine ac_seq ?_
        refine ac_t rfl (decide_eq_true (by omega)) ?_
        refine ac_skip ?_
        refine ac_seq ?_
        refine ac_block ?_
        refine ac_seq ?_
        refine ac_reg ?_
        refine w_ (p_move rfl rfl) ?_
        refine w_ (p_index (i) Tryz.runUnderlying342 Tryz.sizeOf287 rfl rfl (rfl) (map_get hr1) rfl rfl) ?_
        refine w_ (p_loadSh Tryz.isAgg287 Tryz.sizeOf287 rfl rfl rfl rfl) ?_
        refine w_ (p_assign rfl rfl) ?_
        refine w_ (p_assign rfl rfl) ?_
        refine aw_nil ?_
        refine ac_seq ?_
        refine ac_seq ?_
        refine ac_reg ?_
        refine w_ (p_move rfl rfl) ?_
        refine w_ (p_index (0) Tryz.runUnderlying287 Tryz.sizeOf52 rfl rfl (rfl) (map_get hp0) rfl rfl) ?_
        refine w_ (p_loadSh Tryz.isAgg52 Tryz.sizeOf52 rfl rfl rfl rfl) ?_
        refine w_ (p_call Tryz.func189 rfl rfl rfl rfl (d_poly_NormT tp (by omega) (bd_mono bp (by omega))) rfl) ?_
        refine w_ (p_len (m := p.length) Tryz.runUnderlying52 rfl (rlen_pl _) rfl) ?_
        refine w_ (p_cmp rfl rfl rfl rfl) ?_
        refine aw_nil ?_
        refine ac_t rfl (decide_eq_true (by omega)) ?_
        refine ac_exit ?_
        repeat refine seqQ_exit ?_
        refine blkQ_here ?_
        refine ac_reg ?_
        refine w_ (p_add (r := ((i + 1 : Nat) : Int)) rfl rfl (i64_is (by omega) (by omega)) rfl) ?_
        refine w_ (p_move rfl rfl) ?_
        refine aw_pick [0, 3, 12, 13, 14] rfl ?_
        refine aw_nil ?_
        refine ⟨_, ?_, i + 1, d, by omega, by rw [hp1]; show _ = detK (det dn) M (i + 1); simp only [detK]; rw [hpe, if_pos h0], rfl, rfl, rfl⟩
        omega
      · by_cases h2 : i % 2 = 0
        · skip
          refine ac_seq ?_
          refine ac_reg ?_
          refine w_ (p_cmp rfl rfl rfl rfl) ?_
          refine aw_nil ?_
          refine ac_seq ?_
          refine ac_t rfl (decide_eq_true (by omega)) ?_
          refine ac_skip ?_
          refine ac_seq ?_
          refine ac_block ?_
          refine ac_seq ?_
          refine ac_reg ?_
          refine w_ (p_move rfl rfl) ?_
          refine w_ (p_index (i) Tryz.runUnderlying342 Tryz.sizeOf287 rfl rfl (rfl) (map_get hr1) rfl rfl) ?_
          refine w_ (p_loadSh Tryz.isAgg287 Tryz.sizeOf287 rfl rfl rfl rfl) ?_
          refine w_ (p_assign rfl rfl) ?_
          refine w_ (p_assign rfl rfl) ?_
          refine aw_nil ?_
          refine ac_seq ?_
          refine ac_seq ?_
          refine ac_reg ?_
          refine w_ (p_move rfl rfl) ?_
          refine w_ (p_index (0) Tryz.runUnderlying287 Tryz.sizeOf52 rfl rfl (rfl) (map_get hp0) rfl rfl) ?_
          refine w_ (p_loadSh Tryz.isAgg52 Tryz.sizeOf52 rfl rfl rfl rfl) ?_
          refine w_ (p_call Tryz.func189 rfl rfl rfl rfl (d_poly_NormT tp (by omega) (bd_mono bp (by omega))) rfl) ?_
          refine w_ (p_len (m := p.length) Tryz.runUnderlying52 rfl (rlen_pl _) rfl) ?_
          refine w_ (p_cmp rfl rfl rfl rfl) ?_
          refine aw_nil ?_
          refine ac_f rfl (decide_eq_false (by omega)) ?_
          refine ac_skip ?_
          refine ac_seq ?_
          refine ac_draw mixed_ 7 [25, 26, 27, 28, 29, 30, 31] [[], [0], [1], [], [], [3, 4], [5]] [.one (pls r), .one (.sh [pl p]), .one (pl p), .one (.int .i64 (((i : Nat) : Int))), .one (mats M), .one (mats ((minor0 i M))), .one (pl ((det dn (minor0 i M))))] rfl rfl rfl ⟨p_move rfl rfl, p_index (0) Tryz.runUnderlying287 Tryz.sizeOf52 rfl rfl (rfl) (map_get hp0) rfl rfl, p_loadSh Tryz.isAgg52 Tryz.sizeOf52 rfl rfl rfl rfl, p_move rfl rfl, p_move rfl rfl, p_call Tryz.func319 rfl rfl rfl rfl (d_det_minor (by omega) hsm) rfl, p_call Tryz.func293 rfl rfl rfl rfl (ih _ (by rw [minor_len hlt]; omega) (minor_rows hr i)) rfl, trivial⟩ rfl ?_
          refine w_ (p_call Tryz.func237 rfl rfl rfl rfl (d_poly_Mul tp hmi.1 (by omega) (by omega) bp hmi.2.2 (by omega)) rfl) ?_
          refine w_ (p_assign rfl rfl) ?_
          refine aw_nil ?_
          refine ac_seq ?_
          refine ac_reg ?_
          refine w_ (p_move rfl rfl) ?_
          refine w_ (p_rem (r := ((i % 2 : Nat) : Int)) rfl rfl (by omega) (by rw [show Int.tmod ((i : Nat) : Int) 2 = ((i % 2 : Nat) : Int) from rfl] <;> exact wrap64_of (by omega) (by omega)) rfl) ?_
          refine w_ (p_cmp rfl rfl rfl rfl) ?_
          refine aw_nil ?_
          refine ac_t rfl (decide_eq_true (by omega)) ?_
          refine ac_reg ?_
          refine w_ (p_move rfl rfl) ?_
          refine w_ (p_move rfl rfl) ?_
          refine w_ (p_call Tryz.func236 rfl rfl rfl rfl (d_poly_Add (by omega) (by omega) (bd_mono hdk.2.2 (by omega)) (bd_mono hm2 (by omega))) rfl) ?_
          refine w_ (p_assign rfl rfl) ?_
          refine aw_nil ?_
          refine ac_reg ?_
          refine w_ (p_add (r := ((i + 1 : Nat) : Int)) rfl rfl (i64_is (by omega) (by omega)) rfl) ?_
          refine w_ (p_move rfl rfl) ?_
          refine aw_pick [0, 3, 12, 13, 14] rfl ?_
          refine aw_nil ?_
          refine ⟨_, ?_, i + 1, (padd d (pmul p ((det dn (minor0 i M))))), by omega, by show _ = detK (det dn) M (i + 1); simp only [detK]; rw [hpe, if_neg h0, if_pos h2, ← hp1], rfl, rfl, rfl⟩
          omega
        · skip
          refine ac_seq ?_
          refine ac_reg ?_
          refine w_ (p_cmp rfl rfl rfl rfl) ?_
          refine aw_nil ?_
          refine ac_seq ?_
          refine ac_t rfl (decide_eq_true (by omega)) ?_
          refine ac_skip ?_
          refine ac_seq ?_
          refine ac_block ?_
          refine ac_seq ?_
          refine ac_reg ?_
          refine w_ (p_move rfl rfl) ?_
          refine w_ (p_index (i) Tryz.runUnderlying342 Tryz.sizeOf287 rfl rfl (rfl) (map_get hr1) rfl rfl) ?_
          refine w_ (p_loadSh Tryz.isAgg287 Tryz.sizeOf287 rfl rfl rfl rfl) ?_
          refine w_ (p_assign rfl rfl) ?_
          refine w_ (p_assign rfl rfl) ?_
          refine aw_nil ?_
          refine ac_seq ?_
          refine ac_seq ?_
          refine ac_reg ?_
          refine w_ (p_move rfl rfl) ?_
          refine w_ (p_index (0) Tryz.runUnderlying287 Tryz.sizeOf52 rfl rfl (rfl) (map_get hp0) rfl rfl) ?_
          refine w_ (p_loadSh Tryz.isAgg52 Tryz.sizeOf52 rfl rfl rfl rfl) ?_
          refine w_ (p_call Tryz.func189 rfl rfl rfl rfl (d_poly_NormT tp (by omega) (bd_mono bp (by omega))) rfl) ?_
          refine w_ (p_len (m := p.length) Tryz.runUnderlying52 rfl (rlen_pl _) rfl) ?_
          refine w_ (p_cmp rfl rfl rfl rfl) ?_
          refine aw_nil ?_
          refine ac_f rfl (decide_eq_false (by omega)) ?_
          refine ac_skip ?_
          refine ac_seq ?_
          refine ac_draw mixed_ 7 [25, 26, 27, 28, 29, 30, 31] [[], [0], [1], [], [], [3, 4], [5]] [.one (pls r), .one (.sh [pl p]), .one (pl p), .one (.int .i64 (((i : Nat) : Int))), .one (mats M), .one (mats ((minor0 i M))), .one (pl ((det dn (minor0 i M))))] rfl rfl rfl ⟨p_move rfl rfl, p_index (0) Tryz.runUnderlying287 Tryz.sizeOf52 rfl rfl (rfl) (map_get hp0) rfl rfl, p_loadSh Tryz.isAgg52 Tryz.sizeOf52 rfl rfl rfl rfl, p_move rfl rfl, p_move rfl rfl, p_call Tryz.func319 rfl rfl rfl rfl (d_det_minor (by omega) hsm) rfl, p_call Tryz.func293 rfl rfl rfl rfl (ih _ (by rw [minor_len hlt]; omega) (minor_rows hr i)) rfl, trivial⟩ rfl ?_
          refine w_ (p_call Tryz.func237 rfl rfl rfl rfl (d_poly_Mul tp hmi.1 (by omega) (by omega) bp hmi.2.2 (by omega)) rfl) ?_
          refine w_ (p_assign rfl rfl) ?_
          refine aw_nil ?_
          refine ac_seq ?_
          refine ac_reg ?_
          refine w_ (p_move rfl rfl) ?_
          refine w_ (p_rem (r := ((i % 2 : Nat) : Int)) rfl rfl (by omega) (by rw [show Int.tmod ((i : Nat) : Int) 2 = ((i % 2 : Nat) : Int) from rfl] <;> exact wrap64_of (by omega) (by omega)) rfl) ?_
          refine w_ (p_cmp rfl rfl rfl rfl) ?_
          refine aw_nil ?_
          refine ac_f rfl (decide_eq_false (by omega)) ?_
          refine ac_reg ?_
          refine w_ (p_move rfl rfl) ?_
          refine w_ (p_move rfl rfl) ?_
          refine w_ (p_call Tryz.func171 rfl rfl rfl rfl (d_poly_Sub (by omega) (by omega) (bd_mono hdk.2.2 (by omega)) (bd_mono hm2 (by omega))) rfl) ?_
          refine w_ (p_assign rfl rfl) ?_
          refine aw_nil ?_
          refine ac_reg ?_
          refine w_ (p_add (r := ((i + 1 : Nat) : Int)) rfl rfl (i64_is (by omega) (by omega)) rfl) ?_
          refine w_ (p_move rfl rfl) ?_
          refine aw_pick [0, 3, 12, 13, 14] rfl ?_
          refine aw_nil ?_
          refine ⟨_, ?_, i + 1, (psub d (pmul p ((det dn (minor0 i M))))), by omega, by show _ = detK (det dn) M (i + 1); simp only [detK]; rw [hpe, if_neg h0, if_neg h2, ← hp1], rfl, rfl, rfl⟩
          omega
    · have hi : i = M.length := by omega
      refine ac_seq ?_
      refine ac_reg ?_
      refine w_ (p_cmp rfl rfl rfl rfl) ?_
      refine aw_nil ?_
      refine ac_seq ?_
      refine ac_f rfl (decide_eq_false (by omega)) ?_
      refine ac_exit ?_
      repeat refine seqQ_exit ?_
      refine blkQ_here ?_
      refine ac_seq ?_
      refine ac_reg ?_
      refine w_ (p_move rfl rfl) ?_
      refine w_ (p_assign rfl rfl) ?_
      refine aw_nil ?_
      refine ac_ret ?_
      exact retB_1 Tryz.results293 (rv_tmp rfl rfl) (by rw [hp1, hi, hM]; rfl)

theorem d_det_sum : ∀ (n : Nat) (cs : List (Nat × Nat)) (M : List (List (List Int))), cs.length = n → M.length = n → n ≤ 4 → ColsOk cs → (∀ r ∈ M, RowB cs r) → bsum cs ≤ 1000000000 → Does Tryz.prog 293 [.one (mats M)] (.one (pl (det n M)))
  | 0, _, M, _, hM, _, _, _, _ => d_det_sum0 hM
  | m + 1, [], _, hcs, _, _, _, _, _ => by simp at hcs
  | m + 1, c :: cs, M, hcs, hM, h4, hc, hr, hb => d_det_sum1 hM (by simpa using hcs) h4 hc hr hb fun M' h1 h2 => d_det_sum m cs M' (by simpa using hcs) h1 (by omega) (fun x hx => hc x (List.mem_cons_of_mem _ hx)) h2 (by simp only [bsum] at hb; omega)

theorem d_det_Det {n : Nat} {cs : List (Nat × Nat)} {M : List (List (List Int))} (hcs : cs.length = n) (hM : M.length = n) (h4 : n ≤ 4) (hc : ColsOk cs) (hr : ∀ r ∈ M, RowB cs r) (hb : bsum cs ≤ 1000000000) : Does Tryz.prog 234 [.one (mats M)] (.tup [.one (pl (det n M)), .one (.int .i64 0)]) := by
  refine does_ (n := 9) Tryz.func234 rfl Tryz.ntmps234 rfl ?_
  refine ac_seq ?_
  refine ac_reg ?_
  refine w_ (p_assign rfl rfl) ?_
  refine w_ (p_assign rfl rfl) ?_
  refine aw_nil ?_
  refine ac_seq ?_
  refine ac_seq ?_
  refine ac_reg ?_
  refine w_ (p_move rfl rfl) ?_
  refine w_ (p_call Tryz.func292 rfl rfl rfl rfl (d_det_may (fun r h => by rw [(hr r h).len]; omega) (by omega)) rfl) ?_
  refine w_ (p_not rfl rfl) ?_
  refine aw_nil ?_
  refine ac_f rfl (rfl) ?_
  refine ac_skip ?_
  refine ac_seq ?_
  refine ac_reg ?_
  refine w_ (p_move rfl rfl) ?_
  refine w_ (p_call Tryz.func293 rfl rfl rfl rfl (d_det_sum n cs M hcs hM h4 hc hr hb) rfl) ?_
  refine w_ (p_assign rfl rfl) ?_
  refine w_ (p_assign rfl rfl) ?_
  refine aw_nil ?_
  refine ac_ret ?_
  exact retB_2 Tryz.results234 (rv_tmp rfl rfl) (rv_tmp rfl rfl) (rfl)

theorem orow3_small {a : Crv} (h : Nml a) (c : Cb a) : ∀ p ∈ orow3 a, SmallP p := by
  intro p hp
  obtain ⟨h1, k, h2, h3, h4⟩ := (orow3_b h c).get p hp
  have : k.1 ≤ 31 ∧ k.2 ≤ 1048576 := by
    simp only [List.mem_cons, List.not_mem_nil, or_false] at h2
    rcases h2 with rfl | rfl | rfl <;> decide
  exact ⟨h1, by omega, bd_mono h4 (by omega)⟩
theorem orows3 {a b c : Crv} (ha : Nml a) (hb : Nml b) (hc : Nml c) (ca : Cb a) (cb : Cb b) (cc : Cb c) : ∀ r ∈ [orow3 a, orow3 b, orow3 c], RowB cols3 r := by
  intro r hr
  simp only [List.mem_cons, List.not_mem_nil, or_false] at hr
  rcases hr with rfl | rfl | rfl
  · exact orow3_b ha ca
  · exact orow3_b hb cb
  · exact orow3_b hc cc

theorem d_pred_Orient1 {a : Crv} (ha : Nml a) (ca : Cb a) : Does Tryz.prog 232 [.agg [pl a.x, pl a.y, sg a.d, mg a.d]] (.one (pls ((orow3 a)))) := by
  refine does_ (n := 14) Tryz.func232 rfl Tryz.ntmps232 rfl ?_
  refine ac_seq ?_
  refine ac_reg ?_
  refine a_box rfl rfl rfl fun g1 => ?_
  refine w_ (p_assign rfl rfl) ?_
  refine aw_nil ?_
  refine ac_seq ?_
  refine ac_reg ?_
  refine w_ (p_loadOw 0 Tryz.isAgg74 Tryz.sizeOf74 rfl rfl rfl rfl rfl) ?_
  refine w_ (p_call Tryz.func170 rfl rfl rfl rfl (d_pred_norm (ha) (ca.mono (by omega) (by omega))) rfl) ?_
  refine a_storeOw 0 Tryz.sizeOf74 rfl rfl rfl rfl rfl rfl rfl ?_
  refine aw_nil ?_
  refine ac_seq ?_
  refine ac_reg ?_
  refine w_ (p_fieldOw fa_74_0 rfl rfl) ?_
  refine w_ (p_loadOw 0 Tryz.isAgg52 Tryz.sizeOf52 rfl rfl rfl rfl rfl) ?_
  refine w_ (p_fieldOw fa_74_1 rfl rfl) ?_
  refine w_ (p_loadOw 0 Tryz.isAgg52 Tryz.sizeOf52 rfl rfl rfl rfl rfl) ?_
  refine w_ (p_fieldOw fa_74_2 rfl rfl) ?_
  refine w_ (p_loadOw 0 Tryz.isAgg55 Tryz.sizeOf55 rfl rfl rfl rfl rfl) ?_
  refine w_ (p_lit Tryz.runUnderlying52 Tryz.sizeOf55 Tryz.zeroValue55 rfl rfl rfl rfl rfl rfl rfl rfl rfl rfl) ?_
  refine w_ (p_lit Tryz.runUnderlying287 Tryz.sizeOf52 Tryz.zeroValue52 rfl rfl rfl rfl rfl rfl rfl rfl rfl rfl) ?_
  refine w_ (p_call Tryz.func233 rfl rfl rfl rfl (d_det_Row (ps := orow3 a) (show 3 ≤ 1000 by decide) (orow3_small ha ca)) rfl) ?_
  refine w_ (p_assign rfl rfl) ?_
  refine aw_nil ?_
  refine ac_ret ?_
  exact retB_1 Tryz.results232 (rv_tmp rfl rfl) (rfl)

set_option maxRecDepth 20000 in
theorem d_pred_Orient {a b c : Crv} (ha : Nml a) (hb : Nml b) (hc : Nml c) (ca : Cb a) (cb : Cb b) (cc : Cb c) : Does Tryz.prog 164 [.agg [pl a.x, pl a.y, sg a.d, mg a.d], .agg [pl b.x, pl b.y, sg b.d, mg b.d], .agg [pl c.x, pl c.y, sg c.d, mg c.d]] (.one (pl (porient a b c))) := by
  refine does_ (n := 25) Tryz.func164 rfl Tryz.ntmps164 rfl ?_
  refine ac_seq ?_
  refine ac_reg ?_
  refine w_ (p_boxS rfl rfl rfl rfl) ?_
  refine w_ (p_boxS rfl rfl rfl rfl) ?_
  refine w_ (p_boxS rfl rfl rfl rfl) ?_
  refine w_ (p_assign rfl rfl) ?_
  refine aw_nil ?_
  refine ac_seq ?_
  refine ac_reg ?_
  refine w_ (p_assign rfl rfl) ?_
  refine aw_nil ?_
  refine ac_seq ?_
  refine ac_draw mixed_ 15 [11, 12, 13, 14, 15, 16, 17, 18, 19, 20, 21, 10, 22, 23, 8] [[], [], [0, 1], [], [], [3, 4], [], [], [6, 7], [2, 5, 8], [9], [10], [11], [11], [12]] [.one (.fn 232 [] []), .agg [pl a.x, pl a.y, sg a.d, mg a.d], .one (pls ((orow3 a))), .one (.fn 232 [] []), .agg [pl b.x, pl b.y, sg b.d, mg b.d], .one (pls ((orow3 b))), .one (.fn 232 [] []), .agg [pl c.x, pl c.y, sg c.d, mg c.d], .one (pls ((orow3 c))), .one (.row [[pls ((orow3 a))], [pls ((orow3 b))], [pls ((orow3 c))]]), .tup [.one (pl (porient a b c)), .one (.int .i64 0)], .tup [.one (pl (porient a b c)), .one (.int .i64 0)], .one (pl (porient a b c)), .one (.int .i64 0), .one (pl (porient a b c))] rfl rfl rfl ⟨p_move rfl rfl, p_loadSh Tryz.isAgg74 Tryz.sizeOf74 rfl rfl rfl rfl, p_callFn rfl Tryz.func232 rfl rfl rfl rfl (d_pred_Orient1 ha ca) rfl, p_move rfl rfl, p_loadSh Tryz.isAgg74 Tryz.sizeOf74 rfl rfl rfl rfl, p_callFn rfl Tryz.func232 rfl rfl rfl rfl (d_pred_Orient1 hb cb) rfl, p_move rfl rfl, p_loadSh Tryz.isAgg74 Tryz.sizeOf74 rfl rfl rfl rfl, p_callFn rfl Tryz.func232 rfl rfl rfl rfl (d_pred_Orient1 hc cc) rfl, p_lit Tryz.runUnderlying342 Tryz.sizeOf287 Tryz.zeroValue287 rfl rfl rfl rfl rfl rfl rfl rfl rfl rfl, p_call Tryz.func234 rfl rfl rfl rfl (d_det_Det (n := 3) (cs := cols3) (M := [orow3 a, orow3 b, orow3 c]) rfl rfl (by decide) cols3_ok (orows3 ha hb hc ca cb cc) (by decide)) rfl, p_move rfl rfl, p_extract rfl rfl rfl, p_extract rfl rfl rfl, p_assign rfl rfl, trivial⟩ rfl ?_
  refine w_ (p_assign rfl rfl) ?_
  refine aw_nil ?_
  refine ac_seq ?_
  refine ac_reg ?_
  refine w_ (p_move rfl rfl) ?_
  refine w_ (p_assign rfl rfl) ?_
  refine aw_nil ?_
  refine ac_ret ?_
  exact retB_1 Tryz.results164 (rv_tmp rfl rfl) (rfl)

set_option maxRecDepth 20000 in
theorem d_cert_Orient {a b c : Pt} {q : Rat} (ha : Nml a.c) (hb : Nml b.c) (hc : Nml c.c) (ca : Cb a.c) (cb : Cb b.c) (cc : Cb c.c) (hq : Qb q) : Does Tryz.prog 201 [.one (.int .i64 3), .agg [pl ([-q.num, (q.den : Int)]), sg q.num, mg q.num, sg ((q.den : Int)), mg ((q.den : Int)), sg q.num, mg q.num, sg ((q.den : Int)), mg ((q.den : Int))], .one (.row [[pl a.c.x, pl a.c.y, sg a.c.d, mg a.c.d, .int .i64 a.id], [pl b.c.x, pl b.c.y, sg b.c.d, mg b.c.d, .int .i64 b.id], [pl c.c.x, pl c.c.y, sg c.c.d, mg c.c.d, .int .i64 c.id]])] (.tup [.agg [.int .i64 ((((mkOrient q a b c))).kind), .int .i64 ((((mkOrient q a b c))).i0), .int .i64 ((((mkOrient q a b c))).i1), .int .i64 ((((mkOrient q a b c))).i2), .int .i64 ((((mkOrient q a b c))).i3), pl (((mkOrient q a b c)).p), .int .i64 (((mkOrient q a b c)).want)], .one (.int .i64 0)]) := by
  refine does_ (n := 139) Tryz.func201 rfl Tryz.ntmps201 rfl ?_
  refine ac_seq ?_
  refine ac_reg ?_
  refine w_ (p_boxS rfl rfl rfl rfl) ?_
  refine a_alloc Tryz.zeroValue166 rfl rfl fun g1 => ?_
  refine w_ (p_assign rfl rfl) ?_
  refine aw_nil ?_
  refine ac_seq ?_
  refine ac_seq ?_
  refine ac_reg ?_
  refine w_ (p_move rfl rfl) ?_
  refine w_ (p_len (m := 3) Tryz.runUnderlying22 rfl (rfl) rfl) ?_
  refine w_ (p_move rfl rfl) ?_
  refine w_ (p_call Tryz.func274 rfl rfl rfl rfl (d_cert_points3) rfl) ?_
  refine w_ (p_cmp (b := false) rfl rfl rfl rfl) ?_
  refine aw_nil ?_
  refine ac_f rfl (rfl) ?_
  refine ac_skip ?_
  refine ac_seq ?_
  refine ac_reg ?_
  refine w_ (p_move rfl rfl) ?_
  refine w_ (p_build (bd_44) rfl rfl rfl rfl) ?_
  refine w_ (p_build (bd_166) rfl rfl rfl rfl) ?_
  refine a_alloc Tryz.zeroValue166 rfl rfl fun g2 => ?_
  refine a_storeOw 0 Tryz.sizeOf166 rfl rfl rfl rfl rfl rfl rfl ?_
  refine aw_nil ?_
  refine ac_seq ?_
  refine ac_seq ?_
  refine ac_reg ?_
  refine w_ (p_move rfl rfl) ?_
  refine w_ (p_len (m := 3) Tryz.runUnderlying22 rfl (rfl) rfl) ?_
  refine w_ (p_move rfl rfl) ?_
  refine aw_nil ?_
  refine ac_block ?_
  refine ac_rounds 4 ?_
  refine ac_round ?_
  refine ac_seq ?_
  refine ac_reg ?_
  refine w_ (p_cmp (b := true) rfl rfl rfl rfl) ?_
  refine aw_nil ?_
  refine ac_seq ?_
  refine ac_t rfl (rfl) ?_
  refine ac_skip ?_
  refine ac_seq ?_
  refine ac_block ?_
  refine ac_seq ?_
  refine ac_reg ?_
  refine w_ (p_move rfl rfl) ?_
  refine w_ (p_index (0) Tryz.runUnderlying22 Tryz.sizeOf76 rfl rfl rfl rfl rfl rfl) ?_
  refine w_ (p_loadSh Tryz.isAgg76 Tryz.sizeOf76 rfl rfl rfl rfl) ?_
  refine a_alloc Tryz.zeroValue76 rfl rfl fun g3 => ?_
  refine w_ (p_assign rfl rfl) ?_
  refine a_storeOw 0 Tryz.sizeOf76 rfl rfl rfl rfl rfl rfl rfl ?_
  refine aw_nil ?_
  refine ac_reg ?_
  refine w_ (p_move rfl rfl) ?_
  refine w_ (p_fieldOw fa_76_1 rfl rfl) ?_
  refine w_ (p_loadOw 0 Tryz.isAgg3 Tryz.sizeOf3 rfl rfl rfl rfl rfl) ?_
  refine w_ (p_fieldOw fa_166_0 rfl rfl) ?_
  refine w_ (p_fieldOw fa_44_1 rfl rfl) ?_
  refine w_ (p_indexArrOw 0 Tryz.runUnderlying42 Tryz.sizeOf3 rfl rfl rfl (by decide) rfl) ?_
  refine a_storeOw 1 Tryz.sizeOf3 rfl rfl rfl rfl rfl rfl rfl ?_
  refine aw_nil ?_
  refine ac_reg ?_
  refine w_ (p_add (r := ((1 : Nat) : Int)) rfl rfl (rfl) rfl) ?_
  refine w_ (p_move rfl rfl) ?_
  refine aw_nil ?_
  refine ac_round ?_
  refine ac_seq ?_
  refine ac_reg ?_
  refine w_ (p_cmp (b := true) rfl rfl rfl rfl) ?_
  refine aw_nil ?_
  refine ac_seq ?_
  refine ac_t rfl (rfl) ?_
  refine ac_skip ?_
  refine ac_seq ?_
  refine ac_block ?_
  refine ac_seq ?_
  refine ac_reg ?_
  refine w_ (p_move rfl rfl) ?_
  refine w_ (p_index (1) Tryz.runUnderlying22 Tryz.sizeOf76 rfl rfl rfl rfl rfl rfl) ?_
  refine w_ (p_loadSh Tryz.isAgg76 Tryz.sizeOf76 rfl rfl rfl rfl) ?_
  refine a_alloc Tryz.zeroValue76 rfl rfl fun g4 => ?_
  refine w_ (p_assign rfl rfl) ?_
  refine a_storeOw 0 Tryz.sizeOf76 rfl rfl rfl rfl rfl rfl rfl ?_
  refine aw_nil ?_
  refine ac_reg ?_
  refine w_ (p_move rfl rfl) ?_
  refine w_ (p_fieldOw fa_76_1 rfl rfl) ?_
  refine w_ (p_loadOw 0 Tryz.isAgg3 Tryz.sizeOf3 rfl rfl rfl rfl rfl) ?_
  refine w_ (p_fieldOw fa_166_0 rfl rfl) ?_
  refine w_ (p_fieldOw fa_44_1 rfl rfl) ?_
  refine w_ (p_indexArrOw 1 Tryz.runUnderlying42 Tryz.sizeOf3 rfl rfl rfl (by decide) rfl) ?_
  refine a_storeOw 2 Tryz.sizeOf3 rfl rfl rfl rfl rfl rfl rfl ?_
  refine aw_nil ?_
  refine ac_reg ?_
  refine w_ (p_add (r := ((2 : Nat) : Int)) rfl rfl (rfl) rfl) ?_
  refine w_ (p_move rfl rfl) ?_
  refine aw_nil ?_
  refine ac_round ?_
  refine ac_seq ?_
  refine ac_reg ?_
  refine w_ (p_cmp (b := true) rfl rfl rfl rfl) ?_
  refine aw_nil ?_
  refine ac_seq ?_
  refine ac_t rfl (rfl) ?_
  refine ac_skip ?_
  refine ac_seq ?_
  refine ac_block ?_
  refine ac_seq ?_
  refine ac_reg ?_
  refine w_ (p_move rfl rfl) ?_
  refine w_ (p_index (2) Tryz.runUnderlying22 Tryz.sizeOf76 rfl rfl rfl rfl rfl rfl) ?_
  refine w_ (p_loadSh Tryz.isAgg76 Tryz.sizeOf76 rfl rfl rfl rfl) ?_
  refine a_alloc Tryz.zeroValue76 rfl rfl fun g5 => ?_
  refine w_ (p_assign rfl rfl) ?_
  refine a_storeOw 0 Tryz.sizeOf76 rfl rfl rfl rfl rfl rfl rfl ?_
  refine aw_nil ?_
  refine ac_reg ?_
  refine w_ (p_move rfl rfl) ?_
  refine w_ (p_fieldOw fa_76_1 rfl rfl) ?_
  refine w_ (p_loadOw 0 Tryz.isAgg3 Tryz.sizeOf3 rfl rfl rfl rfl rfl) ?_
  refine w_ (p_fieldOw fa_166_0 rfl rfl) ?_
  refine w_ (p_fieldOw fa_44_1 rfl rfl) ?_
  refine w_ (p_indexArrOw 2 Tryz.runUnderlying42 Tryz.sizeOf3 rfl rfl rfl (by decide) rfl) ?_
  refine a_storeOw 3 Tryz.sizeOf3 rfl rfl rfl rfl rfl rfl rfl ?_
  refine aw_nil ?_
  refine ac_reg ?_
  refine w_ (p_add (r := ((3 : Nat) : Int)) rfl rfl (rfl) rfl) ?_
  refine w_ (p_move rfl rfl) ?_
  refine aw_nil ?_
  refine ac_round ?_
  refine ac_seq ?_
  refine ac_reg ?_
  refine w_ (p_cmp (b := false) rfl rfl rfl rfl) ?_
  refine aw_nil ?_
  refine ac_seq ?_
  refine ac_f rfl (rfl) ?_
  refine ac_exit ?_
  repeat refine seqQ_exit ?_
  refine blkQ_here ?_
  refine ac_seq ?_
  refine ac_seq ?_
  refine ac_reg ?_
  refine w_ (p_move rfl rfl) ?_
  refine aw_nil ?_
  refine ac_block ?_
  refine ac_seq ?_
  refine ac_reg ?_
  refine w_ (p_cmp (b := false) rfl rfl rfl rfl) ?_
  refine w_ (p_assign rfl rfl) ?_
  refine aw_nil ?_
  refine ac_f rfl (rfl) ?_
  refine ac_seq ?_
  refine ac_reg ?_
  refine w_ (p_cmp (b := false) rfl rfl rfl rfl) ?_
  refine w_ (p_assign rfl rfl) ?_
  refine aw_nil ?_
  refine ac_f rfl (rfl) ?_
  refine ac_seq ?_
  refine ac_reg ?_
  refine w_ (p_cmp (b := true) rfl rfl rfl rfl) ?_
  refine w_ (p_assign rfl rfl) ?_
  refine aw_nil ?_
  refine ac_t rfl (rfl) ?_
  refine ac_draw mixed_ 12 [99, 100, 101, 102, 103, 104, 105, 106, 107, 108, 109, 110] [[], [0], [1], [2], [], [4], [5], [6], [], [8], [9], [10]] [.one (.row [[pl a.c.x, pl a.c.y, sg a.c.d, mg a.c.d, .int .i64 a.id], [pl b.c.x, pl b.c.y, sg b.c.d, mg b.c.d, .int .i64 b.id], [pl c.c.x, pl c.c.y, sg c.c.d, mg c.c.d, .int .i64 c.id]]), .one (.sh [pl a.c.x, pl a.c.y, sg a.c.d, mg a.c.d, .int .i64 a.id]), .one (.sh [pl a.c.x, pl a.c.y, sg a.c.d, mg a.c.d, .int .i64 a.id]), .agg [pl a.c.x, pl a.c.y, sg a.c.d, mg a.c.d], .one (.row [[pl a.c.x, pl a.c.y, sg a.c.d, mg a.c.d, .int .i64 a.id], [pl b.c.x, pl b.c.y, sg b.c.d, mg b.c.d, .int .i64 b.id], [pl c.c.x, pl c.c.y, sg c.c.d, mg c.c.d, .int .i64 c.id]]), .one (.sh [pl b.c.x, pl b.c.y, sg b.c.d, mg b.c.d, .int .i64 b.id]), .one (.sh [pl b.c.x, pl b.c.y, sg b.c.d, mg b.c.d, .int .i64 b.id]), .agg [pl b.c.x, pl b.c.y, sg b.c.d, mg b.c.d], .one (.row [[pl a.c.x, pl a.c.y, sg a.c.d, mg a.c.d, .int .i64 a.id], [pl b.c.x, pl b.c.y, sg b.c.d, mg b.c.d, .int .i64 b.id], [pl c.c.x, pl c.c.y, sg c.c.d, mg c.c.d, .int .i64 c.id]]), .one (.sh [pl c.c.x, pl c.c.y, sg c.c.d, mg c.c.d, .int .i64 c.id]), .one (.sh [pl c.c.x, pl c.c.y, sg c.c.d, mg c.c.d, .int .i64 c.id]), .agg [pl c.c.x, pl c.c.y, sg c.c.d, mg c.c.d]] rfl rfl rfl ⟨p_move rfl rfl, p_index (0) Tryz.runUnderlying22 Tryz.sizeOf76 rfl rfl rfl rfl rfl rfl, p_fieldSh fa_76_0 rfl rfl rfl, p_loadSh Tryz.isAgg74 Tryz.sizeOf74 rfl rfl rfl rfl, p_move rfl rfl, p_index (1) Tryz.runUnderlying22 Tryz.sizeOf76 rfl rfl rfl rfl rfl rfl, p_fieldSh fa_76_0 rfl rfl rfl, p_loadSh Tryz.isAgg74 Tryz.sizeOf74 rfl rfl rfl rfl, p_move rfl rfl, p_index (2) Tryz.runUnderlying22 Tryz.sizeOf76 rfl rfl rfl rfl rfl rfl, p_fieldSh fa_76_0 rfl rfl rfl, p_loadSh Tryz.isAgg74 Tryz.sizeOf74 rfl rfl rfl rfl, trivial⟩ rfl ?_
  refine w_ (p_call Tryz.func164 rfl rfl rfl rfl (d_pred_Orient (ha) (hb) (hc) (ca) (cb) (cc)) rfl) ?_
  refine w_ (p_fieldOw fa_166_1 rfl rfl) ?_
  refine a_storeOw 3 Tryz.sizeOf52 rfl rfl rfl rfl rfl rfl rfl ?_
  refine aw_nil ?_
  refine ac_seq ?_
  refine ac_reg ?_
  refine w_ (p_fieldOw fa_166_1 rfl rfl) ?_
  refine w_ (p_loadOw 3 Tryz.isAgg52 Tryz.sizeOf52 rfl rfl rfl rfl rfl) ?_
  refine w_ (p_loadSh Tryz.isAgg59 Tryz.sizeOf59 rfl rfl rfl rfl) ?_
  refine w_ (p_call Tryz.func99 rfl rfl rfl rfl (d_germ_AtQ (pb_orient ha hb hc ca cb cc) (hq)) rfl) ?_
  refine w_ (p_fieldOw fa_166_2 rfl rfl) ?_
  refine a_storeOw 3 Tryz.sizeOf3 rfl rfl rfl rfl rfl rfl rfl ?_
  refine aw_nil ?_
  refine ac_seq ?_
  refine ac_reg ?_
  refine w_ (p_loadOw 3 Tryz.isAgg166 Tryz.sizeOf166 rfl rfl rfl rfl rfl) ?_
  refine a_storeOw 4 Tryz.sizeOf166 rfl rfl rfl rfl rfl rfl rfl ?_
  refine w_ (p_assign rfl rfl) ?_
  refine aw_nil ?_
  refine ac_ret ?_
  exact retB_2 Tryz.results201 (rv_cell 4 Tryz.isAgg166 Tryz.sizeOf166 rfl rfl rfl rfl rfl) (rv_tmp rfl rfl) (by simp only [mkOrient])

set_option maxRecDepth 20000 in
theorem d_cert_Order {a b : Pt} {q : Rat} (ha : Nml a.c) (hb : Nml b.c) (ca : Cb a.c) (cb : Cb b.c) (hq : Qb q) : Does Tryz.prog 201 [.one (.int .i64 1), .agg [pl ([-q.num, (q.den : Int)]), sg q.num, mg q.num, sg ((q.den : Int)), mg ((q.den : Int)), sg q.num, mg q.num, sg ((q.den : Int)), mg ((q.den : Int))], .one (.row [[pl a.c.x, pl a.c.y, sg a.c.d, mg a.c.d, .int .i64 a.id], [pl b.c.x, pl b.c.y, sg b.c.d, mg b.c.d, .int .i64 b.id]])] (.tup [.agg [.int .i64 ((((mkOrder q a b))).kind), .int .i64 ((((mkOrder q a b))).i0), .int .i64 ((((mkOrder q a b))).i1), .int .i64 ((((mkOrder q a b))).i2), .int .i64 ((((mkOrder q a b))).i3), pl (((mkOrder q a b)).p), .int .i64 (((mkOrder q a b)).want)], .one (.int .i64 0)]) := by
  refine does_ (n := 139) Tryz.func201 rfl Tryz.ntmps201 rfl ?_
  refine ac_seq ?_
  refine ac_reg ?_
  refine w_ (p_boxS rfl rfl rfl rfl) ?_
  refine a_alloc Tryz.zeroValue166 rfl rfl fun g1 => ?_
  refine w_ (p_assign rfl rfl) ?_
  refine aw_nil ?_
  refine ac_seq ?_
  refine ac_seq ?_
  refine ac_reg ?_
  refine w_ (p_move rfl rfl) ?_
  refine w_ (p_len (m := 2) Tryz.runUnderlying22 rfl (rfl) rfl) ?_
  refine w_ (p_move rfl rfl) ?_
  refine w_ (p_call Tryz.func274 rfl rfl rfl rfl (d_cert_points1) rfl) ?_
  refine w_ (p_cmp (b := false) rfl rfl rfl rfl) ?_
  refine aw_nil ?_
  refine ac_f rfl (rfl) ?_
  refine ac_skip ?_
  refine ac_seq ?_
  refine ac_reg ?_
  refine w_ (p_move rfl rfl) ?_
  refine w_ (p_build (bd_44) rfl rfl rfl rfl) ?_
  refine w_ (p_build (bd_166) rfl rfl rfl rfl) ?_
  refine a_alloc Tryz.zeroValue166 rfl rfl fun g2 => ?_
  refine a_storeOw 0 Tryz.sizeOf166 rfl rfl rfl rfl rfl rfl rfl ?_
  refine aw_nil ?_
  refine ac_seq ?_
  refine ac_seq ?_
  refine ac_reg ?_
  refine w_ (p_move rfl rfl) ?_
  refine w_ (p_len (m := 2) Tryz.runUnderlying22 rfl (rfl) rfl) ?_
  refine w_ (p_move rfl rfl) ?_
  refine aw_nil ?_
  refine ac_block ?_
  refine ac_rounds 3 ?_
  refine ac_round ?_
  refine ac_seq ?_
  refine ac_reg ?_
  refine w_ (p_cmp (b := true) rfl rfl rfl rfl) ?_
  refine aw_nil ?_
  refine ac_seq ?_
  refine ac_t rfl (rfl) ?_
  refine ac_skip ?_
  refine ac_seq ?_
  refine ac_block ?_
  refine ac_seq ?_
  refine ac_reg ?_
  refine w_ (p_move rfl rfl) ?_
  refine w_ (p_index (0) Tryz.runUnderlying22 Tryz.sizeOf76 rfl rfl rfl rfl rfl rfl) ?_
  refine w_ (p_loadSh Tryz.isAgg76 Tryz.sizeOf76 rfl rfl rfl rfl) ?_
  refine a_alloc Tryz.zeroValue76 rfl rfl fun g3 => ?_
  refine w_ (p_assign rfl rfl) ?_
  refine a_storeOw 0 Tryz.sizeOf76 rfl rfl rfl rfl rfl rfl rfl ?_
  refine aw_nil ?_
  refine ac_reg ?_
  refine w_ (p_move rfl rfl) ?_
  refine w_ (p_fieldOw fa_76_1 rfl rfl) ?_
  refine w_ (p_loadOw 0 Tryz.isAgg3 Tryz.sizeOf3 rfl rfl rfl rfl rfl) ?_
  refine w_ (p_fieldOw fa_166_0 rfl rfl) ?_
  refine w_ (p_fieldOw fa_44_1 rfl rfl) ?_
  refine w_ (p_indexArrOw 0 Tryz.runUnderlying42 Tryz.sizeOf3 rfl rfl rfl (by decide) rfl) ?_
  refine a_storeOw 1 Tryz.sizeOf3 rfl rfl rfl rfl rfl rfl rfl ?_
  refine aw_nil ?_
  refine ac_reg ?_
  refine w_ (p_add (r := ((1 : Nat) : Int)) rfl rfl (rfl) rfl) ?_
  refine w_ (p_move rfl rfl) ?_
  refine aw_nil ?_
  refine ac_round ?_
  refine ac_seq ?_
  refine ac_reg ?_
  refine w_ (p_cmp (b := true) rfl rfl rfl rfl) ?_
  refine aw_nil ?_
  refine ac_seq ?_
  refine ac_t rfl (rfl) ?_
  refine ac_skip ?_
  refine ac_seq ?_
  refine ac_block ?_
  refine ac_seq ?_
  refine ac_reg ?_
  refine w_ (p_move rfl rfl) ?_
  refine w_ (p_index (1) Tryz.runUnderlying22 Tryz.sizeOf76 rfl rfl rfl rfl rfl rfl) ?_
  refine w_ (p_loadSh Tryz.isAgg76 Tryz.sizeOf76 rfl rfl rfl rfl) ?_
  refine a_alloc Tryz.zeroValue76 rfl rfl fun g4 => ?_
  refine w_ (p_assign rfl rfl) ?_
  refine a_storeOw 0 Tryz.sizeOf76 rfl rfl rfl rfl rfl rfl rfl ?_
  refine aw_nil ?_
  refine ac_reg ?_
  refine w_ (p_move rfl rfl) ?_
  refine w_ (p_fieldOw fa_76_1 rfl rfl) ?_
  refine w_ (p_loadOw 0 Tryz.isAgg3 Tryz.sizeOf3 rfl rfl rfl rfl rfl) ?_
  refine w_ (p_fieldOw fa_166_0 rfl rfl) ?_
  refine w_ (p_fieldOw fa_44_1 rfl rfl) ?_
  refine w_ (p_indexArrOw 1 Tryz.runUnderlying42 Tryz.sizeOf3 rfl rfl rfl (by decide) rfl) ?_
  refine a_storeOw 2 Tryz.sizeOf3 rfl rfl rfl rfl rfl rfl rfl ?_
  refine aw_nil ?_
  refine ac_reg ?_
  refine w_ (p_add (r := ((2 : Nat) : Int)) rfl rfl (rfl) rfl) ?_
  refine w_ (p_move rfl rfl) ?_
  refine aw_nil ?_
  refine ac_round ?_
  refine ac_seq ?_
  refine ac_reg ?_
  refine w_ (p_cmp (b := false) rfl rfl rfl rfl) ?_
  refine aw_nil ?_
  refine ac_seq ?_
  refine ac_f rfl (rfl) ?_
  refine ac_exit ?_
  repeat refine seqQ_exit ?_
  refine blkQ_here ?_
  refine ac_seq ?_
  refine ac_seq ?_
  refine ac_reg ?_
  refine w_ (p_move rfl rfl) ?_
  refine aw_nil ?_
  refine ac_block ?_
  refine ac_seq ?_
  refine ac_reg ?_
  refine w_ (p_cmp (b := true) rfl rfl rfl rfl) ?_
  refine w_ (p_assign rfl rfl) ?_
  refine aw_nil ?_
  refine ac_t rfl (rfl) ?_
  refine ac_draw mixed_ 17 [55, 56, 57, 58, 59, 60, 61, 62, 63, 64, 65, 66, 67, 68, 69, 70, 71] [[], [0], [1], [2], [], [4], [5], [6], [3, 7], [], [9], [10], [11], [], [13], [14], [15]] [.one (.row [[pl a.c.x, pl a.c.y, sg a.c.d, mg a.c.d, .int .i64 a.id], [pl b.c.x, pl b.c.y, sg b.c.d, mg b.c.d, .int .i64 b.id]]), .one (.sh [pl a.c.x, pl a.c.y, sg a.c.d, mg a.c.d, .int .i64 a.id]), .one (.sh [pl a.c.x, pl a.c.y, sg a.c.d, mg a.c.d, .int .i64 a.id]), .agg [pl a.c.x, pl a.c.y, sg a.c.d, mg a.c.d], .one (.row [[pl a.c.x, pl a.c.y, sg a.c.d, mg a.c.d, .int .i64 a.id], [pl b.c.x, pl b.c.y, sg b.c.d, mg b.c.d, .int .i64 b.id]]), .one (.sh [pl b.c.x, pl b.c.y, sg b.c.d, mg b.c.d, .int .i64 b.id]), .one (.sh [pl b.c.x, pl b.c.y, sg b.c.d, mg b.c.d, .int .i64 b.id]), .agg [pl b.c.x, pl b.c.y, sg b.c.d, mg b.c.d], .one (pl (pright a.c b.c)), .one (.row [[pl a.c.x, pl a.c.y, sg a.c.d, mg a.c.d, .int .i64 a.id], [pl b.c.x, pl b.c.y, sg b.c.d, mg b.c.d, .int .i64 b.id]]), .one (.sh [pl a.c.x, pl a.c.y, sg a.c.d, mg a.c.d, .int .i64 a.id]), .one (.sh [pl a.c.x, pl a.c.y, sg a.c.d, mg a.c.d, .int .i64 a.id]), .agg [pl a.c.x, pl a.c.y, sg a.c.d, mg a.c.d], .one (.row [[pl a.c.x, pl a.c.y, sg a.c.d, mg a.c.d, .int .i64 a.id], [pl b.c.x, pl b.c.y, sg b.c.d, mg b.c.d, .int .i64 b.id]]), .one (.sh [pl b.c.x, pl b.c.y, sg b.c.d, mg b.c.d, .int .i64 b.id]), .one (.sh [pl b.c.x, pl b.c.y, sg b.c.d, mg b.c.d, .int .i64 b.id]), .agg [pl b.c.x, pl b.c.y, sg b.c.d, mg b.c.d]] rfl rfl rfl ⟨p_move rfl rfl, p_index (0) Tryz.runUnderlying22 Tryz.sizeOf76 rfl rfl rfl rfl rfl rfl, p_fieldSh fa_76_0 rfl rfl rfl, p_loadSh Tryz.isAgg74 Tryz.sizeOf74 rfl rfl rfl rfl, p_move rfl rfl, p_index (1) Tryz.runUnderlying22 Tryz.sizeOf76 rfl rfl rfl rfl rfl rfl, p_fieldSh fa_76_0 rfl rfl rfl, p_loadSh Tryz.isAgg74 Tryz.sizeOf74 rfl rfl rfl rfl, p_call Tryz.func159 rfl rfl rfl rfl (d_pred_Right (ha) (hb) (ca) (cb)) rfl, p_move rfl rfl, p_index (0) Tryz.runUnderlying22 Tryz.sizeOf76 rfl rfl rfl rfl rfl rfl, p_fieldSh fa_76_0 rfl rfl rfl, p_loadSh Tryz.isAgg74 Tryz.sizeOf74 rfl rfl rfl rfl, p_move rfl rfl, p_index (1) Tryz.runUnderlying22 Tryz.sizeOf76 rfl rfl rfl rfl rfl rfl, p_fieldSh fa_76_0 rfl rfl rfl, p_loadSh Tryz.isAgg74 Tryz.sizeOf74 rfl rfl rfl rfl, trivial⟩ rfl ?_
  refine w_ (p_call Tryz.func160 rfl rfl rfl rfl (d_pred_Above (ha) (hb) (ca) (cb)) rfl) ?_
  refine w_ (p_call Tryz.func275 rfl rfl rfl rfl (d_cert_either) rfl) ?_
  refine w_ (p_fieldOw fa_166_1 rfl rfl) ?_
  refine a_storeOw 2 Tryz.sizeOf52 rfl rfl rfl rfl rfl rfl rfl ?_
  refine aw_nil ?_
  refine ac_seq ?_
  refine ac_reg ?_
  refine w_ (p_fieldOw fa_166_1 rfl rfl) ?_
  refine w_ (p_loadOw 2 Tryz.isAgg52 Tryz.sizeOf52 rfl rfl rfl rfl rfl) ?_
  refine w_ (p_loadSh Tryz.isAgg59 Tryz.sizeOf59 rfl rfl rfl rfl) ?_
  refine w_ (p_call Tryz.func99 rfl rfl rfl rfl (d_germ_AtQ (either_pb (pb_right ca cb).1 (pb_above ca cb).1) (hq)) rfl) ?_
  refine w_ (p_fieldOw fa_166_2 rfl rfl) ?_
  refine a_storeOw 2 Tryz.sizeOf3 rfl rfl rfl rfl rfl rfl rfl ?_
  refine aw_nil ?_
  refine ac_seq ?_
  refine ac_reg ?_
  refine w_ (p_loadOw 2 Tryz.isAgg166 Tryz.sizeOf166 rfl rfl rfl rfl rfl) ?_
  refine a_storeOw 3 Tryz.sizeOf166 rfl rfl rfl rfl rfl rfl rfl ?_
  refine w_ (p_assign rfl rfl) ?_
  refine aw_nil ?_
  refine ac_ret ?_
  exact retB_2 Tryz.results201 (rv_cell 3 Tryz.isAgg166 Tryz.sizeOf166 rfl rfl rfl rfl rfl) (rv_tmp rfl rfl) (by simp only [mkOrder])

end Orr

namespace Orr
open Go Go.Proofs
abbrev zPtL : List LV := [.nils, .nils, .bool false, .nils, .int .i64 0]
theorem five {ls : List (List LV)} (h : ∀ c ∈ ls, c.length = 5) {k : Nat} (hk : k < ls.length) : ∃ a0 a1 a2 a3 a4, ls[k]? = some [a0, a1, a2, a3, a4] := by
  have h1 := h ls[k] (List.getElem_mem hk)
  rw [List.getElem?_eq_getElem hk]
  match hl : ls[k], h1 with
  | [a0, a1, a2, a3, a4], _ => exact ⟨a0, a1, a2, a3, a4, rfl⟩
theorem insP_w {O : List Pt} {z : List LV} (hz : z.length = 5) {a b m e : Nat} : ∀ c ∈ ((O.map ofPt ++ [z]).take a ++ ((O.map ofPt ++ [z]).drop b).take m ++ (O.map ofPt ++ [z]).drop e), c.length = 5 := by
  intro c hc
  have h1 : c ∈ O.map ofPt ++ [z] := by
    rcases List.mem_append.1 hc with hc | hc
    · rcases List.mem_append.1 hc with hc | hc
      · exact List.mem_of_mem_take hc
      · exact List.mem_of_mem_drop (List.mem_of_mem_take hc)
    · exact List.mem_of_mem_drop hc
  rcases List.mem_append.1 h1 with h1 | h1
  · obtain ⟨x, _, rfl⟩ := List.mem_map.1 h1; rfl
  · rw [List.mem_singleton.1 h1]; exact hz
theorem insP_eq {q : Rat} {O : List Pt} {z : List LV} {c : Pt} {i k : Nat} (hO : O.length = i) (hk : k ≤ i) (hp : posP q O c O.length = k) :
    ((O.map ofPt ++ [z]).take (0 + (k + 1)) ++ ((O.map ofPt ++ [z]).drop (0 + k)).take (i - k) ++ (O.map ofPt ++ [z]).drop (0 + (k + 1) + (i - k))).set (0 + k) (ofPt c) = (insP q O c).map ofPt := by
  simp only [Nat.zero_add]
  rw [ins_copy (O.map ofPt) z (ofPt c) (by rw [List.length_map]; omega) (by rw [List.length_map]; omega)]
  simp [insP, hp, List.map_take, List.map_drop]

set_option maxRecDepth 20000 in
theorem d_sorted_Row {l : List Pt} {q : Rat} (hq : Qb q) (hg : GoodP l) (hn : l.length ≤ 1000000) : Does Tryz.prog 211 [.agg [pl ([-q.num, (q.den : Int)]), sg q.num, mg q.num, sg ((q.den : Int)), mg ((q.den : Int)), sg q.num, mg q.num, sg ((q.den : Int)), mg ((q.den : Int))], .one (pts l)] (.one (pts ((sortP q l)))) := by
  refine does_ (n := 49) Tryz.func211 rfl Tryz.ntmps211 rfl ?_
  refine ac_seq ?_
  refine ac_reg ?_
  refine w_ (p_boxS rfl rfl rfl rfl) ?_
  refine w_ (p_assign rfl rfl) ?_
  refine aw_nil ?_
  refine ac_seq ?_
  refine ac_reg ?_
  refine w_ (p_assign rfl rfl) ?_
  refine aw_nil ?_
  refine ac_seq ?_
  refine ac_seq ?_
  refine ac_reg ?_
  refine w_ (p_move rfl rfl) ?_
  refine w_ (p_len (m := l.length) Tryz.runUnderlying22 rfl (rlen_pts _) rfl) ?_
  refine w_ (p_move rfl rfl) ?_
  refine aw_nil ?_
  refine ac_block ?_
  refine ac_ownNil [5] 76 5 rfl (allAre1 rfl) rfl ?_
  refine ac_pick [2, 5, 9, 10, 11] rfl ?_
  refine ac_loop (fun m L B => ∃ i r, i ≤ l.length ∧ m = l.length - i ∧ L = [(2, .one (.sh [pl ([-q.num, (q.den : Int)]), sg q.num, mg q.num, sg ((q.den : Int)), mg ((q.den : Int)), sg q.num, mg q.num, sg ((q.den : Int)), mg ((q.den : Int))])), (5, .one (.orow r 5 0 i)), (9, .one (pts l)), (10, .one (.int .i64 (((l.length : Nat) : Int)))), (11, .one (.int .i64 (((i : Nat) : Int))))] ∧ B = [.row r 76 5 ((sortP q (l.take i)).map ofPt)]) (m := _) ⟨0, none, Nat.zero_le _, rfl, rfl, rfl⟩ ?_
  rintro m L B ⟨i, r, hp0, hm, rfl, rfl⟩
  by_cases hlt : i < l.length
  · obtain ⟨c, hc⟩ : ∃ c, l[i]? = some c := ⟨_, List.getElem?_eq_getElem hlt⟩
    have hO : (sortP q (l.take i)).length = i := by rw [sortP_len, List.length_take]; omega
    have hcg := hg c (List.mem_of_getElem? hc)
    refine ac_seq ?_
    refine ac_reg ?_
    refine w_ (p_cmp rfl rfl rfl rfl) ?_
    refine aw_nil ?_
    refine ac_seq ?_
    refine ac_t rfl (decide_eq_true (by omega)) ?_
    refine ac_skip ?_
    refine ac_seq ?_
    refine ac_block ?_
    refine ac_seq ?_
    refine ac_reg ?_
    refine w_ (p_index (i) Tryz.runUnderlying22 Tryz.sizeOf76 rfl rfl (rfl) (map_get hc) rfl rfl) ?_
    refine w_ (p_loadSh Tryz.isAgg76 Tryz.sizeOf76 rfl rfl rfl rfl) ?_
    refine a_alloc Tryz.zeroValue76 rfl rfl fun g1 => ?_
    refine a_storeOw 0 Tryz.sizeOf76 rfl rfl rfl rfl rfl rfl rfl ?_
    refine aw_nil ?_
    refine ac_seq ?_
    refine ac_reg ?_
    refine w_ (p_move rfl rfl) ?_
    refine w_ (p_len (m := i) Tryz.runUnderlying22 rfl (rfl) rfl) ?_
    refine w_ (p_assign rfl rfl) ?_
    refine aw_nil ?_
    refine ac_cut (fun L B => ∃ k, k ≤ i ∧ posP q (sortP q (l.take i)) c (sortP q (l.take i)).length = k ∧ L = [(2, .one (.sh [pl ([-q.num, (q.den : Int)]), sg q.num, mg q.num, sg ((q.den : Int)), mg ((q.den : Int)), sg q.num, mg q.num, sg ((q.den : Int)), mg ((q.den : Int))])), (5, .one (.orow r 5 0 i)), (7, .one (.ow g1 0)), (9, .one (pts l)), (10, .one (.int .i64 (((l.length : Nat) : Int)))), (11, .one (.int .i64 (((i : Nat) : Int)))), (8, .one (.int .i64 (((k : Nat) : Int))))] ∧ B = [.blk g1 76 [pl c.c.x, pl c.c.y, sg c.c.d, mg c.c.d, .int .i64 c.id], .row r 76 5 ((sortP q (l.take i)).map ofPt)]) ?_ ?_
    · skip
      refine ac_block ?_
      refine ac_pick [2, 5, 7, 9, 10, 11, 8] rfl ?_
      refine ac_loop (fun m L B => ∃ k, k ≤ i ∧ posP q (sortP q (l.take i)) c k = posP q (sortP q (l.take i)) c (sortP q (l.take i)).length ∧ m = k ∧ L = [(2, .one (.sh [pl ([-q.num, (q.den : Int)]), sg q.num, mg q.num, sg ((q.den : Int)), mg ((q.den : Int)), sg q.num, mg q.num, sg ((q.den : Int)), mg ((q.den : Int))])), (5, .one (.orow r 5 0 i)), (7, .one (.ow g1 0)), (9, .one (pts l)), (10, .one (.int .i64 (((l.length : Nat) : Int)))), (11, .one (.int .i64 (((i : Nat) : Int)))), (8, .one (.int .i64 (((k : Nat) : Int))))] ∧ B = [.blk g1 76 [pl c.c.x, pl c.c.y, sg c.c.d, mg c.c.d, .int .i64 c.id], .row r 76 5 ((sortP q (l.take i)).map ofPt)]) (m := _) ⟨i, Nat.le_refl _, by rw [hO], rfl, rfl, rfl⟩ ?_
      rintro m L B ⟨k, hq0, hq1, hm, rfl, rfl⟩
      rcases Nat.eq_zero_or_pos k with h0 | h0
      · have hpos : posP q (sortP q (l.take i)) c (sortP q (l.take i)).length = k := by rw [← hq1, h0]; rfl
        refine ac_seq ?_
        refine ac_seq ?_
        refine ac_draw mixed_ 10 [17, 18, 19, 20, 21, 22, 23, 24, 25, 26] [[], [0], [1], [2], [2], [2], [2, 5], [2, 4, 6], [2, 7], [2]] [.one (.int .i64 (((k : Nat) : Int))), .one (.bool ((decide (0 < (((k : Nat) : Int)))))), .one (.bool ((decide (0 < (((k : Nat) : Int)))))), .un, .un, .un, .un, .un, .un, .un] rfl rfl rfl ⟨p_move rfl rfl, p_cmp rfl rfl rfl rfl, p_move rfl rfl, p_gskip rfl rfl (decide_eq_false (by omega)) rfl, p_gskip rfl rfl (decide_eq_false (by omega)) rfl, p_gskip rfl rfl (decide_eq_false (by omega)) rfl, p_gskip rfl rfl (decide_eq_false (by omega)) rfl, p_gskip rfl rfl (decide_eq_false (by omega)) rfl, p_gskip rfl rfl (decide_eq_false (by omega)) rfl, p_gskip rfl rfl (decide_eq_false (by omega)) rfl, trivial⟩ rfl ?_
        refine w_ (p_gskip rfl rfl (decide_eq_false (by omega)) rfl) ?_
        refine w_ (p_pickF rfl (decide_eq_false (by omega)) rfl rfl) ?_
        refine aw_nil ?_
        refine ac_f rfl (rfl) ?_
        refine ac_pick [2, 5, 7, 9, 10, 11, 8] rfl ?_
        refine ac_exit ?_
        repeat refine seqQ_exit ?_
        refine blkQ_here ?_
        exact ⟨k, hq0, hpos, rfl, rfl⟩
      · obtain ⟨x, hx⟩ : ∃ x, (sortP q (l.take i))[k - 1]? = some x := ⟨_, List.getElem?_eq_getElem (by omega)⟩
        have hxg := hg x (List.mem_of_mem_take (sortP_mem (List.mem_of_getElem? hx)))
        cases hls : before q c x
        · have hpos : posP q (sortP q (l.take i)) c (sortP q (l.take i)).length = k := by rw [← hq1, posP_off h0 hx hls]
          refine ac_seq ?_
          refine ac_seq ?_
          refine ac_draw mixed_ 10 [17, 18, 19, 20, 21, 22, 23, 24, 25, 26] [[], [0], [1], [2], [2], [2], [2, 5], [2, 4, 6], [2, 7], [2]] [.one (.int .i64 (((k : Nat) : Int))), .one (.bool ((decide (0 < (((k : Nat) : Int)))))), .one (.bool ((decide (0 < (((k : Nat) : Int)))))), .agg [pl c.c.x, pl c.c.y, sg c.c.d, mg c.c.d, .int .i64 c.id], .one (.orow r 5 0 i), .one (.int .i64 (((k : Nat) : Int))), .one (.int .i64 (((k - 1 : Nat) : Int))), .one (.oel r 5 ((0 + (k - 1))) 0), .agg [pl x.c.x, pl x.c.y, sg x.c.d, mg x.c.d, .int .i64 x.id], .agg [pl ([-q.num, (q.den : Int)]), sg q.num, mg q.num, sg ((q.den : Int)), mg ((q.den : Int)), sg q.num, mg q.num, sg ((q.den : Int)), mg ((q.den : Int))]] rfl rfl rfl ⟨p_move rfl rfl, p_cmp rfl rfl rfl rfl, p_move rfl rfl, (p_grun rfl rfl (decide_eq_true (by omega)) (p_loadOw 0 Tryz.isAgg76 Tryz.sizeOf76 rfl rfl rfl rfl rfl)), (p_grun rfl rfl (decide_eq_true (by omega)) (p_move rfl rfl)), (p_grun rfl rfl (decide_eq_true (by omega)) (p_move rfl rfl)), (p_grun rfl rfl (decide_eq_true (by omega)) (p_sub (r := ((k - 1 : Nat) : Int)) rfl rfl (i64_is (by omega) (by omega)) rfl)), (p_grun rfl rfl (decide_eq_true (by omega)) (p_indexO (k - 1) Tryz.runUnderlying22 Tryz.sizeOf76 rfl rfl (rfl) (by omega) rfl)), (p_grun rfl rfl (decide_eq_true (by omega)) (p_loadO 1 Tryz.isAgg76 Tryz.sizeOf76 rfl rfl (by rw [Nat.zero_add]; exact map_get hx) rfl rfl rfl)), (p_grun rfl rfl (decide_eq_true (by omega)) (p_loadSh Tryz.isAgg59 Tryz.sizeOf59 rfl rfl rfl rfl)), trivial⟩ rfl ?_
          refine w_ ((p_grun rfl rfl (decide_eq_true (by omega)) (p_call Tryz.func92 rfl rfl rfl rfl (d_pred_Before (hcg.1) (hxg.1) (hcg.2) (hxg.2) (hq)) rfl))) ?_
          refine w_ (p_pickT rfl (decide_eq_true (by omega)) rfl rfl) ?_
          refine aw_nil ?_
          refine ac_f rfl (hls) ?_
          refine ac_pick [2, 5, 7, 9, 10, 11, 8] rfl ?_
          refine ac_exit ?_
          repeat refine seqQ_exit ?_
          refine blkQ_here ?_
          exact ⟨k, hq0, hpos, rfl, rfl⟩
        · skip
          refine ac_seq ?_
          refine ac_seq ?_
          refine ac_draw mixed_ 10 [17, 18, 19, 20, 21, 22, 23, 24, 25, 26] [[], [0], [1], [2], [2], [2], [2, 5], [2, 4, 6], [2, 7], [2]] [.one (.int .i64 (((k : Nat) : Int))), .one (.bool ((decide (0 < (((k : Nat) : Int)))))), .one (.bool ((decide (0 < (((k : Nat) : Int)))))), .agg [pl c.c.x, pl c.c.y, sg c.c.d, mg c.c.d, .int .i64 c.id], .one (.orow r 5 0 i), .one (.int .i64 (((k : Nat) : Int))), .one (.int .i64 (((k - 1 : Nat) : Int))), .one (.oel r 5 ((0 + (k - 1))) 0), .agg [pl x.c.x, pl x.c.y, sg x.c.d, mg x.c.d, .int .i64 x.id], .agg [pl ([-q.num, (q.den : Int)]), sg q.num, mg q.num, sg ((q.den : Int)), mg ((q.den : Int)), sg q.num, mg q.num, sg ((q.den : Int)), mg ((q.den : Int))]] rfl rfl rfl ⟨p_move rfl rfl, p_cmp rfl rfl rfl rfl, p_move rfl rfl, (p_grun rfl rfl (decide_eq_true (by omega)) (p_loadOw 0 Tryz.isAgg76 Tryz.sizeOf76 rfl rfl rfl rfl rfl)), (p_grun rfl rfl (decide_eq_true (by omega)) (p_move rfl rfl)), (p_grun rfl rfl (decide_eq_true (by omega)) (p_move rfl rfl)), (p_grun rfl rfl (decide_eq_true (by omega)) (p_sub (r := ((k - 1 : Nat) : Int)) rfl rfl (i64_is (by omega) (by omega)) rfl)), (p_grun rfl rfl (decide_eq_true (by omega)) (p_indexO (k - 1) Tryz.runUnderlying22 Tryz.sizeOf76 rfl rfl (rfl) (by omega) rfl)), (p_grun rfl rfl (decide_eq_true (by omega)) (p_loadO 1 Tryz.isAgg76 Tryz.sizeOf76 rfl rfl (by rw [Nat.zero_add]; exact map_get hx) rfl rfl rfl)), (p_grun rfl rfl (decide_eq_true (by omega)) (p_loadSh Tryz.isAgg59 Tryz.sizeOf59 rfl rfl rfl rfl)), trivial⟩ rfl ?_
          refine w_ ((p_grun rfl rfl (decide_eq_true (by omega)) (p_call Tryz.func92 rfl rfl rfl rfl (d_pred_Before (hcg.1) (hxg.1) (hcg.2) (hxg.2) (hq)) rfl))) ?_
          refine w_ (p_pickT rfl (decide_eq_true (by omega)) rfl rfl) ?_
          refine aw_nil ?_
          refine ac_t rfl (hls) ?_
          refine ac_skip ?_
          refine ac_block ?_
          refine ac_reg ?_
          refine w_ (p_move rfl rfl) ?_
          refine w_ (p_sub (r := ((k - 1 : Nat) : Int)) rfl rfl (i64_is (by omega) (by omega)) rfl) ?_
          refine w_ (p_assign rfl rfl) ?_
          refine aw_pick [2, 5, 7, 9, 10, 11, 8] rfl ?_
          refine aw_nil ?_
          refine ⟨_, ?_, k - 1, by omega, by rw [← hq1, posP_on h0 hx hls], rfl, rfl, rfl⟩
          omega
    · rintro L B ⟨k, hp0, hp1, rfl, rfl⟩
      skip
      · skip
        refine ac_seq ?_
        refine ac_reg ?_
        refine w_ (p_move rfl rfl) ?_
        refine w_ (p_build (bd_76) rfl rfl rfl rfl) ?_
        refine w_ (p_lit Tryz.runUnderlying22 Tryz.sizeOf76 Tryz.zeroValue76 rfl rfl rfl rfl rfl rfl rfl rfl rfl rfl) ?_
        refine a_append (ls2 := ((sortP q (l.take i)).map ofPt ++ [zPtL])) (m2 := i + 1) 1 Tryz.runUnderlying22 Tryz.runUnderlying22 Tryz.typeInfo76 rfl rfl Tryz.sizeOf76 Tryz.zeroValue76 rfl rfl rfl rfl rfl rfl rfl (by rw [List.length_map]; omega) (one_w rfl) (one_f rfl) (by show _ + 1 < _; omega) (by rw [List.take_of_length_le (by rw [List.length_map]; omega)]) (rfl) fun r2 => ?_
        refine w_ (p_assign rfl rfl) ?_
        refine aw_nil ?_
        refine ac_seq ?_
        refine ac_draw mixed_ 7 [35, 36, 37, 38, 39, 40, 41] [[], [], [1], [0, 2], [], [], [4, 5]] [.one (.orow r2 5 0 (i + 1)), .one (.int .i64 (((k : Nat) : Int))), .one (.int .i64 (((k + 1 : Nat) : Int))), .one (.orow r2 5 ((0 + (k + 1))) (((i + 1) - (k + 1)))), .one (.orow r2 5 0 (i + 1)), .one (.int .i64 (((k : Nat) : Int))), .one (.orow r2 5 ((0 + k)) (((i + 1) - k)))] rfl rfl rfl ⟨p_move rfl rfl, p_move rfl rfl, p_add (r := ((k + 1 : Nat) : Int)) rfl rfl (i64_is (by omega) (by omega)) rfl, p_sliceOLo (k + 1) Tryz.runUnderlying22 Tryz.sizeOf76 rfl rfl (rfl) (by omega) rfl, p_move rfl rfl, p_move rfl rfl, p_sliceOLo (k) Tryz.runUnderlying22 Tryz.sizeOf76 rfl rfl (rfl) (by omega) rfl, trivial⟩ rfl ?_
        refine a_copyO (m' := i - k) (ls2 := (((sortP q (l.take i)).map ofPt ++ [zPtL]).take (0 + (k + 1)) ++ (((sortP q (l.take i)).map ofPt ++ [zPtL]).drop (0 + k)).take (i - k) ++ ((sortP q (l.take i)).map ofPt ++ [zPtL]).drop (0 + (k + 1) + (i - k)))) 0 Tryz.runUnderlying22 Tryz.sizeOf76 rfl rfl rfl rfl (by simp; omega) (by simp; omega) (by simp) (by show min _ _ = _; omega) (rfl) rfl ?_
        refine aw_nil ?_
        refine ac_reg ?_
        refine w_ (p_move rfl rfl) ?_
        refine w_ (p_move rfl rfl) ?_
        refine w_ (p_loadOw 1 Tryz.isAgg76 Tryz.sizeOf76 rfl rfl rfl rfl rfl) ?_
        refine w_ (p_indexO (k) Tryz.runUnderlying22 Tryz.sizeOf76 rfl rfl (rfl) (by omega) rfl) ?_
        obtain ⟨z0, z1, z2, z3, z4, hz⟩ := five (k := 0 + k) (insP_w (O := (sortP q (l.take i))) (z := zPtL) (a := 0 + (k + 1)) (b := 0 + k) (m := i - k) (e := 0 + (k + 1) + (i - k)) rfl) (by simp; omega)
        refine a_storeO (ls2 := ((insP q (sortP q (l.take i)) c).map ofPt)) 0 Tryz.sizeOf76 rfl rfl rfl rfl rfl rfl (hz) rfl (insP_eq hO hp0 hp1) ?_
        refine aw_nil ?_
        refine ac_reg ?_
        refine w_ (p_add (r := ((i + 1 : Nat) : Int)) rfl rfl (i64_is (by omega) (by omega)) rfl) ?_
        refine w_ (p_move rfl rfl) ?_
        refine aw_rowEq 0 rfl (by rw [← sortP_take hc]) ?_
        refine aw_pick [2, 5, 9, 10, 11] rfl ?_
        refine aw_drop 1 rfl ?_
        refine aw_nil ?_
        refine ⟨_, ?_, i + 1, r2, by omega, rfl, rfl, rfl⟩
        omega
  · have hO : (sortP q (l.take i)).length = i := by rw [sortP_len, List.length_take]; omega
    have hi : l.take i = l := List.take_of_length_le (by omega)
    refine ac_seq ?_
    refine ac_reg ?_
    refine w_ (p_cmp rfl rfl rfl rfl) ?_
    refine aw_nil ?_
    refine ac_seq ?_
    refine ac_f rfl (decide_eq_false (by omega)) ?_
    refine ac_exit ?_
    repeat refine seqQ_exit ?_
    refine blkQ_here ?_
    refine ac_seq ?_
    refine ac_reg ?_
    refine w_ (p_move rfl rfl) ?_
    refine w_ (p_assign rfl rfl) ?_
    refine aw_nil ?_
    refine ac_pub 0 [4] rfl (allAre1 rfl) (by rw [List.length_map, hO]) (by rw [List.length_map, hO]; omega) rfl ?_
    refine ac_ret ?_
    exact retB_1 Tryz.results211 (rv_tmp rfl rfl) (by rw [hi]; rfl)

set_option maxRecDepth 20000 in
theorem d_sorted_Certs {row : List Pt} {q : Rat} (hq : Qb q) (hg : GoodP row) (hn : row.length ≤ 1000000) : DoesB Tryz.prog 212 [.agg [pl ([-q.num, (q.den : Int)]), sg q.num, mg q.num, sg ((q.den : Int)), mg ((q.den : Int)), sg q.num, mg q.num, sg ((q.den : Int)), mg ((q.den : Int))], .one (pts row)] [] fun R B => ∃ r, R = .one (.orow r 7 0 (orders q row).length) ∧ B = [.row r 166 7 ((orders q row).map ofCt)] := by
  refine does_ (n := 35) Tryz.func212 rfl Tryz.ntmps212 rfl ?_
  refine ac_seq ?_
  refine ac_reg ?_
  refine w_ (p_boxS rfl rfl rfl rfl) ?_
  refine w_ (p_assign rfl rfl) ?_
  refine aw_nil ?_
  refine ac_seq ?_
  refine ac_reg ?_
  refine w_ (p_assign rfl rfl) ?_
  refine aw_nil ?_
  refine ac_seq ?_
  refine ac_seq ?_
  refine ac_reg ?_
  refine w_ (p_assign rfl rfl) ?_
  refine aw_nil ?_
  refine ac_block ?_
  refine ac_ownNil [5] 166 7 rfl (allAre1 rfl) rfl ?_
  refine ac_rowEq 0 rfl (show [] = (orders q (row.take 1)).map ofCt by cases row <;> rfl) ?_
  refine ac_pick [1, 2, 5, 6] rfl ?_
  refine ac_loop (fun m L B => ∃ i r, 0 < i ∧ (i ≤ row.length ∨ i = 1) ∧ m = row.length - i ∧ L = [(1, .one (pts row)), (2, .one (.sh [pl ([-q.num, (q.den : Int)]), sg q.num, mg q.num, sg ((q.den : Int)), mg ((q.den : Int)), sg q.num, mg q.num, sg ((q.den : Int)), mg ((q.den : Int))])), (5, .one (.orow r 7 0 ((i - 1)))), (6, .one (.int .i64 (((i : Nat) : Int))))] ∧ B = [.row r 166 7 ((orders q (row.take i)).map ofCt)]) (m := _) ⟨1, none, Nat.one_pos, by omega, rfl, rfl, rfl⟩ ?_
  rintro m L B ⟨i, r, hp0, hp1, hm, rfl, rfl⟩
  by_cases hlt : i < row.length
  · obtain ⟨a, ha⟩ : ∃ a, row[i - 1]? = some a := ⟨_, List.getElem?_eq_getElem (by omega)⟩
    obtain ⟨b, hb⟩ : ∃ b, row[i]? = some b := ⟨_, List.getElem?_eq_getElem hlt⟩
    have hag := hg a (List.mem_of_getElem? ha)
    have hbg := hg b (List.mem_of_getElem? hb)
    have hol : (orders q (row.take i)).length = i - 1 := by rw [orders_len, List.length_take]; omega
    refine ac_seq ?_
    refine ac_seq ?_
    refine ac_reg ?_
    refine w_ (p_move rfl rfl) ?_
    refine w_ (p_move rfl rfl) ?_
    refine w_ (p_len (m := row.length) Tryz.runUnderlying22 rfl (rlen_pts _) rfl) ?_
    refine w_ (p_cmp rfl rfl rfl rfl) ?_
    refine aw_nil ?_
    refine ac_t rfl (decide_eq_true (by omega)) ?_
    refine ac_skip ?_
    refine ac_seq ?_
    refine ac_block ?_
    refine ac_seq ?_
    refine ac_drawAS mixed_ 16 15 13 166 166 7 28 [.int .i64 0, .int .i64 0, .int .i64 0, .int .i64 0, .int .i64 0, .slice none 0 0, .int .i64 0] [.int .i64 ((((mkOrder q a b))).kind), .int .i64 ((((mkOrder q a b))).i0), .int .i64 ((((mkOrder q a b))).i1), .int .i64 ((((mkOrder q a b))).i2), .int .i64 ((((mkOrder q a b))).i3), pl (((mkOrder q a b)).p), .int .i64 (((mkOrder q a b)).want)] [16, 17, 18, 19, 20, 21, 22, 23, 24, 25, 26, 27, 15, 28, 29, 7] [[], [], [], [2], [1, 3], [4], [], [], [6, 7], [8], [5, 9], [0, 10], [11], [12], [12], [], [13, 15]] [.agg [pl ([-q.num, (q.den : Int)]), sg q.num, mg q.num, sg ((q.den : Int)), mg ((q.den : Int)), sg q.num, mg q.num, sg ((q.den : Int)), mg ((q.den : Int))], .one (pts row), .one (.int .i64 (((i : Nat) : Int))), .one (.int .i64 (((i - 1 : Nat) : Int))), .one (.sh [pl a.c.x, pl a.c.y, sg a.c.d, mg a.c.d, .int .i64 a.id]), .agg [pl a.c.x, pl a.c.y, sg a.c.d, mg a.c.d, .int .i64 a.id], .one (pts row), .one (.int .i64 (((i : Nat) : Int))), .one (.sh [pl b.c.x, pl b.c.y, sg b.c.d, mg b.c.d, .int .i64 b.id]), .agg [pl b.c.x, pl b.c.y, sg b.c.d, mg b.c.d, .int .i64 b.id], .one (.row [[pl a.c.x, pl a.c.y, sg a.c.d, mg a.c.d, .int .i64 a.id], [pl b.c.x, pl b.c.y, sg b.c.d, mg b.c.d, .int .i64 b.id]]), .tup [.agg [.int .i64 ((((mkOrder q a b))).kind), .int .i64 ((((mkOrder q a b))).i0), .int .i64 ((((mkOrder q a b))).i1), .int .i64 ((((mkOrder q a b))).i2), .int .i64 ((((mkOrder q a b))).i3), pl (((mkOrder q a b)).p), .int .i64 (((mkOrder q a b)).want)], .one (.int .i64 0)], .tup [.agg [.int .i64 ((((mkOrder q a b))).kind), .int .i64 ((((mkOrder q a b))).i0), .int .i64 ((((mkOrder q a b))).i1), .int .i64 ((((mkOrder q a b))).i2), .int .i64 ((((mkOrder q a b))).i3), pl (((mkOrder q a b)).p), .int .i64 (((mkOrder q a b)).want)], .one (.int .i64 0)], .agg [.int .i64 ((((mkOrder q a b))).kind), .int .i64 ((((mkOrder q a b))).i0), .int .i64 ((((mkOrder q a b))).i1), .int .i64 ((((mkOrder q a b))).i2), .int .i64 ((((mkOrder q a b))).i3), pl (((mkOrder q a b)).p), .int .i64 (((mkOrder q a b)).want)], .one (.int .i64 0), .un] [] [] rfl rfl rfl (by decide) trivial rfl rfl rfl rfl rfl rfl Tryz.sizeOf166 rfl rfl rfl ⟨p_loadSh Tryz.isAgg59 Tryz.sizeOf59 rfl rfl rfl rfl, p_move rfl rfl, p_move rfl rfl, p_sub (r := ((i - 1 : Nat) : Int)) rfl rfl (i64_is (by omega) (by omega)) rfl, p_index (i - 1) Tryz.runUnderlying22 Tryz.sizeOf76 rfl rfl (rfl) (map_get ha) rfl rfl, p_loadSh Tryz.isAgg76 Tryz.sizeOf76 rfl rfl rfl rfl, p_move rfl rfl, p_move rfl rfl, p_index (i) Tryz.runUnderlying22 Tryz.sizeOf76 rfl rfl (rfl) (map_get hb) rfl rfl, p_loadSh Tryz.isAgg76 Tryz.sizeOf76 rfl rfl rfl rfl, p_lit Tryz.runUnderlying22 Tryz.sizeOf76 Tryz.zeroValue76 rfl rfl rfl rfl rfl rfl rfl rfl rfl rfl, p_call Tryz.func201 rfl rfl rfl rfl (d_cert_Order (hag.1) (hbg.1) (hag.2) (hbg.2) (hq)) rfl, p_move rfl rfl, p_extract rfl rfl rfl, p_extract rfl rfl rfl, al_alloc Tryz.zeroValue166 rfl, trivial⟩ fun g1 => ⟨_, _, rfl, rfl, ?_⟩
    refine w_ (p_assign rfl rfl) ?_
    refine aw_nil ?_
    refine ac_reg ?_
    refine w_ (p_move rfl rfl) ?_
    refine w_ (p_loadOw 0 Tryz.isAgg166 Tryz.sizeOf166 rfl rfl rfl rfl rfl) ?_
    refine w_ (p_lit Tryz.runUnderlying48 Tryz.sizeOf166 Tryz.zeroValue166 rfl rfl rfl rfl rfl rfl rfl rfl rfl rfl) ?_
    refine a_append (ls2 := ((orders q (row.take (i + 1))).map ofCt)) (m2 := i + 1 - 1) 1 Tryz.runUnderlying48 Tryz.runUnderlying48 Tryz.typeInfo166 rfl rfl Tryz.sizeOf166 Tryz.zeroValue166 rfl rfl rfl rfl rfl rfl rfl (by rw [List.length_map]; omega) (one_w rfl) (one_f rfl) (by show _ + 1 < _; omega) (by rw [List.take_of_length_le (by rw [List.length_map]; omega), orders_take hp0 ha hb]; exact snoc_map ofCt _ _) (by show i - 1 + 1 = _; omega) fun r2 => ?_
    refine w_ (p_assign rfl rfl) ?_
    refine aw_nil ?_
    refine ac_reg ?_
    refine w_ (p_move rfl rfl) ?_
    refine w_ (p_add (r := ((i + 1 : Nat) : Int)) rfl rfl (i64_is (by omega) (by omega)) rfl) ?_
    refine w_ (p_assign rfl rfl) ?_
    refine aw_pick [1, 2, 5, 6] rfl ?_
    refine aw_drop 1 rfl ?_
    refine aw_nil ?_
    refine ⟨_, ?_, i + 1, r2, by omega, by omega, rfl, rfl, rfl⟩
    omega
  · have hi : row.take i = row := List.take_of_length_le (by omega)
    have hol : (orders q row).length = i - 1 := by rw [orders_len]; omega
    refine ac_rowEq 0 rfl (by rw [hi]) ?_
    refine ac_slotEq 5 (y := .one (.orow r 7 0 (orders q row).length)) rfl (by rw [hol]) ?_
    refine ac_seq ?_
    refine ac_seq ?_
    refine ac_reg ?_
    refine w_ (p_move rfl rfl) ?_
    refine w_ (p_move rfl rfl) ?_
    refine w_ (p_len (m := row.length) Tryz.runUnderlying22 rfl (rlen_pts _) rfl) ?_
    refine w_ (p_cmp rfl rfl rfl rfl) ?_
    refine aw_nil ?_
    refine ac_f rfl (decide_eq_false (by omega)) ?_
    refine ac_exit ?_
    repeat refine seqQ_exit ?_
    refine blkQ_here ?_
    refine ac_seq ?_
    refine ac_reg ?_
    refine w_ (p_move rfl rfl) ?_
    refine w_ (p_assign rfl rfl) ?_
    refine aw_nil ?_
    refine ac_ret ?_
    exact ⟨_, [], _, rvs_1 Tryz.results212 (rv_tmp rfl rfl), rfl, ⟨r, rfl, rfl⟩⟩

end Orr

namespace Orr
open Go
variable {P : Program} {ops : Array Oper} {n d : Nat} {rest : List Oper} {N : Sg → List OB → Prop} {L : Sg} {B : List OB} {ty : TypeId} {pos : String} {after : Array Edge}
theorem p_slice3 (i : Nat) {T E sz : Nat} {x y z : Operand} {kd kd' : IntKind} {p q : Int} {l l' : List (List LV)} (hu : ∀ w, (underlying T).run P w = .ok (.slice E) w) (hs : ∀ w, (Go.sizeOf E).run P w = .ok sz w) (hx : evA L x = some (.one (.row l))) (hy : evA L y = some (.one (.int kd p))) (hz : evA L z = some (.one (.int kd' q))) (hp : p = (i : Int)) (hq : q = (i : Int)) (hi : i ≤ l.length) (hsz : ∀ z ∈ l, z.length = sz) (hl' : l.take i = l') (hd : Nat.blt d n = true) :
    AP P ops n { dst := some d, op := .slice T x none (some y) (some z), type := ty, pos := pos, after := after, guard := none } d (.one (.frow l')) L B := by
  refine p_val hd fun K Ob w0 w a Bs L' Fs h hL hB => ?_
  subst hp hq
  obtain ⟨v, hv, hr⟩ := ev_of hL hx
  obtain ⟨u, hu', hr2⟩ := ev_of hL hy
  obtain ⟨u3, hu3, hr3⟩ := ev_of hL hz
  obtain rfl := rep_int hr2
  obtain rfl := rep_int hr3
  obtain ⟨A, c, rfl, hc, hr'⟩ := row_slice hr
  have key := row_part (lo := 0) (hi := i) (c' := i) hr' (Nat.zero_le _) hi (.inr rfl) hsz (l' := l') (by rw [List.drop_zero, Nat.sub_zero]; exact hl')
  have hl : l'.length = i := by rw [← hl', List.length_take]; omega
  refine ⟨.slice (if i = 0 then A else A.map (·.add (0 * sz))) i i, ?_, ⟨key, _, by rw [hl]⟩⟩
  simp [execOp, h.ev hv, h.ev hu', h.ev hu3, Instr.sliceAt, Instr.slice, Instr.sliceBounds, hu, hs, run_sliceBound _ (show i ≤ c by omega), run_sliceBound _ (Nat.le_refl i)]
theorem a_appendF {T E T2 E2 sz m2 : Nat} {x y : Operand} {z : Value} {info : TypeInfo} {l l2 ls2 : List (List LV)} {u : LV} {zs : List LV} (hu : ∀ w, (underlying T).run P w = .ok (.slice E) w) (hu2 : ∀ w, (underlying T2).run P w = .ok (.slice E2) w) (hi' : ∀ w, (typeInfo E).run P w = .ok info w) (hb2 : Nat.ble info.bytes 4096 = true) (hb3 : Nat.blt 0 info.bytes = true) (hs : ∀ w, (Go.sizeOf E).run P w = .ok sz w)
    (hz : ∀ w, (zeroValue E).run P w = .ok z w) (hz1 : zl z = some zs) (hz2 : Nat.beq zs.length sz = true) (hsz : Nat.blt 0 sz = true) (hx : evA L x = some (.one (.frow l))) (hy : evA L y = some (.one u)) (hl2 : srcL u = some l2) (hd : Nat.blt d n = true)
    (hw1 : ∀ c ∈ l, c.length = sz) (hfr1 : ∀ c ∈ l, ∀ x ∈ c, x.free = true) (hw : ∀ c ∈ l2, c.length = sz) (hfr : ∀ c ∈ l2, ∀ x ∈ c, x.free = true) (hk : 0 < l2.length) (hm : l.length + l2.length < 8589934592) (hls : l ++ l2 = ls2) (hm2 : l.length + l2.length = m2)
    (k : ∀ r', AW P ops n rest N ((d, .one (.orow r' sz 0 m2)) :: L) (.row r' E sz ls2 :: B)) :
    AW P ops n ({ dst := some d, op := .call { callee := .builtin .append, args := #[x, y], argTypes := #[T, T2] }, type := ty, pos := pos, after := after, guard := none } :: rest) N L B := by
  rintro K Ob w0 w a Q ⟨L', Bs, h, hL, hB⟩ hQ
  subst hls hm2
  rw [Nat.blt_eq] at hsz
  have e33 : (2 : Nat) ^ 33 = 8589934592 := by decide
  have h48 : (2 : Nat) ^ 48 = 281474976710656 := by decide
  obtain ⟨v, hv, hr0⟩ := ev_of hL hx
  obtain ⟨hr, A0, rfl⟩ : LRep w (owns Ob Bs) v (.row l) ∧ ∃ A, v = .slice A l.length l.length := hr0
  obtain ⟨v2, hv2, hr2⟩ := ev_of hL hy
  have hz2 := Nat.eq_of_beq_eq_true hz2
  have hzl := (zl_of (w := w) (O := owns Ob Bs) hz1).len
  have hr2 : XRep w (owns Ob Bs) v2 u := hr2
  obtain ⟨oss, ho, hold⟩ := src_of hr hw1
  obtain ⟨nss, hn, hsrc⟩ := src_of (srcL_of hr2 hl2) hw
  have h2 := h.add (f := ⟨fun w O => (∀ t x, lk L t = some x → ∃ v, look L' t = some v ∧ ARep w O v x) ∧ BsRep w O B Bs ∧ RReps w O oss l ∧ RReps w O nss l2, fun hle h => ⟨keep_of hle h.1, h.2.1.keep hle, h.2.2.1.keep hle, h.2.2.2.keep hle⟩⟩) ⟨hL, hB, ho, hn⟩
  obtain ⟨v', w', Bo', hr', ho', hst⟩ := run_grow (P := P) (v := .slice A0 l.length l.length) (c := l.length) (zs := z.cells.toList) h2 hi' rfl hz (by simp) (by omega)
    (fun w' he => run_firstCells (hold.keep (w' := w') (fun p v hp => by rw [show w'.cell? p = w.cell? p from by simp only [World.cell?, he]]; exact hp))) hsrc hold.1 (by omega)
  have hb2' := Nat.le_of_ble_eq_true hb2
  have hb3' : 0 < info.bytes := by rwa [Nat.blt_eq] at hb3
  have hbig : ¬ (Builtin.nextslicecap (l.length + l2.length) l.length * info.bytes > 2 ^ 48) := by
    have := nextslicecap_le (l.length + l2.length) l.length (by omega)
    have h2 : Builtin.nextslicecap (l.length + l2.length) l.length * info.bytes ≤ (4 * (l.length + l2.length) + 2048) * 4096 := Nat.mul_le_mul this hb2'
    omega
  obtain ⟨A', c', rfl, hA'⟩ := hsrc.2
  have hlen : ∀ w, (Builtin.lenOf (.slice A' l2.length c')).run P w = .ok l2.length w := fun _ => rfl
  have hrun : (Builtin.append_ #[T, T2] ty #[.slice A0 l.length l.length, .slice A' l2.length c']).run P w = .ok v' w' := by
    rw [← hr']
    have hroom : ¬ (l.length + l2.length ≤ l.length) := by omega
    have hbb : ¬ (info.bytes = 0) := by omega
    simp only [Builtin.append_, hu, hu2, hs, hlen, hi', Sem.run_bind, Sem.run_pure, Result.andThen_ok, List.getElem?_toArray, List.getElem?_cons_zero, List.getElem?_cons_succ, hroom, if_false, Bool.false_eq_true, false_or, hbb, and_false, hbig, Bool.not_false, if_true]
  have h' := hst.put v' hd
  obtain ⟨h4, h5, h6, h7⟩ := h'.fact 0 rfl
  obtain ⟨hcl, ⟨rfl, hm0, rfl⟩ | ⟨g, c, ex, rfl, rfl, hl, hmc, hc63⟩⟩ := ho'
  · exact absurd hm0 (by omega)
  · refine step_value (w' := w') (v := _) rfl (by simp [execOp, resolve, invoke, h.ev hv, h.ev hv2, builtin, hrun]; rfl) ?_
    have e1 : oss.flatten ++ nss.flatten = (oss ++ nss).flatten := by simp
    refine k (some (g, c)) _ _ _ _ _ _ (SA.of (Bo := [_]) h'.noFacts (put_of h4 ?_) ?_ h5) hQ
    · exact ⟨by omega, 0, rfl, fun _ => by simp⟩
    · refine ⟨hsz, ?_, ?_, oss ++ nss, ex, h6.append h7, by rw [e1], by rw [← e1]; exact hl, by simp; omega, hc63⟩
      · intro c hc
        rcases List.mem_append.1 hc with hc | hc
        · exact hw1 c hc
        · exact hw c hc
      · intro c hc
        rcases List.mem_append.1 hc with hc | hc
        · exact hfr1 c hc
        · exact hfr c hc
end Orr

namespace Orr
open Go
variable {P : Program} {ops : Array Oper} {n : Nat} {rest : List Oper} {N : Sg → List OB → Prop} {L : Sg} {B : List OB}
end Orr
