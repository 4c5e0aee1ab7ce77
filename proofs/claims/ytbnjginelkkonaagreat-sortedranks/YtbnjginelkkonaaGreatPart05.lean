/- R3 PolyL RatL R2 R4 RefPL CrvL CrowdL PredL CertL Y1 Y2 Q1 C1 C2 D1 E1 -/
import Derived.Test.YtbnjginelkkonaaGreatPart04
set_option linter.all false

namespace Orr
open Go Go.Proofs
set_option maxRecDepth 10000
theorem P5 (x : Nat) : (Vw (Qx x)).length = (Qx x).length := Xn _
theorem Qpm (z : Int) : ∀ c ∈ [[LV.int .i64 z]],c.length = 1 := fun c hc => by rw [List.mem_singleton.1 hc]; rfl
theorem Q6q {x : Nat} (h : x ≤ 1000000000) : (Qx x).length ≤ 3 := Qov (by omega)
theorem tdn (n : Nat) : ((n : Nat) : Int).tdiv 10000 = ((n / 10000 : Nat) : Int) := rfl
theorem Ml (n : Nat) : ((n : Nat) : Int).tdiv 2 = ((n / 2 : Nat) : Int) := rfl
theorem M0 {x mu c0 : Nat} (hx : sz x ≤ 100000000) (hmu : mu ≤ 65536) (hc : c0 ≤ 1000000000) : Qc Tryz.prog 163 [.one (nd x),.one (.int .i64 (mu : Int)),.one (.int .i64 (c0 : Int))] [.one (nd (x * mu + c0))] := by
  have hxl := Nat.le_trans (Yu x) hx
  have hll := P5 x
  show Qc Tryz.prog 163 [.one (.row (Vw (Qx x))),.one (.int .i64 (mu : Int)),.one (.int .i64 (c0 : Int))] _
  refine Z6 Tryz.func163 rfl ?_
  refine go tt [.r 11 (eI (b := (((Qx x).length + 2 : Nat) : Int)) (by rw [hll]; omega)),.i 0,.i ((Qx x).length + 2)] rfl (by simp [Qa]; omega) ?_
  refine lp (S := Nat × Nat × List Nat) 1 (fun L1 s => (8,.v (.one (.int .i64 (s.1 : Int)))) :: (7,.v (.one (.orow 0 1 none))) :: (2,.v (.one (.int .i64 (s.2.1 : Int)))) :: L1.filter (fun x => x.1 != 12)) (fun s => [.row false 3 1 (Vw s.2.2)]) (fun s => ((Qx x).length - s.1) * 4 + (Qx s.2.1).length) (fun s => Dg s.2.2 ∧ s.2.2.length = s.1 ∧ Xz s.2.2 + s.2.1 * 10000 ^ s.1 = Xz ((Qx x).take s.1) * mu + c0 ∧ (s.1 ≤ (Qx x).length ∨ s.1 + (Qx s.2.1).length ≤ (Qx x).length + 3) ∧ s.2.1 ≤ 1000000000) (0,c0,[]) ⟨Dg.nil,rfl,by simp [Xz],.inl (Nat.zero_le _),hc⟩ rfl (fun _ _ => rfl) rfl fun s hs => ?_
  obtain ⟨i,c,o⟩ := s
  obtain ⟨hp0,hp1,hp2,hp3,hp4⟩ := hs
  dsimp only at hp0 hp1 hp2 hp3 hp4 ⊢
  have hcl := Q6q (x := c) hp4
  by_cases h1 : i < (Qx x).length
  · obtain ⟨d,hd⟩ : ∃ d,(Qx x)[i]? = some d := ⟨_,List.getElem?_eq_getElem h1⟩
    have hd9 := V9 x d (List.mem_of_getElem? hd)
    have hdm : d * mu ≤ 9999 * 65536 := Nat.mul_le_mul (by omega) hmu
    have hc3 := Q6q (x := (c + d * mu) / 10000) (by omega)
    have hol : (Vw o).length = i := by rw [Xn,hp1]
    refine go tt [.g 17 true (decide_eq_true (by omega)),.t rfl,.t (decide_eq_true (by omega)),.x (Zd hd),.r 33 (eI (b := ((d * mu : Nat) : Int)) (by simp)),.r 34 (eI (b := ((c + d * mu : Nat) : Int)) (by omega)),.r 37 (eI (b := (((c + d * mu) % 10000 : Nat) : Int)) (by rfl)),.s (sz := 1) (Qpm _),.r 41 (eI (b := (((c + d * mu) / 10000 : Nat) : Int)) (by rfl))] rfl (by simp [Qa,hol,tdn,Ml,-Int.natCast_add,-Int.natCast_mul]; omega) ?_
    exact rd (i + 1,(c + d * mu) / 10000,o ++ [(c + d * mu) % 10000]) (by dsimp only; omega) ⟨hp0.snoc (Nat.mod_lt _ (by decide)),by dsimp only; rw [List.length_append]; show o.length + 1 = _; omega,by
      dsimp only
      rw [Jv,X7 hd,hp1,Nat.pow_succ]; simp only [Xz,Nat.mul_zero,Nat.add_zero]; have := Qai (d := d) (m := mu) rfl hp2; rw [this]; grind,.inl (by dsimp only; omega),by dsimp only; omega⟩ (by rw [Fm]; rfl)
  · by_cases h2 : 0 < c
    · have hdc := Fj (x := c) (by omega)
      have hol : (Vw o).length = i := by rw [Xn,hp1]
      refine go tt [.g 17 false (decide_eq_false (by omega)),.t (decide_eq_true (by omega)),.f (decide_eq_false (by omega)),.r 37 (eI (b := ((c % 10000 : Nat) : Int)) (by rfl)),.s (sz := 1) (Qpm _),.r 41 (eI (b := ((c / 10000 : Nat) : Int)) (by rfl))] rfl (by simp [Qa,hol,tdn,Ml,-Int.natCast_add]; omega) ?_
      exact rd (i + 1,c / 10000,o ++ [c % 10000]) (by dsimp only; omega) ⟨hp0.snoc (Nat.mod_lt _ (by decide)),by dsimp only; rw [List.length_append]; show o.length + 1 = _; omega,by
        dsimp only
        rw [Jv,hp1,Nat.pow_succ]; simp only [Xz,Nat.mul_zero,Nat.add_zero]; have := Qai (d := 0) (m := mu) rfl hp2; simp only [Nat.zero_mul,Nat.mul_zero,Nat.add_zero] at this; rw [this,List.take_of_length_le (by omega),List.take_of_length_le (by omega)],.inr (by dsimp only; omega),by dsimp only; omega⟩ (by rw [Fm]; rfl)
    · have cc := Ch hp0
      rw [show Xz o = x * mu + c0 from by
        have h := hp2; rw [List.take_of_length_le (by omega),Xc,show c = 0 by omega] at h; omega] at cc
      exact en tt [.g 17 false (decide_eq_false (by omega)),.f (decide_eq_false (by omega)),.c [] cc] rfl rfl trivial
theorem Qp7 {l : List Nat} {j d : Nat} (h : l[j]? = some d) : val (l.drop j) = d + 4294967296 * val (l.drop (j + 1)) := by
  have hi := (List.getElem?_eq_some_iff.1 h).1
  rw [List.drop_eq_getElem_cons hi,(List.getElem?_eq_some_iff.1 h).2]; rfl
theorem Ln : ∀ (l : List Nat) (j : Nat),val (l.drop j) ≤ val l
  | l,0 => Nat.le_refl _
  | [],j + 1 => by simp
  |
   x :: l,j + 1 => by
   have := Ln l j
   rw [List.drop_succ_cons]; simp only [val]; omega
theorem Qxy {l : List Nat} (hu : ∀ u ∈ l,u < 4294967296) (hl : l.length ≤ 1099511627776) (hx : sz (val l) ≤ 100000000) : Qc Tryz.prog 99 [lr l] [.one (nd (val l))] := by
  have hll := Qf l
  show Qc Tryz.prog 99 [.one (.row (lm l))] _
  refine Z6 Tryz.func99 rfl ?_
  refine go tt [.z 3,.r 7 (eI (b := ((l.length : Nat) : Int) - 1) (by rw [hll]))] rfl (by simp [Qa]; omega) ?_
  refine lp (S := Nat × List Nat) 0 (fun L1 s => (4,.v (.one (.int .i64 ((s.1 : Int) - 1)))) :: (3,.v (.one (.row (Vw s.2)))) :: L1) (fun _ => []) (fun s => s.1) (fun s => s.1 ≤ l.length ∧ s.2 = Qx (val (l.drop s.1))) (l.length,[]) ⟨Nat.le_refl _,by dsimp only; rw [List.drop_eq_nil_of_le (Nat.le_refl _)]; show [] = Qx 0; rw [Zx]⟩ rfl (fun _ _ => rfl) rfl fun s hs => ?_
  obtain ⟨j,o⟩ := s
  obtain ⟨hj,ho⟩ := hs
  dsimp only at hj ho ⊢
  subst ho
  cases j with
  | zero => exact en tt [.f (by simp)] rfl (by rw [List.drop_zero]; rfl) trivial
  |
   succ j =>
   obtain ⟨d,hd⟩ : ∃ d,l[j]? = some d := ⟨_,List.getElem?_eq_getElem (by omega)⟩
   have hd9 := hu d (List.mem_of_getElem? hd)
   have hdd := Qp7 hd
   have hle := Ln l j
   have hs2 : sz (val (l.drop (j + 1)) * 65536 + d / 65536) ≤ 100000000 := Nat.le_trans (Xv (by omega)) hx
   have hs1 : sz (val (l.drop (j + 1))) ≤ 100000000 := Nat.le_trans (Xv (by omega)) hx
   have c1 := M0 (x := val (l.drop (j + 1))) (mu := 65536) (c0 := d / 65536) hs1 (by omega) (by omega)
   have c2 := M0 (x := val (l.drop (j + 1)) * 65536 + d / 65536) (mu := 65536) (c0 := d % 65536) hs2 (by omega) (by omega)
   have ej : ((j + 1 : Nat) : Int) - 1 = (j : Int) := by omega
   have e2 : (val (l.drop (j + 1)) * 65536 + d / 65536) * 65536 + d % 65536 = val (l.drop j) := by rw [hdd]; omega
   rw [e2] at c2
   rw [ej]
   refine go tt [.t (decide_eq_true (by omega)),.x (Zf hd),.r 17 (Uj (b := ((d / 65536 : Nat) : Int)) (by rfl)),.c [] c1,.x (Zf hd),.r 25 (Uj (b := ((d % 65536 : Nat) : Int)) (by rfl)),.c [] c2] rfl (by simp [Qa,IntKind.bits]; omega) ?_
   exact rd (j,Qx (val (l.drop j))) (by dsimp only; omega) ⟨by dsimp only; omega,rfl⟩ rfl
theorem Qh3 {x y : Nat} (hx : sz x ≤ 200000000) (hy : sz y ≤ 200000000) : Qc Tryz.prog 243 [.one (nd x),.one (nd y)] [.one (.int .i64 (Rd x y))] := by
  have hxl := Nat.le_trans (Yu x) hx
  have hyl := Nat.le_trans (Yu y) hy
  have lx := P5 x
  have ly := P5 y
  show Qc Tryz.prog 243 [.one (.row (Vw (Qx x))),.one (.row (Vw (Qx y)))] _
  refine Z6 Tryz.func243 rfl ?_
  by_cases hl : (Qx x).length = (Qx y).length
  · refine go tt [.f (by simp; omega),.r 18 (eI (b := ((Qx x).length : Int) - 1) (by rw [lx]))] rfl (by simp [Qa]; omega) ?_
    refine lp (S := Nat) 0 (fun L1 j => (5,.v (.one (.int .i64 ((j : Int) - 1)))) :: L1) (fun _ => []) (fun j => j) (fun j => j ≤ (Qx x).length ∧ (Qx x).drop j = (Qx y).drop j) (Qx x).length ⟨Nat.le_refl _,by rw [List.drop_eq_nil_of_le (Nat.le_refl _),List.drop_eq_nil_of_le (by omega)]⟩ rfl (fun _ _ => rfl) rfl fun j hs => ?_
    obtain ⟨hj,hp⟩ := hs
    cases j with
    |
     zero =>
     have hxy : x = y := by rw [List.drop_zero,List.drop_zero] at hp; rw [← Xc x,← Xc y,hp]
     exact en tt [.f (by simp)] rfl (by rw [Qlm hxy]) trivial
    |
     succ j =>
     obtain ⟨d,hd⟩ : ∃ d,(Qx x)[j]? = some d := ⟨_,List.getElem?_eq_getElem (by omega)⟩
     obtain ⟨e,he⟩ : ∃ e,(Qx y)[j]? = some e := ⟨_,List.getElem?_eq_getElem (by omega)⟩
     have ej : ((j + 1 : Nat) : Int) - 1 = (j : Int) := by omega
     rw [ej]
     by_cases h2 : d = e
     · refine go tt [.t (decide_eq_true (by omega)),.x (Zd hd),.x (Zd he),.f (by simp [h2])] rfl (by simp [Qa]; omega) ?_
       exact rd j (by omega) ⟨by omega,by rw [List.drop_eq_getElem_cons (by omega : j < (Qx x).length),List.drop_eq_getElem_cons (by omega : j < (Qx y).length),hp,(List.getElem?_eq_some_iff.1 hd).2,(List.getElem?_eq_some_iff.1 he).2,h2]⟩ rfl
     · by_cases h3 : d < e
       · have hxy := Av (V9 x) hd he hp h3
         rw [Xc,Xc] at hxy
         exact en tt [.t (decide_eq_true (by omega)),.x (Zd hd),.x (Zd he),.t (by simp; omega),.x (Zd hd),.x (Zd he),.t (decide_eq_true (by omega))] rfl (by rw [Ee hxy]) trivial
       · have hxy := Av (V9 y) he hd hp.symm (by omega)
         rw [Xc,Xc] at hxy
         exact en tt [.t (decide_eq_true (by omega)),.x (Zd hd),.x (Zd he),.t (by simp; omega),.x (Zd hd),.x (Zd he),.f (decide_eq_false (by omega))] rfl (by rw [Ed hxy]) trivial
  · by_cases hlt : (Qx x).length < (Qx y).length
    · exact en tt [.t (by simp; omega),.t (decide_eq_true (by omega))] rfl (by rw [Ee (Qfe hlt)]) trivial
    · exact en tt [.t (by simp; omega),.f (decide_eq_false (by omega))] rfl (by rw [Ed (Qfe (by omega))]) trivial
theorem Sq {o c s P V : Nat} (h : o + c * P = V) : o + P * ((c + s) % 10000) + (c + s) / 10000 * (P * 10000) = V + P * s := by
  have e := Nat.div_add_mod (c + s) 10000
  generalize (c + s) / 10000 = q at *
  generalize (c + s) % 10000 = r at *
  have e2 : P * (c + s) = P * (10000 * q + r) := by rw [e]
  grind
theorem Gl {l : List Nat} {i : Nat} (h : l.length ≤ i) : Xz (l.take (i + 1)) = Xz (l.take i) := by rw [List.take_of_length_le (by omega),List.take_of_length_le h]
theorem Ql0 {l : List Nat} {p v u : Nat} (h : l[p]? = some v) : Xz (l.set p u) + 10000 ^ p * v = Xz l + 10000 ^ p * u := by
  have hp := (List.getElem?_eq_some_iff.1 h).1
  rw [Eg (l.set p u) p (by rw [List.length_set]; omega),Eg l p (by omega),Rx h,Ck hp,List.take_set_of_le (Nat.le_refl _)]
  simp only [Xz]
  generalize 10000 ^ p = P
  grind
theorem Fn {l : List Nat} {p u : Nat} (h : p < l.length) : Xz ((l.set p u).take (p + 1)) = Xz (l.take p) + 10000 ^ p * u := by
  rw [X7 (l := l.set p u) (i := p) (x := u) (by simp [h]),List.take_set_of_le (Nat.le_refl _)]
structure AddI (x y : Nat) (s : Nat × Nat × List Nat) : Prop where
  d : Dg s.2.2
  l : s.2.2.length = s.1
  v : Xz s.2.2 + s.2.1 * 10000 ^ s.1 = Xz ((Qx x).take s.1) + Xz ((Qx y).take s.1)
  c : s.2.1 ≤ 1
  b : s.1 ≤ max (Qx x).length (Qx y).length ∨ s.1 = max (Qx x).length (Qx y).length + 1 ∧ 10000 ^ (max (Qx x).length (Qx y).length) ≤ x + y ∧ s.2.1 = 0
theorem Q27 {x y : Nat} (hx : sz x ≤ 200000000) (hy : sz y ≤ 200000000) : Qc Tryz.prog 261 [.one (nd x),.one (nd y)] [.one (nd (x + y))] := by
  have hxl := Nat.le_trans (Yu x) hx
  have hyl := Nat.le_trans (Yu y) hy
  have lx := P5 x
  have ly := P5 y
  show Qc Tryz.prog 261 [.one (.row (Vw (Qx x))),.one (.row (Vw (Qx y)))] _
  refine Z6 Tryz.func261 rfl ?_
  refine go tt [.o 5 3 1] rfl trivial ?_
  refine lp (S := Nat × Nat × List Nat) 1 (fun L1 s => (7,.v (.one (.int .i64 (s.1 : Int)))) :: (6,.v (.one (.int .i64 (s.2.1 : Int)))) :: (5,.v (.one (.orow 0 1 none))) :: L1) (fun s => [.row false 3 1 (Vw s.2.2)]) (fun s => (max (Qx x).length (Qx y).length - s.1) * 2 + s.2.1) (AddI x y) (0,0,[]) ⟨Dg.nil,rfl,by simp [Xz],by decide,.inl (Nat.zero_le _)⟩ rfl (fun _ _ => rfl) rfl fun s hs => ?_
  obtain ⟨i,c,o⟩ := s
  obtain ⟨hp0,hp1,hp2,hp3,hp4⟩ := hs
  dsimp only at hp0 hp1 hp2 hp3 hp4 ⊢
  have hol : (Vw o).length = i := by rw [Xn,hp1]
  by_cases h1 : i < (Qx x).length
  · obtain ⟨d,hd⟩ : ∃ d,(Qx x)[i]? = some d := ⟨_,List.getElem?_eq_getElem h1⟩
    have hd9 := V9 x d (List.mem_of_getElem? hd)
    by_cases h2 : i < (Qx y).length
    · obtain ⟨e,he⟩ : ∃ e,(Qx y)[i]? = some e := ⟨_,List.getElem?_eq_getElem h2⟩
      have he9 := V9 y e (List.mem_of_getElem? he)
      refine go tt [.g 12 true (decide_eq_true (by omega)),.g 18 true rfl,.t rfl,.t (decide_eq_true (by omega)),.x (Zd hd),.r 33 (eI (b := ((c + d : Nat) : Int)) (by omega)),.t (decide_eq_true (by omega)),.x (Zd he),.r 43 (eI (b := ((c + (d + e) : Nat) : Int)) (by omega)),.r 46 (eI (b := (((c + (d + e)) % 10000 : Nat) : Int)) (by rfl)),.s (sz := 1) (Qpm _),.r 50 (eI (b := (((c + (d + e)) / 10000 : Nat) : Int)) (by rfl))] rfl (by simp [Qa,hol,tdn,Ml,-Int.natCast_add]; omega) ?_
      exact rd (i + 1,(c + (d + e)) / 10000,o ++ [(c + (d + e)) % 10000]) (by dsimp only; omega) ⟨hp0.snoc (Nat.mod_lt _ (by decide)),by dsimp only; rw [List.length_append]; show o.length + 1 = _; omega,by
        dsimp only
        rw [Jv,hp1,Nat.pow_succ]; simp only [Xz,Nat.mul_zero,Nat.add_zero]; have := Sq (s := d + e) hp2; rw [this,X7 hd,X7 he]; grind,by dsimp only; omega,.inl (by dsimp only; omega)⟩ (by rw [Fm]; rfl)
    · refine go tt [.g 12 true (decide_eq_true (by omega)),.g 18 true rfl,.t rfl,.t (decide_eq_true (by omega)),.x (Zd hd),.r 33 (eI (b := ((c + d : Nat) : Int)) (by omega)),.f (decide_eq_false (by omega)),.r 46 (eI (b := (((c + d) % 10000 : Nat) : Int)) (by rfl)),.s (sz := 1) (Qpm _),.r 50 (eI (b := (((c + d) / 10000 : Nat) : Int)) (by rfl))] rfl (by simp [Qa,hol,tdn,Ml,-Int.natCast_add]; omega) ?_
      exact rd (i + 1,(c + d) / 10000,o ++ [(c + d) % 10000]) (by dsimp only; omega) ⟨hp0.snoc (Nat.mod_lt _ (by decide)),by dsimp only; rw [List.length_append]; show o.length + 1 = _; omega,by
        dsimp only
        rw [Jv,hp1,Nat.pow_succ]; simp only [Xz,Nat.mul_zero,Nat.add_zero]; have := Sq (s := d) hp2; rw [this,X7 hd,Gl (l := Qx y) (by omega)]; grind,by dsimp only; omega,.inl (by dsimp only; omega)⟩ (by rw [Fm]; rfl)
  · by_cases h2 : i < (Qx y).length
    · obtain ⟨e,he⟩ : ∃ e,(Qx y)[i]? = some e := ⟨_,List.getElem?_eq_getElem h2⟩
      have he9 := V9 y e (List.mem_of_getElem? he)
      refine go tt [.g 12 false (decide_eq_false (by omega)),.g 18 true (decide_eq_true (by omega)),.t rfl,.f (decide_eq_false (by omega)),.t (decide_eq_true (by omega)),.x (Zd he),.r 43 (eI (b := ((c + e : Nat) : Int)) (by omega)),.r 46 (eI (b := (((c + e) % 10000 : Nat) : Int)) (by rfl)),.s (sz := 1) (Qpm _),.r 50 (eI (b := (((c + e) / 10000 : Nat) : Int)) (by rfl))] rfl (by simp [Qa,hol,tdn,Ml,-Int.natCast_add]; omega) ?_
      exact rd (i + 1,(c + e) / 10000,o ++ [(c + e) % 10000]) (by dsimp only; omega) ⟨hp0.snoc (Nat.mod_lt _ (by decide)),by dsimp only; rw [List.length_append]; show o.length + 1 = _; omega,by
        dsimp only
        rw [Jv,hp1,Nat.pow_succ]; simp only [Xz,Nat.mul_zero,Nat.add_zero]; have := Sq (s := e) hp2; rw [this,X7 he,Gl (l := Qx x) (by omega)]; grind,by dsimp only; omega,.inl (by dsimp only; omega)⟩ (by rw [Fm]; rfl)
    · by_cases h3 : 0 < c
      · refine go tt [.g 12 false (decide_eq_false (by omega)),.g 18 false (decide_eq_false (by omega)),.t (decide_eq_true (by omega)),.f (decide_eq_false (by omega)),.f (decide_eq_false (by omega)),.r 46 (eI (b := ((c % 10000 : Nat) : Int)) (by rfl)),.s (sz := 1) (Qpm _),.r 50 (eI (b := ((c / 10000 : Nat) : Int)) (by rfl))] rfl (by simp [Qa,hol,tdn,Ml,-Int.natCast_add]; omega) ?_
        exact rd (i + 1,c / 10000,o ++ [c % 10000]) (by dsimp only; omega) ⟨hp0.snoc (Nat.mod_lt _ (by decide)),by dsimp only; rw [List.length_append]; show o.length + 1 = _; omega,by
          dsimp only
          rw [Jv,hp1,Nat.pow_succ]; simp only [Xz,Nat.mul_zero,Nat.add_zero]; have := Sq (s := 0) hp2; rw [Nat.add_zero,Nat.mul_zero,Nat.add_zero] at this; rw [this,Gl (l := Qx y) (by omega),Gl (l := Qx x) (by omega)],by dsimp only; omega,.inr ⟨by dsimp only; omega,by
            have h := hp2; rw [List.take_of_length_le (by omega),List.take_of_length_le (by omega),Xc,Xc,show c = 1 by omega,Nat.one_mul,show i = (max (Qx x).length (Qx y).length) by omega] at h; omega,by dsimp only; omega⟩⟩ (by rw [Fm]; rfl)
      · have hv : Xz o = x + y := by
          have h := hp2
          rw [List.take_of_length_le (by omega),List.take_of_length_le (by omega),Xc,Xc,show c = 0 by omega] at h
          omega
        have hfin : o = Qx (x + y) := by
          have h := Qsq (o := o) hp0
          rw [hv] at h
          refine h ?_
          have m1 := Ru (x := x) (y := x + y) (by omega)
          have m2 := Ru (x := y) (y := x + y) (by omega)
          rcases hp4 with hb | ⟨_,hb,_⟩
          · omega
          · have := Qou hb; omega
        exact en tt [.g 12 false (decide_eq_false (by omega)),.g 18 false (decide_eq_false (by omega)),.f (decide_eq_false (by omega))] rfl (by rw [hfin]; rfl) trivial
theorem Sr {o b a c P u d e c' : Nat} (h : o + b = a + c * P) (hs : u + e + c = d + 10000 * c') : (o + P * u) + (b + P * e) = (a + P * d) + c' * (P * 10000) := by
  have e2 : P * (u + e + c) = P * (d + 10000 * c') := by rw [hs]
  grind
theorem Hr (o : List Nat) (i u : Nat) : Vw (o.set i u) = (Vw o).set i [.int .i64 (u : Int)] := by simp [Vw,List.map_set]
theorem Qib {x y : Nat} (hx : sz x ≤ 200000000) (hy : sz y ≤ 200000000) (hyx : y ≤ x) : Qc Tryz.prog 244 [.one (nd x),.one (nd y)] [.one (nd (x - y))] := by
  have hxl := Nat.le_trans (Yu x) hx
  have hyl := Nat.le_trans (Yu y) hy
  have lx := P5 x
  have ly := P5 y
  have hmy := Ru hyx
  show Qc Tryz.prog 244 [.one (.row (Vw (Qx x))),.one (.row (Vw (Qx y)))] _
  refine Z6 Tryz.func244 rfl ?_
  refine go tt [.i (Vw (Qx x)).length,.i (Vw (Qx x)).length] rfl (by simp [Qa]; omega) ?_
  rw [lx,show List.replicate (Qx x).length [LV.int .i64 0] = Vw (List.replicate (Qx x).length 0) from by simp [Vw]]
  refine lp (S := Nat × Nat × List Nat) 1 (fun L1 s => (14,.v (.one (.int .i64 (s.1 : Int)))) :: (6,.v (.one (.int .i64 (s.2.1 : Int)))) :: L1) (fun s => [.row false 3 1 (Vw s.2.2)]) (fun s => (Qx x).length - s.1) (fun s => s.1 ≤ (Qx x).length ∧ s.2.2.length = (Qx x).length ∧ Dg s.2.2 ∧ Xz (s.2.2.take s.1) + Xz ((Qx y).take s.1) = Xz ((Qx x).take s.1) + s.2.1 * 10000 ^ s.1 ∧ s.2.1 ≤ 1) (0,0,List.replicate (Qx x).length 0) ⟨Nat.zero_le _,List.length_replicate ..,Dg.zeros _,by simp [Xz],Nat.zero_le _⟩ rfl (fun _ _ => rfl) rfl fun s hs => ?_
  obtain ⟨i,c,o⟩ := s
  obtain ⟨hp0,hp1,hp2,hp3,hp4⟩ := hs
  dsimp only at hp0 hp1 hp2 hp3 hp4 ⊢
  have hol : (Vw o).length = (Qx x).length := by rw [Xn,hp1]
  by_cases h1 : i < (Qx x).length
  · obtain ⟨d,hd⟩ : ∃ d,(Qx x)[i]? = some d := ⟨_,List.getElem?_eq_getElem h1⟩
    have hd9 := V9 x d (List.mem_of_getElem? hd)
    by_cases h2 : i < (Qx y).length
    · obtain ⟨e,he⟩ : ∃ e,(Qx y)[i]? = some e := ⟨_,List.getElem?_eq_getElem h2⟩
      have he9 := V9 y e (List.mem_of_getElem? he)
      by_cases h3 : d < c + e
      · refine go tt [.t (decide_eq_true (by omega)),.x (Zd hd),.t (decide_eq_true (by omega)),.x (Zd he),.t (decide_eq_true (by omega)),.r 36 (eI (b := ((d + 10000 - c - e : Nat) : Int)) (by omega)),.i i] rfl (by simp [Qa,hol,tdn,Ml,-Int.natCast_add]; omega) ?_
        exact rd (i + 1,1,o.set i (d + 10000 - c - e)) (by dsimp only; omega) ⟨by dsimp only; omega,by dsimp only; rw [List.length_set]; exact hp1,hp2.set (by omega),by
          dsimp only
          rw [Fn (by omega),X7 hd,X7 he,Nat.pow_succ]; exact Sr hp3 (u := d + 10000 - c - e) (d := d) (e := e) (c' := 1) (by omega),by dsimp only; omega⟩ (by rw [Hr]; rfl)
      · refine go tt [.t (decide_eq_true (by omega)),.x (Zd hd),.t (decide_eq_true (by omega)),.x (Zd he),.r 32 (eI (b := ((d - c - e : Nat) : Int)) (by omega)),.f (decide_eq_false (by omega)),.i i] rfl (by simp [Qa,hol,tdn,Ml,-Int.natCast_add]; omega) ?_
        exact rd (i + 1,0,o.set i (d - c - e)) (by dsimp only; omega) ⟨by dsimp only; omega,by dsimp only; rw [List.length_set]; exact hp1,hp2.set (by omega),by
          dsimp only
          rw [Fn (by omega),X7 hd,X7 he,Nat.pow_succ]; exact Sr hp3 (u := d - c - e) (d := d) (e := e) (c' := 0) (by omega),by dsimp only; omega⟩ (by rw [Hr]; rfl)
    · have hy0 : Xz ((Qx y).take (i + 1)) = Xz ((Qx y).take i) + 10000 ^ i * 0 := by rw [Gl (by omega),Nat.mul_zero,Nat.add_zero]
      by_cases h3 : d < c
      · refine go tt [.t (decide_eq_true (by omega)),.x (Zd hd),.f (decide_eq_false (by omega)),.t (decide_eq_true (by omega)),.r 36 (eI (b := ((d + 10000 - c : Nat) : Int)) (by omega)),.i i] rfl (by simp [Qa,hol,tdn,Ml,-Int.natCast_add]; omega) ?_
        exact rd (i + 1,1,o.set i (d + 10000 - c)) (by dsimp only; omega) ⟨by dsimp only; omega,by dsimp only; rw [List.length_set]; exact hp1,hp2.set (by omega),by
          dsimp only
          rw [Fn (by omega),X7 hd,hy0,Nat.pow_succ]; exact Sr hp3 (u := d + 10000 - c) (d := d) (e := 0) (c' := 1) (by omega),by dsimp only; omega⟩ (by rw [Hr]; rfl)
      · refine go tt [.t (decide_eq_true (by omega)),.x (Zd hd),.r 22 (eI (b := ((d - c : Nat) : Int)) (by omega)),.f (decide_eq_false (by omega)),.f (decide_eq_false (by omega)),.i i] rfl (by simp [Qa,hol,tdn,Ml,-Int.natCast_add]; omega) ?_
        exact rd (i + 1,0,o.set i (d - c)) (by dsimp only; omega) ⟨by dsimp only; omega,by dsimp only; rw [List.length_set]; exact hp1,hp2.set (by omega),by
          dsimp only
          rw [Fn (by omega),X7 hd,hy0,Nat.pow_succ]; exact Sr hp3 (u := d - c) (d := d) (e := 0) (c' := 0) (by omega),by dsimp only; omega⟩ (by rw [Hr]; rfl)
  · have hi : i = (Qx x).length := by omega
    have hv : Xz o = x - y := by
      have h := hp3
      rw [List.take_of_length_le (by omega),List.take_of_length_le (by omega),List.take_of_length_le (by omega),Xc,Xc] at h
      have hlt := A0 hp2
      rw [hp1,← hi] at hlt
      have hc0 : c = 0 := by
        rcases Nat.eq_zero_or_pos c with h0 | h0
        · exact h0
        · exfalso
          have : c = 1 := by omega
          rw [this,Nat.one_mul] at h; omega
      rw [hc0] at h; omega
    have cc := Ch hp2
    rw [hv] at cc
    exact en tt [.f (decide_eq_false (by omega)),.c [] cc] rfl rfl trivial
theorem Ay {o o2 c P u v s V : Nat} (h : o + c * P = V) (hs : o2 + P * v = o + P * u) {q : Nat} (hu : u + 10000 * q = v + c + s) : o2 + q * (P * 10000) = V + P * s := by
  have e2 : P * (u + 10000 * q) = P * (v + c + s) := by rw [hu]
  grind
theorem Q6r (S : Nat) : S % 10000 + 10000 * (S / 10000) = S := Nat.mod_add_div S 10000
structure MulI (x y i d : Nat) (s : Nat × Nat × List Nat) : Prop where
  l : s.2.2.length = (Qx x).length + (Qx y).length
  dg : Dg s.2.2
  v : Xz s.2.2 + s.2.1 * 10000 ^ (i + s.1) = Xz ((Qx x).take i) * y + 10000 ^ i * d * Xz ((Qx y).take s.1)
  c : s.2.1 < 10000
  b : s.1 ≤ (Qx y).length ∧ (∀ j v,i + (Qx y).length ≤ j → s.2.2[j]? = some v → v = 0) ∨ s.1 = (Qx y).length + 1 ∧ s.2.1 = 0 ∧ ∀ j v,i + (Qx y).length + 1 ≤ j → s.2.2[j]? = some v → v = 0
theorem Q3b {x y : Nat} (hx : sz x ≤ 200000000) (hy : sz y ≤ 200000000) : Qc Tryz.prog 98 [.one (nd x),.one (nd y)] [.one (nd (x * y))] := by
  have hxl := Nat.le_trans (Yu x) hx
  have hyl := Nat.le_trans (Yu y) hy
  have lx := P5 x
  have ly := P5 y
  show Qc Tryz.prog 98 [.one (.row (Vw (Qx x))),.one (.row (Vw (Qx y)))] _
  refine Z6 Tryz.func98 rfl ?_
  refine go tt [.r 14 (eI (b := (((Qx x).length + (Qx y).length : Nat) : Int)) (by rw [lx,ly]; omega)),.i ((Qx x).length + (Qx y).length),.i ((Qx x).length + (Qx y).length)] rfl (by simp [Qa]; omega) ?_
  rw [show List.replicate ((Qx x).length + (Qx y).length) [LV.int .i64 0] = Vw (List.replicate ((Qx x).length + (Qx y).length) 0) from by simp [Vw]]
  refine lp (S := Nat × List Nat) 1 (fun L1 s => (18,.v (.one (.int .i64 (s.1 : Int)))) :: L1) (fun s => [.row false 3 1 (Vw s.2)]) (fun s => (Qx x).length - s.1) (fun s => s.1 ≤ (Qx x).length ∧ s.2.length = (Qx x).length + (Qx y).length ∧ Dg s.2 ∧ Xz s.2 = Xz ((Qx x).take s.1) * y ∧ ∀ j v,s.1 + (Qx y).length ≤ j → s.2[j]? = some v → v = 0) (0,List.replicate ((Qx x).length + (Qx y).length) 0) ⟨Nat.zero_le _,List.length_replicate ..,Dg.zeros _,by rw [A1 (fun x hx => List.eq_of_mem_replicate hx)]; simp [Xz],fun j v _ hv => List.eq_of_mem_replicate (List.mem_of_getElem? hv)⟩ rfl (fun _ _ => rfl) rfl fun s hs => ?_
  obtain ⟨i,o⟩ := s
  obtain ⟨hp0,hp1,hp2,hp3,hp4⟩ := hs
  dsimp only at hp0 hp1 hp2 hp3 hp4 ⊢
  by_cases h1 : i < (Qx x).length
  · obtain ⟨d,hd⟩ : ∃ d,(Qx x)[i]? = some d := ⟨_,List.getElem?_eq_getElem h1⟩
    have hd9 := V9 x d (List.mem_of_getElem? hd)
    refine go tt [.t (decide_eq_true (by omega))] rfl trivial ?_
    refine lp (S := Nat × Nat × List Nat) 1 (fun L1 s => (8,.v (.one (.int .i64 (s.1 : Int)))) :: (7,.v (.one (.int .i64 (s.2.1 : Int)))) :: L1) (fun s => [.row false 3 1 (Vw s.2.2)]) (fun s => ((Qx y).length - s.1) * 2 + min s.2.1 1) (MulI x y i d) (0,0,o) ⟨hp1,hp2,by dsimp only; rw [hp3]; simp [Xz],by show 0 < 10000; decide,.inl ⟨Nat.zero_le _,hp4⟩⟩ rfl (fun _ _ => rfl) rfl fun s hs => ?_
    obtain ⟨k,c,o2⟩ := s
    obtain ⟨hq0,hq1,hq2,hq3,hq4⟩ := hs
    dsimp only at hq0 hq1 hq2 hq3 hq4 ⊢
    have hol : (Vw o2).length = (Qx x).length + (Qx y).length := by rw [Xn,hq0]
    by_cases h2 : k < (Qx y).length
    · obtain ⟨e,he⟩ : ∃ e,(Qx y)[k]? = some e := ⟨_,List.getElem?_eq_getElem h2⟩
      have he9 := V9 y e (List.mem_of_getElem? he)
      have hde : d * e ≤ 9999 * 9999 := Nat.mul_le_mul (by omega) (by omega)
      obtain ⟨v,hoi⟩ : ∃ v,o2[i + k]? = some v := ⟨_,List.getElem?_eq_getElem (by omega)⟩
      have hv9 := hq1 v (List.mem_of_getElem? hoi)
      refine go tt [.g 25 true (decide_eq_true (by omega)),.t rfl,.r 34 (eI (b := ((i + k : Nat) : Int)) (by omega)),.i (i + k),.x (Zd hoi),.r 38 (eI (b := ((v + c : Nat) : Int)) (by omega)),.t (decide_eq_true (by omega)),.x (Zd hd),.x (Zd he),.r 52 (eI (b := ((d * e : Nat) : Int)) (by simp)),.r 53 (eI (b := ((v + c + d * e : Nat) : Int)) (by omega)),.r 57 (eI (b := ((i + k : Nat) : Int)) (by omega)),.r 59 (eI (b := (((v + c + d * e) % 10000 : Nat) : Int)) (by rfl)),.i (i + k),.r 62 (eI (b := (((v + c + d * e) / 10000 : Nat) : Int)) (by rfl))] rfl (by simp [Qa,hol,tdn,Ml,-Int.natCast_add,-Int.natCast_mul]; omega) ?_
      exact rd (k + 1,(v + c + d * e) / 10000,o2.set (i + k) ((v + c + d * e) % 10000)) (by dsimp only; omega) ⟨by dsimp only; rw [List.length_set]; exact hq0,hq1.set (Nat.mod_lt _ (by decide)),by
        dsimp only
        rw [← Nat.add_assoc i k 1,Nat.pow_succ]; have := Ay hq2 (Ql0 hoi (u := ((v + c) + (d * e)) % 10000)) (s := d * e) (q := ((v + c) + (d * e)) / 10000) (by rw [Q6r]); rw [this,X7 he,Nat.pow_add]; grind,by dsimp only; omega,.inl ⟨by dsimp only; omega,fun j w hj hw => (by
          dsimp only at hw
          rcases hq4 with ⟨_,h⟩ | ⟨_,_,h⟩ <;> (rw [List.getElem?_set_ne (by omega)] at hw; exact h j w (by omega) hw))⟩⟩ (by rw [Hr]; rfl)
    · by_cases h3 : 0 < c
      · have hk : k = (Qx y).length := by omega
        have hz : ∀ j v,i + (Qx y).length ≤ j → o2[j]? = some v → v = 0 := by
          rcases hq4 with ⟨_,h⟩ | ⟨_,h,_⟩
          · exact h
          · omega
        obtain ⟨v,hoi⟩ : ∃ v,o2[i + k]? = some v := ⟨_,List.getElem?_eq_getElem (by omega)⟩
        have hv0 : v = 0 := hz (i + k) v (by omega) hoi
        have hv9 := hq1 v (List.mem_of_getElem? hoi)
        refine go tt [.g 25 false (decide_eq_false (by omega)),.t (decide_eq_true (by omega)),.r 34 (eI (b := ((i + k : Nat) : Int)) (by omega)),.i (i + k),.x (Zd hoi),.r 38 (eI (b := ((v + c : Nat) : Int)) (by omega)),.f (decide_eq_false (by omega)),.r 57 (eI (b := ((i + k : Nat) : Int)) (by omega)),.r 59 (eI (b := (((v + c) % 10000 : Nat) : Int)) (by rfl)),.i (i + k),.r 62 (eI (b := (((v + c) / 10000 : Nat) : Int)) (by rfl))] rfl (by simp [Qa,hol,tdn,Ml,-Int.natCast_add]; omega) ?_
        exact rd (k + 1,(v + c) / 10000,o2.set (i + k) ((v + c) % 10000)) (by dsimp only; omega) ⟨by dsimp only; rw [List.length_set]; exact hq0,hq1.set (Nat.mod_lt _ (by decide)),by
          dsimp only
          rw [← Nat.add_assoc i k 1,Nat.pow_succ]; have := Ay hq2 (Ql0 hoi (u := (v + c) % 10000)) (s := 0) (q := (v + c) / 10000) (by rw [Q6r]; rfl); rw [this,Nat.mul_zero,Nat.add_zero,Gl (by omega)],by dsimp only; omega,.inr ⟨by dsimp only; omega,by dsimp only; omega,fun j w hj hw => (by
            dsimp only at hw
            rw [List.getElem?_set_ne (by omega)] at hw; exact hz j w (by omega) hw)⟩⟩ (by rw [Hr]; rfl)
      · refine go tt [.g 25 false (decide_eq_false (by omega)),.f (decide_eq_false (by omega))] rfl (by simp [Qa]; omega) ?_
        exact rd (i + 1,o2) (by dsimp only; omega) ⟨by dsimp only; omega,hq0,hq1,by
          dsimp only
          rw [X7 hd,Nat.add_mul]; have h := hq2; rw [show c = 0 by omega,List.take_of_length_le (l := Qx y) (i := k) (by omega),Xc] at h; rw [Nat.zero_mul,Nat.add_zero] at h; exact h,by
          dsimp only
          rcases hq4 with ⟨_,h⟩ | ⟨_,_,h⟩
          · exact fun j w hj hw => h j w (by omega) hw
          · exact fun j w hj hw => h j w (by omega) hw⟩ rfl
  · have hv : Xz o = x * y := by rw [hp3,List.take_of_length_le (by omega),Xc]
    have cc := Ch hp2
    rw [hv] at cc
    exact en tt [.f (decide_eq_false (by omega)),.c [] cc] rfl rfl trivial
theorem Qlo {x y : Nat} : Rd x y ≤ 0 ↔ x ≤ y := by
  unfold Rd
  constructor
  · intro h; split at h
    · omega
    · split at h <;> omega
  · intro h; split
    · omega
    · split <;> omega
theorem Qoy {R y lo : Nat} (h1 : y * lo ≤ R) (h2 : R < y * (lo + 1)) : R / y = lo ∧ R % y = R - y * lo := by
  have hy : 0 < y := by
    rcases Nat.eq_zero_or_pos y with h | h
    · subst h; simp at h2
    · exact h
  have e : R / y = lo := Nat.div_eq_of_lt_le (by rw [Nat.mul_comm]; exact h1) (by rw [Nat.mul_comm]; exact h2)
  refine ⟨e,?_⟩
  have := Nat.div_add_mod R y
  rw [e] at this; omega
theorem Qwr {R y : Nat} (h : R < y * 10000) : sz R ≤ sz y + 14 := by
  refine V2.2 (Nat.lt_of_lt_of_le h ?_)
  have := Nm y
  rw [Nat.pow_add]
  have e : (2 : Nat) ^ 14 = 16384 := by decide
  rw [e]; exact Nat.mul_le_mul (by omega) (by decide)
theorem Qp1 (y : Nat) : sz (y * 10000) ≤ sz y + 14 := by
  refine V2.2 ?_
  have := Nm y
  rw [Nat.pow_add]
  have e : (2 : Nat) ^ 14 = 16384 := by decide
  rw [e]; omega
theorem Qqr {x y : Nat} (hx : sz x ≤ 90000000) (hy : sz y ≤ 90000000) (hy0 : 0 < y) : Qc Tryz.prog 200 [.one (nd x),.one (nd y)] [.one (nd (x / y)),.one (nd (x % y))] := by
  have hxl := Nat.le_trans (Yu x) hx
  have hyl := Nat.le_trans (Yu y) hy
  have lx := P5 x
  show Qc Tryz.prog 200 [.one (.row (Vw (Qx x))),.one (nd y)] _
  refine Z6 Tryz.func200 rfl ?_
  refine go tt [.i (Vw (Qx x)).length,.i (Vw (Qx x)).length,.z 7,.r 17 (eI (b := ((Qx x).length : Int) - 1) (by rw [lx]))] rfl (by simp [Qa]; omega) ?_
  rw [lx,show List.replicate (Qx x).length [LV.int .i64 0] = Vw (List.replicate (Qx x).length 0) from by simp [Vw]]
  refine lp (S := Nat × List Nat × List Nat) 1 (fun L1 s => (8,.v (.one (.int .i64 ((s.1 : Int) - 1)))) :: (7,.v (.one (.row (Vw s.2.1)))) :: L1) (fun s => [.row false 3 1 (Vw s.2.2)]) (fun s => s.1) (fun s => s.1 ≤ (Qx x).length ∧ s.2.2.length = (Qx x).length ∧ Dg s.2.2 ∧ Xz (s.2.2.drop s.1) = Xz ((Qx x).drop s.1) / y ∧ s.2.1 = Qx (Xz ((Qx x).drop s.1) % y)) ((Qx x).length,[],List.replicate (Qx x).length 0) ⟨Nat.le_refl _,List.length_replicate ..,Dg.zeros _,by dsimp only; rw [List.drop_eq_nil_of_le (by simp),List.drop_eq_nil_of_le (Nat.le_refl _)]; simp [Xz],by dsimp only; rw [List.drop_eq_nil_of_le (Nat.le_refl _)]; simp [Xz,Zx]⟩ rfl (fun _ _ => rfl) rfl fun s hs => ?_
  obtain ⟨j,R,o⟩ := s
  obtain ⟨hp0,hp1,hp2,hp3,hp4⟩ := hs
  dsimp only at hp0 hp1 hp2 hp3 hp4 ⊢
  cases j with
  |
   zero =>
   have cc := Ch hp2
   rw [List.drop_zero,List.drop_zero,Xc] at hp3
   rw [List.drop_zero,Xc] at hp4
   rw [hp3] at cc
   exact en tt [.f (by simp),.c [] cc] rfl (by rw [hp4]; rfl) trivial
  |
   succ j =>
   obtain ⟨d,hd⟩ : ∃ d,(Qx x)[j]? = some d := ⟨_,List.getElem?_eq_getElem (by omega)⟩
   have hd9 := V9 x d (List.mem_of_getElem? hd)
   have hdd := Rx hd
   obtain ⟨hq1,hq2,hq3⟩ := Qfi (V := Xz ((Qx x).drop (j + 1))) (kd := y) (d := d) hy0
   rw [← hdd] at hq1 hq2
   have hq3 := hq3 hd9
   obtain ⟨rr,hrr0⟩ : ∃ rr,rr = Xz ((Qx x).drop (j + 1)) % y := ⟨_,rfl⟩
   have hrr : rr < y := by rw [hrr0]; exact Nat.mod_lt _ hy0
   rw [← hrr0] at hp4 hq1 hq2 hq3
   subst hp4
   have hrl : (Qx rr).length ≤ (Qx y).length := Ru (by omega)
   have hR : rr * 10000 + d < y * 10000 := by omega
   have hRs := Qwr hR
   have hdv : Dg (d :: Qx rr) := fun z hz => by
     rcases List.mem_cons.1 hz with rfl | hz
     · exact hd9
     · exact V9 rr z hz
   have cc := Ch hdv
   rw [show Xz (d :: Qx rr) = rr * 10000 + d from by simp only [Xz]; rw [Xc]; omega] at cc
   have hol : (Vw o).length = (Qx x).length := by rw [Xn,hp1]
   have hrrl := Xn (Qx rr)
   have ej : ((j + 1 : Nat) : Int) - 1 = (j : Int) := by omega
   rw [ej]
   refine go tt [.t (decide_eq_true (by omega)),.x (Zd hd),.lo,.s (sz := 1) (Q3v (Qx rr)),.c [] cc] rfl (by simp [Qa,P5]; omega) ?_
   refine lp (S := Nat × Nat) 2 (fun L1 s => (9,.v (.one (.int .i64 (s.1 : Int)))) :: (10,.v (.one (.int .i64 (s.2 : Int)))) :: L1) (fun _ => [.row false 3 1 (Vw o),.gone]) (fun s => s.2 - s.1) (fun s => s.1 ≤ s.2 ∧ s.2 ≤ 9999 ∧ y * s.1 ≤ rr * 10000 + d ∧ rr * 10000 + d < y * (s.2 + 1)) (0,9999) ⟨by decide,by decide,by dsimp only; omega,by dsimp only; omega⟩ rfl (fun _ _ => rfl) rfl fun s hs => ?_
   obtain ⟨lo,hi⟩ := s
   obtain ⟨hb0,hb1,hb2,hb3⟩ := hs
   dsimp only at hb0 hb1 hb2 hb3 ⊢
   by_cases h2 : lo < hi
   · obtain ⟨m,hm⟩ : ∃ m,m = (lo + hi + 1) / 2 := ⟨_,rfl⟩
     have hym : y * m ≤ y * 10000 := Nat.mul_le_mul_left y (by omega)
     have c1 := M0 (x := y) (mu := m) (c0 := 0) (by omega) (by omega) (by omega)
     have c2 := Qh3 (x := y * m + 0) (y := rr * 10000 + d) (Nat.le_trans (Xv (show _ ≤ y * 10000 by omega)) (Nat.le_trans (Qp1 y) (by omega))) (by omega)
     by_cases h3 : y * m + 0 ≤ rr * 10000 + d
     · refine go tt [.t (decide_eq_true (by omega)),.r 35 (eI (b := ((lo + hi : Nat) : Int)) (by omega)),.r 36 (eI (b := ((lo + hi + 1 : Nat) : Int)) (by omega)),.r 37 (eI (b := (m : Int)) (by rw [hm]; rfl)),.c [] c1,.c [] c2,.t (decide_eq_true (Qlo.2 h3))] rfl (by simp [Qa,Ml,-Int.natCast_add]; omega) ?_
       exact rd (m,hi) (by dsimp only; omega) ⟨by dsimp only; omega,hb1,by dsimp only; omega,hb3⟩ rfl
     · refine go tt [.t (decide_eq_true (by omega)),.r 35 (eI (b := ((lo + hi : Nat) : Int)) (by omega)),.r 36 (eI (b := ((lo + hi + 1 : Nat) : Int)) (by omega)),.r 37 (eI (b := (m : Int)) (by rw [hm]; rfl)),.c [] c1,.c [] c2,.f (decide_eq_false fun h => h3 (Qlo.1 h)),.r 46 (eI (b := ((m - 1 : Nat) : Int)) (by omega))] rfl (by simp [Qa,Ml,-Int.natCast_add]; omega) ?_
       exact rd (lo,m - 1) (by dsimp only; omega) ⟨by dsimp only; omega,by dsimp only; omega,hb2,by dsimp only; rw [show m - 1 + 1 = m by omega]; omega⟩ rfl
   · have hlh : lo = hi := by omega
     have hfd := Qoy hb2 (by rw [hlh]; exact hb3)
     have c1 := M0 (x := y) (mu := lo) (c0 := 0) (by omega) (by omega) (by omega)
     have c2 := Qib (x := rr * 10000 + d) (y := y * lo + 0) (by omega) (Nat.le_trans (Xv (show _ ≤ rr * 10000 + d by omega)) (by omega)) (by omega)
     rw [show rr * 10000 + d - (y * lo + 0) = Xz ((Qx x).drop j) % y from by rw [hq2,hfd.2]; omega] at c2
     refine go tt [.f (decide_eq_false (by omega)),.i j,.c [] c1,.c [] c2] rfl (by simp [Qa,hol,tdn,Ml,-Int.natCast_add]; omega) ?_
     exact rd (j,Qx (Xz ((Qx x).drop j) % y),o.set j lo) (by dsimp only; omega) ⟨by dsimp only; omega,by dsimp only; rw [List.length_set]; exact hp1,hp2.set (by omega),by
       dsimp only
       rw [Ck (by omega)]; simp only [Xz]; rw [hp3,hq1,hfd.1],rfl⟩ (by rw [Hr]; rfl)
end Orr

namespace Orr
def Bd (s : Nat) (p : List Int) : Prop := ∀ z ∈ p,Qm z ≤ s
theorem Vf : Qm 0 = 0 := rfl
theorem Qqm {s : Nat} {p : List Int} (h : Bd s p) {i : Nat} {z : Int} (hz : p[i]? = some z) : Qm z ≤ s := h z (List.mem_of_getElem? hz)
theorem Qp {s : Nat} {p : List Int} (h : Bd s p) (k : Nat) : Qm (p.getD k 0) ≤ s := by
  rw [List.getD_eq_getElem?_getD]
  cases hk : p[k]? with
  | none => rw [Option.getD_none,Vf]; exact Nat.zero_le _
  | some z => exact Qqm h hk
theorem Qd {s t : Nat} {p : List Int} (h : Bd s p) (ht : s ≤ t) : Bd t p := fun z hz => Nat.le_trans (h z hz) ht
theorem K5 {s : Nat} : Bd s [] := fun z hz => by cases hz
theorem Q21 {s : Nat} {n : Nat} {g : Nat → Int} (h : ∀ k,k < n → Qm (g k) ≤ s) : Bd s ((List.range n).map g) := fun z hz => by
  obtain ⟨k,hk,rfl⟩ := List.mem_map.1 hz
  exact h k (List.mem_range.1 hk)
theorem Qhd : ∀ (l : List Int),∀ z ∈ trim l,z ∈ l
  | [],z,h => by cases h
  |
   x :: l,z,h => by
   have ih := Qhd l
   cases hl : trim l with
   |
    nil =>
    simp only [trim,hl] at h
    split at h
    · cases h
    · rw [List.mem_singleton] at h; rw [h]; exact List.mem_cons_self ..
   |
    cons y k =>
    simp only [trim,hl] at h
    rcases List.mem_cons.1 h with rfl | h
    · exact List.mem_cons_self ..
    · exact List.mem_cons_of_mem _ (ih z (by rw [hl]; exact h))
theorem Xa (l : List Int) : (trim l).length ≤ l.length := by
  induction l with
  | nil => exact Nat.le_refl _
  |
   cons x l ih =>
   cases hl : trim l with
   | nil => simp only [trim,hl]; split <;> simp
   | cons y k => simp only [trim,hl]; rw [hl] at ih; simp at ih ⊢; exact ih
theorem X8 {s : Nat} {p : List Int} (h : Bd s p) : Bd s (trim p) := fun z hz => h z (Qhd p z hz)
theorem Uv : ∀ (l : List Int) (k : Nat),(trim l).getD k 0 = l.getD k 0
  | [],k => rfl
  |
   x :: l,k => by
   have ih := Uv l
   cases hl : trim l with
   |
    nil =>
    rw [hl] at ih
    simp only [trim,hl]
    split
    · rename_i hx
      cases k with
      | zero => simp [hx]
      | succ k => have := ih k; simp at this ⊢; exact this
    · cases k with
      | zero => simp
      | succ k => have := ih k; simp at this ⊢; exact this
   |
    cons y m =>
    rw [hl] at ih
    simp only [trim,hl]
    cases k with
    | zero => simp
    | succ k => have := ih k; simp at this ⊢; exact this
def Y7 (n : Nat) (g : Nat → Int) : List Int := trim ((List.range n).map g)
theorem Q8 (n : Nat) (g : Nat → Int) : Qj (Y7 n g) := Xk _
theorem Gm (n : Nat) (g : Nat → Int) : (Y7 n g).length ≤ n := Nat.le_trans (Xa _) (by simp)
theorem J3 (n : Nat) (g : Nat → Int) (k : Nat) : (Y7 n g).getD k 0 = if k < n then g k else 0 := by
  unfold Y7
  rw [Uv,List.getD_eq_getElem?_getD,List.getElem?_map]
  split
  · rename_i h; rw [List.getElem?_range h]; rfl
  · rename_i h; rw [List.getElem?_eq_none (by simpa using h)]; rfl
theorem Sl {s n : Nat} {g : Nat → Int} (h : ∀ k,k < n → Qm (g k) ≤ s) : Bd s (Y7 n g) := X8 (Q21 h)
def Pk (p q : List Int) : List Int := Y7 (max p.length q.length) fun k => p.getD k 0 + q.getD k 0
def Vr (p q : List Int) : List Int := Y7 (max p.length q.length) fun k => p.getD k 0 - q.getD k 0
def Yx (p : List Int) : List Int := Y7 p.length fun k => -(p.getD k 0)
def Qu (p : List Int) (c : Int) : List Int := Y7 p.length fun k => p.getD k 0 * c
def Zk (p : List Int) : List Int := Y7 (p.length - 1) fun k => p.getD (k + 1) 0 * ((k + 1 : Nat) : Int)
theorem Qxr {s t : Nat} {p q : List Int} (h : Bd s p) (h' : Bd t q) : Bd (max s t + 1) (Pk p q) := Sl fun k _ => Nat.le_trans (Su _ _) (by have := Qp h k; have := Qp h' k; omega)
theorem Sn {s t : Nat} {p q : List Int} (h : Bd s p) (h' : Bd t q) : Bd (max s t + 1) (Vr p q) := Sl fun k _ => Nat.le_trans (Qc6 _ _) (by have := Qp h k; have := Qp h' k; omega)
theorem Ea {s : Nat} {p : List Int} (h : Bd s p) : Bd s (Yx p) := Sl fun k _ => by rw [Z1]; exact Qp h k
theorem Zj {s t : Nat} {p : List Int} {c : Int} (h : Bd s p) (hc : Qm c ≤ t) : Bd (s + t) (Qu p c) := Sl fun k _ => Nat.le_trans (Qz _ _) (by have := Qp h k; omega)
theorem Qt7 (p q : List Int) : (Pk p q).length ≤ max p.length q.length := Gm _ _
theorem Gt (p q : List Int) : (Vr p q).length ≤ max p.length q.length := Gm _ _
theorem Tk (p : List Int) : (Yx p).length ≤ p.length := Gm _ _
theorem Q6 (p : List Int) (c : Int) : (Qu p c).length ≤ p.length := Gm _ _
theorem Vg (p : List Int) : (Zk p).length ≤ p.length - 1 := Gm _ _
theorem Qc5 {k t : Nat} (h : k < 2 ^ t) : Qm (k : Int) ≤ t := by rw [Jq]; simpa using h
theorem Qpa {k : Nat} (h : k < 274877906944) : Qm (k : Int) ≤ 4294967295 := Nat.le_trans (Qc5 (t := 38) (Nat.lt_of_lt_of_eq h (by decide))) (by omega)
theorem L9 {s t : Nat} {p : List Int} (h : Bd s p) (hl : p.length ≤ 2 ^ t) : Bd (s + t) (Zk p) := Sl fun k hk => Nat.le_trans (Qz _ _) (by
  have := Qp h (k + 1)
  have := Qc5 (k := k + 1) (t := t) (by omega)
  omega)
def Gw (x : Int) (b : List Int) (i : Nat) (o : List Int) : Nat → List Int
  | 0 => o
  | k + 1 => (Gw x b i o k).set (i + k) ((Gw x b i o k).getD (i + k) 0 + x * b.getD k 0)
def Ke (a b o : List Int) : Nat → List Int
  | 0 => o
  | i + 1 => Gw (a.getD i 0) b i (Ke a b o i) b.length
def Zl (a b : List Int) : List Int := if a.length = 0 ∨ b.length = 0 then [] else trim (Ke a b (List.replicate (a.length + b.length - 1) 0) a.length)
theorem Gx (x : Int) (b : List Int) (i : Nat) (o : List Int) (k : Nat) : (Gw x b i o k).length = o.length := by
  induction k with
  | zero => rfl
  | succ k ih => simp [Gw,ih]
theorem Kf (a b o : List Int) (i : Nat) : (Ke a b o i).length = o.length := by
  induction i with
  | zero => rfl
  | succ i ih => simp [Ke,Gx,ih]
theorem Qts (l : List Int) (i m : Nat) (v : Int) (h : i < l.length) : (l.set i v).getD m 0 = if m = i then v else l.getD m 0 := by
  rw [List.getD_eq_getElem?_getD,List.getElem?_set,List.getD_eq_getElem?_getD]
  by_cases e : i = m
  · subst e; simp [h]
  · rw [if_neg e,if_neg (fun h => e h.symm)]
theorem Db (x : Int) (b : List Int) (i : Nat) (o : List Int) (k m : Nat) (h : i + k ≤ o.length) : (Gw x b i o k).getD m 0 = if i ≤ m ∧ m < i + k then o.getD m 0 + x * b.getD (m - i) 0 else o.getD m 0 := by
  induction k with
  | zero => simp only [Gw]; rw [if_neg (by omega)]
  |
   succ k ih =>
   have ih := ih (by omega)
   simp only [Gw]
   rw [Qts _ _ _ _ (by rw [Gx]; omega)]
   by_cases e : m = i + k
   · subst e
     rw [if_pos rfl,if_pos (by omega),show i + k - i = k from by omega]
     rw [ih,if_neg (by omega)]
   · rw [if_neg e,ih]
     by_cases h1 : i ≤ m ∧ m < i + k
     · rw [if_pos h1,if_pos (by omega)]
     · rw [if_neg h1,if_neg (by omega)]
theorem Vh {x y : Int} {s t : Nat} (hx : Qm x ≤ s) (hy : Qm y ≤ t) : (x * y).natAbs ≤ 2 ^ (s + t) := by
  have h := Nat.le_trans (Qz x y) (show _ ≤ s + t by omega)
  rw [Jq] at h; omega
theorem Qdh {x : Int} {b : List Int} {i : Nat} {o : List Int} {k M : Nat} (h : i + k ≤ o.length) (ho : ∀ m,(o.getD m 0).natAbs ≤ i * M) (hx : ∀ j,(x * b.getD j 0).natAbs ≤ M) (m : Nat) : ((Gw x b i o k).getD m 0).natAbs ≤ (i + 1) * M := by
  rw [Db x b i o k m h,Nat.succ_mul]
  have h1 := ho m
  split
  · have h2 := hx (m - i)
    generalize i * M = q at *
    omega
  · omega
theorem Qdg {a b o : List Int} {i M : Nat} (h : ∀ j,j < i → j + b.length ≤ o.length) (ho : ∀ m,o.getD m 0 = 0) (hx : ∀ i j,(a.getD i 0 * b.getD j 0).natAbs ≤ M) (m : Nat) : ((Ke a b o i).getD m 0).natAbs ≤ i * M := by
  induction i generalizing m with
  | zero => simp only [Ke]; rw [ho]; simp
  |
   succ i ih =>
   simp only [Ke]
   exact Qdh (by rw [Kf]; exact h i (by omega)) (ih fun j hj => h j (by omega)) (hx i) m
theorem Fx {z : Int} {i s t : Nat} (h : z.natAbs ≤ i * 2 ^ s) (hi : i < 2 ^ t) : Qm z ≤ s + t := by
  rw [Jq]
  have h1 : i * 2 ^ s < 2 ^ t * 2 ^ s := Nat.mul_lt_mul_of_pos_right hi (Nat.pow_pos (by decide))
  rw [← Nat.pow_add,Nat.add_comm t s] at h1
  omega
theorem Jp (n m : Nat) : (List.replicate n (0 : Int)).getD m 0 = 0 := by
  rw [List.getD_eq_getElem?_getD,List.getElem?_replicate]; split <;> rfl
theorem E9 {s : Nat} {p : List Int} (h : ∀ m,Qm (p.getD m 0) ≤ s) : Bd s p := fun z hz => by
  obtain ⟨i,hi⟩ := List.mem_iff_getElem?.1 hz
  have := h i
  rw [List.getD_eq_getElem?_getD,hi] at this
  exact this
theorem Qt8 (a b : List Int) : (Zl a b).length ≤ a.length + b.length - 1 := by
  unfold Zl
  split
  · simp
  · refine Nat.le_trans (Xa _) ?_
    rw [Kf]; simp
theorem Qxs {s t u : Nat} {a b : List Int} (ha : Bd s a) (hb : Bd t b) (hl : a.length < 2 ^ u) : Bd (s + t + u) (Zl a b) := by
  unfold Zl
  split
  · exact K5
  · refine X8 (E9 fun m => ?_)
    exact Fx (Qdg (M := 2 ^ (s + t)) (fun j hj => by simp; omega) (Jp _) (fun i j => Vh (Qp ha i) (Qp hb j)) m) hl
theorem Zw (a b : List Int) : Qj (Zl a b) := by
  unfold Zl
  split
  · rfl
  · exact Xk _
def Y0 (a : List Int) (n d : Int) : Nat → Int × Int
  | 0 => (0,1)
  | k + 1 => ((Y0 a n d k).1 * n + a.getD (a.length - 1 - k) 0 * (Y0 a n d k).2,(Y0 a n d k).2 * d)
def Q0g (a : List Int) (n d : Int) : Int := (Y0 a n d a.length).1
theorem Qei {a : List Int} {n d : Int} {s t k : Nat} (ha : Bd s a) (hn : Qm n ≤ t) (hd : Qm d ≤ t) : Qm (Y0 a n d k).1 ≤ s + 2 + k * (t + 1) ∧ Qm (Y0 a n d k).2 ≤ 1 + k * t := by
  induction k with
  | zero => exact ⟨by simp [Y0,Vf],by simp [Y0]; decide⟩
  |
   succ k ih =>
   obtain ⟨h1,h2⟩ := ih
   have h3 := Qp ha (a.length - 1 - k)
   have e1 : k * (t + 1) = k * t + k := by rw [Nat.mul_add,Nat.mul_one]
   rw [Nat.succ_mul,Nat.succ_mul]
   refine ⟨?_,?_⟩
   · simp only [Y0]
     refine Nat.le_trans (Su _ _) ?_
     have h4 := Qz (Y0 a n d k).1 n
     have h5 := Qz (a.getD (a.length - 1 - k) 0) (Y0 a n d k).2
     generalize k * t = q at *
     rw [e1] at h1 ⊢
     omega
   · simp only [Y0]
     have h4 := Qz (Y0 a n d k).2 d
     generalize k * t = q at *
     omega
end Orr
namespace Orr
theorem getD_some {l : List Int} {i : Nat} (h : i < l.length) : l[i]? = some (l.getD i 0) := by
  rw [List.getD_eq_getElem?_getD,List.getElem?_eq_getElem h]; rfl
theorem Qls {x y : Int} : V5 x y = 0 ↔ x = y := by
  unfold V5
  constructor
  · intro h
    split at h
    · omega
    · split at h <;> omega
  · rintro rfl; simp
theorem Xw {p : List Int} (h : Qj p) (h0 : 0 < p.length) : p.getD (p.length - 1) 0 ≠ 0 := by
  induction p with
  | nil => simp at h0
  |
   cons x l ih =>
   unfold Qj at h
   cases hl : trim l with
   |
    nil =>
    simp only [trim,hl] at h
    split at h
    · cases h
    · rename_i hx
      injection h with h1 h2
      subst h2
      simpa using hx
   |
    cons y k =>
    simp only [trim,hl] at h
    injection h with h1 h2
    rw [← hl] at h2
    have ih := ih h2 (by rw [← h2,hl]; simp)
    have h3 : 0 < l.length := by rw [← h2,hl]; simp
    simp only [List.length_cons,Nat.add_sub_cancel]
    obtain ⟨m,hm⟩ : ∃ m,l.length = m + 1 := ⟨l.length - 1,by omega⟩
    rw [hm] at ih ⊢
    simpa using ih
end Orr
namespace Orr
theorem Is (p : List Int) : (List.range p.length).map (fun k => p.getD k 0) = p := by
  apply List.ext_getElem?
  intro i
  rw [List.getElem?_map]
  rcases Nat.lt_or_ge i p.length with h | h
  · rw [List.getElem?_range h]
    simp [List.getElem?_eq_getElem h]
  · rw [List.getElem?_eq_none (by simpa using h),List.getElem?_eq_none h]; rfl
theorem A4 {p q : List Int} (hl : p.length = q.length) (h : ∀ j,j < p.length → p.getD j 0 = q.getD j 0) : p = q := by
  rw [← Is p,← Is q,← hl]
  exact List.map_congr_left fun j hj => h j (List.mem_range.1 hj)
end Orr

namespace Orr
abbrev rl (q : Rat) : List LV := [sg q.num,mg q.num,sg (q.den : Int),mg (q.den : Int)]
theorem Ka (n d : Int) : Z4 [n,d] = Int.gcd d n := by
  unfold Z4
  simp only [List.foldl_cons,List.foldl_nil,Nat.gcd_zero_left]
  exact Nat.gcd_comm _ _
theorem Qfs {n d : Int} (hd : d ≠ 0) : (0 : Int) < ((Z4 [n,d] : Nat) : Int) := by
  rw [Ka]
  have := Int.gcd_pos_of_ne_zero_left n hd
  omega
theorem Id (n d : Int) : n % ((Z4 [n,d] : Nat) : Int) = 0 := by
  rw [Ka]; exact Int.emod_eq_zero_of_dvd (Int.gcd_dvd_right ..)
theorem Ie (n d : Int) : d % ((Z4 [n,d] : Nat) : Int) = 0 := by
  rw [Ka]; exact Int.emod_eq_zero_of_dvd (Int.gcd_dvd_left ..)
theorem Qmv {n g : Int} (h : n % g = 0) : -n % g = 0 := by
  exact Int.emod_eq_zero_of_dvd (Int.dvd_neg.2 (Int.dvd_of_emod_eq_zero h))
theorem Qme {n d : Int} {s : Nat} (hd : d ≠ 0) (h : Qm d ≤ s) : Qm ((Z4 [n,d] : Nat) : Int) ≤ s := by
  rw [Ka]
  refine Nat.le_trans (Xv ?_) h
  have := Nat.le_of_dvd (by omega : 0 < d.natAbs) (show Int.gcd d n ∣ d.natAbs from Nat.gcd_dvd_left _ _)
  simpa using this
theorem Qdd {n d : Int} (hd : 0 < d) : n / ((Z4 [n,d] : Nat) : Int) = (Rat.divInt n d).num ∧ d / ((Z4 [n,d] : Nat) : Int) = ((Rat.divInt n d).den : Int) := by
  rw [Ka,Rat.num_divInt,Rat.den_divInt,if_neg (by omega),Int.sign_eq_one_of_pos hd,Int.one_mul]
  refine ⟨rfl,?_⟩
  rw [Int.natCast_ediv,Int.natAbs_of_nonneg (by omega)]
theorem Qzq {n d : Int} (hd : d < 0) : -n / ((Z4 [n,d] : Nat) : Int) = (Rat.divInt n d).num ∧ -d / ((Z4 [n,d] : Nat) : Int) = ((Rat.divInt n d).den : Int) := by
  rw [Ka,Rat.num_divInt,Rat.den_divInt,if_neg (by omega),Int.sign_eq_neg_one_of_neg hd,Int.neg_mul,Int.one_mul]
  refine ⟨rfl,?_⟩
  rw [Int.natCast_ediv,Int.ofNat_natAbs_of_nonpos (by omega)]
theorem Th (u g : Int) : Qm (u / g) ≤ Qm u := by
  unfold Qm
  exact Xv (Int.natAbs_ediv_le_natAbs u g)
theorem Im {n d : Int} {s : Nat} (h : Qm n ≤ s) : Qm (Rat.divInt n d).num ≤ s := by
  rw [Rat.num_divInt]
  refine Nat.le_trans (Th _ _) ?_
  unfold Qm
  rw [Int.natAbs_mul]
  refine Nat.le_trans (Xv ?_) h
  have : d.sign.natAbs ≤ 1 := by rcases Fc d with ⟨_,e⟩ | ⟨_,e⟩ | ⟨_,e⟩ <;> rw [e] <;> decide
  calc d.sign.natAbs * n.natAbs ≤ 1 * n.natAbs := Nat.mul_le_mul_right _ this
    _ = n.natAbs := Nat.one_mul _
theorem Il {n d : Int} {s : Nat} (h : Qm d ≤ s) (h1 : 1 ≤ s) : Qm ((Rat.divInt n d).den : Int) ≤ s := by
  rw [Rat.den_divInt]
  split
  · exact h1
  · refine Nat.le_trans (Xv ?_) h
    exact Nat.div_le_self _ _
def Qs (s : Nat) (q : Rat) : Prop := Qm q.num ≤ s ∧ Qm (q.den : Int) ≤ s
theorem Qs.mono {s t : Nat} {q : Rat} (h : Qs s q) (ht : s ≤ t) : Qs t q := ⟨Nat.le_trans h.1 ht,Nat.le_trans h.2 ht⟩
theorem Qs.divInt {s : Nat} {n d : Int} (h : Qm n ≤ s) (h' : Qm d ≤ s) (h1 : 1 ≤ s) : Qs s (Rat.divInt n d) := ⟨Im h,Il h' h1⟩
theorem K9 (q : Rat) : (q.den : Int) ≠ 0 := by have := q.den_nz; omega
theorem den_pos (q : Rat) : (0 : Int) < (q.den : Int) := by have := q.den_nz; omega
def Zi (n d : Int) : Rat := Rat.divInt n (if d = 0 then 1 else d)
theorem H1 (q : Rat) : Zi q.num q.den = q := by
  unfold Zi
  rw [if_neg (K9 q)]; exact Rat.num_divInt_den q
def Zu (a b : Rat) : Int := V5 (a.num * (b.den : Int)) (b.num * (a.den : Int))
theorem Wm {a b : Rat} : Zu a b < 0 ↔ a < b := by
  rw [Rat.lt_iff]; unfold Zu V5
  constructor
  · intro h; split at h
    · assumption
    · split at h <;> omega
  · intro h; rw [if_pos h]; decide
theorem Ui {a b : Rat} : 0 < Zu a b ↔ b < a := by
  rw [Rat.lt_iff]; unfold Zu V5
  constructor
  · intro h; split at h
    · omega
    · split at h
      · assumption
      · omega
  · intro h; rw [if_neg (by omega),if_pos h]; decide
theorem K8 (a : Rat) : Zu a a = 0 := by unfold Zu V5; simp
end Orr

namespace Orr
open Go Go.Proofs
set_option maxRecDepth 10000
abbrev fr (q : Rat) : List LV := ri q.num ++ ri (q.den : Int)
theorem Fl : Qx 1 = [1] := by rw [Hp (by decide)]; rw [Zx]
theorem Vd {n : Int} : Qc Tryz.prog 83 [.agg (ri n),.agg (ri 1)] [.agg (fr (n : Rat))] := by
  have h0 : (Vw (Qx (1 : Int).natAbs))[0]? = some [LV.int .i64 1] := by rw [show (1 : Int).natAbs = 1 from rfl,Fl]; rfl
  have h1 : decide (((Vw (Qx (1 : Int).natAbs)).length : Int) = 1) = true := by rw [show (1 : Int).natAbs = 1 from rfl,Fl]; rfl
  exact w tt Tryz.func83 rfl [.c [] (Vk (z := 1)),.f rfl,.f rfl,.g 19 true h1,.x h0,.t rfl] rfl rfl trivial
theorem Cf {n : Int} (hn : -4000000000000000000 ≤ n ∧ n ≤ 4000000000000000000) : Qc Tryz.prog 22 [.one (.int .i64 n),.one (.int .i64 1)] [.agg (fr (n : Rat))] :=
  w tt Tryz.func22 rfl [.c [] (Ue hn),.c [] (Ue (n := 1) (by decide)),.c [] Vd] rfl rfl trivial
theorem Q1y {q : Rat} (hq : Qs 100000000 q) : Qc Tryz.prog 21 [.agg (fr q)] [.agg (rl q)] :=
  w tt Tryz.func21 rfl [.c [] (Qri hq.1),.c [] (Qri hq.2)] rfl rfl trivial
end Orr

namespace Orr
open Go Go.Proofs
set_option maxRecDepth 10000
theorem Q00 {a b : Int} (h : (decide (a < 0) == decide (b < 0)) = true) : Qh (decide (a < 0)) (a.natAbs + b.natAbs) = a + b := by
  unfold Qh
  by_cases h1 : a < 0 <;> by_cases h2 : b < 0 <;> simp [h1,h2] at h ⊢ <;> omega
theorem Q03 {a b : Int} (h : ¬ (decide (a < 0) == decide (b < 0)) = true) (hl : b.natAbs ≤ a.natAbs) : Qh (decide (a < 0)) (a.natAbs - b.natAbs) = a + b := by
  unfold Qh
  by_cases h1 : a < 0 <;> by_cases h2 : b < 0 <;> simp [h1,h2] at h ⊢ <;> omega
theorem Qv9 {a b : Int} (h : ¬ (decide (a < 0) == decide (b < 0)) = true) (hl : ¬ b.natAbs ≤ a.natAbs) : Qh (decide (b < 0)) (b.natAbs - a.natAbs) = a + b := by
  unfold Qh
  by_cases h1 : a < 0 <;> by_cases h2 : b < 0 <;> simp [h1,h2] at h ⊢ <;> omega
theorem S7 (a : Int) : (∃ m : Nat,a = (m : Int)) ∨ ∃ m : Nat,a = -(m : Int) ∧ 0 < m := by
  rcases Int.lt_or_le a 0 with h | h
  · exact .inr ⟨a.natAbs,by omega,by omega⟩
  · exact .inl ⟨a.natAbs,by omega⟩
theorem Q02 (a b : Int) : Qh (!(decide (a < 0) == decide (b < 0))) (a.natAbs * b.natAbs) = a * b := by
  rcases S7 a with ⟨m,rfl⟩ | ⟨m,rfl,hm⟩ <;> rcases S7 b with ⟨n,rfl⟩ | ⟨n,rfl,hn⟩
  · simp [Qh,show ¬ ((m : Int) < 0) by omega,show ¬ ((n : Int) < 0) by omega]
  · simp [Qh,show ¬ ((m : Int) < 0) by omega,show (-(n : Int) < 0) by omega,hn,Int.mul_neg]
  · simp [Qh,show (-(m : Int) < 0) by omega,show ¬ ((n : Int) < 0) by omega,hm,Int.neg_mul]
  · simp [Qh,show (-(m : Int) < 0) by omega,show (-(n : Int) < 0) by omega,hm,hn,Int.neg_mul_neg]
theorem Q01 {a b : Int} (h : a % b = 0) : Qh (!(decide (a < 0) == decide (b < 0))) (a.natAbs / b.natAbs) = a / b := by
  by_cases hb : b = 0
  · subst hb; simp [Qh]
  obtain ⟨c,rfl⟩ := Int.dvd_of_emod_eq_zero h
  rw [Int.mul_ediv_cancel_left _ hb,Int.natAbs_mul,Nat.mul_div_cancel_left _ (by omega)]
  rcases S7 b with ⟨n,rfl⟩ | ⟨n,rfl,hn⟩ <;> rcases S7 c with ⟨m,rfl⟩ | ⟨m,rfl,hm⟩
  · have : ¬ ((n : Int) * (m : Int) < 0) := by rw [← Int.natCast_mul]; omega
    simp [Qh,this,show ¬ ((n : Int) < 0) by omega]
  · have h1 : 0 < n * m := Nat.mul_pos (by omega) hm
    have : ((n : Int) * -(m : Int) < 0) := by rw [Int.mul_neg,← Int.natCast_mul]; omega
    simp only [this,show ¬ ((n : Int) < 0) by omega]
    simp [Qh]
  · by_cases h0 : m = 0
    · subst h0; simp [Qh]
    · have h1 : 0 < n * m := Nat.mul_pos hn (by omega)
      have : (-(n : Int) * (m : Int) < 0) := by rw [Int.neg_mul,← Int.natCast_mul]; omega
      simp only [this,show (-(n : Int) < 0) by omega]
      simp [Qh]
  · have : ¬ (-(n : Int) * -(m : Int) < 0) := by rw [Int.neg_mul_neg,← Int.natCast_mul]; omega
    simp only [this,show (-(n : Int) < 0) by omega]
    simp [Qh]
theorem Qwg (a b : Int) : Int.sign (a - b) = V5 a b := by
  unfold V5
  rcases Int.lt_trichotomy a b with h | h | h
  · rw [if_pos h,Int.sign_eq_neg_one_of_neg (by omega)]
  · rw [if_neg (by omega),if_neg (by omega),h,Int.sub_self]; rfl
  · rw [if_neg (by omega),if_pos h,Int.sign_eq_one_of_pos (by omega)]
theorem Qln {x y : Nat} : 0 ≤ Rd x y ↔ y ≤ x := by
  unfold Rd
  constructor
  · intro h; split at h
    · omega
    · omega
  · intro h; split
    · omega
    · split <;> omega
theorem At {x e : Nat} (h : (Qx x).length = 1) (he : (Qx x)[0]? = some e) : x = e := by
  rcases hd : Qx x with _ | ⟨u,l⟩
  · rw [hd] at h; cases h
  · rcases l with _ | ⟨w,l⟩
    · rw [hd] at he; simp at he
      have := Xc x
      rw [hd] at this; simp [Xz] at this; omega
    · rw [hd] at h; simp at h
theorem Qiu {a b : Int} (hb : 0 < b) : ri (a / ((Int.gcd a b : Nat) : Int)) ++ ri (b / ((Int.gcd a b : Nat) : Int)) = fr (Rat.divInt a b) := by
  obtain ⟨h1,h2⟩ := Qdd (n := a) hb
  rw [Ka,Int.gcd_comm] at h1 h2
  rw [h1,h2]
theorem Qiv (a : Int) : ri a ++ ri 1 = fr (Rat.divInt a 1) := by
  have h := Qiu (a := a) (b := 1) (by decide)
  rw [show ((Int.gcd a 1 : Nat) : Int) = 1 by simp] at h
  simpa using h
theorem Qaz {a b : Int} (hb : b ≠ 0) (ha2 : Qm a ≤ 90000000) (hb2 : Qm b ≤ 90000000) : Qm ((Int.gcd a b : Nat) : Int) ≤ 90000000 ∧ ((Int.gcd a b : Nat) : Int) ≠ 0 ∧ a % ((Int.gcd a b : Nat) : Int) = 0 ∧ b % ((Int.gcd a b : Nat) : Int) = 0 := by
  have h1 := Qme (n := a) hb hb2
  have h2 := Qfs (n := a) hb
  have h3 := Id a b
  have h4 := Ie a b
  rw [Ka,Int.gcd_comm] at h1 h2 h3 h4
  exact ⟨h1,by omega,h3,h4⟩
theorem Qbn {a b : Int} (h : b < 0) : Zi a b = Rat.divInt (-a) (-b) := by
  unfold Zi; rw [if_neg (by omega)]
  exact (Rat.neg_divInt_neg a b).symm
theorem Qbo {a b : Int} (h : 0 < b) : Zi a b = Rat.divInt a b := by
  unfold Zi; rw [if_neg (by omega)]
theorem Qn2 (a b : Rat) : Zi (a.num * (b.den : Int) + b.num * (a.den : Int)) ((a.den : Int) * (b.den : Int)) = a + b := by
  unfold Zi
  rw [if_neg (Int.mul_ne_zero (K9 a) (K9 b)),← Rat.divInt_add_divInt _ _ (K9 a) (K9 b),Rat.num_divInt_den,Rat.num_divInt_den]
theorem Qbb (a b : Rat) : Zi (a.num * b.num) ((a.den : Int) * (b.den : Int)) = a * b := by
  unfold Zi
  rw [if_neg (Int.mul_ne_zero (K9 a) (K9 b)),← Rat.divInt_mul_divInt,Rat.num_divInt_den,Rat.num_divInt_den]
theorem Qbm {a b : Rat} (h : b ≠ 0) : Zi (a.num * (b.den : Int)) ((a.den : Int) * b.num) = a / b := by
  have hn : b.num ≠ 0 := fun e => h (Rat.num_eq_zero.1 e)
  unfold Zi
  rw [if_neg (Int.mul_ne_zero (K9 a) hn),← Rat.divInt_mul_divInt,Rat.num_divInt_den,Rat.div_def]
  congr 1
  conv => rhs; rw [← Rat.num_divInt_den b,Rat.inv_divInt]
theorem Qca {z : Int} (hz : Qm z ≤ 100000000) : Qc Tryz.prog 48 [.agg (Zg z)] [.agg (ri z)] := by
  have hl : (Qw z.natAbs).length ≤ 1099511627776 := by have h2 : 32 * (Qw z.natAbs).length ≤ 100000000 + 31 := X6 hz; omega
  have h := Qxy (l := Qw z.natAbs) (fun u hu => (Wa _).1 u hu) hl (by rw [Zc]; exact hz)
  rw [Zc] at h
  have hm := Fh (decide (z < 0)) z.natAbs
  have e : Qh (decide (z < 0)) z.natAbs = z := by unfold Qh; by_cases h : z < 0 <;> simp [h] <;> omega
  rw [e] at hm
  exact w tt Tryz.func48 rfl [.c [] h,.c [] hm] rfl rfl trivial
theorem Qk9 {z : Int} : Qc Tryz.prog 150 [.agg (ri z)] [.one (.int .i64 (Int.sign z))] := by
  have hn := M7 (x := z.natAbs)
  have hl := P5 z.natAbs
  rcases Int.lt_trichotomy z 0 with h | h | h
  · rw [Int.sign_eq_neg_one_of_neg h]
    exact w tt Tryz.func150 rfl [.f (by simp only [Xn]; exact decide_eq_false (by omega)),.t (decide_eq_true h)] rfl rfl trivial
  · subst h
    exact w tt Tryz.func150 rfl [.t (by simp only [Xn]; show decide (((Qx 0).length : Int) = 0) = true; rw [Zx]; rfl)] rfl rfl trivial
  · rw [Int.sign_eq_one_of_pos h]
    exact w tt Tryz.func150 rfl [.f (by simp only [Xn]; exact decide_eq_false (by omega)),.f (decide_eq_false (by omega))] rfl rfl trivial
theorem Qic {a b : Int} (ha : Qm a ≤ 200000000) (hb : Qm b ≤ 200000000) : Qc Tryz.prog 210 [.agg (ri a),.agg (ri b)] [.agg (ri (a + b))] := by
  by_cases hs : (decide (a < 0) == decide (b < 0)) = true
  · have cm := Fh (decide (a < 0)) (a.natAbs + b.natAbs)
    rw [Q00 hs] at cm
    exact w tt Tryz.func210 rfl [.t hs,.c [] (Q27 ha hb),.c [] cm] rfl rfl trivial
  · have hs' : (decide (a < 0) == decide (b < 0)) = false := by simpa using hs
    by_cases hl : b.natAbs ≤ a.natAbs
    · have cm := Fh (decide (a < 0)) (a.natAbs - b.natAbs)
      rw [Q03 hs hl] at cm
      exact w tt Tryz.func210 rfl [.f hs',.c [] (Qh3 ha hb),.t (decide_eq_true (Qln.2 hl)),.c [] (Qib ha hb hl),.c [] cm] rfl rfl trivial
    · have cm := Fh (decide (b < 0)) (b.natAbs - a.natAbs)
      rw [Qv9 hs hl] at cm
      exact w tt Tryz.func210 rfl [.f hs',.c [] (Qh3 ha hb),.f (decide_eq_false fun h => hl (Qln.1 h)),.c [] (Qib hb ha (by omega)),.c [] cm] rfl rfl trivial
theorem Qrq {a b : Int} (ha : Qm a ≤ 200000000) (hb : Qm b ≤ 200000000) : Qc Tryz.prog 151 [.agg (ri a),.agg (ri b)] [.agg (ri (a - b))] := by
  have ca := Qic (a := a) (b := -b) ha (by rw [Z1]; exact hb)
  rw [show a + -b = a - b from by omega] at ca
  exact w tt Tryz.func151 rfl [.c [] (Hi (z := b)),.c [] ca] rfl rfl trivial
theorem Yg {a b : Int} (ha : Qm a ≤ 200000000) (hb : Qm b ≤ 200000000) : Qc Tryz.prog 47 [.agg (ri a),.agg (ri b)] [.agg (ri (a * b))] := by
  have cm := Fh (!(decide (a < 0) == decide (b < 0))) (a.natAbs * b.natAbs)
  rw [Q02] at cm
  exact w tt Tryz.func47 rfl [.c [] (Q3b ha hb),.c [] cm] rfl rfl trivial
theorem Q3i {a b : Int} (ha : Qm a ≤ 200000000) (hb : Qm b ≤ 200000000) : Qc Tryz.prog 88 [.agg (ri a),.agg (ri b)] [.one (.int .i64 (V5 a b))] := by
  have h := Qk9 (z := a - b)
  rw [Qwg] at h
  exact w tt Tryz.func88 rfl [.c [] (Qrq ha hb),.c [] h] rfl rfl trivial
theorem Cg {a b : Int} (ha : Qm a ≤ 90000000) (hb : Qm b ≤ 90000000) (h0 : b ≠ 0) (hd : a % b = 0) : Qc Tryz.prog 142 [.agg (ri a),.agg (ri b)] [.agg (ri (a / b))] := by
  have cm := Fh (!(decide (a < 0) == decide (b < 0))) (a.natAbs / b.natAbs)
  rw [Q01 hd] at cm
  exact w tt Tryz.func142 rfl [.c [] (Qqr ha hb (by omega)),.c [] cm] rfl rfl trivial
theorem Q4w (x : Nat) : ri ((x : Nat) : Int) = [nd x,.bool false] := by
  unfold ri sg
  rw [Int.natAbs_natCast,decide_eq_false (by omega)]
theorem Ai {a b : Int} (ha : Qm a ≤ 90000000) (hb : Qm b ≤ 90000000) : Qc Tryz.prog 141 [.agg (ri a),.agg (ri b)] [.agg (ri ((Int.gcd a b : Nat) : Int))] := by
  rw [Q4w]
  refine Z6 Tryz.func141 rfl ?_
  refine go tt [] rfl trivial ?_
  refine lp (S := Nat × Nat) 3 (fun L1 s => (5,.v (.one (nd s.1))) :: (6,.v (.one (nd s.2))) :: L1) (fun _ => [.blk 47 (ri a),.blk 47 (ri b),.blk 47 [.nils,.bool false]]) (fun s => s.2) (fun s => Nat.gcd s.1 s.2 = Int.gcd a b ∧ sz s.1 ≤ 90000000 ∧ sz s.2 ≤ 90000000) (a.natAbs,b.natAbs) ⟨rfl,ha,hb⟩ rfl (fun _ _ => rfl) rfl fun s hs => ?_
  obtain ⟨x,y⟩ := s
  obtain ⟨hp0,hp1,hp2⟩ := hs
  dsimp only at hp0 hp1 hp2 ⊢
  have hyn := M7 (x := y)
  have hyl := P5 y
  by_cases h1 : y = 0
  · have e : Int.gcd a b = x := by rw [← hp0,h1,Nat.gcd_zero_right]
    rw [e]
    exact en tt [.f (by simp only [Xn]; exact decide_eq_false (by omega))] rfl rfl trivial
  · have hlt := Nat.mod_lt x (show 0 < y by omega)
    refine go tt [.t (by simp only [Xn]; exact decide_eq_true (by omega)),.c [] (Qqr hp1 hp2 (by omega))] rfl trivial ?_
    exact rd (y,x % y) (by dsimp only; omega) ⟨by dsimp only; rw [← hp0,Nat.gcd_comm x y,Nat.gcd_rec y x,Nat.gcd_comm],hp2,Nat.le_trans (Xv (by dsimp only; omega)) hp2⟩ rfl
theorem My {a b : Int} (ha : Qm a ≤ 90000000) (hb : Qm b ≤ 90000000) : Qc Tryz.prog 83 [.agg (ri a),.agg (ri b)] [.agg (fr (Zi a b))] := by
  rcases Int.lt_trichotomy b 0 with hs | hs | hs
  · skip
    by_cases h1 : -b = 1
    · have h0 : (Vw (Qx (-b).natAbs))[0]? = some [LV.int .i64 1] := by rw [h1,show (1 : Int).natAbs = 1 from rfl,Fl]; rfl
      have hl1 : decide (((Vw (Qx (-b).natAbs)).length : Int) = 1) = true := by rw [h1,show (1 : Int).natAbs = 1 from rfl,Fl]; rfl
      have e : fr (Zi a b) = ri (-a) ++ ri (-b) := by rw [Qbn hs,h1]; exact (Qiv _).symm
      rw [e]
      exact w tt Tryz.func83 rfl [.c [] (Vk (z := b)),.f (decide_eq_false (by omega)),.t (decide_eq_true hs),.c [] (Hi (z := a)),.c [] (Hi (z := b)),.g 19 true hl1,.x h0,.t rfl] rfl rfl trivial
    · have hgf := Qaz (a := -a) (b := -b) (by omega) (by first | exact ha | (rw [Z1]; exact ha)) (by first | exact hb | (rw [Z1]; exact hb))
      have cg := Ai (a := -a) (b := -b) (by first | exact ha | (rw [Z1]; exact ha)) (by first | exact hb | (rw [Z1]; exact hb))
      have q1 := Cg (a := -a) (b := ((Int.gcd (-a) (-b) : Nat) : Int)) (by first | exact ha | (rw [Z1]; exact ha)) hgf.1 hgf.2.1 hgf.2.2.1
      have q2 := Cg (a := -b) (b := ((Int.gcd (-a) (-b) : Nat) : Int)) (by first | exact hb | (rw [Z1]; exact hb)) hgf.1 hgf.2.1 hgf.2.2.2
      have e : fr (Zi a b) = ri ((-a) / ((Int.gcd (-a) (-b) : Nat) : Int)) ++ ri ((-b) / ((Int.gcd (-a) (-b) : Nat) : Int)) := by rw [Qbn hs]; exact (Qiu (by omega)).symm
      rw [e]
      have hl := P5 (-b).natAbs
      by_cases hl1 : (Qx (-b).natAbs).length = 1
      · obtain ⟨u,hu⟩ : ∃ u,(Qx (-b).natAbs)[0]? = some u := ⟨_,List.getElem?_eq_getElem (by omega)⟩
        have hue := At hl1 hu
        exact w tt Tryz.func83 rfl [.c [] (Vk (z := b)),.f (decide_eq_false (by omega)),.t (decide_eq_true hs),.c [] (Hi (z := a)),.c [] (Hi (z := b)),.g 19 true (by simp only [Xn]; exact decide_eq_true (by omega)),.x (Zd hu),.f (decide_eq_false (by omega)),.c [] cg,.c [] q1,.c [] q2] rfl rfl trivial
      · exact w tt Tryz.func83 rfl [.c [] (Vk (z := b)),.f (decide_eq_false (by omega)),.t (decide_eq_true hs),.c [] (Hi (z := a)),.c [] (Hi (z := b)),.g 19 false (by simp only [Xn]; exact decide_eq_false (by omega)),.f rfl,.c [] cg,.c [] q1,.c [] q2] rfl rfl trivial
  · subst hs
    have h0 : (Vw (Qx (1 : Int).natAbs))[0]? = some [LV.int .i64 1] := by rw [show (1 : Int).natAbs = 1 from rfl,Fl]; rfl
    have h1 : decide (((Vw (Qx (1 : Int).natAbs)).length : Int) = 1) = true := by rw [show (1 : Int).natAbs = 1 from rfl,Fl]; rfl
    have e : fr (Zi a 0) = ri a ++ ri 1 := (Qiv a).symm
    rw [e]
    exact w tt Tryz.func83 rfl [.c [] (Vk (z := 0)),.t rfl,.c [] (Ue (n := 1) (by decide)),.f rfl,.g 19 true h1,.x h0,.t rfl] rfl rfl trivial
  · skip
    by_cases h1 : b = 1
    · have h0 : (Vw (Qx (b).natAbs))[0]? = some [LV.int .i64 1] := by rw [h1,show (1 : Int).natAbs = 1 from rfl,Fl]; rfl
      have hl1 : decide (((Vw (Qx (b).natAbs)).length : Int) = 1) = true := by rw [h1,show (1 : Int).natAbs = 1 from rfl,Fl]; rfl
      have e : fr (Zi a b) = ri (a) ++ ri (b) := by rw [Qbo hs,h1]; exact (Qiv _).symm
      rw [e]
      exact w tt Tryz.func83 rfl [.c [] (Vk (z := b)),.f (decide_eq_false (by omega)),.f (decide_eq_false (by omega)),.g 19 true hl1,.x h0,.t rfl] rfl rfl trivial
    · have hgf := Qaz (a := a) (b := b) (by omega) (by first | exact ha | (rw [Z1]; exact ha)) (by first | exact hb | (rw [Z1]; exact hb))
      have cg := Ai (a := a) (b := b) (by first | exact ha | (rw [Z1]; exact ha)) (by first | exact hb | (rw [Z1]; exact hb))
      have q1 := Cg (a := a) (b := ((Int.gcd (a) (b) : Nat) : Int)) (by first | exact ha | (rw [Z1]; exact ha)) hgf.1 hgf.2.1 hgf.2.2.1
      have q2 := Cg (a := b) (b := ((Int.gcd (a) (b) : Nat) : Int)) (by first | exact hb | (rw [Z1]; exact hb)) hgf.1 hgf.2.1 hgf.2.2.2
      have e : fr (Zi a b) = ri ((a) / ((Int.gcd (a) (b) : Nat) : Int)) ++ ri ((b) / ((Int.gcd (a) (b) : Nat) : Int)) := by rw [Qbo hs]; exact (Qiu (by omega)).symm
      rw [e]
      have hl := P5 (b).natAbs
      by_cases hl1 : (Qx (b).natAbs).length = 1
      · obtain ⟨u,hu⟩ : ∃ u,(Qx (b).natAbs)[0]? = some u := ⟨_,List.getElem?_eq_getElem (by omega)⟩
        have hue := At hl1 hu
        exact w tt Tryz.func83 rfl [.c [] (Vk (z := b)),.f (decide_eq_false (by omega)),.f (decide_eq_false (by omega)),.g 19 true (by simp only [Xn]; exact decide_eq_true (by omega)),.x (Zd hu),.f (decide_eq_false (by omega)),.c [] cg,.c [] q1,.c [] q2] rfl rfl trivial
      · exact w tt Tryz.func83 rfl [.c [] (Vk (z := b)),.f (decide_eq_false (by omega)),.f (decide_eq_false (by omega)),.g 19 false (by simp only [Xn]; exact decide_eq_false (by omega)),.f rfl,.c [] cg,.c [] q1,.c [] q2] rfl rfl trivial
theorem Q6d {n d : Int} (hn : -1000000000 ≤ n ∧ n ≤ 1000000000) (hd : -1000000000 ≤ d ∧ d ≤ 1000000000) : Qc Tryz.prog 22 [.one (.int .i64 n),.one (.int .i64 d)] [.agg (fr (Zi n d))] := by
  have b1 : Qm n ≤ 90000000 := Nat.le_trans (Jq.2 (show n.natAbs < 2 ^ 40 by omega)) (by decide)
  have b2 : Qm d ≤ 90000000 := Nat.le_trans (Jq.2 (show d.natAbs < 2 ^ 40 by omega)) (by decide)
  exact w tt Tryz.func22 rfl [.c [] (Ue (by omega)),.c [] (Ue (by omega)),.c [] (My b1 b2)] rfl rfl trivial
theorem Q3d {a : Rat} : Qc Tryz.prog 206 [.agg (fr a)] [.agg (fr (-a))] := by
  have e : fr (-a) = ri (-a.num) ++ ri (a.den : Int) := rfl
  rw [e]
  exact w tt Tryz.func206 rfl [.c [] (Hi (z := a.num))] rfl rfl trivial
theorem Qqo {a b : Rat} (ha : Qs 20000000 a) (hb : Qs 20000000 b) : Qc Tryz.prog 285 [.agg (fr a),.agg (fr b)] [.agg (fr (a + b))] := by
  have k1 := Qz a.num (b.den : Int)
  have k2 := Qz b.num (a.den : Int)
  have k3 := Qz (a.den : Int) (b.den : Int)
  have k4 := Su (a.num * (b.den : Int)) (b.num * (a.den : Int))
  have h1 := ha.1; have h2 := ha.2; have h3 := hb.1; have h4 := hb.2
  have cm := My (a := a.num * (b.den : Int) + b.num * (a.den : Int)) (b := (a.den : Int) * (b.den : Int)) (by omega) (by omega)
  rw [Qn2] at cm
  exact w tt Tryz.func285 rfl [.c [] (Yg (a := a.num) (b := (b.den : Int)) (by omega) (by omega)),.c [] (Yg (a := b.num) (b := (a.den : Int)) (by omega) (by omega)),.c [] (Qic (by omega) (by omega)),.c [] (Yg (a := (a.den : Int)) (b := (b.den : Int)) (by omega) (by omega)),.c [] cm] rfl rfl trivial
theorem Qq2 {a b : Rat} (ha : Qs 40000000 a) (hb : Qs 40000000 b) : Qc Tryz.prog 279 [.agg (fr a),.agg (fr b)] [.agg (fr (a * b))] := by
  have k1 := Qz a.num b.num
  have k3 := Qz (a.den : Int) (b.den : Int)
  have h1 := ha.1; have h2 := ha.2; have h3 := hb.1; have h4 := hb.2
  have cm := My (a := a.num * b.num) (b := (a.den : Int) * (b.den : Int)) (by omega) (by omega)
  rw [Qbb] at cm
  exact w tt Tryz.func279 rfl [.c [] (Yg (a := a.num) (b := b.num) (by omega) (by omega)),.c [] (Yg (a := (a.den : Int)) (b := (b.den : Int)) (by omega) (by omega)),.c [] cm] rfl rfl trivial
theorem Qh7 {a b : Rat} (ha : Qs 40000000 a) (hb : Qs 40000000 b) (h0 : b ≠ 0) : Qc Tryz.prog 309 [.agg (fr a),.agg (fr b)] [.agg (fr (a / b))] := by
  have k1 := Qz a.num (b.den : Int)
  have k3 := Qz (a.den : Int) b.num
  have h1 := ha.1; have h2 := ha.2; have h3 := hb.1; have h4 := hb.2
  have cm := My (a := a.num * (b.den : Int)) (b := (a.den : Int) * b.num) (by omega) (by omega)
  rw [Qbm h0] at cm
  exact w tt Tryz.func309 rfl [.c [] (Yg (a := a.num) (b := (b.den : Int)) (by omega) (by omega)),.c [] (Yg (a := (a.den : Int)) (b := b.num) (by omega) (by omega)),.c [] cm] rfl rfl trivial
theorem Qyf {a b : Rat} (ha : Qs 40000000 a) (hb : Qs 40000000 b) : Qc Tryz.prog 33 [.agg (fr a),.agg (fr b)] [.one (.int .i64 (Zu a b))] := by
  have k1 := Qz a.num (b.den : Int)
  have k2 := Qz b.num (a.den : Int)
  have h1 := ha.1; have h2 := ha.2; have h3 := hb.1; have h4 := hb.2
  exact w tt Tryz.func33 rfl [.c [] (Yg (a := a.num) (b := (b.den : Int)) (by omega) (by omega)),.c [] (Yg (a := b.num) (b := (a.den : Int)) (by omega) (by omega)),.c [] (Q3i (a := a.num * (b.den : Int)) (b := b.num * (a.den : Int)) (by omega) (by omega))] rfl rfl trivial
end Orr

namespace Orr
def Kz : List Rat → List Rat
  | [] => []
  |
   x :: l => match Kz l with
   | [] => if x = 0 then [] else [x]
   | y :: k => x :: y :: k
theorem Sb : ∀ {l : List Rat},(∀ x ∈ l,x = 0) → Kz l = []
  | [],_ => rfl
  |
   x :: l,h => by
   have ih := Sb (l := l) (fun y hy => h y (List.mem_cons_of_mem _ hy))
   simp [Kz,ih,h x (List.mem_cons_self ..)]
theorem Ob : ∀ {l : List Rat} {m : Nat} {y : Rat},(∀ j x,m < j → l[j]? = some x → x = 0) → l[m]? = some y → y ≠ 0 → Kz l = l.take (m + 1)
  | [],m,y,_,h,_ => by simp at h
  |
   x :: l,0,y,h1,h2,h3 => by
   have h0 : Kz l = [] := Sb fun z hz => by
     obtain ⟨j,hj⟩ := List.mem_iff_getElem?.1 hz
     exact h1 (j + 1) z (by omega) (by simpa using hj)
   simp at h2
   subst h2
   simp [Kz,h0,h3]
  |
   x :: l,m + 1,y,h1,h2,h3 => by
   have ih := Ob (l := l) (m := m) (y := y) (fun j z hj hz => h1 (j + 1) z (by omega) (by simpa using hz)) (by simpa using h2) h3
   cases hl : l with
   | nil => subst hl; simp at h2
   |
    cons u k =>
    subst hl
    rw [List.take_succ_cons] at ih
    simp only [Kz] at ih ⊢
    rw [ih]
    simp
theorem Do {l : List Rat} {m : Nat} (hm : m ≤ l.length) (h1 : ∀ j x,m ≤ j → l[j]? = some x → x = 0) (h2 : 0 < m → ∃ y,l[m - 1]? = some y ∧ y ≠ 0) : Kz l = l.take m := by
  rcases Nat.eq_zero_or_pos m with h0 | h0
  · subst h0
    rw [Sb fun z hz => ?_]; rfl
    obtain ⟨j,hj⟩ := List.mem_iff_getElem?.1 hz
    exact h1 j z (by omega) hj
  · obtain ⟨y,hy,hy0⟩ := h2 h0
    have := Ob (l := l) (m := m - 1) (y := y) (fun j x hj hx => h1 j x (by omega) hx) hy hy0
    rwa [show m - 1 + 1 = m from by omega] at this
theorem Qbv : ∀ (l : List Rat),∀ z ∈ Kz l,z ∈ l
  | [],z,h => h
  |
   x :: l,z,h => by
   simp only [Kz] at h
   have ih := Qbv l
   split at h
   · split at h
     · cases h
     · simp at h; simp [h]
   · rename_i y k e
     rw [e] at ih
     rcases List.mem_cons.1 h with h | h
     · simp [h]
     · exact List.mem_cons_of_mem _ (ih z h)
theorem Qbu : ∀ (l : List Rat),(Kz l).length ≤ l.length
  | [] => Nat.le_refl _
  |
   x :: l => by
   have ih := Qbu l
   simp only [Kz]
   split
   · split <;> simp
   · rename_i y k e
     rw [e] at ih
     simp at ih ⊢; omega
def zp (p : List Int) : List Rat := p.map fun (z : Int) => (z : Rat)
theorem Kr : ∀ (p : List Int),Kz (zp p) = zp (trim p)
  | [] => rfl
  |
   x :: l => by
   have ih := Kr l
   unfold zp at ih ⊢
   simp only [List.map_cons,Kz,trim,ih]
   cases h : trim l with
   |
    nil =>
    simp only [List.map_nil]
    by_cases hx : x = 0
    · subst hx; simp
    · have : (x : Rat) ≠ 0 := fun e => hx (by exact_mod_cast e)
      simp [hx,this]
   | cons y k => simp
theorem Ya (p : List Int) : (zp p).length = p.length := List.length_map _
theorem Qxa {p : List Int} {i : Nat} {z : Int} (h : p[i]? = some z) : (zp p)[i]? = some (z : Rat) := by simp [zp,h]
theorem B5 (p : List Int) (i : Nat) : (zp p).getD i 0 = ((p.getD i 0 : Int) : Rat) := by
  simp only [List.getD_eq_getElem?_getD,zp,List.getElem?_map]
  cases p[i]? <;> rfl
def Rb (s : Nat) (p : List Rat) : Prop := ∀ q ∈ p,Qs s q
theorem Rb.mono {s t : Nat} {p : List Rat} (h : Rb s p) (ht : s ≤ t) : Rb t p := fun q hq => (h q hq).mono ht
theorem Rb.get {s : Nat} {p : List Rat} (h : Rb s p) {i : Nat} {q : Rat} (hq : p[i]? = some q) : Qs s q := h q (List.mem_of_getElem? hq)
theorem Uc {s : Nat} {z : Int} (h : Qm z ≤ s) (h1 : 1 ≤ s) : Qs s (z : Rat) := ⟨by simpa using h,Nat.le_trans (show Qm ((1 : Nat) : Int) ≤ 1 by decide) h1⟩
theorem Pw {s : Nat} {p : List Int} (h : Bd s p) (h1 : 1 ≤ s) : Rb s (zp p) := fun q hq => by
  obtain ⟨z,hz,rfl⟩ := List.mem_map.1 hq
  exact Uc (h z hz) h1
theorem Q0k {s : Nat} (h1 : 1 ≤ s) : Qs s 0 := Uc (z := 0) (by simp [Vf]) h1
theorem Rb.getD {s : Nat} {p : List Rat} (h : Rb s p) (h1 : 1 ≤ s) (i : Nat) : Qs s (p.getD i 0) := by
  rw [List.getD_eq_getElem?_getD]
  cases e : p[i]? with
  | none => exact Q0k h1
  | some q => exact h.get e
theorem Rb.trim {s : Nat} {p : List Rat} (h : Rb s p) : Rb s (Kz p) := fun q hq => h q (Qbv p q hq)
def Rg (f : Nat → Rat) (n : Nat) : List Rat := (List.range n).map f
theorem Bp (f : Nat → Rat) (n : Nat) : (Rg f n).length = n := by simp [Rg]
theorem Qb0 (f : Nat → Rat) (n : Nat) : Rg f (n + 1) = Rg f n ++ [f n] := by simp [Rg,List.range_succ]
theorem Q1b {s n : Nat} {f : Nat → Rat} (h : ∀ i,i < n → Qs s (f i)) : Rb s (Rg f n) := fun q hq => by
  obtain ⟨i,hi,rfl⟩ := List.mem_map.1 hq
  exact h i (List.mem_range.1 hi)
theorem E4 {f : Nat → Rat} {g : Nat → Int} (n : Nat) (h : ∀ i,i < n → f i = (g i : Rat)) : Rg f n = zp ((List.range n).map g) := by
  simp only [Rg,zp,List.map_map]
  exact List.map_congr_left fun i hi => h i (List.mem_range.1 hi)
def Qpt (p q : List Rat) : List Rat := Kz (Rg (fun i => p.getD i 0 + q.getD i 0) (max p.length q.length))
def Vc (p : List Rat) (c : Rat) : List Rat := Kz (Rg (fun i => p.getD i 0 * c) p.length)
def Qd1 (p : List Rat) : List Rat := Vc p (-1)
def Qv0 (p q : List Rat) : List Rat := Qpt p (Qd1 q)
theorem Q0l (p q : List Int) : Qpt (zp p) (zp q) = zp (Pk p q) := by
  unfold Qpt Pk Y7
  rw [E4 (g := fun k => p.getD k 0 + q.getD k 0) _ fun i _ => by rw [B5,B5,Rat.intCast_add],Kr,Ya,Ya]
theorem Qbr (p : List Int) (c : Int) : Vc (zp p) (c : Rat) = zp (Qu p c) := by
  unfold Vc Qu Y7
  rw [E4 (g := fun k => p.getD k 0 * c) _ fun i _ => by rw [B5,Rat.intCast_mul],Kr,Ya]
theorem Qjl (p : List Int) : Qu p (-1) = Yx p := by
  unfold Qu Yx Y7
  congr 2
  funext k
  omega
theorem Qni (p : List Int) : Qd1 (zp p) = zp (Yx p) := by
  rw [← Qjl,← Qbr]; rfl
theorem Ry {p q : List Int} (hp : Qj p) (hq : Qj q) (h : ∀ k,p.getD k 0 = q.getD k 0) : p = q := by
  have key : ∀ {p q : List Int},Qj q → (∀ k,p.getD k 0 = q.getD k 0) → q.length ≤ p.length := by
    intro p q hq h
    rcases Nat.lt_or_ge p.length q.length with h1 | h1
    · have h2 := Xw hq (by omega)
      rw [← h,List.getD_eq_getElem?_getD,List.getElem?_eq_none (by omega)] at h2
      exact (h2 rfl).elim
    · exact h1
  exact A4 (Nat.le_antisymm (key hp fun k => (h k).symm) (key hq h)) fun j _ => h j
theorem Qiq {n m : Nat} {f g : Nat → Int} (hn : n ≤ m) (h : ∀ k,k < n → f k = g k) (h0 : ∀ k,n ≤ k → k < m → g k = 0) : Y7 n f = Y7 m g := by
  refine Ry (Q8 _ _) (Q8 _ _) fun k => ?_
  rw [J3,J3]
  by_cases h1 : k < n
  · rw [if_pos h1,if_pos (by omega),h k h1]
  · rw [if_neg h1]
    by_cases h2 : k < m
    · rw [if_pos h2,h0 k (by omega) h2]
    · rw [if_neg h2]
theorem Qnl (p q : List Int) : Qv0 (zp p) (zp q) = zp (Vr p q) := by
  unfold Qv0
  rw [Qni,Q0l]
  congr 1
  have hl := Tk q
  unfold Pk Vr
  refine Qiq (by omega) (fun k _ => ?_) fun k h1 h2 => ?_
  · unfold Yx
    rw [J3]
    split
    · omega
    · rename_i h
      have : q.getD k 0 = 0 := by rw [List.getD_eq_getElem?_getD,List.getElem?_eq_none (by omega)]; rfl
      omega
  · have h3 : p.getD k 0 = 0 := by rw [List.getD_eq_getElem?_getD,List.getElem?_eq_none (by omega)]; rfl
    have h4 : (Yx q).getD k 0 = 0 := by rw [List.getD_eq_getElem?_getD,List.getElem?_eq_none (by omega)]; rfl
    unfold Yx at h4
    rw [J3] at h4
    split at h4
    · omega
    · have : q.getD k 0 = 0 := by rw [List.getD_eq_getElem?_getD,List.getElem?_eq_none (by omega)]; rfl
      omega
end Orr

namespace Orr
structure Crv where
  x : List Int
  y : List Int
  d : Int
abbrev cl (k : Crv) : List LV := [pl k.x,pl k.y,sg k.d,mg k.d]
def Crv.d' (k : Crv) : Int := if k.d = 0 then 1 else k.d
def Crv.g (k : Crv) : Int := if k.d' < 0 then -((Z4 (k.d' :: (trim k.x ++ trim k.y)) : Nat) : Int) else (Z4 (k.d' :: (trim k.x ++ trim k.y)) : Nat)
def Crv.norm (k : Crv) : Crv := ⟨trim ((trim k.x).map (· / k.g)),trim ((trim k.y).map (· / k.g)),k.d' / k.g⟩
theorem Td {l : List Int} : ∀ z ∈ l,((Z4 l : Nat) : Int) ∣ z := by
  have key : ∀ (l : List Int) (g : Nat),(l.foldl (fun g z => Nat.gcd g z.natAbs) g ∣ g) ∧ ∀ z ∈ l,l.foldl (fun g z => Nat.gcd g z.natAbs) g ∣ z.natAbs := by
    intro l
    induction l with
    | nil => intro g; exact ⟨Nat.dvd_refl _,by simp⟩
    |
     cons u l ih =>
     intro g
     obtain ⟨h1,h2⟩ := ih (Nat.gcd g u.natAbs)
     refine ⟨Nat.dvd_trans h1 (Nat.gcd_dvd_left _ _),fun z hz => ?_⟩
     rcases List.mem_cons.1 hz with rfl | hz
     · exact Nat.dvd_trans h1 (Nat.gcd_dvd_right _ _)
     · exact h2 z hz
  intro z hz
  have := (key l 0).2 z hz
  exact Int.ofNat_dvd_left.2 this
theorem Crv.d'_ne (k : Crv) : k.d' ≠ 0 := by unfold Crv.d'; split <;> omega
theorem Crv.gcd_ne (k : Crv) : Z4 (k.d' :: (trim k.x ++ trim k.y)) ≠ 0 := by
  intro e
  have h := Td (l := k.d' :: (trim k.x ++ trim k.y)) k.d' (List.mem_cons_self ..)
  rw [e] at h
  exact k.d'_ne (by simpa using h)
theorem Crv.g_ne (k : Crv) : k.g ≠ 0 := by
  have h0 := k.gcd_ne
  unfold Crv.g
  split <;> omega
theorem Crv.g_dvd (k : Crv) : ∀ z ∈ k.d' :: (trim k.x ++ trim k.y),z % k.g = 0 := by
  intro z hz
  have h := Td z hz
  refine Int.emod_eq_zero_of_dvd ?_
  unfold Crv.g
  split
  · exact Int.neg_dvd.2 h
  · exact h
theorem Crv.isz_g (k : Crv) {s : Nat} (h : Qm k.d' ≤ s) : Qm k.g ≤ s := by
  have hd := Td (l := k.d' :: (trim k.x ++ trim k.y)) k.d' (List.mem_cons_self ..)
  have hle : Z4 (k.d' :: (trim k.x ++ trim k.y)) ≤ k.d'.natAbs := Nat.le_of_dvd (by have := k.d'_ne; omega) (Int.ofNat_dvd_left.1 hd)
  refine Nat.le_trans (Xv ?_) h
  unfold Crv.g
  split <;> simp <;> exact hle
structure Cs (s n : Nat) (k : Crv) : Prop where
  x : Bd s k.x
  y : Bd s k.y
  d : Qm k.d ≤ s
  lx : k.x.length ≤ n
  ly : k.y.length ≤ n
theorem Qc4 {k : Crv} {s : Nat} (h : Qm k.d ≤ s) (h1 : 1 ≤ s) : Qm k.d' ≤ s := by unfold Crv.d'; split <;> first | exact h1 | exact h
theorem Ca {s : Nat} {p : List Int} (h : Bd s p) (g : Int) : Bd s (p.map (· / g)) := fun z hz => by
  obtain ⟨u,hu,rfl⟩ := List.mem_map.1 hz
  exact Nat.le_trans (Th u g) (h u hu)
theorem Cs.norm {s n : Nat} {k : Crv} (h : Cs s n k) (h1 : 1 ≤ s) : Cs s n k.norm := by
  refine ⟨X8 (Ca (X8 h.x) _),X8 (Ca (X8 h.y) _),Nat.le_trans (Th _ _) (Qc4 h.d h1),?_,?_⟩
  · refine Nat.le_trans (Xa _) ?_; rw [List.length_map]; exact Nat.le_trans (Xa _) h.lx
  · refine Nat.le_trans (Xa _) ?_; rw [List.length_map]; exact Nat.le_trans (Xa _) h.ly
theorem Cs.mono {s n t m : Nat} {k : Crv} (h : Cs s n k) (hs : s ≤ t) (hn : n ≤ m) : Cs t m k := ⟨Qd h.x hs,Qd h.y hs,Nat.le_trans h.d hs,Nat.le_trans h.lx hn,Nat.le_trans h.ly hn⟩
def Nml (k : Crv) : Prop := Qj k.x ∧ Qj k.y ∧ 0 < k.d ∧ Z4 (k.d :: (k.x ++ k.y)) = 1
theorem Crv.norm_of {k : Crv} (h : Nml k) : k.norm = k := by
  obtain ⟨h1,h2,h3,h4⟩ := h
  have hd : k.d' = k.d := by unfold Crv.d'; rw [if_neg (by omega)]
  have hx : trim k.x = k.x := h1
  have hy : trim k.y = k.y := h2
  have hg : k.g = 1 := by unfold Crv.g; rw [hd,hx,hy,h4,if_neg (by omega)]; rfl
  unfold Crv.norm
  rw [hg,hd,hx,hy]
  simp [hx,hy]
theorem Qcy {l : List Int} {g : Int} (hg : g ≠ 0) (hga : g.natAbs = Z4 l) : Z4 (l.map (· / g)) = 1 := by
  have key : ∀ (l : List Int) (a : Nat),(∀ z ∈ l,g ∣ z) → l.foldl (fun a z => Nat.gcd a z.natAbs) (a * g.natAbs) = ((l.map (· / g)).foldl (fun a z => Nat.gcd a z.natAbs) a) * g.natAbs := by
    intro l
    induction l with
    | nil => intro a _; rfl
    |
     cons z l ih =>
     intro a h
     simp only [List.map_cons,List.foldl_cons]
     have hz : z.natAbs = (z / g).natAbs * g.natAbs := by
       obtain ⟨q,rfl⟩ := h z (List.mem_cons_self ..)
       rw [Int.mul_ediv_cancel_left _ hg,Int.natAbs_mul,Nat.mul_comm]
     rw [hz,Nat.gcd_mul_right]
     exact ih _ fun u hu => h u (List.mem_cons_of_mem _ hu)
  have h := key l 0 fun z hz => Int.natAbs_dvd_natAbs.1 (by rw [hga]; exact Int.natAbs_dvd_natAbs.2 (Td z hz))
  rw [Nat.zero_mul] at h
  have h' : Z4 l = Z4 (l.map (· / g)) * g.natAbs := h
  rw [← hga] at h'
  have hp : 0 < g.natAbs := by omega
  exact Nat.eq_of_mul_eq_mul_right hp (by rw [Nat.one_mul]; exact h'.symm)
theorem Fd {l : List Int} {g : Int} (ht : Qj l) (hg : g ≠ 0) (hd : ∀ z ∈ l,g ∣ z) : Qj (l.map (· / g)) := by
  induction l with
  | nil => rfl
  |
   cons x l ih =>
   have hne : ∀ z ∈ x :: l,z ≠ 0 → z / g ≠ 0 := fun z hz h0 h1 => by
     obtain ⟨q,rfl⟩ := hd z hz
     rw [Int.mul_ediv_cancel_left _ hg] at h1
     rw [h1] at h0; simp at h0
   unfold Qj at ht ih ⊢
   cases hl : trim l with
   |
    nil =>
    simp only [trim,hl] at ht
    split at ht
    · cases ht
    · rename_i hx
      injection ht with _ h2
      subst h2
      simp [trim,hne x (List.mem_cons_self ..) hx]
   |
    cons y k =>
    simp only [trim,hl] at ht
    injection ht with _ h2
    have hll : trim l = l := by rw [hl]; exact h2
    have ih := ih hll fun z hz => hd z (List.mem_cons_of_mem _ hz)
    rw [List.map_cons]
    have hne2 : l.map (· / g) ≠ [] := by rw [← hll,hl]; simp
    cases hm : l.map (· / g) with
    | nil => exact absurd hm hne2
    |
     cons u w =>
     rw [hm] at ih
     have e : trim (x / g :: u :: w) = match trim (u :: w) with | [] => if x / g = 0 then [] else [x / g] | y :: k => x / g :: y :: k := rfl
     rw [e,ih]
theorem Crv.nml (k : Crv) : Nml k.norm := by
  have hg := k.g_ne
  have hdv : ∀ z ∈ k.d' :: (trim k.x ++ trim k.y),k.g ∣ z := fun z hz => Int.dvd_of_emod_eq_zero (k.g_dvd z hz)
  have hx := Fd (g := k.g) (Xk k.x) hg fun z hz => hdv z (by simp [hz])
  have hy := Fd (g := k.g) (Xk k.y) hg fun z hz => hdv z (by simp [hz])
  refine ⟨Xk _,Xk _,?_,?_⟩
  · show 0 < k.d' / k.g
    obtain ⟨q,hq⟩ := hdv k.d' (List.mem_cons_self ..)
    have h0 := k.d'_ne
    have hgc := k.gcd_ne
    have e : k.d' / k.g = q := by rw [hq,Int.mul_ediv_cancel_left _ hg]
    rw [e]
    unfold Crv.g at hq hg
    have hq0 : q ≠ 0 := fun e => by rw [e,Int.mul_zero] at hq; exact h0 hq
    split at hq
    · rename_i hneg
      rcases Int.lt_or_gt_of_ne hq0 with h | h
      · have := Int.mul_pos_of_neg_of_neg (a := -((Z4 (k.d' :: (trim k.x ++ trim k.y)) : Nat) : Int)) (b := q) (by omega) h
        omega
      · exact h
    · rename_i hneg
      rcases Int.lt_or_gt_of_ne hq0 with h | h
      · have := Int.mul_neg_of_pos_of_neg (a := ((Z4 (k.d' :: (trim k.x ++ trim k.y)) : Nat) : Int)) (b := q) (by omega) h
        omega
      · exact h
  · show Z4 (k.d' / k.g :: (trim ((trim k.x).map (· / k.g)) ++ trim ((trim k.y).map (· / k.g)))) = 1
    rw [show trim ((trim k.x).map (· / k.g)) = (trim k.x).map (· / k.g) from hx,show trim ((trim k.y).map (· / k.g)) = (trim k.y).map (· / k.g) from hy,← List.map_append,← List.map_cons (f := (· / k.g))]
    refine Qcy hg ?_
    unfold Crv.g
    split <;> omega
structure Pt where
  c : Crv
  id : Int
def Vp (p : Pt) : List LV := [pl p.c.x,pl p.c.y,sg p.c.d,mg p.c.d,.int .i64 p.id]
def pts (l : List Pt) : LV := .row (l.map Vp)
end Orr

namespace Orr
def Om : List Pt → Int → Nat
  | [],_ => 0
  | p :: l,id => if p.id < id then Om l id + 1 else 0
def has (l : List Pt) (id : Int) : Bool := match l[Om l id]? with
  | some p => decide (p.id = id)
  | none => false
theorem Qu3 (l : List Pt) (id : Int) : Om l id ≤ l.length := by
  induction l with
  | nil => exact Nat.le_refl _
  | cons p l ih => simp only [Om]; split <;> simp <;> omega
theorem Qjj : ∀ {l : List Pt} {id : Int} {k : Nat},(∀ j p,j < k → l[j]? = some p → p.id < id) → (k = l.length ∨ ∃ p,l[k]? = some p ∧ ¬ p.id < id) → Om l id = k
  |
   [],id,k,_,h => by
   rcases h with h | ⟨p,h,_⟩
   · subst h; rfl
   · simp at h
  |
   q :: l,id,0,_,h => by
   rcases h with h | ⟨p,h,h2⟩
   · simp at h
   · simp at h; subst h; simp [Om,h2]
  |
   q :: l,id,k + 1,h1,h => by
   have hq := h1 0 q (by omega) rfl
   simp only [Om,hq,if_true]
   rw [Qjj (k := k) (fun j p hj hp => h1 (j + 1) p (by omega) (by simpa using hp))]
   rcases h with h | ⟨p,h,h2⟩
   · left; simpa using h
   · right; exact ⟨p,by simpa using h,h2⟩
def put (l : List Pt) (q : Pt) : List Pt := l.take (Om l q.id) ++ q :: l.drop (Om l q.id)
def Tz (l : List Pt) (q : Pt) : Int := if has l q.id = true then 6 else if 6 ≤ l.length then 9 else 0
def Qqd (s n : Nat) (p : Pt) : Prop := Nml p.c ∧ Cs s n p.c
theorem Qnd (l : List Pt) (q : Pt) : (put l q).length = l.length + 1 := by
  have := Qu3 l q.id
  simp [put]; omega
theorem Qne {l : List Pt} {q p : Pt} (h : p ∈ put l q) : p = q ∨ p ∈ l := by
  unfold put at h
  rcases List.mem_append.1 h with h | h
  · exact .inr (List.mem_of_mem_take h)
  · rcases List.mem_cons.1 h with h | h
    · exact .inl h
    · exact .inr (List.mem_of_mem_drop h)
def Jr : List Pt → List Pt → List Pt × Int
  | acc,[] => (acc,0)
  | acc,q :: qs => if Tz acc q = 0 then Jr (put acc q) qs else ([],Tz acc q)
def Q6o (a b : Crv) : Bool := decide (a.x = b.x ∧ a.y = b.y ∧ a.d = b.d)
def Q8i (out : List Pt) (p : Pt) : List Pt := if out.any (fun q => Q6o p.c q.c) = true then out else out ++ [p]
def Zbr (l : List Pt) : List Pt := l.foldl Q8i []
theorem Ub {α β : Type} (f : β → α → β) (b : β) (l : List α) {i : Nat} {x : α} (h : l[i]? = some x) : (l.take (i + 1)).foldl f b = f ((l.take i).foldl f b) x := by
  rw [List.take_add_one,h]; simp [List.foldl_append]
def IsPt (s n : Nat) (z : List LV) (q : Pt) : Prop := ∃ lx ly b l px py d,z = [.row lx,.row ly,.bool b,Q5h l,.int .i64 q.id] ∧ IsInts lx px ∧ IsInts ly py ∧ Xl (.bool b) (Q5h l) d ∧ Cs s n ⟨px,py,d⟩ ∧ q.c = Crv.norm ⟨px,py,d⟩
theorem Q4d {s n : Nat} {p : Pt} (h : Qqd s n p) : IsPt s n (Vp p) p := by
  obtain ⟨b,l,h1,h2,h3,h4⟩ := Qe p.c.d
  refine ⟨_,_,decide (p.c.d < 0),Qw p.c.d.natAbs,_,_,p.c.d,rfl,Z0 _,Z0 _,Qe _,h.2,(Crv.norm_of h.1).symm⟩
def IsPts (s n : Nat) : List (List LV) → List Pt → Prop
  | [],[] => True
  | z :: zs,q :: qs => IsPt s n z q ∧ IsPts s n zs qs
  | _,_ => False
theorem IsPts.len {s n : Nat} : ∀ {zs : List (List LV)} {qs : List Pt},IsPts s n zs qs → zs.length = qs.length
  | [],[],_ => rfl
  | _ :: _,_ :: _,h => by simp [h.2.len]
  | [],_ :: _,h => h.elim
  | _ :: _,[],h => h.elim
theorem IsPts.get {s n : Nat} : ∀ {zs : List (List LV)} {qs : List Pt},IsPts s n zs qs → ∀ {i : Nat} {q : Pt},qs[i]? = some q → ∃ z,zs[i]? = some z ∧ IsPt s n z q
  | [],[],_,i,q,h => by simp at h
  | z :: zs,q :: qs,h,0,r,hr => by simp at hr; subst hr; exact ⟨z,rfl,h.1⟩
  | z :: zs,q :: qs,h,i + 1,r,hr => by simpa using h.2.get (i := i) (by simpa using hr)
  | [],_ :: _,h,_,_,_ => h.elim
  | _ :: _,[],h,_,_,_ => h.elim
theorem Qmd {s n : Nat} : ∀ {l : List Pt},(∀ p ∈ l,Qqd s n p) → IsPts s n (l.map Vp) l
  | [],_ => trivial
  | p :: l,h => ⟨Q4d (h p (List.mem_cons_self ..)),Qmd fun q hq => h q (List.mem_cons_of_mem _ hq)⟩
theorem IsPt.ok {s n : Nat} {z : List LV} {q : Pt} (h : IsPt s n z q) (h1 : 1 ≤ s) : Qqd s n q := by
  obtain ⟨lx,ly,b,l,px,py,d,_,_,_,_,hc,e⟩ := h
  unfold Qqd
  rw [e]
  exact ⟨Crv.nml _,hc.norm h1⟩
theorem Qpj (acc qs : List Pt) {i : Nat} {q : Pt} (hi : qs[i]? = some q) (h : Jr acc (qs.take i) = ((Jr acc (qs.take i)).1,0)) : Jr acc (qs.take (i + 1)) = if Tz (Jr acc (qs.take i)).1 q = 0 then (put (Jr acc (qs.take i)).1 q,0) else ([],Tz (Jr acc (qs.take i)).1 q) := by
  induction qs generalizing acc i with
  | nil => simp at hi
  |
   cons x qs ih =>
   cases i with
   | zero => simp at hi; subst hi; simp [Jr]
   |
    succ i =>
    simp only [List.take_succ_cons,Jr] at h ⊢
    by_cases h0 : Tz acc x = 0
    · simp only [h0,if_true] at h ⊢
      exact ih (put acc x) (by simpa using hi) h
    · simp only [h0,if_false] at h
      injection h with _ h
      exact absurd h h0
theorem Quk (acc qs : List Pt) {i : Nat} {e : Int} (he : e ≠ 0) (h : Jr acc (qs.take i) = ([],e)) : Jr acc qs = ([],e) := by
  induction qs generalizing acc i with
  | nil => simp [Jr] at h; exact absurd h.2.symm he
  |
   cons x qs ih =>
   cases i with
   | zero => simp [Jr] at h; exact absurd h.2.symm he
   |
    succ i =>
    simp only [List.take_succ_cons,Jr] at h ⊢
    by_cases h0 : Tz acc x = 0
    · simp only [h0,if_true] at h ⊢; exact ih _ h
    · simp only [h0,if_false] at h ⊢; exact h
end Orr

namespace Orr
def Zv (p : List Int) (q : Rat) : Int := V5 (Q0g p q.num q.den) 0
abbrev qa (q : Rat) : List LV := pl [-q.num,(q.den : Int)] :: (rl q ++ rl q)
def Y8 (sgn : List Int → Int) : Nat → List Int → Int
  | 0,_ => 0
  | k + 1,p => if p.length = 0 then 0 else if sgn p = 0 then Y8 sgn k (Zk p) else sgn p
theorem Tf (sgn : List Int → Int) : ∀ (k : Nat) (p : List Int),p.length ≤ k → Y8 sgn k p = Y8 sgn p.length p
  |
   0,p,h => by
   have : p.length = 0 := by omega
   rw [this]
  |
   k + 1,p,h => by
   cases hp : p.length with
   | zero => simp [Y8,hp]
   |
    succ m =>
    simp only [Y8]
    have h1 := Vg p
    rw [Tf sgn k (Zk p) (by omega),Tf sgn m (Zk p) (by omega)]
theorem D4 (sgn : List Int → Int) {p : List Int} (h : p.length = 0) : Y8 sgn p.length p = 0 := by rw [h]; rfl
theorem D2 (sgn : List Int → Int) {p : List Int} (h : 0 < p.length) (hs : sgn p ≠ 0) : Y8 sgn p.length p = sgn p := by
  obtain ⟨m,hm⟩ : ∃ m,p.length = m + 1 := ⟨p.length - 1,by omega⟩
  rw [hm]; simp only [Y8]; rw [if_neg (by omega),if_neg hs]
theorem D3 (sgn : List Int → Int) {p : List Int} (h : 0 < p.length) (hs : sgn p = 0) : Y8 sgn p.length p = Y8 sgn (Zk p).length (Zk p) := by
  obtain ⟨m,hm⟩ : ∃ m,p.length = m + 1 := ⟨p.length - 1,by omega⟩
  rw [hm]; simp only [Y8]; rw [if_neg (by omega),if_pos hs]
  exact Tf sgn m _ (by have := Vg p; omega)
structure Tm where
  p : List Int
  lo : Rat
  hi : Rat
abbrev ta (t : Tm) : List LV := pl t.p :: (rl t.lo ++ rl t.hi)
abbrev tq (q : Rat) : Tm := ⟨[-q.num,(q.den : Int)],q,q⟩
def Qo8 (sg : List Int → Int) (p : List Int) : Int := Y8 sg p.length p
def Te (p : List Int) (q : Rat) : Int := Qo8 (fun p => Zv p q) p
structure Pb (p : List Int) : Prop where
  t : Qj p
  l : p.length ≤ 64
  b : Bd 16777216 p
abbrev Qb (q : Rat) : Prop := Qs 16777216 q
abbrev Cb (k : Crv) : Prop := Cs 1048576 16 k
def Yk (a b : Crv) : List Int := Vr (Qu b.x a.d) (Qu a.x b.d)
def Vq (a b : Crv) : List Int := Vr (Qu b.y a.d) (Qu a.y b.d)
def Mf (sg : List Int → Int) (a b : Pt) : List (List Int) → Bool
  | [] => decide (a.id < b.id)
  | p :: l => if 0 < p.length then decide (0 < Qo8 sg p) else Mf sg a b l
def Cc (sg : List Int → Int) (a b : Pt) : Bool := Mf sg a b [Yk a.c b.c,Vq a.c b.c]
end Orr

namespace Orr
open Go
structure Ct where
  kind : Int
  i0 : Int
  i1 : Int
  i2 : Int
  i3 : Int
  p : List Int
  want : Int
abbrev O2 (c : Ct) : List LV := [.int .i64 c.kind,.int .i64 c.i0,.int .i64 c.i1,.int .i64 c.i2,.int .i64 c.i3,pl c.p,.int .i64 c.want]
def Cn (p q : List Int) : List Int := if 0 < p.length then p else q
def Xs : List Int → List Int → Bool
  | x :: l,y :: m => if x = y then Xs l m else decide (x < y)
  | _,_ => false
def Kx (a b : Ct) : Bool := Xs [a.kind,a.i0,a.i1,a.i2,a.i3] [b.kind,b.i0,b.i1,b.i2,b.i3]
def Mg (out : List Ct) (c : Ct) : Nat → Nat
  | 0 => 0
  |
   k + 1 => match out[k]? with
   | some x => if Kx c x = true then Mg out c k else k + 1
   | none => k + 1
theorem Qm6 (out : List Ct) (c : Ct) : ∀ k,Mg out c k ≤ k
  | 0 => Nat.le_refl _
  |
   k + 1 => by
   simp only [Mg]
   split
   · split
     · exact Nat.le_succ_of_le (Qm6 out c k)
     · exact Nat.le_refl _
   · exact Nat.le_refl _
theorem Qz8 {out : List Ct} {c x : Ct} {k : Nat} (hx : out[k]? = some x) (h : Kx c x = true) : Mg out c (k + 1) = Mg out c k := by
  simp only [Mg,hx,h,if_true]
theorem Qu2 {out : List Ct} {c x : Ct} {k : Nat} (hx : out[k]? = some x) (h : Kx c x = false) : Mg out c (k + 1) = k + 1 := by
  simp [Mg,hx,h]
def Lt (out : List Ct) (c : Ct) : List Ct := out.take (Mg out c out.length) ++ c :: out.drop (Mg out c out.length)
theorem Qtx (out : List Ct) (c : Ct) : (Lt out c).length = out.length + 1 := by
  have := Qm6 out c out.length
  simp [Lt]; omega
theorem Qty {out : List Ct} {c x : Ct} (h : x ∈ Lt out c) : x = c ∨ x ∈ out := by
  simp only [Lt,List.mem_append,List.mem_cons] at h
  rcases h with h | h | h
  · exact .inr (List.mem_of_mem_take h)
  · exact .inl h
  · exact .inr (List.mem_of_mem_drop h)
def Xu (l : List Ct) : List Ct := l.foldl Lt []
theorem Qj9 (l : List Ct) (c : Ct) : Xu (l ++ [c]) = Lt (Xu l) c := by simp [Xu,List.foldl_append]
theorem Qka {l : List Ct} {i : Nat} {c : Ct} (h : l[i]? = some c) : Xu (l.take (i + 1)) = Lt (Xu (l.take i)) c := by
  rw [List.take_succ,h]; exact Qj9 _ _
theorem Qat : ∀ (l acc : List Ct),(l.foldl Lt acc).length = acc.length + l.length
  | [],acc => by simp
  | c :: l,acc => by simp only [List.foldl_cons]; rw [Qat l (Lt acc c),Qtx]; simp; omega
theorem V1 (l : List Ct) : (Xu l).length = l.length := by unfold Xu; rw [Qat]; simp
theorem Qau : ∀ (l acc : List Ct) {x : Ct},x ∈ l.foldl Lt acc → x ∈ l ∨ x ∈ acc
  | [],acc,x,h => .inr h
  |
   c :: l,acc,x,h => by
   simp only [List.foldl_cons] at h
   rcases Qau l _ h with h | h
   · exact .inl (List.mem_cons_of_mem _ h)
   · rcases Qty h with rfl | h
     · exact .inl (List.mem_cons_self ..)
     · exact .inr h
theorem S9 {l : List Ct} {x : Ct} (h : x ∈ Xu l) : x ∈ l := by
  rcases Qau l [] h with h | h
  · exact h
  · cases h
theorem Qfz {α : Type} (l : List α) (z x : α) {k m' : Nat} (hk : k ≤ l.length) (hm : m' = l.length - k) :
    ((l ++ [z]).take (k + 1) ++ ((l ++ [z]).drop k).take m' ++ (l ++ [z]).drop (k + 1 + m')).set k x = l.take k ++ x :: l.drop k := by
  subst hm
  have e1 : ((l ++ [z]).drop k).take (l.length - k) = l.drop k := by
    rw [List.drop_append_of_le_length hk,List.take_append_of_le_length (by simp),List.take_of_length_le (by simp)]
  have e2 : (l ++ [z]).drop (k + 1 + (l.length - k)) = [] := List.drop_eq_nil_of_le (by simp; omega)
  rw [e1,e2,List.append_nil]
  have e3 : (l ++ [z]).take (k + 1) = (l ++ [z]).take k ++ [(l ++ [z])[k]'(by simp; omega)] := by rw [List.take_succ_eq_append_getElem]
  rw [e3,List.take_append_of_le_length hk,List.append_assoc,List.set_append,if_neg (by simp; omega)]
  simp [Nat.min_eq_left hk]
def Ix (a b : Pt) : List Int := Cn (Yk a.c b.c) (Vq a.c b.c)
def Ul (sg : List Int → Int) (a b : Pt) : Ct := { kind := 1,i0 := a.id,i1 := b.id,i2 := 0,i3 := 0,p := Ix a b,want := Qo8 sg (Ix a b) }
end Orr

namespace Orr
open Go Go.Proofs
set_option maxRecDepth 10000
abbrev pr (p : List Int) : TV := .one (pl p)
theorem J8 {p : List Int} {i : Nat} {z : Int} (h : p[i]? = some z) : (p.map Zg)[i]? = some (Zg z) := Z9 h
theorem Aj (p : List Int) : Qc Tryz.prog 76 [pr p] [pr (trim p)] := by
  refine Z6 Tryz.func76 rfl (ln 0 rfl rfl fun hl => ?_)
  rw [List.length_map] at hl
  refine go tt [] rfl trivial ?_
  refine lp (S := Nat) 0 (fun L1 n => (3,.v (.one (.int .i64 (n : Int)))) :: L1) (fun _ => []) id (fun n => n ≤ p.length ∧ ∀ j x,n ≤ j → p[j]? = some x → x = 0) (p.map Zg).length ⟨by simp,fun j x h1 h2 => by
    have := (List.getElem?_eq_some_iff.1 h2).1; simp at h1; omega⟩ rfl (fun _ _ => rfl) rfl fun n ⟨h1,h2⟩ => ?_
  cases n with
  | zero => exact en tt [.f (by simp),.f rfl,.i 0] rfl (by rw [Qhc h1 h2 (fun h => by omega)]; simp [pl]) (by simp [Qa])
  |
   succ n =>
   obtain ⟨x,hx⟩ : ∃ x,p[n]? = some x := ⟨_,List.getElem?_eq_getElem (by omega)⟩
   by_cases h0 : x = 0
   · refine go tt [.t (by simp),.r 11 (v := .one (.int .i64 (n : Int))) (by simp),.x (J8 hx),.c [] Ua,.t (by simp [h0]),.r 17 (v := .one (.int .i64 (n : Int))) (by simp)] rfl (by simp [Qa]; omega) ?_
     exact rd n (by simp) ⟨by omega, fun j y h3 h4 => by
         rcases Nat.eq_or_lt_of_le h3 with rfl | h3
         · rw [hx] at h4; injection h4 with h4; rw [← h4,h0]
         · exact h2 j y h3 h4⟩ rfl
   · exact en tt [.t (by simp),.r 11 (v := .one (.int .i64 (n : Int))) (by simp),.x (J8 hx),.c [] Ua,.f (by simp [h0]),.i (n + 1)] rfl (by rw [Qhc h1 h2 (fun _ => ⟨x,hx,h0⟩)]; simp [pl,List.map_take]) (by simp [Qa] <;> omega)
theorem Qlb (p : List Int) (k : Nat) : Qc Tryz.prog 112 [pr p,.one (.int .i64 (k : Int))] [.agg (Zg (p.getD k 0))] := by
  by_cases h : k < p.length
  · have hx := List.getElem?_eq_getElem h
    have e : p.getD k 0 = p[k] := by simp [List.getD,hx]
    rw [e]
    exact w tt Tryz.func112 rfl [.t (by simp; omega),.x (J8 hx)] rfl rfl trivial
  · have e : p.getD k 0 = 0 := by simp [List.getD,List.getElem?_eq_none (Nat.le_of_not_lt h)]
    rw [e,U8]
    exact w tt Tryz.func112 rfl [.f (by simp; omega)] rfl rfl trivial
def Ol (f : Nat → List LV) (z : List LV) (n k : Nat) : List (List LV) := (List.range n).map fun i => if i < k then f i else z
theorem Fo (f : Nat → List LV) (z : List LV) (n k : Nat) : (Ol f z n k).length = n := by simp [Ol]
theorem U3 (f : Nat → List LV) (z : List LV) (n : Nat) : List.replicate n z = Ol f z n 0 := by
  refine List.ext_getElem? fun i => ?_
  simp only [Ol,List.getElem?_replicate,List.getElem?_map]
  by_cases h : i < n
  · simp [h]
  · simp [h]
theorem Ht (f : Nat → List LV) (z : List LV) (n : Nat) : Ol f z n n = (List.range n).map f := by
  refine List.map_congr_left fun i hi => ?_
  rw [if_pos (List.mem_range.1 hi)]
theorem Hu (f : Nat → List LV) (z : List LV) {n k : Nat} (h : k < n) : (Ol f z n k).set k (f k) = Ol f z n (k + 1) := by
  refine List.ext_getElem? fun i => ?_
  rw [List.getElem?_set]
  simp only [Ol,List.getElem?_map,List.length_map,List.length_range,h,if_true]
  by_cases e : k = i
  · subst e; simp [h]
  · simp only [e,if_false]
    by_cases hi : i < n
    · simp only [List.getElem?_range hi,Option.map_some]
      congr 1
      by_cases h2 : i < k
      · rw [if_pos h2,if_pos (by omega)]
      · rw [if_neg h2,if_neg (by omega)]
    · simp [List.getElem?_eq_none,hi]
theorem Qch {n fid : Nat} {l1 l2 : List LV} {g : Nat → Int} (hn : n < 274877906944) (h : ∀ k,k < n → Qc Tryz.prog fid [.one (.int .i64 (k : Int)),.one (.sh l1),.one (.sh l2)] [.agg (Zg (g k))]) : Qc Tryz.prog 109 [.one (.int .i64 (n : Int)),.one (.fn fid [] [.sh l1,.sh l2])] [pr (Y7 n g)] := by
  refine Z6 Tryz.func109 rfl ?_
  refine go tt [.i n,.i n,.r 10 (eI (b := (n : Int)) (by simp))] rfl (by simp [Qa]; omega) ?_
  rw [U3 fun k => Zg (g k)]
  refine lp (S := Nat) 1 (fun L1 k => (11,.v (.one (.int .i64 (k : Int)))) :: L1) (fun k => [.row false 29 2 (Ol (fun k => Zg (g k)) [.bool false,.nils] n k)]) (fun k => n - k) (fun k => k ≤ n) 0 (Nat.zero_le _) rfl (fun _ _ => rfl) rfl fun k hk => ?_
  by_cases hlt : k < n
  · refine go tt [.t (by simp; omega),.c [] (h k hlt),.i k] rfl (by simp [Qa,Fo]; omega) ?_
    have e := Hu (fun k => Zg (g k)) [.bool false,.nils] hlt
    rw [e]
    exact rd (k + 1) (by omega) hlt rfl
  · obtain rfl : k = n := by omega
    have e : Ol (fun k => Zg (g k)) [.bool false,.nils] k k = ((List.range k).map g).map Zg := by rw [Ht]; simp
    rw [e]
    exact en tt [.f (by simp),.c [] (Aj _)] rfl rfl trivial
theorem Qk8 {n fid : Nat} {l1 : List LV} {g : Nat → Int} (hn : n < 274877906944) (h : ∀ k,k < n → Qc Tryz.prog fid [.one (.int .i64 (k : Int)),.one (.sh l1)] [.agg (Zg (g k))]) : Qc Tryz.prog 109 [.one (.int .i64 (n : Int)),.one (.fn fid [] [.sh l1])] [pr (Y7 n g)] := by
  refine Z6 Tryz.func109 rfl ?_
  refine go tt [.i n,.i n,.r 10 (eI (b := (n : Int)) (by simp))] rfl (by simp [Qa]; omega) ?_
  rw [U3 fun k => Zg (g k)]
  refine lp (S := Nat) 1 (fun L1 k => (11,.v (.one (.int .i64 (k : Int)))) :: L1) (fun k => [.row false 29 2 (Ol (fun k => Zg (g k)) [.bool false,.nils] n k)]) (fun k => n - k) (fun k => k ≤ n) 0 (Nat.zero_le _) rfl (fun _ _ => rfl) rfl fun k hk => ?_
  by_cases hlt : k < n
  · refine go tt [.t (by simp; omega),.c [] (h k hlt),.i k] rfl (by simp [Qa,Fo]; omega) ?_
    have e := Hu (fun k => Zg (g k)) [.bool false,.nils] hlt
    rw [e]
    exact rd (k + 1) (by omega) hlt rfl
  · obtain rfl : k = n := by omega
    have e : Ol (fun k => Zg (g k)) [.bool false,.nils] k k = ((List.range k).map g).map Zg := by rw [Ht]; simp
    rw [e]
    exact en tt [.f (by simp),.c [] (Aj _)] rfl rfl trivial
theorem Q26 {p q : List Int} (k : Nat) (hp : Bd 4294967295 p) (hq : Bd 4294967295 q) : Qc Tryz.prog 110 [.one (.int .i64 (k : Int)),.one (.sh [pl p]),.one (.sh [pl q])] [.agg (Zg (p.getD k 0 + q.getD k 0))] :=
  w tt Tryz.func110 rfl [.c [] (Qlb p k),.c [] (Qlb q k),.c [] (P3 (Qe _) (Qe _) (Qp hp k) (Qp hq k))] rfl rfl trivial
theorem Q3h {p q : List Int} (k : Nat) (hp : Bd 4294967295 p) (hq : Bd 4294967295 q) : Qc Tryz.prog 233 [.one (.int .i64 (k : Int)),.one (.sh [pl p]),.one (.sh [pl q])] [.agg (Zg (p.getD k 0 - q.getD k 0))] :=
  w tt Tryz.func233 rfl [.c [] (Qlb p k),.c [] (Qlb q k),.c [] (Qrl (Qe _) (Qe _) (Qp hp k) (Qp hq k))] rfl rfl trivial
theorem Xp {p : List Int} {k : Nat} (h : k < p.length) : p[k]? = some (p.getD k 0) := by simp [List.getD,List.getElem?_eq_getElem h]
theorem Qrg {p : List Int} {c : Int} {k : Nat} (hk : k < p.length) (hp : Bd 4294967295 p) (hc : Qm c ≤ 4294967295) : Qc Tryz.prog 214 [.one (.int .i64 (k : Int)),.one (.sh [pl p]),.one (.sh (Zg c))] [.agg (Zg (p.getD k 0 * c))] :=
  w tt Tryz.func214 rfl [.x (J8 (Xp hk)),.c [] (K7 (Qe _) (Qe _) (Qp hp k) hc)] rfl rfl trivial
theorem Q3c {p : List Int} {k : Nat} (hk : k < p.length) (hp : Bd 4294967295 p) : Qc Tryz.prog 299 [.one (.int .i64 (k : Int)),.one (.sh [pl p])] [.agg (Zg (-(p.getD k 0)))] :=
  w tt Tryz.func299 rfl [.x (J8 (Xp hk)),.c [] (Dy (Qe _) (Qp hp k))] rfl rfl trivial
theorem Qn7 {p : List Int} {k : Nat} (hk : k + 1 < p.length) (hl : p.length < 274877906944) (hp : Bd 4294967295 p) : Qc Tryz.prog 269 [.one (.int .i64 (k : Int)),.one (.sh [pl p])] [.agg (Zg (p.getD (k + 1) 0 * ((k + 1 : Nat) : Int)))] :=
  w tt Tryz.func269 rfl [.x (J8 (Xp hk)),.r 10 (eI (b := ((k + 1 : Nat) : Int)) (by omega)),.c [] (Oo (by omega)),.c [] (K7 (Qe _) (Qe _) (Qp hp _) (Qpa (show k + 1 < 274877906944 by omega)))] rfl rfl (by simp [Qa] <;> omega)
theorem Qh5 {p q : List Int} (hlp : p.length < 274877906944) (hlq : q.length < 274877906944) (hp : Bd 4294967295 p) (hq : Bd 4294967295 q) : Qc Tryz.prog 66 [pr p,pr q] [pr (Pk p q)] :=
  w tt Tryz.func66 rfl [.r 9 (eI (b := ((max p.length q.length : Nat) : Int)) (by simp; omega)),.c [] (Qch (by omega) fun k _ => Q26 k hp hq)] rfl rfl trivial
theorem Qcc {p q : List Int} (hlp : p.length < 274877906944) (hlq : q.length < 274877906944) (hp : Bd 4294967295 p) (hq : Bd 4294967295 q) : Qc Tryz.prog 184 [pr p,pr q] [pr (Vr p q)] :=
  w tt Tryz.func184 rfl [.r 9 (eI (b := ((max p.length q.length : Nat) : Int)) (by simp; omega)),.c [] (Qch (by omega) fun k _ => Q3h k hp hq)] rfl rfl trivial
theorem Qq7 {p : List Int} (hlp : p.length < 274877906944) (hp : Bd 4294967295 p) : Qc Tryz.prog 272 [pr p] [pr (Yx p)] :=
  w tt Tryz.func272 rfl [.r 4 (eI (b := (p.length : Int)) (by simp)),.c [] (Qk8 hlp fun k hk => Q3c hk hp)] rfl rfl trivial
theorem Wx {p : List Int} {c : Int} (hlp : p.length < 274877906944) (hp : Bd 4294967295 p) (hc : Qm c ≤ 4294967295) : Qc Tryz.prog 159 [pr p,.agg (Zg c)] [pr (Qu p c)] :=
  w tt Tryz.func159 rfl [.r 6 (eI (b := (p.length : Int)) (by simp)),.c [] (Qch hlp fun k hk => Qrg hk hp hc)] rfl rfl trivial
theorem Gg {p : List Int} (hlp : p.length < 274877906944) (hp : Bd 4294967295 p) : Qc Tryz.prog 229 [pr p] [pr (Zk p)] :=
  w tt Tryz.func229 rfl [.r 6 (eI (b := ((p.length - 1 : Nat) : Int)) (by simp; omega)),.c [] (Qk8 (by omega) fun k hk => Qn7 (by omega) hlp hp)] rfl rfl (by simp [Qa]; omega)
theorem Wl {ls : List (List LV)} {p : List Int} (hi : IsInts ls p) (hl : p.length < 274877906944) (hs : Bd 4294967295 p) : Qc Tryz.prog 115 [.one (.row ls)] [pr (trim p)] := by
  refine Z6 Tryz.func115 rfl ?_
  have hlen := hi.len
  refine go tt [.i ls.length,.i ls.length] rfl (by simp [Qa]; omega) ?_
  rw [U3 fun k => Zg (p.getD k 0)]
  refine lp (S := Nat) 1 (fun L1 k => (11,.v (.one (.int .i64 (k : Int)))) :: L1) (fun k => [.row false 29 2 (Ol (fun k => Zg (p.getD k 0)) [.bool false,.nils] ls.length k)]) (fun k => ls.length - k) (fun k => k ≤ ls.length) 0 (Nat.zero_le _) rfl (fun _ _ => rfl) rfl fun k hk => ?_
  by_cases hlt : k < ls.length
  · obtain ⟨x,y,hx,hxy⟩ := hi.get (Xp (p := p) (k := k) (by omega))
    have cn := Yt hxy (Qp hs k)
    obtain ⟨b,l,rfl,rfl,_⟩ := hxy
    refine go tt [.t (by simp; omega),.x hx,.c [] cn,.i k] rfl (by simp [Qa,Fo]; omega) ?_
    have e := Hu (fun k => Zg (p.getD k 0)) [.bool false,.nils] hlt
    rw [e]
    exact rd (k + 1) (by omega) hlt rfl
  · obtain rfl : k = ls.length := by omega
    have e : Ol (fun k => Zg (p.getD k 0)) [.bool false,.nils] ls.length ls.length = p.map Zg := by
      rw [Ht,hlen]
      refine List.ext_getElem? fun i => ?_
      by_cases hi : i < p.length
      · simp [List.getElem?_range hi,List.getD,List.getElem?_eq_getElem hi]
      · simp [List.getElem?_eq_none,hi]
    rw [e]
    exact en tt [.f (by simp),.c [] (Aj _)] rfl rfl trivial
theorem Z7 {p : List Int} (ht : Qj p) (hl : p.length < 274877906944) (hs : Bd 4294967295 p) : Qc Tryz.prog 115 [pr p] [pr p] := by
  have := Wl (Z0 p) hl hs
  rw [ht] at this; exact this
theorem Qze {p : List Int} {i : Nat} {z : Int} (h : p[i]? = some z) : (p.map fun (x : Int) => [LV.int .i64 x])[i]? = some [.int .i64 z] := Z9 h
theorem Qq8 {p : List Int} (hl : p.length < 274877906944) (hr : ∀ z ∈ p,-9223372036854775808 ≤ z ∧ z ≤ 9223372036854775807) : Qc Tryz.prog 18 [.one (ids p)] [pr (trim p)] := by
  refine Z6 Tryz.func18 rfl ?_
  refine go tt [.r 7 (eI (b := (p.length : Int)) (by simp)),.i p.length,.i p.length,.r 10 (eI (b := (p.length : Int)) (by simp))] rfl (by simp [Qa]; omega) ?_
  rw [U3 fun k => Zg (p.getD k 0)]
  refine lp (S := Nat) 1 (fun L1 k => (11,.v (.one (.int .i64 (k : Int)))) :: L1) (fun k => [.row false 29 2 (Ol (fun k => Zg (p.getD k 0)) [.bool false,.nils] p.length k)]) (fun k => p.length - k) (fun k => k ≤ p.length) 0 (Nat.zero_le _) rfl (fun _ _ => rfl) rfl fun k hk => ?_
  by_cases hlt : k < p.length
  · have hg := Xp hlt
    refine go tt [.t (by simp; omega),.x (Qze hg),.c [] (Oo (hr _ (List.mem_of_getElem? hg))),.i k] rfl (by simp [Qa,Fo]; omega) ?_
    have e := Hu (fun k => Zg (p.getD k 0)) [.bool false,.nils] hlt
    rw [e]
    exact rd (k + 1) (by omega) hlt rfl
  · obtain rfl : k = p.length := by omega
    have e : Ol (fun k => Zg (p.getD k 0)) [.bool false,.nils] p.length p.length = p.map Zg := by
      rw [Ht]
      refine List.ext_getElem? fun i => ?_
      by_cases hi : i < p.length
      · simp [List.getElem?_range hi,List.getD,List.getElem?_eq_getElem hi]
      · simp [List.getElem?_eq_none,hi]
    rw [e]
    exact en tt [.f (by simp),.c [] (Aj _)] rfl rfl trivial
end Orr

namespace Orr
open Go Go.Proofs
set_option maxRecDepth 10000
theorem Qjf (l : List Int) (i : Nat) (z : Int) : (l.map Zg).set i (Zg z) = (l.set i z).map Zg := by rw [List.map_set]
theorem Et (m : Nat) : ((List.replicate m [LV.bool false,LV.nils]).map fun c => c.map Lv) = (List.replicate m (0 : Int)).map Zg := by
  simp [U8,Lv]
theorem Qcb {p0 q : List Int} {s t : Nat} (tq : Qj q) (hlp : p0.length < 137438953472) (hlq : q.length < 137438953472) (hp : Bd s p0) (hq : Bd t q) (hst : s + t ≤ 4294967000) : Qc Tryz.prog 213 [pr p0,pr q] [pr (Zl (trim p0) q)] := by
  have cp := Wl (Z0 p0) (by omega) (Qd hp (show s ≤ 4294967295 by omega))
  have hp := X8 hp
  have hlp := Nat.lt_of_le_of_lt (Xa p0) hlp
  obtain ⟨p,ep⟩ : ∃ p,p = trim p0 := ⟨_,rfl⟩
  rw [← ep] at cp hp hlp ⊢
  have cq := Z7 tq (by omega) (Qd hq (show t ≤ 4294967295 by omega))
  by_cases h0 : p.length = 0
  · have e : Zl p q = [] := by unfold Zl; rw [if_pos (.inl h0)]
    rw [e]
    exact w tt Tryz.func213 rfl [.c [] cp,.c [] cq,.t (by simp; exact List.eq_nil_of_length_eq_zero h0),.t rfl] rfl rfl trivial
  by_cases h1 : q.length = 0
  · have e : Zl p q = [] := by unfold Zl; rw [if_pos (.inr h1)]
    rw [e]
    exact w tt Tryz.func213 rfl [.c [] cp,.c [] cq,.f (by simp; intro h; subst h; simp at h0),.t (by simp; exact List.eq_nil_of_length_eq_zero h1)] rfl rfl trivial
  refine Z6 Tryz.func213 rfl ?_
  have e : Zl p q = trim (Ke p q (List.replicate (p.length + q.length - 1) 0) p.length) := by unfold Zl; rw [if_neg (by omega)]
  rw [e]
  obtain ⟨N,hN⟩ : ∃ N,N = p.length + q.length - 1 := ⟨_,rfl⟩
  rw [← hN]
  obtain ⟨o,ho⟩ : ∃ o,o = List.replicate N (0 : Int) := ⟨_,rfl⟩
  rw [← ho]
  have hol : o.length = N := by rw [ho]; simp
  have ho0 : ∀ m,o.getD m 0 = 0 := fun m => by rw [ho]; exact Jp N m
  refine go tt [.c [] cp,.c [] cq,.f (by simp; intro h; subst h; simp at h0),.f (by simp; intro h; subst h; simp at h1),.r 27 (eI (b := (N : Int)) (by simp; omega)),.i N,.i N] rfl (by simp [Qa]; omega) ?_
  refine nl 0 rfl rfl rfl ?_
  rw [Et,← ho]
  refine lp (S := Nat) 1 (fun L1 i => (31,.v (.one (.int .i64 (i : Int)))) :: L1) (fun i => [.row false 29 2 ((Ke p q o i).map Zg)]) (fun i => p.length - i) (fun i => i ≤ p.length) 0 (Nat.zero_le _) rfl (fun _ _ => rfl) rfl fun i hi => ?_
  by_cases hlt : i < p.length
  · refine go tt [.t (by simp; omega),.x (J8 (Xp hlt))] rfl trivial ?_
    refine lp (S := Nat) 2 (fun L1 k => (38,.v (.one (.int .i64 (k : Int)))) :: L1) (fun k => [.row false 29 2 ((Gw (p.getD i 0) q i (Ke p q o i) k).map Zg),.blk 29 (Zg (p.getD i 0))]) (fun k => q.length - k) (fun k => k ≤ q.length) 0 (Nat.zero_le _) rfl (fun _ _ => rfl) rfl fun k hk => ?_
    by_cases hk2 : k < q.length
    · have hm1 : Qm ((Gw (p.getD i 0) q i (Ke p q o i) k).getD (i + k) 0) ≤ 4294967295 := Nat.le_trans (Fx (t := 39) (Qdh (by rw [Kf]; omega) (Qdg (fun j hj => by omega) ho0 (fun i j => Vh (Qp hp i) (Qp hq j))) (fun j => Vh (Qp hp i) (Qp hq j)) (i + k)) (Nat.lt_of_lt_of_eq (show i + 1 < 549755813888 by omega) (by decide))) (by omega)
      have hm2 : Qm (p.getD i 0 * q.getD k 0) ≤ 4294967295 := Nat.le_trans (Qz _ _) (by have := Qp hp i; have := Qp hq k; omega)
      have hg : (Gw (p.getD i 0) q i (Ke p q o i) k)[i + k]? = some ((Gw (p.getD i 0) q i (Ke p q o i) k).getD (i + k) 0) := Xp (by rw [Gx,Kf]; omega)
      refine go tt [.t (by simp; omega),.x (J8 (Xp hk2)),.i (i + k),.x (J8 hg),.c [] (K7 (Qe _) (Qe _) (Nat.le_trans (Qp hp i) (by omega)) (Nat.le_trans (Qp hq k) (by omega))),.c [] (P3 (Qe _) (Qe _) hm1 hm2),.i (i + k)] rfl (by simp [Qa,Gx,Kf] <;> omega) ?_
      rw [Qjf]
      exact rd (k + 1) (by omega) hk2 rfl
    · obtain rfl : k = q.length := by omega
      exact go tt [.f (by simp)] rfl (by simp [Qa]; omega) (rd (i + 1) (by omega) hlt rfl)
  · obtain rfl : i = p.length := by omega
    exact en tt [.f (by simp),.c [] (Aj _)] rfl rfl trivial
theorem Qh6 {p q : List Int} {s t : Nat} (tp : Qj p) (tq : Qj q) (hlp : p.length < 137438953472) (hlq : q.length < 137438953472) (hp : Bd s p) (hq : Bd t q) (hst : s + t ≤ 4294967000) : Qc Tryz.prog 213 [pr p,pr q] [pr (Zl p q)] := by
  have h := Qcb tq hlp hlq hp hq hst
  rw [show trim p = p from tp] at h
  exact h
theorem Qx8 {p q : List Int} (hlp : p.length < 274877906944) (hlq : q.length < 274877906944) (hp : Bd 4294967295 p) (hq : Bd 4294967295 q) : Qc Tryz.prog 224 [pr p,pr q] [.one (.bool (decide (trim p = trim q)))] := by
  refine Z6 Tryz.func224 rfl ?_
  have cp := Wl (Z0 p) hlp hp
  have cq := Wl (Z0 q) hlq hq
  have bp := X8 hp
  have bq := X8 hq
  have l1 := Xa p
  have l2 := Xa q
  obtain ⟨a,ha⟩ : ∃ a,a = trim p := ⟨_,rfl⟩
  obtain ⟨b,hb⟩ : ∃ b,b = trim q := ⟨_,rfl⟩
  rw [← ha] at cp bp l1 ⊢
  rw [← hb] at cq bq l2 ⊢
  by_cases hl : a.length = b.length
  · refine go tt [.c [] cp,.c [] cq,.f (by simp; omega)] rfl trivial ?_
    refine lp (S := Nat) 0 (fun L1 i => (18,.v (.one (.int .i64 (i : Int)))) :: L1) (fun _ => []) (fun i => a.length - i) (fun i => i ≤ a.length ∧ a.take i = b.take i) 0 ⟨Nat.zero_le _,rfl⟩ rfl (fun _ _ => rfl) rfl fun i ⟨hi,he⟩ => ?_
    by_cases hlt : i < a.length
    · have ga := Xp hlt
      have gb := Xp (p := b) (k := i) (by omega)
      have cc := Ah (Qe (a.getD i 0)) (Qe (b.getD i 0)) (Qp bp i) (Qp bq i)
      by_cases hz : a.getD i 0 = b.getD i 0
      · refine go tt [.t (by simp; omega),.x (J8 ga),.x (J8 gb),.c [] cc,.f (by simpa using Qls.2 hz)] rfl (by simp [Qa]; omega) ?_
        exact rd (i + 1) (by omega) ⟨hlt,by rw [List.take_add_one,List.take_add_one,he,ga,gb,hz]⟩ rfl
      · exact en tt [.t (by simp; omega),.x (J8 ga),.x (J8 gb),.c [] cc,.t (by have := mt Qls.1 hz; simpa using this)] rfl (by rw [decide_eq_false]; intro h; exact hz (by rw [h])) trivial
    · obtain rfl : i = a.length := by omega
      rw [List.take_length,hl,List.take_length] at he
      exact en tt [.f (by simp)] rfl (by rw [decide_eq_true he]) trivial
  · exact en tt [.c [] cp,.c [] cq,.t (by simp; omega)] rfl (by rw [decide_eq_false]; intro h; exact hl (by rw [h])) trivial
theorem Qrb {p : List Int} {n d : Int} {s t : Nat} (hl : p.length < 274877906944) (hp : Bd s p) (hn : Qm n ≤ t) (hd : Qm d ≤ t) (hst : s + p.length * (t + 1) + 2 * t + 10 ≤ 4294967295) : Qc Tryz.prog 240 [pr p,.agg (Zg n),.agg (Zg d)] [.agg (Zg (Q0g p n d))] := by
  refine Z6 Tryz.func240 rfl ?_
  refine go tt [.c [] (Oo (z := 1) (by decide)),.r 13 (eI (b := (p.length : Int) - 1 - ((0 : Nat) : Int)) (by simp))] rfl (by simp [Qa]; omega) ?_
  refine nlb 3 rfl rfl rfl ?_
  have e0 : [LV.bool false,LV.nils].map Lv = Zg (Y0 p n d 0).1 := by simp [Lv,Y0,U8]
  rw [e0]
  refine lp (S := Nat) 5 (fun L1 j => (9,.v (.one (.int .i64 ((p.length : Int) - 1 - (j : Int))))) :: L1) (fun j => [.blk 29 (Zg n),.blk 29 (Zg d),.blk 29 [.bool false,.nils],.blk 29 (Zg (Y0 p n d j).1),.blk 29 (Zg (Y0 p n d j).2)]) (fun j => p.length - j) (fun j => j ≤ p.length) 0 (Nat.zero_le _) rfl (fun _ _ => rfl) rfl fun j hj => ?_
  have hv := Qei (k := j) hp hn hd
  have hjl : j * (t + 1) ≤ p.length * (t + 1) := Nat.mul_le_mul_right _ (by omega)
  have hjl2 : j * t ≤ j * (t + 1) := Nat.mul_le_mul_left _ (by omega)
  by_cases hlt : j < p.length
  · have hc := Qp hp (p.length - 1 - j)
    have hm1 : Qm ((Y0 p n d j).1 * n) ≤ 4294967295 := Nat.le_trans (Qz _ _) (by omega)
    have hm2 : Qm (p.getD (p.length - 1 - j) 0 * (Y0 p n d j).2) ≤ 4294967295 := Nat.le_trans (Qz _ _) (by omega)
    refine go tt [.t (by simp; omega),.c [] (K7 (Qe _) (Qe _) (by omega) (by omega)),.r 22 (eI (b := ((p.length - 1 - j : Nat) : Int)) (by omega)),.x (J8 (Xp (p := p) (k := p.length - 1 - j) (by omega))),.c [] (K7 (Qe _) (Qe _) (by omega) (by omega)),.c [] (P3 (Qe _) (Qe _) hm1 hm2),.c [] (K7 (Qe _) (Qe _) (by omega) (by omega)),.r 17 (eI (b := (p.length : Int) - 1 - ((j + 1 : Nat) : Int)) (by omega))] rfl (by simp [Qa] <;> omega) ?_
    exact rd (j + 1) (by omega) hlt rfl
  · obtain rfl : j = p.length := by omega
    exact en tt [.f (by simp; omega)] rfl rfl trivial
theorem Wj {p : List Int} (tp : Qj p) (hl : p.length < 274877906944) (hp : Bd 4294967295 p) : Qc Tryz.prog 295 [pr p] [.agg (Zg (p.getD (p.length - 1) 0))] := by
  have cn := Z7 tp hl hp
  by_cases h0 : p = []
  · subst h0
    exact w tt Tryz.func295 rfl [.c [] cn,.t (by simp)] rfl (by simp [U8]) trivial
  · have hpl : 0 < p.length := List.length_pos_iff.2 h0
    exact w tt Tryz.func295 rfl [.c [] cn,.f (by simpa using h0),.r 12 (eI (b := ((p.length - 1 : Nat) : Int)) (by simp; omega)),.x (J8 (Xp (by omega)))] rfl rfl (by simp [Qa]; omega)
end Orr

namespace Orr
open Go Go.Proofs
set_option maxRecDepth 10000
theorem Q2o {a b : Int} {q : Rat} (h1 : a = q.num) (h2 : b = (q.den : Int)) : [sg a,mg a,sg b,mg b] = rl q := by rw [h1,h2]
theorem Ro {n d : Int} (h0 : d ≠ 0) (hn : Qm n ≤ 4294967295) (hd : Qm d ≤ 4294967295) : Qc Tryz.prog 197 [.agg (Zg n),.agg (Zg d)] [.agg (rl (Rat.divInt n d))] := by
  have cg := Qqv (Z0 [n,d]) (fun z hz => by simp at hz; rcases hz with rfl | rfl <;> assumption)
  have gp := Qfs (n := n) h0
  have gs := Qme (n := n) h0 hd
  have m1 := Id n d
  have m2 := Ie n d
  obtain ⟨g,hg⟩ : ∃ g,g = ((Z4 [n,d] : Nat) : Int) := ⟨_,rfl⟩
  rw [← hg] at cg gp gs m1 m2
  by_cases hneg : d < 0
  · obtain ⟨e1,e2⟩ := Qzq (n := n) hneg
    rw [← hg] at e1 e2
    rw [← Q2o e1 e2]
    exact w tt Tryz.func197 rfl [.c [] cg,.t (by simpa using hneg),.c [] (Dy (Qe n) hn),.c [] (Dy (Qe d) hd),.c [] (Fg (Qe _) (Qe _) (by rw [Z1]; exact hn) gs (by omega) (Qmv m1)),.c [] (Fg (Qe _) (Qe _) (by rw [Z1]; exact hd) gs (by omega) (Qmv m2))] rfl rfl trivial
  · obtain ⟨e1,e2⟩ := Qdd (n := n) (d := d) (by omega)
    rw [← hg] at e1 e2
    rw [← Q2o e1 e2]
    exact w tt Tryz.func197 rfl [.c [] cg,.f (by simpa using hneg),.c [] (Fg (Qe _) (Qe _) hn gs (by omega) m1),.c [] (Fg (Qe _) (Qe _) hd gs (by omega) m2)] rfl rfl trivial
theorem M4 {x y x' y' : LV} {n d : Int} (h1 : Xl x y n) (h2 : Xl x' y' d) (hn : Qm n ≤ 4294967295) (hd : Qm d ≤ 4294967295) : Qc Tryz.prog 137 [.agg [x,y,x',y']] [.agg (rl (Zi n d))] := by
  have c1 := Yt h1 hn
  have c2 := Yt h2 hd
  obtain ⟨b,l,rfl,rfl,_⟩ := h1
  obtain ⟨b',l',rfl,rfl,_⟩ := h2
  by_cases h0 : d = 0
  · have e : Zi n d = Rat.divInt n 1 := by unfold Zi; rw [if_pos h0]
    rw [e]
    exact w tt Tryz.func137 rfl [.c [] c2,.c [] Ua,.t (by simpa using h0),.c [] (Oo (z := 1) (by decide)),.c [] c1,.c [] (Ro (by decide) hn (by decide))] rfl rfl trivial
  · have e : Zi n d = Rat.divInt n d := by unfold Zi; rw [if_neg h0]
    rw [e]
    exact w tt Tryz.func137 rfl [.c [] c2,.c [] Ua,.f (by simpa using h0),.c [] c1,.c [] (Ro h0 hn hd)] rfl rfl trivial
theorem Am {q : Rat} (hq : Qs 4294967295 q) : Qc Tryz.prog 137 [.agg (rl q)] [.agg (rl q)] := by
  have := M4 (Qe q.num) (Qe (q.den : Int)) hq.1 hq.2
  rwa [H1] at this
theorem Qcg {a b : Rat} (ha : Qs 2147483647 a) (hb : Qs 2147483647 b) : Qc Tryz.prog 198 [.agg (rl a),.agg (rl b)] [.agg (Zg (a.num * (b.den : Int))),.agg (Zg (b.num * (a.den : Int))),.agg (Zg ((a.den : Int) * (b.den : Int)))] :=
  w tt Tryz.func198 rfl [.c [] (Am (ha.mono (by decide))),.c [] (Am (hb.mono (by decide))),.c [] (K7 (Qe _) (Qe _) (Nat.le_trans ha.1 (by decide)) (Nat.le_trans hb.2 (by decide))),.c [] (K7 (Qe _) (Qe _) (Nat.le_trans hb.1 (by decide)) (Nat.le_trans ha.2 (by decide))),.c [] (K7 (Qe _) (Qe _) (Nat.le_trans ha.2 (by decide)) (Nat.le_trans hb.2 (by decide)))] rfl rfl trivial
theorem Uw {a b : Rat} (ha : Qs 2147483647 a) (hb : Qs 2147483647 b) : Qc Tryz.prog 138 [.agg (rl a),.agg (rl b)] [.one (.int .i64 (Zu a b))] :=
  w tt Tryz.func138 rfl [.c [] (Qcg ha hb),.c [] (Ah (Qe _) (Qe _) (Nat.le_trans (Qz _ _) (by have := ha.1; have := hb.2; omega)) (Nat.le_trans (Qz _ _) (by have := hb.1; have := ha.2; omega)))] rfl rfl trivial
theorem Qsa {x y x' y' : LV} {n d : Int} (h1 : Xl x y n) (h2 : Xl x' y' d) (hn : Qm n ≤ 4294967295) (hd : Qm d ≤ 4294967295) : Qc Tryz.prog 82 [.agg [x,y,x',y'],.one (.row [])] [.agg (rl (Zi n d))] := by
  have c1 := M4 h1 h2 hn hd
  obtain ⟨b,l,rfl,rfl,_⟩ := h1
  obtain ⟨b',l',rfl,rfl,_⟩ := h2
  refine Z6 Tryz.func82 rfl ?_
  refine go tt [.c [] c1] rfl trivial ?_
  refine lp (S := Unit) 3 (fun L1 _ => (12,.v (.one (.int .i64 0))) :: L1) (fun _ => [.blk 41 [.bool b,.row (lm l),.bool b',.row (lm l')],.blk 41 [.bool false,.nils,.bool false,.nils],.blk 41 (rl (Zi n d))]) (fun _ => 0) (fun _ => True) () trivial rfl (fun _ _ => rfl) rfl fun _ _ => ?_
  exact en tt [.f (by simp)] rfl rfl trivial
theorem Hl {q : Rat} (hq : Qs 4294967295 q) : Qc Tryz.prog 82 [.agg (rl q),.one (.row [])] [.agg (rl q)] := by
  have := Qsa (Qe q.num) (Qe (q.den : Int)) hq.1 hq.2
  rwa [H1] at this
theorem Qyj {q : Rat} (hq : Qs 4294967295 q) : Qc Tryz.prog 239 [.agg (rl q)] [.agg (rl q)] := w tt Tryz.func239 rfl [.c [] (Hl hq)] rfl rfl trivial
theorem Qk1 {p : List Int} {q : Rat} {s t : Nat} (tp : Qj p) (hl : p.length < 274877906944) (hp : Bd s p) (hq : Qs t q) (hst : s + p.length * (t + 1) + 2 * t + 10 ≤ 4294967295) : Qc Tryz.prog 192 [pr p,.agg (rl q)] [.one (.int .i64 (Zv p q))] := by
  have cc := Ah (Qe (Q0g p q.num q.den)) Yh (Nat.le_trans (Qei hp hq.1 hq.2).1 (by omega)) (by decide)
  exact w tt Tryz.func192 rfl [.c [] (Qyj (hq.mono (by omega))),.c [] (Z7 tp hl (Qd hp (by omega))),.c [] (Qrb hl hp hq.1 hq.2 hst),.c [] cc] rfl rfl trivial
end Orr

namespace Orr
open Go Go.Proofs
set_option maxRecDepth 10000
theorem Qrx {p : List Int} {g : Int} (hl : p.length < 274877906944) (hp : Bd 4294967295 p) (hg : Qm g ≤ 4294967295) (h0 : g ≠ 0) (hd : ∀ z ∈ p,z % g = 0) : Qc Tryz.prog 121 [pr p,.agg (Zg g)] [pr (trim (p.map (· / g)))] := by
  refine Z6 Tryz.func121 rfl ?_
  refine go tt [.r 9 (eI (b := (p.length : Int)) (by simp)),.i p.length,.i p.length,.r 12 (eI (b := (p.length : Int)) (by simp))] rfl (by simp [Qa]; omega) ?_
  rw [U3 fun k => Zg (p.getD k 0 / g)]
  refine lp (S := Nat) 2 (fun L1 k => (13,.v (.one (.int .i64 (k : Int)))) :: L1) (fun k => [.blk 29 (Zg g),.row false 29 2 (Ol (fun k => Zg (p.getD k 0 / g)) [.bool false,.nils] p.length k)]) (fun k => p.length - k) (fun k => k ≤ p.length) 0 (Nat.zero_le _) rfl (fun _ _ => rfl) rfl fun k hk => ?_
  by_cases hlt : k < p.length
  · have hg2 := Xp hlt
    refine go tt [.t (by simp; omega),.x (J8 hg2),.c [] (Fg (Qe _) (Qe _) (Qp hp k) hg h0 (hd _ (List.mem_of_getElem? hg2))),.i k] rfl (by simp [Qa,Fo]; omega) ?_
    have e := Hu (fun k => Zg (p.getD k 0 / g)) [.bool false,.nils] hlt
    rw [e]
    exact rd (k + 1) (by omega) hlt rfl
  · obtain rfl : k = p.length := by omega
    have e : Ol (fun k => Zg (p.getD k 0 / g)) [.bool false,.nils] p.length p.length = (p.map (· / g)).map Zg := by
      rw [Ht]
      refine List.ext_getElem? fun i => ?_
      by_cases hi : i < p.length
      · simp [List.getElem?_range hi,List.getD,List.getElem?_eq_getElem hi]
      · simp [List.getElem?_eq_none,hi]
    rw [e]
    exact en tt [.f (by simp),.c [] (Wl (Z0 (p.map (· / g))) (by simp; exact hl) (Ca hp g))] rfl rfl trivial
theorem I0 (p : List Int) : ∀ c ∈ p.map Zg,c.length = 2 := Q2k p fun _ => rfl
theorem Qcf {lx ly : List (List LV)} {px py : List Int} {x y : LV} {d : Int} (hx : IsInts lx px) (hy : IsInts ly py) (hd : Xl x y d) (hk : Cs 4294967294 1073741824 (Crv.mk px py d)) : Qc Tryz.prog 74 [.agg [.row lx,.row ly,x,y]] [.agg (cl (Crv.norm (Crv.mk px py d)))] := by
  have hlx := hk.lx
  have hly := hk.ly
  simp only at hlx hly
  have htx := Xa px
  have hty := Xa py
  have hd1 : Qm (Crv.mk px py d).d' ≤ 4294967295 := Nat.le_trans (Qc4 hk.d (by omega)) (by omega)
  have hg1 := Crv.isz_g (Crv.mk px py d) hd1
  have hg0 := Crv.g_ne (Crv.mk px py d)
  have hgd := Crv.g_dvd (Crv.mk px py d)
  have cx := Wl hx (by omega) (Qd hk.x (by omega))
  have cy := Wl hy (by omega) (Qd hk.y (by omega))
  have cd := Yt hd (Nat.le_trans hk.d (by omega))
  have bx : Bd 4294967295 (trim px) := Qd (X8 hk.x) (by omega)
  have by_ : Bd 4294967295 (trim py) := Qd (X8 hk.y) (by omega)
  obtain ⟨b,l,rfl,rfl,_⟩ := hd
  obtain ⟨e,he⟩ : ∃ e,e = (Crv.mk px py d).d' := ⟨_,rfl⟩
  obtain ⟨g,hgg⟩ : ∃ g,g = (Crv.mk px py d).g := ⟨_,rfl⟩
  obtain ⟨X,hX⟩ : ∃ X,X = trim px := ⟨_,rfl⟩
  obtain ⟨Y,hY⟩ : ∃ Y,Y = trim py := ⟨_,rfl⟩
  have hnorm : (Crv.mk px py d).norm = ⟨trim (X.map (· / g)),trim (Y.map (· / g)),e / g⟩ := by rw [he,hgg,hX,hY]; rfl
  rw [hnorm]
  have hgdef : g = if e < 0 then -((Z4 (e :: (X ++ Y)) : Nat) : Int) else (Z4 (e :: (X ++ Y)) : Nat) := by rw [hgg,he,hX,hY]; rfl
  have hde : e = if d = 0 then 1 else d := by rw [he]; rfl
  simp only [← he,← hgg,← hX,← hY] at hd1 hg1 hg0 hgd htx hty cx cy bx by_
  clear hnorm hgg he hX hY
  refine Z6 Tryz.func74 rfl ?_
  refine go tt [.c [] cx,.c [] cy,.c [] cd,.c [] Ua] rfl trivial ?_
  refine ct 1 (S := Unit) (fun _ => [(2,.v (.one (.ow 1 0))),(3,.v (pr X)),(4,.v (pr Y)),(5,.v (.one (.ow 2 0)))]) (fun _ => [.blk 31 [.row lx,.row ly,.bool b,.row (lm l)],.blk 31 [.nils,.nils,.bool false,.nils],.blk 29 (Zg e)]) (fun _ => True) rfl ?_ ?_
  · by_cases h0 : d = 0
    · rw [hde,if_pos h0]
      exact go tt [.t (by simpa using h0),.c [] (Oo (z := 1) (by decide))] rfl trivial (rc () trivial rfl)
    · rw [hde,if_neg h0]
      exact go tt [.f (by simpa using h0)] rfl trivial (rc () trivial rfl)
  · intro _ _
    have hgi : IsInts ([Zg e] ++ X.map Zg ++ Y.map Zg) (e :: (X ++ Y)) := by
      have := Z0 (e :: (X ++ Y))
      simpa using this
    have hgs : ∀ z ∈ e :: (X ++ Y),Qm z ≤ 4294967295 := fun z hz => by
      rcases List.mem_cons.1 hz with rfl | hz
      · exact hd1
      · rcases List.mem_append.1 hz with hz | hz
        · exact bx z hz
        · exact by_ z hz
    have cg := Qqv hgi hgs
    have co1 := Qrx (p := X) (by omega) bx hg1 hg0 fun z hz => hgd z (List.mem_cons_of_mem _ (List.mem_append_left _ hz))
    have co2 := Qrx (p := Y) (by omega) by_ hg1 hg0 fun z hz => hgd z (List.mem_cons_of_mem _ (List.mem_append_right _ hz))
    have ce := Fg (Qe e) (Qe g) hd1 hg1 hg0 (hgd e (List.mem_cons_self ..))
    have hszg := Ej hgs
    by_cases hneg : e < 0
    · rw [if_pos hneg] at hgdef
      have cn := Dy (Qe ((Z4 (e :: (X ++ Y)) : Nat) : Int)) hszg
      rw [← hgdef] at cn
      exact en tt [.lo,.s (I0 X),.s (I0 Y),.c [] cg,.t (by simpa using hneg),.c [] cn,.c [] ce,.c [] co1,.c [] co2] rfl rfl (by simp [Qa]; omega)
    · rw [if_neg hneg] at hgdef
      rw [← hgdef] at cg
      exact en tt [.lo,.s (I0 X),.s (I0 Y),.c [] cg,.f (by simpa using hneg),.c [] ce,.c [] co1,.c [] co2] rfl rfl (by simp [Qa]; omega)
theorem Qrm {k : Crv} (hn : Nml k) (hk : Cs 4294967294 1073741824 k) : Qc Tryz.prog 74 [.agg (cl k)] [.agg (cl k)] := by
  have h := Qcf (Z0 k.x) (Z0 k.y) (Qe k.d) hk
  rw [Crv.norm_of hn] at h; exact h
theorem Qce {lx ly : List (List LV)} {px py : List Int} {x y : LV} {d : Int} (hx : IsInts lx px) (hy : IsInts ly py) (hd : Xl x y d) (hk : Cs 4294967294 1073741824 (Crv.mk px py d)) (h0 : d ≠ 0) : Qc Tryz.prog 215 [.one (.row lx),.one (.row ly),.agg [x,y]] [.agg (cl (Crv.norm (Crv.mk px py d))),.one (.int .i64 0)] := by
  have cd := Yt hd (Nat.le_trans hk.d (by omega))
  have cn := Qcf hx hy hd hk
  obtain ⟨b,l,rfl,rfl,_⟩ := hd
  exact w tt Tryz.func215 rfl [.c [] cd,.c [] Ua,.f (by simpa using h0),.c [] cn] rfl rfl trivial
theorem Q6k {lx ly : List (List LV)} {px py : List Int} (hx : IsInts lx px) (hy : IsInts ly py) (hk : Cs 4294967294 1073741824 (Crv.mk px py 0)) : Qc Tryz.prog 17 [.one (.row lx),.one (.row ly)] [.agg (cl (Crv.norm (Crv.mk px py 0)))] :=
  w tt Tryz.func17 rfl [.c [] (Qcf hx hy Yh hk)] rfl rfl trivial
def Qwm (x y : Int) : Crv := Crv.norm ⟨trim [x],trim [y],0⟩
theorem Qfa {x y : Int} (hx : -9223372036854775808 ≤ x ∧ x ≤ 9223372036854775807) (hy : -9223372036854775808 ≤ y ∧ y ≤ 9223372036854775807) : Cs 64 1 ⟨trim [x],trim [y],0⟩ := by
  have key : ∀ z : Int,-9223372036854775808 ≤ z ∧ z ≤ 9223372036854775807 → Qm z ≤ 64 := fun z hz => by
    rw [Jq]
    have : (2 : Nat) ^ 64 = 18446744073709551616 := by decide
    omega
  refine ⟨X8 fun z hz => ?_,X8 fun z hz => ?_,Nat.zero_le _,Xa [x],Xa [y]⟩
  · rw [List.mem_singleton] at hz; rw [hz]; exact key x hx
  · rw [List.mem_singleton] at hz; rw [hz]; exact key y hy
theorem Qyd {x y : Int} (hx : -9223372036854775808 ≤ x ∧ x ≤ 9223372036854775807) (hy : -9223372036854775808 ≤ y ∧ y ≤ 9223372036854775807) : Qc Tryz.prog 59 [.one (.int .i64 x),.one (.int .i64 y)] [.agg (cl (Qwm x y))] :=
  w tt Tryz.func59 rfl [.c [] (Qq8 (p := [x]) (show 1 < 274877906944 by decide) (by intro z hz; rw [List.mem_singleton] at hz; rw [hz]; exact hx)),.c [] (Qq8 (p := [y]) (show 1 < 274877906944 by decide) (by intro z hz; rw [List.mem_singleton] at hz; rw [hz]; exact hy)),.c [] (Q6k (Z0 _) (Z0 _) ((Qfa hx hy).mono (by omega) (by omega)))] rfl rfl trivial
end Orr

namespace Orr
open Go Go.Proofs
set_option maxRecDepth 10000
theorem Qjp {l : List Pt} {i : Nat} {p : Pt} (h : l[i]? = some p) : (l.map Vp)[i]? = some [pl p.c.x,pl p.c.y,sg p.c.d,mg p.c.d,.int .i64 p.id] := Z9 h
theorem Qgw (l : List Pt) : ∀ c ∈ l.map Vp,c.length = 5 := Q2k l fun _ => rfl
theorem Qyh {lx ly : List (List LV)} {px py : List Int} {x y : LV} {d : Int} (hx : IsInts lx px) (hy : IsInts ly py) (hd : Xl x y d) (hk : Cs 4294967294 1073741824 (Crv.mk px py d)) (id : Int) : Qc Tryz.prog 165 [.agg [.row lx,.row ly,x,y,.int .i64 id]] [.agg (Vp ⟨Crv.norm (Crv.mk px py d),id⟩)] := by
  have cd := Yt hd (Nat.le_trans hk.d (by omega))
  by_cases h0 : d = 0
  · subst h0
    have ck : Cs 4294967294 1073741824 (Crv.mk px py 1) := ⟨hk.x,hk.y,show Qm 1 ≤ 4294967294 by decide,hk.lx,hk.ly⟩
    have cm := Qce hx hy (Qe 1) ck (by decide)
    have e : Crv.norm (Crv.mk px py 1) = Crv.norm (Crv.mk px py 0) := by simp only [Crv.norm,Crv.g,Crv.d']; rfl
    rw [e] at cm
    obtain ⟨b,l,rfl,rfl,_⟩ := hd
    exact w tt Tryz.func165 rfl [.c [] cd,.c [] Ua,.t (by simp),.c [] (Oo (z := 1) (by decide)),.c [] cm] rfl rfl trivial
  · have cm := Qce hx hy hd hk h0
    obtain ⟨b,l,rfl,rfl,_⟩ := hd
    exact w tt Tryz.func165 rfl [.c [] cd,.c [] Ua,.f (by simpa using h0),.c [] cm] rfl rfl trivial
theorem Q6l {l : List Pt} (id : Int) (hl : l.length < 1073741824) : Qc Tryz.prog 164 [.agg [pts l],.one (.int .i64 id)] [.one (.int .i64 (Om l id : Int)),.one (.bool (has l id))] := by
  refine Z6 Tryz.func164 rfl ?_
  refine go tt [] rfl trivial ?_
  refine ct 2 (S := Unit) (fun _ => [(1,.v (.one (.int .i64 id))),(2,.v (.one (.ow 0 0))),(6,.v (.one (.int .i64 (Om l id : Int))))]) (fun _ => [.blk 72 [pts l]]) (fun _ => True) rfl ?_ ?_
  · refine lp (S := Nat) 1 (fun L1 k => (6,.v (.one (.int .i64 (k : Int)))) :: L1) (fun _ => [.blk 72 [pts l]]) (fun k => l.length - k) (fun k => k ≤ l.length ∧ ∀ j p,j < k → l[j]? = some p → p.id < id) 0 ⟨Nat.zero_le _,fun j p h => by omega⟩ rfl (fun _ _ => rfl) rfl fun k ⟨hk,hlt⟩ => ?_
    by_cases h : k < l.length
    · obtain ⟨p,hp⟩ : ∃ p,l[k]? = some p := ⟨_,List.getElem?_eq_getElem h⟩
      by_cases hid : p.id < id
      · refine go tt [.t (by simp; omega),.x (Qjp hp),.t (by simpa using hid)] rfl (by simp [Qa]; omega) ?_
        exact rd (k + 1) (by omega) ⟨h,fun j q hj hq => by
          rcases Nat.lt_or_ge j k with h2 | h2
          · exact hlt j q h2 hq
          · have : j = k := by omega
            subst this; rw [hp] at hq; injection hq with hq; rw [← hq]; exact hid⟩ rfl
      · have e := Qjj hlt (.inr ⟨p,hp,hid⟩)
        refine go tt [.t (by simp; omega),.x (Qjp hp),.f (by simpa using hid)] rfl trivial ?_
        rw [e]
        exact rc () trivial rfl
    · obtain rfl : k = l.length := by omega
      have e := Qjj hlt (.inl rfl)
      refine go tt [.f (by simp),.f rfl] rfl trivial ?_
      rw [e]
      exact rc () trivial rfl
  · intro _ _
    by_cases h : Om l id < l.length
    · obtain ⟨p,hp⟩ : ∃ p,l[Om l id]? = some p := ⟨_,List.getElem?_eq_getElem h⟩
      have e : has l id = decide (p.id = id) := by simp [has,hp]
      rw [e]
      exact en tt [.g 30 true (by simp; omega),.x (Qjp hp)] rfl rfl trivial
    · have e : has l id = false := by simp [has,List.getElem?_eq_none (Nat.le_of_not_lt h)]
      rw [e]
      exact en tt [.g 30 false (by simp; omega)] rfl rfl trivial
theorem Qq0 {l : List Pt} : Qc Tryz.prog 126 [.agg [pts l]] [.one (pts l)] := w tt Tryz.func126 rfl [] rfl rfl trivial
theorem Q6f {lx ly : List (List LV)} {px py : List Int} {x y : LV} {d id : Int} {l : List Pt} (hx : IsInts lx px) (hy : IsInts ly py) (hd : Xl x y d) (hk : Cs 4294967294 1073741824 (Crv.mk px py d)) (hl : l.length ≤ 1000000) :
    Qc Tryz.prog 104 [.agg [pts l],.agg [.row lx,.row ly,x,y,.int .i64 id]] [.agg [pts (if Tz l (Pt.mk (Crv.norm (Crv.mk px py d)) id) = 0 then put l (Pt.mk (Crv.norm (Crv.mk px py d)) id) else l)],.one (.int .i64 (Tz l (Pt.mk (Crv.norm (Crv.mk px py d)) id)))] := by
  have ca := Q6l (l := l) id (by omega)
  have cf := Qyh hx hy hd hk id
  obtain ⟨b,r,rfl,rfl,_⟩ := hd
  obtain ⟨q,hq⟩ : ∃ q,q = Pt.mk (Crv.norm (Crv.mk px py d)) id := ⟨_,rfl⟩
  have hqi : q.id = id := by rw [hq]
  rw [← hq] at cf ⊢
  have hpl := Qu3 l id
  by_cases h1 : has l id = true
  · have e : Tz l q = 6 := by simp [Tz,hqi,h1]
    rw [e,if_neg (by decide)]
    exact w tt Tryz.func104 rfl [.c [] ca,.t h1] rfl rfl trivial
  by_cases h2 : 6 ≤ l.length
  · have e : Tz l q = 9 := by simp [Tz,hqi,h1,h2]
    rw [e,if_neg (by decide)]
    exact w tt Tryz.func104 rfl [.c [] ca,.f (by simpa using h1),.t (by simp; omega)] rfl rfl trivial
  have e : Tz l q = 0 := by simp [Tz,hqi,h1,h2]
  rw [e,if_pos rfl]
  have s1 : ∀ c ∈ (l.map Vp).take (Om l id),c.length = 5 := fun c hc => Qgw l c (List.mem_of_mem_take hc)
  have s3 : ∀ c ∈ (l.map Vp).drop (Om l id),c.length = 5 := fun c hc => Qgw l c (List.mem_of_mem_drop hc)
  refine w tt Tryz.func104 rfl [.c [] ca,.f (by simpa using h1),.f (by simp; omega),.i (Om l id),.s s1,.c [] cf,.i (Om l id),.s s3] rfl ?_ ?_
  · simp [put,hqi,pts,List.map_take,List.map_drop,Vp]
  · simp [Qa]
    exact ⟨by omega,hpl,fun _ _ => rfl,by omega,by omega,hpl⟩
theorem Qul : ∀ (qs : List Pt),(Jr [] qs).1.length ≤ qs.length := by
  have key : ∀ (qs acc : List Pt),(Jr acc qs).1.length ≤ acc.length + qs.length := by
    intro qs
    induction qs with
    | nil => intro acc; simp [Jr]
    |
     cons q qs ih =>
     intro acc
     simp only [Jr]
     split
     · have := ih (put acc q); rw [Qnd] at this; simp only [List.length_cons]; omega
     · simp
  intro qs
  have := key qs []
  simpa using this
theorem Q6b {zs : List (List LV)} {qs : List Pt} (hz : IsPts 4294967294 1073741824 zs qs) (hl : qs.length ≤ 6) : Qc Tryz.prog 77 [.one (.row zs)] [.agg [pts (Jr [] qs).1],.one (.int .i64 (Jr [] qs).2)] := by
  refine Z6 Tryz.func77 rfl ?_
  have hzl := hz.len
  refine go tt [.f (by simp; omega)] rfl trivial ?_
  refine nlb 1 rfl rfl rfl ?_
  refine lp (S := Nat) 2 (fun L1 i => (14,.v (.one (.int .i64 (i : Int)))) :: L1) (fun i => [.blk 72 [.nils],.blk 72 [pts (Jr [] (qs.take i)).1]]) (fun i => qs.length - i) (fun i => i ≤ qs.length ∧ (Jr [] (qs.take i)).2 = 0) 0 ⟨Nat.zero_le _,rfl⟩ rfl (fun _ _ => rfl) rfl fun i ⟨hi,h0⟩ => ?_
  by_cases hlt : i < qs.length
  · have hqi : qs[i]? = some qs[i] := List.getElem?_eq_getElem hlt
    obtain ⟨z,hzi,lx,ly,b,r,px,py,d,rfl,hx,hy,hd,hk,hc⟩ := hz.get hqi
    have hq : (Pt.mk (Crv.norm (Crv.mk px py d)) qs[i].id) = qs[i] := by rw [← hc]
    have hst := Qpj [] qs hqi (by rw [← h0])
    have hnl := Qul (qs.take i)
    have cp := Q6f (l := (Jr [] (qs.take i)).1) (id := qs[i].id) hx hy hd hk (by rw [List.length_take] at hnl; omega)
    rw [hq] at cp
    by_cases he : Tz (Jr [] (qs.take i)).1 qs[i] = 0
    · rw [if_pos he] at hst
      rw [he,if_pos rfl] at cp
      refine go tt [.t (by simp; omega),.x hzi,.c [] cp,.f rfl] rfl (by simp [Qa]; omega) ?_
      exact rd (i + 1) (by omega) ⟨hlt,by rw [hst]⟩ (by rw [hst]; rfl)
    · rw [if_neg he] at hst
      have herr := Quk [] qs he hst
      rw [herr]
      exact en tt [.t (by simp; omega),.x hzi,.c [] cp,.t (by simpa using he)] rfl rfl trivial
  · obtain rfl : i = qs.length := by omega
    rw [List.take_length] at h0
    rw [List.take_length,h0]
    exact en tt [.f (by simp; omega)] rfl rfl trivial
end Orr

namespace Orr
open Go Go.Proofs
set_option maxRecDepth 10000
theorem Qns (q : Rat) : Qj [-q.num,(q.den : Int)] := by
  have := q.den_nz
  simp [Qj,trim,this]
theorem Q55 {s : Nat} {q : Rat} (h : Qs s q) : Bd s [-q.num,(q.den : Int)] := fun z hz => by
  simp at hz
  rcases hz with rfl | rfl
  · rw [Z1]; exact h.1
  · exact h.2
theorem Q1z {x y x' y' : LV} {n d : Int} (h1 : Xl x y n) (h2 : Xl x' y' d) (hn : Qm n ≤ 4294967295) (hd : Qm d ≤ 4294967295) (hq : Qs 4294967295 (Zi n d)) : Qc Tryz.prog 78 [.agg [x,y,x',y']] [.agg (qa (Zi n d))] := by
  have c1 := Qsa h1 h2 hn hd
  obtain ⟨b,l,rfl,rfl,_⟩ := h1
  obtain ⟨b',l',rfl,rfl,_⟩ := h2
  exact w tt Tryz.func78 rfl [.c [] c1,.c [] (Dy (Qe _) hq.1),.c [] (Hl hq)] rfl rfl trivial
theorem Eb {k : Crv} (hn : Nml k) (hk : Cs 4294967294 1073741824 k) : Qc Tryz.prog 183 [.agg (cl k)] [.agg (cl k)] := by
  have h0 : k.d ≠ 0 := by have := hn.2.2.1; omega
  have cm := Qce (Z0 k.x) (Z0 k.y) (Qe k.d) hk h0
  rw [show Crv.mk k.x k.y k.d = k from rfl,Crv.norm_of hn] at cm
  exact w tt Tryz.func183 rfl [.c [] (Yt (Qe k.d) (Nat.le_trans hk.d (by omega))),.c [] Ua,.f (by simpa using h0),.c [] cm] rfl rfl trivial
theorem Qk3 {a b : Crv} (ha : Nml a) (hb : Nml b) (ca : Cb a) (cb : Cb b) : Qc Tryz.prog 188 [.agg (cl a),.agg (cl b)] [pr (Yk a b)] := by
  have l1 := ca.lx
  have l2 := cb.lx
  have l3 := Q6 b.x a.d
  have l4 := Q6 a.x b.d
  exact w tt Tryz.func188 rfl [.c [] (Eb ha (ca.mono (by omega) (by omega))),.c [] (Eb hb (cb.mono (by omega) (by omega))),.c [] (Wx (by omega) (Qd cb.x (by omega)) (Nat.le_trans ca.d (by omega))),.c [] (Wx (by omega) (Qd ca.x (by omega)) (Nat.le_trans cb.d (by omega))),.c [] (Qcc (by omega) (by omega) (Qd (Zj cb.x ca.d) (by omega)) (Qd (Zj ca.x cb.d) (by omega)))] rfl rfl trivial
theorem Qky {a b : Crv} (ha : Nml a) (hb : Nml b) (ca : Cb a) (cb : Cb b) : Qc Tryz.prog 189 [.agg (cl a),.agg (cl b)] [pr (Vq a b)] := by
  have l1 := ca.ly
  have l2 := cb.ly
  have l3 := Q6 b.y a.d
  have l4 := Q6 a.y b.d
  exact w tt Tryz.func189 rfl [.c [] (Eb ha (ca.mono (by omega) (by omega))),.c [] (Eb hb (cb.mono (by omega) (by omega))),.c [] (Wx (by omega) (Qd cb.y (by omega)) (Nat.le_trans ca.d (by omega))),.c [] (Wx (by omega) (Qd ca.y (by omega)) (Nat.le_trans cb.d (by omega))),.c [] (Qcc (by omega) (by omega) (Qd (Zj cb.y ca.d) (by omega)) (Qd (Zj ca.y cb.d) (by omega)))] rfl rfl trivial
def Js (ps : List (List Int)) : List (List LV) := ps.map fun p => [pl p]
theorem Xj {ps : List (List Int)} {i : Nat} {p : List Int} (h : ps[i]? = some p) : (Js ps)[i]? = some [pl p] := Z9 h
end Orr

namespace Orr
open Go Go.Proofs
set_option maxRecDepth 10000
theorem Qro {p q : List Int} : Qc Tryz.prog 187 [pr p,pr q] [pr (Cn p q)] := by
  by_cases h : 0 < p.length
  · exact w tt Tryz.func187 rfl [.t (by simp; omega)] rfl (by simp only [Cn]; rw [if_pos h]) trivial
  · exact w tt Tryz.func187 rfl [.f (by simp; exact List.eq_nil_of_length_eq_zero (by omega))] rfl (by simp only [Cn]; rw [if_neg h]) trivial
theorem Qof : Qc Tryz.prog 186 [.one (.int .i64 1)] [.one (.int .i64 2)] := w tt Tryz.func186 rfl [.t rfl,.t rfl] rfl rfl trivial
theorem Qqz {k i0 i1 i2 i3 l j0 j1 j2 j3 : Int} : Qc Tryz.prog 153 [.agg [.int .i64 k,.int .i64 i0,.int .i64 i1,.int .i64 i2,.int .i64 i3],.agg [.int .i64 l,.int .i64 j0,.int .i64 j1,.int .i64 j2,.int .i64 j3]] [.one (.bool (Xs [k,i0,i1,i2,i3] [l,j0,j1,j2,j3]))] := by
  by_cases hk : k = l
  · subst hk
    rw [show Xs [k,i0,i1,i2,i3] [k,j0,j1,j2,j3] = Xs [i0,i1,i2,i3] [j0,j1,j2,j3] from by simp [Xs]]
    refine Z6 Tryz.func153 rfl ?_
    refine go tt [.f (by simp)] rfl trivial ?_
    refine lp (S := Nat) 2 (fun L1 i => (19,.v (.one (.int .i64 (i : Int)))) :: L1) (fun _ => [.blk 159 [.int .i64 k,.int .i64 i0,.int .i64 i1,.int .i64 i2,.int .i64 i3],.blk 159 [.int .i64 k,.int .i64 j0,.int .i64 j1,.int .i64 j2,.int .i64 j3]]) (fun i => 4 - i) (fun i => i ≤ 4 ∧ Xs ([i0,i1,i2,i3].drop i) ([j0,j1,j2,j3].drop i) = Xs [i0,i1,i2,i3] [j0,j1,j2,j3]) 0 ⟨by omega,rfl⟩ rfl (fun _ _ => rfl) rfl fun i ⟨hi,he⟩ => ?_
    rw [← he]
    rcases (show i = 0 ∨ i = 1 ∨ i = 2 ∨ i = 3 ∨ i = 4 by omega) with rfl | rfl | rfl | rfl | rfl
    · by_cases h : i0 = j0
      · exact go tt [.t rfl,.i 0,.i 0,.f (by simpa using h)] rfl (by simp [Qa]) (rd 1 (by omega) ⟨by omega,by simp [Xs,h]⟩ rfl)
      · exact en tt [.t rfl,.i 0,.i 0,.t (by simpa using h),.i 0] rfl (by simp [Xs,h]) trivial
    · by_cases h : i1 = j1
      · exact go tt [.t rfl,.i 1,.i 1,.f (by simpa using h)] rfl (by simp [Qa]) (rd 2 (by omega) ⟨by omega,by simp [Xs,h]⟩ rfl)
      · exact en tt [.t rfl,.i 1,.i 1,.t (by simpa using h),.i 1] rfl (by simp [Xs,h]) trivial
    · by_cases h : i2 = j2
      · exact go tt [.t rfl,.i 2,.i 2,.f (by simpa using h)] rfl (by simp [Qa]) (rd 3 (by omega) ⟨by omega,by simp [Xs,h]⟩ rfl)
      · exact en tt [.t rfl,.i 2,.i 2,.t (by simpa using h),.i 2] rfl (by simp [Xs,h]) trivial
    · by_cases h : i3 = j3
      · exact go tt [.t rfl,.i 3,.i 3,.f (by simpa using h)] rfl (by simp [Qa]) (rd 4 (by omega) ⟨by omega,by simp [Xs,h]⟩ rfl)
      · exact en tt [.t rfl,.i 3,.i 3,.t (by simpa using h),.i 3] rfl (by simp [Xs,h]) trivial
    · exact en tt [.f rfl] rfl (by simp [Xs]) trivial
  · exact w tt Tryz.func153 rfl [.t (by simpa using hk)] rfl (by simp [Xs,hk]) trivial
abbrev zCt : List LV := [.int .i64 0,.int .i64 0,.int .i64 0,.int .i64 0,.int .i64 0,.nils,.int .i64 0]
def Z2 (l : List Ct) : List (List LV) := l.map O2
theorem Ar {l : List Ct} {i : Nat} {c : Ct} (h : l[i]? = some c) : (Z2 l)[i]? = some (O2 c) := Z9 h
theorem Uz (l : List Ct) : (Z2 l).length = l.length := by simp [Z2]
theorem Qso (l : List Ct) : ∀ c ∈ Z2 l,c.length = 7 := fun c hc => by
  obtain ⟨x,_,rfl⟩ := List.mem_map.1 hc; rfl
theorem Qt0 {O : List Ct} {z : List LV} {c : Ct} {k m : Nat} {l2 : List (List LV)} (hk : k ≤ O.length) (hp : Mg O c O.length = k) (hm : m = O.length - k) (h2 : l2.take m = ((Z2 O ++ [z]).drop k).take m) :
    ((Z2 O ++ [z]).take (k + 1) ++ (l2.take m ++ (Z2 O ++ [z]).drop (k + 1 + m))).set k (O2 c) = Z2 (Lt O c) := by
  rw [h2,← List.append_assoc,Qfz (Z2 O) z (O2 c) (by rw [Uz]; omega) (by rw [Uz]; omega)]
  simp [Lt,hp,Z2,List.map_take,List.map_drop]
theorem Qia {l : List Ct} (hl : ∀ c ∈ l,Pb c.p) (hn : l.length ≤ 1000000) : Qc Tryz.prog 90 [.one (.row (Z2 l))] [.one (.row (Z2 (Xu l)))] := by
  have hcl := Uz l
  refine Z6 Tryz.func90 rfl ?_
  refine go tt [.o 3 161 7] rfl trivial ?_
  refine lp (S := Nat) 1 (fun L1 i => (9,.v (.one (.int .i64 (i : Int)))) :: (3,.v (.one (.orow 0 7 none))) :: L1) (fun i => [.row false 161 7 (Z2 (Xu (l.take i)))]) (fun i => l.length - i) (fun i => i ≤ l.length) 0 (Nat.zero_le _) rfl (fun _ _ => rfl) rfl fun i hi => ?_
  by_cases hlt : i < l.length
  · obtain ⟨c,hc⟩ : ∃ c,l[i]? = some c := ⟨_,List.getElem?_eq_getElem hlt⟩
    have hst := Qka hc
    have hcp := hl c (List.mem_of_getElem? hc)
    obtain ⟨O,hO⟩ : ∃ O,O = Xu (l.take i) := ⟨_,rfl⟩
    have hOl : O.length = i := by rw [hO,V1,List.length_take]; omega
    rw [← hO] at hst ⊢
    refine go tt [.t (by simp [hcl]; omega),.x (Ar hc)] rfl trivial ?_
    refine lp (S := Nat) 2 (fun L1 k => (6,.v (.one (.int .i64 (k : Int)))) :: L1) (fun k => [.row false 161 7 (Z2 O),.blk 161 (O2 c)]) id (fun k => k ≤ O.length ∧ Mg O c k = Mg O c O.length) (Z2 O).length ⟨by rw [Uz]; exact Nat.le_refl _,by rw [Uz]⟩ rfl (fun _ _ => rfl) rfl fun k ⟨hk,hp⟩ => ?_
    have hz : ∀ y ∈ [zCt],y.length = 7 := fun y hy => by rw [List.mem_singleton.1 hy]; rfl
    have h77 : ∀ y ∈ Z2 O ++ [zCt],y.length = 7 := fun y hy => by
      rcases List.mem_append.1 hy with hy | hy
      · exact Qso O y hy
      · exact hz y hy
    cases k with
    |
     zero =>
     have hp : Mg O c O.length = 0 := by rw [← hp]; rfl
     refine go tt [.g 17 false (by simp),.f rfl,.s (sz := 7) hz,.r 36 (eI (b := ((0 + 1 : Nat) : Int)) (by simp)),.i (0 + 1),.i (0),.s (sz := 7) (fun y hy => h77 y (List.mem_of_mem_take hy)),.i (O.length),.c [] (Z7 hcp.t (by have := hcp.l; omega) (Qd hcp.b (by omega))),.i (0)] rfl (by simp [Qa,Uz]; omega) ?_
     exact rd (i + 1) (by omega) hlt (by rw [hst,← Qt0 (z := zCt) (l2 := (Z2 O ++ [zCt]).take ((Z2 O ++ [zCt]).length - 0)) (k := 0) (m := O.length) (by omega) hp (by omega) (by congr 1; exact List.take_of_length_le (by simp))]; rfl)
    |
     succ k =>
     obtain ⟨x,hx⟩ : ∃ x,O[k]? = some x := ⟨_,List.getElem?_eq_getElem (by omega)⟩
     by_cases hlc : Kx c x = true
     · refine go tt [.g 17 true (by simp),.r 22 (eI (b := (k : Int)) (by simp)),.i k,.x (Ar hx),.c [] Qqz,.t hlc,.r 29 (eI (b := (k : Int)) (by simp))] rfl (by simp [Qa,Uz]; omega) ?_
       exact rd k (by simp) ⟨by omega,by rw [← hp,Qz8 hx hlc]⟩ rfl
     · have hlc : Kx c x = false := by simpa using hlc
       have hp : Mg O c O.length = k + 1 := by rw [← hp,Qu2 hx hlc]
       refine go tt [.g 17 true (by simp),.r 22 (eI (b := (k : Int)) (by simp)),.i k,.x (Ar hx),.c [] Qqz,.f hlc,.s (sz := 7) hz,.r 36 (eI (b := ((k + 1 + 1 : Nat) : Int)) (by simp)),.i (k + 1 + 1),.i (k + 1),.s (sz := 7) (fun y hy => h77 y (List.mem_of_mem_drop (List.mem_of_mem_take hy))),.i (O.length - (k + 1)),.c [] (Z7 hcp.t (by have := hcp.l; omega) (Qd hcp.b (by omega))),.i (k + 1)] rfl (by simp [Qa,Uz]; omega) ?_
       exact rd (i + 1) (by omega) hlt (by rw [hst,← Qt0 (z := zCt) (l2 := ((Z2 O ++ [zCt]).drop (k + 1)).take ((Z2 O ++ [zCt]).length - (k + 1))) (k := k + 1) (m := O.length - (k + 1)) (by omega) hp (by omega) (by congr 1; exact List.take_of_length_le (by simp))]; rfl)
  · obtain rfl : i = l.length := by omega
    rw [List.take_length]
    exact en tt [.f (by simp [hcl])] rfl rfl trivial
end Orr
