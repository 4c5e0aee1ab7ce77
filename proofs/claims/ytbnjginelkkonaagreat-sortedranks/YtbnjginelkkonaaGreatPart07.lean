/- T8 T9 T10 T11 T12 T13 T14 T15 T16 T17 T18 T19 -/
import Derived.Test.YtbnjginelkkonaaGreatPart06
set_option linter.all false

namespace Orq
theorem Qu0 : ∀ (M : Nat) (f : Nat → Nat),(∀ i,i ≤ M → f i < M) → ∃ i j,i < j ∧ j ≤ M ∧ f i = f j
  | 0,f,h => absurd (h 0 (Nat.le_refl _)) (Nat.not_lt_zero _)
  |
   M + 1,f,h => by
   rcases Classical.em (∃ i,i ≤ M ∧ f i = f (M + 1)) with ⟨i,h1,h2⟩ | hn
   · exact ⟨i,M + 1,by omega,Nat.le_refl _,h2⟩
   · have hne : ∀ i,i ≤ M → f i ≠ f (M + 1) := fun i hi e => hn ⟨i,hi,e⟩
     obtain ⟨i,j,h1,h2,h3⟩ := Qu0 M (fun i => if f i = M then f (M + 1) else f i) fun i hi => by
       have a1 := h i (by omega)
       have a2 := h (M + 1) (Nat.le_refl _)
       have a3 := hne i hi
       show (if f i = M then f (M + 1) else f i) < M
       split <;> omega
     refine ⟨i,j,h1,by omega,?_⟩
     have a1 := hne i (by omega)
     have a2 := hne j h2
     split at h3 <;> split at h3 <;> omega
def dg (B k i : Nat) : Nat := k / B ^ i % B
theorem Qlu (B k i : Nat) : dg B k (i + 1) = dg B (k / B) i := by unfold dg; rw [Nat.pow_succ,Nat.mul_comm,Nat.div_div_eq_div_mul]
theorem Qst {B : Nat} : ∀ (N : Nat) {k k' : Nat},k < B ^ N → k' < B ^ N → (∀ i,i < N → dg B k i = dg B k' i) → k = k'
  | 0,k,k',h,h',_ => by rw [Nat.pow_zero] at h h'; omega
  |
   N + 1,k,k',h,h',he => by
   have h0 := he 0 (by omega)
   unfold dg at h0
   rw [Nat.pow_zero,Nat.div_one,Nat.div_one] at h0
   have hB : 0 < B := by
     rcases Nat.eq_zero_or_pos B with e | e
     · rw [e,Nat.pow_succ,Nat.mul_zero] at h; omega
     · exact e
   have h1 := Qst N (k := k / B) (k' := k' / B) (Nat.div_lt_of_lt_mul (by rw [Nat.mul_comm,← Nat.pow_succ]; exact h)) (Nat.div_lt_of_lt_mul (by rw [Nat.mul_comm,← Nat.pow_succ]; exact h')) fun i hi => by
     rw [← Qlu,← Qlu]; exact he (i + 1) (by omega)
   rw [← Nat.mod_add_div k B,← Nat.mod_add_div k' B,h0,h1]
def cd (B : Nat) : Nat → (Nat → Nat) → Nat
  | 0,_ => 0
  | E + 1,x => x 0 + B * cd B E fun e => x (e + 1)
theorem Q15 {B : Nat} : ∀ (E : Nat) {x : Nat → Nat},(∀ e,e < E → x e < B) → cd B E x < B ^ E
  | 0,_,_ => by simp [cd]
  |
   E + 1,x,h => by
   have h1 := h 0 (by omega)
   have h2 := Q15 E (x := fun e => x (e + 1)) fun e he => h (e + 1) (by omega)
   simp only [cd]
   have h3 : B * cd B E (fun e => x (e + 1)) + B ≤ B * B ^ E := by
     rw [← Nat.mul_succ]; exact Nat.mul_le_mul_left _ h2
   rw [Nat.pow_succ,Nat.mul_comm (B ^ E)]; omega
theorem Qsg {B : Nat} : ∀ (E : Nat) {x y : Nat → Nat},(∀ e,e < E → x e < B) → (∀ e,e < E → y e < B) → cd B E x = cd B E y → ∀ e,e < E → x e = y e
  | 0,_,_,_,_,_,e,he => by omega
  |
   E + 1,x,y,hx,hy,h,e,he => by
   have h1 := hx 0 (by omega)
   have h2 := hy 0 (by omega)
   simp only [cd] at h
   have e0 : x 0 = y 0 := by
     have := congrArg (· % B) h
     simp only [Nat.add_mul_mod_self_left] at this
     rwa [Nat.mod_eq_of_lt h1,Nat.mod_eq_of_lt h2] at this
   have e1 : cd B E (fun e => x (e + 1)) = cd B E (fun e => y (e + 1)) := Nat.eq_of_mul_eq_mul_left (by omega : 0 < B) (by omega)
   cases e with
   | zero => exact e0
   | succ e => exact Qsg E (fun e he => hx (e + 1) (by omega)) (fun e he => hy (e + 1) (by omega)) e1 e (by omega)
def sm : Nat → (Nat → Int) → Int
  | 0,_ => 0
  | n + 1,f => sm n f + f n
theorem Qwi (f g : Nat → Int) : ∀ n,sm n (fun i => f i - g i) = sm n f - sm n g
  | 0 => rfl
  | n + 1 => by simp only [sm,Qwi f g n]; omega
theorem W6 {f g : Nat → Int} : ∀ n,(∀ i,i < n → f i = g i) → sm n f = sm n g
  | 0,_ => rfl
  | n + 1,h => by simp only [sm,W6 n (fun i hi => h i (by omega)),h n (by omega)]
theorem Qwh {f : Nat → Int} {b : Nat} : ∀ n,(∀ i,i < n → (f i).natAbs ≤ b) → (sm n f).natAbs ≤ n * b
  | 0,_ => by simp [sm]
  |
   n + 1,h => by
   have h1 := Qwh n fun i hi => h i (by omega)
   have h2 := h n (by omega)
   simp only [sm]
   rw [Nat.succ_mul]; omega
theorem S8 {f : Nat → Int} : ∀ n,(∀ i,i < n → f i = 0) → sm n f = 0
  | 0,_ => rfl
  | n + 1,h => by simp only [sm,S8 n (fun i hi => h i (by omega)),h n (by omega)]; rfl
theorem Qj7 (f : Nat → Int) (m : Nat) : ∀ n,sm (m + n) f = sm m f + sm n fun i => f (m + i)
  | 0 => by simp [sm]
  | n + 1 => by rw [← Nat.add_assoc]; simp only [sm,Qj7 f m n]; omega
theorem Qj8 (f : Nat → Int) (J : Nat) : ∀ b,sm (b * J) f = sm b fun i => sm J fun j => f (i * J + j)
  | 0 => by simp [sm]
  | b + 1 => by rw [Nat.succ_mul,Qj7,Qj8 f J b]; rfl
theorem Oc {f : Nat → Int} {k : Nat} : ∀ n,k < n → (∀ i,i < n → i ≠ k → f i = 0) → sm n f = f k
  | 0,h,_ => by omega
  |
   n + 1,h,h1 => by
   simp only [sm]
   rcases Nat.lt_or_eq_of_le (Nat.le_of_lt_succ h) with e | e
   · rw [Oc n e fun i hi => h1 i (by omega),h1 n (by omega) (by omega)]; omega
   · subst e; rw [S8 k fun i hi => h1 i (by omega) (by omega)]; omega
theorem Q44 {M : Nat → Nat → Int} {h N E H : Nat} (hM : ∀ e i, (M e i).natAbs ≤ h) (hc : (2 * (N * (h * H)) + 1) ^ E < (H + 1) ^ N) :
    ∃ v : Nat → Int,(∀ i,(v i).natAbs ≤ H) ∧ (∃ i,i < N ∧ v i ≠ 0) ∧ ∀ e,e < E → sm N (fun i => M e i * v i) = 0 := by
  obtain ⟨T,hT⟩ : ∃ T,T = N * (h * H) := ⟨_,rfl⟩
  rw [← hT] at hc
  have hv : ∀ k i,dg (H + 1) k i ≤ H := fun k i => Nat.le_of_lt_succ (Nat.mod_lt _ (by omega))
  have hs : ∀ k e,(sm N fun i => M e i * (dg (H + 1) k i : Int)).natAbs ≤ T := fun k e => by
    rw [hT]
    refine Qwh N fun i _ => ?_
    rw [Int.natAbs_mul,Int.natAbs_natCast]
    exact Nat.mul_le_mul (hM e i) (hv k i)
  have him : ∀ k e,((sm N fun i => M e i * (dg (H + 1) k i : Int)) + T).toNat < 2 * T + 1 := fun k e => by have := hs k e; omega
  obtain ⟨i,j,h1,h2,h3⟩ := Qu0 ((2 * T + 1) ^ E) (fun k => cd (2 * T + 1) E fun e => ((sm N fun i => M e i * (dg (H + 1) k i : Int)) + T).toNat) fun k _ => Q15 E fun e _ => him k e
  have h4 := Qsg E (fun e _ => him i e) (fun e _ => him j e) h3
  refine ⟨fun n => (dg (H + 1) i n : Int) - dg (H + 1) j n,fun n => ?_,?_,fun e he => ?_⟩
  · have a1 := hv i n
    have a2 := hv j n
    show ((dg (H + 1) i n : Int) - dg (H + 1) j n).natAbs ≤ H
    omega
  · rcases Classical.em (∃ n,n < N ∧ (dg (H + 1) i n : Int) - dg (H + 1) j n ≠ 0) with e | e
    · exact e
    · exfalso
      have : i = j := Qst (B := H + 1) N (by omega) (by omega) fun n hn => by
        rcases Classical.em (dg (H + 1) i n = dg (H + 1) j n) with e' | e'
        · exact e'
        · exact absurd ⟨n,hn,by omega⟩ e
      omega
  · have a1 := h4 e he
    have a2 := hs i e
    have a3 := hs j e
    have : (sm N fun n => M e n * (dg (H + 1) i n : Int)) = sm N fun n => M e n * (dg (H + 1) j n : Int) := by omega
    have e1 := Qwi (fun n => M e n * (dg (H + 1) i n : Int)) (fun n => M e n * (dg (H + 1) j n : Int)) N
    rw [this] at e1
    rw [W6 N (g := fun n => M e n * (dg (H + 1) i n : Int) - M e n * (dg (H + 1) j n : Int)) fun n _ => Int.mul_sub _ _ _,e1]; omega
end Orq

namespace Orq
def Qi : List Int → Rat → Rat
  | [],_ => 0
  | a :: p,t => (a : Rat) + t * Qi p t
def sq : Nat → (Nat → Rat) → Rat
  | 0,_ => 0
  | n + 1,f => sq n f + f n
theorem Jz {f g : Nat → Rat} : ∀ n,(∀ i,i < n → f i = g i) → sq n f = sq n g
  | 0,_ => rfl
  | n + 1,h => by simp only [sq,Jz n (fun i hi => h i (by omega)),h n (by omega)]
theorem Qkc (f g : Nat → Rat) : ∀ n,sq n (fun i => f i + g i) = sq n f + sq n g
  | 0 => by simp only [sq]; grind
  | n + 1 => by simp only [sq,Qkc f g n]; grind
theorem Se (c : Rat) (f : Nat → Rat) : ∀ n,sq n (fun i => c * f i) = c * sq n f
  | 0 => by simp only [sq]; grind
  | n + 1 => by simp only [sq,Se c f n]; grind
theorem Kl {f : Nat → Rat} : ∀ n,(∀ i,i < n → f i = 0) → sq n f = 0
  | 0,_ => rfl
  | n + 1,h => by simp only [sq,Kl n (fun i hi => h i (by omega)),h n (by omega)]; grind
theorem Hc (f : Nat → Rat) : ∀ n,sq (n + 1) f = f 0 + sq n fun i => f (i + 1)
  | 0 => by simp only [sq]; grind
  | n + 1 => by rw [sq,Hc f n]; simp only [sq]; grind
theorem Q2s {f : Nat → Rat} {b : Rat} : ∀ n,(∀ i,i < n → Ql (f i) ≤ b) → Ql (sq n f) ≤ (n : Rat) * b
  | 0,_ => by rw [show ((0 : Nat) : Rat) = 0 from rfl]; simp only [sq,Xf]; grind
  |
   n + 1,h => by
   have h1 := Q2s n fun i hi => h i (by omega)
   have h2 := h n (by omega)
   have h3 := Ji (sq n f) (f n)
   have hn' : (((n + 1 : Nat) : Rat)) = (n : Rat) + 1 := by push_cast; rfl
   rw [hn']; simp only [sq]; clear h; grind
def gc : List Int → Nat → Nat → Int
  | [],_,_ => 0
  | c :: B,k,j => (if k = 0 ∧ j = 0 then c else 0) + (if k = 0 then 0 else gc B (k - 1) j) - (if j = 0 then 0 else gc B k (j - 1))
def gB : List Int → Nat
  | [] => 0
  | c :: B => max c.natAbs (2 * gB B)
theorem Ei : ∀ (B : List Int) (k j : Nat),B.length ≤ k + j → gc B k j = 0
  | [],_,_,_ => rfl
  |
   c :: B,k,j,h => by
   simp only [List.length_cons] at h
   simp only [gc]
   rw [if_neg (by omega)]
   have e1 : (if k = 0 then 0 else gc B (k - 1) j) = 0 := by
     split
     · rfl
     · exact Ei B _ _ (by omega)
   have e2 : (if j = 0 then 0 else gc B k (j - 1)) = 0 := by
     split
     · rfl
     · exact Ei B _ _ (by omega)
   rw [e1,e2]; rfl
theorem Qtk : ∀ (B : List Int) (k j : Nat),(gc B k j).natAbs ≤ gB B
  | [],_,_ => Nat.zero_le _
  |
   c :: B,k,j => by
   have h1 := Qtk B (k - 1) j
   have h2 := Qtk B k (j - 1)
   simp only [gc,gB]
   by_cases hk : k = 0 <;> by_cases hj : j = 0 <;> simp only [hk,hj,true_and,and_true,false_and,and_false,if_true,if_false] <;> (try subst hk) <;> (try subst hj) <;> omega
theorem Qtl : ∀ (B : List Int) (b : Nat),B.length = b + 1 → (gc B 0 b).natAbs = (B.getD b 0).natAbs
  | [],_,h => by simp at h
  | [c],0,_ => by simp [gc]
  | c :: d :: B,0,h => by simp at h
  |
   c :: B,b + 1,h => by
   have ih := Qtl B b (by simpa using h)
   simp only [gc]
   simp only [Nat.add_sub_cancel,List.getD_cons_succ]
   rw [if_pos trivial,if_neg (Nat.succ_ne_zero b),← ih]; omega
def E2 (F : Nat → Nat → Int) (K J : Nat) (x y : Rat) : Rat := sq K fun k => sq J fun j => (F k j : Rat) * (y ^ k * x ^ j)
theorem Qip (F G : Nat → Nat → Int) (K J : Nat) (x y : Rat) : E2 (fun k j => F k j + G k j) K J x y = E2 F K J x y + E2 G K J x y := by
  unfold E2
  rw [← Qkc]
  refine Jz K fun k _ => ?_
  rw [← Qkc]
  exact Jz J fun j _ => by push_cast; grind
theorem Qs2 (c : Int) (F : Nat → Nat → Int) (K J : Nat) (x y : Rat) : E2 (fun k j => F k j * c) K J x y = (c : Rat) * E2 F K J x y := by
  unfold E2
  rw [← Se]
  refine Jz K fun k _ => ?_
  rw [← Se]
  exact Jz J fun j _ => by push_cast; grind
theorem Qs3 (φ : Nat → Nat → Nat → Int) (v : Nat → Int) (K J : Nat) (x y : Rat) : ∀ N,E2 (fun k j => sm N fun n => φ n k j * v n) K J x y = sq N fun n => (v n : Rat) * E2 (φ n) K J x y
  |
   0 => by
   simp only [sq,sm]
   unfold E2
   refine Kl K fun k _ => Kl J fun j _ => ?_
   rw [show ((0 : Int) : Rat) = 0 from rfl]; grind
  |
   N + 1 => by
   simp only [sq]
   rw [← Qs3 φ v K J x y N,← Qs2,← Qip]
   rfl
theorem Ba (t : Rat) (i : Nat) : ∀ k,t ^ (i + k) = t ^ i * t ^ k
  | 0 => by rw [Nat.add_zero,Rat.pow_zero]; grind
  | k + 1 => by rw [← Nat.add_assoc,Rat.pow_succ,Rat.pow_succ,Ba t i k]; grind
theorem Oe (f : Nat → Rat) : ∀ (i n : Nat),sq (i + n) (fun k => if i ≤ k then f (k - i) else 0) = sq n f
  | i,0 => Kl _ fun k hk => by rw [if_neg (by omega)]
  |
   i,n + 1 => by
   rw [← Nat.add_assoc]; simp only [sq]
   rw [Oe f i n,if_pos (by omega),Nat.add_sub_cancel_left]
def Ly (i j' : Nat) (F : Nat → Nat → Int) (k j : Nat) : Int := if i ≤ k then (if j' ≤ j then F (k - i) (j - j') else 0) else 0
theorem A2 (F : Nat → Nat → Int) (i j' K J : Nat) (x y : Rat) : E2 (Ly i j' F) (i + K) (j' + J) x y = y ^ i * x ^ j' * E2 F K J x y := by
  unfold E2
  rw [← Se,← Oe _ i K]
  refine Jz _ fun k _ => ?_
  by_cases hk : i ≤ k
  · rw [if_pos hk,← Se,← Oe _ j' J]
    refine Jz _ fun j _ => ?_
    unfold Ly
    rw [if_pos hk]
    by_cases hj : j' ≤ j
    · rw [if_pos hj,if_pos hj]
      have e1 : y ^ k = y ^ i * y ^ (k - i) := by rw [← Ba]; congr 1; omega
      have e2 : x ^ j = x ^ j' * x ^ (j - j') := by rw [← Ba]; congr 1; omega
      rw [e1,e2]; grind
    · rw [if_neg hj,if_neg hj,show ((0 : Int) : Rat) = 0 from rfl]; grind
  · rw [if_neg hk]
    refine Kl _ fun j _ => ?_
    unfold Ly
    rw [if_neg hk,show ((0 : Int) : Rat) = 0 from rfl]; grind
def fA (A : List Int) (k j : Nat) : Int := if j = 0 then A.getD k 0 else 0
theorem Quz (y : Rat) : ∀ (A : List Int) (K : Nat),A.length ≤ K → sq K (fun k => ((A.getD k 0 : Int) : Rat) * y ^ k) = Qi A y
  | [],K,_ => by rw [Kl]; rfl; intro i _; simp
  | a :: A,0,h => by simp at h
  |
   a :: A,K + 1,h => by
   have ih := Quz y A K (by simpa using h)
   rw [Hc]
   simp only [Qi,List.getD_cons_zero,List.getD_cons_succ,Rat.pow_zero]
   rw [← ih,← Se]
   have : (sq K fun i => ((A.getD i 0 : Int) : Rat) * y ^ (i + 1)) = sq K fun i => y * (((A.getD i 0 : Int) : Rat) * y ^ i) := Jz K fun i _ => by rw [Rat.pow_succ]; grind
   rw [this]; grind
theorem Q6u (A : List Int) (K J : Nat) (x y : Rat) (h : A.length ≤ K) : E2 (fA A) K (J + 1) x y = Qi A y := by
  rw [← Quz y A K h]
  refine Jz K fun k _ => ?_
  rw [Hc,Kl]
  · simp only [fA,if_true,Rat.pow_zero]; grind
  · intro j _
    simp only [fA]
    rw [if_neg (by omega),show ((0 : Int) : Rat) = 0 from rfl]; grind
theorem Q3w (x y : Rat) : ∀ (B : List Int) (K J : Nat),B.length ≤ K → B.length ≤ J → E2 (gc B) K J x y = Qi B (y - x)
  |
   [],K,J,_,_ => by
   unfold E2
   simp only [gc,Qi]
   exact Kl K fun k _ => Kl J fun j _ => by rw [show ((0 : Int) : Rat) = 0 from rfl]; grind
  | c :: B,0,J,h,_ => by simp at h
  | c :: B,K + 1,0,_,h => by simp at h
  |
   c :: B,K + 1,J + 1,h1,h2 => by
   have i1 := Q3w x y B K (J + 1) (by simpa using h1) (by simp at h2; omega)
   have i2 := Q3w x y B (K + 1) J (by simp at h1; omega) (by simpa using h2)
   have s1 := A2 (gc B) 1 0 K (J + 1) x y
   have s2 := A2 (gc B) 0 1 (K + 1) J x y
   rw [Nat.zero_add,Nat.add_comm 1 K] at s1
   rw [Nat.zero_add,Nat.add_comm 1 J] at s2
   rw [i1] at s1
   rw [i2] at s2
   have e0 : E2 (fA [c]) (K + 1) (J + 1) x y = (c : Rat) := by rw [Q6u [c] (K + 1) J x y (by simp)]; simp only [Qi]; grind
   have e1 : gc (c :: B) = fun k j => (fA [c] k j + Ly 1 0 (gc B) k j) + Ly 0 1 (gc B) k j * (-1) := by
     funext k j
     simp only [gc,fA,Ly]
     by_cases hk : k = 0 <;> by_cases hj : j = 0
     · subst hk; subst hj; simp
     · subst hk; simp [hj,show 1 ≤ j by omega]
       try omega
     · subst hj
       obtain ⟨m,rfl⟩ : ∃ m,k = m + 1 := ⟨k - 1,by omega⟩
       simp
     · obtain ⟨m,rfl⟩ : ∃ m,k = m + 1 := ⟨k - 1,by omega⟩
       obtain ⟨i,rfl⟩ : ∃ i,j = i + 1 := ⟨j - 1,by omega⟩
       simp; omega
   rw [e1,Qip (fun k j => fA [c] k j + Ly 1 0 (gc B) k j) (fun k j => Ly 0 1 (gc B) k j * (-1)),Qip (fA [c]) (Ly 1 0 (gc B)),Qs2,e0,s1,s2]
   simp only [Qi,Rat.pow_zero,show y ^ 1 = y by rw [Rat.pow_succ,Rat.pow_zero]; grind,show x ^ 1 = x by rw [Rat.pow_succ,Rat.pow_zero]; grind]
   rw [show (((-1 : Int)) : Rat) = -1 from rfl]
   grind
end Orq

namespace Orq
def O3 (A B : List Int) (b J J' n k j : Nat) : Int := if n < b * J then Ly (n / J) (n % J) (fA A) k j else Ly ((n - b * J) / J') ((n - b * J) % J') (gc B) k j
theorem Qwc {F : Nat → Nat → Int} {h : Nat} (hF : ∀ k j,(F k j).natAbs ≤ h) (i j' k j : Nat) : (Ly i j' F k j).natAbs ≤ h := by
  unfold Ly; split
  · split
    · exact hF _ _
    · exact Nat.zero_le _
  · exact Nat.zero_le _
theorem Q2h {i b J j : Nat} (hi : i < b) (hj : j < J) : i * J + j < b * J := by
  have : (i + 1) * J ≤ b * J := Nat.mul_le_mul_right J hi
  rw [Nat.succ_mul] at this; omega
theorem C3 {i J j : Nat} (hj : j < J) : (i * J + j) / J = i ∧ (i * J + j) % J = j := by
  rw [Nat.mul_comm,Nat.mul_add_div (by omega),Nat.mul_add_mod,Nat.div_eq_of_lt hj,Nat.mod_eq_of_lt hj]; exact ⟨by omega,rfl⟩
theorem Qbz (A B : List Int) (a b J J' : Nat) (v : Nat → Int) (k j : Nat) : sm (b * J + a * J') (fun n => O3 A B b J J' n k j * v n) =
    (sm b fun i => sm J fun j1 => Ly i j1 (fA A) k j * v (i * J + j1)) + sm a fun i => sm J' fun j1 => Ly i j1 (gc B) k j * v (b * J + (i * J' + j1)) := by
  rw [Qj7,Qj8,Qj8]
  congr 1
  · refine W6 b fun i hi => W6 J fun j1 hj => ?_
    unfold O3
    rw [if_pos (Q2h hi hj),(C3 hj).1,(C3 hj).2]
  · refine W6 a fun i hi => W6 J' fun j1 hj => ?_
    unfold O3
    rw [if_neg (by omega),Nat.add_sub_cancel_left,(C3 hj).1,(C3 hj).2]
theorem Q6n (A : List Int) (v : Nat → Int) {i J k j : Nat} (hj : j < J) : (sm J fun j1 => Ly i j1 (fA A) k j * v (i * J + j1)) = if i ≤ k then A.getD (k - i) 0 * v (i * J + j) else 0 := by
  rw [Oc (k := j) J hj fun j1 _ hne => ?_]
  · unfold Ly fA
    by_cases h : i ≤ k
    · rw [if_pos h,if_pos h,if_pos (Nat.le_refl _),if_pos (Nat.sub_self _)]
    · rw [if_neg h,if_neg h,Int.zero_mul]
  · unfold Ly fA
    by_cases h : i ≤ k
    · rw [if_pos h]
      by_cases h' : j1 ≤ j
      · rw [if_pos h',if_neg (by omega),Int.zero_mul]
      · rw [if_neg h',Int.zero_mul]
    · rw [if_neg h,Int.zero_mul]
section
variable {A B : List Int} {a b J J' : Nat} (hA : A.length = a + 1) (hB : B.length = b + 1) (lA : A.getD a 0 ≠ 0) (lB : B.getD b 0 ≠ 0) (hJ : J = J' + b) {v : Nat → Int} (hW : ∀ k j,k < a + b → j < J → sm (b * J + a * J') (fun n => O3 A B b J J' n k j * v n) = 0)
include hA lA hW in
theorem Q17 {jj : Nat} (hj : jj < J) (hV : ∀ k,a ≤ k → k < a + b → (sm a fun i => sm J' fun j1 => Ly i j1 (gc B) k jj * v (b * J + (i * J' + j1))) = 0) : ∀ d i,i < b → b - i ≤ d → v (i * J + jj) = 0 := by
  intro d
  induction d with
  | zero => intro i hi hd; omega
  |
   succ d ih =>
   intro i hi hd
   have h1 := hW (i + a) jj (by omega) hj
   rw [Qbz,hV (i + a) (by omega) (by omega)] at h1
   rw [W6 b (fun i' hi' => Q6n A v hj)] at h1
   rw [Oc (k := i) b hi fun i' hi' hne => ?_] at h1
   · rw [if_pos (by omega),Nat.add_sub_cancel_left,Int.add_zero] at h1
     rcases Int.mul_eq_zero.1 h1 with h2 | h2
     · exact absurd h2 lA
     · exact h2
   · rcases Nat.lt_or_ge i i' with h | h
     · rw [ih i' hi' (by omega)]; simp
     · rw [if_pos (by omega),List.getD_eq_getElem?_getD,List.getElem?_eq_none (by omega)]; simp
include hA hB lA lB hJ hW in
theorem Q6s : ∀ d js,js < J' → J' - js ≤ d → ∀ i,i < a → v (b * J + (i * J' + js)) = 0 := by
  intro d
  induction d with
  | zero => intro js hi hd; omega
  |
   succ d ih =>
   intro js hjs hd i hi
   have hin : ∀ i' k,i' < a → (sm J' fun j1 => Ly i' j1 (gc B) k (js + b) * v (b * J + (i' * J' + j1))) = if i' = k then gc B 0 b * v (b * J + (i' * J' + js)) else 0 := fun i' k hi' => by
     rw [Oc (k := js) J' hjs fun j1 hj1 hne => ?_]
     · unfold Ly
       by_cases h : i' ≤ k
       · rw [if_pos h,if_pos (by omega),Nat.add_sub_cancel_left]
         by_cases h' : i' = k
         · rw [if_pos h',h',Nat.sub_self]
         · rw [if_neg h',Ei B _ _ (by omega),Int.zero_mul]
       · rw [if_neg h,if_neg (by omega),Int.zero_mul]
     · rcases Nat.lt_or_ge js j1 with h | h
       · rw [ih j1 hj1 (by omega) i' hi',Int.mul_zero]
       · unfold Ly
         by_cases h' : i' ≤ k
         · rw [if_pos h',if_pos (by omega),Ei B _ _ (by omega),Int.zero_mul]
         · rw [if_neg h',Int.zero_mul]
   have hU := Q17 hA lA hW (jj := js + b) (by omega) (fun k hk hk' => S8 a fun i' hi' => by rw [hin i' k hi',if_neg (by omega)]) (b + 1)
   have h1 := hW i (js + b) (by omega) (by omega)
   rw [Qbz,W6 a (fun i' hi' => hin i' i hi')] at h1
   rw [S8 b fun i' hi' => by
     rw [Q6n A v (by omega),hU i' hi' (by omega)]; simp] at h1
   rw [Oc (k := i) a hi fun i' hi' hne => if_neg hne,if_pos rfl,Int.zero_add] at h1
   rcases Int.mul_eq_zero.1 h1 with h2 | h2
   · have := Qtl B b hB; rw [h2] at this; omega
   · exact h2
include hA hB lA lB hJ hW in
theorem Qqg : ∀ n,n < b * J + a * J' → v n = 0 := by
  intro n hn
  have hV := Q6s hA hB lA lB hJ hW
  rcases Nat.lt_or_ge n (b * J) with h | h
  · have hJp : 0 < J := by
      rcases Nat.eq_zero_or_pos J with e | e
      · rw [e,Nat.mul_zero] at h; omega
      · exact e
    have e1 := Nat.mod_lt n hJp
    have e2 : n / J < b := Nat.div_lt_of_lt_mul (by rw [Nat.mul_comm]; exact h)
    have := Q17 hA lA hW e1 (fun k _ _ => S8 a fun i hi => S8 J' fun j1 hj1 => by rw [hV J' j1 hj1 (by omega) i hi,Int.mul_zero]) (b + 1) (n / J) e2 (Nat.le_trans (Nat.sub_le _ _) (Nat.le_succ _))
    rwa [Nat.mul_comm,Nat.div_add_mod] at this
  · have hJp : 0 < J' := by
      rcases Nat.eq_zero_or_pos J' with e | e
      · rw [e,Nat.mul_zero] at hn; omega
      · exact e
    have e1 := Nat.mod_lt (n - b * J) hJp
    have e2 : (n - b * J) / J' < a := Nat.div_lt_of_lt_mul (by rw [Nat.mul_comm J' a]; omega)
    have := hV J' _ e1 (by omega) _ e2
    rw [Nat.mul_comm ((n - b * J) / J'),Nat.div_add_mod] at this
    rwa [show b * J + (n - b * J) = n by omega] at this
end
theorem S4 {R x : Rat} (h1 : 1 ≤ R) (hx : Ql x ≤ R) : ∀ k : Nat,Ql (x ^ k) ≤ R ^ k ∧ 1 ≤ R ^ k
  | 0 => by rw [Rat.pow_zero,Rat.pow_zero]; exact ⟨by decide,by decide⟩
  |
   k + 1 => by
   obtain ⟨i1,i2⟩ := S4 h1 hx k
   rw [Rat.pow_succ,Rat.pow_succ]
   have := Kd (a := 1) (c := 1) (by decide) i2 (by decide) h1
   exact ⟨Zp i1 hx,by grind⟩
theorem Qng {R : Rat} (h1 : 1 ≤ R) {i : Nat} : ∀ k,i ≤ k → R ^ i ≤ R ^ k
  | 0,h => by rw [show i = 0 by omega]; exact Rat.le_refl
  |
   k + 1,h => by
   rcases Nat.lt_or_eq_of_le h with e | e
   · have := Qng h1 (i := i) k (by omega)
     have h2 := (S4 h1 (x := 0) (by rw [Xf]; grind) k).2
     rw [Rat.pow_succ]
     have := Kd (a := R ^ k) (b := R ^ k) (c := 1) (d := R) (by grind) Rat.le_refl (by decide) h1
     grind
   · rw [e]; exact Rat.le_refl
theorem Qwb {F : Nat → Nat → Int} {i j' K J : Nat} {x y R X : Rat} {K2 J2 : Nat} (h1 : 1 ≤ R) (hx : Ql x ≤ R) (hy : Ql y ≤ R) (hK : K = i + K2) (hJ : J = j' + J2) (hF : E2 F K2 J2 x y = X) : Ql (E2 (Ly i j' F) K J x y) ≤ R ^ (K + J) * Ql X := by
  subst hK; subst hJ
  rw [A2,hF,Fp]
  have a1 := (S4 h1 hy i).1
  have a2 := (S4 h1 hx j').1
  have a3 := Zp a1 a2
  rw [← Ba] at a3
  have a4 := Qng h1 (i := i + j') (i + K2 + (j' + J2)) (by omega)
  exact Kd (Z5 _) (Rat.le_trans a3 a4) (Z5 _) Rat.le_refl
theorem Q4z {A B : List Int} {a b h : Nat} (hA : A.length = a + 1) (hB : B.length = b + 1) (lA : A.getD a 0 ≠ 0) (lB : B.getD b 0 ≠ 0) (ha : 0 < a) (hb : 0 < b) (h0 : 1 ≤ h) (bA : ∀ k, (A.getD k 0).natAbs ≤ h) (bB : gB B ≤ h) {J J' N H : Nat} (hJ : J = 2 * (a * b)) (hJ' : J = J' + b) (hN : N = b * J + a * J') (hH : H = (2 * (N * h)) ^ (2 * (a + b - 1))) :
    ∃ w : Nat → Int,(∃ j,j < J ∧ w j ≠ 0) ∧ (∀ j,(w j).natAbs ≤ N * (h * H)) ∧ ∀ R : Rat,1 ≤ R → ∃ C : Rat,0 ≤ C ∧ ∀ x y,Ql x ≤ R → Ql y ≤ R → Ql (sq J fun j => (w j : Rat) * x ^ j) ≤ C * (Ql (Qi A y) + Ql (Qi B (y - x))) := by
  have hab : 0 < a * b := Nat.mul_pos ha hb
  have hbd : ∀ n k j,(O3 A B b J J' n k j).natAbs ≤ h := fun n k j => by
    unfold O3
    split
    · exact Qwc (fun k j => by unfold fA; split; exact bA k; exact Nat.zero_le _) _ _ _ _
    · exact Qwc (fun k j => Nat.le_trans (Qtk B k j) bB) _ _ _ _
  have hJp : 0 < J := by omega
  have hNp : 1 ≤ N := by
    have : 0 < b * J := Nat.mul_pos hb hJp
    omega
  have hNh : 1 ≤ N * h := Nat.mul_pos hNp h0
  obtain ⟨E,hE⟩ : ∃ E,E = (a + b - 1) * J := ⟨_,rfl⟩
  have hNE : N = E + a * b := by
    have e1 : (a + b - 1) * J + J = (a + b) * J := by
      rw [← Nat.succ_mul]; congr 1; omega
    have e2 : a * J = a * J' + a * b := by rw [hJ',Nat.mul_add]
    rw [Nat.add_mul] at e1
    omega
  have hc : (2 * (N * (h * H)) + 1) ^ E < (H + 1) ^ N := by
    have c1 : 2 * (N * (h * H)) + 1 ≤ 2 * (N * h) * (H + 1) := by
      rw [Nat.mul_add,Nat.mul_one,Nat.mul_assoc 2,Nat.mul_assoc N]; omega
    refine Nat.lt_of_le_of_lt (Nat.pow_le_pow_left c1 E) ?_
    rw [Nat.mul_pow,hNE,Nat.pow_add,Nat.mul_comm]
    refine Nat.mul_lt_mul_of_pos_left ?_ (Nat.pow_pos (by omega))
    have e1 : (2 * (N * h)) ^ E = H ^ (a * b) := by
      rw [hH,← Nat.pow_mul,hE,hJ]; congr 1
      rw [Nat.mul_comm 2 (a + b - 1),Nat.mul_assoc]
    rw [← hNE,e1]
    exact Nat.pow_lt_pow_left (by omega) (by omega)
  obtain ⟨v,v1,⟨n0,n1,n2⟩,v3⟩ := Q44 (M := fun e n => O3 A B b J J' n (e / J + 1) (e % J)) (h := h) (N := N) (E := E) (H := H) (fun e n => hbd n _ _) hc
  have hW : ∀ k j,1 ≤ k → k < a + b → j < J → sm N (fun n => O3 A B b J J' n k j * v n) = 0 := fun k j k1 k2 hj => by
    have := v3 ((k - 1) * J + j) (by rw [hE]; exact Q2h (by omega) hj)
    rwa [(C3 hj).1,(C3 hj).2,show k - 1 + 1 = k by omega] at this
  refine ⟨fun j => sm N fun n => O3 A B b J J' n 0 j * v n,?_,fun j => ?_,fun R hR => ?_⟩
  · rcases Classical.em (∃ j,j < J ∧ (sm N fun n => O3 A B b J J' n 0 j * v n) ≠ 0) with e | e
    · exact e
    · exfalso
      refine n2 (Qqg hA hB lA lB hJ' (v := v) (fun k j hk hj => ?_) n0 (by rw [← hN]; exact n1))
      rw [← hN]
      rcases Nat.eq_zero_or_pos k with e' | e'
      · subst e'
        rcases Classical.em ((sm N fun n => O3 A B b J J' n 0 j * v n) = 0) with e2 | e2
        · exact e2
        · exact absurd ⟨j,hj,e2⟩ e
      · exact hW k j e' hk hj
  · refine Qwh N fun n _ => ?_
    rw [Int.natAbs_mul]
    exact Nat.mul_le_mul (hbd n 0 j) (v1 n)
  · have hRp : ∀ k : Nat,1 ≤ R ^ k := fun k => (S4 hR (x := 0) (by rw [Xf]; grind) k).2
    have hHn : (0 : Rat) ≤ (H : Rat) := Rat.natCast_nonneg
    have hNn : (0 : Rat) ≤ (N : Rat) := Rat.natCast_nonneg
    refine ⟨(N : Rat) * ((H : Rat) * R ^ (a + b + J)),Vo hNn (Vo hHn (by have := hRp (a + b + J); grind)),fun x y hx hy => ?_⟩
    have e1 : (sq J fun j => ((sm N fun n => O3 A B b J J' n 0 j * v n : Int) : Rat) * x ^ j) = E2 (fun k j => sm N fun n => O3 A B b J J' n k j * v n) (a + b) J x y := by
      unfold E2
      obtain ⟨m,hm⟩ : ∃ m,a + b = m + 1 := ⟨a + b - 1,by omega⟩
      rw [hm,Hc,Kl (n := m)]
      · have : (sq J fun j => ((sm N fun n => O3 A B b J J' n 0 j * v n : Int) : Rat) * (y ^ 0 * x ^ j)) = sq J fun j => ((sm N fun n => O3 A B b J J' n 0 j * v n : Int) : Rat) * x ^ j := Jz J fun j _ => by rw [Rat.pow_zero]; grind
        rw [this]; grind
      · intro k hk
        refine Kl J fun j hj => ?_
        show ((sm N fun n => O3 A B b J J' n (k + 1) j * v n : Int) : Rat) * _ = 0
        rw [hW (k + 1) j (by omega) (by omega) hj,show ((0 : Int) : Rat) = 0 from rfl]; grind
    rw [e1,Qs3]
    have key : ∀ n,n < N → Ql ((v n : Rat) * E2 (O3 A B b J J' n) (a + b) J x y) ≤ (H : Rat) * (R ^ (a + b + J) * (Ql (Qi A y) + Ql (Qi B (y - x)))) := fun n hn => by
      have hvn : Ql (v n : Rat) ≤ (H : Rat) := by
        have h1 := v1 n
        have h2 : (v n) ≤ (H : Int) := by omega
        have h3 : -(H : Int) ≤ v n := by omega
        have h2 := Rat.intCast_le_intCast.2 h2
        have h3 := Rat.intCast_le_intCast.2 h3
        rw [Rat.intCast_neg] at h3
        rw [Yn]; exact ⟨h3,h2⟩
      refine Zp hvn ?_
      have hRk := hRp (a + b + J)
      have n1 := Z5 (Qi A y)
      have n2 := Z5 (Qi B (y - x))
      rcases Nat.lt_or_ge n (b * J) with h | h
      · have e : O3 A B b J J' n = Ly (n / J) (n % J) (fA A) := by funext k j; unfold O3; rw [if_pos h]
        have d1 : n / J < b := Nat.div_lt_of_lt_mul (by rw [Nat.mul_comm]; exact h)
        have d2 := Nat.mod_lt n hJp
        rw [e]
        refine Rat.le_trans (Qwb (K2 := a + b - n / J) (J2 := J - n % J) hR hx hy (by omega) (by omega) (X := Qi A y) ?_) (Kd (by grind) Rat.le_refl n1 (by grind))
        obtain ⟨m,hm⟩ : ∃ m,J - n % J = m + 1 := ⟨J - n % J - 1,by omega⟩
        rw [hm]; exact Q6u A _ _ x y (by omega)
      · have e : O3 A B b J J' n = Ly ((n - b * J) / J') ((n - b * J) % J') (gc B) := by funext k j; unfold O3; rw [if_neg (by omega)]
        have hJp' : 0 < J' := by
          rcases Nat.eq_zero_or_pos J' with e | e
          · rw [e,Nat.mul_zero] at hN; omega
          · exact e
        have d1 : (n - b * J) / J' < a := Nat.div_lt_of_lt_mul (by rw [Nat.mul_comm J' a]; omega)
        have d2 := Nat.mod_lt (n - b * J) hJp'
        rw [e]
        refine Rat.le_trans (Qwb (K2 := a + b - (n - b * J) / J') (J2 := J - (n - b * J) % J') hR hx hy (by omega) (by omega) (X := Qi B (y - x)) ?_) (Kd (by grind) Rat.le_refl n2 (by grind))
        exact Q3w x y B _ _ (by omega) (by omega)
    have := Q2s N key
    refine Rat.le_trans this ?_
    have : (N : Rat) * ((H : Rat) * (R ^ (a + b + J) * (Ql (Qi A y) + Ql (Qi B (y - x))))) = (N : Rat) * ((H : Rat) * R ^ (a + b + J)) * (Ql (Qi A y) + Ql (Qi B (y - x))) := by grind
    rw [this]; exact Rat.le_refl
end Orq

namespace Orq
theorem Qwk {w : Nat → Int} {x : Rat} {D : Rat} (hx : Ql x * 2 ≤ 1) (hw : ∀ j,Ql (w j : Rat) ≤ D) : ∀ J (k : Nat),Ql (sq J fun j => (w (k + j) : Rat) * x ^ j) ≤ 2 * D
  | 0,k => by have := hw 0; have := Z5 (w 0 : Rat); simp only [sq,Xf]; clear hw; grind
  |
   J + 1,k => by
   have ih := Qwk hx hw J (k + 1)
   rw [Hc]
   have e : (sq J fun i => (w (k + (i + 1)) : Rat) * x ^ (i + 1)) = x * sq J fun i => (w (k + 1 + i) : Rat) * x ^ i := by
     rw [← Se]; exact Jz J fun i _ => by rw [Rat.pow_succ,show k + (i + 1) = k + 1 + i by omega]; grind
   rw [e,Rat.pow_zero,Nat.add_zero]
   have h1 := hw k
   have h2 := Ji ((w k : Rat) * 1) (x * sq J fun i => (w (k + 1 + i) : Rat) * x ^ i)
   have h3 := Zp (x := x) (y := sq J fun i => (w (k + 1 + i) : Rat) * x ^ i) Rat.le_refl ih
   have h4 := Rat.mul_le_mul_of_nonneg_right hx (show (0 : Rat) ≤ D by have := Z5 (w k : Rat); clear hw; grind)
   have h5 : (w k : Rat) * 1 = w k := by grind
   rw [h5] at h2 ⊢
   clear hw; grind
theorem Md {z : Int} (h : z ≠ 0) : 1 ≤ Ql (z : Rat) := by
  unfold Ql
  rcases Int.lt_or_lt_of_ne h with h | h
  · have : ((z : Int) : Rat) < ((0 : Int) : Rat) := Rat.intCast_lt_intCast.2 h
    have h2 : ((1 : Int) : Rat) ≤ ((-z : Int) : Rat) := Rat.intCast_le_intCast.2 (by omega)
    rw [if_pos (by simpa using this)]
    rw [Rat.intCast_neg] at h2
    simpa using h2
  · have : ((0 : Int) : Rat) < ((z : Int) : Rat) := Rat.intCast_lt_intCast.2 h
    have h2 : ((1 : Int) : Rat) ≤ ((z : Int) : Rat) := Rat.intCast_le_intCast.2 (by omega)
    rw [if_neg (by
     have : (0 : Rat) < z := by simpa using this
     grind)]
    simpa using h2
theorem Qi7 {w : Nat → Int} {x : Rat} {D : Rat} (hD : 1 ≤ D) (hx0 : 0 < Ql x) (hx : Ql x * (4 * D) ≤ 1) (hw : ∀ j,Ql (w j : Rat) ≤ D) : ∀ J (k : Nat),(∃ j,j < J ∧ w (k + j) ≠ 0) → Ql x ^ J / 2 ≤ Ql (sq J fun j => (w (k + j) : Rat) * x ^ j)
  | 0,k,⟨j,h,_⟩ => by omega
  |
   J + 1,k,⟨j,h1,h2⟩ => by
   have hx2 : Ql x * 2 ≤ 1 := by
     have := Kd (a := Ql x) (c := 2) (Rat.le_of_lt hx0) Rat.le_refl (by decide) (show (2 : Rat) ≤ 4 * D by clear hw; grind)
     exact Rat.le_trans this hx
   have hx1 : Ql x ≤ 1 := by clear hw; grind
   have hp : ∀ k : Nat,Ql x ^ k ≤ 1 ∧ 0 ≤ Ql x ^ k := fun k => by
     induction k with
     | zero => rw [Rat.pow_zero]; exact ⟨by decide,by decide⟩
     |
      succ k ih =>
      rw [Rat.pow_succ]
      have := Kd ih.2 ih.1 (Rat.le_of_lt hx0) hx1
      have := Vo ih.2 (Rat.le_of_lt hx0)
      constructor <;> (clear hw; grind)
   rw [Hc]
   have e : (sq J fun i => (w (k + (i + 1)) : Rat) * x ^ (i + 1)) = x * sq J fun i => (w (k + 1 + i) : Rat) * x ^ i := by
     rw [← Se]; exact Jz J fun i _ => by rw [Rat.pow_succ,show k + (i + 1) = k + 1 + i by omega]; grind
   rw [e,Rat.pow_zero,Nat.add_zero k,show (w k : Rat) * 1 = w k by grind]
   by_cases h0 : w k = 0
   · have hj : j ≠ 0 := fun e => h2 (by rw [e]; exact h0)
     have ih := Qi7 hD hx0 hx hw J (k + 1) ⟨j - 1,by omega,by rw [show k + 1 + (j - 1) = k + j by omega]; exact h2⟩
     rw [h0,show ((0 : Int) : Rat) + x * (sq J fun i => (w (k + 1 + i) : Rat) * x ^ i) = x * sq J fun i => (w (k + 1 + i) : Rat) * x ^ i by rw [show ((0 : Int) : Rat) = 0 from rfl]; grind,Fp,Rat.pow_succ]
     have := Rat.mul_le_mul_of_nonneg_left ih (Rat.le_of_lt hx0)
     have e2 : Ql x * (Ql x ^ J / 2) = Ql x ^ J * Ql x / 2 := by rw [Rat.div_def,Rat.div_def]; grind
     rw [e2] at this; exact this
   · have a1 := Md h0
     have a2 := Qwk hx2 hw J (k + 1)
     have a3 := Zp (x := x) (y := sq J fun i => (w (k + 1 + i) : Rat) * x ^ i) Rat.le_refl a2
     have a4 := Ji ((w k : Rat) + x * sq J fun i => (w (k + 1 + i) : Rat) * x ^ i) (-(x * sq J fun i => (w (k + 1 + i) : Rat) * x ^ i))
     rw [Un,show (w k : Rat) + (x * sq J fun i => (w (k + 1 + i) : Rat) * x ^ i) + -(x * sq J fun i => (w (k + 1 + i) : Rat) * x ^ i) = w k by grind] at a4
     have a5 := (hp (J + 1)).1
     have a6 : Ql x ^ (J + 1) / 2 * 2 = Ql x ^ (J + 1) := Zr (by decide)
     have a7 : Ql x * (2 * D) * 2 = Ql x * (4 * D) := by grind
     clear hw hp; grind
theorem Q35 {A B : List Int} {a b h : Nat} (hA : A.length = a + 1) (hB : B.length = b + 1) (lA : A.getD a 0 ≠ 0) (lB : B.getD b 0 ≠ 0) (ha : 0 < a) (hb : 0 < b) (h0 : 1 ≤ h) (bA : ∀ k, (A.getD k 0).natAbs ≤ h) (bB : gB B ≤ h) {N D : Nat} (hN : b * (2 * (a * b)) + a * (2 * (a * b) - b) = N) (hD : N * (h * (2 * (N * h)) ^ (2 * (a + b - 1))) ≤ D) {R d : Rat} (hR : 1 ≤ R) (dp : 0 < d)
    (hs : ∀ e : Rat,0 < e → ∃ q r,Ql q ≤ R ∧ Ql r ≤ R ∧ d ≤ Ql (q - r) ∧ Ql (q - r) * (4 * (D : Rat)) ≤ 1 ∧ Ql (Qi A q) < e ∧ Ql (Qi B r) < e) : False := by
  have hab : 0 < a * b := Nat.mul_pos ha hb
  have hbab : b ≤ a * b := by
    have := Nat.mul_le_mul_right b (show 1 ≤ a from ha); omega
  obtain ⟨w,⟨j,hj,hw0⟩,hw,hC⟩ := Q4z hA hB lA lB ha hb h0 bA bB (J := 2 * (a * b)) (J' := 2 * (a * b) - b) rfl (by omega) hN.symm rfl
  obtain ⟨C,hC0,hC⟩ := hC (2 * R) (by grind)
  have hw' : ∀ j,Ql (w j : Rat) ≤ (D : Rat) := fun j => by
    have h1 := Nat.le_trans (hw j) hD
    have h2 : w j ≤ (D : Int) := by omega
    have h3 : -(D : Int) ≤ w j := by omega
    have h2 := Rat.intCast_le_intCast.2 h2
    have h3 := Rat.intCast_le_intCast.2 h3
    rw [Rat.intCast_neg] at h3
    rw [Yn]; exact ⟨h3,h2⟩
  have hD1 : (1 : Rat) ≤ (D : Rat) := by
    have := Md hw0
    exact Rat.le_trans this (hw' j)
  have hdJ : 0 < d ^ (2 * (a * b)) / 2 := U0 (Rat.pow_pos dp) (by decide)
  obtain ⟨e,ep,_,he⟩ := Zs (b := C * 2) (d := d ^ (2 * (a * b)) / 2) (by grind) hdJ
  obtain ⟨q,r,q1,r1,d1,d2,aq,br⟩ := hs e ep
  have h1 := hC (q - r) q (by
   have := Ji q (-r); rw [Un] at this; have : q - r = q + -r := by grind
   grind) (by grind)
  rw [show q - (q - r) = r by grind] at h1
  have h2 := Qi7 (x := q - r) hD1 (by grind) d2 hw' (2 * (a * b)) 0 ⟨j,hj,by rw [Nat.zero_add]; exact hw0⟩
  simp only [Nat.zero_add] at h2
  have h3 : C * (Ql (Qi A q) + Ql (Qi B r)) ≤ C * (e + e) := Rat.mul_le_mul_of_nonneg_left (by grind) hC0
  have h4 : d ^ (2 * (a * b)) ≤ Ql (q - r) ^ (2 * (a * b)) := by
    generalize 2 * (a * b) = J
    induction J with
    | zero => rw [Rat.pow_zero,Rat.pow_zero]; exact Rat.le_refl
    |
     succ J ih =>
     rw [Rat.pow_succ,Rat.pow_succ]
     exact Kd (Rat.le_of_lt (Rat.pow_pos dp)) ih (Rat.le_of_lt dp) d1
  have h5 : d ^ (2 * (a * b)) / 2 * 2 = d ^ (2 * (a * b)) := Zr (by decide)
  have h6 : Ql (q - r) ^ (2 * (a * b)) / 2 * 2 = Ql (q - r) ^ (2 * (a * b)) := Zr (by decide)
  clear hC hs hw hw'
  grind
end Orq

namespace Orq
def HD (p : List Rat) (n : Nat) : Prop := p.getD n 0 ≠ 0 ∧ ∀ k,n < k → p.getD k 0 = 0
theorem Xi : ∀ (p q : List Rat) (k : Nat),(Jj p q).getD k 0 = p.getD k 0 + q.getD k 0
  | [],q,k => by simp only [Jj,List.getD_nil]; grind
  | a :: p,[],k => by simp only [Jj,List.getD_nil]; grind
  | a :: p,b :: q,0 => by simp only [Jj,List.getD_cons_zero]
  | a :: p,b :: q,k + 1 => by simp only [Jj,List.getD_cons_succ]; exact Xi p q k
theorem Jg (c : Rat) : ∀ (p : List Rat) (k : Nat),(Wv c p).getD k 0 = c * p.getD k 0
  | [],k => by simp only [Wv,List.map_nil,List.getD_nil]; grind
  | a :: p,0 => by simp [Wv]
  | a :: p,k + 1 => by have := Jg c p k; simp only [Wv,List.map_cons,List.getD_cons_succ] at *; exact this
theorem Qtr {p : List Rat} {k : Nat} (h : ∀ x ∈ p,x = 0) : p.getD k 0 = 0 := by
  rw [List.getD_eq_getElem?_getD]
  cases e : p[k]? with
  | none => rfl
  | some x => exact h x (List.mem_of_getElem? e)
theorem Wo {p q : List Rat} (h : ∀ t,ev p t = ev q t) (k : Nat) : p.getD k 0 = q.getD k 0 := by
  have h1 := Qtr (k := k) (Ms (p := Jj p (Wv (-1) q)) fun t _ _ => by rw [Ze,Q5,h t]; grind)
  rw [Xi,Jg] at h1; grind
theorem Wz : ∀ {p : List Rat},(∀ k,p.getD k 0 = 0) → ∀ t,ev p t = 0
  | [],_,t => rfl
  |
   a :: p,h,t => by
   have h0 := h 0
   have h1 := Wz (p := p) (fun k => by have := h (k + 1); rwa [List.getD_cons_succ] at this) t
   rw [List.getD_cons_zero] at h0
   simp only [ev,h0,h1]; grind
theorem Ig : ∀ (p : List Rat),(∀ t,ev p t = 0) ∨ ∃ n,n < p.length ∧ HD p n
  | [] => .inl fun _ => rfl
  |
   a :: p => by
   rcases Ig p with h | ⟨n,hn,h1,h2⟩
   · rcases Classical.em (a = 0) with e | e
     · exact .inl fun t => by simp only [ev,e,h t]; grind
     · refine .inr ⟨0,by simp,by simpa using e,fun k hk => ?_⟩
       obtain ⟨m,rfl⟩ : ∃ m,k = m + 1 := ⟨k - 1,by omega⟩
       rw [List.getD_cons_succ]
       exact (Wo (p := p) (q := []) h m).trans (by simp)
   · refine .inr ⟨n + 1,by simp; omega,by rw [List.getD_cons_succ]; exact h1,fun k hk => ?_⟩
     obtain ⟨m,rfl⟩ : ∃ m,k = m + 1 := ⟨k - 1,by omega⟩
     rw [List.getD_cons_succ]; exact h2 m (by omega)
theorem Q2f {p q : List Rat} {n : Nat} (h : ∀ t,ev p t = ev q t) (hp : HD p n) : HD q n :=
  ⟨by rw [← Wo h]; exact hp.1,fun k hk => by rw [← Wo h]; exact hp.2 k hk⟩
theorem Q2g {p : List Rat} {n m : Nat} (h : HD p n) (h' : HD p m) : n = m := by
  rcases Nat.lt_trichotomy n m with e | e | e
  · exact absurd (h.2 m e) h'.1
  · exact e
  · exact absurd (h'.2 n e) h.1
theorem Ql9 {p : List Rat} {n : Nat} (h : HD p n) : ¬ ∀ t,ev p t = 0 := fun h0 => h.1 ((Wo (p := p) (q := []) h0 n).trans (by simp))
theorem D6 {p q : List Rat} (h : ∀ k,p.getD k 0 = 0) (k : Nat) : (Zh p q).getD k 0 = 0 := by
  have := Wo (p := Zh p q) (q := []) (fun t => by rw [Qk,Wz h t]; simp only [ev]; grind) k
  rw [this]; simp
theorem Ih : ∀ {p q : List Rat} {m n : Nat},HD p m → HD q n → HD (Zh p q) (m + n)
  | [],q,m,n,h,_ => absurd (by simp) h.1
  |
   a :: p,q,0,n,h,h' => by
   have h1 : ∀ k,p.getD k 0 = 0 := fun k => by have := h.2 (k + 1) (by omega); rwa [List.getD_cons_succ] at this
   have h2 : ∀ k,(Zh (a :: p) q).getD k 0 = a * q.getD k 0 := fun k => by
     simp only [Zh]
     rw [Xi,Jg]
     cases k with
     | zero => rw [List.getD_cons_zero]; grind
     | succ k => rw [List.getD_cons_succ,D6 h1]; grind
   have h3 := h.1
   rw [List.getD_cons_zero] at h3
   refine ⟨?_,fun k hk => ?_⟩
   · rw [h2,Nat.zero_add]; exact fun h => (Rat.mul_eq_zero.1 h).elim h3 h'.1
   · rw [h2,h'.2 k (by omega)]; grind
  |
   a :: p,q,m + 1,n,h,h' => by
   have ih := Ih (p := p) (q := q) (m := m) ⟨by have := h.1; rwa [List.getD_cons_succ] at this,fun k hk => by have := h.2 (k + 1) (by omega); rwa [List.getD_cons_succ] at this⟩ h'
   refine ⟨?_,fun k hk => ?_⟩
   · simp only [Zh]
     rw [Xi,Jg,show m + 1 + n = (m + n) + 1 by omega,List.getD_cons_succ,h'.2 _ (by omega)]
     have := ih.1; grind
   · obtain ⟨j,rfl⟩ : ∃ j,k = j + 1 := ⟨k - 1,by omega⟩
     simp only [Zh]
     rw [Xi,Jg,List.getD_cons_succ,h'.2 _ (by omega),ih.2 j (by omega)]; grind
def Rj (g f : List Rat) : Prop := ∃ u,∀ t,ev f t = ev g t * ev u t
theorem dvd_refl (f : List Rat) : Rj f f := ⟨[1],fun t => by rw [Xx]; grind⟩
theorem dvd_trans {f g h : List Rat} : Rj f g → Rj g h → Rj f h
  | ⟨u,hu⟩,⟨v,hv⟩ => ⟨Zh u v,fun t => by rw [hv,hu,Qk]; grind⟩
theorem Qgc {p q : List Rat} (h : ∀ t,ev p t * ev q t = 0) (hp : ¬ ∀ t,ev p t = 0) : ∀ t,ev q t = 0 := by
  rcases Ig p with h1 | ⟨m,_,h1⟩
  · exact absurd h1 hp
  · rcases Ig q with h2 | ⟨n,_,h2⟩
    · exact h2
    · exact absurd (fun t => by rw [Qk]; exact h t) (Ql9 (Ih h1 h2))
theorem Qij {p q r : List Rat} (hp : ¬ ∀ t,ev p t = 0) (h : ∀ t,ev p t * ev q t = ev p t * ev r t) (t : Rat) : ev q t = ev r t := by
  have := Qgc (p := p) (q := Jj q (Wv (-1) r)) (fun t => by rw [Ze,Q5]; have := h t; grind) hp t
  rw [Ze,Q5] at this; grind
theorem Qsv {b : List Rat} {n : Nat} (hb : HD b n) : ∀ (l : Nat) (a : List Rat),(∀ k,l ≤ k → a.getD k 0 = 0) → ∃ q r,(∀ t,ev a t = ev q t * ev b t + ev r t) ∧ ∀ k,n ≤ k → r.getD k 0 = 0
  | 0,a,ha => ⟨[],a,fun t => by simp only [ev]; grind,fun k _ => ha k (Nat.zero_le _)⟩
  |
   l + 1,a,ha => by
   rcases Nat.lt_or_ge l n with h | h
   · exact ⟨[],a,fun t => by simp only [ev]; grind,fun k hk => ha k (by omega)⟩
   · -- the leading term is taken away
     obtain ⟨c,hc⟩ : ∃ c,c = a.getD l 0 / b.getD n 0 := ⟨_,rfl⟩
     have hcb : c * b.getD n 0 = a.getD l 0 := by rw [hc]; exact Rat.div_mul_cancel hb.1
     obtain ⟨m,hm⟩ : ∃ m : List Rat,m = List.replicate (l - n) 0 ++ [c] := ⟨_,rfl⟩
     have hsh : ∀ (i : Nat) (k : Nat),(Zh (List.replicate i 0 ++ [c]) b).getD k 0 = if i ≤ k then c * b.getD (k - i) 0 else 0 := fun i => by
       induction i with
       | zero => intro k; simp only [List.replicate_zero,List.nil_append,Zh]; rw [Xi,Jg]; cases k <;> simp <;> grind
       |
        succ i ih =>
        intro k
        simp only [List.replicate_succ,List.cons_append,Zh]
        rw [Xi,Jg]
        cases k with
        | zero => rw [List.getD_cons_zero,if_neg (by omega)]; grind
        |
         succ k =>
         rw [List.getD_cons_succ,ih k]
         by_cases h : i ≤ k
         · rw [if_pos h,if_pos (by omega),Nat.add_sub_add_right]; grind
         · rw [if_neg h,if_neg (by omega)]; grind
     obtain ⟨q,r,h1,h2⟩ := Qsv hb l (Jj a (Wv (-1) (Zh m b))) fun k hk => by
       rw [Xi,Jg,hm,hsh,if_pos (by omega)]
       rcases Nat.lt_or_eq_of_le hk with e | e
       · rw [ha k (by omega),hb.2 _ (by omega)]; grind
       · subst e; rw [show l - (l - n) = n by omega,hcb]; grind
     refine ⟨Jj q m,r,fun t => ?_,h2⟩
     have := h1 t
     rw [Ze,Q5,Qk] at this
     rw [Ze]; grind
theorem Qiw : ∀ (n : Nat) (a b : List Rat),(∀ k,n ≤ k → b.getD k 0 = 0) → ∃ g U V,Rj g a ∧ Rj g b ∧ ∀ t,ev g t = ev U t * ev a t + ev V t * ev b t
  |
   0,a,b,h => by
   have h0 := Wz fun k => h k (Nat.zero_le _)
   exact ⟨a,[1],[],dvd_refl a,⟨[],fun t => by rw [h0]; simp only [ev]; grind⟩,fun t => by rw [Xx]; simp only [ev]; grind⟩
  |
   n + 1,a,b,h => by
   rcases Classical.em (b.getD n 0 = 0) with e | e
   · exact Qiw n a b fun k hk => by
       rcases Nat.lt_or_eq_of_le hk with e' | e'
       · exact h k (by omega)
       · rw [← e']; exact e
   · obtain ⟨q,r,h1,h2⟩ := Qsv (b := b) (n := n) ⟨e,fun k hk => h k (by omega)⟩ a.length a fun k hk => by rw [List.getD_eq_getElem?_getD,List.getElem?_eq_none hk]; rfl
     obtain ⟨g,U,V,⟨u,hu⟩,⟨v,hv⟩,hg⟩ := Qiw n b r h2
     refine ⟨g,V,Jj U (Wv (-1) (Zh V q)),⟨Jj (Zh q u) v,fun t => ?_⟩,⟨u,hu⟩,fun t => ?_⟩
     · rw [h1,hv,Ze,Qk,hu]; grind
     · rw [hg,Ze,Q5,Qk,h1]; grind
theorem Qtn (a b : List Rat) : ∃ g U V,Rj g a ∧ Rj g b ∧ ∀ t,ev g t = ev U t * ev a t + ev V t * ev b t :=
  Qiw b.length a b fun k hk => by rw [List.getD_eq_getElem?_getD,List.getElem?_eq_none hk]; rfl
def Cop (a b : List Rat) : Prop := ∃ U V,∀ t,ev U t * ev a t + ev V t * ev b t = 1
theorem Qco {c d e : List Rat} (h : Cop c d) (h1 : ∃ u,∀ t,ev d t * ev e t = ev c t * ev u t) : Rj c e := by
  obtain ⟨U,V,h⟩ := h
  obtain ⟨u,hu⟩ := h1
  refine ⟨Jj (Zh U e) (Zh V u),fun t => ?_⟩
  rw [Ze,Qk,Qk]
  have a1 := h t
  have a2 := hu t
  have : ev e t = (ev U t * ev c t + ev V t * ev d t) * ev e t := by rw [a1]; grind
  rw [this]
  have : (ev U t * ev c t + ev V t * ev d t) * ev e t = ev U t * ev c t * ev e t + ev V t * (ev d t * ev e t) := by grind
  rw [this,a2]; grind
def I7 (d : List Rat) : Nat → List Rat
  | 0 => [1]
  | k + 1 => Zh d (I7 d k)
theorem Qju (d : List Rat) (t : Rat) : ∀ k : Nat,ev d t * dv (I7 d k) t = (k : Rat) * (dv d t * ev (I7 d k) t)
  | 0 => by simp only [I7,dv,ev]; rw [show ((0 : Nat) : Rat) = 0 from rfl]; grind
  |
   k + 1 => by
   have ih := Qju d t k
   have hn' : (((k + 1 : Nat) : Rat)) = (k : Rat) + 1 := by push_cast; rfl
   simp only [I7]
   rw [Qct,Qk,hn']; grind
theorem Qvk {d : List Rat} {m : Nat} (h : HD d m) : ∀ k,HD (I7 d k) (k * m)
  | 0 => by rw [Nat.zero_mul]; exact ⟨by simp [I7],fun k hk => by simp only [I7]; rw [List.getD_eq_getElem?_getD,List.getElem?_eq_none (by simp; omega)]; rfl⟩
  | k + 1 => by rw [Nat.succ_mul,Nat.add_comm (k * m) m]; exact Ih h (Qvk h k)
theorem Qbk {d g : List Rat} {m n : Nat} (hd : HD d m) (hg : HD g n) (h : ∀ k,Rj (I7 d k) g) : m = 0 := by
  obtain ⟨u,hu⟩ := h (n + 1)
  rcases Ig u with h1 | ⟨j,_,h1⟩
  · exact absurd (fun t => by rw [hu,h1]; grind) (Ql9 hg)
  · have := Q2g (Q2f (fun t => by rw [hu,Qk]) hg) (Ih (Qvk hd (n + 1)) h1)
    rcases Nat.eq_zero_or_pos m with e | e
    · exact e
    · have : (n + 1) * 1 ≤ (n + 1) * m := Nat.mul_le_mul_left _ e
      omega
theorem sqf {a g q d U V : List Rat} {k : Rat} (hk : k ≠ 0) (ha : ∀ t,ev a t = ev g t * ev q t) (hg : ∀ t,k * ev g t = ev U t * ev a t + ev V t * dv a t) (h1 : Rj d q) (h2 : Rj d (Vs q)) : ∀ n,Rj (I7 d n) g
  | 0 => ⟨g,fun t => by simp only [I7]; rw [Xx]; grind⟩
  |
   n + 1 => by
   obtain ⟨g1,e1⟩ := sqf hk ha hg h1 h2 n
   obtain ⟨q1,e2⟩ := h1
   obtain ⟨q2,e3⟩ := h2
   have d1 := fun t => Hs ha t
   have d2 := fun t => Hs e1 t
   have d3 := fun t => Hs e2 t
   have d4 := Qju d
   refine ⟨Wv (1 / k) (Jj (Zh U (Zh g1 q1)) (Zh V (Jj (Zh g1 q2) (Jj (Wv n (Zh g1 (Jj q2 (Wv (-1) (Vs q1))))) (Zh (Vs g1) q1))))),fun t => ?_⟩
   have hkk : 1 / k * k = 1 := Rat.div_mul_cancel hk
   simp only [I7,Q5,Ze,Qk,X9]
   have b1 := ha t; have b2 := hg t; have b3 := e1 t; have b4 := e2 t; have b5 := e3 t
   have b6 := d1 t; have b7 := d2 t; have b8 := d3 t; have b9 := d4 t n
   rw [X9] at b5
   generalize ev d t = x0 at *
   generalize ev (I7 d n) t = x1 at *
   generalize ev g t = x2 at *
   generalize ev q t = x3 at *
   generalize ev a t = x4 at *
   generalize dv a t = x5 at *
   generalize dv g t = x6 at *
   generalize dv q t = x7 at *
   generalize ev g1 t = x8 at *
   generalize dv g1 t = x9 at *
   generalize ev q1 t = y0 at *
   generalize dv q1 t = y1 at *
   generalize ev q2 t = y2 at *
   generalize dv d t = y3 at *
   generalize dv (I7 d n) t = y4 at *
   generalize ev U t = y5 at *
   generalize ev V t = y6 at *
   generalize (n : Rat) = y7 at *
   have : x2 = 1 / k * (k * x2) := by grind
   rw [this,b2]
   have c1 : x5 = x0 * x1 * (x8 * y2 + (y7 * (x8 * (y2 + -1 * y1)) + x9 * y0)) := by
     rw [b6,b7,b4,b3]
     have : y3 * y0 = x0 * y2 - x0 * y1 := by grind
     have : x0 * y4 * (x8 * y0) = y7 * (x1 * x8 * (x0 * y2 - x0 * y1)) := by rw [b9,← this]; grind
     grind
   have c2 : x4 = x0 * x1 * (x8 * y0) := by rw [b1,b3,b4]; grind
   rw [c1,c2]; grind
end Orq

namespace Orq
theorem Qyz {a b c : List Rat} (h1 : Cop a b) (h2 : Cop a c) {d : List Rat} (hd : ∀ t,ev d t = ev b t * ev c t) : Cop a d := by
  obtain ⟨U,V,h1⟩ := h1
  obtain ⟨X,Y,h2⟩ := h2
  refine ⟨Jj U (Zh (Zh V b) X),Zh V Y,fun t => ?_⟩
  have a1 := h1 t
  have a2 := h2 t
  simp only [Ze,Qk,hd]
  have : ev V t * ev b t * (ev X t * ev a t + ev Y t * ev c t) = ev V t * ev b t := by rw [a2]; grind
  grind
theorem Q06 {a g q z r X Y : List Rat} {n : Nat} (ha : ∀ t,ev a t = ev g t * ev q t) (hz : ∀ t,dv a t = ev g t * ev z t) (hg : HD g n) (hr : ∀ t,ev X t * ev r t + ev Y t * dv r t = 1) (h : Rj r a) : Rj r q := by
  obtain ⟨b,hb⟩ := h
  obtain ⟨e,U,V,⟨r1,e1⟩,⟨q3,e2⟩,e3⟩ := Qtn r q
  have hr0 : ¬ ∀ t,ev r t = 0 := fun h => by
    have h1 := hr 0
    have h2 : dv r 0 = 0 := by have := Qs0 (p := r) (q := []) h 0; rw [this]; rfl
    rw [h,h2] at h1; grind
  have he0 : ¬ ∀ t,ev e t = 0 := fun h => hr0 fun t => by rw [e1,h]; grind
  have d1 := fun t => Hs e1 t
  -- r1 has nothing in common with q3,with e,with its derivative
  have c1 : Cop r1 q3 := ⟨U,V,fun t => by
    have := Qij (p := e) (q := Jj (Zh U r1) (Zh V q3)) (r := [1]) he0 (fun t => by
      rw [Ze,Qk,Qk,Xx]
      have a1 := e1 t; have a2 := e2 t; have a3 := e3 t
      rw [a1,a2] at a3; grind) t
    rw [Ze,Qk,Qk,Xx] at this; exact this⟩
  have c2 : Cop r1 e := ⟨Jj (Zh X e) (Zh Y (Vs e)),Zh Y (Vs r1),fun t => by
    have a1 := hr t; have a2 := e1 t; have a3 := d1 t
    simp only [Ze,Qk,X9]
    rw [a2,a3] at a1; grind⟩
  have c3 : Cop r1 (Vs r1) := ⟨Jj (Zh X e) (Zh Y (Vs e)),Zh Y e,fun t => by
    have a1 := hr t; have a2 := e1 t; have a3 := d1 t
    simp only [Ze,Qk,X9]
    rw [a2,a3] at a1; grind⟩
  have c4 : Cop r1 q := Qyz c2 c1 e2
  have hgz := Ql9 hg
  -- so all its powers divide g
  have hp : ∀ k,Rj (I7 r1 k) g := fun k => by
    induction k with
    | zero => exact ⟨g,fun t => by simp only [I7]; rw [Xx]; grind⟩
    |
     succ k ih =>
     obtain ⟨h,eh⟩ := ih
     have hpz : ¬ ∀ t,ev (I7 r1 k) t = 0 := fun h0 => hgz fun t => by rw [eh,h0]; grind
     have key : Rj r1 h := by
       cases k with
       |
        zero =>
        refine Qco c4 ⟨Zh e b,fun t => ?_⟩
        have a1 := ha t; have a2 := hb t; have a3 := e1 t; have a4 := eh t
        simp only [I7] at a4
        rw [Xx] at a4
        rw [Qk]; grind
       |
        succ k =>
        have hn : ((k + 1 : Nat) : Rat) ≠ 0 := by
          have : (0 : Rat) < ((k + 1 : Nat) : Rat) := by
            have h1 : ((0 : Nat) : Rat) < ((k + 1 : Nat) : Rat) := Rat.natCast_lt_natCast.2 (by omega)
            simpa using h1
          grind
        -- k r1' h q = r1 (..)
        have d2 := fun t => Hs (f := a) (w := I7 r1 (k + 1)) (u := Zh h q) (fun t => by rw [ha,eh,Qk]; grind) t
        have d4 := Qju r1
        have h3 := Qij (p := I7 r1 (k + 1)) (q := Zh (Vs r1) (Zh h q)) (r := Zh r1 (Wv (1 / ((k + 1 : Nat) : Rat)) (Jj (Zh h z) (Wv (-1) (Vs (Zh h q)))))) hpz fun t => by
          simp only [Qk,Q5,Ze,X9]
          have a1 := d2 t; have a2 := d4 t (k + 1); have a3 := hz t; have a4 := eh t
          rw [Qk] at a1
          generalize ((k + 1 : Nat) : Rat) = c at *
          have hc : 1 / c * c = 1 := Rat.div_mul_cancel hn
          generalize ev (I7 r1 (k + 1)) t = x0 at *
          generalize dv (I7 r1 (k + 1)) t = x1 at *
          generalize dv (Zh h q) t = x2 at *
          generalize ev r1 t = x3 at *
          generalize dv r1 t = x4 at *
          generalize ev h t = x5 at *
          generalize ev q t = x6 at *
          generalize ev z t = x7 at *
          generalize dv a t = x8 at *
          generalize ev g t = x9 at *
          generalize 1 / c = c' at *
          have s1 : x0 * (x4 * (x5 * x6)) = c' * (c * (x4 * x0)) * (x5 * x6) := by
            have : c' * (c * (x4 * x0)) = (c' * c) * (x4 * x0) := by grind
            rw [this,hc]; grind
          rw [s1,← a2]
          have s2 : x3 * (x1 * (x5 * x6)) = x3 * (x0 * (x5 * x7 + -1 * x2)) := by
            rw [a3,a4] at a1; grind
          grind
        refine Qco c4 ?_
        obtain ⟨u,hu⟩ := Qco (e := Zh q h) c3 ⟨Wv (1 / ((k + 1 : Nat) : Rat)) (Jj (Zh h z) (Wv (-1) (Vs (Zh h q)))),fun t => by
          have := h3 t
          simp only [Qk] at this ⊢
          rw [← this]; grind⟩
        exact ⟨u,fun t => by rw [← hu,Qk]⟩
     obtain ⟨u,hu⟩ := key
     exact ⟨u,fun t => by simp only [I7]; rw [Qk,eh,hu]; grind⟩
  rcases Ig r1 with h1 | ⟨m,_,h1⟩
  · exact absurd (fun t => by rw [e1,h1]; grind) hr0
  · obtain rfl := Qbk h1 hg hp
    -- r1 is a number
    have h2 : ∀ t,ev r1 t = r1.getD 0 0 := fun t => by
      cases r1 with
      | nil => simp [ev]
      |
       cons c l =>
       have : ∀ t,ev l t = 0 := Wz fun k => by have := h1.2 (k + 1) (by omega); rwa [List.getD_cons_succ] at this
       simp only [ev,this,List.getD_cons_zero]; grind
    have h3 := h1.1
    refine ⟨Wv (1 / r1.getD 0 0) q3,fun t => ?_⟩
    rw [e2,e1,h2,Q5]
    have : 1 / r1.getD 0 0 * r1.getD 0 0 = 1 := Rat.div_mul_cancel h3
    have : ev e t * r1.getD 0 0 * (1 / r1.getD 0 0 * ev q3 t) = ev e t * ev q3 t * (1 / r1.getD 0 0 * r1.getD 0 0) := by grind
    rw [this,Rat.div_mul_cancel h3]; grind
def Gy : List (List Rat) → List Rat
  | [] => [1]
  | w :: l => Zh w (Gy l)
def Lay : List (List Rat) → List (List Rat) → Prop
  | [],[] => True
  | [w],[f] => ∀ t,ev w t = ev f t
  | w :: v :: l,f :: fs => (∀ t,ev w t = ev f t * ev v t) ∧ Lay (v :: l) fs
  | _,_ => False
def Lw : List (List Rat) → List Rat
  | [] => [1]
  | [f] => f
  | f :: _ :: l => Zh f (Lw l)
theorem Qmh : ∀ {ws fs : List (List Rat)},Lay ws fs → ∃ S,∀ t,ev (Gy ws) t = ev (Lw fs) t * (ev S t * ev S t)
  | [],[],_ => ⟨[1],fun t => by simp only [Gy,Lw]; rw [Xx]; grind⟩
  | [w],[f],h => ⟨[1],fun t => by simp only [Gy,Lw]; rw [Qk,Xx,h t]; grind⟩
  |
   [w,v],[f,f2],h => ⟨v,fun t => by
   have h1 := h.1 t
   have h2 : ev v t = ev f2 t := h.2 t
   simp only [Gy,Lw,Qk]; rw [Xx,h1]; grind⟩
  |
   w :: v :: x :: l,f :: f2 :: fs,h => by
   obtain ⟨S,hS⟩ := Qmh h.2.2
   refine ⟨Zh v S,fun t => ?_⟩
   have h1 := h.1 t
   have h2 := hS t
   have e1 : ev (Gy (w :: v :: x :: l)) t = ev w t * (ev v t * ev (Gy (x :: l)) t) := by simp only [Gy,Qk]
   rw [e1,h2,h1]
   have e2 : ev (Lw (f :: f2 :: fs)) t = ev f t * ev (Lw fs) t := by
     cases fs with
     | nil => cases l <;> exact False.elim h.2.2
     | cons y l => simp only [Lw,Qk]
   rw [e2,Qk]; grind
  | [w],[],h => h.elim
  | [w],_ :: _ :: _,h => h.elim
  | [],_ :: _,h => h.elim
  | [w,v],[f],h => h.2.elim
  | [w,v],_ :: _ :: _ :: _,h => h.2.elim
  | w :: v :: x :: l,[f],h => h.2.elim
  | w :: v :: l,[],h => h.elim
end Orq

namespace Orq
open Orr Go
theorem Qje (p : List Int) (t : Rat) : Qi p t = ((p.getD 0 0 : Int) : Rat) + t * Qi p.tail t := by
  cases p with
  | nil => show (0 : Rat) = ((0 : Int) : Rat) + t * 0; grind
  | cons a p => rfl
theorem Cz (p : List Int) (k : Nat) : p.tail.getD k 0 = p.getD (k + 1) 0 := by
  cases p <;> simp
theorem Kg (c d : Int) (t : Rat) : ∀ (n : Nat) (p q r : List Int),p.length ≤ n → q.length ≤ n → r.length ≤ n → (∀ k,r.getD k 0 = c * p.getD k 0 + d * q.getD k 0) → Qi r t = (c : Rat) * Qi p t + (d : Rat) * Qi q t
  |
   0,p,q,r,hp,hq,hr,_ => by
   rw [List.eq_nil_of_length_eq_zero (Nat.le_zero.1 hp),List.eq_nil_of_length_eq_zero (Nat.le_zero.1 hq),List.eq_nil_of_length_eq_zero (Nat.le_zero.1 hr)]
   show (0 : Rat) = _ * 0 + _ * 0
   grind
  |
   n + 1,p,q,r,hp,hq,hr,h => by
   have ih := Kg c d t n p.tail q.tail r.tail (by rw [List.length_tail]; omega) (by rw [List.length_tail]; omega) (by rw [List.length_tail]; omega) fun k => by
     rw [Cz,Cz,Cz]; exact h (k + 1)
   rw [Qje p,Qje q,Qje r,ih,h 0]
   push_cast
   grind
theorem Qm3 {p q : List Int} (h : ∀ k,p.getD k 0 = q.getD k 0) (t : Rat) : Qi p t = Qi q t := by
  have := Kg 1 0 t (max p.length q.length) q q p (Nat.le_max_right ..) (Nat.le_max_right ..) (Nat.le_max_left ..) fun k => by rw [h k]; omega
  rw [this]
  push_cast
  grind
theorem G0 (p : List Int) (t : Rat) : Qi (trim p) t = Qi p t := Qm3 (Uv p) t
theorem Vm {p : List Int} {k : Nat} (h : p.length ≤ k) : p.getD k 0 = 0 := by
  rw [List.getD_eq_getElem?_getD,List.getElem?_eq_none h]; rfl
theorem Qbg (p q : List Int) (k : Nat) : (Pk p q).getD k 0 = p.getD k 0 + q.getD k 0 := by
  unfold Pk
  rw [J3]
  split
  · rfl
  · rename_i h; rw [Vm (p := p) (by omega),Vm (p := q) (by omega)]; rfl
theorem G9 (p q : List Int) (k : Nat) : (Vr p q).getD k 0 = p.getD k 0 - q.getD k 0 := by
  unfold Vr
  rw [J3]
  split
  · rfl
  · rename_i h; rw [Vm (p := p) (by omega),Vm (p := q) (by omega)]; rfl
theorem Yl (p : List Int) (c : Int) (k : Nat) : (Qu p c).getD k 0 = p.getD k 0 * c := by
  unfold Qu
  rw [J3]
  split
  · rfl
  · rename_i h; rw [Vm (p := p) (by omega),Int.zero_mul]
theorem Qpo (p : List Int) (k : Nat) : (Yx p).getD k 0 = -(p.getD k 0) := by
  unfold Yx
  rw [J3]
  split
  · rfl
  · rename_i h; rw [Vm (p := p) (by omega)]; rfl
theorem Wb (p : List Int) (k : Nat) : (Zk p).getD k 0 = p.getD (k + 1) 0 * ((k + 1 : Nat) : Int) := by
  unfold Zk
  rw [J3]
  split
  · rfl
  · rename_i h; rw [Vm (p := p) (by omega),Int.zero_mul]
theorem Quy (p q : List Int) (t : Rat) : Qi (Pk p q) t = Qi p t + Qi q t := by
  have := Kg 1 1 t (max (max p.length q.length) (Pk p q).length) p q (Pk p q) (by omega) (by omega) (by omega) fun k => by rw [Qbg]; omega
  rw [this]; push_cast; grind
theorem Gz (p q : List Int) (t : Rat) : Qi (Vr p q) t = Qi p t - Qi q t := by
  have := Kg 1 (-1) t (max (max p.length q.length) (Vr p q).length) p q (Vr p q) (by omega) (by omega) (by omega) fun k => by rw [G9]; omega
  rw [this]; push_cast; grind
theorem Nt (p : List Int) (t : Rat) : Qi (Yx p) t = -Qi p t := by
  have := Kg (-1) 0 t (max p.length (Yx p).length) p p (Yx p) (by omega) (by omega) (by omega) fun k => by rw [Qpo]; omega
  rw [this]; push_cast; grind
theorem Yj (p : List Int) (c : Int) (t : Rat) : Qi (Qu p c) t = Qi p t * (c : Rat) := by
  have := Kg c 0 t (max p.length (Qu p c).length) p p (Qu p c) (by omega) (by omega) (by omega) fun k => by rw [Yl,Int.mul_comm]; omega
  rw [this]; push_cast; grind
theorem Qdn : ∀ (l : List Int) (j : Nat) (v : Int) (t : Rat),j < l.length → Qi (l.set j v) t = Qi l t + ((v : Rat) - ((l.getD j 0 : Int) : Rat)) * t ^ j
  | [],_,_,_,h => by simp at h
  |
   a :: l,0,v,t,_ => by
   show (v : Rat) + t * Qi l t = (a : Rat) + t * Qi l t + ((v : Rat) - (a : Rat)) * t ^ 0
   rw [Rat.pow_zero]; grind
  |
   a :: l,j + 1,v,t,h => by
   have ih := Qdn l j v t (by simpa using h)
   show (a : Rat) + t * Qi (l.set j v) t = (a : Rat) + t * Qi l t + ((v : Rat) - ((l.getD j 0 : Int) : Rat)) * t ^ (j + 1)
   rw [ih,Rat.pow_succ]; grind
theorem Iz : ∀ (l : List Int) (k : Nat) (t : Rat),k < l.length → Qi (l.take (k + 1)) t = Qi (l.take k) t + ((l.getD k 0 : Int) : Rat) * t ^ k
  | [],_,_,h => by simp at h
  |
   a :: l,0,t,_ => by
   show (a : Rat) + t * Qi (l.take 0) t = 0 + (a : Rat) * t ^ 0
   rw [Rat.pow_zero,List.take_zero]
   show (a : Rat) + t * 0 = _
   grind
  |
   a :: l,k + 1,t,h => by
   have ih := Iz l k t (by simpa using h)
   show (a : Rat) + t * Qi (l.take (k + 1)) t = (a : Rat) + t * Qi (l.take k) t + ((l.getD k 0 : Int) : Rat) * t ^ (k + 1)
   rw [ih,Rat.pow_succ]; grind
theorem Qbi (n : Nat) (t : Rat) : Qi (List.replicate n 0) t = 0 := by
  induction n with
  | zero => rfl
  |
   succ n ih =>
   show ((0 : Int) : Rat) + t * Qi (List.replicate n 0) t = 0
   rw [ih]; push_cast; grind
theorem Qg3 (t : Rat) (i : Nat) : ∀ k,t ^ (i + k) = t ^ i * t ^ k
  | 0 => by rw [Nat.add_zero,Rat.pow_zero]; grind
  | k + 1 => by rw [← Nat.add_assoc,Rat.pow_succ,Rat.pow_succ,Qg3 t i k]; grind
theorem Qgo (x : Int) (b : List Int) (i : Nat) (o : List Int) (t : Rat) : ∀ k,k ≤ b.length → i + k ≤ o.length → Qi (Gw x b i o k) t = Qi o t + (x : Rat) * t ^ i * Qi (b.take k) t
  |
   0,_,_ => by
   show Qi o t = Qi o t + (x : Rat) * t ^ i * 0
   grind
  |
   k + 1,h1,h2 => by
   have ih := Qgo x b i o t k (by omega) (by omega)
   simp only [Gw]
   rw [Qdn _ _ _ _ (by rw [Gx]; omega),ih,Iz b k t (by omega)]
   have hp : t ^ (i + k) = t ^ i * t ^ k := Qg3 t i k
   rw [hp]
   push_cast
   grind
theorem Qgn (a b o : List Int) (t : Rat) : ∀ i,i ≤ a.length → i + b.length ≤ o.length + 1 → Qi (Ke a b o i) t = Qi o t + Qi (a.take i) t * Qi b t
  |
   0,_,_ => by
   show Qi o t = Qi o t + 0 * Qi b t
   grind
  |
   i + 1,h1,h2 => by
   have ih := Qgn a b o t i (by omega) (by omega)
   simp only [Ke]
   rw [Qgo _ _ _ _ _ b.length (Nat.le_refl _) (by rw [Kf]; omega),ih,Iz a i t (by omega),List.take_length]
   grind
theorem Q4 (a b : List Int) (t : Rat) : Qi (Zl a b) t = Qi a t * Qi b t := by
  unfold Zl
  split
  · rename_i h
    rcases h with h | h
    · rw [List.eq_nil_of_length_eq_zero h]; show (0 : Rat) = 0 * _; grind
    · rw [List.eq_nil_of_length_eq_zero h]; show (0 : Rat) = _ * 0; grind
  · rename_i h
    rw [G0,Qgn a b _ t a.length (Nat.le_refl _) (by rw [List.length_replicate]; omega),Qbi,List.take_length]
    grind
theorem Xb (z d : Int) : (z : Rat) / (d : Rat) = Rat.divInt z d := by
  by_cases h : d = 0
  · subst h; simp; grind
  · rw [Rat.div_def]; exact (Rat.divInt_eq_div z d ▸ by rw [Rat.div_def])
theorem Qnw (a : List Int) (n d : Int) (hd : (d : Rat) ≠ 0) : ∀ k,k ≤ a.length → (((Y0 a n d k).2 : Int) : Rat) = (d : Rat) ^ k ∧ (((Y0 a n d k).1 : Int) : Rat) * d = (d : Rat) ^ k * Qi (a.drop (a.length - k)) ((n : Rat) / d)
  |
   0,_ => by
   refine ⟨by rw [Rat.pow_zero]; rfl,?_⟩
   rw [Nat.sub_zero,List.drop_length]
   show ((0 : Int) : Rat) * d = (d : Rat) ^ 0 * 0
   push_cast; grind
  |
   k + 1,hk => by
   obtain ⟨h1,h2⟩ := Qnw a n d hd k (by omega)
   have hi : a.length - 1 - k < a.length := by omega
   have e1 : a.drop (a.length - (k + 1)) = a.getD (a.length - 1 - k) 0 :: a.drop (a.length - k) := by
     rw [show a.length - (k + 1) = a.length - 1 - k by omega,List.drop_eq_getElem_cons hi,show a.length - 1 - k + 1 = a.length - k by omega]
     congr 1
     rw [List.getD_eq_getElem?_getD,List.getElem?_eq_getElem hi]; rfl
   refine ⟨?_,?_⟩
   · show (((Y0 a n d k).2 * d : Int) : Rat) = _
     rw [Rat.intCast_mul,h1,Rat.pow_succ]
   · rw [e1]
     show (((Y0 a n d k).1 * n + a.getD (a.length - 1 - k) 0 * (Y0 a n d k).2 : Int) : Rat) * d = _ * (((a.getD (a.length - 1 - k) 0 : Int) : Rat) + (n : Rat) / d * Qi (a.drop (a.length - k)) ((n : Rat) / d))
     rw [Rat.intCast_add,Rat.intCast_mul,Rat.intCast_mul,h1,Rat.pow_succ]
     have h3 : (n : Rat) / d * d = n := by rw [Rat.div_mul_cancel hd]
     have h4 : (d : Rat) ^ k * d * ((n : Rat) / d * Qi (a.drop (a.length - k)) ((n : Rat) / d)) = ((n : Rat) / d * d) * ((d : Rat) ^ k * Qi (a.drop (a.length - k)) ((n : Rat) / d)) := by grind
     have h5 : (d : Rat) ^ k * d * (((a.getD (a.length - 1 - k) 0 : Int) : Rat) + (n : Rat) / d * Qi (a.drop (a.length - k)) ((n : Rat) / d)) = (d : Rat) ^ k * d * ((a.getD (a.length - 1 - k) 0 : Int) : Rat) + (d : Rat) ^ k * d * ((n : Rat) / d * Qi (a.drop (a.length - k)) ((n : Rat) / d)) := by grind
     rw [h5,h4,h3,← h2]
     grind
theorem Qm7 {d : Rat} (h : 0 < d) : ∀ k : Nat,0 < d ^ k
  | 0 => by rw [Rat.pow_zero]; decide
  | k + 1 => by rw [Rat.pow_succ]; exact Rat.mul_pos (Qm7 h k) h
theorem Bk {x y : Rat} (h : 0 < y) : Qq (y * x) = Qq x := by
  unfold Qq
  have h1 : y * x < 0 ↔ x < 0 := by
    constructor
    · intro h2
      rcases Rat.le_total (a := 0) (b := x) with h3 | h3
      · have := Rat.mul_nonneg (Rat.le_of_lt h) h3; grind
      · rcases Rat.le_iff_lt_or_eq.1 h3 with h4 | h4
        · exact h4
        · rw [h4] at h2; grind
    · intro h2
      have := Rat.mul_pos h (show 0 < -x by grind)
      grind
  have h2 : 0 < y * x ↔ 0 < x := by
    constructor
    · intro h2
      rcases Rat.le_total (a := x) (b := 0) with h3 | h3
      · have := Rat.mul_nonneg (Rat.le_of_lt h) (show 0 ≤ -x by grind); grind
      · rcases Rat.le_iff_lt_or_eq.1 h3 with h4 | h4
        · exact h4
        · rw [← h4] at h2; grind
    · intro h2; exact Rat.mul_pos h h2
  simp only [h1,h2]
theorem Qsl (z : Int) : V5 z 0 = Qq (z : Rat) := by
  unfold V5 Qq
  have h1 : ((z : Int) : Rat) < 0 ↔ z < 0 := by
    have := @Rat.intCast_lt_intCast z 0; simpa using this
  have h2 : 0 < ((z : Int) : Rat) ↔ 0 < z := by
    have := @Rat.intCast_lt_intCast 0 z; simpa using this
  simp only [h1,h2]
theorem Ki (p : List Int) (q : Rat) : Zv p q = Qq (Qi p q) := by
  have hd0 : (0 : Rat) < ((q.den : Int) : Rat) := by
    have := @Rat.intCast_lt_intCast 0 (q.den : Int)
    rw [show ((0 : Int) : Rat) = 0 from rfl] at this
    exact this.2 (den_pos q)
  have hd : ((q.den : Int) : Rat) ≠ 0 := by intro h; rw [h] at hd0; exact absurd hd0 (by decide)
  obtain ⟨_,h⟩ := Qnw p q.num q.den hd p.length (Nat.le_refl _)
  rw [Nat.sub_self,List.drop_zero,Xb,Rat.num_divInt_den] at h
  unfold Zv
  rw [Qsl,← Bk hd0,Rat.mul_comm]
  show Qq ((((Y0 p q.num q.den p.length).1 : Int) : Rat) * _) = _
  rw [h,Bk (Qm7 hd0 _)]
end Orq

namespace Orq
open Orr Go
def cz (p : List Int) : List Rat := p.map fun z : Int => (z : Rat)
theorem Qg (t : Rat) : ∀ p,ev (cz p) t = Qi p t
  | [] => rfl
  | a :: p => by have := Qg t p; simp only [cz,List.map_cons,ev,Qi] at *; rw [this]
theorem Yv : ∀ (p : List Int) (k : Nat),(cz p).getD k 0 = ((p.getD k 0 : Int) : Rat)
  | [],k => by simp [cz]
  | a :: p,0 => by simp [cz]
  | a :: p,k + 1 => by have := Yv p k; simp only [cz,List.map_cons,List.getD_cons_succ] at *; exact this
theorem W3 {p q : List Int} (h : ∀ t,Qi p t = Qi q t) (k : Nat) : p.getD k 0 = q.getD k 0 := by
  have := Wo (p := cz p) (q := cz q) (fun t => by rw [Qg,Qg,h]) k
  rw [Yv,Yv] at this
  exact_mod_cast this
theorem Q1c {p q : List Int} (hp : Qj p) (hq : Qj q) (h : ∀ k,p.getD k 0 = q.getD k 0) : p = q := by
  have key : ∀ {p q : List Int},Qj p → Qj q → (∀ k,p.getD k 0 = q.getD k 0) → p.length ≤ q.length := fun {p q} hp hq h => by
    rcases Nat.lt_or_ge q.length p.length with e | e
    · have := Xw hp (by omega)
      rw [h,List.getD_eq_getElem?_getD,List.getElem?_eq_none (by omega)] at this
      exact absurd rfl this
    · exact e
  exact A4 (Nat.le_antisymm (key hp hq h) (key hq hp fun k => (h k).symm)) fun j _ => h j
theorem Qm4 {p q : List Int} (hp : Qj p) (hq : Qj q) (h : ∀ t,Qi p t = Qi q t) : p = q := Q1c hp hq (W3 h)
theorem Qz7 {p : List Int} (hp : Qj p) (h : ∀ t,Qi p t = 0) : p = [] := Qm4 hp rfl fun t => by rw [h]; rfl
theorem Wq {p : List Int} (h : p.length = 0) (t : Rat) : Qi p t = 0 := by rw [List.eq_nil_of_length_eq_zero h]; rfl
theorem Qm2 : ∀ (p r : List Int) (t : Rat),(∀ k,r.getD k 0 = p.getD (k + 1) 0 * ((k + 1 : Nat) : Int)) → Qi r t = dv (cz p) t
  |
   [],r,t,h => by
   rw [Qm3 (q := []) (fun k => by rw [h]; simp) t]; rfl
  |
   a :: p,r,t,h => by
   have ih := Qm2 p (Zk p) t fun k => Wb p k
   have e : Qi r t = Qi p t + t * Qi (Zk p) t := by
     have := Kg 1 1 t (max (max p.length (0 :: Zk p).length) r.length) p (0 :: Zk p) r (by omega) (by omega) (by omega) fun k => by
       rw [h,List.getD_cons_succ]
       cases k with
       | zero => simp
       | succ k => rw [List.getD_cons_succ,Wb]; push_cast; grind
     rw [this]; simp only [Qi]; push_cast; grind
   rw [e,ih]
   show _ = ev (cz p) t + t * dv (cz p) t
   rw [Qg]
theorem Tt (p : List Int) (t : Rat) : Qi (Zk p) t = dv (cz p) t := Qm2 p _ t fun k => Wb p k
theorem D5 {p : List Int} (hp : Qj p) (h : 0 < p.length) : HD (cz p) (p.length - 1) := by
  refine ⟨?_,fun k hk => ?_⟩
  · rw [Yv]
    have := Xw hp h
    exact fun e => this (by exact_mod_cast e)
  · rw [Yv,List.getD_eq_getElem?_getD,List.getElem?_eq_none (by omega)]; rfl
theorem Dz {p : List Int} (hp : Qj p) (h : 0 < p.length) : ¬ ∀ t,Qi p t = 0 := fun h0 => by
  rw [Qz7 hp h0] at h; exact absurd h (by simp)
theorem Yw {a b c : List Int} (ha : Qj a) (hb : Qj b) (hc : Qj c) (h : ∀ t,Qi c t = Qi a t * Qi b t) (la : 0 < a.length) (lb : 0 < b.length) : c.length = a.length + b.length - 1 := by
  have h1 := Ih (D5 ha la) (D5 hb lb)
  have h2 : HD (cz c) (a.length - 1 + (b.length - 1)) := Q2f (fun t => by rw [Qk,Qg,Qg,Qg,h]) h1
  have lc : 0 < c.length := by
    rcases Nat.eq_zero_or_pos c.length with e | e
    · exact absurd (fun t => by rw [Qg]; exact Wq e t) (Ql9 h2)
    · exact e
  have := Q2g (D5 hc lc) h2
  omega
theorem Qgt : ∀ (n m : Nat),m ≤ n → 2 ≤ m → ∃ P,2 ≤ P ∧ P ∣ m ∧ ∀ d,2 ≤ d → d ∣ P → d = P
  | 0,m,h,h2 => by omega
  |
   n + 1,m,h,h2 => by
   rcases Classical.em (∃ d,2 ≤ d ∧ d < m ∧ d ∣ m) with ⟨d,d1,d2,d3⟩ | h0
   · obtain ⟨P,p1,p2,p3⟩ := Qgt n d (by omega) d1
     exact ⟨P,p1,Nat.dvd_trans p2 d3,p3⟩
   · refine ⟨m,h2,Nat.dvd_refl m,fun d d1 d2 => ?_⟩
     rcases Nat.lt_or_eq_of_le (Nat.le_of_dvd (by omega) d2) with e | e
     · exact absurd ⟨d,d1,e,d2⟩ h0
     · exact e
theorem Qcu {P : Nat} (h2 : 2 ≤ P) (hP : ∀ d,2 ≤ d → d ∣ P → d = P) {x y : Int} (h : (P : Int) ∣ x * y) : (P : Int) ∣ x ∨ (P : Int) ∣ y := by
  have h := Int.natAbs_dvd_natAbs.2 h
  rw [Int.natAbs_mul,Int.natAbs_natCast] at h
  have hg := Nat.gcd_dvd_left P x.natAbs
  rcases Nat.lt_or_ge (Nat.gcd P x.natAbs) 2 with e | e
  · right
    have h1 : Nat.gcd P x.natAbs = 1 := by
      have := Nat.gcd_pos_of_pos_left x.natAbs (show 0 < P by omega); omega
    have := Nat.Coprime.dvd_of_dvd_mul_left h1 h
    exact Int.natAbs_dvd_natAbs.1 (by rwa [Int.natAbs_natCast])
  · left
    have := hP _ e hg
    have h3 := Nat.gcd_dvd_right P x.natAbs
    rw [this] at h3
    exact Int.natAbs_dvd_natAbs.1 (by rwa [Int.natAbs_natCast])
def Qhq (P : Int) (l : List Int) : Prop := ∀ k,P ∣ l.getD k 0
theorem B7 {P : Nat} (h2 : 2 ≤ P) (hP : ∀ d,2 ≤ d → d ∣ P → d = P) : ∀ (n : Nat) (b h c : List Int),b.length + h.length ≤ n → (∀ t,Qi c t = Qi b t * Qi h t) → Qhq P c → Qhq P b ∨ Qhq P h
  | _,[],h,c,_,_,_ => .inl fun k => by simp
  | _,x :: b,[],c,_,_,_ => .inr fun k => by simp
  | 0,x :: b,y :: h,c,hn,_,_ => by simp at hn
  |
   n + 1,x :: b,y :: h,c,hn,hc,hd => by
   simp only [List.length_cons] at hn
   by_cases hx : (P : Int) ∣ x
   · -- x h is taken away
     have e : ∀ t,Qi (0 :: Zl b (y :: h)) t = Qi (Vr c (Qu (y :: h) x)) t := fun t => by
       rw [Gz,Yj,hc]; simp only [Qi]; rw [Q4]; simp only [Qi]; push_cast; grind
     have hd' : Qhq P (Zl b (y :: h)) := fun k => by
       have := W3 e (k + 1)
       rw [List.getD_cons_succ,G9,Yl] at this
       rw [this]
       exact Int.dvd_sub (hd (k + 1)) (Int.dvd_trans hx (Int.dvd_mul_left _ _))
     rcases B7 h2 hP n b (y :: h) _ (by simp only [List.length_cons]; omega) (fun t => Q4 _ _ t) hd' with h1 | h1
     · refine .inl fun k => ?_
       cases k with
       | zero => rw [List.getD_cons_zero]; exact hx
       | succ k => rw [List.getD_cons_succ]; exact h1 k
     · exact .inr h1
   · have h0 : (P : Int) ∣ y := by
       have e : c.getD 0 0 = x * y := by
         have := W3 (p := c) (q := Zl (x :: b) (y :: h)) (fun t => by rw [hc,Q4]) 0
         have e2 := W3 (p := Zl (x :: b) (y :: h)) (q := Pk (Qu (y :: h) x) (0 :: Zl b (y :: h))) (fun t => by
           rw [Quy,Yj,Q4]; simp only [Qi]; rw [Q4]; simp only [Qi]; push_cast; grind) 0
         rw [this,e2,Qbg,Yl,List.getD_cons_zero,List.getD_cons_zero,Int.mul_comm]; omega
       have := hd 0
       rw [e] at this
       rcases Qcu h2 hP this with h1 | h1
       · exact absurd h1 hx
       · exact h1
     have e : ∀ t,Qi (0 :: Zl (x :: b) h) t = Qi (Vr c (Qu (x :: b) y)) t := fun t => by
       rw [Gz,Yj,hc]; simp only [Qi]; rw [Q4]; simp only [Qi]; push_cast; grind
     have hd' : Qhq P (Zl (x :: b) h) := fun k => by
       have := W3 e (k + 1)
       rw [List.getD_cons_succ,G9,Yl] at this
       rw [this]
       exact Int.dvd_sub (hd (k + 1)) (Int.dvd_trans h0 (Int.dvd_mul_left _ _))
     rcases B7 h2 hP n (x :: b) h _ (by simp only [List.length_cons]; omega) (fun t => Q4 _ _ t) hd' with h1 | h1
     · exact absurd (by have := h1 0; rwa [List.getD_cons_zero] at this) hx
     · refine .inr fun k => ?_
       cases k with
       | zero => rw [List.getD_cons_zero]; exact h0
       | succ k => rw [List.getD_cons_succ]; exact h1 k
def Prm (b : List Int) : Prop := ∀ d : Int,Qhq d b → d ∣ 1
theorem Qtj {a b : List Int} (hb : Prm b) : ∀ (n : Nat) (c : Int) (h : List Int),c.natAbs ≤ n → c ≠ 0 → (∀ t,(c : Rat) * Qi a t = Qi b t * Qi h t) → ∃ h',∀ t,Qi a t = Qi b t * Qi h' t
  | 0,c,h,hn,h0,_ => absurd (by omega) h0
  |
   n + 1,c,h,hn,h0,hc => by
   rcases Nat.lt_or_ge c.natAbs 2 with h1 | h1
   · refine ⟨Qu h c,fun t => ?_⟩
     have hcc : (c : Rat) * c = 1 := by
       have : c * c = 1 := by
         rcases (show c = 1 ∨ c = -1 by omega) with rfl | rfl <;> rfl
       have := congrArg (fun z : Int => (z : Rat)) this
       push_cast at this; exact this
     rw [Yj]
     have := hc t
     have : Qi a t = (c : Rat) * ((c : Rat) * Qi a t) := by
       have : (c : Rat) * ((c : Rat) * Qi a t) = ((c : Rat) * c) * Qi a t := by grind
       rw [this,hcc]; grind
     rw [this,hc]; grind
   · obtain ⟨P,p1,p2,p3⟩ := Qgt c.natAbs c.natAbs (Nat.le_refl _) h1
     obtain ⟨d,hd⟩ : ∃ d,c = (P : Int) * d := Int.ofNat_dvd_left.2 p2
     have hall : Qhq P (Qu a c) := fun k => by
       rw [Yl,hd]; exact Int.dvd_trans (Int.dvd_mul_right _ _) (Int.dvd_mul_left _ _)
     have hP0 : (P : Rat) ≠ 0 := by
       have : ((0 : Nat) : Rat) < (P : Rat) := Rat.natCast_lt_natCast.2 (by omega)
       grind
     rcases B7 p1 p3 _ b h (Qu a c) (Nat.le_refl _) (fun t => by rw [Yj,Rat.mul_comm,hc]) hall with e | e
     · have := hb P e
       have := Int.natAbs_dvd_natAbs.2 this
       rw [Int.natAbs_natCast] at this
       have := Nat.le_of_dvd (by decide) this
       exact absurd this (by show ¬ P ≤ 1; omega)
     · refine Qtj hb n d (h.map (· / (P : Int))) ?_ (fun e0 => h0 (by rw [hd,e0,Int.mul_zero])) fun t => ?_
       · rw [hd,Int.natAbs_mul,Int.natAbs_natCast] at hn h1
         have : 2 * d.natAbs ≤ P * d.natAbs := Nat.mul_le_mul_right _ p1
         omega
       · have e1 : Qi h t = (P : Rat) * Qi (h.map (· / (P : Int))) t := by
           have := Kg P 0 t (max h.length (h.map (· / (P : Int))).length) (h.map (· / (P : Int))) [] h (by omega) (by simp) (by omega) fun k => by
             have := e k
             have e2 : (h.map (· / (P : Int))).getD k 0 = h.getD k 0 / (P : Int) := by
               rw [List.getD_eq_getElem?_getD,List.getD_eq_getElem?_getD,List.getElem?_map]
               cases h[k]? <;> simp
             rw [e2,Int.mul_ediv_cancel' this]; simp
           rw [this]; simp only [Qi]; push_cast; grind
         have := hc t
         rw [hd,e1] at this
         push_cast at this
         have h3 : (P : Rat) * ((d : Rat) * Qi a t) = (P : Rat) * (Qi b t * Qi (h.map (· / (P : Int))) t) := by grind
         have h4 := Rat.mul_eq_zero.1 (show (P : Rat) * ((d : Rat) * Qi a t - Qi b t * Qi (h.map (· / (P : Int))) t) = 0 by grind)
         rcases h4 with h4 | h4
         · exact absurd h4 hP0
         · grind
theorem Qae : ∀ u : List Rat,∃ c : Int,c ≠ 0 ∧ ∃ h : List Int,∀ t,(c : Rat) * ev u t = Qi h t
  | [] => ⟨1,by decide,[],fun t => by simp only [ev,Qi]; grind⟩
  |
   a :: u => by
   obtain ⟨c,hc,h,hh⟩ := Qae u
   refine ⟨c * (a.den : Int),Int.mul_ne_zero hc (by have := a.den_nz; omega),(c * a.num) :: Qu h (a.den : Int),fun t => ?_⟩
   have e : (a.den : Rat) * a = a.num := by
     rw [Rat.mul_comm]
     have : (a.num : Rat) / (((a.den : Int)) : Rat) = a := by rw [Xb,Rat.num_divInt_den]
     have hd : (a.den : Rat) ≠ 0 := by
       have : ((0 : Nat) : Rat) < (a.den : Rat) := Rat.natCast_lt_natCast.2 a.den_pos
       grind
     have h2 : (a.num : Rat) / (a.den : Rat) * (a.den : Rat) = a.num := Rat.div_mul_cancel hd
     rw [show (a.num : Rat) / (a.den : Rat) = a from this] at h2; exact h2
   simp only [ev,Qi]
   rw [Yj,← hh]
   push_cast
   rw [← e]
   have e3 : (((a.den : Int)) : Rat) = (a.den : Rat) := rfl
   grind
theorem Qti {a b : List Int} (hb : Prm b) (h : Rj (cz b) (cz a)) : ∃ h',Qj h' ∧ ∀ t,Qi a t = Qi b t * Qi h' t := by
  obtain ⟨u,hu⟩ := h
  obtain ⟨c,hc,h,hh⟩ := Qae u
  obtain ⟨h',e⟩ := Qtj hb c.natAbs c h (Nat.le_refl _) hc fun t => by
    have := hu t
    rw [Qg,Qg] at this
    rw [this,← hh]; grind
  exact ⟨trim h',Xk _,fun t => by rw [G0,e]⟩
end Orq

namespace Orq
open Orr Go
def sd (x0 : Rat) : List Rat → List Rat
  | [] => []
  | _ :: p => Jj p (Wv x0 (sd x0 p))
theorem Qs9 (x0 x : Rat) : ∀ p,ev (sd x0 p) x = dq p x x0
  | [] => rfl
  | a :: p => by simp only [sd,dq]; rw [Ze,Q5,Qs9 x0 x p]
theorem Qj5 (x0 : Rat) : ∀ (g : List Rat) (n : Nat),(∀ j,n < j → g.getD j 0 = 0) → ∀ j,n ≤ j → (sd x0 g).getD j 0 = 0
  | [],n,_,j,_ => by simp [sd]
  |
   a :: p,0,h,j,_ => by
   have hp : ∀ j,p.getD j 0 = 0 := fun j => by have := h (j + 1) (by omega); rwa [List.getD_cons_succ] at this
   simp only [sd]
   rw [Xi,Jg,hp,Qj5 x0 p 0 (fun j _ => hp j) j (Nat.zero_le _)]; grind
  |
   a :: p,n + 1,h,j,hj => by
   have hp : ∀ j,n < j → p.getD j 0 = 0 := fun j hj => by have := h (j + 1) (by omega); rwa [List.getD_cons_succ] at this
   simp only [sd]
   rw [Xi,Jg,hp j (by omega),Qj5 x0 p n hp j (by omega)]; grind
theorem Qiz {K : Rat} (hK : 0 ≤ K) : ∀ (e : Nat) (g : List Rat) (pts : List Int) (M : Rat),pts.length = e + 1 → pts.Nodup → (∀ x ∈ pts,Ql (x : Rat) ≤ K) → (∀ k,e < k → g.getD k 0 = 0) → (∀ x ∈ pts,Ql (ev g (x : Rat)) ≤ M) → ∀ k,Ql (g.getD k 0) ≤ (2 * K + 3) ^ e * M
  | _,_,[],_,h,_,_,_,_ => by simp at h
  |
   0,g,x0 :: xs,M,_,_,_,hg,hM => fun k => by
   have h0 := hM x0 (by simp)
   rw [Rat.pow_zero]
   cases k with
   |
    zero =>
    have e : ev g (x0 : Rat) = g.getD 0 0 := by
      cases g with
      | nil => rfl
      |
       cons a p =>
       have hp := Wz (p := p) fun j => by have := hg (j + 1) (by omega); rwa [List.getD_cons_succ] at this
       simp only [ev,hp,List.getD_cons_zero]; grind
    rw [← e]; grind
   |
    succ k =>
    rw [hg (k + 1) (by omega),Xf]
    have := Z5 (ev g (x0 : Rat)); grind
  |
   e + 1,g,x0 :: xs,M,hl,hn,hb,hg,hM => fun k => by
   have hx0 := hb x0 (by simp)
   have hM0 := hM x0 (by simp)
   have hMn : 0 ≤ M := Rat.le_trans (Z5 _) hM0
   rw [List.nodup_cons] at hn
   have ih := Qiz hK e (sd x0 g) xs (2 * M) (by simpa using hl) hn.2 (fun x hx => hb x (by simp [hx])) (fun j hj => Qj5 _ g (e + 1) hg j (by omega)) fun x hx => by
     have h1 := hM x (by simp [hx])
     have h2 := Qao (x : Rat) (x0 : Rat) g
     rw [← Qs9] at h2
     have hne : x - x0 ≠ 0 := fun h => hn.1 (by rw [show x0 = x by omega]; exact hx)
     have h3 := Md hne
     rw [Rat.intCast_sub] at h3
     have h4 : Ql (ev g (x : Rat) - ev g (x0 : Rat)) ≤ 2 * M := by
       have := Ji (ev g (x : Rat)) (-ev g (x0 : Rat))
       rw [Un,show ev g (x : Rat) + -ev g (x0 : Rat) = ev g (x : Rat) - ev g (x0 : Rat) by grind] at this
       clear hM hb hg; grind
     rw [h2,Fp] at h4
     have h5 := Rat.mul_le_mul_of_nonneg_right h3 (Z5 (ev (sd x0 g) x))
     clear hM hb hg; grind
   have e1 : ∀ t,ev g t = ev (Jj [ev g x0] (Jj (Wv (-x0) (sd x0 g)) (0 :: sd x0 g))) t := fun t => by
     have := Qao t (x0 : Rat) g
     rw [← Qs9] at this
     simp only [Ze,Q5,ev]
     grind
   have hp1 : 1 ≤ (2 * K + 3) ^ e := (S4 (R := 2 * K + 3) (x := 0) (by grind) (by rw [Xf]; grind) e).2
   have hpM := Vo (x := (2 * K + 3) ^ e) (y := M) (by grind) hMn
   have hpM1 := Rat.mul_le_mul_of_nonneg_right hp1 hMn
   rw [Rat.pow_succ,Wo e1 k,Xi,Xi,Jg]
   have a1 := ih k
   have a2 : Ql (-(x0 : Rat) * (sd (x0 : Rat) g).getD k 0) ≤ K * ((2 * K + 3) ^ e * (2 * M)) := Zp (by rw [Un]; exact hx0) a1
   have fin : ∀ u v w : Rat,Ql u ≤ M → Ql v ≤ K * ((2 * K + 3) ^ e * (2 * M)) → Ql w ≤ (2 * K + 3) ^ e * (2 * M) → Ql (u + (v + w)) ≤ (2 * K + 3) ^ e * (2 * K + 3) * M := fun u v w h1 h2 h3 => by
     have b1 := Ji u (v + w)
     have b2 := Ji v w
     clear ih e1 hM hb hg a1 a2; grind
   refine fin _ _ _ ?_ a2 ?_
   · cases k with
     | zero => rw [List.getD_cons_zero]; exact hM0
     | succ k => rw [List.getD_cons_succ,List.getD_nil,Xf]; exact hMn
   · cases k with
     | zero => rw [List.getD_cons_zero,Xf]; clear ih e1 hM hb hg a1 a2 fin; grind
     | succ k => rw [List.getD_cons_succ]; exact ih k
theorem Qvs {g : List Rat} {e : Nat} (hg : ∀ k,e < k → g.getD k 0 = 0) (hz : ¬ ∀ t,ev g t = 0) {pts : List Int} (hn : pts.Nodup) (hr : ∀ x ∈ pts,ev g (x : Rat) = 0) : pts.length ≤ e := by
  rcases Nat.lt_or_ge e pts.length with h | h
  · exfalso
    obtain ⟨K,hK,hb⟩ : ∃ K : Rat,0 ≤ K ∧ ∀ x ∈ pts,Ql (x : Rat) ≤ K := by
      clear hn hr h
      induction pts with
      | nil => exact ⟨0,by decide,fun x hx => by cases hx⟩
      |
       cons y pts ih =>
       obtain ⟨K,h1,h2⟩ := ih
       refine ⟨K + Ql (y : Rat),by have := Z5 (y : Rat); grind,fun x hx => ?_⟩
       have hy := Z5 (y : Rat)
       rcases List.mem_cons.1 hx with rfl | hx
       · grind
       · have := h2 x hx; grind
    refine hz (Wz fun k => ?_)
    have := Qiz hK e g (pts.take (e + 1)) 0 (by rw [List.length_take]; omega) (hn.sublist (List.take_sublist ..)) (fun x hx => hb x (List.mem_of_mem_take hx)) hg (fun x hx => by rw [hr x (List.mem_of_mem_take hx),Xf]; exact Rat.le_refl) k
    have h2 := Z5 (g.getD k 0)
    exact Q0h (by grind)
  · exact h
def spots : List Int := (List.range 19).map fun i : Nat => (i : Int) - 9
theorem spots_nd : spots.Nodup := by decide
theorem Qg7 : ∀ x ∈ spots,x.natAbs ≤ 9 := by decide
theorem A7 {α : Type} (p : α → Bool) : ∀ l : List α,(l.filter p).length + (l.filter fun x => !p x).length = l.length
  | [] => rfl
  |
   x :: l => by
   have := A7 p l
   cases h : p x <;> simp [h] <;> omega
def geo : Nat → Nat
  | 0 => 0
  | n + 1 => 1 + 9 * geo n
theorem Ql2 {B : Rat} : ∀ (p : List Int),(∀ z ∈ p,Ql (z : Rat) ≤ B) → evB 9 (cz p) ≤ B * (geo p.length : Nat)
  | [],_ => by simp only [cz,List.map_nil,evB,geo,List.length_nil]; rw [show ((0 : Nat) : Rat) = 0 from rfl]; grind
  |
   a :: p,h => by
   have h1 := Ql2 p fun z hz => h z (List.mem_cons_of_mem _ hz)
   have h2 := h a (List.mem_cons_self ..)
   simp only [cz,List.map_cons,evB,geo,List.length_cons] at *
   push_cast
   clear h; grind
theorem Qtq {m n : Nat} (h : m ≤ n) : geo m ≤ geo n := by
  induction h with
  | refl => exact Nat.le_refl _
  | step h ih => simp only [geo]; omega
def pz : List Int → Int → Int
  | [],_ => 0
  | a :: p,x => a + x * pz p x
theorem Me (x : Int) : ∀ p,Qi p (x : Rat) = ((pz p x : Int) : Rat)
  | [] => rfl
  | a :: p => by simp only [Qi,pz,Me x p]; push_cast; rfl
theorem Jn (z : Int) : Ql (z : Rat) = ((z.natAbs : Nat) : Rat) := by
  unfold Ql
  rcases Int.lt_or_le z 0 with h | h
  · have h1 : (z : Rat) < ((0 : Int) : Rat) := Rat.intCast_lt_intCast.2 h
    rw [if_pos (by simpa using h1)]
    have : (z.natAbs : Int) = -z := by omega
    have := congrArg (fun u : Int => (u : Rat)) this
    push_cast at this
    exact this.symm
  · have h1 : ((0 : Int) : Rat) ≤ (z : Rat) := Rat.intCast_le_intCast.2 h
    have h1 : (0 : Rat) ≤ (z : Rat) := by simpa using h1
    rw [if_neg (by grind)]
    have : (z.natAbs : Int) = z := by omega
    have := congrArg (fun u : Int => (u : Rat)) this
    exact this.symm
theorem Ta {p g h : List Int} {s : Nat} (hp : Bd s p) (hl : p.length ≤ 10) (tp : Qj p) (tg : Qj g) (th : Qj h) (h0 : p.length ≠ 0) (e : ∀ t,Qi p t = Qi g t * Qi h t) : Bd (s + 69) g := by
  have lg : 0 < g.length := by
    rcases Nat.eq_zero_or_pos g.length with e' | e'
    · exact absurd (fun t => by rw [e,Wq e']; grind) (Dz tp (by omega))
    · exact e'
  have lh : 0 < h.length := by
    rcases Nat.eq_zero_or_pos h.length with e' | e'
    · exact absurd (fun t => by rw [e,Wq e']; grind) (Dz tp (by omega))
    · exact e'
  have hlen := Yw tg th tp e lg lh
  obtain ⟨q,hq⟩ : ∃ q,q = spots.filter fun x => !decide (pz p x = 0) := ⟨_,rfl⟩
  have hr : (spots.filter fun x => decide (pz p x = 0)).length ≤ 9 := by
    refine Qvs (g := cz p) (e := 9) (fun k hk => ?_) (fun h => Dz tp (by omega) fun t => by rw [← Qg]; exact h t) (spots_nd.sublist List.filter_sublist) fun x hx => ?_
    · rw [Yv,List.getD_eq_getElem?_getD,List.getElem?_eq_none (by omega)]; rfl
    · have := (List.mem_filter.1 hx).2
      rw [Qg,Me,of_decide_eq_true this]; rfl
  have hc := A7 (fun x => decide (pz p x = 0)) spots
  rw [← hq] at hc
  have hsl : spots.length = 19 := by decide
  have hB : ∀ z ∈ p,Ql (z : Rat) ≤ ((2 ^ s : Nat) : Rat) := fun z hz => by
    rw [Jn]
    have := hp z hz
    rw [Jq] at this
    exact Rat.natCast_le_natCast.2 (Nat.le_of_lt this)
  have key := Qiz (K := 9) (by decide) 9 (cz g) (q.take 10) (((2 ^ s * 435848050 : Nat)) : Rat) (by rw [List.length_take]; omega) ((spots_nd.sublist (by rw [hq]; exact List.filter_sublist)).sublist (List.take_sublist ..)) (fun x hx => by
      have hx := List.mem_of_mem_take hx
      rw [hq] at hx
      have := Qg7 x (List.mem_filter.1 hx).1
      rw [Jn]
      exact_mod_cast Rat.natCast_le_natCast.2 this) (fun k hk => by rw [Yv,List.getD_eq_getElem?_getD,List.getElem?_eq_none (by omega)]; rfl) (fun x hx => by
      have hx := List.mem_of_mem_take hx
      rw [hq] at hx
      obtain ⟨hx1,hx2⟩ := List.mem_filter.1 hx
      have hne : pz p x ≠ 0 := by simpa using hx2
      have e1 := e (x : Rat)
      rw [Me,Me,Me] at e1
      have e2 : pz p x = pz g x * pz h x := by exact_mod_cast e1
      have hh : 1 ≤ (pz h x).natAbs := by
        rcases Nat.eq_zero_or_pos (pz h x).natAbs with e' | e'
        · exact absurd (by rw [e2,Int.natAbs_eq_zero.1 e',Int.mul_zero]) hne
        · exact e'
      have h3 : (pz g x).natAbs ≤ (pz p x).natAbs := by
        rw [e2,Int.natAbs_mul]
        exact Nat.le_mul_of_pos_right _ hh
      rw [Qg,Me,Jn]
      refine Rat.le_trans (Rat.natCast_le_natCast.2 h3) ?_
      rw [← Jn,← Me,← Qg]
      refine Rat.le_trans (D0 (R := 9) (by
        have := Qg7 x hx1
        rw [Jn]
        exact_mod_cast Rat.natCast_le_natCast.2 this) _) ?_
      refine Rat.le_trans (Ql2 p hB) ?_
      have : 2 ^ s * geo p.length ≤ 2 ^ s * 435848050 := Nat.mul_le_mul_left _ (Nat.le_trans (Qtq hl) (by decide))
      have := Rat.natCast_le_natCast.2 this
      push_cast at this ⊢
      exact this)
  refine E9 fun k => ?_
  have h1 := key k
  rw [Yv,Jn] at h1
  have e3 : (2 * (9 : Rat) + 3) ^ 9 * ((2 ^ s * 435848050 : Nat) : Rat) = (((794280046581 * (2 ^ s * 435848050)) : Nat) : Rat) := by
    rw [show (2 * (9 : Rat) + 3) ^ 9 = 794280046581 by grind]
    push_cast; rfl
  rw [e3] at h1
  have h2 := Rat.natCast_le_natCast.1 h1
  rw [Jq]
  refine Nat.lt_of_le_of_lt h2 ?_
  have : 794280046581 * (2 ^ s * 435848050) = 2 ^ s * (794280046581 * 435848050) := by
    rw [Nat.mul_left_comm]
  rw [this,Nat.pow_add]
  exact Nat.mul_lt_mul_of_pos_left (by decide) (Nat.pow_pos (by decide))
end Orq

namespace Orq
open Orr Go
theorem Qs1 {l : List Int} {d : Int} (h : ∀ z ∈ l,d ∣ z) : d ∣ ((Z4 l : Nat) : Int) := by
  have key : ∀ (l : List Int) (g : Nat),d.natAbs ∣ g → (∀ z ∈ l,d ∣ z) → d.natAbs ∣ l.foldl (fun g z => Nat.gcd g z.natAbs) g := by
    intro l
    induction l with
    | nil => exact fun g h _ => h
    | cons z l ih => exact fun g hg h => ih _ (Nat.dvd_gcd hg (Int.natAbs_dvd_natAbs.2 (h z (List.mem_cons_self ..)))) fun u hu => h u (List.mem_cons_of_mem _ hu)
  have := key l 0 (Nat.dvd_zero _) h
  exact Int.natAbs_dvd_natAbs.1 (by rw [Int.natAbs_natCast]; exact this)
theorem Nd (p : List Int) (c : Int) (k : Nat) : (p.map (· / c)).getD k 0 = p.getD k 0 / c := by
  rw [List.getD_eq_getElem?_getD,List.getD_eq_getElem?_getD,List.getElem?_map]
  cases p[k]? <;> simp
theorem Mh (p : List Int) (c : Int) (k : Nat) : (Ky p c).getD k 0 = p.getD k 0 / c := by
  unfold Ky; rw [Uv,Nd]
theorem Qbh {p : List Int} {c : Int} (h : ∀ z ∈ p,c ∣ z) (t : Rat) : Qi p t = (c : Rat) * Qi (Ky p c) t := by
  have := Kg c 0 t (max p.length (Ky p c).length) (Ky p c) [] p (by omega) (by simp) (by omega) fun k => by
    rw [Mh]
    have hd : c ∣ p.getD k 0 := by
      rw [List.getD_eq_getElem?_getD]
      cases e : p[k]? with
      | none => exact Int.dvd_zero _
      | some z => exact h z (List.mem_of_getElem? e)
    rw [Int.mul_ediv_cancel' hd]; simp
  rw [this]; simp only [Qi]; push_cast; grind
theorem P8 {c : Int} (h : c ≠ 0) : (c : Rat) ≠ 0 := fun e => h (by exact_mod_cast e)
theorem Hz {p q : List Int} {c : Rat} (tp : Qj p) (tq : Qj q) (hc : c ≠ 0) (h : ∀ t,Qi p t = c * Qi q t) : p.length = q.length := by
  have key : ∀ {p q : List Int} {c : Rat},Qj p → Qj q → c ≠ 0 → (∀ t,Qi p t = c * Qi q t) → p.length ≤ q.length := fun {p q c} tp tq hc h => by
    rcases Nat.lt_or_ge q.length p.length with e | e
    · have h1 := Xw tp (by omega)
      have := Wo (p := cz p) (q := Wv c (cz q)) (fun t => by rw [Qg,Q5,Qg,h]) (p.length - 1)
      rw [Yv,Jg,Yv,List.getD_eq_getElem?_getD (l := q),List.getElem?_eq_none (by omega)] at this
      have : ((p.getD (p.length - 1) 0 : Int) : Rat) = 0 := by rw [this]; simp
      exact absurd (by exact_mod_cast this) h1
    · exact e
  refine Nat.le_antisymm (key tp tq hc h) (key (c := 1 / c) tq tp (fun e => ?_) fun t => ?_)
  · have := Rat.div_mul_cancel (a := 1) hc; rw [e] at this; grind
  · rw [h]; have := Rat.div_mul_cancel (a := 1) hc; grind
theorem Kh {p : List Int} (tp : Qj p) (h : p.length ≠ 0) : Qj (Qn p) ∧ (Qn p).length = p.length ∧ Prm (Qn p) ∧ 0 < Qo (Qn p) ∧ (∀ s,Bd s p → Bd s (Qn p)) ∧ Zy p ≠ 0 ∧ ∀ t,Qi p t = (Zy p : Rat) * Qi (Qn p) t := by
  have h0 := Qm5 tp h
  have e : Qn p = Ky p (Zy p) := by unfold Qn; rw [if_neg h]
  have h1 := Qbh (p := p) (c := Zy p) Nu
  have hl := Hz tp (H5 p (Zy p)) (P8 h0) h1
  have hcp : 0 < Ju p := by
    have := Tr tp h
    unfold Ju at this ⊢; omega
  rw [e]
  refine ⟨H5 _ _,hl.symm,fun d hd => ?_,?_,fun s hs => Aa hs _,h0,h1⟩
  · have h2 : ∀ z ∈ p, d * Zy p ∣ z := fun z hz => by
      obtain ⟨i,hi⟩ := List.mem_iff_getElem?.1 hz
      have h3 := hd i
      rw [Mh,List.getD_eq_getElem?_getD,hi] at h3
      obtain ⟨k,hk⟩ := h3
      have h4 := Nu z hz
      refine ⟨k,?_⟩
      have : z / Zy p * Zy p = z := Int.ediv_mul_cancel h4
      rw [← this]
      rw [show z / Zy p = d * k from hk,Int.mul_right_comm]
    have h3 := Qs1 h2
    have h4 : Zy p ∣ ((Z4 p : Nat) : Int) ∧ ((Z4 p : Nat) : Int) ∣ Zy p := by
      unfold Zy Ju; split
      · exact ⟨Int.neg_dvd.2 (Int.dvd_refl _),Int.dvd_neg.2 (Int.dvd_refl _)⟩
      · exact ⟨Int.dvd_refl _,Int.dvd_refl _⟩
    obtain ⟨k,hk⟩ := Int.dvd_trans h3 h4.2
    refine ⟨k,?_⟩
    have : Zy p * (d * k) = Zy p * 1 := by rw [Int.mul_one,← Int.mul_assoc,Int.mul_comm (Zy p) d,← hk]
    exact (Int.eq_of_mul_eq_mul_left h0 this).symm
  · have h2 : Qo (Ky p (Zy p)) = Qo p / Zy p := by unfold Qo; rw [← hl,Mh]
    have h3 : Zy p ∣ Qo p := Nu _ (Iq h)
    have h5 : Qo p / Zy p * Zy p = Qo p := Int.ediv_mul_cancel h3
    rw [h2]
    have h6 := Uk tp h
    rcases Int.lt_trichotomy (Qo p / Zy p) 0 with e1 | e1 | e1
    · exfalso
      by_cases hn : Qo p < 0
      · have : Zy p = -Ju p := by unfold Zy; rw [if_pos hn]
        have : 0 < Qo p / Zy p * Zy p := Int.mul_pos_of_neg_of_neg e1 (by omega)
        omega
      · have : Zy p = Ju p := by unfold Zy; rw [if_neg hn]
        have : Qo p / Zy p * Zy p < 0 := Int.mul_neg_of_neg_of_pos e1 (by omega)
        omega
    · rw [e1] at h5; omega
    · exact e1
theorem Qu1 {r : List Int} (tr : Qj r) : ∃ c : Rat,0 < c ∧ ∀ t,Qi r t = c * Qi (Pq r) t := by
  unfold Pq
  by_cases h : r.length = 0
  · rw [if_pos h]; exact ⟨1,by decide,fun t => by rw [Wq h,Wq rfl]; grind⟩
  · rw [if_neg h]
    have h1 : 0 < Ju r := by
      have := Tr tr h
      unfold Ju at this ⊢; omega
    have h2 : ((0 : Int) : Rat) < (Ju r : Rat) := Rat.intCast_lt_intCast.2 h1
    exact ⟨Ju r,by simpa using h2,Qbh Us⟩
theorem Ts (x : Int) (t : Rat) : ∀ i,Qi (mono i x) t = (x : Rat) * t ^ i
  | 0 => by simp only [mono,List.replicate_zero,List.nil_append,Qi,Rat.pow_zero]; grind
  |
   i + 1 => by
   have ih := Ts x t i
   simp only [mono,List.replicate_succ,List.cons_append,Qi] at *
   rw [ih,Rat.pow_succ]; push_cast; grind
theorem Qmo (x : Int) (b : List Int) (i k : Nat) : (Zl (trim (mono i x)) b).getD k 0 = if i ≤ k then x * b.getD (k - i) 0 else 0 := by
  have e : ∀ t,Qi (Zl (trim (mono i x)) b) t = Qi (List.replicate i 0 ++ b.map (x * ·)) t := fun t => by
    rw [Q4,G0,Ts]
    have h2 : ∀ i,Qi (List.replicate i 0 ++ b.map (x * ·)) t = t ^ i * ((x : Rat) * Qi b t) := fun i => by
      induction i with
      |
       zero =>
       simp only [List.replicate_zero,List.nil_append,Rat.pow_zero]
       have := Kg x 0 t (max b.length (b.map (x * ·)).length) b [] (b.map (x * ·)) (by omega) (by simp) (by omega) fun k => by
         rw [List.getD_eq_getElem?_getD,List.getD_eq_getElem?_getD,List.getElem?_map]
         cases b[k]? <;> simp
       rw [this]; simp only [Qi]; push_cast; grind
      | succ i ih => simp only [List.replicate_succ,List.cons_append,Qi,ih,Rat.pow_succ]; push_cast; grind
    rw [h2]; grind
  rw [W3 e k,List.getD_eq_getElem?_getD,List.getElem?_append,List.length_replicate]
  by_cases h : i ≤ k
  · rw [if_neg (by omega),if_pos h,List.getElem?_map,List.getD_eq_getElem?_getD]
    cases b[k - i]? <;> simp
  · rw [if_pos (by omega),if_neg h,List.getElem?_replicate,if_pos (by omega)]; rfl
theorem Qt6 {p : List Int} {n : Nat} (tp : Qj p) (h : p.length ≤ n + 1) (h0 : p.getD n 0 = 0) : p.length ≤ n := by
  rcases Nat.lt_or_ge n p.length with e | e
  · have := Xw tp (by omega)
    rw [show p.length - 1 = n by omega] at this
    exact absurd h0 this
  · exact e
theorem Q09 {b r : List Int} {i : Nat} (tr : Qj r) (h : r.length ≤ b.length + i) (hb : b.length ≠ 0) {x : Int} (hx : x = if r.length = b.length + i then Qo r else 0) : (str b (Qo b) i x r).length < b.length + i := by
  have hl := Qc9 (c := Qo b) (x := x) (i := i) (b := b) (r := r)
  have := Qt6 (p := str b (Qo b) i x r) (n := b.length + i - 1) (Q8 _ _) (by omega) (by
    unfold str
    rw [G9,Yl,Qmo,if_pos (by omega),hx,show b.length + i - 1 - i = b.length - 1 by omega]
    split
    · rename_i he
      unfold Qo
      rw [he,Int.sub_eq_zero]
    · rw [List.getD_eq_getElem?_getD (l := r),List.getElem?_eq_none (by omega)]; simp)
  omega
theorem Q5b (b r : List Int) (c : Int) (i : Nat) (x : Int) (t : Rat) : (c : Rat) * Qi r t = (x : Rat) * t ^ i * Qi b t + Qi (str b c i x r) t := by
  unfold str
  rw [Gz,Yj,Q4,G0,Ts]; grind
theorem Qu6 (b : List Int) (c : Int) : ∀ (i : Nat) (q r : List Int),∃ X : List Rat,∀ t,((c ^ i : Int) : Rat) * Qi r t = ev X t * Qi b t + Qi (psd b c i (q,r)).2 t
  | 0,q,r => ⟨[],fun t => by simp only [psd,ev]; rw [Int.pow_zero]; push_cast; grind⟩
  |
   i + 1,q,r => by
   obtain ⟨x,hx⟩ : ∃ x,x = if r.length = b.length + i then Qo r else 0 := ⟨_,rfl⟩
   obtain ⟨X,hX⟩ := Qu6 b c i (stq c i x q) (str b c i x r)
   obtain ⟨m,hm⟩ : ∃ m : List Rat,∀ t,ev m t = (x : Rat) * t ^ i := ⟨cz (mono i x),fun t => by rw [Qg,Ts]⟩
   refine ⟨Jj (Wv ((c ^ i : Int) : Rat) m) X,fun t => ?_⟩
   rw [Tw hx,Ze,Q5,hm]
   have h1 := hX t
   have h2 := Q5b b r c i x t
   rw [Int.pow_succ]
   push_cast at h1 ⊢
   have : (c : Rat) ^ i * c * Qi r t = (c : Rat) ^ i * ((c : Rat) * Qi r t) := by grind
   rw [this,h2]; grind
theorem Qm9 {b : List Int} (hb : b.length ≠ 0) : ∀ (i : Nat) (q r : List Int),Qj r → r.length < b.length + i → Qj (psd b (Qo b) i (q,r)).2 ∧ (psd b (Qo b) i (q,r)).2.length < b.length
  | 0,q,r,tr,h => ⟨tr,h⟩
  |
   i + 1,q,r,tr,h => by
   rw [Tw rfl]
   exact Qm9 hb i _ _ (Q8 _ _) (Q09 tr (by omega) hb rfl)
theorem Qu5 {b : List Int} {c : Int} {t : Nat} (hb : Bd t b) (hc : Qm c ≤ t) : ∀ (i u : Nat) (q r : List Int),i ≤ 64 → Bd u r → Bd (u + i * (t + 8)) (psd b c i (q,r)).2
  | 0,u,q,r,_,h => by simpa [psd] using h
  |
   i + 1,u,q,r,hi,h => by
   rw [Tw rfl]
   have hx : Qm (if r.length = b.length + i then Qo r else 0) ≤ u := by
     split
     · exact Ve h
     · rw [Vf]; exact Nat.zero_le _
   have := Qu5 hb hc i (u + t + 8) (stq c i (if r.length = b.length + i then Qo r else 0) q) (str b c i (if r.length = b.length + i then Qo r else 0) r) (by omega) (Qhw h hb hc hx (by omega))
   exact Qd this (by rw [Nat.succ_mul]; omega)
theorem I3 {c : Int} (h : c < 0) : ∀ k : Nat,(k % 2 = 1 → c ^ k < 0) ∧ (k % 2 = 0 → 0 < c ^ k)
  | 0 => ⟨fun h => by omega,fun _ => by rw [Int.pow_zero]; decide⟩
  |
   k + 1 => by
   obtain ⟨i1,i2⟩ := I3 h k
   rw [Int.pow_succ]
   exact ⟨fun hk => Int.mul_neg_of_pos_of_neg (i2 (by omega)) h,fun hk => Int.mul_pos_of_neg_of_neg (i1 (by omega)) h⟩
theorem Ev {a b : List Int} (ta : Qj a) (tb : Qj b) (hb : b.length ≠ 0) (hl : a.length ≤ 60) : Qj (Xt a b) ∧ (Xt a b).length < b.length ∧ (∀ s, Bd s a → Bd s b → Bd (s + (a.length + 1 - b.length) * (s + 8)) (Xt a b)) ∧
    ∃ u v : Rat,0 < u ∧ 0 < v ∧ ∃ X : List Rat,∀ t,u * Qi a t = ev X t * Qi b t + v * Qi (Xt a b) t := by
  obtain ⟨k,hk⟩ : ∃ k,k = a.length + 1 - b.length := ⟨_,rfl⟩
  have h1 : Qj (Ye a b) ∧ (Ye a b).length < b.length := Qm9 hb _ _ _ ta (by omega)
  obtain ⟨X,hX⟩ := Qu6 b (Qo b) k [] a
  have hX : ∀ t,(((Qo b) ^ k : Int) : Rat) * Qi a t = ev X t * Qi b t + Qi (Ye a b) t := by unfold Ye; rw [← hk]; exact hX
  have h2 := Nz (a := a) (b := b) (r := Ye a b) (n := (Ye a b).length) (s := (Ye a b).foldl (fun m z => m + Qm z) 0) h1.1 (Nat.le_refl _) (fun z hz => by
    have key : ∀ (l : List Int) (m : Nat),m ≤ l.foldl (fun m z => m + Qm z) m ∧ ∀ z ∈ l,Qm z ≤ l.foldl (fun m z => m + Qm z) m := by
      intro l
      induction l with
      | nil => exact fun m => ⟨Nat.le_refl _,fun z hz => by cases hz⟩
      |
       cons y l ih =>
       intro m
       obtain ⟨i1,i2⟩ := ih (m + Qm y)
       refine ⟨by simp only [List.foldl_cons]; omega,fun z hz => ?_⟩
       simp only [List.foldl_cons]
       rcases List.mem_cons.1 hz with rfl | hz
       · omega
       · exact i2 z hz
    exact (key _ 0).2 z hz)
  have h3 := I2 (r := V0 a b (Ye a b)) (n := (Ye a b).length) h2.2.1 h2.2.2
  refine ⟨h3.1,by unfold Xt; omega,fun s ha hbs => ?_,?_⟩
  · have h4 := Qu5 (c := Qo b) hbs (Ve hbs) k s [] a (by omega) ha
    have h5 := Nz (a := a) (b := b) (n := (Ye a b).length) h1.1 (Nat.le_refl _) (show Bd (s + k * (s + 8)) (Ye a b) by unfold Ye; rw [← hk]; exact h4)
    rw [← hk]
    exact (I2 h5.2.1 h5.2.2).2.2
  · obtain ⟨v,vp,hv⟩ := Qu1 h2.1
    have hc := Uk tb hb
    by_cases ht : k % 2 = 1 ∧ Qo b < 0
    · have e1 : V0 a b (Ye a b) = Yx (Ye a b) := by unfold V0; rw [← hk,if_pos ht]
      have hneg : (Qo b) ^ k < 0 := (I3 ht.2 k).1 ht.1
      have h5 : (((Qo b) ^ k : Int) : Rat) < ((0 : Int) : Rat) := Rat.intCast_lt_intCast.2 hneg
      have h5 : (((Qo b) ^ k : Int) : Rat) < 0 := by simpa using h5
      refine ⟨-(((Qo b) ^ k : Int) : Rat),v,by grind,vp,Wv (-1) X,fun t => ?_⟩
      have h6 := hX t
      have h7 := hv t
      rw [e1,Nt] at h7
      show _ = _ + v * Qi (Pq (V0 a b (Ye a b))) t
      rw [e1,← h7,Q5]; grind
    · have e1 : V0 a b (Ye a b) = Ye a b := by unfold V0; rw [← hk,if_neg ht]
      have hpos : 0 < (Qo b) ^ k := by
        rcases Int.lt_or_lt_of_ne hc with h | h
        · exact (I3 h k).2 (by omega)
        · exact Int.pow_pos h
      have h5 : ((0 : Int) : Rat) < (((Qo b) ^ k : Int) : Rat) := Rat.intCast_lt_intCast.2 hpos
      refine ⟨(((Qo b) ^ k : Int) : Rat),v,by simpa using h5,vp,X,fun t => ?_⟩
      have h7 := hv t
      show _ = _ + v * Qi (Pq (V0 a b (Ye a b))) t
      rw [← h7,e1,hX]
end Orq

namespace Orq
open Orr Go
theorem Ux {p : List Int} (h1 : p.length ≤ 64) (h2 : Bd 16777216 p) : chk p = some p := by
  unfold chk
  rw [if_pos ⟨h1,List.all_eq_true.2 fun z hz => Nat.ble_eq_true_of_le (h2 z hz)⟩]
theorem Qam {a b : List Int} {g : List Rat} {c : Rat} (hc : c ≠ 0) (h : ∀ t,Qi a t = c * Qi b t) : Rj g (cz a) ↔ Rj g (cz b) := by
  constructor
  · rintro ⟨u,hu⟩
    refine ⟨Wv (1 / c) u,fun t => ?_⟩
    have h1 := hu t
    rw [Qg,h] at h1
    rw [Qg,Q5]
    have h2 : 1 / c * c = 1 := Rat.div_mul_cancel hc
    have : Qi b t = 1 / c * (c * Qi b t) := by grind
    rw [this,h1]; grind
  · rintro ⟨u,hu⟩
    refine ⟨Wv c u,fun t => ?_⟩
    have h1 := hu t
    rw [Qg] at h1
    rw [Qg,Q5,h,h1]; grind
structure Gc (g a b : List Int) : Prop where
  t : Qj g
  da : Rj (cz g) (cz a)
  db : Rj (cz g) (cz b)
  c : ∃ U V,∀ t,Qi g t = ev U t * Qi a t + ev V t * Qi b t
  n : g.length ≠ 0
theorem Gc.scale {g a b g' a' b' : List Int} {x y z : Rat} (h : Gc g a b) (hx : x ≠ 0) (hy : y ≠ 0) (hz : z ≠ 0) (tg : Qj g') (eg : ∀ t,Qi g t = x * Qi g' t) (ea : ∀ t,Qi a' t = y * Qi a t) (eb : ∀ t,Qi b' t = z * Qi b t) : Gc g' a' b' := by
  have hx1 : 1 / x * x = 1 := Rat.div_mul_cancel hx
  have hy1 : 1 / y * y = 1 := Rat.div_mul_cancel hy
  have hz1 : 1 / z * z = 1 := Rat.div_mul_cancel hz
  have hg : ∀ c,Rj (cz g) c → Rj (cz g') c := fun c ⟨u,hu⟩ => ⟨Wv x u,fun t => by rw [hu,Qg,Qg,eg,Q5]; grind⟩
  obtain ⟨U,V,hc⟩ := h.c
  refine ⟨tg,hg _ ((Qam hy ea).2 h.da),hg _ ((Qam hz eb).2 h.db),⟨Wv (1 / x * (1 / y)) U,Wv (1 / x * (1 / z)) V,fun t => ?_⟩,?_⟩
  · have h1 := hc t
    have h2 : Qi g' t = 1 / x * Qi g t := by rw [eg]; grind
    rw [h2,h1,Q5,Q5,ea,eb]
    generalize ev U t = u at *
    generalize ev V t = v at *
    grind
  · rw [← Hz h.t tg hx eg]; exact h.n
theorem Q4s : ∀ d : Nat,1 ≤ d → d + 2 ≤ 3 ^ d
  | 0,h => by omega
  | 1,_ => by decide
  | d + 2,_ => by have := Q4s (d + 1) (by omega); rw [Nat.pow_succ]; omega
theorem Qhh {k : Nat} {a b : List Int} (ta : Qj a) (tb : Qj b) (hb : b.length ≠ 0) (hl : a.length ≤ 60) (hbl : b.length ≤ 60) (hr : Bd 16777216 (Xt a b)) (ih : ∃ g,Dq k b (Xt a b) = some g ∧ Gc g b (Xt a b)) : ∃ g,Dq (k + 1) a b = some g ∧ Gc g a b := by
  obtain ⟨h1,h2,h3,u,v,up,vp,X,hX⟩ := Ev ta tb hb hl
  obtain ⟨g,e,hg⟩ := ih
  refine ⟨g,?_,?_⟩
  · simp only [Dq]
    rw [if_neg hb,Ux (by omega) hr]; exact e
  · obtain ⟨U,V,hc⟩ := hg.c
    obtain ⟨y,hy⟩ := hg.da
    obtain ⟨z,hz⟩ := hg.db
    have hu : 1 / u * u = 1 := Zr up
    have hv : 1 / v * v = 1 := Zr vp
    refine ⟨hg.t,⟨Wv (1 / u) (Jj (Zh X y) (Wv v z)),fun t => ?_⟩,hg.da,⟨Wv (u / v) V,Jj U (Wv (-1 / v) (Zh V X)),fun t => ?_⟩,hg.n⟩
    · have a1 := hX t; have a2 := hy t; have a3 := hz t
      rw [Qg,Qg] at a2 a3
      rw [Qg,Qg,Q5,Ze,Qk,Q5]
      have : Qi a t = 1 / u * (u * Qi a t) := by grind
      rw [this,a1,a2,a3]; grind
    · have a1 := hX t; have a2 := hc t
      rw [Q5,Ze,Q5,Qk,a2]
      have : Qi (Xt a b) t = 1 / v * (v * Qi (Xt a b) t) := by grind
      rw [this,show v * Qi (Xt a b) t = u * Qi a t - ev X t * Qi b t by grind,Rat.div_def,Rat.div_def,Rat.div_def]
      grind
theorem Qnt {k : Nat} {a : List Int} (ta : Qj a) (ha : a.length ≠ 0) : ∃ g,Dq (k + 1) a [] = some g ∧ Gc g a [] :=
  ⟨a,rfl,ta,dvd_refl _,⟨[],fun t => by simp only [cz,List.map_nil,ev]; grind⟩,⟨[1],[],fun t => by rw [Xx]; simp only [ev]; grind⟩,ha⟩
theorem Dr {s : Nat} : ∀ (k : Nat) (a b : List Int),Qj a → Qj b → b.length < k → b.length < a.length → a.length ≤ 60 → Bd s a → Bd s b → (s + 8) * 3 ^ (a.length - 1) ≤ 16777216 → ∃ g,Dq k a b = some g ∧ Gc g a b
  | 0,_,_,_,_,h,_,_,_,_,_ => by omega
  |
   k + 1,a,b,ta,tb,hk,hab,hl,ba,bb,hs => by
   by_cases hb : b.length = 0
   · rw [List.eq_nil_of_length_eq_zero hb]; exact Qnt ta (by omega)
   · obtain ⟨h1,h2,h3,_⟩ := Ev ta tb hb hl
     have h3 := h3 s ba bb
     obtain ⟨m,hm⟩ : ∃ m,m = a.length - b.length := ⟨_,rfl⟩
     have e1 : a.length + 1 - b.length = m + 1 := by omega
     rw [e1] at h3
     have e2 : s + (m + 1) * (s + 8) + 8 = (m + 2) * (s + 8) := by
       rw [show m + 2 = (m + 1) + 1 by omega,Nat.succ_mul (m + 1)]; omega
     have e3 : (m + 2) * (s + 8) * 3 ^ (b.length - 1) ≤ (s + 8) * 3 ^ (a.length - 1) := by
       rw [show a.length - 1 = m + (b.length - 1) by omega,Nat.pow_add,← Nat.mul_assoc,Nat.mul_comm (s + 8)]
       exact Nat.mul_le_mul_right _ (Nat.mul_le_mul_right _ (Q4s m (by omega)))
     have e4 : s + (m + 1) * (s + 8) ≤ 16777216 := by
       have : (m + 2) * (s + 8) ≤ (m + 2) * (s + 8) * 3 ^ (b.length - 1) := Nat.le_mul_of_pos_right _ (Nat.pow_pos (by decide))
       omega
     refine Qhh ta tb hb hl (by omega) (Qd h3 e4) (Dr (s := s + (m + 1) * (s + 8)) k b (Xt a b) tb h1 (by omega) h2 (by omega) (Qd bb (by omega)) h3 ?_)
     rw [e2]; omega
def Szz (n s : Nat) : Prop := n ≤ 10 ∧ 2 * (s + 8) * 3 ^ (n - 1) ≤ 16777216
theorem Qwy {n s : Nat} (hz : Szz n s) {a b : List Int} (ta : Qj a) (tb : Qj b) (la : a.length ≤ n) (lb : b.length ≤ n) (ba : Bd s a) (bb : Bd s b) (h0 : a.length ≠ 0 ∨ b.length ≠ 0) : ∃ g,Dq 66 a b = some g ∧ Gc g a b := by
  obtain ⟨hn,hz⟩ := hz
  have hp : ∀ l,l ≤ n → (s + 8) * 3 ^ (l - 1) ≤ 8388608 := fun l hl => by
    have : (s + 8) * 3 ^ (l - 1) ≤ (s + 8) * 3 ^ (n - 1) := Nat.mul_le_mul_left _ (Nat.pow_le_pow_right (by decide) (by omega))
    rw [Nat.mul_assoc] at hz; omega
  rcases Nat.lt_or_ge b.length a.length with h | h
  · exact Dr 66 a b ta tb (by omega) h (by omega) ba bb (by have := hp a.length la; omega)
  · by_cases hb : b.length = 0
    · rw [List.eq_nil_of_length_eq_zero hb]; exact Qnt ta (by omega)
    · obtain ⟨h1,h2,h3,_⟩ := Ev ta tb hb (by omega)
      have h3 := h3 s ba bb
      have h4 : (a.length + 1 - b.length) * (s + 8) ≤ 1 * (s + 8) := Nat.mul_le_mul_right _ (by omega)
      have h5 := hp b.length lb
      have h6 : (s + 8) * 1 ≤ (s + 8) * 3 ^ (b.length - 1) := Nat.mul_le_mul_left _ (Nat.pow_pos (by decide))
      refine Qhh ta tb hb (by omega) (by omega) (Qd h3 (by omega)) (Dr (s := 2 * s + 8) 65 b (Xt a b) tb h1 (by omega) h2 (by omega) (Qd bb (by omega)) (Qd h3 (by omega)) ?_)
      rw [show 2 * s + 8 + 8 = 2 * (s + 8) by omega,Nat.mul_assoc]; omega
theorem Qbl : Qn [] = [] := rfl
theorem Ny {a : List Int} (ta : Qj a) : Qj (Qn a) ∧ (Qn a).length = a.length ∧ (∀ s,Bd s a → Bd s (Qn a)) ∧ ∃ c : Rat,c ≠ 0 ∧ ∀ t,Qi a t = c * Qi (Qn a) t := by
  by_cases h : a.length = 0
  · rw [List.eq_nil_of_length_eq_zero h]
    exact ⟨rfl,rfl,fun s _ => K5,1,by decide,fun t => by rw [Qbl]; grind⟩
  · obtain ⟨h1,h2,h3,h4,h5,h6,h7⟩ := Kh ta h
    exact ⟨h1,h2,h5,_,P8 h6,h7⟩
theorem Mq {n s : Nat} (hz : Szz n s) {a b : List Int} (ta : Qj a) (tb : Qj b) (la : a.length ≤ n) (lb : b.length ≤ n) (ba : Bd s a) (bb : Bd s b) (h0 : a.length ≠ 0 ∨ b.length ≠ 0) : ∃ g,Tx a b = some g ∧ Gc g a b ∧ Prm g ∧ 0 < Qo g := by
  obtain ⟨a1,a2,a3,x,xn,ax⟩ := Ny ta
  obtain ⟨b1,b2,b3,y,yn,bx⟩ := Ny tb
  obtain ⟨g,e,hg⟩ := Qwy hz a1 b1 (by omega) (by omega) (a3 s ba) (b3 s bb) (by omega)
  obtain ⟨g1,g2,g3,g4,g5,g6,g7⟩ := Kh hg.t hg.n
  refine ⟨Qn g,?_,hg.scale (P8 g6) xn yn g1 g7 ax bx,g3,g4⟩
  unfold Tx; rw [e]; rfl
theorem Qp6 {a : List Int} (ta : Qj a) : Tx [] a = some (Qn (Qn a)) := by
  unfold Tx
  rw [Qbl]
  by_cases h : (Qn a).length = 0
  · have e : Qn a = [] := List.eq_nil_of_length_eq_zero h
    rw [e]; rfl
  · have e : Xt [] (Qn a) = [] := by
      have e1 : Ye [] (Qn a) = [] := by unfold Ye; rw [show ([] : List Int).length + 1 - (Qn a).length = 0 by simp; omega]; rfl
      unfold Xt
      rw [e1]
      unfold V0
      split <;> rfl
    have : Dq 66 [] (Qn a) = some (Qn a) := by
      show (if (Qn a).length = 0 then _ else _) = _
      rw [if_neg h,e]; rfl
    rw [this]; rfl
theorem Qto {n s : Nat} (hz : Szz n s) {a b : List Int} (ta : Qj a) (tb : Qj b) (la : a.length ≤ n) (lb : b.length ≤ n) (ba : Bd s a) (bb : Bd s b) (h0 : a.length ≠ 0) : ∃ g,Qdq a b = some g ∧ Gc g a b ∧ Prm g ∧ 0 < Qo g := by
  obtain ⟨a1,a2,a3,x,xn,ax⟩ := Ny ta
  obtain ⟨b1,b2,b3,y,yn,bx⟩ := Ny a1
  obtain ⟨g,e,hg,h1,h2⟩ := Mq hz b1 tb (by omega) lb (b3 s (a3 s ba)) bb (by omega)
  refine ⟨g,?_,hg.scale (x := 1) (y := x * y) (z := 1) (by decide) (fun h => (Rat.mul_eq_zero.1 h).elim xn yn) (by decide) hg.t (fun t => by grind) (fun t => by rw [ax,bx]; grind) (fun t => by grind),h1,h2⟩
  unfold Qdq
  rw [Qp6 ta]; exact e
theorem Qnr : ∀ {p q : List Rat} {m n : Nat},HD p m → HD q n → (Zh p q).getD (m + n) 0 = p.getD m 0 * q.getD n 0
  | [],q,m,n,h,_ => absurd (by simp) h.1
  |
   a :: p,q,0,n,h,h' => by
   have h1 : ∀ k,p.getD k 0 = 0 := fun k => by have := h.2 (k + 1) (by omega); rwa [List.getD_cons_succ] at this
   simp only [Zh]
   rw [Xi,Jg,List.getD_cons_zero,Nat.zero_add]
   cases n with
   | zero => rw [List.getD_cons_zero]; grind
   | succ n => rw [List.getD_cons_succ,D6 h1]; grind
  |
   a :: p,q,m + 1,n,h,h' => by
   have ih := Qnr (p := p) (q := q) (m := m) ⟨by have := h.1; rwa [List.getD_cons_succ] at this,fun k hk => by have := h.2 (k + 1) (by omega); rwa [List.getD_cons_succ] at this⟩ h'
   simp only [Zh]
   rw [Xi,Jg,show m + 1 + n = (m + n) + 1 by omega,List.getD_cons_succ,h'.2 _ (by omega),ih,List.getD_cons_succ]; grind
theorem Qf5 {a b c : List Int} (ta : Qj a) (tb : Qj b) (tc : Qj c) (h : ∀ t,Qi c t = Qi a t * Qi b t) (la : 0 < a.length) (lb : 0 < b.length) : Qo c = Qo a * Qo b := by
  have h1 := D5 ta la
  have h2 := D5 tb lb
  have h3 := Qnr h1 h2
  have hl := Yw ta tb tc h la lb
  rw [← Wo (p := cz c) (fun t => by rw [Qk,Qg,Qg,Qg,h]),Yv,Yv,Yv,show a.length - 1 + (b.length - 1) = c.length - 1 by omega] at h3
  unfold Qo; exact_mod_cast h3
theorem Xy {a b c : List Int} (tc : Qj c) (hc : c.length ≠ 0) (h : ∀ t,Qi c t = Qi a t * Qi b t) : 0 < a.length ∧ 0 < b.length := by
  constructor
  · rcases Nat.eq_zero_or_pos a.length with e | e
    · exact absurd (fun t => by rw [h,Wq e]; grind) (Dz tc (by omega))
    · exact e
  · rcases Nat.eq_zero_or_pos b.length with e | e
    · exact absurd (fun t => by rw [h,Wq e]; grind) (Dz tc (by omega))
    · exact e
theorem Qdp {b : List Int} (tb : Qj b) (hb : b.length ≠ 0) : ∀ (i : Nat) (a q h : List Int),Qj a → Qj h → (∀ t,Qi a t = Qi b t * Qi h t) → a.length < b.length + i → i ≤ q.length → (∀ j,j < i → q.getD j 0 = 0) → ∃ q',Qdo b i a q = some q' ∧ q'.length = q.length ∧ ∀ t,Qi q' t = Qi q t + Qi h t
  |
   0,a,q,h,ta,th,e,hl,_,_ => by
   have ha : a.length = 0 := by
     rcases Nat.eq_zero_or_pos a.length with e' | e'
     · exact e'
     · obtain ⟨p1,p2⟩ := Xy ta (by omega) e
       have := Yw tb th ta e p1 p2; omega
   refine ⟨q,by simp only [Qdo]; rw [if_pos ha],rfl,fun t => ?_⟩
   have : ∀ t,Qi h t = 0 := fun t => by
     have := Qij (p := cz b) (q := cz h) (r := []) (fun h0 => Dz tb (by omega) fun t => by rw [← Qg]; exact h0 t) (fun t => by rw [Qg,Qg,← e,Wq ha]; simp only [ev]; grind) t
     rwa [Qg] at this
   rw [this]; grind
  |
   i + 1,a,q,h,ta,th,e,hl,hq,h0 => by
   simp only [Qdo]
   by_cases hlt : a.length < b.length + i
   · rw [if_pos hlt]
     exact Qdp tb hb i a q h ta th e hlt (by omega) fun j hj => h0 j (by omega)
   · rw [if_neg hlt]
     obtain ⟨p1,p2⟩ := Xy ta (by omega) e
     have hln := Yw tb th ta e p1 p2
     have hld := Qf5 tb th ta e p1 p2
     have hlb := Uk tb hb
     rw [hld,if_pos (Int.mul_emod_right _ _),Int.mul_ediv_cancel_left _ hlb]
     have hli : h.length = i + 1 := by omega
     have e2 : ∀ t,Qi (Vr a (Zl (trim (mono i (Qo h))) b)) t = Qi b t * Qi (Vr h (mono i (Qo h))) t := fun t => by
       rw [Gz,Gz,Q4,G0,e]; grind
     have hl2 : (Vr a (Zl (trim (mono i (Qo h))) b)).length < b.length + i := by
       have hl := Qmj (i := i) (x := Qo h) (b := b) (a := a)
       unfold sta at hl
       have := Qt6 (p := Vr a (Zl (trim (mono i (Qo h))) b)) (n := b.length + i - 1) (Q8 _ _) (by omega) (by
         rw [G9,Qmo,if_pos (by omega),show b.length + i - 1 - i = b.length - 1 by omega,show b.length + i - 1 = a.length - 1 by omega]
         have : Qo a = a.getD (a.length - 1) 0 := rfl
         rw [← this,hld]
         unfold Qo
         rw [Int.mul_comm,Int.sub_eq_zero])
       omega
     obtain ⟨q',h1,h2,h3⟩ := Qdp tb hb i _ (q.set i (Qo h)) (Vr h (mono i (Qo h))) (Q8 _ _) (Q8 _ _) e2 hl2 (by simp; omega) fun j hj => by
       rw [List.getD_eq_getElem?_getD,List.getElem?_set,if_neg (by omega),← List.getD_eq_getElem?_getD]
       exact h0 j (by omega)
     refine ⟨q',h1,by rw [h2,List.length_set],fun t => ?_⟩
     rw [h3,Qdn q i _ t (by omega),h0 i (by omega),Gz,Ts]
     push_cast; grind
theorem Qvl {a b h : List Int} {s : Nat} (ta : Qj a) (tb : Qj b) (th : Qj h) (ha : a.length ≠ 0) (la : a.length ≤ 10) (ba : Bd s a) (hs : s + 69 ≤ 16777216) (e : ∀ t,Qi a t = Qi b t * Qi h t) : Tv a b = some h := by
  obtain ⟨p1,p2⟩ := Xy ta ha e
  have hln := Yw tb th ta e p1 p2
  obtain ⟨q,h1,h2,h3⟩ := Qdp tb (by omega) (a.length + 1 - b.length) a (List.replicate (a.length + 1 - b.length) 0) h ta th e (by omega) (by simp) fun j _ => Jp _ _
  have h4 : trim q = h := Qm4 (Xk _) th fun t => by rw [G0,h3,Qbi]; grind
  unfold Tv
  rw [if_neg (by omega),h1]
  show chk (trim q) = _
  rw [h4]
  exact Ux (by omega) (Qd (Ta ba la ta th tb ha fun t => by rw [e]; grind) (by omega))
end Orq

namespace Orq
open Orr Go
structure Pr1 (p : List Int) : Prop where
  t : Qj p
  m : Prm p
  l : 0 < Qo p
theorem Pr1.n {p : List Int} (h : Pr1 p) : p.length ≠ 0 := fun e => by
  have := h.l
  rw [List.eq_nil_of_length_eq_zero e] at this
  exact absurd this (by decide)
theorem Pr1.one {p : List Int} (h : Pr1 p) (hl : p.length < 2) : p = [1] := by
  have hn := h.n
  obtain ⟨c,rfl⟩ : ∃ c,p = [c] := List.length_eq_one_iff.1 (by omega)
  have h1 := h.m c fun k => by cases k <;> simp
  have h2 : 0 < c := h.l
  have := Int.le_of_dvd (by decide) h1
  rw [show c = 1 by omega]
theorem Q0a {p g h : List Int} (hp : Prm p) (e : ∀ t,Qi p t = Qi g t * Qi h t) : Prm h := fun d hd => by
  refine hp d fun k => ?_
  have := W3 (p := p) (q := Zl g h) (fun t => by rw [e,Q4]) k
  rw [this]
  have e2 : ∀ t,Qi (Zl g h) t = (d : Rat) * Qi (Zl g (h.map (· / d))) t := fun t => by
    have h1 : Qi h t = (d : Rat) * Qi (h.map (· / d)) t := by
      have := Kg d 0 t (max h.length (h.map (· / d)).length) (h.map (· / d)) [] h (by omega) (by simp) (by omega) fun k => by
        rw [Nd,Int.mul_ediv_cancel' (hd k)]; simp
      rw [this]; simp only [Qi]; push_cast; grind
    rw [Q4,Q4,h1]; grind
  have := W3 (p := Zl g h) (q := Qu (Zl g (h.map (· / d))) d) (fun t => by rw [e2,Yj]; grind) k
  rw [this,Yl]; exact Int.dvd_mul_left _ _
theorem Qz9 {p g h : List Int} (hp : Pr1 p) (hg : 0 < Qo g) (tg : Qj g) (th : Qj h) (e : ∀ t,Qi p t = Qi g t * Qi h t) : Pr1 h := by
  obtain ⟨p1,p2⟩ := Xy hp.t hp.n e
  have := Qf5 tg th hp.t e p1 p2
  refine ⟨th,Q0a hp.m e,?_⟩
  have hl := hp.l
  rw [this] at hl
  rcases Int.lt_trichotomy (Qo h) 0 with h1 | h1 | h1
  · have := Int.mul_neg_of_pos_of_neg hg h1; omega
  · rw [h1] at hl; omega
  · exact h1
structure Sqp (p g q : List Int) : Prop where
  pp : Pr1 p
  pg : Pr1 g
  pq : Pr1 q
  e : ∀ t,Qi p t = Qi g t * Qi q t
  c : ∃ U V,∀ t,Qi g t = ev U t * Qi p t + ev V t * dv (cz p) t
  d : ∃ z,∀ t,dv (cz p) t = Qi g t * ev z t
theorem Sqp.num {p g q : List Int} (h : Sqp p g q) {d : List Rat} (h1 : Rj d (cz q)) (h2 : Rj d (Vs (cz q))) : ∃ c : Rat,c ≠ 0 ∧ ∀ t,ev d t = c := by
  obtain ⟨U,V,hc⟩ := h.c
  have hpow := sqf (k := 1) (a := cz p) (g := cz g) (q := cz q) (d := d) (U := U) (V := V) (by decide) (fun t => by rw [Qg,Qg,Qg,h.e]) (fun t => by rw [Qg,Qg,hc]; grind) h1 h2
  rcases Ig d with h3 | ⟨m,_,h3⟩
  · obtain ⟨u,hu⟩ := h1
    exact absurd (fun t => by rw [← Qg,hu,h3]; grind) (Dz h.pq.t (by have := h.pq.n; omega))
  · obtain rfl := Qbk h3 (D5 h.pg.t (by have := h.pg.n; omega)) hpow
    refine ⟨d.getD 0 0,h3.1,fun t => ?_⟩
    cases d with
    | nil => exact absurd (by simp) h3.1
    |
     cons c l =>
     have := Wz (p := l) fun k => by have := h3.2 (k + 1) (by omega); rwa [List.getD_cons_succ] at this
     simp only [ev,this,List.getD_cons_zero]; grind
theorem Sqp.bez {p g q : List Int} (h : Sqp p g q) : ∃ X Y,∀ t,ev X t * ev (cz q) t + ev Y t * dv (cz q) t = 1 := by
  obtain ⟨d,U,V,h1,h2,h3⟩ := Qtn (cz q) (Vs (cz q))
  obtain ⟨c,hc,hd⟩ := h.num h1 h2
  refine ⟨Wv (1 / c) U,Wv (1 / c) V,fun t => ?_⟩
  have h5 := h3 t
  rw [hd,X9] at h5
  have h4 : 1 / c * c = 1 := Rat.div_mul_cancel hc
  rw [Q5,Q5]
  have : 1 / c * ev U t * ev (cz q) t + 1 / c * ev V t * dv (cz q) t = 1 / c * (ev U t * ev (cz q) t + ev V t * dv (cz q) t) := by grind
  rw [this,← h5,h4]
theorem Qws {n s : Nat} (h : Szz n s) : s ≤ 8388600 := by
  have : 2 * (s + 8) * 1 ≤ 2 * (s + 8) * 3 ^ (n - 1) := Nat.mul_le_mul_left _ (Nat.pow_pos (by decide))
  have := h.2; omega
theorem Qhv {s : Nat} {p : List Int} (h : Bd s p) (hl : p.length ≤ 10) : Bd (s + 4) (Zk p) := L9 h (t := 4) (by omega)
theorem Qnn {n s : Nat} (hz : Szz n (s + 73)) {p : List Int} (pp : Pr1 p) (l2 : 2 ≤ p.length) (lp : p.length ≤ n) (bp : Bd (s + 69) p) {p0 h0 : List Int} (b0 : Bd s p0) (l0 : p0.length ≤ 10) (t0 : Qj p0) (th0 : Qj h0) (z0 : p0.length ≠ 0) (e0 : ∀ t, Qi p0 t = Qi h0 t * Qi p t) :
    ∃ g q,chk (Zk p) = some (Zk p) ∧ Tx p (Zk p) = some g ∧ Tv p g = some q ∧ Sqp p g q ∧ g.length < p.length := by
  have hn := hz.1
  have hs := Qws hz
  have bd := Qhv bp (by omega)
  have ld := Vg p
  have td : Qj (Zk p) := Q8 _ _
  obtain ⟨g,e1,hg,m,l⟩ := Mq hz pp.t td lp (by omega) (Qd bp (by omega)) bd (.inl pp.n)
  obtain ⟨q,tq,eq⟩ := Qti m hg.da
  have hdnz : (Zk p).length ≠ 0 := fun h => by
    have h1 := Wb p (p.length - 2)
    rw [List.eq_nil_of_length_eq_zero h,show p.length - 2 + 1 = p.length - 1 by omega] at h1
    have h2 : p.getD (p.length - 1) 0 ≠ 0 := Xw pp.t (by omega)
    rcases Int.mul_eq_zero.1 (h1.symm.trans (by simp)) with h3 | h3
    · exact h2 h3
    · omega
  have pg : Pr1 g := ⟨hg.t,m,l⟩
  have hql := Qvl (s := s + 69) pp.t hg.t tq pp.n (by omega) bp (by omega) eq
  refine ⟨g,q,Ux (by omega) (Qd bd (by omega)),e1,hql,⟨pp,pg,Qz9 pp l hg.t tq eq,eq,?_,?_⟩,?_⟩
  · obtain ⟨U,V,hc⟩ := hg.c
    exact ⟨U,V,fun t => by rw [hc,Tt]⟩
  · obtain ⟨z,hz⟩ := hg.db
    exact ⟨z,fun t => by rw [← Tt,← Qg,hz,Qg]⟩
  · obtain ⟨z,tz,ez⟩ := Qti m hg.db
    obtain ⟨q1,q2⟩ := Xy td hdnz ez
    have := Yw hg.t tz td ez q1 q2
    omega
theorem Qz4 : Sqp [1] [1] [1] := by
  have p1 : Pr1 [1] := ⟨rfl,fun d hd => by have := hd 0; rwa [List.getD_cons_zero] at this,by decide⟩
  have e1 : ∀ t,Qi [1] t = 1 := fun t => by simp only [Qi]; push_cast; grind
  exact ⟨p1,p1,p1,fun t => by rw [e1]; grind,⟨[1],[],fun t => by rw [e1,Xx]; simp only [ev]; grind⟩,⟨[],fun t => by simp only [cz,List.map_cons,List.map_nil,dv,ev]; grind⟩⟩
structure Okp (n s : Nat) (p : List Int) : Prop where
  z : Szz n (s + 73)
  t : Qj p
  nz : p.length ≠ 0
  l : p.length ≤ n
  b : Bd s p
theorem Okp.pr {n s : Nat} {p : List Int} (h : Okp n s p) : Pr1 (Qn p) ∧ (Qn p).length = p.length ∧ Bd s (Qn p) := by
  obtain ⟨h1,h2,h3,h4,h5,_⟩ := Kh h.t h.nz
  exact ⟨⟨h1,h3,h4⟩,h2,h5 s h.b⟩
theorem Pa {n s : Nat} {p : List Int} (h : Okp n s p) : ∃ g q,Yy p = some q ∧ Sqp (Qn p) g q := by
  obtain ⟨pp,hl,hb⟩ := h.pr
  have hn := h.z.1
  have := h.l
  unfold Yy
  by_cases h2 : (Qn p).length < 2
  · rw [if_pos h2,pp.one h2]; exact ⟨[1],[1],rfl,Qz4⟩
  · rw [if_neg h2]
    obtain ⟨g,q,h3,h4,h5,h6,_⟩ := Qnn h.z pp (by omega) (by omega) (Qd hb (by omega)) (p0 := Qn p) (h0 := [1]) hb (by omega) pp.t rfl pp.n fun t => by simp only [Qi]; push_cast; grind
    exact ⟨g,q,by rw [h3]; show (Tx (Qn p) (Zk (Qn p))).bind _ = _; rw [h4]; exact h5,h6⟩
inductive LW : List Int → List (List Int) → Prop
  | nil : LW [1] []
  | cons {g h w : List Int} {ws : List (List Int)} (hs : Sqp g h w) (hl : LW h ws) : LW g (w :: ws)
theorem Q4j {g : List Int} {ws : List (List Int)} (h : LW g ws) : ∀ t,Qi g t = ev (Gy (ws.map cz)) t := by
  induction h with
  | nil => intro t; simp only [List.map_nil,Gy,Qi]; rw [Xx]; push_cast; grind
  | cons hs hl ih => intro t; simp only [List.map_cons,Gy]; rw [Qk,Qg,hs.e,ih]; grind
theorem Qmn {g : List Int} {w v : List Int} {ws : List (List Int)} (h : LW g (w :: v :: ws)) : ∃ f,Qj f ∧ ∀ t,Qi w t = Qi f t * Qi v t := by
  cases h with
  |
   @cons _ h _ _ hs hl =>
   cases hl with
   |
    @cons _ h2 _ _ hs2 hl2 =>
    obtain ⟨X,Y,hb⟩ := hs2.bez
    obtain ⟨z,hz⟩ := hs.d
    have hd := Q06 (a := cz g) (g := cz h) (q := cz w) (z := z) (r := cz v) (X := X) (Y := Y) (n := h.length - 1) (fun t => by rw [Qg,Qg,Qg,hs.e]) (fun t => by rw [hz,Qg]) (D5 hs.pg.t (by have := hs.pg.n; omega)) hb
      ⟨Zh (cz h2) (cz w),fun t => by rw [Qk,Qg,Qg,Qg,Qg,hs.e,hs2.e]; grind⟩
    obtain ⟨f,tf,ef⟩ := Qti hs2.pq.m hd
    exact ⟨f,tf,fun t => by rw [ef]; grind⟩
theorem Qf7 {g w : List Int} {ws : List (List Int)} (h : LW g (w :: ws)) : ∀ v ∈ w :: ws,Pr1 v ∧ Rj (cz v) (cz w) := by
  have key : ∀ (ws : List (List Int)) (g w : List Int),LW g (w :: ws) → ∀ v ∈ w :: ws,Pr1 v ∧ Rj (cz v) (cz w) := by
    intro ws
    induction ws with
    |
     nil =>
     intro g w h v hv
     rw [List.mem_singleton.1 hv]
     cases h with
     | cons hs hl => exact ⟨hs.pq,dvd_refl _⟩
    |
     cons u ws ih =>
     intro g w h v hv
     have hn := Qmn h
     cases h with
     |
      @cons _ h _ _ hs hl =>
      rcases List.mem_cons.1 hv with rfl | hv
      · exact ⟨hs.pq,dvd_refl _⟩
      · obtain ⟨i1,i2⟩ := ih h u hl v hv
        obtain ⟨f,_,hf⟩ := hn
        exact ⟨i1,dvd_trans i2 ⟨cz f,fun t => by rw [Qg,Qg,Qg,hf]; grind⟩⟩
  exact key ws g w h
theorem Qc7 {n s : Nat} (hz : Szz n (s + 73)) {p0 : List Int} (b0 : Bd s p0) (l0 : p0.length ≤ 10) (t0 : Qj p0) (z0 : p0.length ≠ 0) : ∀ (k : Nat) (g h0 : List Int),Pr1 g → g.length ≤ k → g.length ≤ n → Qj h0 → (∀ t,Qi p0 t = Qi h0 t * Qi g t) → ∃ ws,C6 k g = some ws ∧ LW g ws
  | 0,g,_,pg,hk,_,_,_ => absurd pg.n (by omega)
  |
   k + 1,g,h0,pg,hk,hn,th0,e0 => by
   simp only [C6]
   by_cases h2 : g.length < 2
   · rw [if_pos h2,pg.one h2]; exact ⟨[],rfl,.nil⟩
   · rw [if_neg h2]
     have bg : Bd (s + 69) g := Ta b0 l0 t0 pg.t th0 z0 fun t => by rw [e0]; grind
     obtain ⟨h,w,h3,h4,h5,h6,h7⟩ := Qnn hz pg (by omega) hn bg b0 l0 t0 th0 z0 e0
     obtain ⟨ws,i1,i2⟩ := Qc7 hz b0 l0 t0 z0 k h (Zl h0 w) h6.pg (by omega) (by omega) (Zw _ _) fun t => by rw [e0,Q4,h6.e]; grind
     refine ⟨w :: ws,?_,.cons h6 i2⟩
     rw [h3]
     show (Tx g (Zk g)).bind _ = _
     rw [h4]
     show (Tv g h).bind _ = _
     rw [h5]
     show (C6 k h).bind _ = _
     rw [i1]; rfl
theorem Qta {s : Nat} {p0 : List Int} (b0 : Bd s p0) (l0 : p0.length ≤ 10) (t0 : Qj p0) (z0 : p0.length ≠ 0) (hs : s + 69 + 69 ≤ 16777216) : ∀ (ws : List (List Int)) (g h0 : List Int),LW g ws → Qj h0 → (∀ t,Qi p0 t = Qi h0 t * Qi g t) → ∃ fs,Ow ws = some fs ∧ Lay (ws.map cz) (fs.map cz) ∧ ∀ f ∈ fs,Qj f
  | [],g,_,_,_,_ => ⟨[],rfl,trivial,fun f hf => by cases hf⟩
  |
   [w],g,_,hl,_,_ => by
   cases hl with
   | cons hs hl => exact ⟨[w],rfl,fun t => rfl,fun f hf => by rw [List.mem_singleton.1 hf]; exact hs.pq.t⟩
  |
   w :: v :: ws,g,h0,hl,th0,e0 => by
   obtain ⟨f,tf,ef⟩ := Qmn hl
   cases hl with
   |
    @cons _ h _ _ hs1 hl =>
    have hpv := (Qf7 hl v (List.mem_cons_self ..)).1
    obtain ⟨fs,i1,i2,i3⟩ := Qta b0 l0 t0 z0 hs (v :: ws) h (Zl h0 w) hl (Zw _ _) fun t => by rw [e0,Q4,hs1.e]; grind
    have ew : ∀ t,Qi p0 t = Qi w t * Qi (Zl h0 h) t := fun t => by rw [e0,Q4,hs1.e]; grind
    have bw : Bd (s + 69) w := Ta b0 l0 t0 hs1.pq.t (Zw _ _) z0 ew
    obtain ⟨p1,p2⟩ := Xy t0 z0 ew
    have lw := Yw hs1.pq.t (Zw _ _) t0 ew p1 p2
    have hq := Qvl (s := s + 69) hs1.pq.t hpv.t tf hs1.pq.n (by omega) bw hs fun t => by rw [ef]; grind
    refine ⟨f :: fs,?_,⟨fun t => by rw [Qg,Qg,Qg,ef],i2⟩,fun x hx => ?_⟩
    · show (Tv w v).bind _ = _
      rw [hq]
      show (Ow (v :: ws)).bind _ = _
      rw [i1]; rfl
    · rcases List.mem_cons.1 hx with rfl | hx
      · exact tf
      · exact i3 x hx
def Vi : List (List Int) → List Int
  | [] => [1]
  | [f] => f
  | f :: _ :: l => Zl f (Vi l)
theorem Qgh : ∀ (fs : List (List Int)) (t : Rat),ev (Lw (fs.map cz)) t = Qi (Vi fs) t
  | [],t => by simp only [List.map_nil,Lw,Vi,Qi]; rw [Xx]; push_cast; grind
  | [f],t => by simp only [List.map_cons,List.map_nil,Lw,Vi]; rw [Qg]
  | f :: g :: l,t => by simp only [List.map_cons,Lw,Vi]; rw [Qk,Qg,Q4,Qgh l]
theorem Vl (t : Rat) : Qi [1] t = 1 := by simp only [Qi]; push_cast; grind
theorem Qar : ∀ {w : List Int} {ws fs : List (List Int)},Lay ((w :: ws).map cz) (fs.map cz) → (∀ f ∈ fs,Qj f) → (∀ v ∈ w :: ws,Qj v) → ∃ E,Qj E ∧ ∀ t,Qi w t = Qi (Vi fs) t * Qi E t
  |
   w,[],[f],h,_,_ => ⟨[1],rfl,fun t => by
   have := h t
   rw [Qg,Qg] at this
   rw [this,Vl]; simp only [Vi]; grind⟩
  |
   w,[v],[f,f2],h,_,hw => ⟨v,hw v (by simp),fun t => by
   have := h.1 t
   rw [Qg,Qg,Qg] at this
   rw [this]; simp only [Vi]; rw [Q4,Vl]; grind⟩
  |
   w,v :: x :: l,f :: f2 :: fs,h,hf,hw => by
   obtain ⟨E,hE,e⟩ := Qar (w := x) (ws := l) (fs := fs) h.2.2 (fun g hg => hf g (by simp [hg])) (fun g hg => hw g (by simp at hg ⊢; exact .inr (.inr hg)))
   refine ⟨Zl f2 E,Zw _ _,fun t => ?_⟩
   have a1 := h.1 t
   have a2 := h.2.1 t
   rw [Qg,Qg,Qg] at a1 a2
   have e2 : Qi (Vi (f :: f2 :: fs)) t = Qi f t * Qi (Vi fs) t := by simp only [Vi]; rw [Q4]
   rw [a1,a2,e,e2,Q4]; grind
  | w,[],[],h,_,_ => h.elim
  | w,[],_ :: _ :: _,h,_,_ => h.elim
  | w,[v],[],h,_,_ => h.elim
  | w,[v],[f],h,_,_ => h.2.elim
  | w,[v],_ :: _ :: _ :: _,h,_,_ => h.2.elim
  | w,v :: x :: l,[f],h,_,_ => h.2.elim
  | w,v :: x :: l,[],h,_,_ => h.elim
theorem Sy {s : Nat} {p0 : List Int} (b0 : Bd s p0) (l0 : p0.length ≤ 10) (t0 : Qj p0) (z0 : p0.length ≠ 0) (hs : s + 69 ≤ 16777216) : ∀ (fs : List (List Int)) (i : Nat) (a E : List Int),i % 2 = 0 → Qj a → Qj E → (∀ f ∈ fs,Qj f) → (∀ t,Qi p0 t = Qi a t * Qi (Vi fs) t * Qi E t) → ∃ o,Ns i a fs = some o ∧ Qj o ∧ ∀ t,Qi o t = Qi a t * Qi (Vi fs) t
  | [],i,a,E,hi,ta,_,_,_ => ⟨a,rfl,ta,fun t => by simp only [Vi]; rw [Vl]; grind⟩
  |
   [f],i,a,E,hi,ta,tE,tf,hE => by
   have e1 : ∀ t,Qi p0 t = Qi (Zl a f) t * Qi E t := fun t => by rw [hE,Q4]; rfl
   have b1 := Ta b0 l0 t0 (Zw a f) tE z0 e1
   obtain ⟨p1,p2⟩ := Xy t0 z0 e1
   have hl := Yw (Zw a f) tE t0 e1 p1 p2
   refine ⟨Zl a f,?_,Zw _ _,fun t => by rw [Q4]; rfl⟩
   simp only [Ns]
   rw [if_pos hi,Ux (by omega) (Qd b1 (by omega))]; rfl
  |
   f :: g :: fs,i,a,E,hi,ta,tE,tf,hE => by
   have e0 : ∀ t,Qi (Vi (f :: g :: fs)) t = Qi f t * Qi (Vi fs) t := fun t => by simp only [Vi]; rw [Q4]
   have e1 : ∀ t,Qi p0 t = Qi (Zl a f) t * Qi (Zl (Vi fs) E) t := fun t => by rw [hE,e0,Q4,Q4]; grind
   have b1 := Ta b0 l0 t0 (Zw a f) (Zw _ _) z0 e1
   obtain ⟨p1,p2⟩ := Xy t0 z0 e1
   have hl := Yw (Zw a f) (Zw _ _) t0 e1 p1 p2
   obtain ⟨o,o1,o2,o3⟩ := Sy b0 l0 t0 z0 hs fs (i + 2) (Zl a f) E (by omega) (Zw _ _) tE (fun x hx => tf x (by simp [hx])) fun t => by rw [hE,e0,Q4]; grind
   refine ⟨o,?_,o2,fun t => by rw [o3,e0,Q4]; grind⟩
   have h1 : Ns (i + 1) (Zl a f) (g :: fs) = Ns (i + 2) (Zl a f) fs := by
     show (if (i + 1) % 2 = 0 then _ else _) = _
     rw [if_neg (by omega)]
   show (if i % 2 = 0 then (chk (Zl a f)).bind fun q => Ns (i + 1) q (g :: fs) else _) = _
   rw [if_pos hi,Ux (by omega) (Qd b1 (by omega))]
   exact h1.trans o1
structure Parts (p q o : List Int) : Prop where
  sq : ∃ g,Sqp (Qn p) g q
  ws : ∃ ws : List (List Int),(∀ w ∈ ws,Pr1 w ∧ Rj (cz w) (cz q)) ∧ ∀ t,Qi (Qn p) t = ev (Gy (ws.map cz)) t
  oq : Rj (cz o) (cz q)
  ot : Qj o
  oh : ∃ h,Qj h ∧ ∀ t,Qi (Qn p) t = Qi o t * Qi h t
  os : ∃ S,∀ t,Qi (Qn p) t = Qi o t * (ev S t * ev S t)
theorem Quq {n s : Nat} {p : List Int} (h : Okp n s p) : ∃ q o,Yy p = some q ∧ Qjh p = some o ∧ Parts p q o := by
  obtain ⟨pp,hl,hb⟩ := h.pr
  have hn := h.z.1
  have hpl := h.l
  have hs := Qws h.z
  obtain ⟨g,q,hq,sq⟩ := Pa h
  obtain ⟨ws,w1,w2⟩ := Qc7 h.z hb (by omega) pp.t pp.n 66 (Qn p) [1] pp (by omega) (by omega) rfl fun t => by rw [Vl]; grind
  obtain ⟨fs,f1,f2,f3⟩ := Qta hb (by omega) pp.t pp.n (by omega) ws (Qn p) [1] w2 rfl fun t => by rw [Vl]; grind
  have hw := Q4j w2
  -- the first layer is q
  have hfirst : (∀ w ∈ ws,Pr1 w ∧ Rj (cz w) (cz q)) ∧ ∃ E,Qj E ∧ ∀ t,Qi q t = Qi (Vi fs) t * Qi E t := by
    cases ws with
    |
     nil =>
     have e : fs = [] := by
       cases fs with
       | nil => rfl
       | cons f l => exact f2.elim
     subst e
     exact ⟨(fun w hw => by cases hw),q,sq.pq.t,fun t => by simp only [Vi]; rw [Vl]; grind⟩
    |
     cons w ws =>
     have hwq : w = q := by
       have w3 : (if (Qn p).length < 2 then some [] else (chk (Zk (Qn p))).bind fun d => (Tx (Qn p) d).bind fun h => (Tv (Qn p) h).bind fun w => (C6 65 h).bind fun l => some (w :: l)) = some (w :: ws) := w1
       have hlen : ¬ (Qn p).length < 2 := fun h2 => by
         rw [if_pos h2] at w3
         injection w3 with w3
         cases w3
       rw [if_neg hlen] at w3
       unfold Yy at hq
       rw [if_neg hlen] at hq
       obtain ⟨d,d1,w3⟩ := Option.bind_eq_some_iff.1 w3
       obtain ⟨h,d2,w3⟩ := Option.bind_eq_some_iff.1 w3
       obtain ⟨w',d3,w3⟩ := Option.bind_eq_some_iff.1 w3
       obtain ⟨l,d4,w3⟩ := Option.bind_eq_some_iff.1 w3
       rw [d1] at hq
       have hq : (Tx (Qn p) d).bind (fun g => Tv (Qn p) g) = some q := hq
       rw [d2] at hq
       have hq : Tv (Qn p) h = some q := hq
       rw [d3] at hq
       injection hq with hq
       injection w3 with w3
       injection w3 with w3 _
       rw [← w3,hq]
     subst hwq
     have hall := Qf7 w2
     exact ⟨hall,Qar f2 f3 fun v hv => (hall v hv).1.t⟩
  obtain ⟨ha,E,tE,hE⟩ := hfirst
  obtain ⟨o,o1,o2,o3⟩ := Sy hb (by omega) pp.t pp.n (by omega) fs 0 [1] (Zl E g) rfl rfl (Zw _ _) f3 fun t => by rw [Vl,Q4,sq.e,hE]; grind
  have o3 : ∀ t,Qi o t = Qi (Vi fs) t := fun t => by rw [o3,Vl]; grind
  refine ⟨q,o,hq,?_,⟨g,sq⟩,⟨ws,ha,hw⟩,⟨cz E,fun t => by rw [Qg,Qg,Qg,hE,o3]⟩,o2,⟨Zl E g,Zw _ _,fun t => by rw [sq.e,hE,o3,Q4]; grind⟩,?_⟩
  · unfold Qjh
    rw [if_neg pp.n,w1]
    show (Ow ws).bind _ = _
    rw [f1]; exact o1
  · obtain ⟨S,hS⟩ := Qmh f2
    exact ⟨S,fun t => by rw [hw,hS,Qgh,o3]⟩
theorem Qlk {s : Nat} : ∀ (k : Nat) (a b : List Int),Qj a → Qj b → b.length ≠ 0 → b.length < k → b.length < a.length → a.length ≤ 60 → Bd s a → Bd s b → (s + 8) * 3 ^ (a.length - 1) ≤ 16777216 → (∀ d,Rj d (cz a) → Rj d (cz b) → ∃ c : Rat,c ≠ 0 ∧ ∀ t,ev d t = c) → ∃ l,chF k a b = some (b :: l) ∧ SCl (cz a) (cz b) (l.map cz)
  | 0,_,_,_,_,_,h,_,_,_,_,_,_ => by omega
  |
   k + 1,a,b,ta,tb,hb,hk,hab,hl,ba,bb,hs,hd => by
   obtain ⟨h1,h2,h3,u,v,up,vp,X,hX⟩ := Ev ta tb hb hl
   have h3 := h3 s ba bb
   obtain ⟨m,hm⟩ : ∃ m,m = a.length - b.length := ⟨_,rfl⟩
   have e1 : a.length + 1 - b.length = m + 1 := by omega
   rw [e1] at h3
   have e2 : s + (m + 1) * (s + 8) + 8 = (m + 2) * (s + 8) := by
     rw [show m + 2 = (m + 1) + 1 by omega,Nat.succ_mul (m + 1)]; omega
   have e3 : (m + 2) * (s + 8) * 3 ^ (b.length - 1) ≤ (s + 8) * 3 ^ (a.length - 1) := by
     rw [show a.length - 1 = m + (b.length - 1) by omega,Nat.pow_add,← Nat.mul_assoc,Nat.mul_comm (s + 8)]
     exact Nat.mul_le_mul_right _ (Nat.mul_le_mul_right _ (Q4s m (by omega)))
   have e4 : s + (m + 1) * (s + 8) ≤ 16777216 := by
     have : (m + 2) * (s + 8) ≤ (m + 2) * (s + 8) * 3 ^ (b.length - 1) := Nat.le_mul_of_pos_right _ (Nat.pow_pos (by decide))
     omega
   simp only [chF]
   rw [if_neg hb,Ux (by omega) (Qd h3 e4)]
   show ∃ l,((chF k b (Yx (Xt a b))).bind fun l => some (b :: l)) = some (b :: l) ∧ _
   have lneg : (Yx (Xt a b)).length ≤ (Xt a b).length := Tk _
   by_cases hr : (Xt a b).length = 0
   · have e : Yx (Xt a b) = [] := List.eq_nil_of_length_eq_zero (by omega)
     rw [e]
     refine ⟨[],?_,?_⟩
     · obtain ⟨j,rfl⟩ : ∃ j,k = j + 1 := ⟨k - 1,by omega⟩
       rfl
     · obtain ⟨c, hc, hcc⟩ := hd (cz b) ⟨Wv (1 / u) X, fun t => by
         have := hX t
         rw [Wq hr] at this
         have hu : 1 / u * u = 1 := Zr up
         rw [Qg,Qg,Q5]
         have : Qi a t = 1 / u * (u * Qi a t) := by grind
         rw [this,hX,Wq hr]; grind⟩ (dvd_refl _)
       exact .base hc hcc
   · have tn : Qj (Yx (Xt a b)) := Q8 _ _
     have hn0 : (Yx (Xt a b)).length ≠ 0 := fun h0 => by
       have := Hz (c := -1) h1 tn (by decide) fun t => by rw [Nt]; grind
       omega
     obtain ⟨l,i1,i2⟩ := Qlk (s := s + (m + 1) * (s + 8)) k b (Yx (Xt a b)) tb tn hn0 (by omega) (by omega) (by omega) (Qd bb (by omega)) (Ea h3) (by rw [e2]; omega) fun d d1 d2 => by
       refine hd d ?_ d1
       obtain ⟨y,hy⟩ := d1
       obtain ⟨z,hz⟩ := d2
       have hu : 1 / u * u = 1 := Zr up
       refine ⟨Wv (1 / u) (Jj (Zh X y) (Wv (-v) z)),fun t => ?_⟩
       have a1 := hX t; have a2 := hy t; have a3 := hz t
       rw [Qg] at a2 a3
       rw [Nt] at a3
       rw [Qg,Q5,Ze,Qk,Q5]
       have : Qi a t = 1 / u * (u * Qi a t) := by grind
       rw [this,a1,a2,show Qi (Xt a b) t = -(ev d t * ev z t) by grind]; grind
     refine ⟨Yx (Xt a b) :: l,by rw [i1]; rfl,?_⟩
     rw [List.map_cons]
     exact .step (q := X) up vp (fun t => by rw [Qg,Qg,Qg,hX,Nt]; clear i2 i1 hd h3 hs; grind) i2
theorem Mp (x : Rat) : ∀ (l : List (List Int)) (n : Nat) (s : Int),(l.foldl (J0 fun p => Zv p x) (n,s)).1 = n + tc x s (l.map cz)
  | [],n,s => rfl
  |
   p :: l,n,s => by
   simp only [List.foldl_cons,List.map_cons,tc,J0]
   rw [Ki,Qg]
   split
   · exact Mp x l n s
   · rw [Mp x l]
     split <;> omega
theorem H6 (l : List (List Int)) (x : Rat) : Ko l x = vv (l.map cz) x := by
  have := Mp x l 0 0
  unfold Ko Kn vv
  rw [this]; omega
theorem Qsi {n s : Nat} (hz : Szz n (s + 73)) {P g q : List Int} (sq : Sqp P g q) (lq : q.length ≤ n) (bq : Bd (s + 69) q) : ∃ d,chk (Zk q) = some d ∧ ∃ l,chF 66 q (Qn d) = some l ∧ Lo (cz q) ((q :: l).map cz) ∧ (q.length < 2 → l = []) := by
  have hn := hz.1
  have hs := Qws hz
  have bd := Qhv bq (by omega)
  have ld := Vg q
  refine ⟨Zk q,Ux (by omega) (Qd bd (by omega)),?_⟩
  have hq0 := sq.pq.n
  by_cases h2 : q.length < 2
  · have e : Qn (Zk q) = [] := by rw [List.eq_nil_of_length_eq_zero (l := Zk q) (by omega)]; rfl
    rw [e]
    refine ⟨[],rfl,.inl ⟨1,by decide,fun t => ?_,rfl⟩,fun _ => rfl⟩
    rw [Qg,sq.pq.one h2,Vl]
  · have hdnz : (Zk q).length ≠ 0 := fun h => by
      have h1 := Wb q (q.length - 2)
      rw [List.eq_nil_of_length_eq_zero h,show q.length - 2 + 1 = q.length - 1 by omega] at h1
      have h3 : q.getD (q.length - 1) 0 ≠ 0 := Xw sq.pq.t (by omega)
      rcases Int.mul_eq_zero.1 (h1.symm.trans (by simp)) with h4 | h4
      · exact h3 h4
      · omega
    obtain ⟨p1,p2,p3,p4,p5,p6,p7⟩ := Kh (p := Zk q) (Q8 _ _) hdnz
    have hdl : Qo (Zk q) = Qo q * ((q.length - 1 : Nat) : Int) := by
      have hld : (Zk q).length = q.length - 1 := by
        rcases Nat.lt_or_ge (Zk q).length (q.length - 1) with h | h
        · have h1 := Wb q (q.length - 2)
          rw [List.getD_eq_getElem?_getD,List.getElem?_eq_none (by omega),show q.length - 2 + 1 = q.length - 1 by omega] at h1
          have h3 : q.getD (q.length - 1) 0 ≠ 0 := Xw sq.pq.t (by omega)
          rcases Int.mul_eq_zero.1 (h1.symm.trans (by simp)) with h4 | h4
          · exact absurd h4 h3
          · omega
        · omega
      unfold Qo
      rw [hld,Wb,show q.length - 1 - 1 + 1 = q.length - 1 by omega]
    have hfac : 0 < Zy (Zk q) := by
      have hlp : 0 < Qo (Zk q) := by rw [hdl]; exact Int.mul_pos sq.pq.l (by omega)
      have hc := Tr (p := Zk q) (Q8 _ _) hdnz
      unfold Zy
      rw [if_neg (by omega)]
      unfold Ju at hc ⊢; omega
    have hfq : ((0 : Int) : Rat) < (Zy (Zk q) : Rat) := Rat.intCast_lt_intCast.2 hfac
    have hfq : (0 : Rat) < (Zy (Zk q) : Rat) := by simpa using hfq
    have hff : 1 / (Zy (Zk q) : Rat) * (Zy (Zk q) : Rat) = 1 := Zr hfq
    have hz2 := hz.2
    have hp3 : (s + 73 + 8) * 3 ^ (q.length - 1) ≤ 16777216 := by
      have : (s + 73 + 8) * 3 ^ (q.length - 1) ≤ (s + 73 + 8) * 3 ^ (n - 1) := Nat.mul_le_mul_left _ (Nat.pow_le_pow_right (by decide) (by omega))
      rw [Nat.mul_assoc] at hz2; omega
    obtain ⟨l,h3,h4⟩ := Qlk (s := s + 73) 66 q (Qn (Zk q)) sq.pq.t p1 (by omega) (by omega) (by omega) (by omega) (Qd bq (by omega)) (p5 _ bd) hp3 fun d d1 d2 => sq.num d1 (by
      obtain ⟨z,hz⟩ := d2
      exact ⟨Wv (Zy (Zk q)) z,fun t => by
        have := hz t
        rw [Qg] at this
        rw [X9,← Tt,p7,this,Q5]; grind⟩)
    refine ⟨Qn (Zk q) :: l,h3,.inr ⟨cz (Qn (Zk q)),l.map cz,1 / (Zy (Zk q) : Rat),U0 (by decide) hfq,fun t => ?_,h4,rfl⟩,fun h => absurd h h2⟩
    rw [Qg,← Tt,p7 t]; grind
theorem chain_ok {n s : Nat} {p : List Int} (h : Okp n s p) : ∃ q l,Yy p = some q ∧ Gi p = some (q :: l) ∧ Lo (cz q) ((q :: l).map cz) ∧ (q.length < 2 → l = []) := by
  obtain ⟨pp,hl,hb⟩ := h.pr
  have hn := h.z.1
  have hpl := h.l
  obtain ⟨g,q,hq,sq⟩ := Pa h
  have e1 : ∀ t,Qi (Qn p) t = Qi q t * Qi g t := fun t => by rw [sq.e]; grind
  obtain ⟨p1,p2⟩ := Xy pp.t pp.n e1
  have hll := Yw sq.pq.t sq.pg.t pp.t e1 p1 p2
  obtain ⟨d,d1,l,d2,d3⟩ := Qsi h.z sq (by omega) (Ta hb (by omega) pp.t sq.pq.t sq.pg.t pp.n e1)
  refine ⟨q,l,hq,?_,d3⟩
  unfold Gi
  rw [hq]
  show (if q.length = 0 then none else _) = _
  rw [if_neg sq.pq.n,d1]
  show (chF 66 q (Qn d)).bind _ = _
  rw [d2]; rfl
end Orq
