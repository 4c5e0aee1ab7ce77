/- T21 T22 T23 T24 T25 G1 G2 SortL KinL K1 K2 F6 F7 F8 F9 G3 G4 K3 K4 S1 -/
import Derived.Test.YtledghfgedoofaaGreatPart06
import Derived.Test.YtledghfgedoofaaGreatPart05
import Derived.Test.YtledghfgedoofaaGreatPart04
set_option linter.all false
namespace Orq
open Orr Go
def K9 (a b:Tm):Prop:=∃ q,Qu a q=-1∧Qu b q=1
def TEq (a b:Tm):Prop:=∀ q,Qu a q=Qu b q
theorem tri {a b:Tm} (ha:Cut (Qu a)) (hb:Cut (Qu b)):K9 a b∨TEq a b∨K9 b a:=by
  rcases Classical.em (TEq a b) with h | h
  · exact .inr (.inl h)
  · obtain ⟨q,hq⟩:=Classical.not_forall.1 h
    obtain ⟨r,⟨h1,h2⟩ | ⟨h1,h2⟩⟩:=Qdp ha hb hq
    · exact .inl ⟨r,h1,h2⟩
    · exact .inr (.inr ⟨r,h2,h1⟩)
theorem B5 {a b:Tm} (ha:Cut (Qu a)) (hb:Cut (Qu b)) (h:K9 a b) (h':K9 b a):False:=by
  obtain ⟨q,q1,q2⟩:=h
  obtain ⟨r,r1,r2⟩:=h'
  have:=ha.lt r2 q1
  have:=hb.lt q2 r1
  grind
theorem Qfi {p:List Int} (k:Nat):(p.getD k 0).natAbs≤2^Zd p:=by
  have h:Qt (p.getD k 0)≤Zd p:=by
    have key:∀ (l:List Int) (n:Nat),n≤l.foldl (fun n z=>max n (Qt z)) n∧∀ z∈l,Qt z≤l.foldl (fun n z=>max n (Qt z)) n:=by
      intro l
      induction l with
      | nil=>exact fun n=>⟨Nat.le_refl _,fun z hz=>by cases hz⟩
      |
       cons y l ih =>
       intro n
       obtain ⟨i1,i2⟩:=ih (max n (Qt y))
       refine ⟨by simp only [List.foldl_cons]; omega,fun z hz=>?_⟩
       simp only [List.foldl_cons]
       rcases List.mem_cons.1 hz with rfl | hz
       · omega
       · exact i2 z hz
    exact Q7 (s:=Zd p) (fun z hz=>(key p 0).2 z hz) k
  rw [Y3] at h; omega
theorem Qx6 {s:Nat}:∀ (B:List Int),(∀ z∈B,z.natAbs≤2^s)→gB B≤2^(s+(B.length-1))
  | [],_=>Nat.zero_le _
  |
   c::B,h=>by
   have h1:=h c (List.mem_cons_self ..)
   have h2:=Qx6 B fun z hz=>h z (List.mem_cons_of_mem _ hz)
   simp only [gB,List.length_cons,Nat.add_sub_cancel]
   have h3:2^s≤2^(s+B.length):=Nat.pow_le_pow_right (by decide) (by omega)
   cases B with
   | nil=>simp only [gB,List.length_nil] at *; omega
   |
    cons d B =>
    have h4:2^(s+(d::B).length)=2*2^(s+((d::B).length-1)):=by
      rw [Nat.mul_comm,←Nat.pow_succ]; congr 1
    rw [h4]; omega
def Xw (A B:List Int):Nat:=(Zd A+Zd B+(A.length+B.length)+8)*(2*(A.length+B.length-2)-1)
theorem Qqg {A B:List Int} (tA:Qm A) (tB:Qm B) (nA:A.length≤9) (nB:B.length≤9) (lA:2≤A.length) (lB:2≤B.length) {R d:Rat} (hR:1≤R) (dp:0<d)
    (hs:∀ e:Rat,0<e→∃ q r,Ql q≤R∧Ql r≤R∧d≤Ql (q-r)∧Ql (q-r)*((2^(Xw A B+1):Nat):Rat)≤1∧Ql (Qg A q)<e∧Ql (Qg B r)<e):False:=by
  obtain ⟨a,ha⟩:∃ a,A.length=a+1:=⟨A.length-1,by omega⟩
  obtain ⟨b,hb⟩:∃ b,B.length=b+1:=⟨B.length-1,by omega⟩
  obtain ⟨s,hsd⟩:∃ s,s=Zd A+Zd B+b:=⟨_,rfl⟩
  obtain ⟨N,hN⟩:∃ N,b*(2*(a*b))+a*(2*(a*b)-b)=N:=⟨_,rfl⟩
  have hNt:N≤2^(a+9):=by
    rw [←hN]
    have hab:∀ a b:Fin 9,b.1*(2*(a.1*b.1))+a.1*(2*(a.1*b.1)-b.1)≤2^(a.1+9):=by decide
    exact hab ⟨a,by omega⟩ ⟨b,by omega⟩
  have hK:Xw A B=(s+a+10)*(2*(a+b-1)+1):=by
    unfold Xw
    rw [ha,hb,hsd,show a+1+(b+1)-2=a+b by omega,show 2*(a+b)-1=2*(a+b-1)+1 by omega]
    congr 1; omega
  have h0A:A.getD a 0≠0:=by have:=Xi tA (by omega); rwa [ha] at this
  have h0B:B.getD b 0≠0:=by have:=Xi tB (by omega); rwa [hb] at this
  have hp:∀ m,1≤2^m:=fun m=>Nat.pow_pos (by decide)
  refine Qzu (N:=N) (D:=2^(Xw A B-1)) ha hb h0A h0B (by omega) (by omega) (h:=2^s) (hp s) (fun k=>Nat.le_trans (Qfi k) (Nat.pow_le_pow_right (by decide) (by omega))) ?_ hN ?_ hR dp fun e ep=>?_
  · refine Nat.le_trans (Qx6 (s:=Zd B) B fun z hz=>?_) (Nat.pow_le_pow_right (by decide) (by omega))
    obtain ⟨i,hi⟩:=List.mem_iff_getElem?.1 hz
    have:=Qfi (p:=B) i
    rwa [List.getD_eq_getElem?_getD,hi] at this
  · have h1:2*(N*2^s)≤2^(s+a+10):=by
      have:N*2^s≤2^(a+9)*2^s:=Nat.mul_le_mul_right _ hNt
      rw [←Nat.pow_add] at this
      rw [show s+a+10=(a+9+s)+1 by omega,Nat.pow_succ]; omega
    have h2:N*2^s≤2^(s+a+9):=by
      rw [show s+a+9=(a+9)+s by omega,Nat.pow_add]; exact Nat.mul_le_mul_right _ hNt
    have h3:=Nat.pow_le_pow_left h1 (2*(a+b-1))
    have h4:=Nat.mul_le_mul h2 h3
    rw [←Nat.pow_mul,←Nat.pow_add] at h4
    rw [←Nat.mul_assoc]
    refine Nat.le_trans h4 (Nat.pow_le_pow_right (by decide) ?_)
    rw [hK,Nat.mul_add,Nat.mul_one]; omega
  · obtain ⟨q,r,h1,h2,h3,h4,h5,h6⟩:=hs e ep
    refine ⟨q,r,h1,h2,h3,?_,h5,h6⟩
    have hK1:1≤Xw A B:=by
      rw [hK]; exact Nat.mul_pos (by omega) (by omega)
    have e1:2^(Xw A B+1)=4*2^(Xw A B-1):=by
      obtain ⟨m,hm⟩:∃ m,Xw A B=m+1:=⟨Xw A B-1,by omega⟩
      rw [hm,Nat.add_sub_cancel,Nat.pow_succ,Nat.pow_succ]; omega
    rw [e1] at h4
    push_cast at h4 ⊢
    exact h4
theorem Hv.lo' {t:Tm} {D M k:Nat} {u:Tm} (h:Hv t D M k u):Qu t u.lo=1∨Qu t u.lo=0∧u.lo=u.hi:=by
  rw [←h.c]
  rcases h.i with ⟨e,_⟩ | ⟨L,V⟩
  · exact .inr ⟨by rw [Uz e,W0],e⟩
  · exact .inl (by rw [Vk V.l]; exact Uf Rat.le_refl)
theorem Hv.hi' {t:Tm} {D M k:Nat} {u:Tm} (h:Hv t D M k u):Qu t u.hi=0∨Qu t u.hi=-1:=by
  rw [←h.c]
  rcases h.i with ⟨e,_⟩ | ⟨L,V⟩
  · exact .inl (by rw [Uz e,e,W0])
  · rw [Vk V.l]
    have:=V.hi1
    rcases V.cut.val u.hi with h | h | h <;> omega
theorem Hv.le {t:Tm} {D M k:Nat} {u:Tm} (h:Hv t D M k u):u.lo≤u.hi:=by
  rcases h.i with ⟨e,_⟩ | ⟨L,V⟩
  · rw [e]; exact Rat.le_refl
  · exact Rat.le_of_lt V.l
theorem Qqh {a b:Tm} (ha:Va a) (hb:Va b) {D M k D' M' k':Nat} {u v:Tm} (hu:Hv a D M k u) (hv:Hv b D' M' k' v) (h:K9 a b):1<(v.hi-u.lo)*((2^(Xw a.p b.p+1):Nat):Rat):=by
  rcases Qx ((v.hi-u.lo)*((2^(Xw a.p b.p+1):Nat):Rat)) 1 with hw | hw
  · exfalso
    have ca:=ha.cut
    have cb:=hb.cut
    obtain ⟨m,m1,m2⟩:=h
    obtain ⟨m',hm',m3⟩:=ca.dn m m1
    have hpow:(0:Rat)≤((2^(Xw a.p b.p+1):Nat):Rat):=Rat.natCast_nonneg
    obtain ⟨R,hR⟩:∃ R,R=Ql u.lo+Ql m'+Ql m+Ql v.hi+1:=⟨_,rfl⟩
    have n1:=Zx u.lo; have n2:=Zx m'; have n3:=Zx m; have n4:=Zx v.hi
    refine Qqg (R:=R) (d:=m-m') ha.tr hb.tr ha.n hb.n ha.n2 hb.n2 (by grind) (by grind) fun e ep=>?_
    -- q near a,at Hf m',at least u.lo
    obtain ⟨q,q1,q2,q3⟩:∃ q,u.lo≤q∧q≤m'∧Ql (Qg a.p q)<e:=by
      rcases hu.lo' with h1 | ⟨h1,_⟩
      · obtain ⟨x,y,hx,hy,hq⟩:=ha.van e ep
        rcases Qx x u.lo with e1 | e1
        · exact ⟨u.lo,Rat.le_refl,Rat.le_of_lt (ca.lt h1 m3),by rw [←Qh]; exact hq u.lo e1 (Rat.le_of_lt (ca.lt h1 hy))⟩
        · exact ⟨x,Rat.le_of_lt e1,Rat.le_of_lt (ca.lt hx m3),by rw [←Qh]; exact hq x Rat.le_refl (Rat.le_of_lt (ca.lt hx hy))⟩
      · refine ⟨u.lo,Rat.le_refl,?_,by rw [←Qh,Ck ca h1 ha.van,Z6]; exact ep⟩
        rcases Qx u.lo m' with e1 | e1
        · exact e1
        · have:=ca.mono m' u.lo e1 (by omega); omega
    obtain ⟨r,r1,r2,r3⟩:∃ r,r≤v.hi∧m≤r∧Ql (Qg b.p r)<e:=by
      rcases hv.hi' with h1 | h1
      · refine ⟨v.hi,Rat.le_refl,?_,by rw [←Qh,Ck cb h1 hb.van,Z6]; exact ep⟩
        rcases Qx m v.hi with e1 | e1
        · exact e1
        · have:=cb.mono v.hi m e1 (by omega); omega
      · obtain ⟨x,y,hx,hy,hq⟩:=hb.van e ep
        rcases Qx v.hi y with e1 | e1
        · exact ⟨v.hi,Rat.le_refl,Rat.le_of_lt (cb.lt m2 h1),by rw [←Qh]; exact hq v.hi (Rat.le_of_lt (cb.lt hx h1)) e1⟩
        · exact ⟨y,Rat.le_of_lt e1,Rat.le_of_lt (cb.lt m2 hy),by rw [←Qh]; exact hq y (Rat.le_of_lt (cb.lt hx hy)) Rat.le_refl⟩
    have e1:Ql (q-r)=r-q:=by unfold Ql; split <;> grind
    have b1:Ql q≤R:=by
      have:=Mh (R:=R) (x:=u.lo) (y:=m') (t:=q) (by grind) (by grind) q1 q2; exact this
    have b2:Ql r≤R:=by
      have:=Mh (R:=R) (x:=m) (y:=v.hi) (t:=r) (by grind) (by grind) r2 r1; exact this
    refine ⟨q,r,b1,b2,by rw [e1]; grind,?_,q3,r3⟩
    rw [e1]
    have:=Rat.mul_le_mul_of_nonneg_right (show r-q≤v.hi-u.lo by grind) hpow
    exact Rat.le_trans this hw
  · exact hw
theorem Qdc {a b:Tm} (ha:Va a) (hb:Va b) {D M k D' M' k':Nat} {u v:Tm} (hu:Hv a D M k u) (hv:Hv b D' M' k' v) (hne:¬TEq a b) (h:V8 u v=true):K9 a b:=by
  have h1:=(of_decide_eq_true h).1
  have h1:=D3.1 h1
  rcases tri ha.cut hb.cut with h2 | h2 | ⟨m,m1,m2⟩
  · exact h2
  · exact absurd h2 hne
  · exfalso
    have e1:m<u.hi:=by
      rcases Qx u.hi m with e | e
      · rcases Classical.em (u.hi=m) with e' | e'
        · have:=hu.hi'; rw [e'] at this; omega
        · have:=ha.cut.mono u.hi m (by grind) (by have:=hu.hi'; omega); omega
      · exact e
    have e2:v.lo<m:=by
      rcases Qx m v.lo with e | e
      · rcases Classical.em (m=v.lo) with e' | e'
        · have:=hv.lo'; rw [←e'] at this; omega
        · have:=hb.cut.mono m v.lo (by grind) (by omega)
          have:=hv.lo'; omega
      · exact e
    grind
theorem Qld {a b:Tm} (ha:Va a) (hb:Va b) {D M k D' M' k':Nat} {u v:Tm} (hu:Hv a D M k u) (hv:Hv b D' M' k' v) (hlt:K9 a b) (h:V8 u v≠true):v.lo≤u.hi:=by
  rcases Qx v.lo u.hi with e | e
  · exact e
  · refine absurd (decide_eq_true ⟨D3.2 (Rat.le_of_lt e),fun h'=>?_⟩) h
    have:=Qjy.1 h'.2; grind
theorem Qfe (m:Nat):((2^(m+1):Nat):Rat)=2*((2^m:Nat):Rat):=by rw [Nat.pow_succ]; push_cast; grind
def Qyr (a b:Tm) (r:Tm×Tm×Int):Prop:=r.2.2=-1∧K9 a b∨r.2.2=1∧K9 b a
theorem Qm0 (A B:List Int):Xw A B=Xw B A:=by unfold Xw; rw [Nat.add_comm A.length,Nat.add_comm (Zd A)]
theorem Q1o {a b:Tm} (ha:Va a) (hb:Va b) (hne:¬TEq a b) {D M D' M':Nat} (hM:0<M) (hM':0<M'):∀ (i j:Nat) (u v:Tm) (k k':Nat) (W:Rat),2*i+1≤j→Hv a D M k u→Hv b D' M' k' v→Qt (D:Int)+Qt (M:Int)+(k+j)≤16777216→Qt (D':Int)+Qt (M':Int)+(k'+j)≤16777216→u.hi-u.lo≤W→v.hi-v.lo≤W→2*W*((2^(Xw a.p b.p+1):Nat):Rat)≤((2^i:Nat):Rat)→∃ r,Iq j u v=some r∧Qyr a b r:=by
  intro i
  -- one look,one step
  have step:∀ (j:Nat) (u v:Tm) (k k':Nat),Hv a D M k u→Hv b D' M' k' v→Qt (D:Int)+Qt (M:Int)+(k+(j+1))≤16777216→Qt (D':Int)+Qt (M':Int)+(k'+(j+1))≤16777216→(∃ r,Iq (j+1) u v=some r∧Qyr a b r)∨(V8 u v≠true∧V8 v u≠true∧∃ u' v' k1 k1',Iq (j+1) u v=Iq j u' v'∧Hv a D M k1 u'∧Hv b D' M' k1' v'∧k1≤k+1∧k1'≤k'+1∧(v.hi-v.lo≤u.hi-u.lo∧u'.hi-u'.lo≤(u.hi-u.lo) / 2∧v'=v∨u.hi-u.lo≤v.hi-v.lo∧v'.hi-v'.lo≤(v.hi-v.lo) / 2∧u'=u)):=by
    intro j u v k k' hu hv hs hs'
    by_cases h1:V8 u v=true
    · exact .inl ⟨(u,v,-1),by simp only [Iq]; rw [if_pos h1],.inl ⟨rfl,Qdc ha hb hu hv hne h1⟩⟩
    by_cases h2:V8 v u=true
    · exact .inl ⟨(u,v,1),by simp only [Iq]; rw [if_neg h1,if_pos h2],.inr ⟨rfl,Qdc hb ha hv hu (fun h=>hne fun q=>(h q).symm) h2⟩⟩
    refine .inr ⟨h1,h2,?_⟩
    by_cases h3:0≤Zm (Ie u.hi u.lo) (Ie v.hi v.lo)
    · obtain ⟨x,x1,x2,x3,_⟩:=Qbp hu hM (by omega)
      refine ⟨x,v,k+1,k',?_,x2,hv,by omega,by omega,.inl ⟨?_,x3,rfl⟩⟩
      · simp only [Iq]; rw [if_neg h1,if_neg h2,if_pos h3,x1]; rfl
      · have:=D2.1 h3; rwa [Lr,Lr] at this
    · obtain ⟨x,x1,x2,x3,_⟩:=Qbp hv hM' (by omega)
      refine ⟨u,x,k,k'+1,?_,hu,x2,by omega,by omega,.inr ⟨?_,x3,rfl⟩⟩
      · simp only [Iq]; rw [if_neg h1,if_neg h2,if_neg h3,x1]; rfl
      · rcases Qx (u.hi-u.lo) (v.hi-v.lo) with e | e
        · exact e
        · refine absurd (D2.2 ?_) h3
          rw [Lr,Lr]; exact Rat.le_of_lt e
  induction i with
  |
   zero =>
   intro j u v k k' W hj hu hv hs hs' hW hW' hK
   obtain ⟨j,rfl⟩:∃ m,j=m+1:=⟨j-1,by omega⟩
   rcases step j u v k k' hu hv hs hs' with h | ⟨h1,h2,_⟩
   · exact h
   · exfalso
     have hpow:(0:Rat)≤((2^(Xw a.p b.p+1):Nat):Rat):=Rat.natCast_nonneg
     rw [Nat.pow_zero] at hK
     rcases tri ha.cut hb.cut with h3 | h3 | h3
     · have h4:=Qld ha hb hu hv h3 h1
       have h5:=Qqh ha hb hu hv h3
       have h6:=Rat.mul_le_mul_of_nonneg_right (show v.hi-u.lo≤2*W by clear step; grind) hpow
       have h7:((1:Nat):Rat)=1:=rfl
       rw [h7] at hK
       clear step; grind
     · exact hne h3
     · have h4:=Qld hb ha hv hu h3 h2
       have h5:=Qqh hb ha hv hu h3
       rw [Qm0] at h5
       have h6:=Rat.mul_le_mul_of_nonneg_right (show u.hi-v.lo≤2*W by clear step; grind) hpow
       have h7:((1:Nat):Rat)=1:=rfl
       rw [h7] at hK
       clear step; grind
  |
   succ i ih =>
   intro j u v k k' W hj hu hv hs hs' hW hW' hK
   obtain ⟨j,rfl⟩:∃ m,j=m+2:=⟨j-2,by omega⟩
   have hd:∀ x:Rat,x / 2*2=x:=fun x=>Zh (by decide)
   rcases step (j+1) u v k k' hu hv hs hs' with h | ⟨_,_,u1,v1,k1,k1',e1,hu1,hv1,hk1,hk1',hw1⟩
   · exact h
   · rw [e1]
     rcases step j u1 v1 k1 k1' hu1 hv1 (by omega) (by omega) with h | ⟨_,_,u2,v2,k2,k2',e2,hu2,hv2,hk2,hk2',hw2⟩
     · exact h
     · rw [e2]
       have a1:=hd (u.hi-u.lo); have a2:=hd (v.hi-v.lo); have a3:=hd (u1.hi-u1.lo); have a4:=hd (v1.hi-v1.lo); have a5:=hd W
       have b1:=hu.le; have b2:=hv.le; have b3:=hu1.le; have b4:=hv1.le; have b5:=hu2.le; have b6:=hv2.le
       have hww:u2.hi-u2.lo≤W / 2∧v2.hi-v2.lo≤W / 2:=by
         clear step ih
         rcases hw1 with ⟨c1,c2,rfl⟩ | ⟨c1,c2,rfl⟩ <;> rcases hw2 with ⟨d1,d2,rfl⟩ | ⟨d1,d2,rfl⟩ <;> constructor <;> grind
       refine ih j u2 v2 k2 k2' (W / 2) (by omega) hu2 hv2 (by omega) (by omega) hww.1 hww.2 ?_
       rw [Qfe i] at hK
       have:2*(W / 2)*((2^(Xw a.p b.p+1):Nat):Rat)*2=2*W*((2^(Xw a.p b.p+1):Nat):Rat):=by clear step ih hw1 hw2; grind
       clear step ih hw1 hw2; grind
end Orq

namespace Orq
open Orr Go
def CmpOk (a b:Tm) (c:Int):Prop:=c=-1∧K9 a b∨c=0∧TEq a b∨c=1∧K9 b a
theorem Va.hv0 {t:Tm} (h:Va t):∃ D M k,Hv t D M k t∧0<M∧Qt (D:Int)+Qt (M:Int)+k≤1000000:=by
  obtain ⟨D,M,k,h1,h2,h3,h4⟩:=h.g
  exact ⟨D,M,k,⟨rfl,h.i,fun _=>rfl,h1,h2⟩,h3,h4⟩
theorem Qhy {a:Tm} (ha:Va a) (hp:a.point=true) (q:Rat):Qu a q=Zm a.lo q:=Uz (ha.pt hp).1 q
theorem Qpr {a b:Tm} (hb:Va b) {x:Rat} (hx:∀ q,Qu a q=Zm x q):CmpOk a b (-Qu b x):=by
  have cb:=hb.cut
  rcases cb.val x with h | h | h
  · obtain ⟨q,q1,q2⟩:=cb.up x h
    refine .inl ⟨by omega,q,?_,q2⟩
    rw [hx]; rcases Vj x q with ⟨e,e'⟩ | ⟨e,e'⟩ | ⟨e,e'⟩ <;> grind
  · exact .inr (.inl ⟨by omega,fun q=>by rw [hx,Qdq cb h]⟩)
  · obtain ⟨q,q1,q2⟩:=cb.dn x h
    refine .inr (.inr ⟨by omega,q,q2,?_⟩)
    rw [hx]; rcases Vj x q with ⟨e,e'⟩ | ⟨e,e'⟩ | ⟨e,e'⟩ <;> grind
theorem CmpOk.symm {a b:Tm} {c:Int} (h:CmpOk a b c):CmpOk b a (-c):=by
  rcases h with ⟨h1,h2⟩ | ⟨h1,h2⟩ | ⟨h1,h2⟩
  · exact .inr (.inr ⟨by omega,h2⟩)
  · exact .inr (.inl ⟨by omega,fun q=>(h2 q).symm⟩)
  · exact .inl ⟨by omega,h2⟩
theorem Q22:Szz 9 1000:=⟨by decide,by decide⟩
theorem Mf (g:List Int) (lo hi:Rat):Me g lo hi=true↔Qhc (cz g) lo hi:=by
  unfold Me Qhc
  rw [decide_eq_true_iff,Vs,Qel,Qh]
theorem Qd7 {g:List Int} (tg:Qm g) (hn:g.length≠0) {lo hi:Rat} (h:Qhc (cz g) lo hi):1<g.length:=by
  rcases Nat.lt_or_ge 1 g.length with e | e
  · exact e
  · exfalso
    obtain ⟨c,rfl⟩:∃ c,g=[c]:=List.length_eq_one_iff.1 (by omega)
    have hc:c≠0:=by have:=Xi tg (by simp); simpa using this
    have hv:∀ t,ev (cz [c]) t=(c:Rat):=fun t=>by rw [Qh]; simp only [Qg]; grind
    have hs:Qj (c:Rat)≠0:=fun h=>Rh hc (Q0.1 h)
    unfold Qhc at h
    rw [hv,Un (by rw [hv]; exact hs),hv] at h
    rcases h with h | h
    · exact hs h
    · exact h rfl
theorem Ak {q:Rat}:Ql q≤((2^Qt q.num:Nat):Rat):=by
  have h1:Qt q.num≤Qt q.num:=Nat.le_refl _
  rw [Y3] at h1
  have e:(q.num:Rat)=q*(q.den:Rat):=by
    have:(q.num:Rat) / (((q.den:Int)):Rat)=q:=by rw [Z3,Rat.num_divInt_den]
    have h2:(q.num:Rat) / (q.den:Rat)*(q.den:Rat)=q.num:=Rat.div_mul_cancel (by have:=nat_pos q.den_pos; grind)
    rw [show (q.num:Rat) / (q.den:Rat)=q from this] at h2; exact h2.symm
  have hd:(1:Rat)≤(q.den:Rat):=by
    have:((1:Nat):Rat)≤(q.den:Rat):=Rat.natCast_le_natCast.2 q.den_pos
    exact this
  have h2:Ql q≤Ql (q.num:Rat):=by
    rw [e,U5]
    have:Ql (q.den:Rat)=(q.den:Rat):=by unfold Ql; rw [if_neg (by grind)]
    rw [this]
    have:=Vn (a:=Ql q) (c:=1) (Zx q) Rat.le_refl (by decide) hd
    grind
  rw [Jc] at h2
  exact Rat.le_trans h2 (Rat.natCast_le_natCast.2 (Nat.le_of_lt h1))
theorem Cm {a:Tm} {w:Nat} (h:Qt a.lo.num+Qt a.hi.num≤w):a.hi-a.lo≤((2^(w+1):Nat):Rat):=by
  have h1:=Ak (q:=a.lo)
  have h2:=Ak (q:=a.hi)
  have h3:((2^Qt a.lo.num:Nat):Rat)≤((2^w:Nat):Rat):=Rat.natCast_le_natCast.2 (Nat.pow_le_pow_right (by decide) (by omega))
  have h4:((2^Qt a.hi.num:Nat):Rat)≤((2^w:Nat):Rat):=Rat.natCast_le_natCast.2 (Nat.pow_le_pow_right (by decide) (by omega))
  rw [Qfe]
  rw [Yd] at h1 h2
  grind
theorem Gi {p:List Int} {s:Nat} (h:Bd s p):Zd p≤s:=by
  have:=Yc h p.length; rwa [List.take_length] at this
theorem Qtc {a b:Tm} (ha:Va a) (hb:Va b) (pa:a.point=false) (pb:b.point=false):Jz a b≤9000000:=by
  have q1:=ha.qs; have q2:=hb.qs
  have l1:=ha.n; have l2:=hb.n
  have s1:=Gi (ha.bi pa); have s2:=Gi (hb.bi pb)
  have b1:=q1.1.1; have b2:=q1.2.1; have b3:=q2.1.1; have b4:=q2.2.1
  have:4*(a.p.length+b.p.length)*(Zd a.p+Zd b.p+(a.p.length+b.p.length)+8)≤4*18*2100:=Nat.mul_le_mul (by omega) (by omega)
  unfold Jz; omega
theorem Qn6 {a b:Tm} (ha:Va a) (hb:Va b) (pa:a.point=false) (pb:b.point=false) (hne:¬TEq a b):∃ r,Iq (Jz a b) a b=some r∧Qyr a b r:=by
  obtain ⟨D,M,k,h1,h2,h3⟩:=ha.hv0
  obtain ⟨D',M',k',h1',h2',h3'⟩:=hb.hv0
  have hst:=Qtc ha hb pa pb
  obtain ⟨w,hw⟩:∃ w,w=Qt a.lo.num+Qt a.hi.num+Qt b.lo.num+Qt b.hi.num:=⟨_,rfl⟩
  obtain ⟨K,hK⟩:∃ K,K=Zd a.p+Zd b.p+(a.p.length+b.p.length)+8:=⟨_,rfl⟩
  obtain ⟨n,hn⟩:∃ n,n=a.p.length+b.p.length:=⟨_,rfl⟩
  have l1:=ha.n2; have l2:=hb.n2
  have hsteps:Jz a b=64+2*w+4*n*K:=by unfold Jz; rw [hw,hK,hn]
  have hg:Xw a.p b.p=K*(2*(n-2)-1):=by unfold Xw; rw [hK,hn]
  have hgle:Xw a.p b.p+5*K≤2*n*K:=by
    rw [hg,Nat.mul_comm K,←Nat.add_mul]
    exact Nat.mul_le_mul_right _ (by omega)
  have hKp:8≤K:=by omega
  refine Q1o ha hb hne h2 h2' (31+w+2*n*K) (Jz a b) a b k k' ((2^(w+1):Nat):Rat) ?_ h1 h1' (by omega) (by omega) (Cm (by omega)) (Cm (by omega)) ?_
  · rw [hsteps,Nat.mul_add,Nat.mul_assoc 4,Nat.mul_assoc 2 n]; omega
  · have e:2*(2^(w+1))*(2^(Xw a.p b.p+1))≤2^(31+w+2*n*K):=by
      rw [Nat.mul_comm 2,←Nat.pow_succ,←Nat.pow_add]
      exact Nat.pow_le_pow_right (by decide) (by omega)
    have:=Rat.natCast_le_natCast.2 e
    push_cast at this ⊢
    exact this
theorem Dz {a b:Tm} (ha:Va a) (hb:Va b):∃ c,En a b=some c∧CmpOk a b c:=by
  unfold En
  by_cases pa:a.point=true
  · rw [if_pos pa]
    exact ⟨_,rfl,Qpr hb (Qhy ha pa)⟩
  rw [if_neg pa]
  by_cases pb:b.point=true
  · rw [if_pos pb]
    have:=(Qpr ha (Qhy hb pb)).symm
    rw [Int.neg_neg] at this
    exact ⟨_,rfl,this⟩
  rw [if_neg pb]
  have pa:a.point=false:=by simpa using pa
  have pb:b.point=false:=by simpa using pb
  obtain ⟨L,V⟩:=ha.iv pa
  obtain ⟨L',V'⟩:=hb.iv pb
  have eqa:∀ q,Qu a q=cq (cz a.p) a.lo a.hi q:=Vk V.l
  have eqb:∀ q,Qu b q=cq (cz b.p) b.lo b.hi q:=Vk V'.l
  obtain ⟨lo,hlo⟩:∃ lo,lo=if 0<Zm b.lo a.lo then b.lo else a.lo:=⟨_,rfl⟩
  obtain ⟨hi,hhi⟩:∃ hi,hi=if Zm b.hi a.hi<0 then b.hi else a.hi:=⟨_,rfl⟩
  show ∃ c,(if Zm (if 0<Zm b.lo a.lo then b.lo else a.lo) (if Zm b.hi a.hi<0 then b.hi else a.hi)<0 then _ else _)=some c∧_
  rw [←hlo,←hhi]
  have e1:(0<Zm b.lo a.lo)=(a.lo<b.lo):=propext Ws
  have e2:(Zm b.hi a.hi<0)=(b.hi<a.hi):=propext Kk
  have e3:(Zm lo hi<0)=(lo<hi):=propext Kk
  simp only [e1] at hlo
  simp only [e2] at hhi
  simp only [e3]
  obtain ⟨g,g1,g2,g3,g4⟩:=Qqq Q22 ha.tr hb.tr ha.n hb.n (ha.bi pa) (hb.bi pb) (by have:=ha.n2; omega)
  obtain ⟨U,W,hc⟩:=g2.c
  obtain ⟨u,hu⟩:=g2.da
  obtain ⟨u',hu'⟩:=g2.db
  have key:=V.same V' (g:=cz g) (u:=u) (u':=u') (U:=U) (W:=W) (k:=1) (by decide) hu hu' (fun t=>by rw [Qh,Qh,Qh,hc]; grind) (a:=lo) (b:=hi) (by rw [hlo]; split <;> grind) (by rw [hlo]; split <;> grind) (by rw [hlo]; split <;> simp) (by rw [hhi]; split <;> grind) (by rw [hhi]; split <;> grind) (by rw [hhi]; split <;> simp)
  have hTE:(∀ q,cq (cz a.p) a.lo a.hi q=cq (cz b.p) b.lo b.hi q)↔TEq a b:=by
    unfold TEq; constructor
    · intro h q; rw [eqa,eqb]; exact h q
    · intro h q; rw [←eqa,←eqb]; exact h q
  rw [hTE] at key
  have fin:¬TEq a b→∃ c,((Iq (Jz a b) a b).bind fun r=>some r.2.2)=some c∧CmpOk a b c:=fun hne=>by
    obtain ⟨r,r1,r2⟩:=Qn6 ha hb pa pb hne
    refine ⟨r.2.2,by rw [r1]; rfl,?_⟩
    rcases r2 with h | h
    · exact .inl h
    · exact .inr (.inr h)
  by_cases hl:lo<hi
  · rw [if_pos hl,g1]
    show ∃ c,(if 1<g.length∧Me g lo hi=true then some 0 else (Iq (Jz a b) a b).bind fun r=>some r.2.2)=some c∧_
    by_cases hh:Me g lo hi=true
    · have hq:=(Mf g lo hi).1 hh
      rw [if_pos ⟨Qd7 g2.t g2.n hq,hh⟩]
      exact ⟨0,rfl,.inr (.inl ⟨rfl,key.1 ⟨hl,hq⟩⟩)⟩
    · rw [if_neg fun h=>hh h.2]
      exact fin fun h=>hh ((Mf g lo hi).2 (key.2 h).2)
  · rw [if_neg hl]
    exact fin fun h=>hl (key.2 h).1
def SgT (p:List Int) (a:Tm) (s:Int):Prop:=s=0∧Fl (cz p) (Qu a)∨s≠0∧NZ (cz p) (Qu a) s
theorem Q0r {p:List Int} {c:Rat→Int} (hc:Cut c) {x:Rat} (h:c x=0):Xb p x=0∧Fl (cz p) c∨Xb p x≠0∧NZ (cz p) c (Xb p x):=by
  rw [Vs,←Qh]
  rcases Ti hc (cz p) with h1 | ⟨s,hs,h1⟩
  · exact .inl ⟨Q0.2 (Ck hc h h1),h1⟩
  · have:=Qex hc h h1
    rw [this]; exact .inr ⟨hs,h1⟩
theorem Gt {l:List (List Int)} {lo hi:Rat} (h:lo≤hi):Xq l lo hi=(vv (l.map cz) lo:Int)-(vv (l.map cz) hi:Int):=by
  unfold Xq
  rw [if_neg fun h'=>by have:=Kk.1 h'; grind,Hi,Hi]
theorem Q0s {p q:List Int} {L:List (List Rat)} (hp:Qm p) (np:p.length≤9) (lp:2≤p.length) (hS:Dk (cz q) L) (hpq:Ht (cz q) (cz p)) {a:Tm} (ha:Va a) {s:Int} (hnz:NZ (cz p) (Qu a) s) {D M k:Nat} {x:Tm} (hx:Hv a D M k x) (hl:x.lo<x.hi) (hv:vv L x.lo≠vv L x.hi):1<(x.hi-x.lo)*((2^(Xw a.p p+1):Nat):Rat):=by
  rcases Qx ((x.hi-x.lo)*((2^(Xw a.p p+1):Nat):Rat)) 1 with hw | hw
  · exfalso
    have ca:=ha.cut
    obtain ⟨d,dp,x1,y1,c1,c2,hn⟩:=hnz
    obtain ⟨x2,x12,c3⟩:=ca.up x1 c1
    obtain ⟨y2,y12,c4⟩:=ca.dn y1 c2
    have hpow:(0:Rat)≤((2^(Xw a.p p+1):Nat):Rat):=Rat.natCast_nonneg
    obtain ⟨z,zp,z1,z2⟩:=min2 (a:=x2-x1) (b:=y1-y2) (by clear hn; grind) (by clear hn; grind)
    obtain ⟨R0,hR0,r1,r2⟩:=Qaq x.lo x.hi
    obtain ⟨u,hu⟩:=hpq
    refine Qqg (R:=R0+1) (d:=z) ha.tr hp ha.n np ha.n2 lp (by clear hn; grind) zp fun e ep=>?_
    -- q near a
    obtain ⟨q0,q1,q2,q3,q4,q5⟩:∃ q0,x.lo≤q0∧q0≤x.hi∧x2≤q0∧q0≤y2∧Ql (Qg a.p q0)<e:=by
      rcases hx.lo' with h1 | ⟨h1,h2⟩
      · obtain ⟨x',y',hx',hy',hq⟩:=ha.van e ep
        obtain ⟨m,m1,m2,m3,m4⟩:∃ m,Qu a m=1∧x.lo≤m∧x2≤m∧x'≤m:=by
          rcases Qx x.lo x2 with e1 | e1
          · rcases Qx x2 x' with e2 | e2
            · exact ⟨x',hx',by clear hn hq; grind,e2,Rat.le_refl⟩
            · exact ⟨x2,c3,e1,Rat.le_refl,Rat.le_of_lt e2⟩
          · rcases Qx x.lo x' with e2 | e2
            · exact ⟨x',hx',e2,by clear hn hq; grind,Rat.le_refl⟩
            · exact ⟨x.lo,h1,Rat.le_refl,Rat.le_of_lt e1,Rat.le_of_lt e2⟩
        refine ⟨m,m2,?_,m3,Rat.le_of_lt (ca.lt m1 c4),by rw [←Qh]; exact hq m m4 (Rat.le_of_lt (ca.lt m1 hy'))⟩
        rcases hx.hi' with h3 | h3
        · rcases Qx m x.hi with e1 | e1
          · exact e1
          · have:=ca.mono x.hi m e1 (by omega); omega
        · exact Rat.le_of_lt (ca.lt m1 h3)
      · exact absurd h2 (by clear hn; grind)
    -- r,a root of p nearly,within the interval
    obtain ⟨b,hb⟩:∃ b,b=evB R0 u:=⟨_,rfl⟩
    have hb0:0≤b:=by rw [hb]; exact Rb hR0 u
    obtain ⟨f,fp,_,hf⟩:=Zi (b:=b) (d:=if e≤d then e else d) hb0 (by split <;> assumption)
    obtain ⟨r,r3,r4,r5⟩:=Qct hS hl hv fp
    have hrR:Ql r≤R0:=Mh r1 r2 r3 r4
    have hpr:Ql (Qg p r)<(if e≤d then e else d):=by
      rw [←Qh,hu]
      have:=Zg (Rat.le_of_lt r5) (C0 hrR u)
      rw [←hb] at this
      exact Rat.not_le.1 fun h=>absurd (Rat.le_trans h this) (Rat.not_le.2 hf)
    have hpe:Ql (Qg p r)<e:=by split at hpr <;> (clear hn; grind)
    have hpd:Ql (Qg p r)<d:=by split at hpr <;> (clear hn; grind)
    have hrout:r<x1∨y1<r:=by
      rcases Qx x1 r with e1 | e1
      · rcases Qx r y1 with e2 | e2
        · have:=(hn r e1 e2).2
          rw [Qh] at this
          exact absurd this (Rat.not_le.2 hpd)
        · exact .inr e2
      · exact .inl e1
    have hqr:z≤Ql (q0-r):=by
      clear hn
      rcases hrout with h | h
      · have:Ql (q0-r)=q0-r:=by unfold Ql; split <;> grind
        rw [this]; grind
      · have:Ql (q0-r)=r-q0:=by unfold Ql; split <;> grind
        rw [this]; grind
    have hq0R:Ql q0≤R0:=Mh r1 r2 q1 q2
    refine ⟨q0,r,by clear hn; grind,by clear hn; grind,hqr,?_,q5,hpe⟩
    have h1:Ql (q0-r)≤x.hi-x.lo:=by rw [Yd]; clear hn; constructor <;> grind
    exact Rat.le_trans (Rat.mul_le_mul_of_nonneg_right h1 hpow) hw
  · exact hw
theorem Qs2 {p q:List Int} {l:List (List Int)} (hp:Qm p) (np:p.length≤9) (lp:2≤p.length) (hS:Dk (cz q) (l.map cz)) (hpq:Ht (cz q) (cz p)) {a:Tm} (ha:Va a) {s:Int} (hnz:NZ (cz p) (Qu a) s) {D M:Nat} (hM:0<M):∀ (j i:Nat) (x:Tm) (k:Nat) (W:Rat),i+1≤j→Hv a D M k x→Qt (D:Int)+Qt (M:Int)+(k+j)≤16777216→x.hi-x.lo≤W→W*((2^(Xw a.p p+1):Nat):Rat)≤((2^i:Nat):Rat)→∃ u k',sgF l j x=some u∧Hv a D M k' u∧(u.point=true∨Xq l u.lo u.hi=0)
  | 0,i,x,k,W,h,_,_,_,_=>by omega
  |
   j+1,i,x,k,W,hj,hx,hs,hW,hK=>by
   simp only [sgF]
   by_cases h:x.point=true∨Xq l x.lo x.hi=0
   · rw [if_pos h]; exact ⟨x,k,rfl,hx,h⟩
   · rw [if_neg h]
     obtain ⟨v,v1,v2,v3,_⟩:=Qbp hx hM (by omega)
     rw [v1]
     show ∃ u k',sgF l j v=some u∧_
     have hpt:¬x.hi≤x.lo:=fun h'=>h (.inl (Vd.2 h'))
     have hl:x.lo<x.hi:=by grind
     have hvv:vv (l.map cz) x.lo≠vv (l.map cz) x.hi:=fun h'=>h (.inr (by rw [Gt (Rat.le_of_lt hl)]; omega))
     have hg:=Q0s hp np lp hS hpq ha hnz hx hl hvv
     have hpow:(0:Rat)≤((2^(Xw a.p p+1):Nat):Rat):=Rat.natCast_nonneg
     have hd:∀ x:Rat,x / 2*2=x:=fun x=>Zh (by decide)
     cases i with
     |
      zero =>
      exfalso
      rw [Nat.pow_zero] at hK
      have:=Rat.mul_le_mul_of_nonneg_right hW hpow
      have h7:((1:Nat):Rat)=1:=rfl
      rw [h7] at hK
      grind
     |
      succ i =>
      refine Qs2 hp np lp hS hpq ha hnz hM j i v (k+1) (W / 2) (by omega) v2 (by omega) ?_ ?_
      · have:=hd (x.hi-x.lo); have:=hd W; grind
      · rw [Qfe i] at hK
        have:=hd W
        have:W / 2*((2^(Xw a.p p+1):Nat):Rat)*2=W*((2^(Xw a.p p+1):Nat):Rat):=by grind
        grind
theorem Qe5 {x y:Rat}:∀ {ws:List (List Rat)},(∀ w∈ws,Qj (ev w x)=Qj (ev w y))→Qj (ev (Gd ws) x)=Qj (ev (Gd ws) y)
  | [],_=>by simp only [Gd]; rw [Xj,Xj]
  |
   w::l,h=>by
   simp only [Gd]
   rw [Qi,Qi,Ja,Ja,h w (List.mem_cons_self ..),Qe5 fun v hv=>h v (List.mem_cons_of_mem _ hv)]
theorem Qnd {p q o:List Int} (hpt:Parts p q o) (tp:Qm p) (hp:p.length≠0) {L:List (List Rat)} (hS:Dk (cz q) L) {x y:Rat} (hxy:x<y) (hv:vv L x=vv L y):∃ s,s≠0∧∀ z,x<z→z≤y→Qj (Qg p z)=s:=by
  obtain ⟨ws,w1,w2⟩:=hpt.ws
  obtain ⟨_,_,_,_,_,p6,p7⟩:=Vr tp hp
  have key:∀ z,x<z→z≤y→∀ w∈ws.map cz,Sm w x z:=fun z h1 h2 w hw=>by
    obtain ⟨v,hv',rfl⟩:=List.mem_map.1 hw
    obtain ⟨u,hu⟩:=(w1 v hv').2
    have a1:=Us hS h1
    have a2:vv L y≤vv L z:=by
      rcases Classical.em (z=y) with e | e
      · rw [e]; exact Nat.le_refl _
      · exact Us hS (by grind)
    exact Sz hS hu h1 (by omega)
  have hval:∀ z,Qg p z=(Zr p:Rat)*ev (Gd (ws.map cz)) z:=fun z=>by rw [p7,w2]
  refine ⟨Qj (Qg p y),fun h0=>?_,fun z h1 h2=>?_⟩
  · rw [hval,Ja] at h0
    rcases Int.mul_eq_zero.1 h0 with h | h
    · exact Rh p6 (Q0.1 h)
    · have:∀ l:List (List Rat),(∀ w∈l,Qj (ev w y)≠0)→Qj (ev (Gd l) y)≠0:=by
        intro l
        induction l with
        | nil=>intro _; simp only [Gd]; rw [Xj]; decide
        |
         cons w l ih =>
         intro h
         simp only [Gd]
         rw [Qi,Ja]
         exact Int.mul_ne_zero (h w (List.mem_cons_self ..)) (ih fun v hv=>h v (List.mem_cons_of_mem _ hv))
      refine this _ (fun w hw=>?_) h
      have hs:=key y hxy Rat.le_refl w hw
      rw [hs.s]; exact hs.n
  · rw [hval,hval,Ja,Ja,Qe5 (y:=y) fun w hw=>(key z h1 h2 w hw).s.trans (key y hxy Rat.le_refl w hw).s.symm]
theorem Qzv {g p P:List Int} {c:Rat→Int} (hc:Cut c) (hg:Gc g p P):Fl (cz g) c↔Fl (cz p) c∧Fl (cz P) c:=by
  constructor
  · intro h
    obtain ⟨u,hu⟩:=hg.da
    obtain ⟨v,hv⟩:=hg.db
    exact ⟨J1 hc hu h,J1 hc hv h⟩
  · rintro ⟨h1,h2⟩
    obtain ⟨U,V,hcc⟩:=hg.c
    have a1:Fl (Za U (cz p)) c:=J1 hc (p:=cz p) (q:=U) (fun t=>by rw [Qi]; grind) h1
    have a2:Fl (Za V (cz P)) c:=J1 hc (p:=cz P) (q:=V) (fun t=>by rw [Qi]; grind) h2
    exact Lx (fun t=>by rw [Qh,hcc,Qi,Qi,Qh,Qh]) a1 a2
theorem Qs7 {p:List Int} (hp:Okp 9 900 p) {a:Tm} (ha:Va a):∃ s,Qag p a=some s∧SgT p a s:=by
  unfold Qag
  rw [if_neg hp.nz]
  have ca:=ha.cut
  by_cases pa:a.point=true
  · rw [if_pos pa]
    exact ⟨_,rfl,Q0r ca (x:=a.lo) (by rw [Qhy ha pa,W0])⟩
  rw [if_neg pa]
  have pa:a.point=false:=by simpa using pa
  obtain ⟨L,V⟩:=ha.iv pa
  have eqa:∀ q,Qu a q=cq (cz a.p) a.lo a.hi q:=Vk V.l
  obtain ⟨g,g1,g2,g3,g4⟩:=Qqq Q22 hp.t ha.tr hp.l ha.n (Qc hp.b (by omega)) (ha.bi pa) hp.nz
  obtain ⟨u',hu'⟩:=g2.db
  have hhas:=V.has hu' (a:=a.lo) (b:=a.hi) Rat.le_refl V.l Rat.le_refl
  have hvan:=Qzv ca g2
  rw [show cq (cz a.p) a.lo a.hi=Qu a from (funext eqa).symm] at hhas
  rw [g1]
  show ∃ s,(if 1<g.length∧Me g a.lo a.hi=true then some 0 else _)=some s∧_
  by_cases hh:Me g a.lo a.hi=true
  · have hq:=(Mf g _ _).1 hh
    rw [if_pos ⟨Qd7 g2.t g2.n hq,hh⟩]
    exact ⟨0,rfl,.inl ⟨rfl,(hvan.1 (hhas.1 hq).1).1⟩⟩
  · rw [if_neg fun h=>hh h.2]
    have hnv:¬Fl (cz p) (Qu a):=fun h=>hh ((Mf g _ _).2 (hhas.2 ⟨hvan.2 ⟨h,ha.van⟩,by rw [eqa]; exact Uf Rat.le_refl,by rw [eqa]; exact V.hi1⟩))
    rcases Ti ca (cz p) with h | ⟨s,Io,hnz⟩
    · exact absurd h hnv
    obtain ⟨q,o,q1,q2,hpt⟩:=Qrv hp
    obtain ⟨q',l,r1,r2,hS,hl0⟩:=chain_ok hp
    rw [q1] at r1
    injection r1 with r1
    subst r1
    rw [r2]
    show ∃ s,((sgF (q::l) (64+2*(Qt a.lo.num+Qt a.hi.num)+4*(a.p.length+p.length)*(Zd a.p+Zd p+(a.p.length+p.length)+8)) a).bind fun x=>some (Xb p x.hi))=some s∧_
    obtain ⟨w,hw⟩:∃ w,w=Qt a.lo.num+Qt a.hi.num:=⟨_,rfl⟩
    obtain ⟨K,hK⟩:∃ K,K=Zd a.p+Zd p+(a.p.length+p.length)+8:=⟨_,rfl⟩
    obtain ⟨n,hn⟩:∃ n,n=a.p.length+p.length:=⟨_,rfl⟩
    rw [←hw,←hK,←hn]
    obtain ⟨gg,sq⟩:=hpt.sq
    obtain ⟨_,_,_,_,_,pf0,pfe⟩:=Vr hp.t hp.nz
    have hpq:Ht (cz q) (cz p):=⟨Kr (Zr p) (cz gg),fun t=>by rw [Qh,Qh,Q5,Qh,pfe,sq.e]; grind⟩
    obtain ⟨D,M,k,h1,h2,h3⟩:=ha.hv0
    have b1:=ha.qs.1.1; have b2:=ha.qs.2.1
    have l1:=ha.n; have l2:=hp.l; have l3:=ha.n2
    have s1:=Gi (ha.bi pa); have s2:=Gi hp.b
    have hst:4*n*K≤4*18*1926:=Nat.mul_le_mul (by omega) (by omega)
    -- the loop ends
    have hend:∃ u k',sgF (q::l) (64+2*w+4*n*K) a=some u∧Hv a D M k' u∧(u.point=true∨Xq (q::l) u.lo u.hi=0):=by
      by_cases Mg:p.length<2
      · have hq1:(Qn p)=[1]:=hp.pr.1.one (by have:=hp.pr.2.1; omega)
        have hql:q.length<2:=by
          have e:=sq.e
          rw [hq1] at e
          obtain ⟨p1,p2⟩:=Xm (c:=[1]) rfl (by simp) e
          have:=Yj sq.pg.t sq.pq.t (c:=[1]) rfl e p1 p2
          simp at this; omega
        have hbt:Xq (q::l) a.lo a.hi=0:=by
          rw [Gt (Rat.le_of_lt V.l),hl0 hql,sq.pq.one hql]
          have hv1:∀ x:Rat,ev (cz [1]) x=1:=fun x=>by rw [Qh,Yx]
          simp only [List.map_cons,List.map_nil,vv,tc,hv1]; omega
        refine ⟨a,k,?_,h1,.inr hbt⟩
        obtain ⟨m,hm⟩:∃ m,64+2*w+4*n*K=m+1:=⟨63+2*w+4*n*K,by omega⟩
        rw [hm]
        simp only [sgF]
        rw [if_pos (.inr hbt)]
      · have hg:Xw a.p p=K*(2*(n-2)-1):=by unfold Xw; rw [hK,hn]
        have hgle:Xw a.p p+5*K≤2*n*K:=by
          rw [hg,Nat.mul_comm K,←Nat.add_mul]
          exact Nat.mul_le_mul_right _ (by omega)
        have hKp:8≤K:=by omega
        have hnK:2*n*K≤4*n*K:=Nat.mul_le_mul_right _ (by omega)
        obtain ⟨u,k',u1,u2,u3⟩:=Qs2 hp.t hp.l (by omega) hS hpq ha hnz h2 (64+2*w+4*n*K) (2+w+2*n*K) a k ((2^(w+1):Nat):Rat) (by omega) h1 (by omega) (Cm (by omega)) (by
          have e:(2^(w+1))*(2^(Xw a.p p+1))≤2^(2+w+2*n*K):=by
            rw [←Nat.pow_add]
            exact Nat.pow_le_pow_right (by decide) (by omega)
          have:=Rat.natCast_le_natCast.2 e
          push_cast at this ⊢
          exact this)
        exact ⟨u,k',u1,u2,u3⟩
    obtain ⟨u,k',u1,u2,u3⟩:=hend
    rw [u1]
    refine ⟨_,rfl,.inr ?_⟩
    have hfin:Xb p u.hi=s:=by
      rcases u2.hi' with hz | hz
      · have:=Qex ca hz hnz
        rw [Vs,←Qh]; exact this
      · rcases u2.i with ⟨e,_⟩ | ⟨L',V'⟩
        · have:=u2.c u.hi
          rw [Uz e,e,W0] at this; omega
        · have hup:u.point=false:=by
            have:¬u.point=true:=fun h=>by have:=Vd.1 h; have:=V'.l; grind
            simpa using this
          rcases u3 with h | h
          · rw [hup] at h; cases h
          · rw [Gt (Rat.le_of_lt V'.l)] at h
            obtain ⟨s',hs',hps⟩:=Qnd hpt hp.t hp.nz hS V'.l (by omega)
            obtain ⟨d,dp,x,y,hx,hy,hq⟩:=hnz
            have hlo1:Qu a u.lo=1:=by
              rcases u2.lo' with h | ⟨_,h⟩
              · exact h
              · have:=V'.l; clear hps hq; grind
            obtain ⟨m,m1,m2,m3⟩:=Es ca hlo1 hx
            have e1:=(hq m (Rat.le_of_lt m3) (Rat.le_of_lt (ca.lt m1 hy))).1
            have e2:=hps m m2 (Rat.le_of_lt (ca.lt m1 hz))
            have e3:=hps u.hi V'.l Rat.le_refl
            rw [Vs,e3,←e2,←Qh,e1]
    rw [hfin]; exact ⟨Io,hnz⟩
end Orq

namespace Orq
open Orr Go
structure Dp (p:List Int):Prop where
  t:Qm p
  l:p.length≤9
  b:Bd (860+4*(9-p.length)) p
theorem Qlc:Szz 9 973:=⟨by decide,by decide⟩
theorem Dp.ok {p:List Int} (h:Dp p) (h0:p.length≠0):Okp 9 900 p:=⟨Qlc,h.t,h0,h.l,Qc h.b (by omega)⟩
theorem Dp.der {p:List Int} (h:Dp p):Dp (Zv p):=by
  have hl:=Ky p
  have hl2:=h.l
  refine ⟨Zc _ _,by omega,?_⟩
  by_cases h0:p.length=0
  · rw [List.eq_nil_of_length_eq_zero (l:=Zv p) (by omega)]; exact Nv
  · exact Qc (Qgl h.b (by omega)) (by omega)
def Zp (a:Tm) (p:List Int):Int:=(Qag p a).getD 0
theorem Qs0 {p:List Int} (h:Dp p) {a:Tm} (ha:Va a):Qag p a=some (Zp a p)∧SgT p a (Zp a p):=by
  by_cases h0:p.length=0
  · have e:p=[]:=List.eq_nil_of_length_eq_zero h0
    subst e
    refine ⟨rfl,.inl ⟨rfl,fun d dp=>?_⟩⟩
    obtain ⟨x,y,h1,h2,_⟩:=ha.cut.near (e:=1) (by decide)
    exact ⟨x,y,h1,h2,fun q _ _=>by simp only [cz,List.map_nil,ev,Z6]; exact dp⟩
  · obtain ⟨s,h1,h2⟩:=Qs7 (h.ok h0) ha
    have e:Zp a p=s:=by unfold Zp; rw [h1]; rfl
    rw [e]; exact ⟨h1,h2⟩
theorem Q0p {c:Rat→Int} {p q:List Rat} {s:Int} (h:∀ t,ev p t=ev q t) (hp:RS p c s):RS q c s:=by
  obtain ⟨y,h1,h2⟩:=hp
  exact ⟨y,h1,fun z h3 h4=>by rw [←h]; exact h2 z h3 h4⟩
theorem Oq {a:Tm} (ha:Va a):∀ (k:Nat) (p:List Int),Dp p→p.length≤k→p.length≠0→RS (cz p) (Qu a) (Jw (Zp a) k p)∧Jw (Zp a) k p≠0
  | 0,p,_,h1,h2=>by omega
  |
   k+1,p,h,h1,h2=>by
   simp only [Jw]
   rw [if_neg h2]
   obtain ⟨_,hs⟩:=Qs0 h ha
   rcases hs with ⟨e,hv⟩ | ⟨e,hn⟩
   · rw [if_pos e]
     have hdn:(Zv p).length≠0:=fun h0=>by
       -- then p is a number that is not 0
       by_cases h3:p.length=1
       · obtain ⟨c,rfl⟩:∃ c,p=[c]:=List.length_eq_one_iff.1 h3
         have hc:c≠0:=by have:=Xi h.t (by simp); simpa using this
         obtain ⟨q,hq,_⟩:=Qet ha.cut (hv (Ql (c:Rat)) (Vv (Rh hc)))
         rw [Qh] at hq
         have:Qg [c] q=(c:Rat):=by simp only [Qg]; grind
         rw [this] at hq; grind
       · have h4:=Vb p (p.length-2)
         rw [List.eq_nil_of_length_eq_zero h0,show p.length-2+1=p.length-1 by omega] at h4
         have h5:p.getD (p.length-1) 0≠0:=Xi h.t (by omega)
         rcases Int.mul_eq_zero.1 (h4.symm.trans (by simp)) with h6 | h6
         · exact h5 h6
         · omega
     have hl:=Ky p
     obtain ⟨i1,i2⟩:=Oq ha k (Zv p) h.der (by omega) hdn
     exact ⟨Qci ha.cut hv (Q0p (fun t=>by rw [Qh,Gf,Xs]) i1) i2,i2⟩
   · rw [if_neg e]; exact ⟨Qac ha.cut hn,e⟩
theorem G8 {a:Tm} (ha:Va a) {p:List Int} (h:Dp p) (h0:p.length≠0):RS (cz p) (Qu a) (X4 (Zp a) p)∧X4 (Zp a) p≠0:=Oq ha _ p h (Nat.le_refl _) h0
theorem Ab {a:Tm}:X4 (Zp a) []=0:=rfl
theorem Qv1 {l:List Int}:∀ z∈l,z.natAbs≤Hf l:=by
  have key:∀ (l:List Int) (m:Nat),m≤l.foldl (fun m z=>if m<z.natAbs then z.natAbs else m) m∧∀ z∈l,z.natAbs≤l.foldl (fun m z=>if m<z.natAbs then z.natAbs else m) m:=by
    intro l
    induction l with
    | nil=>exact fun m=>⟨Nat.le_refl _,fun z hz=>by cases hz⟩
    |
     cons y l ih =>
     intro m
     obtain ⟨e,he⟩:∃ e,e=if m<y.natAbs then y.natAbs else m:=⟨_,rfl⟩
     have h1:m≤e∧y.natAbs≤e:=by rw [he]; split <;> omega
     obtain ⟨i1,i2⟩:=ih e
     simp only [List.foldl_cons]
     rw [←he]
     refine ⟨by omega,fun z hz=>?_⟩
     rcases List.mem_cons.1 hz with rfl | hz
     · omega
     · exact i2 z hz
  exact (key l 0).2
theorem Ea {p:List Int} (h:Qo p≠0):Zj p*((Qo p).natAbs:Rat)=((Qo p).natAbs:Rat)+((Hf (p.take (p.length-1)):Nat):Rat):=by
  unfold Zj
  rw [←Z3]
  have hp:0<(Qo p).natAbs:=by omega
  have:=nat_pos hp
  rw [show ((((Qo p).natAbs:Int)):Rat)=((Qo p).natAbs:Rat) from rfl,Zh this]
  rw [Rat.intCast_add]; rfl
theorem Qkc {m:Nat} {x:Rat} (hx:1≤Ql x):∀ (p:List Int) (lp:p.length≠0),(∀ z∈p.take (p.length-1),z.natAbs≤m)→Qo p≠0→(m:Rat)≤(Ql x-1)*((Qo p).natAbs:Rat)→((Qo p).natAbs:Rat)≤Qg p x*(((Int.sign (Qo p))*(if x<0∧p.length % 2=0 then -1 else 1):Int):Rat)
  | [],lp,_,_,_=>absurd rfl lp
  |
   [c],_,_,hc,_=>by
   have hl:Qo [c]=c:=rfl
   rw [hl] at hc ⊢
   rw [if_neg (by simp),Int.mul_one]
   have h1:Qg [c] x=(c:Rat):=by simp only [Qg]; grind
   rw [h1]
   have h2:c*Int.sign c=(c.natAbs:Int):=Int.mul_sign_self c
   have:=congrArg (fun z:Int=>(z:Rat)) h2
   rw [Rat.intCast_mul] at this
   rw [this]; exact Rat.le_refl
  |
   c::d::p,_,hm,hc,hb=>by
   have hl:Qo (c::d::p)=Qo (d::p):=by unfold Qo; simp [List.getD_cons_succ]
   have ih:=Qkc hx (d::p) (by simp) (fun z hz=>hm z (by
     have e:(c::d::p).take ((c::d::p).length-1)=c::(d::p).take ((d::p).length-1):=by simp
     rw [e]; exact List.mem_cons_of_mem _ hz)) (by rw [←hl]; exact hc) (by rw [←hl]; exact hb)
   rw [hl] at hc hb ⊢
   have hcm:=hm c (by simp)
   obtain ⟨s,hs⟩:∃ s:Int,s=Int.sign (Qo (d::p)):=⟨_,rfl⟩
   have hsv:s=1∨s=-1:=by
     rw [hs]
     rcases Int.lt_or_lt_of_ne hc with h | h
     · exact .inr (Int.sign_eq_neg_one_of_neg h)
     · exact .inl (Int.sign_eq_one_of_pos h)
   rw [←hs] at ih ⊢
   obtain ⟨ld,hld⟩:∃ ld:Rat,ld=((Qo (d::p)).natAbs:Rat):=⟨_,rfl⟩
   rw [←hld] at ih hb ⊢
   have hcq:Ql (c:Rat)≤(m:Rat):=by rw [Jc]; exact Rat.natCast_le_natCast.2 hcm
   rw [Yd] at hcq
   have e1:Qg (c::d::p) x=(c:Rat)+x*Qg (d::p) x:=rfl
   rw [e1]
   have hlen:(c::d::p).length % 2=0↔¬(d::p).length % 2=0:=by simp only [List.length_cons]; omega
   generalize Qg (d::p) x=y at *
   generalize (m:Rat)=mm at *
   generalize (c:Rat)=cc at *
   have hx0:=hx
   by_cases hneg:x<0
   · have hq:Ql x=-x:=by unfold Ql; rw [if_pos hneg]
     rw [hq] at hx0 hb
     by_cases hpar:(d::p).length % 2=0
     · rw [if_pos ⟨hneg,hpar⟩] at ih
       rw [if_neg fun h=>(hlen.1 h.2) hpar]
       rcases hsv with rfl | rfl
       · have ih:ld≤y*(-1):=by simpa using ih
         have:=Rat.mul_le_mul_of_nonneg_left ih (show 0≤-x by grind)
         have e:(((1:Int)*1:Int):Rat)=1:=rfl
         rw [e]; grind
       · have ih:ld≤y*1:=by simpa using ih
         have:=Rat.mul_le_mul_of_nonneg_left ih (show 0≤-x by grind)
         have e:(((-1:Int)*1:Int):Rat)=-1:=rfl
         rw [e]; grind
     · rw [if_neg fun h=>hpar h.2] at ih
       rw [if_pos ⟨hneg,hlen.2 hpar⟩]
       rcases hsv with rfl | rfl
       · have ih:ld≤y*1:=by simpa using ih
         have:=Rat.mul_le_mul_of_nonneg_left ih (show 0≤-x by grind)
         have e:(((1:Int)*-1:Int):Rat)=-1:=rfl
         rw [e]; grind
       · have ih:ld≤y*(-1):=by simpa using ih
         have:=Rat.mul_le_mul_of_nonneg_left ih (show 0≤-x by grind)
         have e:(((-1:Int)*-1:Int):Rat)=1:=rfl
         rw [e]; grind
   · have hq:Ql x=x:=by unfold Ql; rw [if_neg hneg]
     rw [hq] at hx0 hb
     rw [if_neg fun h=>hneg h.1] at ih ⊢
     rcases hsv with rfl | rfl
     · have ih:ld≤y*1:=by simpa using ih
       have:=Rat.mul_le_mul_of_nonneg_left ih (show 0≤x by grind)
       have e:(((1:Int)*1:Int):Rat)=1:=rfl
       rw [e]; grind
     · have ih:ld≤y*(-1):=by simpa using ih
       have:=Rat.mul_le_mul_of_nonneg_left ih (show 0≤x by grind)
       have e:(((-1:Int)*1:Int):Rat)=-1:=rfl
       rw [e]; grind
theorem Qgp {p:List Int} (tp:Qm p) (lp:p.length≠0) {x:Rat} (hx:Zj p≤Ql x):1≤Ql (Qg p x)∧(0≤x→Xb p x=Ma p)∧(x<0→Xb p x=Hp p):=by
  have hl:=Wu tp lp
  have hpos:0<(Qo p).natAbs:=by omega
  have h1:(1:Rat)≤((Qo p).natAbs:Rat):=by
    have:((1:Nat):Rat)≤((Qo p).natAbs:Rat):=Rat.natCast_le_natCast.2 hpos
    exact this
  have hm0:(0:Rat)≤((Hf (p.take (p.length-1)):Nat):Rat):=Rat.natCast_nonneg
  have hb:=Ea hl
  have hx1:=Rat.mul_le_mul_of_nonneg_right hx (show (0:Rat)≤((Qo p).natAbs:Rat) by grind)
  have hx2:1≤Ql x:=by
    rcases Qx 1 (Ql x) with h | h
    · exact h
    · exfalso
      have:=Rat.mul_lt_mul_of_pos_right h (show (0:Rat)<((Qo p).natAbs:Rat) by grind)
      grind
  have key:=Qkc (m:=Hf (p.take (p.length-1))) hx2 p lp (fun z hz=>Qv1 z hz) hl (by grind)
  obtain ⟨s,hs⟩:∃ s:Int,s=Int.sign (Qo p)*(if x<0∧p.length % 2=0 then -1 else 1):=⟨_,rfl⟩
  rw [←hs] at key
  have hsv:s=1∨s=-1:=by
    rw [hs]
    rcases Int.lt_or_lt_of_ne hl with h | h
    · rw [Int.sign_eq_neg_one_of_neg h]; split <;> simp
    · rw [Int.sign_eq_one_of_pos h]; split <;> simp
  have hsg:Xb p x=s∧1≤Ql (Qg p x):=by
    rw [Vs]
    rcases hsv with e | e
    · rw [e] at key ⊢
      have key:((Qo p).natAbs:Rat)≤Qg p x:=by simpa using key
      exact ⟨Z7.2 (by grind),by unfold Ql; rw [if_neg (by grind)]; grind⟩
    · rw [e] at key ⊢
      have key:((Qo p).natAbs:Rat)≤Qg p x*(-1):=by simpa using key
      exact ⟨Ji.2 (by grind),by unfold Ql; rw [if_pos (by grind)]; grind⟩
  refine ⟨hsg.2,fun h=>?_,fun h=>?_⟩
  · rw [hsg.1,hs,if_neg fun h'=>by have:=h'.1; grind]; unfold Ma; omega
  · rw [hsg.1,hs]; unfold Hp
    by_cases he:p.length % 2=0
    · rw [if_pos ⟨h,he⟩,if_pos he]; omega
    · rw [if_neg fun h'=>he h'.2,if_neg he]; omega
theorem Tf {f g:List Int→Int}:∀ {l:List (List Int)} (s:Nat×Int),(∀ p∈l,f p=g p)→l.foldl (Jq f) s=l.foldl (Jq g) s
  | [],s,_=>rfl
  |
   p::l,s,h=>by
   simp only [List.foldl_cons]
   have e:Jq f s p=Jq g s p:=by unfold Jq; rw [h p (List.mem_cons_self ..)]
   rw [e]; exact Tf _ fun q hq=>h q (List.mem_cons_of_mem _ hq)
theorem Qj9:∀ (l:List (List Int)),(∀ p∈l,Qm p∧p.length≠0)→∃ X:Rat,0<X∧∀ x,X≤x→(∀ p∈l,Xb p x=Ma p)∧∀ p∈l,Xb p (-x)=Hp p
  | [],_=>⟨1,by decide,fun x _=>⟨(fun p hp=>by cases hp),(fun p hp=>by cases hp)⟩⟩
  |
   p::l,h=>by
   obtain ⟨X,hX,hl⟩:=Qj9 l fun q hq=>h q (List.mem_cons_of_mem _ hq)
   obtain ⟨tp,lp⟩:=h p (List.mem_cons_self ..)
   refine ⟨X+Ql (Zj p),by have:=Zx (Zj p); grind,fun x hx=>?_⟩
   have hb0:=Zx (Zj p)
   have hb1:Zj p≤Ql (Zj p):=by unfold Ql; split <;> grind
   obtain ⟨l1,l2⟩:=hl x (by grind)
   have e1:Ql x=x:=by unfold Ql; rw [if_neg (by grind)]
   have e2:Ql (-x)=x:=by rw [Wx,e1]
   refine ⟨fun q hq=>?_,fun q hq=>?_⟩
   · rcases List.mem_cons.1 hq with rfl | hq
     · exact (Qgp tp lp (x:=x) (by rw [e1]; grind)).2.1 (by grind)
     · exact l1 q hq
   · rcases List.mem_cons.1 hq with rfl | hq
     · exact (Qgp tp lp (x:=-x) (by rw [e2]; grind)).2.2 (by grind)
     · exact l2 q hq
theorem Qiu {q:List Int} {L:List (List Rat)} (hS:Dk (cz q) L) (tq:Qm q) (lq:q.length≠0) {x y:Rat} (hxy:x<y) (h:Zj q≤x∨y≤-Zj q) (hb:0<Zj q):vv L x=vv L y:=by
  rcases Classical.em (vv L x=vv L y) with e | e
  · exact e
  · exfalso
    obtain ⟨r,r1,r2,r3⟩:=Qct hS hxy e (d:=1) (by decide)
    have:=(Qgp tq lq (x:=r) (by rcases h with h | h <;> (unfold Ql; split <;> grind))).1
    rw [Qh] at r3; grind
theorem Nw {p:List Int} (h:Qo p≠0):1≤Zj p:=by
  have hb:=Ea h
  have hp:=nat_pos (show 0<(Qo p).natAbs by omega)
  have hm0:(0:Rat)≤((Hf (p.take (p.length-1)):Nat):Rat):=Rat.natCast_nonneg
  rcases Qx 1 (Zj p) with h' | h'
  · exact h'
  · have:=Rat.mul_lt_mul_of_pos_right h' hp; grind
theorem Qni {q:List Int} {l:List (List Int)} (hS:Dk (cz q) ((q::l).map cz)) (hl:∀ p∈q::l,Qm p∧p.length≠0):R9 (q::l)=(vv ((q::l).map cz) (-Zj q):Int)-(vv ((q::l).map cz) (Zj q):Int):=by
  obtain ⟨tq,lq⟩:=hl q (List.mem_cons_self ..)
  have hb:=Nw (Wu tq lq)
  obtain ⟨X,hX,hx⟩:=Qj9 (q::l) hl
  obtain ⟨h1,h2⟩:=hx (X+Zj q) (by grind)
  have e1:V1 Ma (q::l)=vv ((q::l).map cz) (X+Zj q):=by
    rw [←Hi]; unfold V2 V1
    rw [Tf (f:=Ma) (g:=fun p=>Xb p (X+Zj q)) (0,0) fun p hp=>(h1 p hp).symm]
  have e2:V1 Hp (q::l)=vv ((q::l).map cz) (-(X+Zj q)):=by
    rw [←Hi]; unfold V2 V1
    rw [Tf (f:=Hp) (g:=fun p=>Xb p (-(X+Zj q))) (0,0) fun p hp=>(h2 p hp).symm]
  unfold R9
  rw [e1,e2,Qiu hS tq lq (x:=-(X+Zj q)) (y:=-Zj q) (by grind) (.inr Rat.le_refl) (by grind),←Qiu hS tq lq (x:=Zj q) (y:=X+Zj q) (by grind) (.inl Rat.le_refl) (by grind)]
theorem Q0b {f:List Rat} {L:List (List Rat)} (hS:Dk f L) {x y:Rat} (hxy:x<y) (hv:vv L y+2≤vv L x):∃ m,x<m∧m<y∧vv L m<vv L x∧vv L y<vv L m∧ev f m≠0:=by
  obtain ⟨R,hR,hx,hy⟩:=Qaq x y
  obtain ⟨e,ep,he⟩:=Qto hS R hR
  have key:∀ n:Nat,∀ x,Ql x≤R→x<y→vv L y+2≤vv L x→y-x≤(n:Rat)*e→∃ m,x<m∧m<y∧vv L m<vv L x∧vv L y<vv L m:=by
    intro n
    induction n with
    | zero=>intro x _ hxy _ hn; rw [show ((0:Nat):Rat)=0 from rfl] at hn; exfalso; clear he; grind
    |
     succ n ih =>
     intro x hx hxy hv hn
     have hn':(((n+1:Nat):Rat))=(n:Rat)+1:=by push_cast; rfl
     rw [hn'] at hn
     rcases Qx (y-x) e with h1 | h1
     · have:=he x y hx hy hxy h1; omega
     · have hm:Ql (x+e)≤R:=Mh hx hy (by clear he ih; grind) (by clear he ih; grind)
       have h2:=he x (x+e) hx hm (by clear he ih; grind) (by clear he ih; grind)
       have h3:=Us hS (show x<x+e by clear he ih; grind)
       by_cases h4:vv L x=vv L (x+e)
       · obtain ⟨m,m1,m2,m3,m4⟩:=ih (x+e) hm (by clear he ih; grind) (by omega) (by clear he ih; grind)
         exact ⟨m,by clear he ih; grind,m2,by omega,m4⟩
       · exact ⟨x+e,by clear he ih; grind,by clear he ih; grind,by omega,by omega⟩
  obtain ⟨n,hn⟩:=Hw (z:=y-x) ep
  obtain ⟨m,m1,m2,m3,m4⟩:=key n x hx hxy hv hn
  rcases Classical.em (ev f m=0) with h0 | h0
  · -- a little farther on
    obtain ⟨e2,e2p,hl⟩:=loc hR hS (w:=f) (u:=[1]) (fun t=>by rw [Xj]; grind)
    obtain ⟨d,dp,d1,d2⟩:=min2 (a:=e2) (b:=(y-m) / 2) e2p (Uh (by clear he key hl; grind) (by decide))
    have h2:(y-m) / 2*2=y-m:=Zh (by decide)
    have hmR:Ql m≤R:=Mh hx hy (Rat.le_of_lt m1) (Rat.le_of_lt m2)
    have hmR2:Ql (m+d)≤R:=Mh hx hy (by clear he key hl; grind) (by clear he key hl; grind)
    rcases hl m (m+d) hmR hmR2 (by clear he key hl; grind) (by clear he key hl; grind) with ⟨p1,p2,_⟩ | ⟨_,p1,_,p3,_⟩
    · refine ⟨m+d,by clear he key hl; grind,by clear he key hl; grind,by omega,by omega,fun h'=>?_⟩
      have:=p2.s
      rw [Q0.2 h'] at this; exact p2.n this.symm
    · rw [Q0.2 h0] at p3; exact absurd p3.symm p1
  · exact ⟨m,m1,m2,m3,m4,h0⟩
theorem Qw7 {q:List Int} {L:List (List Rat)} (hS:Dk (cz q) L) (tq:Qm q) (nq:q.length≤9) (lq:2≤q.length) {lo hi:Rat} (hl:lo<hi) (hv:vv L hi+2≤vv L lo):1<(hi-lo)*((2^(Xw q q+1):Nat):Rat):=by
  rcases Qx ((hi-lo)*((2^(Xw q q+1):Nat):Rat)) 1 with hw | hw
  · exfalso
    have hpow:(0:Rat)≤((2^(Xw q q+1):Nat):Rat):=Rat.natCast_nonneg
    obtain ⟨m,m1,m2,m3,m4,m0⟩:=Q0b hS hl hv
    obtain ⟨R,hR,r1,r2⟩:=Qaq lo hi
    have hd:=Vv m0
    obtain ⟨d,dp,_,db⟩:=Zi (b:=Is R (cz q)) (d:=Ql (ev (cz q) m) / 2) (Yn hR _) (Uh hd (by decide))
    have hd2:Ql (ev (cz q) m) / 2*2=Ql (ev (cz q) m):=Zh (by decide)
    have hmR:Ql m≤R:=Mh r1 r2 (Rat.le_of_lt m1) (Rat.le_of_lt m2)
    -- near m q is not small
    have hnear:∀ r,Ql r≤R→Ql (ev (cz q) r)<Ql (ev (cz q) m) / 2→d<Ql (r-m):=fun r hr hs=>by
      rcases Qx (Ql (r-m)) d with h | h
      · exfalso
        have h1:=J8 (p:=cz q) hmR hr hR h db
        have h2:=X7 (ev (cz q) m-ev (cz q) r) (ev (cz q) r)
        rw [show ev (cz q) m-ev (cz q) r+ev (cz q) r=ev (cz q) m by grind,Qls] at h2
        grind
      · exact h
    refine Qqg (R:=R+1) (d:=d+d) tq tq nq nq lq lq (by grind) (by grind) fun e ep=>?_
    obtain ⟨e',ep',e1,e2⟩:=min2 (a:=e) (b:=Ql (ev (cz q) m) / 2) ep (Uh hd (by decide))
    obtain ⟨x,x1,x2,x3⟩:=Qct hS m1 (by omega) ep'
    obtain ⟨y,y1,y2,y3⟩:=Qct hS m2 (by omega) ep'
    have hxR:Ql x≤R:=Mh r1 r2 x1 (by grind)
    have hyR:Ql y≤R:=Mh r1 r2 (by grind) y2
    have nx:=hnear x hxR (by grind)
    have ny:=hnear y hyR (by grind)
    have ex:Ql (x-m)=m-x:=by unfold Ql; split <;> grind
    have ey:Ql (y-m)=y-m:=by unfold Ql; split <;> grind
    rw [ex] at nx
    rw [ey] at ny
    have exy:Ql (x-y)=y-x:=by unfold Ql; split <;> grind
    refine ⟨x,y,by grind,by grind,by rw [exy]; grind,?_,by rw [←Qh]; grind,by rw [←Qh]; grind⟩
    rw [exy]
    exact Rat.le_trans (Rat.mul_le_mul_of_nonneg_right (show y-x≤hi-lo by grind) hpow) hw
  · exact hw
end Orq

namespace Orq
open Orr Go
theorem Qpl:∀ {k:Nat} {a b:List Int} {l:List (List Int)},chF k a b=some l→∀ p∈l,p.length≠0
  | 0,_,_,_,h=>by cases h
  |
   k+1,a,b,l,h=>by
   simp only [chF] at h
   split at h
   · injection h with h; subst h; exact fun p hp=>by cases hp
   · rename_i h0
     obtain ⟨r,_,h⟩:=Option.bind_eq_some_iff.1 h
     obtain ⟨l',h1,h⟩:=Option.bind_eq_some_iff.1 h
     injection h with h; subst h
     intro p hp
     rcases List.mem_cons.1 hp with rfl | hp
     · exact h0
     · exact Qpl h1 p hp
theorem Okp.pb {n s:Nat} {p:List Int} (h:Okp n s p) (hs:s≤16777216):Pb p:=⟨h.t,by have:=h.l; have:=h.z.1; omega,Qc h.b hs⟩
theorem Qmq {p:List Int} {q:List Int} {l:List (List Int)} (hp:Pb p) (h:Hm p=some (q::l)) (hq:q.length≠0):∀ r∈q::l,Qm r∧r.length≠0:=by
  have h1:=(Orr.chain_ok hp h).2
  unfold Hm at h
  obtain ⟨a,_,h⟩:=Option.bind_eq_some_iff.1 h
  split at h
  · cases h
  · obtain ⟨d,_,h⟩:=Option.bind_eq_some_iff.1 h
    obtain ⟨l',h3,h⟩:=Option.bind_eq_some_iff.1 h
    injection h with h
    injection h with e1 e2
    subst e1; subst e2
    intro r hr
    refine ⟨(h1 r hr).t,?_⟩
    rcases List.mem_cons.1 hr with rfl | hr
    · exact hq
    · exact Qpl h3 r hr
inductive RI (q:List Int) (L:List (List Rat)):Rat→List Tm→Rat→Prop
  | nil {lo hi:Rat} (h:lo≤hi) (hv:vv L lo=vv L hi):RI q L lo [] hi
  | cons {lo hi:Rat} {t:Tm} {l:List Tm} (h:lo≤t.lo) (hv:vv L lo=vv L t.lo) (ht:Vt (cz q) L t.lo t.hi) (hp:t.p=q) (hl:RI q L t.hi l hi):RI q L lo (t::l) hi
theorem RI.app {q:List Int} {L:List (List Rat)} {lo m hi:Rat} {l l':List Tm} (h:RI q L lo l m) (h':RI q L m l' hi):RI q L lo (l++l') hi:=by
  induction h with
  |
   nil h hv =>
   cases h' with
   | nil h2 hv2=>exact .nil (by grind) (by omega)
   | cons h2 hv2 ht hp hl=>exact .cons (by grind) (by omega) ht hp hl
  | cons h hv ht hp _ ih=>exact .cons h hv ht hp (ih h')
theorem Qpo {D M k:Nat} {m:Rat} (h:Gr D M k m) (hM:0<M) (hs:Qt (D:Int)+Qt (M:Int)+k≤16777216):chq m=some m:=by
  have:=Qkg h hM hs
  unfold chq
  rw [if_pos ⟨this.1,this.2⟩]
theorem Lm {q:List Int} {c:List (List Int)} (hS:Dk (cz q) (c.map cz)) (tq:Qm q) (nq:q.length≤9) (hc1:q.length<2→c=[q]) {D M:Nat} (hM:0<M):∀ (k j:Nat) (lo hi:Rat),lo<hi→Gr D M j lo→Gr D M j hi→Qt (D:Int)+Qt (M:Int)+(j+k)≤16777216→(hi-lo)*((2^(Xw q q+1):Nat):Rat)≤((2^k:Nat):Rat) →
    ∃ l,Up q c (k+1) lo hi ((vv (c.map cz) lo:Int)-(vv (c.map cz) hi:Int))=some l∧RI q (c.map cz) lo l hi∧∀ t∈l,∃ k',k'≤j+k∧Gr D M k' t.lo∧Gr D M k' t.hi:=by
  intro k
  induction k with
  |
   zero =>
   intro j lo hi hl g1 g2 hs hK
   have hle:=Us hS hl
   have h2:vv (c.map cz) lo<vv (c.map cz) hi+2:=by
     rcases Nat.lt_or_ge (vv (c.map cz) lo) (vv (c.map cz) hi+2) with h | h
     · exact h
     · exfalso
       have lq:2≤q.length:=by
         rcases Nat.lt_or_ge q.length 2 with e | e
         · have hvv:∀ x,vv (c.map cz) x=vv (c.map cz) 0:=fun x=>by
             rcases hS with ⟨c0,hc0,hcc,hl'⟩ | ⟨g',l',k',hk,hg,hsc,hl'⟩
             · rw [hl']; simp only [vv,tc,hcc]
             · rw [hc1 e] at hl'; cases hl'
           rw [hvv lo,hvv hi] at h; omega
         · exact e
       have:=Qw7 hS tq nq lq hl h
       rw [Nat.pow_zero] at hK
       have h7:((1:Nat):Rat)=1:=rfl
       rw [h7] at hK; grind
   simp only [Up]
   by_cases e0:vv (c.map cz) lo=vv (c.map cz) hi
   · rw [if_pos (by omega)]
     exact ⟨[],rfl,.nil (Rat.le_of_lt hl) e0,fun t ht=>by cases ht⟩
   · rw [if_neg (by omega),if_pos (by omega)]
     refine ⟨[⟨q,lo,hi⟩],rfl,.cons Rat.le_refl rfl ⟨hS,hl,by show vv _ lo=vv _ hi+1; omega⟩ rfl (.nil Rat.le_refl rfl),fun t ht=>?_⟩
     rw [List.mem_singleton.1 ht]; exact ⟨j,by omega,g1,g2⟩
  |
   succ k ih =>
   intro j lo hi hl g1 g2 hs hK
   have hle:=Us hS hl
   show ∃ l,(if (vv (c.map cz) lo:Int)-(vv (c.map cz) hi:Int)=0 then some [] else if (vv (c.map cz) lo:Int)-(vv (c.map cz) hi:Int)=1 then some [⟨q,lo,hi⟩] else (chq (mid lo hi)).bind fun m=>(Up q c (k+1) lo m (Xq c lo m)).bind fun l=>(Up q c (k+1) m hi ((vv (c.map cz) lo:Int)-(vv (c.map cz) hi:Int)-Xq c lo m)).bind fun r=>some (l++r))=some l∧_
   by_cases e0:vv (c.map cz) lo=vv (c.map cz) hi
   · rw [if_pos (by omega)]
     exact ⟨[],rfl,.nil (Rat.le_of_lt hl) e0,fun t ht=>by cases ht⟩
   by_cases e1:vv (c.map cz) lo=vv (c.map cz) hi+1
   · rw [if_neg (by omega),if_pos (by omega)]
     refine ⟨[⟨q,lo,hi⟩],rfl,.cons Rat.le_refl rfl ⟨hS,hl,e1⟩ rfl (.nil Rat.le_refl rfl),fun t ht=>?_⟩
     rw [List.mem_singleton.1 ht]; exact ⟨j,by omega,g1,g2⟩
   · rw [if_neg (by omega),if_neg (by omega)]
     obtain ⟨m,hm⟩:∃ m,m=(lo+hi) / 2:=⟨_,rfl⟩
     have h2:(lo+hi) / 2*2=lo+hi:=Zh (by decide)
     rw [←hm] at h2
     have gm:Gr D M (j+1) m:=by rw [hm]; exact Qqy g1 g2
     have l1:lo<m:=by grind
     have l2:m<hi:=by grind
     rw [Qhn,←hm,Qpo gm hM (by omega)]
     show ∃ l,((Up q c (k+1) lo m (Xq c lo m)).bind fun l=>(Up q c (k+1) m hi ((vv (c.map cz) lo:Int)-(vv (c.map cz) hi:Int)-Xq c lo m)).bind fun r=>some (l++r))=some l∧_
     rw [Gt (Rat.le_of_lt l1),show (vv (c.map cz) lo:Int)-(vv (c.map cz) hi:Int)-((vv (c.map cz) lo:Int)-(vv (c.map cz) m:Int))=(vv (c.map cz) m:Int)-(vv (c.map cz) hi:Int) by omega]
     rw [Qfe k] at hK
     have hp:∀ x y:Rat,(y-x)*2=hi-lo→(y-x)*((2^(Xw q q+1):Nat):Rat)≤((2^k:Nat):Rat):=fun x y h=>by
       have:(y-x)*((2^(Xw q q+1):Nat):Rat)*2=(hi-lo)*((2^(Xw q q+1):Nat):Rat):=by rw [←h]; grind
       grind
     obtain ⟨la,a1,a2,a3⟩:=ih (j+1) lo m l1 (Ot g1) gm (by omega) (hp lo m (by grind))
     obtain ⟨lb,b1,b2,b3⟩:=ih (j+1) m hi l2 gm (Ot g2) (by omega) (hp m hi (by grind))
     rw [a1]
     show ∃ l,((Up q c (k+1) m hi ((vv (c.map cz) m:Int)-(vv (c.map cz) hi:Int))).bind fun r=>some (la++r))=some l∧_
     rw [b1]
     refine ⟨la++lb,rfl,a2.app b2,fun t ht=>?_⟩
     rcases List.mem_append.1 ht with ht | ht
     · obtain ⟨k',h1,h2,h3⟩:=a3 t ht; exact ⟨k',by omega,h2,h3⟩
     · obtain ⟨k',h1,h2,h3⟩:=b3 t ht; exact ⟨k',by omega,h2,h3⟩
theorem Qz0 {D M k:Nat} {q:Rat} (h:Gr D M k q):Gr D M k (-q):=by
  obtain ⟨u,hu⟩:=h.u
  exact ⟨⟨-u,by rw [Rat.intCast_neg,←hu]; grind⟩,by rw [Wx]; exact h.b,h.d⟩
theorem Qed {m s:Nat} (h:m<2^s):Qt ((m+1:Nat):Int)≤s+1:=by
  rw [Y3,Int.natAbs_natCast,Nat.pow_succ]; omega
theorem Qm6 {z:Int} {s:Nat} (h:Qt z≤s):Qt ((z.natAbs+1:Nat):Int)≤s+1:=Qed (Y3.1 h)
theorem Qwx {x:Rat} {m s g N:Nat} (hx:x≤2*((m+1:Nat):Rat)) (hm:m+1≤2^s) (hN:s+1+g≤N):x*((2^g:Nat):Rat)≤((2^N:Nat):Rat):=by
  have h3:=Rat.natCast_le_natCast.2 hm
  have e:=Qfe s
  have h4:(0:Rat)≤((2^s:Nat):Rat):=Rat.natCast_nonneg
  have h1:x≤((2^(s+1):Nat):Rat):=by rw [e]; grind
  have h5:(0:Rat)≤((2^g:Nat):Rat):=Rat.natCast_nonneg
  refine Rat.le_trans (Rat.mul_le_mul_of_nonneg_right h1 h5) ?_
  have h6:2^(s+1)*2^g≤2^N:=by
    rw [←Nat.pow_add]; exact Nat.pow_le_pow_right (by decide) hN
  have:=Rat.natCast_le_natCast.2 h6
  rw [Rat.natCast_mul] at this
  exact this
theorem Qud {s:Nat} {l:List Int} (h:Bd s l):Hf l<2^s:=by
  have key:∀ (l:List Int) (m:Nat),m<2^s→Bd s l→l.foldl (fun m z=>if m<z.natAbs then z.natAbs else m) m<2^s:=by
    intro l
    induction l with
    | nil=>exact fun m h _=>h
    |
     cons y l ih =>
     intro m hm hb
     simp only [List.foldl_cons]
     refine ih _ ?_ fun z hz=>hb z (List.mem_cons_of_mem _ hz)
     have:=hb y (List.mem_cons_self ..)
     rw [Y3] at this
     split <;> assumption
  exact key l 0 (Nat.pow_pos (by decide)) h
theorem Qst {p:List Int} (h:Okp 9 900 p):∃ q c l,Yk p=some q∧Hm p=some c∧Ic p=some l∧Dk (cz q) (c.map cz)∧RI q (c.map cz) (-Zj q) l (Zj q)∧(∀ t∈l,Va t)∧(∀ x y,x<y→Zj q≤x∨y≤-Zj q→vv (c.map cz) x=vv (c.map cz) y):=by
  obtain ⟨pp,Mg,hpb⟩:=h.pr
  obtain ⟨g,q',hq',sq⟩:=Tz h
  obtain ⟨q,l,q1,q2,hS,hl0⟩:=chain_ok h
  rw [hq'] at q1
  injection q1 with q1
  subst q1
  have e1:∀ t,Qg (Qn p) t=Qg q' t*Qg g t:=fun t=>by rw [sq.e]; grind
  obtain ⟨p1,p2⟩:=Xm pp.t pp.n e1
  have hll:=Yj sq.pq.t sq.pg.t pp.t e1 p1 p2
  have hl9:=h.l
  have bq:Bd 969 q':=Re hpb (by omega) pp.t sq.pq.t sq.pg.t pp.n e1
  have hall:=Qmq (h.pb (by omega)) q2 sq.pq.n
  have hld:Qo q'≠0:=by have:=sq.pq.l; omega
  have hb1:=Nw hld
  -- the bound's size
  obtain ⟨D,hD⟩:∃ D,D=(Qo q').natAbs:=⟨_,rfl⟩
  obtain ⟨m,hm⟩:∃ m,m=Hf (q'.take (q'.length-1)):=⟨_,rfl⟩
  have hm2:m<2^969:=by rw [hm]; exact Qud (s:=969) fun z hz=>bq z (List.mem_of_mem_take hz)
  have hD0:0<D:=by omega
  have hDs:Qt (D:Int)≤969:=by
    have:=Yp bq
    rw [Y3] at this ⊢
    rw [Int.natAbs_natCast,hD]; exact this
  have hbe:=Ea hld
  rw [←hD,←hm] at hbe
  have hDq:=nat_pos hD0
  have hbm:Zj q'≤((m+1:Nat):Rat):=by
    have hD1:(1:Rat)≤(D:Rat):=by
      have:((1:Nat):Rat)≤(D:Rat):=Rat.natCast_le_natCast.2 hD0
      exact this
    have hm0:(0:Rat)≤(m:Rat):=Rat.natCast_nonneg
    have h3:=Vn (a:=(m:Rat)) (c:=1) hm0 Rat.le_refl (by decide) hD1
    rcases Qx (Zj q') ((m+1:Nat):Rat) with h' | h'
    · exact h'
    · exfalso
      have:=Rat.mul_lt_mul_of_pos_right h' hDq
      push_cast at this; grind
  have gb:Gr D (m+1) 0 (Zj q'):=by
    refine ⟨⟨(D+m:Nat),?_⟩,?_,hD0⟩
    · rw [Nat.pow_zero,Nat.mul_one,hbe]
      rw [show ((((D+m:Nat):Int)):Rat)=((D+m:Nat):Rat) from rfl]; push_cast; rfl
    · have:Ql (Zj q')=Zj q':=by unfold Ql; rw [if_neg (by grind)]
      rw [this]; exact hbm
  have hMs:Qt ((m+1:Nat):Int)≤970:=Qed (s:=969) hm2
  have hK:(Zj q' - -Zj q')*((2^(Xw q' q'+1):Nat):Rat)≤((2^99999:Nat):Rat):=by
    have hps:=Gi bq
    have hg:Xw q' q'≤1964*31:=by
      unfold Xw
      exact Nat.mul_le_mul (by omega) (by omega)
    exact Qwx (s:=969) (g:=Xw q' q'+1) (N:=99999) (by grind) hm2 (by omega)
  have hN:Qt (D:Int)+Qt ((m+1:Nat):Int)+(0+99999)≤16777216:=by omega
  obtain ⟨ls,r1,r2,r3⟩:=Lm hS sq.pq.t (by omega) (fun h=>by rw [hl0 h]) (Nat.succ_pos m) 99999 0 (-Zj q') (Zj q') (by grind) (Qz0 gb) gb hN hK
  have hchq:chq (Zj q')=some (Zj q'):=Qpo gb (Nat.succ_pos m) (by omega)
  refine ⟨q',q'::l,ls,hq',q2,?_,hS,r2,fun t ht=>?_,fun x y hxy hb=>Qiu hS sq.pq.t sq.pq.n hxy hb (by grind)⟩
  · unfold Ic
    rw [q2,hq']
    show (chq (Zj q')).bind _=_
    rw [hchq]
    show Up q' (q'::l) 100000 (-Zj q') (Zj q') (R9 (q'::l))=_
    rw [Qni hS hall]
    exact r1
  · obtain ⟨k',k1,k2,k3⟩:=r3 t ht
    have hmem:∀ {lo hi:Rat} {ls:List Tm},RI q' ((q'::l).map cz) lo ls hi→t∈ls→Vt (cz q') ((q'::l).map cz) t.lo t.hi∧t.p=q':=fun h=>by
      induction h with
      | nil=>intro ht; cases ht
      |
       cons h hv ht' hp hl ih =>
       intro ht
       rcases List.mem_cons.1 ht with rfl | ht
       · exact ⟨ht',hp⟩
       · exact ih ht
    obtain ⟨v1,v2⟩:=hmem r2 ht
    have lq2:2≤q'.length:=by
      rcases Nat.lt_or_ge q'.length 2 with e | e
      · exfalso
        have hvv:∀ x,vv ((q'::l).map cz) x=0:=fun x=>by
          rw [hl0 e,sq.pq.one e]
          have hv1:∀ x:Rat,ev (cz [1]) x=1:=fun x=>by rw [Qh,Yx]
          simp only [List.map_cons,List.map_nil,vv,tc,hv1]
          have:Qj 1=1:=by decide
          rw [this]; decide
        have:=v1.v
        rw [hvv,hvv] at this; omega
      · exact e
    refine ⟨.inr ⟨_,by rw [v2]; exact v1⟩,by rw [v2]; exact sq.pq.t,by rw [v2]; omega,by rw [v2]; exact lq2,by rw [v2]; exact Qc bq (by omega),fun _=>by rw [v2]; exact Qc bq (by omega),D,m+1,k',k2,k3,Nat.succ_pos m,by omega⟩
theorem Wo {q:List Int} {L:List (List Rat)} (hS:Dk (cz q) L) {c:Rat→Int} (hc:Cut c) {lo:Rat} (hH:∀ z,c z=-1→z≤lo→vv L z=vv L lo) {y0:Rat} (hy:c y0=-1) (hv:∀ z,lo<z→z≤y0→vv L z=vv L lo):∃ s,s≠0∧∀ z,c z=-1→z≤y0→Qj (ev (cz q) z)=s:=by
  have hall:∀ z,c z=-1→z≤y0→vv L z=vv L lo:=fun z h1 h2=>by
    rcases Qx z lo with e | e
    · exact hH z h1 e
    · exact hv z e h2
  have hne:∀ z,c z=-1→z≤y0→Qj (ev (cz q) z)≠0:=fun z h1 h2=>by
    obtain ⟨w,w1,w2⟩:=hc.dn z h1
    have:=Qcz hS w1 (by rw [hall w w2 (by grind),hall z h1 h2])
    rw [this.s]; exact this.n
  refine ⟨Qj (ev (cz q) y0),hne y0 hy Rat.le_refl,fun z h1 h2=>?_⟩
  rcases Classical.em (z=y0) with e | e
  · rw [e]
  · have:=Qcz hS (x:=z) (y:=y0) (by grind) (by rw [hall z h1 h2,hall y0 hy Rat.le_refl])
    rw [this.s,Un (hne z h1 h2)]
structure Fst (o:List Int) (a t:Tm):Prop where
  lt:K9 a t
  s:∃ s,s≠0∧(∀ z,Qu a z=-1→Qu t z=1→Qj (ev (cz o) z)=s)∧RS (cz o) (Qu t) (-s)
def Non (o:List Int) (a:Tm):Prop:=∃ s,s≠0∧∀ z,Qu a z=-1→Qj (ev (cz o) z)=s
theorem Qnb {q:List Int} {L:List (List Rat)} (hS:Dk (cz q) L) {a:Tm} (ha:Va a) {lo hi:Rat} {l:List Tm} (hR:RI q L lo l hi):(∀ t∈l,Va t)→(∀ z,hi<z→vv L z=vv L hi)→(∀ z,Qu a z=-1→z≤lo→vv L z=vv L lo)→∃ r,Sv a l=some r∧match r with
    | none=>Non q a
    | some t=>t∈l∧Fst q a t:=by
  have ca:=ha.cut
  induction hR with
  |
   @nil lo hi h hv =>
   intro _ hhi hH
   refine ⟨none,rfl,?_⟩
   obtain ⟨y1,hy1⟩:=ca.hi
   have hall:∀ z,lo<z→vv L z=vv L lo:=fun z hz=>by
     rcases Qx z hi with e | e
     · have h1:=Us hS hz
       have h2:vv L hi≤vv L z:=by
         rcases Classical.em (z=hi) with e' | e'
         · rw [e']; exact Nat.le_refl _
         · exact Us hS (by grind)
       omega
     · rw [hhi z e,hv]
   obtain ⟨s,s0,hs⟩:=Wo hS ca hH hy1 fun z h1 _=>hall z h1
   refine ⟨s,s0,fun z hz=>?_⟩
   rcases Qx z y1 with e | e
   · exact hs z hz e
   · obtain ⟨s',s0',hs'⟩:=Wo hS ca hH hz fun z h1 _=>hall z h1
     rw [hs' z hz Rat.le_refl,←hs' y1 hy1 (Rat.le_of_lt e),hs y1 hy1 Rat.le_refl]
  |
   @cons lo hi t l h hv ht hp hl ih =>
   intro hV hhi hH
   have hvt:=hV t (List.mem_cons_self ..)
   have ct:=hvt.cut
   have ht':=ht
   rw [←hp] at ht'
   have ect:∀ z,Qu t z=cq (cz t.p) t.lo t.hi z:=Vk ht.l
   obtain ⟨c,c1,c2⟩:=Dz hvt ha
   show ∃ r,((En t a).bind fun c=>if 0<c then some (some t) else Sv a l)=some r∧_
   rw [c1]
   show ∃ r,(if 0<c then some (some t) else Sv a l)=some r∧_
   have hlo1:Qu t t.lo=1:=by rw [ect]; exact Uf Rat.le_refl
   have hlow:∀ z,lo<z→Qu t z=1→vv L z=vv L lo:=fun z h1 h2=>by
     rcases Qx z t.lo with e | e
     · have a1:=Us hS h1
       have a2:vv L t.lo≤vv L z:=by
         rcases Classical.em (z=t.lo) with e' | e'
         · rw [e']; exact Nat.le_refl _
         · exact Us hS (by grind)
       omega
     · rw [ect] at h2
       have hz:z≤t.hi:=by
         rcases Qx z t.hi with e' | e'
         · exact e'
         · rw [P8 ht.l e'] at h2; omega
       rw [ht'.eq_lo e hz h2,hv]
   by_cases hc:0<c
   · rw [if_pos hc]
     refine ⟨some t,rfl,List.mem_cons_self ..,?_⟩
     have hlt:K9 a t:=by
       rcases c2 with ⟨e,_⟩ | ⟨e,_⟩ | ⟨_,h⟩
       · omega
       · omega
       · exact h
     refine ⟨hlt,?_⟩
     obtain ⟨m,m1,m2⟩:=hlt
     obtain ⟨s,s0,hs⟩:=Wo hS ca hH m1 fun z h1 h2=>hlow z h1 (by
       rcases Classical.em (z=m) with e | e
       · rw [e]; exact m2
       · exact ct.mono' (q:=z) (r:=m) (by grind) (by omega))
     have hall:∀ z,Qu a z=-1→Qu t z=1→Qj (ev (cz q) z)=s:=fun z h1 h2=>by
       rcases Qx z m with e | e
       · exact hs z h1 e
       · obtain ⟨s',s0',hs'⟩:=Wo hS ca hH h1 fun w w1 w2=>hlow w w1 (by
           rcases Classical.em (w=z) with e | e
           · rw [e]; exact h2
           · exact ct.mono' (q:=w) (r:=z) (by grind) (by omega))
         rw [hs' z h1 Rat.le_refl,←hs' m m1 (Rat.le_of_lt e),hs m m1 Rat.le_refl]
     refine ⟨s,s0,hall,?_⟩
     -- Qz3 behind t
     obtain ⟨w,w1,w2,w3⟩:=Es ct m2 hlo1
     have hwa:Qu a w=-1:=ca.mono m w w2 (by omega)
     have hsw:=hall w hwa w1
     have hwh:w<t.hi:=by
       rw [ect] at w1
       rcases Qx t.hi w with e | e
       · have:=ht'.hi1
         rcases Classical.em (t.hi=w) with e' | e'
         · rw [←e'] at w1; exact absurd w1 this
         · rw [P8 ht.l (by grind)] at w1; omega
       · exact e
     have hww:vv L w=vv L t.lo:=ht'.eq_lo w3 (Rat.le_of_lt hwh) (by rw [←ect]; exact w1)
     have hvv:=ht.v
     have hone:=Qcy hS hwh (by omega)
     have hlw:Jo (cz q) w=s:=by rw [Un (by rw [hsw]; exact s0),hsw]
     rw [hlw] at hone
     have hd:∀ z,w<z→z≤t.hi→Qu t z=-1→Qj (ev (cz q) z)=-s:=fun z z1 z2 z3=>by
       rw [ect] at z3
       have e1:=ht'.eq_hi (by grind) z2 (by omega)
       have e2:=Qcy hS z1 (by omega)
       rw [hlw] at e2
       have hz0:Qj (ev (cz q) z)≠0:=by
         rw [Fa (by grind) z2,hp] at z3
         intro h0
         rw [if_pos h0] at z3; omega
       rw [Un hz0] at e2; exact e2.2
     rcases ct.val t.hi with e | e | e
     · rw [ect] at e; exact absurd e ht'.hi1
     · obtain ⟨d,dp,hd'⟩:=Qz3 (p:=cz q) (x:=t.hi) (by rw [hone.2]; omega)
       refine ⟨t.hi+d,ct.mono t.hi _ (by grind) (by omega),fun z h1 h2=>?_⟩
       have hz:t.hi<z:=by
         rcases Qx z t.hi with e' | e'
         · rcases Classical.em (z=t.hi) with e'' | e''
           · rw [e''] at h1; omega
           · have:=ct.mono z t.hi (by grind) (by omega); omega
         · exact e'
       rw [hd' z hz (by grind),hone.2]
     · exact ⟨t.hi,e,fun z h1 h2=>hd z (ct.lt w1 h1) h2 h1⟩
   · rw [if_neg hc]
     have hle:¬K9 a t:=fun h=>by
       rcases c2 with ⟨e,h'⟩ | ⟨e,h'⟩ | ⟨e,_⟩
       · exact B5 ct ca h' h
       · obtain ⟨z,z1,z2⟩:=h
         have:=h' z; omega
       · omega
     obtain ⟨r,r1,r2⟩:=ih (fun x hx=>hV x (List.mem_cons_of_mem _ hx)) hhi fun z z1 z2=>by
       -- z lies behind a,so behind t
       have hz:Qu t z≠1:=fun h=>hle ⟨z,z1,h⟩
       have hzl:t.lo<z:=by
         rcases Qx z t.lo with e | e
         · refine absurd ?_ hz
           rw [ect]; exact Uf e
         · exact e
       exact ht'.eq_hi hzl z2 (by rw [←ect]; exact hz)
     refine ⟨r,r1,?_⟩
     cases r with
     | none=>exact r2
     | some x=>exact ⟨List.mem_cons_of_mem _ r2.1,r2.2⟩
end Orq

namespace Orq
open Orr Go
theorem Qyj {c:Rat→Int} (hc:Cut c):∀ (n:Nat) (f:List Rat),HD f n→∃ s,s≠0∧RS f c s
  |
   n,f,h=>by
   rcases Ti hc f with hv | ⟨s,hs,hn⟩
   · cases n with
     |
      zero =>
      exfalso
      obtain ⟨q,hq,_⟩:=Qet hc (hv (Ql (f.getD 0 0)) (Vv h.1))
      cases f with
      | nil=>exact h.1 (by simp)
      |
       cons a l =>
       have:=Kw (p:=l) fun k=>by have:=h.2 (k+1) (by omega); rwa [List.getD_cons_succ] at this
       simp only [ev,this,List.getD_cons_zero] at hq; grind
     |
      succ n =>
      have hd:HD (Y5 f) n:=by
        have key:∀ (f:List Rat) (k:Nat),(Y5 f).getD k 0=((k+1:Nat):Rat)*f.getD (k+1) 0:=by
          intro f
          induction f with
          | nil=>intro k; simp only [Y5,List.getD_nil]; grind
          |
           cons a f ih =>
           intro k
           simp only [Y5]
           rw [Z9,List.getD_cons_succ]
           cases k with
           | zero=>rw [List.getD_cons_zero]; push_cast; grind
           | succ k=>rw [List.getD_cons_succ,ih]; push_cast; grind
        refine ⟨fun h0=>?_,fun k hk=>by rw [key,h.2 (k+1) (by omega)]; grind⟩
        rw [key] at h0
        rcases Rat.mul_eq_zero.1 h0 with h1 | h1
        · have:=nat_pos (show 0<n+1 by omega); grind
        · exact h.1 h1
      obtain ⟨s,hs,h1⟩:=Qyj hc n (Y5 f) hd
      exact ⟨s,hs,Qci hc hv h1 hs⟩
   · exact ⟨s,hs,Qac hc hn⟩
theorem Qsw {c:Rat→Int} (hc:Cut c) {f p q:List Rat} {s s':Int} (hf:∀ t,ev f t=ev p t*ev q t) (h:RS p c s) (h':RS q c s'):RS f c (s*s'):=by
  obtain ⟨y,h1,h2⟩:=h
  obtain ⟨y',h3,h4⟩:=h'
  refine ⟨if y≤y' then y else y',by split <;> assumption,fun z z1 z2=>?_⟩
  rw [hf,Ja,h2 z z1 (by clear h2 h4; grind),h4 z z1 (by clear h2 h4; grind)]
theorem Qsx {c:Rat→Int} (hc:Cut c) {f o S:List Rat} {k:Rat} (hk:k≠0) (hf:∀ t,ev f t=k*(ev o t*(ev S t*ev S t))) (hnz:¬∀ t,ev f t=0) {s:Int} (h:RS o c s):RS f c (Qj k*s):=by
  obtain ⟨n,_,hn⟩:∃ n,n<S.length∧HD S n:=by
    rcases Ae S with h1 | h1
    · exact absurd (fun t=>by rw [hf,h1]; grind) hnz
    · exact h1
  obtain ⟨s',hs',h'⟩:=Qyj hc n S hn
  have h1:=Qsw hc (f:=Za S S) (fun t=>Qi t _ _) h' h'
  have h2:=Qsw hc (f:=Za o (Za S S)) (fun t=>Qi t _ _) h h1
  have hsq:s'*s'=1:=by
    obtain ⟨y,y1,y2⟩:=h'
    have:=y2 y y1 Rat.le_refl
    rcases Qz (ev S y) with ⟨e,_⟩ | ⟨e,_⟩ | ⟨e,_⟩
    · rw [←this,e]; rfl
    · omega
    · rw [←this,e]; rfl
  rw [hsq,Int.mul_one] at h2
  obtain ⟨y,y1,y2⟩:=h2
  exact ⟨y,y1,fun z z1 z2=>by
    have:=y2 z z1 z2
    rw [Qi,Qi] at this
    rw [hf,Ja,this]⟩
structure Cp (p:List Int):Prop where
  t:Qm p
  l:p.length≤9
  b:Bd 800 p
theorem Cp.dp {p:List Int} (h:Cp p):Dp p:=⟨h.t,h.l,Qc h.b (by omega)⟩
theorem Cp.ok {p:List Int} (h:Cp p) (h0:p.length≠0):Okp 9 900 p:=h.dp.ok h0
def Leq (a:Tm) (c:Rat→Int):Prop:=∀ q,c q=-1→Qu a q=-1
def Wi (p:List Int) (a:Tm):Option Tm→Prop
  | none=>p=[]∨∃ s,s≠0∧∀ c,Cut c→Leq a c→RS (cz p) c s
  | some t=>p≠[]∧Va t∧K9 a t∧∃ s,s≠0∧(∀ c,Cut c→Leq a c→(∃ m,c m=-1∧Qu t m=1)→RS (cz p) c s)∧RS (cz p) (Qu t) (-s)
theorem RI.len {q:List Int} {L:List (List Rat)} {lo hi:Rat} {l:List Tm} (h:RI q L lo l hi):l.length+vv L hi≤vv L lo:=by
  induction h with
  | nil h hv=>simp; omega
  | cons h hv ht hp hl ih=>have:=ht.v; simp only [List.length_cons]; omega
theorem Qti (x:Rat):∀ (L:List (List Rat)) (s:Int),tc x s L≤L.length
  | [],_=>Nat.le_refl _
  |
   f::l,s=>by
   have h1:=Qti x l
   simp only [tc,List.length_cons]
   repeat' split
   all_goals (first | (have:=h1 s; omega) | (have:=h1 (Qj (ev f x)); omega))
theorem Q1c (L:List (List Rat)) (x:Rat):vv L x≤L.length:=Qti x L 0
theorem Tg {p:List Int} (h:Cp p):∃ l,Pw p=some l∧l.length≤67∧(∀ t∈l,Va t)∧∀ a,Va a→∃ r,Sv a l=some r∧Wi p a r∧∀ t,r=some t→t∈l:=by
  unfold Pw
  by_cases h0:p.length=0
  · have e:p=[]:=List.eq_nil_of_length_eq_zero h0
    subst e
    exact ⟨[],rfl,by decide,(fun t ht=>by cases ht),fun a _=>⟨none,rfl,.inl rfl,fun t ht=>by cases ht⟩⟩
  · obtain ⟨qp,o,q1,o1,hpt⟩:=Qrv (n:=9) (s:=800) (p:=p) ⟨⟨by decide,by decide⟩,h.t,h0,h.l,h.b⟩
    obtain ⟨g,sq⟩:=hpt.sq
    obtain ⟨S,hS⟩:=hpt.os
    obtain ⟨p1,p2,p3,p4,p5,p6,p7⟩:=Vr h.t h0
    have Mg:=h.l
    obtain ⟨hh,th,eh⟩:=hpt.oh
    have bo:Bd 869 o:=Re (p5 800 h.b) (by omega) p1 hpt.ot th (by omega) eh
    obtain ⟨lo1,lo2⟩:=Xm p1 (by omega) eh
    have hlen:=Yj hpt.ot th p1 eh lo1 lo2
    have oko:Okp 9 900 o:=⟨Qlc,hpt.ot,by omega,by omega,Qc bo (by omega)⟩
    obtain ⟨q,c,l,r1,r2,r3,hSt,hRI,hVa,hout⟩:=Qst oko
    obtain ⟨g',q',s1,s2⟩:=Tz oko
    rw [r1] at s1
    injection s1 with s1
    subst s1
    obtain ⟨_,_,_,_,_,o6,o7⟩:=Vr hpt.ot (by omega)
    -- o has no multiple Ic
    have hg1:g'=[1]:=by
      refine s2.pg.one ?_
      obtain ⟨E,hE⟩:=hpt.oq
      have hE:∀ t,Qg qp t=Qg o t*ev E t:=fun t=>by have:=hE t; rwa [Qh,Qh] at this
      obtain ⟨z,hz⟩:=s2.d
      have hd1:∀ t,Qg o t=Qg g' t*(Zr o*Qg q t):=fun t=>by rw [o7,s2.e]; grind
      have hdo:∀ t,dv (cz o) t=Qg g' t*(Zr o*ev z t):=fun t=>by
        have:=Qp4 (p:=cz o) (q:=Kr (Zr o) (cz (Qn o))) (fun t=>by rw [Qh,Q5,Qh,o7]) t
        rw [this,Be,hz]; grind
      obtain ⟨k,hk,hkk⟩:=sq.num (d:=cz g') ⟨Za (Kr (Zr o) (cz q)) E,fun t=>by rw [Qh,Qh,hE,hd1,Qi,Q5,Qh]; grind⟩ ⟨X8 (Za (Kr (Zr o) z) E) (Za (Kr (Zr o) (cz q)) (Y5 E)),fun t=>by
        have:=G5 (f:=cz qp) (w:=cz o) (u:=E) (fun t=>by rw [Qh,Qh,hE]) t
        rw [Xs,this,hdo,Qh,Qh,hd1,Q9,Qi,Qi,Q5,Q5,Xs,Qh]; grind⟩
      rcases Nat.lt_or_ge g'.length 2 with e | e
      · exact e
      · exfalso
        have h1:=(C6 s2.pg.t (by omega)).1
        have h2:=Km (p:=cz g') (q:=[k]) (fun t=>by rw [hkk]; simp only [ev]; grind) (g'.length-1)
        rw [h2,List.getD_eq_getElem?_getD,List.getElem?_eq_none (by simp; omega)] at h1
        exact h1 rfl
    have hpq:∀ t,ev (cz p) t=((Zr p:Rat)*(Zr o:Rat))*(ev (cz q) t*(ev S t*ev S t)):=fun t=>by
      rw [Qh,Qh,p7,hS,o7,s2.e,hg1,Yx]; grind
    have hk0:(Zr p:Rat)*(Zr o:Rat)≠0:=fun h=>(Rat.mul_eq_zero.1 h).elim (Rh p6) (Rh o6)
    have hpz:¬∀ t,ev (cz p) t=0:=fun h'=>Cw h.t (by omega) fun t=>by rw [←Qh]; exact h' t
    obtain ⟨k,hk⟩:∃ k,k=Qj ((Zr p:Rat)*(Zr o:Rat)):=⟨_,rfl⟩
    have hkn:k≠0:=fun h=>hk0 (Q0.1 (by rw [←hk]; exact h))
    have ho:o.length≠0:=by omega
    rw [o1]
    show ∃ l,(if o.length=0 then some [] else Ic o)=some l∧l.length≤67∧_
    rw [if_neg ho]
    have hb1:=Nw (Wu s2.pq.t s2.pq.n)
    have hll:=hRI.len
    have hlv:=Q1c (c.map cz) (-Zj q)
    have hcl:=(Orr.chain_ok (p:=o) ⟨hpt.ot,by omega,Qc bo (by omega)⟩ r2).1
    rw [List.length_map] at hlv
    refine ⟨l,r3,by omega,hVa,fun a ha=>?_⟩
    obtain ⟨r,n1,n2⟩:=Qnb hSt ha hRI hVa (fun z hz=>(hout _ _ hz (.inl Rat.le_refl)).symm) fun z _ hz=>by
      rcases Classical.em (z=-Zj q) with e | e
      · rw [e]
      · exact hout z _ (by grind) (.inr Rat.le_refl)
    refine ⟨r,n1,?_,fun t ht=>by subst ht; exact n2.1⟩
    cases r with
    |
     none =>
     obtain ⟨s,hs,hz⟩:=n2
     refine .inr ⟨k*s,Int.mul_ne_zero hkn hs,fun c hc hac=>?_⟩
     obtain ⟨y,hy⟩:=hc.hi
     have h1:RS (cz q) c s:=⟨y,hy,fun z z1 _=>hz z (hac z z1)⟩
     rw [hk]; exact Qsx hc hk0 hpq hpz h1
    |
     some t =>
     obtain ⟨hm,hlt,s,hs,hz,hrs⟩:=n2
     refine ⟨fun e=>h0 (by rw [e]; rfl),hVa t hm,hlt,k*s,Int.mul_ne_zero hkn hs,fun c hc hac ⟨m,m1,m2⟩=>?_,?_⟩
     · have h1:RS (cz q) c s:=⟨m,m1,fun z z1 z2=>hz z (hac z z1) (by
         rcases Classical.em (z=m) with e | e
         · rw [e]; exact m2
         · exact (hVa t hm).cut.mono' (q:=z) (r:=m) (by grind) (by omega))⟩
       rw [hk]; exact Qsx hc hk0 hpq hpz h1
     · have:=Qsx (hVa t hm).cut hk0 hpq hpz hrs
       rw [←hk] at this
       rw [show -(k*s)=k*-s by rw [Int.mul_neg]]; exact this
theorem Qrr {p:List Int} (h:Cp p) {a:Tm} (ha:Va a):∃ r,C9 p a=some r∧Wi p a r:=by
  obtain ⟨l,l1,_,_,l3⟩:=Tg h
  obtain ⟨r,r1,r2,_⟩:=l3 a ha
  refine ⟨r,?_,r2⟩
  unfold C9
  rw [l1]; exact r1
theorem Bw:∀ (l:List Tm) (b:Tm),(∀ t∈b::l,Va t)→∃ m,Ha b l=some m∧m∈b::l∧∀ t∈b::l,¬K9 t m
  |
   [],b,h=>⟨b,rfl,List.mem_cons_self ..,fun t ht h'=>by
   rw [List.mem_singleton.1 ht] at h'
   have hb:=(h b (List.mem_cons_self ..)).cut
   exact B5 hb hb h' h'⟩
  |
   a::l,b,h=>by
   have ha:=h a (by simp)
   have hb:=h b (by simp)
   obtain ⟨c,c1,c2⟩:=Dz ha hb
   obtain ⟨m,m1,m2,m3⟩:=Bw l (if c<0 then a else b) fun t ht=>by
     rcases List.mem_cons.1 ht with rfl | ht
     · split <;> assumption
     · exact h t (by simp [ht])
   refine ⟨m,by simp only [Ha]; rw [c1]; exact m1,?_,fun t ht=>?_⟩
   · rcases List.mem_cons.1 m2 with e | e
     · rw [e]; split <;> simp
     · simp [e]
   · have hm:Va m:=by
       rcases List.mem_cons.1 m2 with e | e
       · rw [e]; split <;> assumption
       · exact h m (by simp [e])
     have hfst:=m3 _ (List.mem_cons_self ..)
     -- what is not less stays so
     have tr:∀ x y:Tm,Va x→Va y→¬K9 x y→¬K9 y m→¬K9 x m:=fun x y hx hy h1 h2 h3=>by
       rcases tri hy.cut hm.cut with h4 | h4 | h4
       · exact h2 h4
       · obtain ⟨q,q1,q2⟩:=h3
         exact h1 ⟨q,q1,by rw [h4]; exact q2⟩
       · obtain ⟨q,q1,q2⟩:=h3
         obtain ⟨r,r1,r2⟩:=h4
         have:=hm.cut.lt q2 r1
         exact h1 ⟨q,q1,hy.cut.mono' this (by omega)⟩
     rcases List.mem_cons.1 ht with rfl | ht
     · by_cases hc:c<0
       · rw [if_pos hc] at hfst
         refine tr _ a hb ha ?_ hfst
         rcases c2 with ⟨_,h'⟩ | ⟨e,_⟩ | ⟨e,_⟩
         · exact fun h''=>B5 ha.cut hb.cut h' h''
         · omega
         · omega
       · rw [if_neg hc] at hfst; exact hfst
     · rcases List.mem_cons.1 ht with rfl | ht
       · by_cases hc:c<0
         · rw [if_pos hc] at hfst; exact hfst
         · rw [if_neg hc] at hfst
           refine tr _ b ha hb ?_ hfst
           rcases c2 with ⟨e,_⟩ | ⟨_,h'⟩ | ⟨_,h'⟩
           · omega
           · rintro ⟨q,q1,q2⟩
             have:=h' q; omega
           · exact fun h''=>B5 ha.cut hb.cut h'' h'
       · exact m3 t (by simp [ht])
end Orq

namespace Orr
open Go Go.Proofs Orq
set_option maxRecDepth 10000
theorem Dp.pb {p:List Int} (h:Dp p):Pb p:=⟨h.t,by have:=h.l; omega,Qc h.b (by have:=h.l; omega)⟩
theorem Q1y {p:List Int} {a:Tm} (hp:Dp p) (ha:Va a):Qf Tryz.prog 169 [pr p,.agg (ta a)] [.one (.int .i64 (Zp a p))]:=Quf (Dp.pb hp) ha.tb (Qs0 hp ha).1
theorem Q1q {p:List Int} {a:Tm} (hp:Dp p) (ha:Va a):Qf Tryz.prog 168 [pr p,.one (.sh (ta a))] [.one (.int .i64 (Zp a p))]:=w tt Tryz.func168 rfl [.c [] (Q1y hp ha)] rfl rfl trivial
theorem Qut {p:List Int} {fid:Nat} {l1:List LV} {sgn:List Int→Int} (hp:Dp p) (h:∀ p,Dp p→Qf Tryz.prog fid [pr p,.one (.sh l1)] [.one (.int .i64 (sgn p))]):Qf Tryz.prog 167 [pr p,.one (.fn fid [] [.sh l1])] [.one (.int .i64 (Jw sgn p.length p))]:=by
  have hpb:=Dp.pb hp
  refine Jb Tryz.func167 rfl ?_
  refine go tt [.c [] (Zy hpb.t hpb.ln hpb.bd)] rfl trivial ?_
  refine lp (S:=List Int) 0 (fun L1 s=>(0,.v (pr s))::L1) (fun _=>[]) (fun s=>s.length) (fun s=>Dp s∧Jw sgn s.length s=Jw sgn p.length p) p ⟨hp,rfl⟩ rfl (fun _ _=>rfl) rfl fun r ⟨j1,j4⟩=>?_
  rw [←j4]
  have jb:=Dp.pb j1
  by_cases h0:r.length=0
  · have e:=Qd6 sgn h0
    rw [e]
    exact en tt [.f (by simp; exact List.eq_nil_of_length_eq_zero h0)] rfl rfl trivial
  · have hs:=h r j1
    by_cases hz:sgn r=0
    · have hlp:=Ky r
      refine go tt [.t (by simp; omega),.c [] hs,.f (by simpa using hz),.c [] (Fo jb.ln jb.bd)] rfl trivial ?_
      exact rd (Zv r) (by omega) ⟨j1.der,by rw [←Qd5 sgn (by omega) hz]⟩ rfl
    · rw [Qd4 sgn (by omega) hz]
      exact en tt [.t (by simp; omega),.c [] hs,.t (by simpa using hz)] rfl rfl trivial
abbrev gmA (a:Tm) (p:List Int):Int:=X4 (Zp a) p
theorem Qjn {p:List Int} {a:Tm} (hp:Dp p) (ha:Va a):Qf Tryz.prog 122 [pr p,.agg (ta a)] [.one (.int .i64 (gmA a p))] :=
  w tt Tryz.func122 rfl [.c [] (Qut (sgn:=Zp a) hp fun _ h=>Q1q h ha)] rfl rfl trivial
theorem Qpb {t:Tm} {a b:Pt} {ps:List (List Int)} (hps:∀ p∈ps,Dp p) (ht:Va t) (hl:ps.length<1000):Qf Tryz.prog 155 [.agg (ta t),.agg (Zq a),.agg (Zq b),.one (.row (Jh ps))] [.one (.bool (Hg (Zp t) a b ps))]:=by
  refine Jb Tryz.func155 rfl ?_
  have Mg:(Jh ps).length=ps.length:=by simp [Jh]
  refine go tt [] rfl trivial ?_
  refine lp (S:=Nat) 3 (fun L1 i=>(13,.v (.one (.int .i64 (i:Int))))::L1) (fun _=>[.blk 64 (ta t),.blk 33 (Zq a),.blk 33 (Zq b)]) (fun i=>ps.length-i) (fun i=>i≤ps.length∧Hg (Zp t) a b (ps.drop i)=Hg (Zp t) a b ps) 0 ⟨Nat.zero_le _,rfl⟩ rfl (fun _ _=>rfl) rfl fun i ⟨hi,he⟩=>?_
  rw [←he]
  by_cases hlt:i<ps.length
  · obtain ⟨p,hp⟩:∃ p,ps[i]? = some p:=⟨_,List.getElem?_eq_getElem hlt⟩
    have hd:ps.drop i=p::ps.drop (i+1):=by
      rw [List.drop_eq_getElem_cons hlt]
      rw [List.getElem?_eq_getElem hlt] at hp; injection hp with hp; rw [hp]
    have hpb:=hps p (List.mem_of_getElem? hp)
    rw [hd] at he ⊢
    by_cases h0:0<p.length
    · exact en tt [.t (by simp [Mg]; omega),.x (Xa hp),.t (by simp; omega),.c [] (Qjn hpb ht)] rfl (by simp only [Hg]; rw [if_pos h0]) trivial
    · refine go tt [.t (by simp [Mg]; omega),.x (Xa hp),.f (by simp; exact List.eq_nil_of_length_eq_zero (by omega))] rfl (by simp [Qa]; omega) ?_
      exact rd (i+1) (by omega) ⟨hlt,by simp only [Hg]; rw [if_neg h0]⟩ rfl
  · have hd:ps.drop i=[]:=List.drop_eq_nil_of_le (by omega)
    rw [hd]
    exact en tt [.f (by simp [Mg]; omega)] rfl rfl trivial
structure Sc (k:Crv):Prop where
  n:Nml k
  c:Cs 90 3 k
theorem Sc.cb {k:Crv} (h:Sc k):Cb k:=h.c.mono (by omega) (by omega)
theorem H6 {a b:Crv} (ha:Sc a) (hb:Sc b):Cp (Jd a b):=by
  refine ⟨Zc _ _,?_,Qc (P5 (Xy hb.c.x ha.c.d) (Xy ha.c.x hb.c.d)) (by omega)⟩
  have:=Rk (Zo b.x a.d) (Zo a.x b.d)
  have:=Xk b.x a.d; have:=Xk a.x b.d; have:=ha.c.lx; have:=hb.c.lx
  unfold Jd; omega
theorem H5 {a b:Crv} (ha:Sc a) (hb:Sc b):Cp (Jg a b):=by
  refine ⟨Zc _ _,?_,Qc (P5 (Xy hb.c.y ha.c.d) (Xy ha.c.y hb.c.d)) (by omega)⟩
  have:=Rk (Zo b.y a.d) (Zo a.y b.d)
  have:=Xk b.y a.d; have:=Xk a.y b.d; have:=ha.c.ly; have:=hb.c.ly
  unfold Jg; omega
theorem Qob {a b:Pt} {t:Tm} (ha:Sc a.c) (hb:Sc b.c) (ht:Va t):Qf Tryz.prog 113 [.agg (Zq a),.agg (Zq b),.agg (ta t)] [.one (.bool (Xu (Zp t) a b))] :=
  w tt Tryz.func113 rfl [.c [] (Qjh ha.n hb.n ha.cb hb.cb),.c [] (Qja ha.n hb.n ha.cb hb.cb),.c [] (Qpb (t:=t) (a:=a) (b:=b) (ps:=[Jd a.c b.c,Jg a.c b.c]) (fun p hp=>by
    simp at hp
    rcases hp with rfl | rfl
    · exact (H6 ha hb).dp
    · exact (H5 ha hb).dp) ht (show 2<1000 by decide))] rfl rfl trivial
theorem Q3p (q:Rat) {P:Prop} (h:(tq q).point=false):P:=by
  have e:(tq q).point=true:=Vd.2 Rat.le_refl
  rw [e] at h; cases h
theorem Qw8 {q:Rat} (hq:Qs 400000 q):Va (tq q):=by
  have hd:=q.den_nz
  refine ⟨.inl ⟨rfl,?_⟩,Qw5 q,by show 2≤9; omega,by show 2≤2; omega,Q1p (hq.mono (by omega)),Q3p q,q.den,q.num.natAbs+1,0,?_,?_,by omega,?_⟩
  · have e:(q.num:Rat)=q*(q.den:Rat):=by
      have:(q.num:Rat) / (((q.den:Int)):Rat)=q:=by rw [Z3,Rat.num_divInt_den]
      have h2:(q.num:Rat) / (q.den:Rat)*(q.den:Rat)=q.num:=Rat.div_mul_cancel (by have:=Orq.nat_pos q.den_pos; grind)
      rw [show (q.num:Rat) / (q.den:Rat)=q from this] at h2; exact h2.symm
    show Qg [-q.num,(q.den:Int)] q=0
    simp only [Qg]
    rw [Rat.intCast_neg,e,show (((q.den:Int)):Rat)=(q.den:Rat) from rfl]; grind
  all_goals first | (have h1:Qt (q.den:Int)≤400000:=hq.2; have h2:Qt ((q.num.natAbs+1:Nat):Int)≤400001:=Qm6 hq.1; omega) | skip
  all_goals
    refine ⟨⟨q.num,?_⟩,?_,q.den_pos⟩
    · rw [Nat.pow_zero,Nat.mul_one]
      have:(q.num:Rat) / (((q.den:Int)):Rat)=q:=by rw [Z3,Rat.num_divInt_den]
      have h2:(q.num:Rat) / (q.den:Rat)*(q.den:Rat)=q.num:=Rat.div_mul_cancel (by have:=Orq.nat_pos q.den_pos; grind)
      rw [show (q.num:Rat) / (q.den:Rat)=q from this] at h2; exact h2
    · have h1:Ql q≤Ql (q.num:Rat):=by
        have e:(q.num:Rat)=q*(q.den:Rat):=by
          have:(q.num:Rat) / (((q.den:Int)):Rat)=q:=by rw [Z3,Rat.num_divInt_den]
          have h2:(q.num:Rat) / (q.den:Rat)*(q.den:Rat)=q.num:=Rat.div_mul_cancel (by have:=Orq.nat_pos q.den_pos; grind)
          rw [show (q.num:Rat) / (q.den:Rat)=q from this] at h2; exact h2.symm
        rw [e,U5]
        have hd1:(1:Rat)≤(q.den:Rat):=by
          have:((1:Nat):Rat)≤(q.den:Rat):=Rat.natCast_le_natCast.2 q.den_pos
          exact this
        have e2:Ql (q.den:Rat)=(q.den:Rat):=by unfold Ql; rw [if_neg (by grind)]
        rw [e2]
        have:=Vn (a:=Ql q) (c:=1) (Zx q) Rat.le_refl (by decide) hd1
        grind
      rw [Jc] at h1
      refine Rat.le_trans h1 (Rat.natCast_le_natCast.2 (by omega))
end Orr

namespace Orr
open Go Go.Proofs Orq
set_option maxRecDepth 10000
theorem Qmv {p q:List Int} (hp:Cp p) (hq:Cp q):Cp (Ra p q):=by unfold Ra; split <;> assumption
theorem Qun {a b:Pt} {t:Tm} (ha:Sc a.c) (hb:Sc b.c) (ht:Va t):Qf Tryz.prog 76 [.one (.int .i64 1),.agg (ta t),.one (.row [Zq a,Zq b])] [.agg (Pl (Tt (Zp t) a b)),.one (.int .i64 0)]:=by
  have h1:=H6 ha hb
  have h2:=H5 ha hb
  refine Jb Tryz.func76 rfl ?_
  refine go tt [.c [] Qmn,.f rfl] rfl trivial ?_
  refine lp (S:=Nat) 3 (fun L1 i=>(22,.v (.one (.int .i64 (i:Int))))::L1) (fun i=>[.blk 64 (ta t),.blk 122 zCt,.blk 122 [.int .i64 1,.int .i64 (if 1≤i then a.id else 0),.int .i64 (if 2≤i then b.id else 0),.int .i64 0,.int .i64 0,.nils,.int .i64 0]]) (fun i=>2-i) (fun i=>i≤2) 0 (Nat.zero_le _) rfl (fun _ _=>rfl) rfl fun i hi=>?_
  rcases (show i=0∨i=1∨i=2 by omega) with rfl | rfl | rfl
  · refine go tt [.t rfl,.x (i:=0) (xs:=Zq a) rfl,.i 0] rfl (by simp [Qa]) ?_
    exact rd 1 (by omega) (by omega) rfl
  · refine go tt [.t rfl,.x (i:=1) (xs:=Zq b) rfl,.i 1] rfl (by simp [Qa]) ?_
    exact rd 2 (by omega) (by omega) rfl
  · exact en tt [.f rfl,.t rfl,.x (i:=0) (xs:=Zq a) rfl,.x (i:=1) (xs:=Zq b) rfl,.c [] (Qjh ha.n hb.n ha.cb hb.cb),.x (i:=0) (xs:=Zq a) rfl,.x (i:=1) (xs:=Zq b) rfl,.c [] (Qja ha.n hb.n ha.cb hb.cb),.c [] Qo4,.c [] (Qjn (Qmv h1 h2).dp ht)] rfl rfl trivial
end Orr

namespace Orr
variable {α:Type}
def Wd (lt:α→α→Bool) (out:List α) (x:α):Nat→Nat
  | 0=>0
  |
   k+1=>match out[k]? with
   | some y=>if lt x y=true then Wd lt out x k else k+1
   | none=>k+1
theorem Qb8 (lt:α→α→Bool) (out:List α) (x:α):∀ k,Wd lt out x k≤k
  | 0=>Nat.le_refl _
  |
   k+1=>by
   simp only [Wd]
   split
   · split
     · exact Nat.le_succ_of_le (Qb8 lt out x k)
     · exact Nat.le_refl _
   · exact Nat.le_refl _
theorem Qlk {lt:α→α→Bool} {out:List α} {x y:α} {k:Nat} (hx:out[k]? = some y) (h:lt x y=true):Wd lt out x (k+1)=Wd lt out x k:=by
  simp only [Wd,hx,h,if_true]
theorem Qfd {lt:α→α→Bool} {out:List α} {x y:α} {k:Nat} (hx:out[k]? = some y) (h:lt x y=false):Wd lt out x (k+1)=k+1:=by
  simp [Wd,hx,h]
def Wa (lt:α→α→Bool) (out:List α) (x:α):List α:=out.take (Wd lt out x out.length)++x::out.drop (Wd lt out x out.length)
theorem Qq5 (lt:α→α→Bool) (out:List α) (x:α):(Wa lt out x).length=out.length+1:=by
  have:=Qb8 lt out x out.length
  simp [Wa]; omega
theorem Mi {lt:α→α→Bool} {out:List α} {x y:α}:y∈Wa lt out x↔y=x∨y∈out:=by
  have h:y∈out↔y∈out.take (Wd lt out x out.length)∨y∈out.drop (Wd lt out x out.length):=by
    rw [←List.mem_append,List.take_append_drop]
  simp only [Wa,List.mem_append,List.mem_cons,h]
  constructor
  · rintro (h | h | h)
    · exact .inr (.inl h)
    · exact .inl h
    · exact .inr (.inr h)
  · rintro (h | h | h)
    · exact .inr (.inl h)
    · exact .inl h
    · exact .inr (.inr h)
def Wm (lt:α→α→Bool) (l:List α):List α:=l.foldl (Wa lt) []
theorem Qil (lt:α→α→Bool) (l:List α) (x:α):Wm lt (l++[x])=Wa lt (Wm lt l) x:=by simp [Wm,List.foldl_append]
theorem Qim {lt:α→α→Bool} {l:List α} {i:Nat} {x:α} (h:l[i]? = some x):Wm lt (l.take (i+1))=Wa lt (Wm lt (l.take i)) x:=by
  rw [List.take_succ,h]; exact Qil _ _ _
theorem E9 (lt:α→α→Bool):∀ (l acc:List α),(l.foldl (Wa lt) acc).length=acc.length+l.length
  | [],acc=>by simp
  | c::l,acc=>by simp only [List.foldl_cons]; rw [E9 lt l (Wa lt acc c),Qq5]; simp; omega
theorem Qai (lt:α→α→Bool) (l:List α):(Wm lt l).length=l.length:=by unfold Wm; rw [E9]; simp
theorem Pd (lt:α→α→Bool):∀ (l acc:List α) {y:α},y∈l.foldl (Wa lt) acc↔y∈l∨y∈acc
  | [],acc,y=>by simp
  |
   c::l,acc,y=>by
   simp only [List.foldl_cons]
   rw [Pd lt l,Mi,List.mem_cons]
   constructor
   · rintro (h | h | h)
     · exact .inl (.inr h)
     · exact .inl (.inl h)
     · exact .inr h
   · rintro ((h | h) | h)
     · exact .inr (.inl h)
     · exact .inl h
     · exact .inr (.inr h)
theorem Qnj {lt:α→α→Bool} {l:List α} {y:α}:y∈Wm lt l↔y∈l:=by
  unfold Wm; rw [Pd]; simp
end Orr

namespace Orr
open Go Orq
structure Wt where
  c:Ct
  known:Bool
  fails:Option Tm
def f0:Option Tm→LV | none=>.row [] | some t=>pl t.p
def f1:Option Tm→LV | none=>.bool false | some t=>sg t.lo.num
def f2:Option Tm→LV | none=>.row [] | some t=>mg t.lo.num
def f3:Option Tm→LV | none=>.bool false | some t=>sg (t.lo.den:Int)
def f4:Option Tm→LV | none=>.row [] | some t=>mg (t.lo.den:Int)
def f5:Option Tm→LV | none=>.bool false | some t=>sg t.hi.num
def f6:Option Tm→LV | none=>.row [] | some t=>mg t.hi.num
def f7:Option Tm→LV | none=>.bool false | some t=>sg (t.hi.den:Int)
def f8:Option Tm→LV | none=>.row [] | some t=>mg (t.hi.den:Int)
abbrev fl (o:Option Tm):List LV:=[f0 o,f1 o,f2 o,f3 o,f4 o,f5 o,f6 o,f7 o,f8 o]
abbrev wl (w:Wt):List LV:=[.int .i64 w.c.kind,.int .i64 w.c.i0,.int .i64 w.c.i1,.int .i64 w.c.i2,.int .i64 w.c.i3,pl w.c.p,.int .i64 w.c.want,.bool w.known,.bool w.fails.isSome,f0 w.fails,f1 w.fails,f2 w.fails,f3 w.fails,f4 w.fails,f5 w.fails,f6 w.fails,f7 w.fails,f8 w.fails]
def Nl (l:List Wt):List (List LV):=l.map fun w=>wl w
theorem Yv {l:List Wt} {i:Nat} {w:Wt} (h:l[i]? = some w):(Nl l)[i]? = some (wl w):=J0 h
theorem Ut (l:List Wt):(Nl l).length=l.length:=by simp [Nl]
structure Cr where
  now:Tm
  l:List Wt
  ev:Int
abbrev Gq (c:Cr) (r0 r1:List (List LV)):List LV:=.bool true::pl c.now.p::sg c.now.lo.num::mg c.now.lo.num::sg (c.now.lo.den:Int)::mg (c.now.lo.den:Int)::sg c.now.hi.num::mg c.now.hi.num::sg (c.now.hi.den:Int)::mg (c.now.hi.den:Int)::.row (Nl c.l)::.int .i64 c.ev::[.row r0,.row r1]
structure WtOk (w:Wt):Prop where
  p:Cp w.c.p
  f:∀ t,w.fails=some t→Va t
structure CrOk (c:Cr):Prop where
  n:Va c.now
  l:∀ w∈c.l,WtOk w
  k:c.l.length≤1000
def Qsz (a b:Ct):Bool:=decide ([a.kind,a.i0,a.i1,a.i2,a.i3]=[b.kind,b.i0,b.i1,b.i2,b.i3])
def fresh (x:Ct):Wt:=⟨x,false,none⟩
def Um:List Wt→Ct→Tm→Option Wt
  | [],x,_=>some (fresh x)
  |
   w::l,x,at_=>if Qsz w.c x=true∧w.known=true∧w.c.p=x.p then
     match w.fails with
     | none=>some ⟨x,true,none⟩
     | some t=>(En t at_).bind fun c=>if 0<c then some ⟨x,true,some t⟩ else Um l x at_
   else Um l x at_
def Mk (old:List Wt) (at_:Tm):List Ct→Option (List Wt)
  | []=>some []
  | x::l=>(Um old x at_).bind fun w=>(Mk old at_ l).bind fun r=>some (w::r)
end Orr

namespace Orr
open Go Go.Proofs Orq
set_option maxRecDepth 10000
theorem Qoi {T:Nat} {c:Cr} {r0 r1:List (List LV)} (hc:Va c.now):Xt Tryz.prog 78 [.one (.ow 0 0)] [.blk T (Gq c r0 r1)] [.agg (ta c.now)] [.blk T (Gq c r0 r1)]:=by
  have cl:=Hx (b:=c.now) (l:=[]) hc.tb (fun t ht=>by cases ht) (by decide) rfl
  refine Jb Tryz.func78 rfl ?_
  exact ed tt [] [0] [.f rfl,.c [] cl] rfl trivial
theorem Qy6 {T:Nat} {c:Cr} {r0 r1:List (List LV)} {x:Ct} {at_:Tm} {w:Wt} (hc:CrOk c) (hx:Cp x.p) (ha:Va at_) (h:Um c.l x at_=some w):Xt Tryz.prog 105 [.one (.ow 0 0),.agg (Pl x),.agg (ta at_)] [.blk T (Gq c r0 r1)] [.agg (wl w)] [.blk T (Gq c r0 r1)]:=by
  have hk:=hc.k
  have hw:=Ut c.l
  refine Jb Tryz.func105 rfl ?_
  refine go tt [] rfl trivial ?_
  refine lp (S:=Nat) 4 (fun L1 i=>(14,.v (.one (.int .i64 (i:Int))))::L1) (fun _=>[.blk T (Gq c r0 r1),.blk 122 (Pl x),.blk 64 (ta at_),.blk 125 [.int .i64 0,.int .i64 0,.int .i64 0,.int .i64 0,.int .i64 0,.nils,.int .i64 0,.bool false,.bool false,.nils,.bool false,.nils,.bool false,.nils,.bool false,.nils,.bool false,.nils]]) (fun i=>c.l.length-i) (fun i=>i≤c.l.length∧Um (c.l.drop i) x at_=some w) 0 ⟨Nat.zero_le _,h⟩ rfl (fun _ _=>rfl) rfl fun i ⟨hi,hf⟩=>?_
  by_cases hlt:i<c.l.length
  · obtain ⟨v,hv⟩:∃ v,c.l[i]? = some v:=⟨_,List.getElem?_eq_getElem hlt⟩
    have hdr:c.l.drop i=v::c.l.drop (i+1):=by
      rw [List.drop_eq_getElem_cons hlt]; congr 1
      have:=List.getElem?_eq_getElem hlt; rw [hv] at this; injection this with this; exact this.symm
    have hvo:=hc.l v (List.mem_of_getElem? hv)
    rw [hdr] at hf
    simp only [Um] at hf
    have hl:decide ((i:Int)<((Nl c.l).length:Int))=true:=by simp [hw]; omega
    by_cases A:Qsz v.c x=true
    · have A':(!decide ([v.c.kind,v.c.i0,v.c.i1,v.c.i2,v.c.i3]=[x.kind,x.i0,x.i1,x.i2,x.i3]))=false:=by
        unfold Qsz at A; rw [A]; rfl
      by_cases B:v.known=true
      · have B':(!v.known)=false:=by rw [B]; rfl
        have cs:=Qaz (p:=v.c.p) (q:=x.p) (Dp.pb hvo.p.dp).ln (Dp.pb hx.dp).ln (Dp.pb hvo.p.dp).bd (Dp.pb hx.dp).bd
        rw [hvo.p.t,hx.t] at cs
        by_cases C:v.c.p=x.p
        · have C':(!decide (v.c.p=x.p))=false:=by simp [C]
          rw [if_pos ⟨A,B,C⟩] at hf
          obtain ⟨vc,vk,vf⟩:=v
          cases vf with
          |
           none =>
           injection hf with hf; subst hf
           exact ed tt [] [0] [.t hl,.x (Yv hv),.g 24 false A',.g 29 false B',.c [] cs,.f C',.g 41 true rfl,.t rfl] rfl trivial
          |
           some t =>
           obtain ⟨r,r1',hf⟩:=Option.bind_eq_some_iff.1 hf
           have cc:=Qaw (hvo.f t rfl).tb ha.tb r1'
           by_cases D:0<r
           · rw [if_pos D] at hf
             injection hf with hf; subst hf
             exact ed tt [] [0] [.t hl,.x (Yv hv),.g 24 false A',.g 29 false B',.c [] cs,.f C',.g 41 false rfl,.c [] cc,.t (by simpa using D)] rfl trivial
           · rw [if_neg D] at hf
             refine go tt [.t hl,.x (Yv hv),.g 24 false A',.g 29 false B',.c [] cs,.f C',.g 41 false rfl,.c [] cc,.f (by simpa using D)] rfl (by simp [Qa]; omega) ?_
             exact rd (i+1) (by omega) ⟨hlt,hf⟩ rfl
        · rw [if_neg fun h=>C h.2.2] at hf
          refine go tt [.t hl,.x (Yv hv),.g 24 false A',.g 29 false B',.c [] cs,.t (by simp [C])] rfl (by simp [Qa]; omega) ?_
          exact rd (i+1) (by omega) ⟨hlt,hf⟩ rfl
      · rw [if_neg fun h=>B h.2.1] at hf
        refine go tt [.t hl,.x (Yv hv),.g 24 false A',.g 29 true (by simpa using B),.t rfl] rfl (by simp [Qa]; omega) ?_
        exact rd (i+1) (by omega) ⟨hlt,hf⟩ rfl
    · rw [if_neg fun h=>A h.1] at hf
      refine go tt [.t hl,.x (Yv hv),.g 24 true (by rw [show decide ([v.c.kind,v.c.i0,v.c.i1,v.c.i2,v.c.i3]=[x.kind,x.i0,x.i1,x.i2,x.i3])=false from Bool.eq_false_iff.2 A]; rfl),.g 29 true rfl,.t rfl] rfl (by simp [Qa]; omega) ?_
      exact rd (i+1) (by omega) ⟨hlt,hf⟩ rfl
  · obtain rfl:i=c.l.length:=by omega
    rw [List.drop_length] at hf
    simp only [Um] at hf
    injection hf with hf; subst hf
    exact ed tt [] [0] [.f (by simp [hw])] rfl trivial
end Orr

namespace Orr
open Go Go.Proofs Orq
set_option maxRecDepth 10000
theorem Ml {old:List Wt} {at_:Tm}:∀ {l:List Ct} {ws:List Wt},Mk old at_ l=some ws→ws.length=l.length∧∀ (i:Nat) (x:Ct),l[i]? = some x→∃ w,Um old x at_=some w∧ws[i]? = some w
  | [],ws,h=>by injection h with h; subst h; exact ⟨rfl,fun i x hx=>by simp at hx⟩
  |
   y::l,ws,h=>by
   simp only [Mk] at h
   obtain ⟨w,hw,h⟩:=Option.bind_eq_some_iff.1 h
   obtain ⟨r,hr,h⟩:=Option.bind_eq_some_iff.1 h
   injection h with h; subst h
   obtain ⟨a,b⟩:=Ml hr
   refine ⟨by simp [a],fun i x hx=>?_⟩
   cases i with
   | zero=>injection hx with hx; subst hx; exact ⟨w,hw,rfl⟩
   | succ i=>exact b i x (by simpa using hx)
theorem Cn {l:List Wt} {i:Nat} {w:Wt} (h:l[i]? = some w):Nl (l.take (i+1))=Nl (l.take i)++[wl w]:=by
  rw [List.take_succ,h]; simp [Nl]
theorem Quk {T:Nat} {c:Cr} {r0 r1:List (List LV)} {at_:Tm} {l:List Ct} {ws:List Wt} (hc:CrOk c) (ha:Va at_) (hl:∀ x∈l,Cp x.p) (hn:l.length≤1000) (h:Mk c.l at_ (Z4 l)=some ws):Xt Tryz.prog 69 [.one (.ow 0 0),.agg (ta at_),.one (.bool true),.one (.row (Q4 l))] [.blk T (Gq c r0 r1)] [] [.blk T (Gq ⟨at_,ws,c.ev⟩ r0 r1)]:=by
  have cs:=Qox (l:=l) (fun x hx=>Dp.pb (hl x hx).dp) (by omega)
  have cl:=Hx (b:=at_) (l:=[]) ha.tb (fun t ht=>by cases ht) (by decide) rfl
  obtain ⟨h1,h2⟩:=Ml h
  have hs:(Z4 l).length=l.length:=Gl l
  refine Jb Tryz.func69 rfl ?_
  refine go tt [.o 8 125 18,.c [] cs] rfl trivial ?_
  refine lp (S:=Nat) 3 (fun L1 i=>(15,.v (.one (.int .i64 (i:Int))))::(8,.v (.one (.orow 2 18 none)))::L1) (fun i=>[.blk T (Gq c r0 r1),.blk 64 (ta at_),.row false 125 18 (Nl (ws.take i))]) (fun i=>ws.length-i) (fun i=>i≤ws.length) 0 (Nat.zero_le _) rfl (fun _ _=>rfl) rfl fun i hi=>?_
  by_cases hlt:i<ws.length
  · obtain ⟨x,hx⟩:∃ x,(Z4 l)[i]? = some x:=⟨_,List.getElem?_eq_getElem (by omega)⟩
    obtain ⟨w,hw,hw'⟩:=h2 i x hx
    have hm:∀ y∈[wl w],y.length=18:=fun y hy=>by rw [List.mem_singleton.1 hy]; rfl
    have hlt':decide ((i:Int)<((Q4 (Z4 l)).length:Int))=true:=by simp [Q4]; omega
    have ck:=Qy6 (T:=T) (r0:=r0) (r1:=r1) hc (hl x (Cg (List.mem_of_getElem? hx))) ha hw
    have hg:=Cn hw'
    obtain ⟨wc,wk,wf⟩:=w
    cases wf <;> (refine go tt [.t hlt',.x (Er hx),.t rfl,.c [0] ck,.s (sz:=18) hm] rfl (by simp [Qa,Ut]; omega) ?_; exact rd (i+1) (by omega) hlt (by rw [hg]; rfl))
  · obtain rfl:i=ws.length:=by omega
    rw [List.take_length]
    have hge:decide ((ws.length:Int)<((Q4 (Z4 l)).length:Int))=false:=by simp [Q4]; omega
    exact ed tt [] [0] [.f hge,.p 2,.c [] cl] rfl trivial
abbrev crz (r0 r1:LV):List LV:=[.bool false,.nils,.bool false,.nils,.bool false,.nils,.bool false,.nils,.bool false,.nils,.nils,.int .i64 0,r0,r1]
theorem Quj {T:Nat} {r0 r1:List (List LV)} {at_:Tm} {l:List Ct} (ha:Va at_) (hl:∀ x∈l,Cp x.p) (hn:l.length≤1000):Xt Tryz.prog 69 [.one (.ow 0 0),.agg (ta at_),.one (.bool false),.one (.row (Q4 l))] [.blk T (crz (.row r0) (.row r1))] [] [.blk T (Gq ⟨at_,(Z4 l).map fresh,0⟩ r0 r1)]:=by
  have cs:=Qox (l:=l) (fun x hx=>Dp.pb (hl x hx).dp) (by omega)
  have cl:=Hx (b:=at_) (l:=[]) ha.tb (fun t ht=>by cases ht) (by decide) rfl
  have hs:(Z4 l).length=l.length:=Gl l
  refine Jb Tryz.func69 rfl ?_
  refine go tt [.o 8 125 18,.c [] cs] rfl trivial ?_
  refine lp (S:=Nat) 3 (fun L1 i=>(15,.v (.one (.int .i64 (i:Int))))::(8,.v (.one (.orow 2 18 none)))::L1) (fun i=>[.blk T (crz (.row r0) (.row r1)),.blk 64 (ta at_),.row false 125 18 (Nl (((Z4 l).map fresh).take i))]) (fun i=>l.length-i) (fun i=>i≤l.length) 0 (Nat.zero_le _) rfl (fun _ _=>rfl) rfl fun i hi=>?_
  by_cases hlt:i<l.length
  · obtain ⟨x,hx⟩:∃ x,(Z4 l)[i]? = some x:=⟨_,List.getElem?_eq_getElem (by omega)⟩
    have hm:∀ y∈[wl (fresh x)],y.length=18:=fun y hy=>by rw [List.mem_singleton.1 hy]; rfl
    have hlt':decide ((i:Int)<((Q4 (Z4 l)).length:Int))=true:=by simp [Q4]; omega
    have hg:=Cn (l:=(Z4 l).map fresh) (i:=i) (w:=fresh x) (by rw [List.getElem?_map,hx]; rfl)
    refine go tt [.t hlt',.x (Er hx),.z 20,.f rfl,.s (sz:=18) hm] rfl (by simp [Qa,Ut]; omega) ?_
    exact rd (i+1) (by omega) hlt (by rw [hg]; rfl)
  · obtain rfl:i=l.length:=by omega
    rw [List.take_of_length_le (by simp; omega)]
    have hge:decide ((l.length:Int)<((Q4 (Z4 l)).length:Int))=false:=by simp [Q4]; omega
    exact ed tt [] [0] [.f hge,.p 2,.c [] cl] rfl trivial
theorem Qml {T:Nat} {r0 r1:List (List LV)} {at_:Tm} {l:List Ct} (ha:Va at_) (hl:∀ x∈l,Cp x.p) (hn:l.length≤1000):Xt Tryz.prog 39 [.one (.ow 0 0),.agg (ta at_),.one (.row (Q4 l))] [.blk T (crz (.row r0) (.row r1))] [] [.blk T (Gq ⟨at_,(Z4 l).map fresh,0⟩ r0 r1)]:=by
  have cl:=Quj (T:=T) (r0:=r0) (r1:=r1) ha hl hn
  refine Jb Tryz.func39 rfl ?_
  exact ed tt [] [0] [.g 12 false rfl,.c [0] cl] rfl trivial
theorem eB {a b:Bool} (h:a=b):TV.one (LV.bool a)=.one (.bool b):=h ▸ rfl
end Orr

namespace Orr
open Go Go.Proofs Orq
set_option maxRecDepth 10000
theorem Lb:∀ {k:Nat} {g:List Int} {l:List (List Int)},Pb g→Bv k g=some l→l.length≤k∧∀ p∈l,Pb p
  | 0,_,_,_,h=>by cases h
  |
   k+1,g,l,hg,h=>by
   simp only [Bv] at h
   split at h
   · injection h with h; subst h; exact ⟨by simp,fun p hp=>by cases hp⟩
   · obtain ⟨d,hd,h⟩:=Option.bind_eq_some_iff.1 h
     obtain ⟨rfl,hdp⟩:=Az hd
     obtain ⟨x,hx,h⟩:=Option.bind_eq_some_iff.1 h
     obtain ⟨q,hq,h⟩:=Option.bind_eq_some_iff.1 h
     obtain ⟨r,hr,h⟩:=Option.bind_eq_some_iff.1 h
     injection h with h; subst h
     obtain ⟨i1,i2⟩:=Lb (Ca hg hdp hx) hr
     refine ⟨by simp; exact i1,fun p hp=>?_⟩
     rcases List.mem_cons.1 hp with rfl | hp
     · exact Qhs hq
     · exact i2 p hp
theorem Qo7 {a:List Int} {l:List (List Int)} (ha:Pb a) (h:Bv 66 (Qn a)=some l):Qf Tryz.prog 277 [pr a] [.one (.row (Jh l))]:=by
  have hp:=Xe ha
  refine Jb Tryz.func277 rfl ?_
  refine go tt [.o 3 24 1,.c [] (Ux ha)] rfl trivial ?_
  refine lp (S:=Nat×List (List Int)×List Int) 1 (fun L1 s=>(4,.v (pr s.2.2))::(3,.v (.one (.orow 0 1 none)))::L1) (fun s=>[.row false 24 1 (Jh s.2.1)]) (fun s=>s.1) (fun s=>Pb s.2.2∧s.2.1.length+s.1≤66∧∃ m,Bv s.1 s.2.2=some m∧s.2.1++m=l) (66,[],Qn a) ⟨hp,Nat.le_refl _,l,h,rfl⟩ rfl (fun _ _=>rfl) rfl fun ⟨k,out,g⟩ ⟨j1,j2,m,j3,j4⟩=>?_
  dsimp only at j1 j2 j3 j4 ⊢
  cases k with
  | zero=>cases j3
  |
   succ k =>
   simp only [Bv] at j3
   split at j3
   · rename_i h0
     injection j3 with j3; subst j3
     rw [List.append_nil] at j4
     subst j4
     exact en tt [.c [] (Y8 _),.f (by simp; omega)] rfl rfl trivial
   · rename_i h0
     obtain ⟨d,hd,j3⟩:=Option.bind_eq_some_iff.1 j3
     obtain ⟨rfl,hdp⟩:=Az hd
     obtain ⟨x,hx,j3⟩:=Option.bind_eq_some_iff.1 j3
     obtain ⟨q,hq,j3⟩:=Option.bind_eq_some_iff.1 j3
     obtain ⟨r,hr,j3⟩:=Option.bind_eq_some_iff.1 j3
     injection j3 with j3; subst j3
     have hxp:=Ca j1 hdp hx
     refine go tt [.c [] (Y8 _),.t (by simp; omega),.c [] (Fo j1.ln j1.bd),.c [] (Qjr j1 hdp hx),.c [] (Qpd j1 hxp hq),.s (sz:=1) (l:=[[pl q]]) (fun c hc=>by rw [List.mem_singleton.1 hc]; rfl)] rfl (by simp [Qa,W9]; omega) ?_
     exact rd (k,out++[q],x) (by dsimp only; omega) ⟨hxp,by simp; omega,r,hr,by rw [←j4]; simp⟩ (by rw [A3]; rfl)
theorem Ey:∀ {l r:List (List Int)},Iu l=some r→r.length=l.length∧∀ i w,l[i]? = some w→(match l[i+1]? with | some v=>∃ f,Ry w v=some f∧r[i]? = some f | none=>r[i]? = some w)
  | [],r,h=>by injection h with h; subst h; exact ⟨rfl,fun i w hw=>by simp at hw⟩
  |
   [w],r,h=>by
   injection h with h; subst h
   refine ⟨rfl,fun i x hx=>?_⟩
   cases i with
   | zero=>simpa using hx
   | succ i=>simp at hx
  |
   w::v::l,r,h=>by
   simp only [Iu] at h
   obtain ⟨f,hf,h⟩:=Option.bind_eq_some_iff.1 h
   obtain ⟨s,hs,h⟩:=Option.bind_eq_some_iff.1 h
   injection h with h; subst h
   obtain ⟨i1,i2⟩:=Ey hs
   refine ⟨by simp [i1],fun i x hx=>?_⟩
   cases i with
   |
    zero =>
    injection hx with hx; subst hx
    exact ⟨f,hf,rfl⟩
   |
    succ i =>
    have:=i2 i x (by simpa using hx)
    simpa using this
theorem Qbk:∀ {l r:List (List Int)},(∀ p∈l,Pb p)→Iu l=some r→∀ p∈r,Pb p
  | [],r,_,h=>by injection h with h; subst h; exact fun p hp=>by cases hp
  | [w],r,hl,h=>by injection h with h; subst h; exact hl
  |
   w::v::l,r,hl,h=>by
   simp only [Iu] at h
   obtain ⟨f,hf,h⟩:=Option.bind_eq_some_iff.1 h
   obtain ⟨s,hs,h⟩:=Option.bind_eq_some_iff.1 h
   injection h with h; subst h
   intro p hp
   rcases List.mem_cons.1 hp with rfl | hp
   · exact Qhs hf
   · exact Qbk (fun p hp=>hl p (List.mem_cons_of_mem _ hp)) hs p hp
theorem Qmi {a:List Int} {l r:List (List Int)} (ha:Pb a) (h:Bv 66 (Qn a)=some l) (hr:Iu l=some r):Qf Tryz.prog 264 [pr a] [.one (.row (Jh r))]:=by
  obtain ⟨i1,i2⟩:=Lb (Xe ha) h
  obtain ⟨j1,j2⟩:=Ey hr
  have hw:=W9 l
  refine Jb Tryz.func264 rfl ?_
  refine go tt [.c [] (Qo7 ha h),.i (Jh l).length,.i (Jh l).length] rfl (by simp [Qa,hw]; omega) ?_
  rw [hw,Uj fun i=>[pl (r.getD i [])]]
  refine lp (S:=Nat) 1 (fun L1 k=>(14,.v (.one (.int .i64 (k:Int))))::L1) (fun k=>[.row false 24 1 (Im (fun i=>[pl (r.getD i [])]) [.nils] l.length k)]) (fun k=>l.length-k) (fun k=>k≤l.length) 0 (Nat.zero_le _) rfl (fun _ _=>rfl) rfl fun k hk=>?_
  by_cases hlt:k<l.length
  · obtain ⟨w,hx⟩:∃ w,l[k]? = some w:=⟨_,List.getElem?_eq_getElem hlt⟩
    have e:=G7 (fun i=>[pl (r.getD i [])]) [.nils] hlt
    have hg:=j2 k w hx
    by_cases h2:k+1<l.length
    · obtain ⟨v,hv⟩:∃ v,l[k+1]? = some v:=⟨_,List.getElem?_eq_getElem h2⟩
      rw [hv] at hg
      obtain ⟨f,f1,f2⟩:=hg
      have e2:r.getD k []=f:=by rw [List.getD_eq_getElem?_getD,f2]; rfl
      rw [e2] at e
      refine go tt [.t (by simp [hw]; omega),.x (Xa hx),.i k,.t (by simp [hw]; omega),.x (i:=k+1) (Xa hv),.c [] (Qpd (i2 w (List.mem_of_getElem? hx)) (i2 v (List.mem_of_getElem? hv)) f1),.i k] rfl (by simp [Qa,U0,hw]; omega) ?_
      rw [List.set_set,e]
      exact rd (k+1) (by omega) hlt rfl
    · have hv:l[k+1]? = none:=List.getElem?_eq_none (by omega)
      rw [hv] at hg
      have e2:r.getD k []=w:=by rw [List.getD_eq_getElem?_getD,hg]; rfl
      rw [e2] at e
      refine go tt [.t (by simp [hw]; omega),.x (Xa hx),.i k,.f (by simp [hw]; omega)] rfl (by simp [Qa,U0,hw]; omega) ?_
      rw [e]
      exact rd (k+1) (by omega) hlt rfl
  · obtain rfl:k=l.length:=by omega
    have e:Im (fun i=>[pl (r.getD i [])]) [.nils] l.length l.length=Jh r:=by
      rw [G6,←j1]
      refine List.ext_getElem? fun i=>?_
      simp only [Jh,List.getElem?_map]
      by_cases hi:i<r.length
      · rw [List.getElem?_range hi]; simp [List.getD_eq_getElem?_getD,List.getElem?_eq_getElem hi]
      · rw [List.getElem?_eq_none (by simpa using hi),List.getElem?_eq_none (by simpa using hi)]; rfl
    rw [e]
    exact en tt [.f (by simp [hw])] rfl rfl trivial
theorem Qhx {p:List Int} (tp:Qm p):Qn (Qn p)=Qn p:=by
  by_cases h:p.length=0
  · have e:Qn p=[]:=by unfold Qn; rw [if_pos h]
    rw [e]; rfl
  · obtain ⟨h1,h2,h3,h4,_⟩:=Vr tp h
    have hc:Jl (Qn p)=1:=by
      have h5:Jl (Qn p)∣1:=h3 _ fun k=>by
        by_cases hk:k<(Qn p).length
        · rw [List.getD_eq_getElem?_getD,List.getElem?_eq_getElem hk]; exact W8 _ (List.getElem_mem hk)
        · rw [List.getD_eq_getElem?_getD,List.getElem?_eq_none (by omega)]; exact Int.dvd_zero _
      have h6:0≤Jl (Qn p):=by unfold Jl; omega
      exact Int.eq_one_of_dvd_one h6 h5
    have hf:∀ q:List Int,0<Qo q→Zr q=Jl q:=fun q hq=>by unfold Zr; rw [if_neg (by omega)]
    have hf:=(hf _ h4).trans hc
    have e0:∀ q:List Int,q.length≠0→Qn q=Kb q (Zr q):=fun q hq=>by unfold Qn; rw [if_neg hq]
    have e:=e0 (Qn p) (by omega)
    rw [hf] at e
    rw [e]
    unfold Kb
    have e2:(Qn p).map (· / (1:Int))=Qn p:=by
      conv=>rhs; rw [←List.map_id (Qn p)]
      exact List.map_congr_left fun z _=>by simp
    rw [e2]
    exact h1
theorem Ql2 (i:Nat):(i:Int).tmod 2=((i % 2:Nat):Int):=rfl
theorem Qy9 {a:List Int} (ha:Pb a) (h:(Qn a).length=0):Qf Tryz.prog 242 [pr a] [pr []] :=
  w tt Tryz.func242 rfl [.c [] (Ux ha),.t (by simp [List.eq_nil_of_length_eq_zero h])] rfl rfl trivial
theorem Tu:∀ {l:List (List Int)} {i:Nat} {p o:List Int},Pb p→(∀ f∈l,Pb f)→Mt i p l=some o→Pb o
  | [],i,p,o,hp,_,h=>by simp only [Mt] at h; injection h with h; subst h; exact hp
  |
   f::l,i,p,o,hp,hl,h=>by
   simp only [Mt] at h
   split at h
   · obtain ⟨q,hq,h⟩:=Option.bind_eq_some_iff.1 h
     obtain ⟨rfl,hq'⟩:=Gy (Z0 _ _) hq
     exact Tu hq' (fun f hf=>hl f (List.mem_cons_of_mem _ hf)) h
   · exact Tu hp (fun f hf=>hl f (List.mem_cons_of_mem _ hf)) h
theorem Qr2:Pb [1]:=⟨rfl,by decide,fun z hz=>by rw [List.mem_singleton.1 hz]; decide⟩
theorem Q1v {a o:List Int} (ha:Pb a) (h:Qhv a=some o):Qf Tryz.prog 242 [pr a] [pr o]:=by
  unfold Qhv at h
  split at h
  · rename_i h0
    injection h with h; subst h
    exact Qy9 ha h0
  rename_i h0
  obtain ⟨l,hl,h⟩:=Option.bind_eq_some_iff.1 h
  obtain ⟨fs,hf,h⟩:=Option.bind_eq_some_iff.1 h
  have hpa:=Xe ha
  have hl':Bv 66 (Qn (Qn a))=some l:=by rw [Qhx ha.t]; exact hl
  obtain ⟨i1,i2⟩:=Lb (Xe ha) hl
  have i3:=Qbk i2 hf
  obtain ⟨j1,_⟩:=Ey hf
  have hw:=W9 fs
  have co:=Qdf (p:=[1]) (by decide) (fun z hz=>by rw [List.mem_singleton.1 hz]; decide)
  rw [show Qp [1]=[1] from rfl] at co
  refine Jb Tryz.func242 rfl ?_
  refine go tt [.c [] (Ux ha),.f (by simpa using h0),.c [] co,.c [] (Qmi hpa hl' hf)] rfl (by simp [Qa]) ?_
  refine lp (S:=Nat×List Int) 0 (fun L1 s=>(16,.v (.one (.int .i64 (s.1:Int))))::(3,.v (pr s.2))::L1) (fun _=>[]) (fun s=>fs.length-s.1) (fun s=>s.1≤fs.length∧Pb s.2∧Mt s.1 s.2 (fs.drop s.1)=some o) (0,[1]) ⟨Nat.zero_le _,Qr2,h⟩ rfl (fun _ _=>rfl) rfl fun ⟨i,p⟩ ⟨k1,k2,k3⟩=>?_
  dsimp only at k1 k2 k3 ⊢
  by_cases hlt:i<fs.length
  · obtain ⟨f,hx⟩:∃ w,fs[i]? = some w:=⟨_,List.getElem?_eq_getElem hlt⟩
    have hdr:fs.drop i=f::fs.drop (i+1):=by
      rw [List.drop_eq_getElem_cons hlt]; congr 1
      have:=List.getElem?_eq_getElem hlt; rw [hx] at this; injection this with this; exact this.symm
    rw [hdr] at k3
    simp only [Mt] at k3
    have pf:=i3 f (List.mem_of_getElem? hx)
    by_cases h2:i % 2=0
    · rw [if_pos h2] at k3
      obtain ⟨q,hq,k3⟩:=Option.bind_eq_some_iff.1 k3
      obtain ⟨rfl,hq'⟩:=Gy (Z0 _ _) hq
      refine go tt [.t (by simp [hw]; omega),.x (Xa hx),.t (by rw [Ql2,h2]; rfl),.c [] (Qoo k2.t pf.t (Nat.lt_of_le_of_lt k2.l (by decide)) (Nat.lt_of_le_of_lt pf.l (by decide)) k2.b pf.b (by decide))] rfl (by simp [Qa]; omega) ?_
      exact rd (i+1,Zn p f) (by dsimp only; omega) ⟨hlt,hq',k3⟩ rfl
    · rw [if_neg h2] at k3
      refine go tt [.t (by simp [hw]; omega),.x (Xa hx),.f (by rw [Ql2,show i % 2=1 by omega]; rfl)] rfl (by simp [Qa]; omega) ?_
      exact rd (i+1,p) (by dsimp only; omega) ⟨hlt,k2,k3⟩ rfl
  · obtain rfl:i=fs.length:=by omega
    rw [List.drop_length] at k3
    simp only [Mt] at k3
    injection k3 with k3; subst k3
    exact en tt [.f (by simp [hw])] rfl rfl trivial
end Orr

namespace Orr
open Go Go.Proofs Orq
set_option maxRecDepth 10000
theorem G9 (z:Int):Qt (z.natAbs:Int)=Qt z:=by unfold Qt; simp
theorem Qo0 {x y:LV} {z:Int} (hi:Xg x y z) (hs:Qt z≤4294967295):Qf Tryz.prog 273 [.agg [x,y]] [.agg (Z1 (z.natAbs:Int))]:=by
  obtain ⟨b,l,rfl,rfl,hl,rfl⟩:=hi
  have e:(Qr false (val l))=((Qr b (val l)).natAbs:Int):=by rw [Xd]; rfl
  rw [←e]
  exact w tt Tryz.func273 rfl [.c [] (S5 hl (Nat.le_trans (Js hs) (by decide))),.c [] (Ju _ _)] rfl rfl trivial
theorem Qu0 {n d:Int} (h0:d≠0) (hn:Qt n≤4294967295) (hd:Qt d≤4294967295):Qf Tryz.prog 274 [.agg (Z1 n),.agg (Z1 d)] [.agg (rl (Rat.divInt n d)),.one (.int .i64 0)] :=
  w tt Tryz.func274 rfl [.c [] (Wq (Qe d) hd),.c [] U9,.f (by simpa using h0),.c [] (Wq (Qe n) hn),.c [] (Hz h0 hn hd)] rfl rfl trivial
theorem Qm8 (l:List Int) (z:Int):Hf (l++[z])=if Hf l<z.natAbs then z.natAbs else Hf l:=by unfold Hf; rw [List.foldl_append]; rfl
theorem Qk3 {s:Nat}:∀ {l:List Int},Bd s l→Qt (Hf l:Int)≤s:=fun {l}=>by
  suffices h:∀ (l:List Int) (m:Nat),Bd s l→Qt (m:Int)≤s→Qt ((l.foldl (fun m z=>if m<z.natAbs then z.natAbs else m) m:Nat):Int)≤s from fun hb=>h l 0 hb (by simp [Qt,sz])
  intro l
  induction l with
  | nil=>exact fun m _ h=>h
  |
   cons z l ih =>
   intro m hb hm
   refine ih _ (fun y hy=>hb y (List.mem_cons_of_mem _ hy)) ?_
   show Qt ((if m<z.natAbs then z.natAbs else m:Nat):Int)≤s
   split
   · rw [G9]; exact hb z (List.mem_cons_self ..)
   · exact hm
def ozi:Option Nat→List LV
  | none=>[.bool false,.nils]
  | some m=>Z1 (m:Int)
def ozr:Option Nat→List LV
  | none=>[.bool false,.row []]
  | some m=>Z1 (m:Int)
theorem Qug {p:List Int} (hp:Pb p) (h0:p.length≠0):Qf Tryz.prog 260 [pr p] [.agg (rl (Zj p)),.one (.int .i64 0)]:=by
  have hl:=hp.l
  have hll:(p.take (p.length-1)).length=p.length-1:=by simp
  have hbt:Bd 16777216 (p.take (p.length-1)):=fun z hz=>hp.b z (List.mem_of_mem_take hz)
  refine Jb Tryz.func260 rfl ?_
  refine go tt [.c [] (Zy hp.t hp.ln hp.bd),.f (by simpa using h0),.r 18 (eI (b:=((p.length-1:Nat):Int)) (by simp; omega)),.i (p.length-1)] rfl (by simp [Qa]; omega) ?_
  rw [←List.map_take]
  refine lp (S:=Nat×Option Nat) 2 (fun L1 s=>(21,.v (.one (.int .i64 (s.1:Int))))::L1) (fun s=>[.blk 40 [.bool false,.nils,.bool false,.nils],.blk 27 (ozi s.2)]) (fun s=>p.length-1-s.1) (fun s=>s.1≤p.length-1∧Hf ((p.take (p.length-1)).take s.1)=s.2.getD 0) (0,none) ⟨Nat.zero_le _,rfl⟩ rfl (fun _ _=>rfl) rfl fun ⟨i,o⟩ ⟨j1,j2⟩=>?_
  dsimp only at j1 j2 ⊢
  by_cases hlt:i<p.length-1
  · obtain ⟨z,hz⟩:∃ w,(p.take (p.length-1))[i]? = some w:=⟨_,List.getElem?_eq_getElem (by omega)⟩
    have bz:Qt z≤16777216:=hbt z (List.mem_of_getElem? hz)
    have hst:Hf ((p.take (p.length-1)).take (i+1))=if o.getD 0<z.natAbs then z.natAbs else o.getD 0:=by
      rw [List.take_succ,hz]; show Hf (_++[z])=_; rw [Qm8,j2]
    have ca:=Qo0 (Qe z) (Nat.le_trans bz (by decide))
    have hl1:decide ((i:Int)<(((p.take (p.length-1)).map Z1).length:Int))=true:=by simp; omega
    have bm:Qt ((o.getD 0:Nat):Int)≤16777216:=by rw [←j2]; exact Qk3 fun y hy=>hbt y (List.mem_of_mem_take hy)
    have hcm:Kv (z.natAbs:Int) ((o.getD 0:Nat):Int)>0↔o.getD 0<z.natAbs:=by unfold Kv; split <;> (try split) <;> omega
    have cc:Qf Tryz.prog 130 [.agg (Z1 (z.natAbs:Int)),.agg (ozr o)] [.one (.int .i64 (Kv (z.natAbs:Int) ((o.getD 0:Nat):Int)))]:=by
      cases o with
      | none=>exact Ny (Qe _) J7 (by rw [G9]; omega) (by decide)
      | some m=>exact Ny (Qe _) (Qe _) (by rw [G9]; omega) (Nat.le_trans bm (by decide))
    by_cases hc:o.getD 0<z.natAbs
    · rw [if_pos hc] at hst
      have hd:decide (Kv (z.natAbs:Int) ((o.getD 0:Nat):Int)>0)=true:=by simpa using hcm.2 hc
      cases o <;> (refine go tt [.t hl1,.x (J0 (f:=Z1) hz),.c [] ca,.c [] cc,.t hd] rfl (by simp [Qa]; omega) ?_; exact rd (i+1,some z.natAbs) (by dsimp only; omega) ⟨hlt,hst⟩ rfl)
    · rw [if_neg hc] at hst
      have hd:decide (Kv (z.natAbs:Int) ((o.getD 0:Nat):Int)>0)=false:=by
        have:=mt hcm.1 hc; simpa using this
      cases o with
      | none=>refine go tt [.t hl1,.x (J0 (f:=Z1) hz),.c [] ca,.c [] cc,.f hd] rfl (by simp [Qa]; omega) ?_; exact rd (i+1,none) (by dsimp only; omega) ⟨hlt,hst⟩ rfl
      | some m=>refine go tt [.t hl1,.x (J0 (f:=Z1) hz),.c [] ca,.c [] cc,.f hd] rfl (by simp [Qa]; omega) ?_; exact rd (i+1,some m) (by dsimp only; omega) ⟨hlt,hst⟩ rfl
  · obtain rfl:i=p.length-1:=by omega
    rw [List.take_of_length_le (by omega)] at j2
    have bl:Qt (Qo p)≤16777216:=hp.b _ (An h0)
    have ln:((Qo p).natAbs:Int)≠0:=by have:=Wu hp.t h0; omega
    have cl:=Kj hp.t hp.ln hp.bd
    have ca:=Qo0 (Qe (Qo p)) (Nat.le_trans bl (by decide))
    have bm:Qt ((o.getD 0:Nat):Int)≤16777216:=by rw [←j2]; exact Qk3 hbt
    have cd:Qf Tryz.prog 209 [.agg (Z1 ((Qo p).natAbs:Int)),.agg (ozr o)] [.agg (Z1 (((Qo p).natAbs:Int)+(Hf (p.take (p.length-1)):Int)))]:=by
      rw [j2]
      cases o with
      | none=>exact S6 (Qe _) J7 (by rw [G9]; omega) (by decide)
      | some m=>exact S6 (Qe _) (Qe _) (by rw [G9]; omega) (Nat.le_trans bm (by decide))
    have cm:=Qu0 (n:=((Qo p).natAbs:Int)+(Hf (p.take (p.length-1)):Int)) ln (Nat.le_trans (Mj _ _) (by rw [G9,j2]; omega)) (by rw [G9]; omega)
    have hf:decide (((p.length-1:Nat):Int)<(((p.take (p.length-1)).map Z1).length:Int))=false:=by simp
    cases o <;> exact en tt [.f hf,.c [] cl,.c [] ca,.c [] cd,.c [] cm] rfl rfl trivial
end Orr

namespace Orr
open Go Go.Proofs Orq
set_option maxRecDepth 10000
theorem Qxq {z:Int}:Qf Tryz.prog 293 [.agg (Z1 z)] [.one (.int .i64 (Int.sign z))]:=by
  by_cases h0:z=0
  · subst h0
    exact w tt Tryz.func293 rfl [.t (by simp [Qd,Ze])] rfl rfl trivial
  · have hl:(Qw z.natAbs).length≠0:=fun h=>h0 (Qm7.1 h)
    have hl':decide (((lm (Qw z.natAbs)).length:Int)=0)=false:=by simpa [Qd] using hl
    by_cases h1:z<0
    · rw [Int.sign_eq_neg_one_of_neg h1]
      exact w tt Tryz.func293 rfl [.f hl',.t (by simpa using h1)] rfl rfl trivial
    · rw [Int.sign_eq_one_of_pos (by omega)]
      exact w tt Tryz.func293 rfl [.f hl',.f (by simpa using h1)] rfl rfl trivial
theorem Qod {p:List Int} (hp:Pb p):Qf Tryz.prog 285 [pr p] [.one (.int .i64 (Hp p)),.one (.int .i64 (Ma p))]:=by
  have hb:-1≤(Qo p).sign∧(Qo p).sign≤1:=by rcases Ur (Qo p) with h | h | h <;> omega
  by_cases h:p.length % 2=0
  · have e:Hp p=-(Qo p).sign:=by unfold Hp; rw [if_pos h]
    rw [e]
    exact w tt Tryz.func285 rfl [.c [] (Zy hp.t hp.ln hp.bd),.c [] (Kj hp.t hp.ln hp.bd),.c [] Qxq,.t (by rw [Ql2]; simp [h])] rfl rfl (by simp [Qa,Qo] at hb ⊢; omega)
  · have e:Hp p=(Qo p).sign:=by unfold Hp; rw [if_neg h]
    rw [e]
    exact w tt Tryz.func285 rfl [.c [] (Zy hp.t hp.ln hp.bd),.c [] (Kj hp.t hp.ln hp.bd),.c [] Qxq,.f (by rw [Ql2]; simp; omega)] rfl rfl (by simp [Qa])
theorem Qo9 {p:List Int} (hp:Pb p):Qf Tryz.prog 284 [pr p] [.one (.int .i64 (Hp p))]:=w tt Tryz.func284 rfl [.c [] (Qod hp)] rfl rfl trivial
theorem Quz {p:List Int} (hp:Pb p):Qf Tryz.prog 286 [pr p] [.one (.int .i64 (Ma p))]:=w tt Tryz.func286 rfl [.c [] (Qod hp)] rfl rfl trivial
theorem Qze {q:Rat} (hq:Qs 4294967295 q):Qf Tryz.prog 262 [.agg (rl q)] [.agg (rl (-q))]:=by
  exact w tt Tryz.func262 rfl [.c [] (Eh hq),.c [] (Ec (Qe _) hq.1)] rfl rfl trivial
theorem Qdi {l:List (List Int)} {fid:Nat} {sg:List Int→Int} (hl:l.length≤1000) (hs:∀ p,-1≤sg p∧sg p≤1) (h:∀ p∈l,Qf Tryz.prog fid [pr p] [.one (.int .i64 (sg p))]):Qf Tryz.prog 258 [.one (.sh [.row (Jh l)]),.one (.fn fid [] [])] [.one (.int .i64 (V1 sg l:Nat))]:=by
  have Mg:=W9 l
  refine Jb Tryz.func258 rfl ?_
  refine go tt [] rfl trivial ?_
  refine lp (S:=Nat) 0 (fun L1 i=>(15,.v (.one (.int .i64 (i:Int))))::(5,.v (.one (.int .i64 ((So sg l i).1:Int))))::(6,.v (.one (.int .i64 (So sg l i).2)))::L1) (fun _=>[]) (fun i=>l.length-i) (fun i=>i≤l.length) 0 (Nat.zero_le _) rfl (fun _ _=>rfl) rfl fun i hi=>?_
  by_cases hlt:i<l.length
  · obtain ⟨p,hp⟩:∃ p,l[i]? = some p:=⟨_,List.getElem?_eq_getElem hlt⟩
    have hst:So sg l (i+1)=Jq sg (So sg l i) p:=Xz _ _ _ hp
    obtain ⟨b1,b2,b3⟩:=Qcs hs l i
    have b4:=hs p
    by_cases h0:sg p=0
    · refine go tt [.t (by simp [Mg]; omega),.x (Xa hp),.c [] (h p (List.mem_of_getElem? hp)),.t (by simpa using h0)] rfl (by simp [Qa]; omega) ?_
      exact rd (i+1) (by omega) hlt (by rw [hst,show Jq sg (So sg l i) p=So sg l i from by unfold Jq; rw [if_pos h0]]; rfl)
    · by_cases h1:(So sg l i).2=-(sg p)
      · refine go tt [.t (by simp [Mg]; omega),.x (Xa hp),.c [] (h p (List.mem_of_getElem? hp)),.f (by simpa using h0),.t (by simpa using h1)] rfl (by simp [Qa]; omega) ?_
        exact rd (i+1) (by omega) hlt (by rw [hst,show Jq sg (So sg l i) p=((So sg l i).1+1,sg p) from by unfold Jq; rw [if_neg h0,if_pos h1]]; rfl)
      · refine go tt [.t (by simp [Mg]; omega),.x (Xa hp),.c [] (h p (List.mem_of_getElem? hp)),.f (by simpa using h0),.f (by simpa using h1)] rfl (by simp [Qa]; omega) ?_
        exact rd (i+1) (by omega) hlt (by rw [hst,show Jq sg (So sg l i) p=((So sg l i).1,sg p) from by unfold Jq; rw [if_neg h0,if_neg h1]]; rfl)
  · obtain rfl:i=l.length:=by omega
    refine en tt [.f (by simp [Mg])] rfl ?_ trivial
    unfold So V1; rw [List.take_length]
theorem Bf (p:List Int):(-1≤Hp p∧Hp p≤1)∧-1≤Ma p∧Ma p≤1:=by
  have hb:-1≤(Qo p).sign∧(Qo p).sign≤1:=by rcases Ur (Qo p) with h | h | h <;> omega
  unfold Hp Ma
  split <;> omega
theorem Quh {l:List (List Int)} (hl:l.length≤1000) (hp:∀ p∈l,Pb p):Qf Tryz.prog 263 [.one (.sh [.row (Jh l)])] [.one (.int .i64 (R9 l))]:=by
  have c1:Qf Tryz.prog 275 [.one (.sh [.row (Jh l)])] [.one (.int .i64 (V1 Hp l:Nat))] :=
    w tt Tryz.func275 rfl [.c [] (Qdi hl (fun p=>(Bf p).1) fun p h=>Qo9 (hp p h))] rfl rfl trivial
  have c2:Qf Tryz.prog 276 [.one (.sh [.row (Jh l)])] [.one (.int .i64 (V1 Ma l:Nat))] :=
    w tt Tryz.func276 rfl [.c [] (Qdi hl (fun p=>(Bf p).2) fun p h=>Quz (hp p h))] rfl rfl trivial
  have b1:V1 Hp l≤l.length:=K8 (fun p=>(Bf p).1) l
  have b2:V1 Ma l≤l.length:=K8 (fun p=>(Bf p).2) l
  exact w tt Tryz.func263 rfl [.c [] c1,.c [] c2] rfl rfl (by simp [Qa]; omega)
theorem Qgo {l:List (List Int)} {lo hi:Rat} (hl:l.length≤1000):-1000≤Xq l lo hi∧Xq l lo hi≤1000:=by
  have b1:V2 l lo≤l.length:=K8 (fun p=>Gh p lo) l
  have b2:V2 l hi≤l.length:=K8 (fun p=>Gh p hi) l
  unfold Xq; split <;> omega
end Orr

namespace Orr
open Go Go.Proofs Orq
set_option maxRecDepth 10000
abbrev tal (l:List Tm):List (List LV):=l.map fun t=>ta t
theorem Lm {p:List Int} {c:List (List Int)} (hp:Pb p):∀ {k:Nat} {lo hi:Rat} {n:Int} {r:List Tm},Qb lo→Qb hi→Up p c k lo hi n=some r→∀ t∈r,Tb t
  | 0,_,_,_,_,_,_,h=>by cases h
  |
   k+1,lo,hi,n,r,hl,hh,h=>by
   simp only [Up] at h
   split at h
   · injection h with h; subst h; exact fun t ht=>by cases ht
   · split at h
     · injection h with h; subst h
       intro t ht; rw [List.mem_singleton.1 ht]; exact ⟨hp,hl,hh⟩
     · obtain ⟨m,hm,h⟩:=Option.bind_eq_some_iff.1 h
       obtain ⟨rfl,qm⟩:=El hm
       obtain ⟨x,hx,h⟩:=Option.bind_eq_some_iff.1 h
       obtain ⟨y,hy,h⟩:=Option.bind_eq_some_iff.1 h
       injection h with h; subst h
       intro t ht
       rcases List.mem_append.1 ht with ht | ht
       · exact Lm hp hl qm hx t ht
       · exact Lm hp qm hh hy t ht
theorem Q04 (l:List Tm):∀ c∈tal l,c.length=9:=fun c hc=>by obtain ⟨t,_,rfl⟩:=List.mem_map.1 hc; rfl
theorem Qgw {p:List Int} {c:List (List Int)} (hp:Pb p) (hcl:c.length≤1000) (hc:∀ q∈c,Pb q):∀ {k:Nat} {lo hi:Rat} {n:Int} {r:List Tm},Qb lo→Qb hi→k≤100000→-(1000*(100001-k:Nat))≤n∧n≤1000*(100001-k:Nat)→Up p c k lo hi n=some r→r.length≤1000000→Xt Tryz.prog 261 [pr p,.one (.sh [.row (Jh c)]),.agg (rl lo),.agg (rl hi),.one (.int .i64 n)] [] [.one (.orow 0 9 none)] [.row false 64 9 (tal r)]
  | 0,_,_,_,_,_,_,_,_,h,_=>by cases h
  |
   k+1,lo,hi,n,r,hl,hh,hk,hn,h,hr=>by
   simp only [Up] at h
   split at h
   · rename_i h0
     injection h with h; subst h
     refine Jb Tryz.func261 rfl ?_
     exact ed tt [] [2] [.t (by simpa using h0),.o 10 64 9] rfl trivial
   · rename_i h0
     split at h
     · rename_i h1
       injection h with h; subst h
       refine Jb Tryz.func261 rfl ?_
       exact ed tt [] [2] [.f (by simpa using h0),.t (by simpa using h1),.c [] (Zy hp.t hp.ln hp.bd),.c [] (Gw hl.s32),.c [] (Gw hh.s32),.lo] rfl trivial
     · rename_i h1
       obtain ⟨m,hm,h⟩:=Option.bind_eq_some_iff.1 h
       obtain ⟨rfl,qm⟩:=El hm
       obtain ⟨x,hx,h⟩:=Option.bind_eq_some_iff.1 h
       obtain ⟨y,hy,h⟩:=Option.bind_eq_some_iff.1 h
       injection h with h; subst h
       have hb:=Qgo (l:=c) (lo:=lo) (hi:=mid lo hi) hcl
       rw [List.length_append] at hr
       have c1:=Qgw hp hcl hc hl qm (by omega) (by omega) hx (by omega)
       have c2:=Qgw hp hcl hc qm hh (by omega) (by omega) hy (by omega)
       rw [show tal (x++y)=tal x++tal y from List.map_append]
       refine Jb Tryz.func261 rfl ?_
       exact ed tt [] [3] [.f (by simpa using h0),.f (by simpa using h1),.c [] (Qxp hl hh),.c [] (I3 hcl hc hl qm),.c [3] c1,.c [4] c2,.s (Q04 y)] rfl (by simp [Qa]; omega)
theorem Quo {p:List Int} {r:List Tm} (hp:Pb p) (h:Ic p=some r) (hr:r.length≤1000000):Qf Tryz.prog 241 [pr p] [.one (tas r),.one (.int .i64 0)]:=by
  unfold Ic at h
  obtain ⟨c,h1,h⟩:=Option.bind_eq_some_iff.1 h
  obtain ⟨q,h2,h⟩:=Option.bind_eq_some_iff.1 h
  obtain ⟨b,h3,h⟩:=Option.bind_eq_some_iff.1 h
  obtain ⟨rfl,hb⟩:=El h3
  obtain ⟨k1,k2⟩:=chain_ok hp h1
  have hq:=B9 hp h2
  have q0:q.length≠0:=by
    unfold Hm at h1
    obtain ⟨a,a1,h1⟩:=Option.bind_eq_some_iff.1 h1
    rw [h2] at a1; injection a1 with a1; subst a1
    split at h1
    · cases h1
    · assumption
  have qn:Qb (-Zj q):=⟨by rw [Rat.neg_num,U3]; exact hb.1,by rw [Rat.neg_den]; exact hb.2⟩
  have bb1:V1 Hp c≤c.length:=K8 (fun p=>(Bf p).1) c
  have bb2:V1 Ma c≤c.length:=K8 (fun p=>(Bf p).2) c
  have hn:-(1000*(100001-100000:Nat):Int)≤R9 c∧R9 c≤1000*(100001-100000:Nat):=by unfold R9; omega
  have cr:=Qgw hq (by omega) k2 qn hb (Nat.le_refl _) hn h hr
  refine Jb Tryz.func241 rfl ?_
  exact ed tt [1] [] [.c [] (Qou hp h1),.f rfl,.c [] (Ee hp h2),.c [] (Qug hq q0),.c [] (Qze hb.s32),.c [] (Quh (by omega) k2),.c [1] cr] rfl trivial
end Orr

namespace Orr
open Go Go.Proofs Orq
set_option maxRecDepth 10000
def Qk (l:List Pt):List (List LV):=l.map Zq
theorem Je {l:List Pt} {i:Nat} {c:Pt} (h:l[i]? = some c):(Qk l)[i]? = some (Zq c):=J0 h
theorem Jf (l:List Pt):(Qk l).length=l.length:=by simp [Qk]
theorem Qch (l:List Pt):∀ c∈Qk l,c.length=5:=fun c hc=>by
  obtain ⟨x,_,rfl⟩:=List.mem_map.1 hc; rfl
abbrev zPt:List LV:=[.nils,.nils,.bool false,.nils,.int .i64 0]
theorem Qkl {lt:Pt→Pt→Bool} {O:List Pt} {z:List LV} {c:Pt} {k m:Nat} {l2:List (List LV)} (hk:k≤O.length) (hp:Wd lt O c O.length=k) (hm:m=O.length-k) (h2:l2.take m=((Qk O++[z]).drop k).take m) :
    ((Qk O++[z]).take (k+1)++(l2.take m++(Qk O++[z]).drop (k+1+m))).set k (Zq c)=Qk (Wa lt O c):=by
  rw [h2,←List.append_assoc,Qeb (Qk O) z (Zq c) (by rw [Jf]; omega) (by rw [Jf]; omega)]
  simp [Wa,hp,Qk,List.map_take,List.map_drop]
def X9 (t:Tm) (l:List Pt):List Pt:=Wm (Xu (Zp t)) l
theorem Qji {l:List Pt} {t:Tm} (hl:∀ p∈l,Sc p.c) (hn:l.length≤1000000) (ht:Va t):Qf Tryz.prog 72 [.agg (ta t),.one (pts l)] [.one (pts (X9 t l))]:=by
  have hcl:=Jf l
  show Qf Tryz.prog 72 [.agg (ta t),.one (.row (Qk l))] [.one (.row (Qk (X9 t l)))]
  obtain ⟨lt,hlt0⟩:∃ lt,lt=Xu (Zp t):=⟨_,rfl⟩
  unfold X9
  rw [←hlt0]
  refine Jb Tryz.func72 rfl ?_
  refine go tt [.o 5 33 5] rfl trivial ?_
  refine lp (S:=Nat) 2 (fun L1 i=>(11,.v (.one (.int .i64 (i:Int))))::(5,.v (.one (.orow 1 5 none)))::L1) (fun i=>[.blk 64 (ta t),.row false 33 5 (Qk (Wm lt (l.take i)))]) (fun i=>l.length-i) (fun i=>i≤l.length) 0 (Nat.zero_le _) rfl (fun _ _=>rfl) rfl fun i hi=>?_
  by_cases hlt:i<l.length
  · obtain ⟨c,hc⟩:∃ c,l[i]? = some c:=⟨_,List.getElem?_eq_getElem hlt⟩
    have hst:Wm lt (l.take (i+1))=Wa lt (Wm lt (l.take i)) c:=Qim hc
    have hcp:=hl c (List.mem_of_getElem? hc)
    obtain ⟨O,hO⟩:∃ O,O=Wm lt (l.take i):=⟨_,rfl⟩
    have hOl:O.length=i:=by rw [hO,Qai,List.length_take]; omega
    have hOm:∀ x∈O,Sc x.c:=fun x hx=>by rw [hO,Qnj] at hx; exact hl x (List.mem_of_mem_take hx)
    rw [←hO] at hst ⊢
    refine go tt [.t (by simp [hcl]; omega),.x (Je hc)] rfl trivial ?_
    refine lp (S:=Nat) 3 (fun L1 k=>(8,.v (.one (.int .i64 (k:Int))))::L1) (fun k=>[.blk 64 (ta t),.row false 33 5 (Qk O),.blk 33 (Zq c)]) id (fun k=>k≤O.length∧Wd lt O c k=Wd lt O c O.length) (Qk O).length ⟨by rw [Jf]; exact Nat.le_refl _,by rw [Jf]⟩ rfl (fun _ _=>rfl) rfl fun k ⟨hk,hp⟩=>?_
    have hz:∀ y∈[zPt],y.length=5:=fun y hy=>by rw [List.mem_singleton.1 hy]; rfl
    have h77:∀ y∈Qk O++[zPt],y.length=5:=fun y hy=>by
      rcases List.mem_append.1 hy with hy | hy
      · exact Qch O y hy
      · exact hz y hy
    cases k with
    |
     zero =>
     have hp:Wd lt O c O.length=0:=by rw [←hp]; rfl
     refine go tt [.g 19 false (by simp),.f rfl,.s (sz:=5) hz,.r 37 (eI (b:=((0+1:Nat):Int)) (by simp)),.i (0+1),.i (0),.s (sz:=5) (fun y hy=>h77 y (List.mem_of_mem_take hy)),.i (O.length),.i (0)] rfl (by simp [Qa,Jf]; omega) ?_
     exact rd (i+1) (by omega) hlt (by rw [hst,←Qkl (z:=zPt) (l2:=(Qk O++[zPt]).take ((Qk O++[zPt]).length-0)) (k:=0) (m:=O.length) (by omega) hp (by omega) (by congr 1; exact List.take_of_length_le (by simp))]; rfl)
    |
     succ k =>
     obtain ⟨x,hx⟩:∃ x,O[k]? = some x:=⟨_,List.getElem?_eq_getElem (by omega)⟩
     have cb:=Qob hcp (hOm x (List.mem_of_getElem? hx)) ht
     rw [←hlt0] at cb
     by_cases hlc:lt c x=true
     · refine go tt [.g 19 true (by simp),.r 23 (eI (b:=(k:Int)) (by simp)),.i k,.x (Je hx),.c [] cb,.t hlc,.r 30 (eI (b:=(k:Int)) (by simp))] rfl (by simp [Qa,Jf]; omega) ?_
       exact rd k (by simp) ⟨by omega,by rw [←hp,Qlk hx hlc]⟩ rfl
     · have hlc:lt c x=false:=by simpa using hlc
       have hp:Wd lt O c O.length=k+1:=by rw [←hp,Qfd hx hlc]
       refine go tt [.g 19 true (by simp),.r 23 (eI (b:=(k:Int)) (by simp)),.i k,.x (Je hx),.c [] cb,.f hlc,.s (sz:=5) hz,.r 37 (eI (b:=((k+1+1:Nat):Int)) (by simp)),.i (k+1+1),.i (k+1),.s (sz:=5) (fun y hy=>h77 y (List.mem_of_mem_drop (List.mem_of_mem_take hy))),.i (O.length-(k+1)),.i (k+1)] rfl (by simp [Qa,Jf]; omega) ?_
       exact rd (i+1) (by omega) hlt (by rw [hst,←Qkl (z:=zPt) (l2:=((Qk O++[zPt]).drop (k+1)).take ((Qk O++[zPt]).length-(k+1))) (k:=k+1) (m:=O.length-(k+1)) (by omega) hp (by omega) (by congr 1; exact List.take_of_length_le (by simp))]; rfl)
  · obtain rfl:i=l.length:=by omega
    rw [List.take_length]
    exact en tt [.f (by simp [hcl])] rfl rfl trivial
def Yt (sg:List Int→Int):List Pt→List Ct
  | a::b::l=>Tt sg a b::Yt sg (b::l)
  | _=>[]
theorem Ub (sg:List Int→Int):∀ l:List Pt,(Yt sg l).length=l.length-1
  | []=>rfl
  | [_]=>rfl
  | a::b::l=>by simp only [Yt,List.length_cons,Ub sg (b::l)]; omega
theorem Qaa (sg:List Int→Int):∀ {l:List Pt} {i:Nat} {a b:Pt},l[i]? = some a→l[i+1]? = some b→(Yt sg l).take (i+1)=(Yt sg l).take i++[Tt sg a b]
  | [],i,a,b,h,_=>by simp at h
  | [x],i,a,b,_,h=>by cases i <;> simp at h
  | x::y::l,0,a,b,h1,h2=>by simp at h1 h2; subst h1; subst h2; simp [Yt]
  |
   x::y::l,i+1,a,b,h1,h2=>by
   have ih:=Qaa sg (l:=y::l) (i:=i) (a:=a) (b:=b) (by simpa using h1) (by simpa using h2)
   simp only [Yt,List.take_succ_cons] at ih ⊢
   rw [ih]; rfl
end Orr

namespace Orr
open Go Go.Proofs Orq
set_option maxRecDepth 10000
theorem Qup:Qf Tryz.prog 211 [pr []] [.one .nilp,.one (.int .i64 2)]:=by
  have h:Yk []=some []:=rfl
  exact w tt Tryz.func211 rfl [.c [] (Ee B8 h),.t rfl] rfl rfl trivial
theorem Qot:Qf Tryz.prog 241 [pr []] [.one (.row []),.one (.int .i64 2)] :=
  w tt Tryz.func241 rfl [.c [] Qup,.t rfl] rfl rfl trivial
theorem Q0g {a o:List Int} (ha:Pb a) (h:Qhv a=some o):Pb o:=by
  unfold Qhv at h
  split at h
  · injection h with h; subst h; exact B8
  · obtain ⟨l,hl,h⟩:=Option.bind_eq_some_iff.1 h
    obtain ⟨fs,hf,h⟩:=Option.bind_eq_some_iff.1 h
    exact Tu Qr2 (Qbk (Lb (Xe ha) hl).2 hf) h
theorem Qof {p:List Int} {l:List Tm} (hp:Pb p) (h:Pw p=some l) (hl:l.length≤1000000):Qf Tryz.prog 214 [pr p] [.one (tas l)]:=by
  unfold Pw at h
  obtain ⟨q,hq,h⟩:=Option.bind_eq_some_iff.1 h
  have qp:=Q0g hp hq
  have co:=Q1v hp hq
  split at h
  · rename_i h0
    injection h with h; subst h
    obtain rfl:=List.eq_nil_of_length_eq_zero h0
    exact w tt Tryz.func214 rfl [.c [] co,.c [] Qot,.t rfl] rfl rfl trivial
  · exact w tt Tryz.func214 rfl [.c [] co,.c [] (Quo qp h hl),.f rfl] rfl rfl trivial
def ota:Option Tm→List LV
  | none=>zTr
  | some t=>ta t
theorem Qui {p:List Int} {a:Tm} {l:List Tm} {r:Option Tm} (hp:Pb p) (ha:Tb a) (h:Pw p=some l) (hl:l.length≤1000000) (ht:∀ t∈l,Tb t) (hr:Sv a l=some r):Qf Tryz.prog 173 [pr p,.agg (ta a)] [.agg (ota r),.one (.bool r.isSome)]:=by
  have hll:(l.map fun t=>ta t).length=l.length:=by simp
  refine Jb Tryz.func173 rfl ?_
  refine go tt [.c [] (Qof hp h hl)] rfl trivial ?_
  refine lp (S:=Nat) 2 (fun L1 i=>(11,.v (.one (.int .i64 (i:Int))))::L1) (fun _=>[.blk 64 (ta a),.blk 64 zTm]) (fun i=>l.length-i) (fun i=>i≤l.length∧Sv a (l.drop i)=some r) 0 ⟨Nat.zero_le _,hr⟩ rfl (fun _ _=>rfl) rfl fun i ⟨hi,hf⟩=>?_
  by_cases hlt:i<l.length
  · obtain ⟨t,hx⟩:∃ t,l[i]? = some t:=⟨_,List.getElem?_eq_getElem hlt⟩
    have hdr:l.drop i=t::l.drop (i+1):=by
      rw [List.drop_eq_getElem_cons hlt]; congr 1
      have:=List.getElem?_eq_getElem hlt; rw [hx] at this; injection this with this; exact this.symm
    rw [hdr] at hf
    simp only [Sv] at hf
    obtain ⟨c,c1,hf⟩:=Option.bind_eq_some_iff.1 hf
    have cc:=Qaw (ht t (List.mem_of_getElem? hx)) ha c1
    by_cases hc:0<c
    · rw [if_pos hc] at hf
      injection hf with hf; subst hf
      exact en tt [.t (by simp; omega),.x (Lv hx),.c [] cc,.t (by simpa using hc)] rfl rfl trivial
    · rw [if_neg hc] at hf
      refine go tt [.t (by simp; omega),.x (Lv hx),.c [] cc,.f (by simpa using hc)] rfl (by simp [Qa]; omega) ?_
      exact rd (i+1) (by omega) ⟨hlt,hf⟩ rfl
  · obtain rfl:i=l.length:=by omega
    rw [List.drop_length] at hf
    simp only [Sv] at hf
    injection hf with hf; subst hf
    exact en tt [.f (by simp)] rfl rfl trivial
end Orr

namespace Orr
open Go Go.Proofs Orq
set_option maxRecDepth 10000
def Rp (now:Tm):List Wt→Option (List Wt)
  | []=>some []
  | w::l=>(if w.known=true then some w else (C9 w.c.p now).bind fun r=>some ⟨w.c,true,r⟩).bind fun w'=>(Rp now l).bind fun r=>some (w'::r)
theorem Bz {now:Tm}:∀ {l ws:List Wt},Rp now l=some ws→ws.length=l.length∧∀ (i:Nat) (w:Wt),l[i]? = some w→∃ v,ws[i]? = some v∧(w.known=true∧v=w∨w.known=false∧∃ r,C9 w.c.p now=some r∧v=⟨w.c,true,r⟩)
  | [],ws,h=>by injection h with h; subst h; exact ⟨rfl,fun i x hx=>by simp at hx⟩
  |
   y::l,ws,h=>by
   simp only [Rp] at h
   obtain ⟨v,hv,h⟩:=Option.bind_eq_some_iff.1 h
   obtain ⟨r,hr,h⟩:=Option.bind_eq_some_iff.1 h
   injection h with h; subst h
   obtain ⟨a,b⟩:=Bz hr
   refine ⟨by simp [a],fun i x hx=>?_⟩
   cases i with
   |
    zero =>
    injection hx with hx; subst hx
    refine ⟨v,rfl,?_⟩
    split at hv
    · rename_i hk; injection hv with hv; exact .inl ⟨hk,hv.symm⟩
    · rename_i hk
      obtain ⟨q,hq,hv⟩:=Option.bind_eq_some_iff.1 hv
      injection hv with hv
      exact .inr ⟨by simpa using hk,q,hq,hv.symm⟩
   | succ i=>exact b i x (by simpa using hx)
theorem Qoe {p:List Int} {a:Tm} {r:Option Tm} (hp:Cp p) (ha:Va a) (h:C9 p a=some r):Qf Tryz.prog 173 [pr p,.agg (ta a)] [.agg (ota r),.one (.bool r.isSome)]:=by
  obtain ⟨l,l1,l2,l3,_⟩:=Tg hp
  unfold C9 at h
  rw [l1] at h
  exact Qui (Dp.pb hp.dp) ha.tb l1 (by omega) (fun t ht=>(l3 t ht).tb) h
theorem Qul {T:Nat} {c:Cr} {r0 r1:List (List LV)} {ws:List Wt} (hc:CrOk c) (h:Rp c.now c.l=some ws):Xt Tryz.prog 126 [.one (.ow 0 0)] [.blk T (Gq c r0 r1)] [] [.blk T (Gq { c with l:=ws } r0 r1)]:=by
  have hk:=hc.k
  have hw:=Ut c.l
  obtain ⟨h1,h2⟩:=Bz h
  refine Jb Tryz.func126 rfl ?_
  refine go tt [.o 2 125 18,.c [0] (Qoi hc.n)] rfl trivial ?_
  refine lp (S:=Nat) 3 (fun L1 i=>(13,.v (.one (.int .i64 (i:Int))))::(2,.v (.one (.orow 1 18 none)))::L1) (fun i=>[.blk T (Gq c r0 r1),.row false 125 18 (Nl (ws.take i)),.blk 64 (ta c.now)]) (fun i=>c.l.length-i) (fun i=>i≤c.l.length) 0 (Nat.zero_le _) rfl (fun _ _=>rfl) rfl fun i hi=>?_
  by_cases hlt:i<c.l.length
  · obtain ⟨w,hx⟩:∃ w,c.l[i]? = some w:=⟨_,List.getElem?_eq_getElem hlt⟩
    obtain ⟨v,hv,h3⟩:=h2 i w hx
    have hm:∀ y∈[wl v],y.length=18:=fun y hy=>by rw [List.mem_singleton.1 hy]; rfl
    have hg:=Cn hv
    have hl:decide ((i:Int)<((Nl c.l).length:Int))=true:=by simp [hw]; omega
    rcases h3 with ⟨k1,rfl⟩ | ⟨k1,r,k2,rfl⟩
    · obtain ⟨vc,vk,vf⟩:=v
      cases vf <;> (refine go tt [.t hl,.x (Yv hx),.f (by rw [show vk=true from k1]; rfl),.s (sz:=18) hm] rfl (by simp [Qa,Ut]; omega) ?_; exact rd (i+1) (by omega) hlt (by rw [hg]; rfl))
    · have cg:=Qoe (hc.l w (List.mem_of_getElem? hx)).p hc.n k2
      obtain ⟨wc,wk,wf⟩:=w
      cases r <;> cases wf <;> (refine go tt [.t hl,.x (Yv hx),.t (by rw [show wk=false from k1]; rfl),.c [] cg,.s (sz:=18) hm] rfl (by simp [Qa,Ut]; omega) ?_; exact rd (i+1) (by omega) hlt (by rw [hg]; rfl))
  · obtain rfl:i=c.l.length:=by omega
    rw [←h1,List.take_length]
    exact ed tt [1] [0] [.f (by simp [hw,h1])] rfl trivial
def Qev (ws:List Wt):Option (Option Tm):=match ws.filterMap (·.fails) with
  | []=>some none
  | b::l=>(Ha b l).map some
theorem Ld {c:Cr} {ws:List Wt} (hc:CrOk c) (h:Rp c.now c.l=some ws):CrOk { c with l:=ws }:=by
  obtain ⟨h1,h2⟩:=Bz h
  refine ⟨hc.n,fun v hv=>?_,by show ws.length≤1000; rw [h1]; exact hc.k⟩
  obtain ⟨i,hi⟩:=List.getElem?_of_mem hv
  have hil:i<c.l.length:=by rw [←h1]; exact (List.getElem?_eq_some_iff.1 hi).1
  obtain ⟨v',h3,h4⟩:=h2 i _ (List.getElem?_eq_getElem hil)
  rw [hi] at h3; injection h3 with h3; subst h3
  have hw:=hc.l _ (List.getElem_mem hil)
  rcases h4 with ⟨_,rfl⟩ | ⟨_,r,k2,rfl⟩
  · exact hw
  · obtain ⟨r',r1,r2⟩:=Qrr hw.p hc.n
    rw [k2] at r1; injection r1 with r1; subst r1
    refine ⟨hw.p,fun t ht=>?_⟩
    have ht:r=some t:=ht
    subst ht
    exact r2.2.1
theorem Qum {T:Nat} {c:Cr} {r0 r1:List (List LV)} {ws:List Wt} {r:Option Tm} (hc:CrOk c) (h:Rp c.now c.l=some ws) (hr:Qev ws=some r):Xt Tryz.prog 79 [.one (.ow 0 0)] [.blk T (Gq c r0 r1)] [.agg (ota r),.one (.bool r.isSome)] [.blk T (Gq { c with l:=ws } r0 r1)]:=by
  have hcl:=Qul (T:=T) (r0:=r0) (r1:=r1) hc h
  have hc':=Ld hc h
  have hk:=hc'.k
  have hw:=Ut ws
  have hvb:∀ t∈ws.filterMap (·.fails),Tb t:=fun t ht=>by
    obtain ⟨w,w1,w2⟩:=List.mem_filterMap.1 ht
    exact ((hc'.l w w1).f t w2).tb
  refine Jb Tryz.func79 rfl ?_
  refine go tt [.c [0] hcl,.o 4 64 9] rfl trivial ?_
  refine lp (S:=Nat) 3 (fun L1 i=>(14,.v (.one (.int .i64 (i:Int))))::(4,.v (.one (.orow 2 9 none)))::L1) (fun i=>[.blk T (Gq { c with l:=ws } r0 r1),.blk 64 zTm,.row false 64 9 (tal ((ws.take i).filterMap (·.fails)))]) (fun i=>ws.length-i) (fun i=>i≤ws.length) 0 (Nat.zero_le _) rfl (fun _ _=>rfl) rfl fun i hi=>?_
  by_cases hlt:i<ws.length
  · obtain ⟨w,hx⟩:∃ w,ws[i]? = some w:=⟨_,List.getElem?_eq_getElem hlt⟩
    have hl:decide ((i:Int)<((Nl ws).length:Int))=true:=by simp [hw]; omega
    have hfl:((ws.take i).filterMap (·.fails)).length≤i:=Nat.le_trans (List.length_filterMap_le _ _) (by rw [List.length_take]; omega)
    have hg:(ws.take (i+1)).filterMap (·.fails)=(ws.take i).filterMap (·.fails)++(match w.fails with | none=>[] | some t=>[t]):=by
      rw [List.take_succ,hx,List.filterMap_append]
      show _++List.filterMap (·.fails) [w]=_
      cases hwf:w.fails <;> simp [hwf]
    obtain ⟨wc,wk,wf⟩:=w
    have hk:ws.length≤1000:=hk
    cases wf with
    |
     none =>
     refine go tt [.t hl,.x (Yv hx),.f rfl] rfl (by simp [Qa]; omega) ?_
     exact rd (i+1) (by omega) hlt (by rw [hg]; simp; rfl)
    |
     some t =>
     refine go tt [.t hl,.x (Yv hx),.t rfl,.s (l:=[ta t]) (sz:=9) (fun c hc=>by rw [List.mem_singleton.1 hc]; rfl)] rfl (by simp [Qa]; omega) ?_
     exact rd (i+1) (by omega) hlt (by rw [hg]; simp [tal]; rfl)
  · obtain rfl:i=ws.length:=by omega
    rw [List.take_length]
    have hf:decide ((ws.length:Int)<((Nl ws).length:Int))=false:=by simp [hw]
    have hln:(ws.filterMap (·.fails)).length≤1000:=Nat.le_trans (List.length_filterMap_le _ _) hk
    unfold Qev at hr
    cases hfm:ws.filterMap (·.fails) with
    |
     nil =>
     rw [hfm] at hr
     injection hr with hr; subst hr
     exact ed tt [] [0] [.f hf,.p 2,.c [] Qoj] rfl trivial
    |
     cons b l =>
     rw [hfm] at hr hvb hln
     obtain ⟨m,m1,rfl⟩:=Option.map_eq_some_iff.1 hr
     have cl:=Hx (hvb b (List.mem_cons_self ..)) (fun t ht=>hvb t (List.mem_cons_of_mem _ ht)) (by simp at hln; omega) m1
     exact ed tt [] [0] [.f hf,.p 2,.c [] cl] rfl trivial
end Orr

namespace Orr
open Go Go.Proofs Orq
set_option maxRecDepth 10000
theorem Am {at_:Tm} {x:Ct}:∀ {l:List Wt} {w:Wt},Um l x at_=some w→w=fresh x∨∃ v∈l,v.known=true∧v.c.p=x.p∧w=⟨x,true,v.fails⟩∧∀ t,v.fails=some t→∃ c,En t at_=some c∧0<c
  | [],w,h=>by simp only [Um] at h; injection h with h; exact .inl h.symm
  |
   v::l,w,h=>by
   simp only [Um] at h
   have tl:Um l x at_=some w→w=fresh x∨∃ v'∈v::l,v'.known=true∧v'.c.p=x.p∧w=⟨x,true,v'.fails⟩∧∀ t,v'.fails=some t→∃ c,En t at_=some c∧0<c:=fun h=>by
     rcases Am h with h | ⟨v',h1,h2⟩
     · exact .inl h
     · exact .inr ⟨v',List.mem_cons_of_mem _ h1,h2⟩
   split at h
   · rename_i hk
     cases hf:v.fails with
     |
      none =>
      rw [hf] at h
      injection h with h
      exact .inr ⟨v,List.mem_cons_self ..,hk.2.1,hk.2.2,by rw [hf]; exact h.symm,fun t ht=>by rw [hf] at ht; cases ht⟩
     |
      some t =>
      rw [hf] at h
      obtain ⟨c,c1,h⟩:=Option.bind_eq_some_iff.1 h
      split at h
      · rename_i h0
        injection h with h
        exact .inr ⟨v,List.mem_cons_self ..,hk.2.1,hk.2.2,by rw [hf]; exact h.symm,fun u hu=>by rw [hf] at hu; injection hu with hu; subst hu; exact ⟨c,c1,h0⟩⟩
      · exact tl h
   · exact tl h
theorem lay_ok {c:Cr} {at_:Tm} {l:List Ct} {ws:List Wt} (ev:Int) (hc:CrOk c) (ha:Va at_) (hl:∀ x∈l,Cp x.p) (hn:l.length≤1000) (h:Mk c.l at_ (Z4 l)=some ws):CrOk ⟨at_,ws,ev⟩:=by
  obtain ⟨h1,h2⟩:=Ml h
  refine ⟨ha,fun w hw=>?_,by show ws.length≤1000; rw [h1,Gl]; exact hn⟩
  obtain ⟨i,hi⟩:=List.getElem?_of_mem hw
  have hil:i<(Z4 l).length:=by rw [←h1]; exact (List.getElem?_eq_some_iff.1 hi).1
  obtain ⟨v,h3,h4⟩:=h2 i _ (List.getElem?_eq_getElem hil)
  rw [hi] at h4; injection h4 with h4; subst h4
  have hx:=hl _ (Cg (List.getElem_mem hil))
  rcases Am h3 with e | ⟨v,v1,_,v3,e,_⟩
  · rw [e]; exact ⟨hx,fun t ht=>by cases ht⟩
  · rw [e]; exact ⟨hx,fun t ht=>(hc.l v v1).f t ht⟩
def goF {β:Type} (Bc:Tm→List Ct) (Br:Tm→β) (t:Rat):Nat→Cr→β→Int→Option (Cr×β×Int)
  | 0,_,_,_=>none
  |
   k+1,c,r,n=>(Rp c.now c.l).bind fun ws=>(Qev ws).bind fun o=>match o with
   | none=>some (⟨tq t,ws,c.ev⟩,r,n)
   | some a=>if 0<Qu a t then some (⟨tq t,ws,c.ev⟩,r,n) else (Mk ws a (Z4 (Bc a))).bind fun w2=>goF Bc Br t k ⟨a,w2,c.ev+1⟩ (Br a) (n+1)
theorem Qru {ws:List Wt} {a:Tm} (h:Qev ws=some (some a)) (hv:∀ t∈ws.filterMap (·.fails),Va t):a∈ws.filterMap (·.fails)∧∀ t∈ws.filterMap (·.fails),¬K9 t a:=by
  unfold Qev at h
  cases hf:ws.filterMap (·.fails) with
  | nil=>rw [hf] at h; injection h with h; cases h
  |
   cons b l =>
   rw [hf] at h hv
   obtain ⟨m,m1,m2⟩:=Option.map_eq_some_iff.1 h
   injection m2 with m2; subst m2
   obtain ⟨m',n1,n2,n3⟩:=Bw l b hv
   rw [m1] at n1; injection n1 with n1; subst n1
   exact ⟨n2,n3⟩
theorem Q0f {c:Cr} {ws:List Wt} {a:Tm} (hc:CrOk c) (h:Rp c.now c.l=some ws) (hr:Qev ws=some (some a)):Va a:=by
  have hc':=Ld hc h
  have hv:∀ t∈ws.filterMap (·.fails),Va t:=fun t ht=>by
    obtain ⟨w,w1,w2⟩:=List.mem_filterMap.1 ht
    exact (hc'.l w w1).f t w2
  exact hv a (Qru hr hv).1
structure BuildOk (Bc:Tm→List Ct):Prop where
  p:∀ a,Va a→∀ x∈Bc a,Cp x.p
  n:∀ a,Va a→(Bc a).length≤1000
end Orr

namespace Orr
open Go Go.Proofs Orq
set_option maxRecDepth 10000
def bcS (l:List Pt) (a:Tm):List Ct:=Yt (Zp a) (X9 a l)
theorem Zb {t:Tm} {l:List Pt} {p:Pt}:p∈X9 t l↔p∈l:=by
  unfold X9 Wm; rw [Pd]; simp
theorem Ys (t:Tm) (l:List Pt):(X9 t l).length=l.length:=Qai _ _
end Orr
