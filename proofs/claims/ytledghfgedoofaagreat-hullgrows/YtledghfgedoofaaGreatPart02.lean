/- N25 N26 N17 N20 N21 N22 N23 N24 N18 N19 -/
import Derived.Test.YtledghfgedoofaaGreatPart01
set_option linter.all false
namespace Orr
open Go
def J3 (i:Nat):List Nat→Bool
  | []=>false
  |
   j::l=>match Nat.beq i j with
   | true=>true
   | false=>J3 i l
theorem Xp {i:Nat}:∀ {l:List Nat},J3 i l=true↔i∈l
  | []=>by simp [J3]
  |
   j::l=>by
   simp only [J3]
   split
   · rename_i e; simp [Nat.eq_of_beq_eq_true e]
   · rename_i e; rw [Xp]; simp [Nat.ne_of_beq_eq_false e]
def Wn {α:Type} (f:α→Bool):List α→Bool
  | []=>true
  |
   x::l=>match f x with
   | true=>Wn f l
   | false=>false
theorem X2 {α:Type} {f:α→Bool}:∀ {l:List α},Wn f l=true→∀ x∈l,f x=true
  | [],_,_,h=>by cases h
  |
   y::l,h,x,hx=>by
   simp only [Wn] at h
   split at h
   · rename_i e
     rcases List.mem_cons.1 hx with rfl | hx
     · exact e
     · exact X2 h x hx
   · cases h
section
variable {F:Fr} {E:Vh} {M:Nat→Prop} {w:World}
def Gs:OB→OB
  | .row _ T sz ls=>.row true T sz ls
  | b=>b
def flO:OB→OB→OB
  | .row f _ _ _,.row _ T sz ls=>.row f T sz ls
  | _,b=>b
theorem Qkf {i:Nat} {b c:OB} (h:Gs b=Gs c) (hr:OBRep w M E i b):OBRep w M E i c:=by
  cases b <;> cases c <;> simp only [Gs,OB.row.injEq,OB.blk.injEq,OB.mpb.injEq,reduceCtorEq] at h
  · trivial
  · obtain ⟨rfl,rfl⟩:=h; exact hr
  · obtain ⟨_,rfl,rfl,rfl⟩:=h; exact hr
  · subst h; exact hr
theorem Bl {b c:OB} (h:Gs b=Gs c):b.lv=c.lv:=by
  cases b <;> cases c <;> simp only [Gs,reduceCtorEq] at h <;> rfl
theorem Qg7 (b c:OB):Gs (flO b c)=Gs c:=by cases b <;> cases c <;> rfl
theorem HS.flag {bl bl':Nat→OB} {U:Nat→Prop} (h:HS F bl U E M w) (h1:∀ i,Gs (bl i)=Gs (bl' i)) (h2:∀ i,(bl' i).mv=true→¬F.J i):HS F bl' U E M w :=
  { h with
    nj:=h2
    blk:=fun i=>Qkf (h1 i) (h.blk i)
    nk:=fun i g c m hi=>h.nk i g c m (by rw [Bl (h1 i)]; exact hi)
    inj:=fun i j g c m c' m' hi hj=>h.inj i j g c m c' m' (by rw [Bl (h1 i)]; exact hi) (by rw [Bl (h1 j)]; exact hj)
    un:=fun i hi=>⟨(h.un i hi).1,by
      have:=h1 i
      rw [(h.un i hi).2] at this
      cases hb:bl' i <;> rw [hb] at this <;> simp only [Gs,reduceCtorEq] at this⟩ }
end
variable {P:Program} {n:Nat} {L L':Sg} {B B':List OB} {Q:Exit→Sg→List OB→Prop}
theorem W1.callD {arr:Array Oper} {o:Oper} {N:Kp} {f d:Nat} {x:Operand} {xs:Array Operand} {ats:Array TypeId} {fv:LV} {pre post:List LV} {us ys args res:List TV} {Bin Bout B1 B2:List OB} {L1:Sg} {ρ:Nat→Nat}
    (hc:Xt P f args Bin res Bout) (ho:o.op=.call { callee:=.value x,args:=xs,argTypes:=ats }) (hg:o.guard=none) (hd:o.dst=some d) (hdn:Nat.blt d n=true) (hx:evT L x=some (.one fv)) (hfv:Qmz fv=some (f,pre,post)) (hxs:evTs L xs.toList=some us)
    (hys:Fb (Qmf pre us post)=some ys) (he:ys=args.map (Dq ρ)) (hrho:∀ i j,ρ i=ρ j→i=j) (hai:∀ t∈args,∀ i∈t.ids,i<Bin.length) (hbi:∀ j,∀ i∈(ob Bin j).ids,i<Bin.length) (hlv:∀ j,j<Bin.length→(ob Bin j).lv=true)
    (hlt:∀ j,j<Bin.length→ρ j<B.length) (hnw:∀ j,Bin.length≤j→j<Bout.length→ρ j=B.length+(j-Bin.length)) (hio:Bin.length≤Bout.length)
    (hk1:∀ F E M a w,SA F n L B E M a w→SA F n L1 B1 E M a w) (hB1:B1.length=B.length)
    (hks:∀ j,(ob Bin j).mv=true→(∀ t x,lk L1 t=some x→ρ j∉x.ids)∧∀ i,(∀ k,k<Bin.length→ρ k≠i)→ρ j∉(ob B1 i).ids)
    (hfx:∀ j,j<Bin.length→Gs (ob B1 (ρ j))=Gs (Uq ρ (ob Bin j))∧((ob Bin j).mv=true→(ob B1 (ρ j)).mv=true))
    (hB2a:∀ j,j<Bout.length→Gs (ob B2 (ρ j))=Gs (Uq ρ (ob Bout j))∧(j<Bin.length→(ob B2 (ρ j)).mv=true→(ob B1 (ρ j)).mv=true))
    (hB2b:∀ i,i<B.length→(∀ j,j<Bin.length→ρ j≠i)→ob B2 i=ob B1 i) (hB2l:B2.length=B.length+(Bout.length-Bin.length))
    (k:N ((d,Ns (res.map (Dq ρ)))::L1) B2):W1 P arr n o N L B:=by
  intro F E M a w K Q h0 hK
  subst he
  obtain ⟨vs,us',hv,h1,h2⟩:=Qke (h0.evT hx) hfv
  have hargs:F2 (TRep w M E) (vs++xs.toList.map a.eval++us') (args.map (Dq ρ)):=Fu hys (by rw [Qi2]; exact (h1.ones.append (h0.evTs hxs)).append h2.ones)
  have h:=hk1 _ _ _ _ _ h0
  have hnwB:nw B1=nw B:=by funext i; simp only [nw,hB1]
  let E0:Vh:=fun j=>if j<Bin.length then E (ρ j) else none
  have hE0:∀ j,j<Bin.length→E0 j=E (ρ j):=fun j hj=>if_pos hj
  let blx:Nat→OB:=fun i=>open Classical in if hh:∃ j,j<Bin.length∧ρ j=i then Uq ρ (ob Bin hh.choose) else ob B1 i
  have hx1:∀ j,j<Bin.length→blx (ρ j)=Uq ρ (ob Bin j):=fun j hj=>by
    have hh:∃ j',j'<Bin.length∧ρ j'=ρ j:=⟨j,hj,rfl⟩
    simp only [blx]
    rw [dif_pos hh,hrho _ _ hh.choose_spec.2]
  have hx2:∀ i,(∀ j,j<Bin.length→ρ j≠i)→blx i=ob B1 i:=fun i hi=>by
    simp only [blx]
    rw [dif_neg fun ⟨j,h1,h2⟩=>hi j h1 h2]
  have hcase:∀ i,(∃ j,j<Bin.length∧ρ j=i)∨∀ j,j<Bin.length→ρ j≠i:=fun i=>by
    by_cases hh:∃ j,j<Bin.length∧ρ j=i
    · exact .inl hh
    · exact .inr fun j h1 h2=>hh ⟨j,h1,h2⟩
  have hsx:HS F blx (nw B1) E M w:=by
    refine h.hs.flag (fun i=>?_) fun i hi=>?_
    · rcases hcase i with ⟨j,hj,rfl⟩ | hn
      · rw [hx1 j hj]; exact (hfx j hj).1
      · rw [hx2 i hn]
    · rcases hcase i with ⟨j,hj,rfl⟩ | hn
      · rw [hx1 j hj,(Yl _).2] at hi
        exact h.hs.nj _ ((hfx j hj).2 hi)
      · rw [hx2 i hn] at hi; exact h.hs.nj i hi
  have hlv':∀ j,(ob Bin j).lv=true→j<Bin.length:=fun j hj=>by
    apply Classical.byContradiction
    intro hn
    rw [Z5 (by omega)] at hj; cases hj
  have Io:HS (prt (ob Bin) (nw Bin) E0 M w) (ob Bin) (nw Bin) E0 M w:=hsx.sub (ρ:=ρ) (fun j hj=>hx1 j (hlv' j hj)) hrho (fun j hj=>Z5 hj) (fun j hj=>if_neg (by simpa [nw] using hj)) (fun j hj=>hE0 j (by simpa [nw] using hj)) fun j i hi=>by have:=hbi j i hi; simp only [nw]; omega
  have hargs0:F2 (TRep w M E0) (vs++xs.toList.map a.eval++us') args:=F2.of (by rw [hargs.len]; simp) fun j v t hv ht=>by
    have:=hargs.get' (b:=Dq ρ t) hv (by simp [ht])
    exact this.to fun i hi _=>hE0 i (hai t (List.mem_of_getElem? ht) i hi)
  refine Qfw hg (Qtt hc.1 ho hv) (R:=fun r w'=>∃ E' M',HS (prt (ob Bin) (nw Bin) E0 M w) (ob Bout) (nw Bout) E' M' w'∧ARep w' M' E' r (Ns res)) ((hc.2 _ _ _ _ _ Io hargs0).mono fun e w' hr=>?_) fun r w' ⟨E',M',hs1,hr⟩=>?_
  · obtain ⟨r,u,Bo,E',M',e1,⟨rfl,rfl⟩,_,hs1,hr⟩:=hr
    exact ⟨r,e1,E',M',hs1,hr⟩
  · have hcas2:∀ i,(∃ j,j<Bout.length∧ρ j=i)∨∀ j,j<Bout.length→ρ j≠i:=fun i=>by
      by_cases hh:∃ j,j<Bout.length∧ρ j=i
      · exact .inl hh
      · exact .inr fun j h1 h2=>hh ⟨j,h1,h2⟩
    let E2:Vh:=fun i=>open Classical in if hh:∃ j,j<Bout.length∧ρ j=i then E' hh.choose else E i
    let bl2:Nat→OB:=fun i=>open Classical in if hh:∃ j,j<Bout.length∧ρ j=i then Uq ρ (ob Bout hh.choose) else blx i
    have hE2:∀ j,j<Bout.length→E2 (ρ j)=E' j∧bl2 (ρ j)=Uq ρ (ob Bout j):=fun j hj=>by
      have hh:∃ j',j'<Bout.length∧ρ j'=ρ j:=⟨j,hj,rfl⟩
      have:=hrho _ _ hh.choose_spec.2
      simp only [E2,bl2]
      rw [dif_pos hh,dif_pos hh,this]
      exact ⟨rfl,rfl⟩
    have hE2n:∀ i,(∀ j,j<Bout.length→ρ j≠i)→E2 i=E i∧bl2 i=blx i:=fun i hi=>by
      simp only [E2,bl2]
      rw [dif_neg fun ⟨j,h1,h2⟩=>hi j h1 h2,dif_neg fun ⟨j,h1,h2⟩=>hi j h1 h2]
      exact ⟨rfl,rfl⟩
    have kb:Back blx (ob Bin) (ob Bout) bl2 (nw B1) (nw Bin) (nw Bout) (nw B2) E E0 E' E2 ρ fun j=>j<Bout.length:={
      inj:=hrho
      hb:=fun j hj=>hx1 j (hlv' j hj)
      e':=fun j hj=>hE0 j (by simpa [nw] using hj)
      a0:=fun j hj=>by have:=hlv' j hj; exact ⟨Nat.lt_of_lt_of_le this hio,by simp only [nw]; omega⟩
      a1:=fun j hj=>by
        rcases Nat.lt_or_ge j Bin.length with h | h
        · exact .inl (hlv j h)
        · refine .inr ⟨h,?_⟩
          rw [hnw j h hj,hnwB]; simp only [nw]; omega
      a2:=fun j h1 h2=>by simpa [nw] using h2
      hit:=hE2
      no:=hE2n
      u2:=fun i hi=>by
        simp only [nw,hB2l] at hi
        refine ⟨by rw [hnwB]; simp only [nw]; omega,fun j hj e=>?_⟩
        rcases Nat.lt_or_ge j Bin.length with h | h
        · have:=hlt j h; omega
        · have:=hnw j h hj; omega
      mv:=fun j hj i hi hm=>by
        have hi':∀ k,k<Bin.length→ρ k≠i:=fun k hk=>hi k (Nat.lt_of_lt_of_le hk hio)
        rw [hx2 i hi'] at hm
        exact (hks j hj).2 i hi' hm }
    have hs2:=HS.back kb hsx hs1
    have hle:=Dv kb hsx hs1
    have hs3:HS F (ob B2) (nw B2) E2 M' w':=by
      refine hs2.flag (fun i=>?_) fun i hi=>?_
      · rcases hcas2 i with ⟨j,hj,rfl⟩ | hn
        · rw [(hE2 j hj).2]; exact (hB2a j hj).1.symm
        · have hn':∀ k,k<Bin.length→ρ k≠i:=fun k hk=>hn k (Nat.lt_of_lt_of_le hk hio)
          rw [(hE2n i hn).2,hx2 i hn']
          rcases Nat.lt_or_ge i B.length with h | h
          · rw [hB2b i h hn']
          · have:B2.length≤i:=by
              apply Classical.byContradiction
              intro h3
              refine hn (Bin.length+(i-B.length)) (by omega) ?_
              rw [hnw _ (by omega) (by omega)]
              omega
            rw [Z5 this,Z5 (by omega)]
      · rcases hcas2 i with ⟨j,hj,rfl⟩ | hn
        · rcases Nat.lt_or_ge j Bin.length with h3 | h3
          · exact h.hs.nj _ ((hB2a j hj).2 h3 hi)
          · exact h0.hs.uj _ (by rw [hnw j h3 hj]; simp only [nw]; omega)
        · have hn':∀ k,k<Bin.length→ρ k≠i:=fun k hk=>hn k (Nat.lt_of_lt_of_le hk hio)
          rcases Nat.lt_or_ge i B.length with h3 | h3
          · rw [hB2b i h3 hn'] at hi; exact h.hs.nj i hi
          · exact h0.hs.uj i h3
    have hr2:ARep w' M' E2 r (Ns (res.map (Dq ρ))):=by
      have one:∀ v t,TRep w' M' E' v t→TRep w' M' E2 v (Dq ρ t):=fun v t h=>h.un fun i _ hi=>Ly kb hsx hs1 hi
      match res,hr with
      | [t],hr=>exact one r t hr
      | [],⟨vs,e,hr⟩=>exact ⟨vs,e,by cases hr; exact .nil⟩
      |
       t::t'::l,⟨vs,e,hr⟩ =>
       have key:∀ (l:List TV) (vs:List Value),F2 (TRep w' M' E') vs l→F2 (TRep w' M' E2) vs (l.map (Dq ρ)):=fun l vs hr=>by
         induction hr with
         | nil=>exact .nil
         | cons h0 _ ih=>exact .cons (one _ _ h0) ih
       exact ⟨vs,e,key _ _ hr⟩
    exact hd ▸ hK _ _ _ _ _ _ (SA.put ⟨hs3,h.size,h.defers,fun t x hx=>by
      obtain ⟨v,h3,h4⟩:=h.slots t x hx
      refine ⟨v,h3,h4.keep hle fun i hi hne=>Nt kb hsx hs1 hne fun j hj e=>?_⟩
      subst e
      exact (hks j hj).1 t x hx hi⟩ hdn hr2) k
end Orr

namespace Orr
open Go
variable {P:Program} {n:Nat} {L L':Sg} {B B':List OB}
def Pj:List Nat→Nat→Option Nat
  | [],_=>none
  | i::_,0=>some i
  | _::l,j+1=>Pj l j
theorem Wv:∀ {l:List Nat} {j:Nat},Pj l j=l[j]?
  | [],_=>by simp [Pj]
  | _::_,0=>by simp [Pj]
  | _::l,j+1=>by simp [Pj,Wv]
def No (is:List Nat) (c:Nat) (j:Nat):Nat:=match Pj is j with
  | some i=>i
  | none=>c+j
def rnY (is:List Nat):LV→Option LV
  |
   .ow i o=>match Pj is i with
   | some j=>some (.ow j o)
   | none=>none
  | x=>some x
def rnL (is:List Nat):LV→Option LV
  |
   .ow i o=>match Pj is i with
   | some j=>some (.ow j o)
   | none=>none
  |
   .orow i s p=>match Pj is i with
   | some j=>some (.orow j s p)
   | none=>none
  |
   .oel i s k o=>match Pj is i with
   | some j=>some (.oel j s k o)
   | none=>none
  |
   .omap i=>match Pj is i with
   | some j=>some (.omap j)
   | none=>none
  |
   .ofn f a b=>match Xx (rnY is) a,Xx (rnY is) b with
   | some a,some b=>some (.ofn f a b)
   | _,_=>none
  | x=>some x
def Pre (is js:List Nat):Prop:=∀ i j,Pj is i=some j→Pj js i=some j
theorem Pre.refl (is:List Nat):Pre is is:=fun _ _ h=>h
theorem Qlb {is:List Nat} {i j:Nat} (h:Pj is i=some j):i<is.length:=by
  rw [Wv] at h; exact (List.getElem?_eq_some_iff.1 h).1
section
variable {is js:List Nat} {c:Nat} (hp:Pre is js)
include hp
theorem Ce {i j:Nat} (h:Pj is i=some j):No js c i=j:=by simp only [No,hp i j h]
theorem Q0o {x y:LV} (h:rnY is x=some y):y=Qce (No js c) x∧∀ i∈Hr [x],i<is.length:=by
  cases x <;> simp only [rnY] at h
  case ow i o =>
    split at h
    · rename_i j hj
      injection h with h; subst h
      exact ⟨by simp only [Qce,Ce hp hj],fun i' hi=>by simp [Hr] at hi; subst hi; exact Qlb hj⟩
    · cases h
  all_goals (injection h with h; subst h; exact ⟨rfl,fun i hi=>by simp [Hr] at hi⟩)
theorem Qcg:∀ {xs ys:List LV},Xx (rnY is) xs=some ys→ys=xs.map (Qce (No js c))∧∀ i∈Hr xs,i<is.length
  | [],ys,h=>by simp only [Xx,Option.some.injEq] at h; subst h; exact ⟨rfl,fun i hi=>by simp [Hr] at hi⟩
  |
   x::xs,ys,h=>by
   simp only [Xx] at h
   split at h
   · rename_i y hy
     split at h
     · rename_i r hr
       injection h with h; subst h
       obtain ⟨h1,h2⟩:=Q0o (c:=c) hp hy
       obtain ⟨h3,h4⟩:=Qcg hr
       refine ⟨by rw [List.map_cons,←h1,←h3],fun i hi=>?_⟩
       cases x with
       |
        ow j o =>
        simp only [Hr,List.mem_cons] at hi
        rcases hi with rfl | hi
        · exact h2 _ (by simp [Hr])
        · exact h4 i hi
       | _=>exact h4 i hi
     · cases h
   · cases h
theorem Qsr {x y:LV} (h:rnL is x=some y):y=Pq (No js c) x∧∀ i∈x.ids,i<is.length:=by
  cases x <;> simp only [rnL] at h
  case ofn f a b =>
    split at h
    · rename_i a' b' ha hb
      injection h with h; subst h
      obtain ⟨h1,h2⟩:=Qcg (c:=c) hp ha
      obtain ⟨h3,h4⟩:=Qcg (c:=c) hp hb
      exact ⟨by rw [h1,h3]; rfl,fun i hi=>(List.mem_append.1 hi).elim (h2 i) (h4 i)⟩
    · cases h
  all_goals first
    | (injection h with h; subst h; exact ⟨rfl,fun i hi=>by simp [LV.ids] at hi⟩)
    | (
     split at h
     · rename_i j hj
       injection h with h; subst h
       exact ⟨by simp only [Pq,Ce hp hj],fun i' hi=>by simp [LV.ids] at hi; subst hi; exact Qlb hj⟩
     · cases h)
theorem Qcf:∀ {xs ys:List LV},Xx (rnL is) xs=some ys→ys=xs.map (Pq (No js c))∧∀ i∈xs.flatMap LV.ids,i<is.length
  | [],ys,h=>by simp only [Xx,Option.some.injEq] at h; subst h; exact ⟨rfl,fun i hi=>by simp at hi⟩
  |
   x::xs,ys,h=>by
   simp only [Xx] at h
   split at h
   · rename_i y hy
     split at h
     · rename_i r hr
       injection h with h; subst h
       obtain ⟨h1,h2⟩:=Qsr (c:=c) hp hy
       obtain ⟨h3,h4⟩:=Qcf hr
       refine ⟨by rw [List.map_cons,←h1,←h3],fun i hi=>?_⟩
       rw [List.flatMap_cons] at hi
       exact (List.mem_append.1 hi).elim (h2 i) (h4 i)
     · cases h
   · cases h
theorem Q0n {t u:TV} (h:tvO (rnL is) t=some u):u=Dq (No js c) t∧∀ i∈t.ids,i<is.length:=by
  cases t <;> simp only [tvO] at h <;> split at h <;> first | (cases h; done) | skip
  · rename_i hy; injection h with h; subst h; obtain ⟨h1,h2⟩:=Qsr (c:=c) hp hy; exact ⟨by rw [h1]; rfl,h2⟩
  · rename_i hy; injection h with h; subst h; obtain ⟨h1,h2⟩:=Qcf (c:=c) hp hy; exact ⟨by rw [h1]; rfl,h2⟩
theorem Lq:∀ {xs ys:List TV},Xx (tvO (rnL is)) xs=some ys→ys=xs.map (Dq (No js c))∧∀ t∈xs,∀ i∈t.ids,i<is.length
  | [],ys,h=>by simp only [Xx,Option.some.injEq] at h; subst h; exact ⟨rfl,fun i hi=>by simp at hi⟩
  |
   x::xs,ys,h=>by
   simp only [Xx] at h
   split at h
   · rename_i y hy
     split at h
     · rename_i r hr
       injection h with h; subst h
       obtain ⟨h1,h2⟩:=Q0n (c:=c) hp hy
       obtain ⟨h3,h4⟩:=Lq hr
       refine ⟨by rw [List.map_cons,←h1,←h3],fun t ht=>?_⟩
       rcases List.mem_cons.1 ht with rfl | ht
       · exact h2
       · exact h4 t ht
     · cases h
   · cases h
theorem Qh9 {b d:OB} (h:Ru (rnL is) b=some d):d=Uq (No js c) b∧∀ i∈b.ids,i<is.length:=by
  cases b with
  |
   blk T xs =>
   simp only [Ru] at h
   split at h
   · rename_i hy; injection h with h; subst h; obtain ⟨h1,h2⟩:=Qcf (c:=c) hp hy; exact ⟨by rw [h1]; rfl,h2⟩
   · cases h
  | _=>simp only [Ru,Option.some.injEq] at h; subst h; exact ⟨rfl,fun i hi=>by simp [OB.ids] at hi⟩
end
def Qvf:List Nat→List Nat→Bool
  | [],_=>true
  |
   i::l,ms=>match J3 i ms with
   | true=>false
   | false=>Qvf l ms
theorem Qj3:∀ {l ms:List Nat},Qvf l ms=true→∀ m∈ms,m∉l
  | [],_,_,m,_=>by simp
  |
   i::l,ms,h,m,hm=>by
   simp only [Qvf] at h
   split at h
   · cases h
   · rename_i hn
     intro hi
     rcases List.mem_cons.1 hi with rfl | hi
     · rw [Xp.2 hm] at hn; cases hn
     · exact Qj3 h m hm hi
def Ix (ms:List Nat) (x:LV):Option LV:=match Qvf x.ids ms with
  | true=>some x
  | false=>some .any
theorem Qkp {w:World} {M:Nat→Prop} {E:Vh} {ms:List Nat}:Qgf w M E w M E (Ix ms):=by
  intro v x y h hr
  unfold Ix at h
  split at h <;> (injection h with h; subst h)
  · exact hr
  · exact LRep.any v hr.one
theorem Qee {ms:List Nat} {i:Nat} (hi:i∈ms) (x y:LV) (h:Ix ms x=some y):i∉y.ids:=by
  unfold Ix at h
  split at h <;> (injection h with h; subst h)
  · rename_i hd; exact Qj3 hd i hi
  · simp [LV.ids]
def klB (ms is:List Nat):Nat→List OB→Option (List OB)
  | _,[]=>some []
  |
   k,b::l=>match klB ms is (k+1) l with
   |
    some r=>match J3 k is with
    | true=>some (b::r)
    |
     false=>match Ru (Ix ms) b with
     | some c=>some (c::r)
     | none=>none
   | none=>none
theorem Qra {ms is:List Nat}:∀ {l r:List OB} {k:Nat},klB ms is k l=some r→r.length=l.length∧∀ (j:Nat) (b:OB),l[j]? = some b→∃ c,r[j]? = some c∧(k+j∈is∧c=b∨k+j∉is∧Ru (Ix ms) b=some c)
  | [],r,k,h=>by simp only [klB,Option.some.injEq] at h; subst h; exact ⟨rfl,fun j b hb=>by simp at hb⟩
  |
   b::l,r,k,h=>by
   simp only [klB] at h
   split at h
   · rename_i q hq
     obtain ⟨h1,h2⟩:=Qra hq
     have key:∀ c,r=c::q→(k∈is∧c=b∨k∉is∧Ru (Ix ms) b=some c)→r.length=(b::l).length∧∀ (j:Nat) (b':OB),(b::l)[j]? = some b'→∃ c,r[j]? = some c∧(k+j∈is∧c=b'∨k+j∉is∧Ru (Ix ms) b'=some c):=fun c e hc=>by
       subst e
       refine ⟨by simp [h1],fun j b' hb=>?_⟩
       cases j with
       | zero=>simp at hb; subst hb; exact ⟨c,rfl,hc⟩
       |
        succ j =>
        rw [show k+(j+1)=k+1+j from by omega]
        simpa using h2 j b' (by simpa using hb)
     split at h
     · rename_i hm
       injection h with h
       exact key b h.symm (.inl ⟨Xp.1 hm,rfl⟩)
     · rename_i hm
       split at h
       · rename_i c hc
         injection h with h
         exact key c h.symm (.inr ⟨fun h=>(by rw [Xp.2 h] at hm; cases hm),hc⟩)
       · cases h
   · cases h
def kl (ms is:List Nat) (L:Sg) (B:List OB):Option (Sg×List OB):=match ms with
  | []=>some (L,B)
  |
   _=>match sgO (Ix ms) L,klB ms is 0 B with
   | some L',some B'=>some (L',B')
   | _,_=>none
theorem Q2j {ms is:List Nat} (h:kl ms is L B=some (L',B')):(∀ F E M a w,SA F n L B E M a w→SA F n L' B' E M a w)∧B'.length=B.length∧(∀ m∈ms,(∀ t x,lk L' t=some x→m∉x.ids)∧∀ i,i∉is→m∉(ob B' i).ids):=by
  unfold kl at h
  split at h
  · injection h with h; injection h with e1 e2; subst e1; subst e2
    exact ⟨fun _ _ _ _ _ h=>h,rfl,fun m hm=>(by cases hm)⟩
  · split at h
    · rename_i L2 B2 hL hB
      injection h with h; injection h with e1 e2; subst e1; subst e2
      obtain ⟨h1,h2⟩:=Qra hB
      have hn:nw B2=nw B:=by funext i; simp only [nw,h1]
      have hg:∀ i,(ob B2 i=.gone∧ob B i=.gone)∨ob B2 i=ob B i∨i∉is∧Ru (Ix ms) (ob B i)=some (ob B2 i):=fun i=>by
        rcases Nat.lt_or_ge i B.length with hi | hi
        · obtain ⟨c,h3,h4⟩:=h2 i _ (List.getElem?_eq_getElem hi)
          rw [Nat.zero_add] at h4
          rw [X6 h3,X6 (List.getElem?_eq_getElem hi)]
          rcases h4 with h4 | h4
          · exact .inr (.inl h4.2)
          · exact .inr (.inr h4)
        · exact .inl ⟨Z5 (by omega),Z5 hi⟩
      refine ⟨fun F E M a w hs=>⟨?_,hs.size,hs.defers,Qyp Qkp hL hs.slots⟩,h1,fun m hm=>⟨fun t x hx=>Qcm (Qee hm) hL t x hx,fun i hi=>?_⟩⟩
      · rw [hn]
        refine hs.hs.re (fun i=>?_) (fun i=>?_) (fun i=>?_) fun i hi=>?_
        · rcases hg i with ⟨e,_⟩ | e | ⟨_,e⟩
          · rw [e]; trivial
          · rw [e]; exact hs.hs.blk i
          · exact Qbz Qkp e (hs.hs.blk i)
        · rcases hg i with ⟨e,e'⟩ | e | ⟨_,e⟩
          · rw [e,e']
          · rw [e]
          · exact (Pk e).1
        · rcases hg i with ⟨e,e'⟩ | e | ⟨_,e⟩
          · rw [e,e']
          · rw [e]
          · exact (Pk e).2.1
        · rcases hg i with ⟨e,e'⟩ | e | ⟨_,e⟩
          · exact e
          · rw [e]; exact hi
          · exact (Pk e).2.2 hi
      · rcases Nat.lt_or_ge i B.length with hl | hl
        · obtain ⟨c,h3,h4⟩:=h2 i _ (List.getElem?_eq_getElem hl)
          rw [Nat.zero_add] at h4
          rw [X6 h3]
          rcases h4 with ⟨h4,_⟩ | ⟨_,h4⟩
          · exact absurd h4 hi
          · generalize B[i]=b at h4
            cases b with
            |
             blk T xs =>
             simp only [Ru] at h4
             split at h4
             · rename_i r hr; injection h4 with e; rw [←e]; exact Mp (Qee hm) hr
             · cases h4
            | _=>simp only [Ru,Option.some.injEq] at h4; rw [←h4]; simp [OB.ids]
        · rw [Z5 (by omega)]; simp [OB.ids]
    · cases h
def Qv2:List Nat→List OB→Option (List Nat)
  |
   i::is,b::l=>match Qv2 is l with
   |
    some r=>match b.mv with
    | true=>some (i::r)
    | false=>some r
   | none=>none
  | _,_=>some []
theorem Qk6:∀ {is:List Nat} {l:List OB} {r:List Nat},Qv2 is l=some r→∀ (j i:Nat) (b:OB),is[j]? = some i→l[j]? = some b→b.mv=true→i∈r
  | [],_,_,_,j,i,b,h,_,_=>by simp at h
  | _::_,[],_,_,j,i,b,_,h,_=>by simp at h
  |
   i0::is,b0::l,r,h,j,i,b,hi,hb,hm=>by
   simp only [Qv2] at h
   split at h
   · rename_i q hq
     have key:(j=0→i0∈r)→(∀ x∈q,x∈r)→i∈r:=fun k1 k2=>by
       cases j with
       | zero=>simp at hi; subst hi; exact k1 rfl
       | succ j=>exact k2 _ (Qk6 hq j i b (by simpa using hi) (by simpa using hb) hm)
     split at h
     · injection h with h; subst h; exact key (fun _=>.head _) fun x hx=>.tail _ hx
     · rename_i hf
       injection h with h; subst h
       refine key (fun e=>?_) fun x hx=>hx
       subst e; simp at hb; subst hb; rw [hm] at hf; cases hf
   · cases h
def eqB (is0:List Nat) (B1:List OB):List Nat→List OB→Option V4
  | [],[]=>some []
  |
   i::is,c::l=>match Hl B1 i,Ru (rnL is0) c,eqB is0 B1 is l with
   |
    some b,some c',some q=>match c.lv && (!c.mv || b.mv) with
    | true=>some ((.o c',.o (flO c' b))::q)
    | false=>none
   | _,_,_=>none
  | _,_=>none
theorem Qp8 {is0 js:List Nat} {c0:Nat} {B1:List OB} (hp:Pre is0 js):∀ {is:List Nat} {l:List OB} {q:V4},eqB is0 B1 is l=some q→EqOk q→is.length=l.length∧∀ (j:Nat) (c:OB),l[j]? = some c→∃ i b,is[j]? = some i∧B1[i]? = some b∧c.lv=true∧(c.mv=true→b.mv=true)∧Gs b=Gs (Uq (No js c0) c)∧∀ k∈c.ids,k<is0.length
  | [],[],_,_,_=>⟨rfl,fun j c h=>by simp at h⟩
  |
   i::is,c::l,q,h,hq=>by
   simp only [eqB] at h
   split at h
   · rename_i b c' q' hb hc' hq'
     split at h
     · rename_i hf
       injection h with h; subst h
       obtain ⟨h1,h2⟩:=Qp8 hp hq' hq.tl
       refine ⟨by simp [h1],fun j d hd=>?_⟩
       cases j with
       |
        zero =>
        simp at hd; subst hd
        obtain ⟨h3,h4⟩:=Qh9 (c:=c0) hp hc'
        have e:=hq.hd; injection e with e
        rw [Bool.and_eq_true] at hf
        refine ⟨i,b,rfl,J6 ▸ hb,hf.1,fun hm=>by simpa [hm] using hf.2,?_,h4⟩
        rw [←h3,e,Qg7]
       | succ j=>simpa using h2 j d (by simpa using hd)
     · cases h
   · cases h
  | [],_::_,_,h,_=>by cases h
  | _::_,[],_,h,_=>by cases h
def flF:OB→OB→Option OB
  | .row f _ _ _,.row _ T sz ls=>some (.row f T sz ls)
  | _,.gone=>some .gone
  | _,.blk T xs=>some (.blk T xs)
  | _,.mpb es=>some (.mpb es)
  | .gone,.row f T sz ls=>some (.row f T sz ls)
  | .blk ..,.row f T sz ls=>some (.row f T sz ls)
  | .mpb _,.row f T sz ls=>some (.row f T sz ls)
theorem Qzs (b c:OB):flF b c=some (flO b c):=by cases b <;> cases c <;> rfl
def Bi:List Nat→List OB→Nat→Option OB
  |
   i::is,b::bs,k=>match Nat.beq i k with
   | true=>some b
   | false=>Bi is bs k
  | _,_,_=>none
def Qj6:List Nat→List OB→Option (List OB)
  | [],l=>some l
  | _::is,_::l=>Qj6 is l
  | _::_,[]=>none
theorem Qdv:∀ {is:List Nat} {l r:List OB},Qj6 is l=some r→is.length≤l.length∧r=l.drop is.length
  | [],l,r,h=>by simp only [Qj6,Option.some.injEq] at h; subst h; exact ⟨Nat.zero_le _,rfl⟩
  |
   _::is,_::l,r,h=>by
   obtain ⟨h1,h2⟩:=Qdv (is:=is) h
   exact ⟨by simp; omega,by simpa using h2⟩
  | _::_,[],_,h=>by cases h
def Qwm (
 is:List Nat) (Bo:List OB):Nat→List OB→Option (List OB)
  | _,[]=>Qj6 is Bo
  |
   k,b::l=>match Qwm is Bo (k+1) l with
   |
    some r=>match Bi is Bo k with
    |
     some c=>match flF b c with
     |
      some d=>match !d.mv || b.mv with
      | true=>some (d::r)
      | false=>none
     | none=>none
    | none=>some (b::r)
   | none=>none
theorem Qlq {is:List Nat} {Bo:List OB}:∀ {l r:List OB} {k:Nat},Qwm is Bo k l=some r→is.length≤Bo.length∧r.length=l.length+(Bo.length-is.length)∧(∀ j,j<l.length→(ob r j=match Bi is Bo (k+j) with | some c=>flO (ob l j) c | none=>ob l j)∧((ob r j).mv=true→(ob l j).mv=true))∧∀ j,ob r (l.length+j)=ob Bo (is.length+j)
  |
   [],r,k,h=>by
   obtain ⟨h1,h2⟩:=Qdv h
   refine ⟨h1,by simp [h2],fun j hj=>by simp at hj,fun j=>?_⟩
   subst h2
   simp [ob,List.getElem?_drop]
  |
   b::l,r,k,h=>by
   simp only [Qwm] at h
   split at h
   · rename_i q hq
     obtain ⟨h1,h2,h3,h4⟩:=Qlq hq
     have key:∀ d,r=d::q→(d=match Bi is Bo k with | some c=>flO b c | none=>b)→(d.mv=true→b.mv=true)→is.length≤Bo.length∧r.length=(b::l).length+(Bo.length-is.length)∧(∀ j,j<(b::l).length→(ob r j=match Bi is Bo (k+j) with | some c=>flO (ob (b::l) j) c | none=>ob (b::l) j)∧((ob r j).mv=true→(ob (b::l) j).mv=true))∧∀ j,ob r ((b::l).length+j)=ob Bo (is.length+j):=fun d e hd hdm=>by
       subst e
       refine ⟨h1,by simp [h2]; omega,fun j hj=>?_,fun j=>?_⟩
       · cases j with
         | zero=>rw [Nat.add_zero]; exact ⟨by simpa [ob] using hd,by simpa [ob] using hdm⟩
         |
          succ j =>
          have:=h3 j (by simpa using hj)
          rw [show k+(j+1)=k+1+j from by omega]
          simpa [ob] using this
       · rw [←h4 j,show (b::l).length+j=(l.length+j)+1 from by simp; omega]
         simp [ob]
     split at h
     · rename_i c hc
       rw [Qzs] at h
       simp only at h
       split at h
       · rename_i hf
         injection h with h
         exact key _ h.symm (by rw [hc]) fun hm=>by simpa [hm] using hf
       · cases h
     · rename_i hc
       injection h with h
       exact key _ h.symm (by rw [hc]) id
   · cases h
theorem Bj:∀ {is:List Nat} {Bo:List OB} {k:Nat} {c:OB},Bi is Bo k=some c→∃ j:Nat,is[j]? = some k∧Bo[j]? = some c
  | [],_,_,_,h=>by simp [Bi] at h
  | _::_,[],_,_,h=>by simp [Bi] at h
  |
   i::is,b::bs,k,c,h=>by
   simp only [Bi] at h
   split at h
   · rename_i e; injection h with h; subst h; exact ⟨0,by simp [Nat.eq_of_beq_eq_true e],rfl⟩
   · obtain ⟨j,h1,h2⟩:=Bj h; exact ⟨j+1,by simpa using h1,by simpa using h2⟩
theorem Oh:∀ {is:List Nat} {Bo:List OB} {k:Nat},is.length≤Bo.length→Bi is Bo k=none→k∉is
  | [],_,_,_,_=>by simp
  | _::_,[],_,hl,_=>by simp at hl
  |
   i::is,b::bs,k,hl,h=>by
   simp only [Bi] at h
   split at h
   · cases h
   · rename_i e
     have:=Oh (by simpa using hl) h
     simp [Ne.symm (Nat.ne_of_beq_eq_false e),this]
def Qta:List Nat→List OB→Option (List Nat×List Nat)
  | is,[]=>some ([],is)
  |
   i::is,_::l=>match Qta is l with
   | some (a,b)=>some (i::a,b)
   | none=>none
  | [],_::_=>none
theorem Qlz:∀ {is:List Nat} {l:List OB} {a b:List Nat},Qta is l=some (a,b)→is=a++b∧a.length=l.length
  | is,[],a,b,h=>by simp only [Qta,Option.some.injEq,Prod.mk.injEq] at h; obtain ⟨rfl,rfl⟩:=h; exact ⟨rfl,rfl⟩
  |
   i::is,_::l,a,b,h=>by
   simp only [Qta] at h
   split at h
   · rename_i a' b' hh
     obtain ⟨h1,h2⟩:=Qlz hh
     simp only [Option.some.injEq,Prod.mk.injEq] at h
     obtain ⟨rfl,rfl⟩:=h
     exact ⟨by rw [h1]; rfl,by simp [h2]⟩
   · cases h
  | [],_::_,_,_,h=>by cases h
def Qwv:Nat→List Nat→Bool
  | _,[]=>true
  |
   k,i::l=>match Nat.beq i k with
   | true=>Qwv (k+1) l
   | false=>false
theorem Ls:∀ {k:Nat} {l:List Nat},Qwv k l=true→∀ (j i:Nat),l[j]? = some i→i=k+j
  | _,[],_,j,i,h=>by simp at h
  |
   k,x::l,h,j,i,hi=>by
   simp only [Qwv] at h
   split at h
   · rename_i e
     cases j with
     | zero=>simp at hi; subst hi; exact Nat.eq_of_beq_eq_true e
     | succ j=>have:=Ls h j i (by simpa using hi); omega
   · cases h
def ndp:List Nat→Bool
  | []=>true
  |
   i::l=>match J3 i l with
   | true=>false
   | false=>ndp l
theorem Qby:∀ {l:List Nat},ndp l=true→∀ i j k:Nat,l[i]? = some k→l[j]? = some k→i=j
  | [],_,i,j,k,h,_=>by simp at h
  |
   x::l,h,i,j,k,hi,hj=>by
   simp only [ndp] at h
   split at h
   · cases h
   · rename_i hn
     have hx:x∉l:=fun h=>by rw [Xp.2 h] at hn; cases hn
     cases i with
     |
      zero =>
      cases j with
      | zero=>rfl
      | succ j=>simp at hi hj; subst hi; exact absurd (List.mem_of_getElem? hj) hx
     |
      succ i =>
      cases j with
      | zero=>simp at hi hj; subst hj; exact absurd (List.mem_of_getElem? hi) hx
      | succ j=>rw [Qby h i j k (by simpa using hi) (by simpa using hj)]
def Qxx (L:Sg) (B:List OB) (h:List (H P)) (d f:Nat) (ys:List TV):St P:=match h with
  |
   .c (f:=f') (args:=args) (Bin:=Bin) (res:=res) (Bout:=Bout) is _::h=>match Nat.beq f f',lenB B,Qta is Bin with
   |
    true,some nB,some (is1,is2)=>match Xx (tvO (rnL is1)) args,Qv2 is1 Bin with
    |
     some args',some ms=>match Qc2 ys args',kl ms is1 L B with
     |
      some q,some (L1,B1)=>match eqB is1 B1 is1 Bin,Xx (Ru (rnL is)) Bout with
      |
       some q2,some Bo=>match Qwm is1 Bo 0 B1,Xx (tvO (rnL is)) res with
       |
        some B2,some res'=>match avF res' with
        |
         some u=>match ndp is,Qwv nB is2,(Wn (Nat.blt · nB) is1 && Nat.beq is.length Bout.length) with
         | true,true,true=>some ((d,u)::L1,B2,h,q++q2,[])
         | _,_,_=>none
        | none=>none
       | _,_=>none
      | _,_=>none
     | _,_=>none
    | _,_=>none
   | _,_,_=>none
  | _=>none
def Qdj (L:Sg) (B:List OB) (h:List (H P)) (d f:Nat) (ys:List TV):St P:=match Qxw L B h d f ys with
  | some r=>some r
  | none=>Qxx L B h d f ys
theorem Qrh {α β:Type} {f:α→Option β} {l:List α} {r:List β} (h:Xx f l=some r):r.length=l.length:=(Uo h).1
theorem Qws {is js:List Nat} {c:Nat} (hp:Pre is js) {l r:List OB} (h:Xx (Ru (rnL is)) l=some r) (j:Nat):ob r j=Uq (No js c) (ob l j):=by
  rcases Qbw h j with ⟨h1,h2⟩ | h1
  · rw [Z5 h1,Z5 h2]; rfl
  · exact (Qh9 hp h1).1
theorem Qpj {arr:Array Oper} {o:Oper} {N:Kp} {h h':List (H P)} {q:V4} {obs:List Prop} {d f:Nat} {us ys:List TV} {x:Operand} {xs:Array Operand} {ats:Array TypeId} {fv:LV} {pre post:List LV} (ho:o.op=.call { callee:=.value x,args:=xs,argTypes:=ats }) (hg:o.guard=none) (hd:o.dst=some d) (hdn:Nat.blt d n=true)
    (hx:evT L x=some (.one fv)) (hfv:Qmz fv=some (f,pre,post)) (hus:evTs L xs.toList=some us) (hys:Fb (Qmf pre us post)=some ys) (hc:Qdj L B h d f ys=some (L',B',h',q,obs)) (hq:EqOk q) (k:N L' B'):W1 P arr n o N L B:=by
  unfold Qdj at hc
  split at hc
  · rename_i r hcE
    injection hc with hc; subst hc
    rename_i hc
    unfold Qxw at hcE
    split at hcE
    · rename_i f' args Bin res Bout is hdo h2
      split at hcE
      · rename_i hB hfr
        simp only [Bool.and_eq_true] at hB hfr
        obtain rfl:=Qkm hB.1
        obtain rfl:=Qkm hB.2
        split at hcE
        · rename_i q2 hz
          split at hcE
          · rename_i u hu
            obtain ⟨rfl,rfl,rfl,rfl,rfl⟩:=Vz hcE
            have e0:=hq.hd; injection e0 with e0; subst e0
            exact W1.call hdo ho hg hd hdn hx hfv hus hys (Nn hz hq.tl) hfr.1 hfr.2 (by rw [Qn8 hu]; exact k)
          · cases hcE
        · cases hcE
      · cases hcE
    · cases hcE
  · rename_i hne; clear hne
    unfold Qxx at hc
    split at hc
    · rename_i f' args Bin res Bout is hdo h2
      split at hc
      · rename_i nB is1 is2 e hnB hspl
        obtain rfl:=Nat.eq_of_beq_eq_true e
        obtain rfl:=Yw hnB
        obtain ⟨hsp,hl1⟩:=Qlz hspl
        split at hc
        · rename_i args' ms hargs hms
          split at hc
          · rename_i q1 L1 B1 hz hkl
            split at hc
            · rename_i q2 Bo hq2 hBo
              split at hc
              · rename_i B2 res' hput hres
                split at hc
                · rename_i u hu
                  split at hc
                  · rename_i hnd hseq hlt
                    obtain ⟨rfl,rfl,rfl,rfl,rfl⟩:=Vz hc
                    rw [Bool.and_eq_true] at hlt
                    obtain ⟨hlt,hlen⟩:=hlt
                    have hlen:=Nat.eq_of_beq_eq_true hlen
                    have hlt:∀ i∈is1,i<B.length:=fun i hi=>by have:=X2 hlt i hi; rwa [Nat.blt_eq] at this
                    obtain ⟨hqa,hqb⟩:=hq.app
                    have hpre:Pre is1 is:=fun i j hj=>by
                      rw [Wv] at hj ⊢
                      rw [hsp,List.getElem?_append_left (List.getElem?_eq_some_iff.1 hj).1]; exact hj
                    let c:=B.length+is.length
                    obtain ⟨ha1,ha2⟩:=Lq (c:=c) hpre hargs
                    obtain ⟨hr1,_⟩:=Lq (c:=c) (Pre.refl is) hres
                    obtain ⟨hk1,hk2,hk3⟩:=Q2j (n:=n) hkl
                    obtain ⟨_,he2⟩:=Qp8 (c0:=c) hpre hq2 hqb
                    have hBol:=Qrh hBo
                    obtain ⟨hp1,hp2,hp3,hp4⟩:=Qlq hput
                    have hmv:=Qk6 hms
                    have hi1:∀ j,j<Bin.length→∃ i,is1[j]? = some i∧No is c j=i:=fun j hj=>by
                      have h1:is1[j]? = some is1[j]:=List.getElem?_eq_getElem (by omega)
                      exact ⟨_,h1,Ce hpre (by rw [Wv]; exact h1)⟩
                    have hall:∀ j i,is[j]? = some i→i<c:=fun j i hj=>by
                      have hjl:=(List.getElem?_eq_some_iff.1 hj).1
                      have hll:is.length=is1.length+is2.length:=by rw [hsp]; simp
                      rcases Nat.lt_or_ge j is1.length with h | h
                      · rw [hsp,List.getElem?_append_left h] at hj
                        have:=hlt i (List.mem_of_getElem? hj)
                        simp only [c]; omega
                      · rw [hsp,List.getElem?_append_right h] at hj
                        have:=Ls hseq _ _ hj
                        have:=(List.getElem?_eq_some_iff.1 hj).1
                        simp only [c]; omega
                    have hrho:∀ i j,No is c i=No is c j→i=j:=fun i j e=>by
                      simp only [No,Wv] at e
                      cases hi:is[i]? with
                      |
                       none =>
                       cases hj:is[j]? with
                       | none=>simp only [hi,hj] at e; omega
                       | some b=>simp only [hi,hj] at e; have:=hall j b hj; omega
                      |
                       some a =>
                       cases hj:is[j]? with
                       | none=>simp only [hi,hj] at e; have:=hall i a hi; omega
                       | some b=>simp only [hi,hj] at e; subst e; exact Qby hnd i j a hi hj
                    have hobin:∀ j,j<Bin.length→∃ i b,is1[j]? = some i∧B1[i]? = some b∧(ob Bin j).lv=true∧((ob Bin j).mv=true→b.mv=true)∧Gs b=Gs (Uq (No is c) (ob Bin j))∧∀ k∈(ob Bin j).ids,k<is1.length:=fun j hj=>by
                      have h1:=List.getElem?_eq_getElem hj
                      rw [X6 h1]
                      exact he2 j _ h1
                    have hbg:∀ j,¬j<Bin.length→ob Bin j=.gone:=fun j hj=>Z5 (by omega)
                    have hBoutl:Bo.length=Bout.length:=hBol
                    refine W1.callD (ρ:=No is c) (B1:=B1) (L1:=L1) hdo ho hg hd hdn hx hfv hus hys ((Nn hz hqa).trans ha1) hrho (fun t ht i hi=>by have:=ha2 t ht i hi; omega) (fun j i hi=>?_) (fun j hj=>?_) (fun j hj=>?_) (fun j h1 h2=>?_) (by omega) hk1 hk2 (fun j hj=>?_) (fun j hj=>?_) (fun j hj=>?_) (fun i hi hn=>?_) (by rw [hp2,hk2]; omega) ?_
                    · rcases Nat.lt_or_ge j Bin.length with hj | hj
                      · obtain ⟨_,_,_,_,_,_,_,h9⟩:=hobin j hj
                        have:=h9 i hi; omega
                      · rw [Z5 hj] at hi; simp [OB.ids] at hi
                    · obtain ⟨_,_,_,_,h5,_⟩:=hobin j hj; exact h5
                    · obtain ⟨i,h1,h2⟩:=hi1 j hj
                      rw [h2]; exact hlt i (List.mem_of_getElem? h1)
                    · have hll:is.length=is1.length+is2.length:=by rw [hsp]; simp
                      have h3:is[j]? = is2[j-is1.length]? := by rw [hsp,List.getElem?_append_right (by omega)]
                      have h4:is2[j-is1.length]? = some is2[j-is1.length]:=List.getElem?_eq_getElem (by omega)
                      have h5:=Ls hseq _ _ h4
                      rw [h4] at h3
                      have:No is c j=is2[j-is1.length]:=Ce (Pre.refl is) (by rw [Wv]; exact h3)
                      rw [this,h5,hl1]
                    · have hjl:j<Bin.length:=by
                        apply Classical.byContradiction
                        intro hn
                        rw [hbg j hn] at hj; cases hj
                      obtain ⟨i,h1,h2⟩:=hi1 j hjl
                      have hb:=List.getElem?_eq_getElem hjl
                      rw [X6 hb] at hj
                      have:=hmv j i _ h1 hb hj
                      rw [h2]
                      refine ⟨(hk3 i this).1,fun m hm=>(hk3 i this).2 m fun hmi=>?_⟩
                      obtain ⟨j',hj'⟩:=List.mem_iff_getElem?.1 hmi
                      have hjl':j'<Bin.length:=by have:=(List.getElem?_eq_some_iff.1 hj').1; omega
                      obtain ⟨i',h3,h4⟩:=hi1 j' hjl'
                      rw [hj'] at h3; injection h3 with h3
                      exact hm j' hjl' (h4.trans h3.symm)
                    · obtain ⟨i,b,h1,h3,h5,h6,h7,_⟩:=hobin j hj
                      obtain ⟨i',h1',h2⟩:=hi1 j hj
                      rw [h1] at h1'; injection h1' with h1'; subst h1'
                      rw [h2,X6 h3]
                      exact ⟨h7,h6⟩
                    · have hBj:=Qws (c:=c) (Pre.refl is) hBo j
                      rcases Nat.lt_or_ge j Bin.length with h | h
                      · obtain ⟨i,h1,h2⟩:=hi1 j h
                        have hil:=hlt i (List.mem_of_getElem? h1)
                        rw [h2]
                        obtain ⟨h3,h3m⟩:=hp3 i (by omega)
                        rw [Nat.zero_add] at h3
                        cases hf:Bi is1 Bo i with
                        | none=>exact absurd (List.mem_of_getElem? h1) (Oh (by omega) hf)
                        |
                         some b =>
                         rw [hf] at h3
                         have h3:ob B2 i=flO (ob B1 i) b:=h3
                         obtain ⟨j',h4,h5⟩:=Bj hf
                         have:j'=j:=Qby hnd j' j i (by rw [hsp,List.getElem?_append_left (List.getElem?_eq_some_iff.1 h4).1]; exact h4) (by rw [hsp,List.getElem?_append_left (List.getElem?_eq_some_iff.1 h1).1]; exact h1)
                         subst this
                         rw [X6 h5] at hBj
                         exact ⟨by rw [h3,Qg7,hBj],fun _=>h3m⟩
                      · have h1:=hp4 (j-Bin.length)
                        have e1:is1.length+(j-Bin.length)=j:=by omega
                        rw [e1] at h1
                        have hll:is.length=is1.length+is2.length:=by rw [hsp]; simp
                        have h3:is[j]? = is2[j-is1.length]? := by rw [hsp,List.getElem?_append_right (by omega)]
                        have h4:is2[j-is1.length]? = some is2[j-is1.length]:=List.getElem?_eq_getElem (by omega)
                        have h5:=Ls hseq _ _ h4
                        rw [h4] at h3
                        have e2:No is c j=is2[j-is1.length]:=Ce (Pre.refl is) (by rw [Wv]; exact h3)
                        rw [e2,h5,←hk2,hl1,h1,hBj]
                        exact ⟨rfl,fun h'=>by omega⟩
                    · have h3:=(hp3 i (by omega)).1
                      rw [Nat.zero_add] at h3
                      cases hf:Bi is1 Bo i with
                      | none=>rw [hf] at h3; exact h3
                      |
                       some b =>
                       obtain ⟨j',h4,_⟩:=Bj hf
                       have hjl':j'<Bin.length:=by have:=(List.getElem?_eq_some_iff.1 h4).1; omega
                       obtain ⟨i',h5,h6⟩:=hi1 j' hjl'
                       rw [h4] at h5; injection h5 with h5
                       exact absurd (h6.trans h5.symm) (hn j' hjl')
                    · rw [←hr1,Qn8 hu]; exact k
                  · cases hc
                · cases hc
              · cases hc
            · cases hc
          · cases hc
        · cases hc
      · cases hc
    · cases hc
end Orr

namespace Orr
open Go
variable {P:Program} {n:Nat} {L L':Sg} {B B':List OB} {Q:Exit→Sg→List OB→Prop}
def Qjs (L:Sg) (x:Operand) (xs:List Operand):Option (Nat×List TV):=match evT L x with
  |
   some (.one fv)=>match Qmz fv with
   |
    some (f,pre,post)=>match evTs L xs with
    |
     some us=>match Fb (Qmf pre us post) with
     | some ys=>some (f,ys)
     | none=>none
    | none=>none
   | none=>none
  | _=>none
theorem Qjt {arr:Array Oper} {o:Oper} {N:Kp} {h h':List (H P)} {q:V4} {ob:List Prop} {d f:Nat} {ys:List TV} {x:Operand} {xs:Array Operand} {ats:Array TypeId} (ho:o.op=.call { callee:=.value x,args:=xs,argTypes:=ats }) (hg:o.guard=none) (hd:o.dst=some d) (hdn:Nat.blt d n=true)
    (ha:Qjs L x xs.toList=some (f,ys)) (hc:Qdj L B h d f ys=some (L',B',h',q,ob)) (hq:EqOk q) (k:N L' B'):W1 P arr n o N L B:=by
  unfold Qjs at ha
  split at ha
  · rename_i fv hx
    split at ha
    · rename_i f pre post hfv
      split at ha
      · rename_i us hus
        split at ha
        · rename_i ys hys
          injection ha with ha; injection ha with e1 e2; subst e1; subst e2
          exact Qpj ho hg hd hdn hx hfv hus hys hc hq k
        · cases ha
      · cases ha
    · cases ha
  · cases ha
end Orr

namespace Orr
open Go
variable {P:Program} {arr:Array Oper} {n:Nat} {o:Oper} {F:Fr} {E:Vh} {M:Nat→Prop} {a:Act} {w:World}
theorem Qxc {o:Oper} {a:Act} {w:World} {K1 K2:Act→World→Prop} {Q1 Q2:Exit→Act→World→Prop} (hd:a.defers=[])
    (hK:∀ a' w',K1 a' w'→a'.defers=[]∧((∃ v,a'=a.put o.dst v)→K2 a' w')) (hp:∀ c a w,¬Q1 (.panic c) a w) (ho:¬LetsOut Q1) (h:o.wp P a w K1 Q1):o.wp P a w K2 Q2:=by
  unfold Oper.wp at *
  generalize (execOp a.eval o).run P w=r at *
  cases r with
  |
   ok nx w' =>
   cases nx <;> simp only [Oper.upon] at h ⊢
   case value v=>exact (hK _ _ h).2 ⟨v,rfl⟩
   case skip=>exact (hK _ _ h).2 ⟨_,rfl⟩
   case defer d =>
     have:=(hK _ _ h).1
     cases hdst:o.dst <;> simp [Act.put,hdst] at this
   case enter f args =>
     refine Calls.mono h fun e w'' he=>?_
     cases e with
     | returned v=>exact (hK _ _ he).2 ⟨v,rfl⟩
     | panicked c=>exact absurd he (hp _ _ _)
     | outgrown=>exact absurd he ho
   case row row args=>exact Rows.mono h fun v w'' he=>(hK _ _ he).2 ⟨v,rfl⟩
  |
   halt x w' =>
   cases x <;> simp only [Oper.upon] at h ⊢
   case panic v=>exact absurd h (hp _ _ _)
theorem Qtd {K1 K2:Act→World→Prop} {Q:Exit→Act→World→Prop} (hd:a.defers=[]) (hK:∀ a' w',K1 a' w'→a'.defers=[]∧((∃ v,a'=a.put o.dst v)→K2 a' w')) (h:stp P arr o a w K1 fun _ _ _=>False):stp P arr o a w K2 Q:=by
  have hno:¬LetsOut fun (_:Exit) (_:Act) (_:World)=>False:=fun ⟨_,_,h⟩=>h
  unfold stp at *
  split
  · rename_i hw
    rw [if_pos hw] at h
    exact .inl (Qxc hd hK (fun _ _ _ h=>h) hno (h.resolve_right fun h=>hno h.2))
  · rename_i hw
    rw [if_neg hw] at h
    exact (hK _ _ h).2 ⟨_,rfl⟩
structure SF (F:Fr) (n:Nat) (sl:Nat→Option AV) (bl:Nat→OB) (U:Nat→Prop) (E:Vh) (M:Nat→Prop) (a:Act) (w:World):Prop where
  hs:HS F bl U E M w
  size:a.tmps.size=n
  defers:a.defers=[]
  slots:∀ t x,sl t=some x→∃ v,a.tmps[t]? = some v∧ARep w M E v x
def Yg {α:Type}:List (Nat×α)→Nat→Option α
  | [],_=>none
  |
   (t,v)::l,s=>match Nat.beq s t with
   | true=>some v
   | false=>Yg l s
def Fj {α:Type} (f:Nat→α) (l:List (Nat×α)):Nat→α:=fun t=>match Yg l t with
  | some v=>v
  | none=>f t
structure Rc where
  L0:Sg
  B0:List OB
  L1:Sg
  B1:List OB
  ws:List (Nat×Option AV)
  wb:List (Nat×OB)
  mv:Option Nat
def Rc.act (r:Rc) (j:Nat):Prop:=(ob r.B0 j).lv=true∨r.B0.length≤j∧j<r.B1.length
structure Loc (r:Rc) (sl:Nat→Option AV) (bl:Nat→OB) (U:Nat→Prop):Prop where
  l0:∀ t x,lk r.L0 t=some x→sl t=some x
  b0:∀ j,(ob r.B0 j).lv=true→Gs (bl j)=Gs (ob r.B0 j)∧((ob r.B0 j).mv=true→(bl j).mv=true)∧∀ b,Yg r.wb j=some b→b.mv=true→(bl j).mv=true
  new:∀ j,r.B0.length≤j→j<r.B1.length→U j
  mvs:∀ i,r.mv=some i→(∀ t x,sl t=some x→i∈x.ids→(Yg r.ws t).isSome=true)∧∀ j,i∈(bl j).ids→(Yg r.wb j).isSome=true
  kl:∀ j b,Yg r.wb j=some b→¬r.act j→∃ i,r.mv=some i∧Ru (Kx i) (bl j)=some b
structure Wf (P:Program) (arr:Array Oper) (n:Nat) (o:Oper) (r:Rc):Prop where
  w1:W1 P arr n o (fun L B=>L=r.L1∧B=r.B1) r.L0 r.B0
  ids0:∀ t x,lk r.L0 t=some x→∀ i∈x.ids,i<r.B0.length
  idsb:∀ j,∀ i∈(ob r.B0 j).ids,i<r.B0.length
  mv0:∀ j,(ob r.B0 j).mv=true→r.mv=some j
  mv1:∀ j,r.mv=some j→(ob r.B0 j).lv=true∧(Yg r.wb j).isSome=true
  ws1:∀ t x,Yg r.ws t=some (some x)→lk r.L1 t=some x
  ws2:∀ t,o.dst=some t→(Yg r.ws t).isSome=true
  wb1:∀ j b,Yg r.wb j=some b→r.act j→Gs b=Gs (ob r.B1 j)
  wb2:∀ j,r.act j→Yg r.wb j=none→Gs (ob r.B1 j)=Gs (ob r.B0 j)∧(ob r.B0 j).lv=true
theorem Qh6:∀ b:OB,Uq id b=b
  |
   .blk T xs=>by
   have e:∀ ys:List LV,ys.map (Qce id)=ys:=fun ys=>by
     induction ys with
     | nil=>rfl
     | cons y ys ih=>simp only [List.map_cons,ih]; cases y <;> rfl
   have e2:∀ ys:List LV,ys.map (Pq id)=ys:=fun ys=>by
     induction ys with
     | nil=>rfl
     | cons y ys ih=>simp only [List.map_cons,ih]; cases y <;> simp [Pq,e]
   simp only [Uq,e2]
  | .gone=>rfl
  | .row .. => rfl
  | .mpb _=>rfl
theorem Loc.step {r:Rc} {sl:Nat→Option AV} {bl:Nat→OB} {U:Nat→Prop} (hl:Loc r sl bl U) (hw:Wf P arr n o r) (h:SF F n sl bl U E M a w) {K:Act→World→Prop} {Q:Exit→Act→World→Prop}
    (hK:∀ a' w' E' M',SF F n (Fj sl r.ws) (Fj bl r.wb) (fun j=>U j∧¬(r.B0.length≤j∧j<r.B1.length)) E' M' a' w'→K a' w'):stp P arr o a w K Q:=by
  have hlv0:∀ j,(ob r.B0 j).lv=true→j<r.B0.length:=fun j hj=>by
    apply Classical.byContradiction
    intro hn
    rw [Z5 (by omega)] at hj; cases hj
  -- Q2q blocks forget what is moved
  have hkill:∀ j,¬r.act j→OBRep w M E j (Fj bl r.wb j)∧(Fj bl r.wb j).lv=(bl j).lv∧(Fj bl r.wb j).mv=(bl j).mv∧(bl j=.gone→Fj bl r.wb j=.gone)∧∀ i,r.mv=some i→i∉(Fj bl r.wb j).ids:=fun j hj=>by
    simp only [Fj]
    split
    · rename_i b hb
      obtain ⟨i,hi,hk⟩:=hl.kl j b hb hj
      obtain ⟨e1,e2,e3⟩:=Pk hk
      refine ⟨Qbz Qef hk (h.hs.blk j),e1,e2,e3,fun i' hi'=>?_⟩
      rw [hi] at hi'; injection hi' with hi'; subst hi'
      cases hbj:bl j <;> rw [hbj] at hk <;> simp only [Ru,Option.some.injEq] at hk <;> first | (rw [←hk]; simp [OB.ids]; done) | skip
      split at hk
      · rename_i r' hr'; injection hk with hk; rw [←hk]; exact Mp (fun _ _=>Bt) hr'
      · cases hk
    · rename_i hb
      refine ⟨h.hs.blk j,rfl,rfl,id,fun i hi hm=>?_⟩
      have:=(hl.mvs i hi).2 j hm
      rw [hb] at this; cases this
  let blx:Nat→OB:=fun j=>if (ob r.B0 j).lv=true then ob r.B0 j else if r.B0.length≤j∧j<r.B1.length then bl j else Fj bl r.wb j
  have hx1:∀ j,(ob r.B0 j).lv=true→blx j=ob r.B0 j:=fun j hj=>if_pos hj
  have hx2:∀ j,¬r.act j→blx j=Fj bl r.wb j:=fun j hj=>by
    simp only [blx]
    rw [if_neg fun h=>hj (.inl h),if_neg fun h=>hj (.inr h)]
  have hx3:∀ j,r.B0.length≤j∧j<r.B1.length→blx j=bl j:=fun j hj=>by
    simp only [blx]
    rw [if_neg fun h=>by have:=hlv0 j h; omega,if_pos hj]
  have hcase:∀ j,(ob r.B0 j).lv=true∨(r.B0.length≤j∧j<r.B1.length)∨¬r.act j:=fun j=>by
    by_cases h1:(ob r.B0 j).lv=true
    · exact .inl h1
    · by_cases h2:r.B0.length≤j∧j<r.B1.length
      · exact .inr (.inl h2)
      · exact .inr (.inr fun h=>h.elim h1 h2)
  have hsx:HS F blx U E M w:=by
    have h1:∀ j,OBRep w M E j (blx j)∧(blx j).lv=(bl j).lv∧((blx j).mv=true→(bl j).mv=true)∧(bl j=.gone→blx j=.gone):=fun j=>by
      rcases hcase j with hj | hj | hj
      · rw [hx1 j hj]
        obtain ⟨e1,e2,_⟩:=hl.b0 j hj
        exact ⟨Qkf e1 (h.hs.blk j),(Bl e1).symm,e2,fun e=>by rw [e] at e1; have:=Bl e1; rw [hj] at this; cases this⟩
      · rw [hx3 j hj]; exact ⟨h.hs.blk j,rfl,id,id⟩
      · rw [hx2 j hj]
        obtain ⟨e1,e2,e3,e4,_⟩:=hkill j hj
        exact ⟨e1,e2,fun h=>e3 ▸ h,e4⟩
    exact { h.hs with
      nj:=fun i hi=>h.hs.nj i ((h1 i).2.2.1 hi)
      blk:=fun i=>(h1 i).1
      nk:=fun i g c m hi=>h.hs.nk i g c m (by rw [←(h1 i).2.1]; exact hi)
      inj:=fun i j g c m c' m' hi hj=>h.hs.inj i j g c m c' m' (by rw [←(h1 i).2.1]; exact hi) (by rw [←(h1 j).2.1]; exact hj)
      un:=fun i hi=>⟨(h.hs.un i hi).1,(h1 i).2.2.2 (h.hs.un i hi).2⟩ }
  let E':Vh:=fun j=>if r.B0.length≤j then none else E j
  have hE':∀ j,j<r.B0.length→E' j=E j:=fun j hj=>if_neg (by omega)
  have hsub:HS (prt (ob r.B0) (nw r.B0) E' M w) (ob r.B0) (nw r.B0) E' M w:=hsx.sub (ρ:=id) (fun j hj=>by rw [Qh6]; exact hx1 j hj)
    (fun _ _ e=>e) (fun j hj=>Z5 hj) (fun j hj=>if_pos hj) (fun j hj=>hE' j (by simpa [nw] using hj)) (fun j i hi=>by have:=hw.idsb j i hi; simp only [nw]; omega)
  have hsa:SA (prt (ob r.B0) (nw r.B0) E' M w) n r.L0 r.B0 E' M a w:=⟨hsub,h.size,h.defers,fun t x hx=>by
    obtain ⟨v,h1,h2⟩:=h.slots t x (hl.l0 t x hx)
    exact ⟨v,h1,h2.keep (Le.refl _ _) fun i hi _=>hE' i (hw.ids0 t x hx i hi)⟩⟩
  refine Qtd (K1:=fun a' w'=>∃ E1 M1,SA (prt (ob r.B0) (nw r.B0) E' M w) n r.L1 r.B1 E1 M1 a' w') h.defers (fun a' w' ⟨E1,M1,h1⟩=>⟨h1.defers,fun ⟨v,ha⟩=>?_⟩) (hw.w1 _ _ _ _ _ _ _ hsa fun a' w' L' B' E1 M1 h1 ⟨e1,e2⟩=>by subst e1; subst e2; exact ⟨E1,M1,h1⟩)
  -- it comes back
  have dec:∀ j,r.act j∨¬r.act j:=fun j=>Classical.em _
  let E2:Vh:=fun j=>if (ob r.B0 j).lv=true∨r.B0.length≤j∧j<r.B1.length then E1 j else E j
  let bl2:Nat→OB:=fun j=>if (ob r.B0 j).lv=true∨r.B0.length≤j∧j<r.B1.length then ob r.B1 j else blx j
  have kb:Back blx (ob r.B0) (ob r.B1) bl2 U (nw r.B0) (nw r.B1) (fun j=>U j∧¬(r.B0.length≤j∧j<r.B1.length)) E E' E1 E2 id r.act:={
    inj:=fun _ _ e=>e
    hb:=fun j hj=>by rw [Qh6]; exact hx1 j hj
    e':=fun j hj=>hE' j (by simpa [nw] using hj)
    a0:=fun j hj=>⟨.inl hj,by have:=hlv0 j hj; simp only [nw]; omega⟩
    a1:=fun j hj=>hj.imp id fun h=>⟨h.1,hl.new j h.1 h.2⟩
    a2:=fun j h1 h2=>.inr ⟨h1,by simpa [nw] using h2⟩
    hit:=fun j hj=>⟨if_pos hj,by rw [Qh6]; exact if_pos hj⟩
    no:=fun i hi=>⟨if_neg fun h=>hi i h rfl,if_neg fun h=>hi i h rfl⟩
    u2:=fun i hi=>⟨hi.1,fun j hj e=>by
      have e:j=i:=e
      subst e
      rcases hj with hj | hj
      · have h1:=(h.hs.un j hi.1).2
        have h2:=(hl.b0 j hj).1
        rw [h1] at h2
        rw [←Bl h2] at hj; cases hj
      · exact hi.2 hj⟩
    mv:=fun j hj i hi hm=>by
      have hn:¬r.act i:=fun h=>hi i h rfl
      rw [hx2 i hn] at hm
      exact (hkill i hn).2.2.2.2 j (hw.mv0 j hj) hm }
  have hs2:=HS.back kb hsx h1.hs
  have hle:=Dv kb hsx h1.hs
  have hfl:HS F (Fj bl r.wb) (fun j=>U j∧¬(r.B0.length≤j∧j<r.B1.length)) E2 M1 w':=by
    refine hs2.flag (fun j=>?_) fun j hj=>?_
    · rcases dec j with hj | hj
      · rw [show bl2 j=ob r.B1 j from if_pos hj]
        simp only [Fj]
        split
        · rename_i b hb; exact (hw.wb1 j b hb hj).symm
        · rename_i hb
          obtain ⟨e1,e2⟩:=hw.wb2 j hj hb
          exact e1.trans (hl.b0 j e2).1.symm
      · rw [show bl2 j=blx j from if_neg hj,hx2 j hj]
    · rcases hcase j with hj' | hj' | hj'
      · simp only [Fj] at hj
        split at hj
        · rename_i b hb; exact h.hs.nj j ((hl.b0 j hj').2.2 b hb hj)
        · exact h.hs.nj j hj
      · exact h.hs.uj j (hl.new j hj'.1 hj'.2)
      · rw [(hkill j hj').2.2.1] at hj; exact h.hs.nj j hj
  refine hK a' w' E2 M1 ⟨hfl,h1.size,h1.defers,fun t x hx=>?_⟩
  simp only [Fj] at hx
  split at hx
  · rename_i y hy
    subst hx
    obtain ⟨v',h2,h3⟩:=h1.slots t x (hw.ws1 t x hy)
    exact ⟨v',h2,h3.keep (Le.refl _ _) fun i _ hi=>Ly kb hsx h1.hs hi⟩
  · rename_i hy
    have hne:o.dst≠some t:=fun e=>by have:=hw.ws2 t e; rw [hy] at this; cases this
    obtain ⟨v',h2,h3⟩:=h.slots t x hx
    refine ⟨v',?_,h3.keep hle fun i hi hne'=>Nt kb hsx h1.hs hne' fun j hj e=>?_⟩
    · rw [ha]
      cases hd:o.dst with
      | none=>exact h2
      |
       some d =>
       simp only [Act.put]
       rw [Array.getElem?_setIfInBounds_ne (fun e=>hne (by rw [hd,e]))]
       exact h2
    · have e:j=i:=e
      subst e
      have:=(hl.mvs j (hw.mv0 j hj)).1 t x hx hi
      rw [hy] at this; cases this
end Orr

namespace Orr
open Go
variable {P:Program} {n:Nat} {Q:Exit→Act→World→Prop} {F:Fr}
def Rc.nw_ (r:Rc) (j:Nat):Prop:=r.B0.length≤j∧j<r.B1.length
def Ov (mvs:List Nat) (r:Rc) (sl:Nat→Option AV) (bl:Nat→OB):Prop :=
  (∀ t y,(Yg r.ws t).isSome=true→sl t=some y→∀ i∈y.ids,i∈mvs→r.mv=some i)∧∀ j,(Yg r.wb j).isSome=true→∀ i∈(bl j).ids,i∈mvs→r.mv=some i
def DR (R:Nat→Rc) (mvs:List Nat) (N:(Nat→Option AV)→(Nat→OB)→(Nat→Prop)→Prop):List Nat→(Nat→Option AV)→(Nat→OB)→(Nat→Prop)→Prop
  | [],sl,bl,U=>N sl bl U
  | i::l,sl,bl,U=>Loc (R i) sl bl U∧Ov mvs (R i) sl bl∧DR R mvs N l (Fj sl (R i).ws) (Fj bl (R i).wb) (fun j=>U j∧¬(R i).nw_ j)
structure Dj1 (p x:Rc):Prop where
  rd:∀ t,(Yg p.ws t).isSome=true→lk x.L0 t=none
  ws:∀ t,(Yg p.ws t).isSome=true→Yg x.ws t=none
  wb:∀ j,(Yg p.wb j).isSome=true→(ob x.B0 j).lv=false∧Yg x.wb j=none
  mv:∀ i,p.mv=some i→(∀ t y,Yg x.ws t=some (some y)→i∉y.ids)∧∀ j b,Yg x.wb j=some b→i∉b.ids
  nw:∀ j,p.nw_ j→¬x.nw_ j
theorem Y9 {α:Type} {o:Option α} (h:¬o.isSome=true):o=none:=by cases o <;> first | rfl | (exact absurd rfl h)
theorem Jr {α:Type} {f:Nat→α} {l:List (Nat×α)} {t:Nat} (h:Yg l t=none):Fj f l t=f t:=by simp [Fj,h]
theorem Dj1.loc {p x:Rc} {mvs:List Nat} {sl:Nat→Option AV} {bl:Nat→OB} {U:Nat→Prop} (d:Dj1 p x) (d':Dj1 x p) (hx:x.mv.all (mvs.contains ·)=true) (hx1:∀ j,x.mv=some j→(ob x.B0 j).lv=true) (hp1:∀ j,p.mv=some j→(Yg p.wb j).isSome=true) (ho:Ov mvs p sl bl)
    (h:Loc x (Fj sl p.ws) (Fj bl p.wb) fun j=>U j∧¬p.nw_ j):Loc x sl bl U:=by
  have hno:∀ i,x.mv=some i→i∈mvs∧p.mv≠some i:=fun i hi=>by
    rw [hi] at hx
    refine ⟨by simpa using hx,fun e=>?_⟩
    have:=(d.wb i (hp1 i e)).1
    rw [hx1 i hi] at this; cases this
  refine ⟨fun t y hy=>?_,fun j hj=>?_,fun j h1 h2=>(h.new j h1 h2).1,fun i hi=>⟨fun t y hy hm=>?_,fun j hm=>?_⟩,fun j b hb hn=>?_⟩
  · have h1:=h.l0 t y hy
    rwa [Jr (Y9 fun e=>by rw [d.rd t e] at hy; cases hy)] at h1
  · have h1:=h.b0 j hj
    rwa [Jr (Y9 fun e=>by rw [(d.wb j e).1] at hj; cases hj)] at h1
  · by_cases e:(Yg p.ws t).isSome=true
    · obtain ⟨h1,h2⟩:=hno i hi
      exact absurd (ho.1 t y e hy i hm h1) h2
    · exact (h.mvs i hi).1 t y (by rw [Jr (Y9 e)]; exact hy) hm
  · by_cases e:(Yg p.wb j).isSome=true
    · obtain ⟨h1,h2⟩:=hno i hi
      exact absurd (ho.2 j e i hm h1) h2
    · exact (h.mvs i hi).2 j (by rw [Jr (Y9 e)]; exact hm)
  · have h1:=h.kl j b hb hn
    rwa [Jr (d'.wb j (by rw [hb]; rfl)).2] at h1
theorem Dj1.loc' {p x:Rc} {sl:Nat→Option AV} {bl:Nat→OB} {U:Nat→Prop} (d:Dj1 p x) (d':Dj1 x p) (h:Loc p sl bl U):Loc p (Fj sl x.ws) (Fj bl x.wb) fun j=>U j∧¬x.nw_ j:=by
  refine ⟨fun t y hy=>?_,fun j hj=>?_,fun j h1 h2=>⟨h.new j h1 h2,fun h3=>d.nw j ⟨h1,h2⟩ h3⟩,fun i hi=>⟨fun t y hy hm=>?_,fun j hm=>?_⟩,fun j b hb hn=>?_⟩
  · rw [Jr (Y9 fun e=>by rw [d'.rd t e] at hy; cases hy)]; exact h.l0 t y hy
  · rw [Jr (Y9 fun e=>by rw [(d'.wb j e).1] at hj; cases hj)]; exact h.b0 j hj
  · simp only [Fj] at hy
    split at hy
    · rename_i v hv
      subst hy
      exact absurd hm ((d.mv i hi).1 t y hv)
    · exact (h.mvs i hi).1 t y hy hm
  · simp only [Fj] at hm
    split at hm
    · rename_i b hb; exact absurd hm ((d.mv i hi).2 j b hb)
    · exact (h.mvs i hi).2 j hm
  · rw [Jr (d.wb j (by rw [hb]; rfl)).2]; exact h.kl j b hb hn
theorem Ov.of {mvs:List Nat} {r r':Rc} {sl:Nat→Option AV} {bl:Nat→OB} (d:Dj1 r r') (h:Ov mvs r sl bl):Ov mvs r (Fj sl r'.ws) (Fj bl r'.wb) :=
  ⟨fun t y ht hy=>h.1 t y ht (by rwa [Jr (d.ws t ht)] at hy),fun j hj i hi=>h.2 j hj i (by rwa [Jr (d.wb j hj).2] at hi)⟩
theorem Ov.to {mvs:List Nat} {r r':Rc} {sl:Nat→Option AV} {bl:Nat→OB} (d:Dj1 r r') (h:Ov mvs r (Fj sl r'.ws) (Fj bl r'.wb)):Ov mvs r sl bl :=
  ⟨fun t y ht hy=>h.1 t y ht (by rw [Jr (d.ws t ht)]; exact hy),fun j hj i hi=>h.2 j hj i (by rw [Jr (d.wb j hj).2]; exact hi)⟩
theorem Qf6 {α:Type} {f:Nat→α} {a b:List (Nat×α)} (h:∀ t,(Yg a t).isSome=true→Yg b t=none):Fj (Fj f a) b=Fj (Fj f b) a:=by
  funext t
  simp only [Fj]
  cases ha:Yg a t with
  | none=>cases Yg b t <;> rfl
  | some v=>rw [h t (by rw [ha]; rfl)]
section
variable {R:Nat→Rc} {mvs:List Nat} {N:(Nat→Option AV)→(Nat→OB)→(Nat→Prop)→Prop}
structure Dj (mvs:List Nat) (p x:Rc):Prop where
  a:Dj1 p x
  b:Dj1 x p
  m:x.mv.all (mvs.contains ·)=true
  x1:∀ j,x.mv=some j→(ob x.B0 j).lv=true
  p1:∀ j,p.mv=some j→(Yg p.wb j).isSome=true
theorem DR.swap {p x:Nat} {l:List Nat} {sl:Nat→Option AV} {bl:Nat→OB} {U:Nat→Prop} (d:Dj mvs (R p) (R x)) (h:DR R mvs N (p::x::l) sl bl U):DR R mvs N (x::p::l) sl bl U:=by
  obtain ⟨h1,h2,h3,h4,h5⟩:=h
  refine ⟨d.a.loc d.b d.m d.x1 d.p1 h2 h3,h4.to d.b,d.a.loc' d.b h1,h2.of d.a,?_⟩
  rw [Qf6 (a:=(R x).ws) (b:=(R p).ws) d.b.ws,Qf6 (a:=(R x).wb) (b:=(R p).wb) fun j hj=>(d.b.wb j hj).2]
  have e:(fun j=>(U j∧¬(R x).nw_ j)∧¬(R p).nw_ j)=fun j=>(U j∧¬(R p).nw_ j)∧¬(R x).nw_ j:=by
    funext j; exact propext ⟨fun ⟨⟨a,b⟩,c⟩=>⟨⟨a,c⟩,b⟩,fun ⟨⟨a,b⟩,c⟩=>⟨⟨a,c⟩,b⟩⟩
  rw [e]; exact h5
theorem DR.front {i:Nat}:∀ {l1 l2:List Nat} {sl:Nat→Option AV} {bl:Nat→OB} {U:Nat→Prop},(∀ p∈l1,Dj mvs (R p) (R i))→DR R mvs N (l1++i::l2) sl bl U→DR R mvs N (i::(l1++l2)) sl bl U
  | [],_,_,_,_,_,h=>h
  |
   p::l1,l2,sl,bl,U,hd,h=>by
   obtain ⟨h1,h2,h3⟩:=h
   exact DR.swap (hd p (.head _)) ⟨h1,h2,DR.front (l1:=l1) (fun q hq=>hd q (.tail _ hq)) h3⟩
end
def Sx (ops:List Oper) (i:Nat):List Nat:=match ops[i]? with
  | none=>[]
  | some o=>o.after.toList.filterMap fun e=>if Region.binds .any e then some e.on else none
structure Cl (l:List Oper) (cl:Nat→Nat→Bool):Prop where
  down:∀ i,i<l.length→∀ j∈Sx l i,j<i
  closed:∀ i,i<l.length→∀ p,cl i p=true→p∈Sx l i∨∃ j∈Sx l i,cl j p=true
theorem Cd {l:List Oper} {listed:Array Bool} {i:Nat}:i∈Region.ready .any l.toArray listed↔listed.getD i true=false∧i<l.length∧∀ j∈Sx l i,listed.getD j false=true:=by
  constructor
  · intro h
    obtain ⟨h0,o,ho,hall⟩:=mem_ready.1 h
    have ho':l[i]? = some o:=by simpa using ho
    refine ⟨h0,(List.getElem?_eq_some_iff.1 ho').1,fun j hj=>?_⟩
    simp only [Sx,ho',List.mem_filterMap] at hj
    obtain ⟨e,he,hb⟩:=hj
    split at hb
    · rename_i hbind
      injection hb with hb; subst hb
      exact hall e (by simpa using he) hbind
    · cases hb
  · rintro ⟨h0,hi,hp⟩
    refine mem_ready.2 ⟨h0,l[i],by simp [hi],fun e he hb=>hp _ ?_⟩
    simp only [Sx,List.getElem?_eq_getElem hi,List.mem_filterMap]
    exact ⟨e,by simpa using he,by simp [hb]⟩
theorem Qbn {listed:Array Bool} {j:Nat} (hj:j<listed.size):listed.getD j true=listed.getD j false:=by simp [Array.getD,hj]
theorem Qp2 {l:List Oper} {R:Nat→Rc} {mvs:List Nat} {cl:Nat→Nat→Bool} {N:(Nat→Option AV)→(Nat→OB)→(Nat→Prop)→Prop} (hc:Cl l cl) (hw:∀ i o,l[i]? = some o→Wf P l.toArray n o (R i)) (hd:∀ i,i<l.length→∀ p,p<i→cl i p=false→Dj mvs (R p) (R i))
    (hq:∀ a w sl bl U E M,SF F n sl bl U E M a w→N sl bl U→Q .normal a w) :
    ∀ (fuel:Nat) (listed:Array Bool) (rem:List Nat) (sl:Nat→Option AV) (bl:Nat→OB) (U:Nat→Prop) (E:Vh) (M:Nat→Prop) (a:Act) (w:World),listed.size=l.length→rem.Pairwise (· < ·)→(∀ j,j∈rem↔j<l.length∧listed.getD j true=false)→rem.length≤fuel →
      (∀ i,i<l.length→listed.getD i true=true→∀ j∈Sx l i,listed.getD j true=true) →
      DR R mvs N rem sl bl U→SF F n sl bl U E M a w→wpAny P .any l.toArray Q fuel listed a w:=by
  intro fuel
  have hnil:∀ (listed:Array Bool) (rem:List Nat),listed.size=l.length→rem.Pairwise (· < ·)→(∀ j,j∈rem↔j<l.length∧listed.getD j true=false)→Region.ready .any l.toArray listed=[]→rem=[]:=fun listed rem hs hp hm hr=>by
    cases rem with
    | nil=>rfl
    |
     cons i rem =>
     have hi:=(hm i).1 (.head _)
     have:i∈Region.ready .any l.toArray listed:=Cd.2 ⟨hi.2,hi.1,fun j hj=>by
       have hji:=hc.down i hi.1 j hj
       rw [←Qbn (by omega)]
       cases e:listed.getD j true with
       | true=>rfl
       |
        false =>
        have hjm:=(hm j).2 ⟨by omega,e⟩
        rcases List.mem_cons.1 hjm with rfl | hjm
        · omega
        · have:=(List.pairwise_cons.1 hp).1 j hjm; omega⟩
     rw [hr] at this; cases this
  induction fuel with
  |
   zero =>
   intro listed rem sl bl U E M a w hs hp hm hl hcl h hsf
   have:rem=[]:=List.eq_nil_of_length_eq_zero (by omega)
   subst this
   refine ⟨?_,hq _ _ _ _ _ _ _ hsf h⟩
   apply List.eq_nil_iff_forall_not_mem.2
   intro j hj
   obtain ⟨h0,hjl,_⟩:=Cd.1 hj
   exact absurd ((hm j).2 ⟨hjl,h0⟩) (by simp)
  |
   succ fuel ih =>
   intro listed rem sl bl U E M a w hs hp hm hl hcl h hsf
   refine ⟨fun hr=>?_,fun i hi=>?_⟩
   · have:=hnil listed rem hs hp hm hr
     subst this
     exact hq _ _ _ _ _ _ _ hsf h
   · obtain ⟨h0,hil,hpr⟩:=Cd.1 hi
     obtain ⟨l1,l2,rfl⟩:=List.append_of_mem ((hm i).2 ⟨hil,h0⟩)
     have hpp:=List.pairwise_append.1 hp
     have hlt:∀ p∈l1,p<i:=fun p hp1=>hpp.2.2 p hp1 i (.head _)
     -- what is ahead of it and not done does not matter
     have hdone:∀ j,cl i j=true→listed.getD j true=true:=by
       have key:∀ k,k<l.length→(∀ j∈Sx l k,listed.getD j true=true)→∀ j,cl k j=true→listed.getD j true=true:=by
         intro k
         induction k using Nat.strongRecOn with
         |
          _ k ihk =>
          intro hk hpk j hj
          rcases hc.closed k hk j hj with h1 | ⟨q,hq1,hq2⟩
          · exact hpk j h1
          · have hqk:=hc.down k hk q hq1
            exact ihk q hqk (by omega) (hcl q (by omega) (hpk q hq1)) j hq2
       exact fun j hj=>key i hil (fun q hq=>by have:=hc.down i hil q hq; rw [Qbn (by omega)]; exact hpr q hq) j hj
     have hdj:∀ p∈l1,Dj mvs (R p) (R i):=fun p hp1=>hd i hil p (hlt p hp1) (by
       cases e:cl i p with
       | false=>rfl
       |
        true =>
        have h1:=hdone p e
        have h2:=((hm p).1 (List.mem_append.2 (.inl hp1))).2
        rw [h1] at h2; cases h2)
     obtain ⟨h1,_,h3⟩:=DR.front hdj h
     have ho:l[i]? = some l[i]:=List.getElem?_eq_getElem hil
     unfold wpOp
     have hoa:l.toArray[i]? = some l[i]:=by simpa using ho
     simp only [hoa]
     refine h1.step (hw i _ ho) hsf (Q:=Q) fun a' w' E' M' hsf'=>?_
     refine ih _ (l1++l2) _ _ _ E' M' a' w' (by simp [hs]) ?_ (fun j=>?_) (by simp at hl ⊢; omega) (fun k hk hkl j hj=>?_) h3 hsf'
     · refine List.pairwise_append.2 ⟨hpp.1,(List.pairwise_cons.1 hpp.2.1).2,fun a ha b hb=>hpp.2.2 a ha b (.tail _ hb)⟩
     · by_cases hji:i=j
       · subst hji
         have:i∉l1++l2:=fun hm'=>by
           rcases List.mem_append.1 hm' with h | h
           · exact Nat.lt_irrefl _ (hlt i h)
           · exact Nat.lt_irrefl _ ((List.pairwise_cons.1 hpp.2.1).1 i h)
         simp [this,hs,hil]
       · rw [getD_set_ne true hji,←hm j]
         simp [Ne.symm hji]
     · by_cases hki:i=k
       · subst hki
         have hji:=hc.down i hil j hj
         rw [getD_set_ne true (by omega),Qbn (by omega)]
         exact hpr j hj
       · rw [getD_set_ne true hki] at hkl
         have h2:=hcl k hk hkl j hj
         by_cases hij:i=j
         · subst hij; rw [h0] at h2; cases h2
         · rw [getD_set_ne true hij]; exact h2
end Orr

namespace Orr
open Go
variable {P:Program} {n:Nat}
theorem Qhj:∀ {L:Sg} {t:Nat} {x:AV},lk L t=some x→(t,x)∈L
  |
   (s,v)::L,t,x,h=>by
   simp only [lk] at h
   split at h
   · rename_i e; injection h with h; subst h; rw [Nat.eq_of_beq_eq_true e]; exact .head _
   · exact .tail _ (Qhj h)
theorem He {α:Type}:∀ {L:List (Nat×α)} {t:Nat} {x:α},Yg L t=some x→(t,x)∈L
  |
   (s,v)::L,t,x,h=>by
   simp only [Yg] at h
   split at h
   · rename_i e; injection h with h; subst h; rw [Nat.eq_of_beq_eq_true e]; exact .head _
   · exact .tail _ (He h)
def tsl:List Operand→List Nat
  | []=>[]
  | .tmp t::r=>t::tsl r
  | _::r=>tsl r
def gsl (arr:Array Oper) (o:Oper):List Nat:=match o.guard with
  | none=>tsl o.op.operands.toList
  |
   some (j,_)=>match (arr[j]?).bind (·.dst) with
   | some t=>t::tsl o.op.operands.toList
   | none=>tsl o.op.operands.toList
def rsl (L:Sg):List Nat→Option Sg
  | []=>some []
  |
   t::r=>match rsl L r with
   |
    some q=>match lk L t with
    | some v=>some ((t,v)::q)
    | none=>some q
   | none=>none
theorem Qid {L:Sg}:∀ {ts:List Nat} {L0:Sg},rsl L ts=some L0→∀ t x,lk L0 t=some x→lk L t=some x
  | [],L0,h,t,x,hx=>by simp only [rsl,Option.some.injEq] at h; subst h; cases hx
  |
   s::r,L0,h,t,x,hx=>by
   simp only [rsl] at h
   split at h
   · rename_i q hq
     split at h
     · rename_i v hv
       injection h with h; subst h
       simp only [lk] at hx
       split at hx
       · rename_i e; injection hx with hx; subst hx; rw [Nat.eq_of_beq_eq_true e]; exact hv
       · exact Qid hq t x hx
     · injection h with h; subst h; exact Qid hq t x hx
   · cases h
def Q2e:Sg→List Nat
  | []=>[]
  | (_,v)::l=>v.ids++Q2e l
def fxF:OB→Option OB
  | .row _ T sz ls=>some (.row true T sz ls)
  | b=>some b
theorem Qzt {b c:OB} (h:fxF b=some c):Gs b=Gs c∧c.mv=false:=by
  cases b <;> simp only [fxF,Option.some.injEq] at h <;> subst h <;> exact ⟨rfl,rfl⟩
def isI (mv:Option Nat) (k:Nat):Bool:=match mv with
  | some i=>Nat.beq i k
  | none=>false
theorem Qq7 {mv:Option Nat} {k:Nat} (h:isI mv k=true):mv=some k:=by
  cases mv with
  | none=>cases h
  | some i=>rw [Nat.eq_of_beq_eq_true h]
def Qri (
 ids:List Nat) (mv:Option Nat):Nat→List OB→Option (List OB)
  | _,[]=>some []
  |
   k,b::l=>match Qri ids mv (k+1) l with
   |
    some r=>match J3 k ids with
    |
     true=>match isI mv k with
     | true=>some (b::r)
     |
      false=>match fxF b with
      | some c=>some (c::r)
      | none=>none
    | false=>some (.gone::r)
   | none=>none
theorem Qeo {ids:List Nat} {mv:Option Nat}:∀ {l:List OB} {k:Nat} {r:List OB},Qri ids mv k l=some r→r.length=l.length∧∀ (j:Nat) (b:OB),l[j]? = some b→∃ c,r[j]? = some c∧(c.lv=true→Gs b=Gs c∧(c.mv=true→b.mv=true∧mv=some (k+j)))
  | [],k,r,h=>by simp only [Qri,Option.some.injEq] at h; subst h; exact ⟨rfl,fun j b hb=>by simp at hb⟩
  |
   b::l,k,r,h=>by
   simp only [Qri] at h
   split at h
   · rename_i q hq
     obtain ⟨h1,h2⟩:=Qeo hq
     have key:∀ c,(c.lv=true→Gs b=Gs c∧(c.mv=true→b.mv=true∧mv=some k))→r=c::q→r.length=(b::l).length∧∀ (j:Nat) (b':OB),(b::l)[j]? = some b'→∃ c,r[j]? = some c∧(c.lv=true→Gs b'=Gs c∧(c.mv=true→b'.mv=true∧mv=some (k+j))):=fun c hc e=>by
       subst e
       refine ⟨by simp [h1],fun j b' hb=>?_⟩
       cases j with
       | zero=>simp at hb; subst hb; exact ⟨c,rfl,hc⟩
       |
        succ j =>
        obtain ⟨c',h3,h4⟩:=h2 j b' (by simpa using hb)
        exact ⟨c',by simpa using h3,by rw [show k+(j+1)=k+1+j from by omega]; exact h4⟩
     split at h
     · split at h
       · rename_i e
         injection h with h
         exact key b (fun _=>⟨rfl,fun h=>⟨h,Qq7 e⟩⟩) h.symm
       · split at h
         · rename_i c hc
           injection h with h
           obtain ⟨e1,e2⟩:=Qzt hc
           exact key c (fun _=>⟨e1,fun h=>by rw [e2] at h; cases h⟩) h.symm
         · cases h
     · injection h with h; exact key .gone (fun h=>by cases h) h.symm
   · cases h
def Q4w (L0:Sg):Op→Option Nat
  |
   .call { callee:=.builtin .append,args:=xs,argTypes:=_ }=>match xs.toList with
   |
    x::_=>match evT L0 x with
    | some (.one (.orow i _ _))=>some i
    | _=>none
   | []=>none
  | _=>none
def Q3q (L0:Sg) (mv:Option Nat):Op→List Nat
  |
   .store _ x _=>match evT L0 x with
   | some (.one (.ow i _))=>[i]
   | some (.one (.oel i _ _ _))=>[i]
   | _=>[]
  |
   .call { callee:=.builtin .copy,args:=xs,argTypes:=_ }=>match xs.toList with
   |
    x::_=>match evT L0 x with
    | some (.one (.orow i _ _))=>[i]
    | _=>[]
   | []=>[]
  |
   _=>match mv with
   | some i=>[i]
   | none=>[]
def Qkq (mv:Option Nat):Sg→Option (List Nat)
  | []=>some []
  |
   (t,v)::l=>match Qkq mv l with
   |
    some r=>match mv with
    |
     some i=>match J3 i v.ids with
     | true=>some (t::r)
     | false=>some r
    | none=>some r
   | none=>none
theorem Bu {mv:Option Nat} {i:Nat} (hi:mv=some i):∀ {L:Sg} {ks:List Nat},Qkq mv L=some ks→∀ t v,(t,v)∈L→i∈v.ids→t∈ks
  | [],_,_,t,v,h,_=>by cases h
  |
   (s,u)::L,ks,h,t,v,hm,hv=>by
   subst hi
   simp only [Qkq] at h
   split at h
   · rename_i r hr
     split at h
     · injection h with h; subst h
       rcases List.mem_cons.1 hm with e | hm
       · injection e with e1 e2; subst e1; exact .head _
       · exact .tail _ (Bu rfl hr t v hm hv)
     · rename_i hn
       injection h with h; subst h
       rcases List.mem_cons.1 hm with e | hm
       · injection e with e1 e2; subst e2; rw [Xp.2 hv] at hn; cases hn
       · exact Bu rfl hr t v hm hv
   · cases h
def rmv (ks:List Nat):Sg→Option Sg
  | []=>some []
  |
   (t,v)::l=>match rmv ks l with
   |
    some r=>match J3 t ks with
    | true=>some r
    | false=>some ((t,v)::r)
   | none=>none
theorem Qsq {ks:List Nat}:∀ {L L':Sg},rmv ks L=some L'→∀ t,lk L' t=if J3 t ks=true then none else lk L t
  | [],L',h,t=>by simp only [rmv,Option.some.injEq] at h; subst h; simp [lk]
  |
   (s,v)::L,L',h,t=>by
   simp only [rmv] at h
   split at h
   · rename_i r hr
     have ih:=Qsq hr t
     split at h
     · rename_i hm
       injection h with h; subst h
       rw [ih]
       simp only [lk]
       split
       · rfl
       · rename_i hn
         split
         · rename_i e; rw [Nat.eq_of_beq_eq_true e] at hn; exact absurd hm hn
         · rfl
     · rename_i hm
       injection h with h; subst h
       simp only [lk]
       split
       · rename_i e; rw [Nat.eq_of_beq_eq_true e,hm]; rfl
       · exact ih
   · cases h
def Da:List Nat→List (Nat×Option AV)
  | []=>[]
  | t::l=>(t,none)::Da l
theorem W6 {t:Nat}:∀ {ks:List Nat},Yg (Da ks) t=if J3 t ks=true then some none else none
  | []=>by simp [Da,Yg,J3]
  |
   s::ks=>by
   by_cases e:Nat.beq t s=true
   · simp only [Da,Yg,J3,e,if_true]
   · have e:Nat.beq t s=false:=by cases h:Nat.beq t s <;> first | rfl | exact absurd h e
     simp only [Da,Yg,J3,e]
     exact W6
def dWs (dst:Option Nat) (L1 Lg:Sg) (ks:List Nat):Option (List (Nat×Option AV)×Sg):=match rmv ks Lg with
  |
   some L'=>match dst with
   |
    some d=>match lk L1 d with
    | some u=>some ((d,some u)::Da ks,(d,u)::L')
    | none=>none
   | none=>some (Da ks,L')
  | none=>none
theorem Qzk {dst:Option Nat} {L1 Lg L':Sg} {ks:List Nat} {ws:List (Nat×Option AV)} (h:dWs dst L1 Lg ks=some (ws,L')):lk L'=Fj (lk Lg) ws∧(∀ t x,Yg ws t=some (some x)→lk L1 t=some x)∧(∀ t,dst=some t→(Yg ws t).isSome=true)∧∀ t∈ks,(Yg ws t).isSome=true:=by
  unfold dWs at h
  split at h
  · rename_i L2 hr
    have h2:=Qsq hr
    have h3:lk L2=Fj (lk Lg) (Da ks):=by
      funext t
      rw [h2 t]
      simp only [Fj,W6]
      split <;> rfl
    split at h
    · rename_i d
      split at h
      · rename_i u hu
        injection h with h; injection h with e1 e2; subst e1; subst e2
        refine ⟨?_,fun t x hx=>?_,fun t ht=>?_,fun t ht=>?_⟩
        · funext t
          simp only [lk,Fj,Yg]
          cases e:Nat.beq t d
          · rw [h3]; rfl
          · rfl
        · simp only [Yg] at hx
          split at hx
          · rename_i e; injection hx with hx; injection hx with hx; subst hx; rw [Nat.eq_of_beq_eq_true e]; exact hu
          · rw [W6] at hx
            split at hx <;> cases hx
        · injection ht with ht; subst ht; simp [Yg]
        · simp only [Yg]
          split
          · rfl
          · rw [W6,if_pos (Xp.2 ht)]; rfl
      · cases h
    · injection h with h; injection h with e1 e2; subst e1; subst e2
      refine ⟨h3,fun t x hx=>?_,fun t ht=>by (cases ht),fun t ht=>?_⟩
      · rw [W6] at hx
        split at hx <;> cases hx
      · rw [W6,if_pos (Xp.2 ht)]; rfl
  · cases h
def dWb (wr:List Nat) (mv:Option Nat):Nat→List OB→List OB→List OB→Option (List (Nat×OB)×List OB×V4)
  | _,[],_,[]=>some ([],[],[])
  |
   k,[],r,b1::l1=>match dWb wr mv (k+1) [] r l1 with
   | some (wb,B',q)=>some ((k,b1)::wb,b1::B',q)
   | none=>none
  |
   k,b::l,b0::l0,b1::l1=>match dWb wr mv (k+1) l l0 l1 with
   |
    some (wb,B',q)=>match b0.lv with
    |
     true=>match J3 k wr with
     |
      true=>match !(flO b b1).mv || b.mv with
      | true=>some ((k,flO b b1)::wb,flO b b1::B',q)
      | false=>none
     |
      false=>match mv with
      |
       some i=>match J3 i b.ids with
       | true=>none
       | false=>some (wb,b::B',(.o b0,.o b1)::q)
      | none=>some (wb,b::B',(.o b0,.o b1)::q)
    |
     false=>match mv with
     |
      some i=>match J3 i b.ids with
      |
       true=>match Ru (Kx i) b with
       | some b'=>some ((k,b')::wb,b'::B',q)
       | none=>none
      | false=>some (wb,b::B',q)
     | none=>some (wb,b::B',q)
   | none=>none
  | _,_,_,_=>none
def BOk (mv:Option Nat) (nb n1 j:Nat) (wbj:Option OB) (b b0 b1 b':OB):Prop :=
  b'=wbj.getD b ∧
  (∀ x,wbj=some x→(b0.lv=true→Gs x=Gs b1∧(x.mv=true→b.mv=true))∧(nb≤j→j<n1∧x=b1)∧(b0.lv=false→j<nb→∃ i,mv=some i∧Ru (Kx i) b=some x)) ∧
  (wbj=none→(b0.lv=true→Gs b1=Gs b0)∧(nb≤j→n1≤j)∧∀ i,mv=some i→j<nb→i∉b.ids)
theorem Ro {α:Type} {l:List (Nat×α)} {k j:Nat} {x:α} (h:j≠k):Yg ((k,x)::l) j=Yg l j:=by
  have e:Nat.beq j k=false:=by cases e:Nat.beq j k <;> first | rfl | exact absurd (Nat.eq_of_beq_eq_true e) h
  simp only [Yg,e]
theorem Mn {α:Type} {l:List (Nat×α)} {k:Nat} {x:α}:Yg ((k,x)::l) k=some x:=by simp [Yg]
theorem Qg1 {wr:List Nat} {mv:Option Nat}:∀ {B B0 B1 B':List OB} {k:Nat} {wb:List (Nat×OB)} {q:V4},dWb wr mv k B B0 B1=some (wb,B',q)→EqOk q→B0.length=B.length→B'.length=B1.length∧B.length≤B1.length∧(∀ j,j<k→Yg wb j=none) ∧
    ∀ j,BOk mv B.length B1.length j (Yg wb (k+j)) (ob B j) (ob B0 j) (ob B1 j) (ob B' j)
  |
   [],[],[],B',k,wb,q,h,_,_=>by
   simp only [dWb,Option.some.injEq,Prod.mk.injEq] at h
   obtain ⟨rfl,rfl,rfl⟩:=h
   exact ⟨rfl,Nat.le_refl _,fun _ _=>rfl,fun j=>⟨rfl,fun x hx=>(by cases hx),fun _=>⟨fun _=>rfl,fun h=>h,fun i _ h=>(by simp at h)⟩⟩⟩
  |
   [],[],b1::l1,B',k,wb,q,h,hq,hl=>by
   simp only [dWb] at h
   split at h
   · rename_i wb2 B2 q2 h2
     simp only [Option.some.injEq,Prod.mk.injEq] at h
     obtain ⟨rfl,rfl,rfl⟩:=h
     obtain ⟨i1,i2,i3,i4⟩:=Qg1 h2 hq rfl
     refine ⟨by simp [i1],by simp,fun j hj=>by rw [Ro (by omega)]; exact i3 j (by omega),fun j=>?_⟩
     cases j with
     | zero=>exact ⟨by simp [Mn,ob],fun x hx=>(by
         simp only [Nat.add_zero,Mn,Option.some.injEq] at hx
         subst hx
         exact ⟨fun h=>(by simp [ob,OB.lv] at h),fun _=>⟨by simp,by simp [ob]⟩,fun _ h=>(by simp at h)⟩),fun hx=>(by simp [Mn] at hx)⟩
     |
      succ j =>
      rw [Ro (by omega),show k+(j+1)=k+1+j from by omega]
      obtain ⟨j1,j2,j3⟩:=i4 j
      refine ⟨by simpa [ob] using j1,fun x hx=>?_,fun hx=>?_⟩
      · obtain ⟨a1,a2,a3⟩:=j2 x hx
        exact ⟨fun h=>(by simp [ob,OB.lv] at h),fun h=>by simpa [ob] using a2 (Nat.zero_le _),fun _ h=>(by simp at h)⟩
      · obtain ⟨a1,a2,a3⟩:=j3 hx
        exact ⟨fun h=>(by simp [ob,OB.lv] at h),fun h=>by simpa using a2 (Nat.zero_le _),fun i _ h=>(by simp at h)⟩
   · cases h
  |
   b::l,b0::l0,b1::l1,B',k,wb,q,h,hq,hl=>by
   simp only [dWb] at h
   split at h
   · rename_i wb2 B2 q2 h2
     have key:∀ (x:Option OB) (b':OB),(B'=b'::B2)→(wb=match x with | some y=>(k,y)::wb2 | none=>wb2)→EqOk q2→BOk mv (l.length+1) (l1.length+1) 0 x b b0 b1 b'→B'.length=(b1::l1).length∧(b::l).length≤(b1::l1).length∧(∀ j,j<k→Yg wb j=none)∧∀ j,BOk mv (b::l).length (b1::l1).length j (Yg wb (k+j)) (ob (b::l) j) (ob (b0::l0) j) (ob (b1::l1) j) (ob B' j):=fun x b' e1 e2 hq2 h0=>by
       subst e1 e2
       obtain ⟨i1,i2,i3,i4⟩:=Qg1 h2 hq2 (by simpa using hl)
       have hx:∀ j,Yg (match x with | some y=>(k,y)::wb2 | none=>wb2) j=if j=k then x else Yg wb2 j:=fun j=>by
         cases x with
         |
          none =>
          show Yg wb2 j=_
          by_cases e:j=k
          · rw [if_pos e,e]; exact i3 k (by omega)
          · rw [if_neg e]
         |
          some y =>
          show Yg ((k,y)::wb2) j=_
          by_cases e:j=k
          · rw [if_pos e,e]; exact Mn
          · rw [if_neg e]; exact Ro e
       refine ⟨by simp [i1],by simpa using i2,fun j hj=>by rw [hx,if_neg (by omega)]; exact i3 j (by omega),fun j=>?_⟩
       cases j with
       | zero=>rw [hx,Nat.add_zero,if_pos rfl]; simpa [ob] using h0
       |
        succ j =>
        rw [hx,if_neg (by omega),show k+(j+1)=k+1+j from by omega]
        obtain ⟨j1,j2,j3⟩:=i4 j
        refine ⟨by simpa [ob] using j1,fun x hx=>?_,fun hx=>?_⟩
        · obtain ⟨a1,a2,a3⟩:=j2 x hx
          exact ⟨fun h=>by simpa [ob] using a1 (by simpa [ob] using h),fun h=>by simpa [ob] using a2 (by simpa using h),fun h h'=>by simpa [ob] using a3 (by simpa [ob] using h) (by simpa using h')⟩
        · obtain ⟨a1,a2,a3⟩:=j3 hx
          exact ⟨fun h=>by simpa [ob] using a1 (by simpa [ob] using h),fun h=>by simpa using a2 (by simpa using h),fun i hi h=>by simpa [ob] using a3 i hi (by simpa using h)⟩
     have big:∀ {p:Prop},l.length+1≤0→p:=fun h=>by omega
     split at h
     · rename_i hlv
       split at h
       · split at h
         · rename_i hm
           simp only [Option.some.injEq,Prod.mk.injEq] at h
           obtain ⟨rfl,rfl,rfl⟩:=h
           refine key (some (flO b b1)) _ rfl rfl hq ⟨rfl,fun x hx=>?_,fun hx=>by cases hx⟩
           injection hx with hx; subst hx
           refine ⟨fun _=>⟨Qg7 _ _,fun h=>?_⟩,fun h=>big h,fun h=>(by rw [hlv] at h; cases h)⟩
           simpa [h] using hm
         · cases h
       · split at h
         · rename_i i
           split at h
           · cases h
           · rename_i hn
             simp only [Option.some.injEq,Prod.mk.injEq] at h
             obtain ⟨rfl,rfl,rfl⟩:=h
             have e:=hq.hd; injection e with e
             refine key none _ rfl rfl hq.tl ⟨rfl,fun x hx=>(by cases hx),fun _=>⟨fun _=>by rw [e],fun h=>big h,fun i' hi' _ hm=>?_⟩⟩
             injection hi' with hi'; subst hi'
             rw [Xp.2 hm] at hn; cases hn
         · simp only [Option.some.injEq,Prod.mk.injEq] at h
           obtain ⟨rfl,rfl,rfl⟩:=h
           have e:=hq.hd; injection e with e
           exact key none _ rfl rfl hq.tl ⟨rfl,fun x hx=>(by cases hx),fun _=>⟨fun _=>by rw [e],fun h=>big h,fun i' hi'=>by cases hi'⟩⟩
     · rename_i hlv
       have hlv':¬b0.lv=true:=by rw [hlv]; simp
       split at h
       · rename_i i
         split at h
         · split at h
           · rename_i b2 hb2
             simp only [Option.some.injEq,Prod.mk.injEq] at h
             obtain ⟨rfl,rfl,rfl⟩:=h
             refine key (some b2) _ rfl rfl hq ⟨rfl,fun x hx=>?_,fun hx=>by cases hx⟩
             injection hx with hx; subst hx
             exact ⟨fun h=>absurd h hlv',fun h=>big h,fun _ _=>⟨i,rfl,hb2⟩⟩
           · cases h
         · rename_i hn
           simp only [Option.some.injEq,Prod.mk.injEq] at h
           obtain ⟨rfl,rfl,rfl⟩:=h
           refine key none _ rfl rfl hq ⟨rfl,fun x hx=>(by cases hx),fun _=>⟨fun h=>absurd h hlv',fun h=>big h,fun i' hi' _ hm=>?_⟩⟩
           injection hi' with hi'; subst hi'
           rw [Xp.2 hm] at hn; cases hn
       · simp only [Option.some.injEq,Prod.mk.injEq] at h
         obtain ⟨rfl,rfl,rfl⟩:=h
         exact key none _ rfl rfl hq ⟨rfl,fun x hx=>(by cases hx),fun _=>⟨fun h=>absurd h hlv',fun h=>big h,fun i' hi'=>by cases hi'⟩⟩
   · cases h
  | [],_::_,_,_,_,_,_,_,_,hl=>by simp at hl
  | _::_,[],_,_,_,_,_,_,_,hl=>by simp at hl
  | _::_,_::_,[],_,_,_,_,h,_,_=>by simp [dWb] at h
end Orr

namespace Orr
open Go
variable {P:Program} {n:Nat}
def Ri:Op→Option (Operand×List Operand)
  | .call { callee:=.value x,args:=xs,argTypes:=_ }=>some (x,xs.toList)
  | _=>none
theorem Ox {op:Op} {x:Operand} {xs:List Operand} (h:Ri op=some (x,xs)):∃ as0 ats,op=.call { callee:=.value x,args:=as0,argTypes:=ats }∧xs=Array.toList as0:=by
  unfold Ri at h
  split at h
  · injection h with h; injection h with e1 e2; subst e1; subst e2; exact ⟨_,_,rfl,rfl⟩
  · cases h
def Hu:V4→V4→V4
  | [],l=>l
  | x::r,l=>x::Hu r l
def Zw:List Prop→List Prop→List Prop
  | [],l=>l
  | x::r,l=>x::Zw r l
theorem Yh:∀ {a b:V4},Hu a b=a++b
  | [],_=>rfl
  | _::_,_=>by simp [Hu,Yh]
theorem Tk:∀ {a b:List Prop},Qa (Zw a b)↔Qa a∧Qa b
  | [],_=>by simp [Zw,Qa]
  | x::r,b=>by simp only [Zw]; rw [Kd,Kd,Tk,and_assoc]
def st1 (T:TT P) (n:Nat) (arr:Array Oper) (L:Sg) (B:List OB) (h:List (H P)) (o:Oper):St P:=match Ri o.op with
  |
   some (x,xs)=>match gdE arr L o with
   |
    some true=>match o.dst with
    |
     some d=>match Nat.blt d n with
     |
      true=>match Qjs L x xs with
      | some (g,ys)=>Qdj L B h d g ys
      | none=>none
     | false=>none
    | none=>none
   |
    some false=>match Qrw n L o.dst with
    | some L'=>some (L',B,h,[],[])
    | none=>none
   | none=>none
  | none=>stE T n arr L B h o
theorem Q0x {T:TT P} {arr:Array Oper} {o:Oper} {N:Kp} {L L':Sg} {B B':List OB} {h h':List (H P)} {q:V4} {ob:List Prop} (hs:st1 T n arr L B h o=some (L',B',h',q,ob)) (hq:EqOk q) (hob:Qa ob) (k:N L' B'):W1 P arr n o N L B:=by
  unfold st1 at hs
  split at hs
  · rename_i x xs hcall
    obtain ⟨as0,ats,ho,rfl⟩:=Ox hcall
    split at hs
    · rename_i hg
      split at hs
      · rename_i d hd
        split at hs
        · rename_i hdn
          split at hs
          · rename_i g ys ha
            exact W1.on hg (Qjt (o:=ung o) ho rfl hd hdn ha hs hq k)
          · cases hs
        · cases hs
      · cases hs
    · rename_i hg
      split at hs
      · rename_i L2 hL
        obtain ⟨rfl,rfl,rfl,rfl,rfl⟩:=Vz hs
        exact W1.off hg hL k
      · cases hs
    · cases hs
  · exact Q0y hs hq hob k
def Qwj:Nat→Option Nat→Sg→List OB→List (H P)→V4→Option (Sg×List OB×List (H P)×V4)
  | 0,_,L,B,h,q=>some (L,B,h,q)
  |
   f+1,d,L,B,h,q=>match d with
   | none=>some (L,B,h,q)
   |
    some t=>match Qwi t L B h with
    | some (L',B',h',q')=>Qwj f d L' B' h' (Hu q' q)
    | none=>some (L,B,h,q)
theorem Qlo:∀ {f:Nat} {d:Option Nat} {L L':Sg} {B B':List OB} {h h':List (H P)} {q q':V4},Qwj f d L B h q=some (L',B',h',q')→EqOk q'→EqOk q∧Sub n L B L' B'
  | 0,_,_,_,_,_,_,_,_,_,hp,hq=>by obtain ⟨rfl,rfl,rfl,rfl⟩:=Q8 hp; exact ⟨hq,Sub.refl⟩
  |
   f+1,d,_,_,_,_,_,_,_,_,hp,hq=>by
   simp only [Qwj] at hp
   split at hp
   · obtain ⟨rfl,rfl,rfl,rfl⟩:=Q8 hp; exact ⟨hq,Sub.refl⟩
   · split at hp
     · rename_i hpe
       obtain ⟨h1,h2⟩:=Qlo hp hq
       rw [Yh] at h1
       obtain ⟨h3,h4⟩:=h1.app
       exact ⟨h4,(Qse hpe h3).trans h2⟩
     · obtain ⟨rfl,rfl,rfl,rfl⟩:=Q8 hp; exact ⟨hq,Sub.refl⟩
theorem W1.post {arr:Array Oper} {o:Oper} {L L1 L2:Sg} {B B1 B2:List OB} (h:W1 P arr n o (fun L B=>L=L1∧B=B1) L B) (hs:Sub n L1 B1 L2 B2):W1 P arr n o (fun L B=>L=L2∧B=B2) L B:=fun F E M a w K Q hsa hK =>
  h F E M a w K Q hsa fun a' w' L' B' E' M' h1 ⟨e1,e2⟩=>by
    subst e1; subst e2
    obtain ⟨E2,M2,h2⟩:=hs F E' M' a' w' h1
    exact hK _ _ _ _ _ _ h2 ⟨rfl,rfl⟩
def isS {α:Type}:Option α→Bool
  | some _=>true
  | none=>false
def mvI (mv:Option Nat) (B0:List OB) (wb:List (Nat×OB)):Bool:=match mv with
  | none=>true
  |
   some i=>match Hl B0 i with
   | some b=>b.lv && isS (Yg wb i)
   | none=>false
def wr2 (L0:Sg) (mv:Option Nat) (op:Op) (h:List (H P)):List Nat:=match Ri op with
  |
   some _=>match h with
   | .c is _::_=>is
   | _=>[]
  |
   none=>match mv with
   | some i=>i::Q3q L0 mv op
   | none=>Q3q L0 mv op
def rdJ (B:List OB):List Nat→List Nat
  | []=>[]
  |
   i::l=>match Hl B i with
   | some b=>i::(b.ids++rdJ B l)
   | none=>i::rdJ B l
def Qro (B:List OB):List Nat→Option Nat
  | []=>none
  |
   i::l=>match Hl B i with
   | some (.row false _ _ _)=>some i
   | _=>Qro B l
def mvJ (B:List OB) (h:List (H P)) (L0:Sg) (op:Op):Option Nat:=match Q4w L0 op with
  | some i=>some i
  |
   none=>match Ri op with
   |
    some _=>match h with
    | .c is _::_=>Qro B is
    | _=>none
   |
    none=>match op with
    |
     .store _ x _=>match evT L0 x with
     |
      some (.one (.ow i _))=>match Hl B i with
      | some b=>Qro B b.ids
      | none=>none
     | _=>none
    | _=>none
def rdI (L0:Sg):Op→List Nat
  | .move _=>[]
  | .assign _=>[]
  | .nilCheck .. => []
  | .fieldAddr .. => []
  | .makeFunc .. => []
  | _=>Q2e L0
def rdK (B:List OB) (L0:Sg) (op:Op):List Nat:=match Ri op with
  | some _=>rdJ B (rdI L0 op)
  |
   none=>match op with
   | .store .. => rdJ B (rdI L0 op)
   | _=>rdI L0 op
def roH (op:Op) (h:List (H P)):Option (List (H P)):=match Ri op with
  |
   some _=>match h with
   | .lo::r=>some r
   | _=>none
  | none=>none
def Q2u (o:Option (List (H P))) (h:List (H P)):List (H P):=match o with
  | some r=>r
  | none=>h
def wr3 (L0:Sg) (mv:Option Nat) (op:Op) (h:List (H P)):List Nat:=match roH op h with
  | some _=>[]
  | none=>wr2 L0 mv op h
def ds (
 T:TT P) (
  n:Nat) (arr:Array Oper) (Lg:Sg) (Bg:List OB) (h:List (H P)) (o:Oper) (mv:Option Nat) (L0:Sg):Option (Rc×Sg×List OB×List (H P)×V4×List Prop):=match Qri (rdK Bg L0 o.op) mv 0 Bg,lenB Bg with
  |
   some B0,some nb=>match st1 T n arr L0 B0 (Q2u (roH o.op h) h) o with
   |
    some (L1,B1,h1,q1,ob1)=>match Qwj 3 o.dst L1 B1 h1 q1 with
    |
     some (L2,B2,h2,q2)=>match Qkq mv Lg with
     |
      some ks=>match dWs o.dst L2 Lg ks with
      |
       some (ws,Lg')=>match dWb (wr3 L0 mv o.op h) mv 0 Bg B0 B2 with
       |
        some (wb,Bg',q3)=>match (Wn (fun p=>Wn (Nat.blt · nb) p.2.ids) L0 && Wn (fun b=>Wn (Nat.blt · nb) b.ids) B0 && mvI mv B0 wb) with
        | true=>some (⟨L0,B0,L2,B2,ws,wb,mv⟩,Lg',Bg',h2,Hu q3 q2,ob1)
        | false=>none
       | none=>none
      | none=>none
     | none=>none
    | none=>none
   | none=>none
  | _,_=>none
def Qrj {B:List OB} {j:Nat} (h:¬ob B j=.gone):∃ b,B[j]? = some b∧ob B j=b:=by
  unfold ob at h ⊢
  cases hb:B[j]? with
  | none=>rw [hb] at h; exact absurd rfl h
  | some b=>exact ⟨b,rfl,rfl⟩
theorem Q2a {T:TT P} {arr:Array Oper} {o:Oper} {Lg Lg' L0:Sg} {Bg Bg':List OB} {h h':List (H P)} {q:V4} {obs:List Prop} {mv:Option Nat} {r:Rc} (hL:rsl Lg (gsl arr o)=some L0) (hd:ds T n arr Lg Bg h o mv L0=some (r,Lg',Bg',h',q,obs)) (hq:EqOk q) (hob:Qa obs) :
    Wf P arr n o r∧Loc r (lk Lg) (ob Bg) (nw Bg)∧lk Lg'=Fj (lk Lg) r.ws∧ob Bg'=Fj (ob Bg) r.wb∧nw Bg'=fun j=>nw Bg j∧¬r.nw_ j:=by
  unfold ds at hd
  split at hd
  · rename_i B0 nb hm hnb
    split at hd
    · rename_i L1 B1 h1 q1 ob1 hs
      split at hd
      · rename_i L2 B2 h2 q2 hp
        split at hd
        · rename_i ks hk
          split at hd
          · rename_i ws Lg2 hws
            split at hd
            · rename_i wb Bg2 q3 hwb
              split at hd
              · rename_i hc
                injection hd with hd; injection hd with e1 hd; injection hd with e2 hd; injection hd with e3 hd; injection hd with e4 hd; injection hd with e5 e6
                subst e1; subst e2; subst e3; subst e5; subst e6
                rw [Yh] at hq
                obtain ⟨hq3,hq2⟩:=hq.app
                obtain ⟨hq1,hsub⟩:=Qlo (n:=n) hp hq2
                obtain rfl:=Yw hnb
                obtain ⟨m1,m2⟩:=Qeo hm
                obtain ⟨b1,b2,b3,b4⟩:=Qg1 hwb hq3 m1
                obtain ⟨w1,w2,w3,w4⟩:=Qzk hws
                simp only [Bool.and_eq_true] at hc
                obtain ⟨⟨c1,c2⟩,c3⟩:=hc
                have c1:=X2 c1
                have c2:=X2 c2
                have hmask:∀ j,(ob B0 j).lv=true→j<Bg.length∧Gs (ob Bg j)=Gs (ob B0 j)∧((ob B0 j).mv=true→(ob Bg j).mv=true∧mv=some j):=fun j hj=>by
                  have hjl:j<Bg.length:=by
                    apply Classical.byContradiction
                    intro hn
                    rw [Z5 (by omega)] at hj; cases hj
                  obtain ⟨c,e1,e2⟩:=m2 j _ (List.getElem?_eq_getElem hjl)
                  rw [X6 e1] at hj ⊢
                  rw [X6 (List.getElem?_eq_getElem hjl)]
                  have:=e2 hj
                  rw [Nat.zero_add] at this
                  exact ⟨hjl,this⟩
                have b4':∀ j,BOk mv Bg.length B2.length j (Yg wb j) (ob Bg j) (ob B0 j) (ob B2 j) (ob Bg2 j):=fun j=>by have:=b4 j; rwa [Nat.zero_add] at this
                refine ⟨⟨W1.post (Q0x hs hq1 hob ⟨rfl,rfl⟩) hsub,fun t x hx i hi=>?_,fun j i hi=>?_,fun j hj=>?_,fun j hj=>?_,w2,w3,fun j b hb ha=>?_,fun j ha hn=>?_⟩,⟨Qid hL,fun j hj=>?_,fun j h1 h2=>?_,fun i hi=>⟨fun t x hx hm=>?_,fun j hm=>?_⟩,fun j b hb ha=>?_⟩,w1,?_,?_⟩
                · have:=X2 (c1 _ (Qhj hx)) i hi
                  rw [Nat.blt_eq] at this
                  show i<B0.length
                  omega
                · have hne:¬ob B0 j=.gone:=fun e=>by rw [show ob B0 j=.gone from e] at hi; simp [OB.ids] at hi
                  obtain ⟨b,e1,e2⟩:=Qrj hne
                  have hi:i∈(ob B0 j).ids:=hi
                  rw [e2] at hi
                  have:=X2 (c2 b (List.mem_of_getElem? e1)) i hi
                  rw [Nat.blt_eq] at this
                  show i<B0.length
                  omega
                · have hlv:(ob B0 j).lv=true:=by
                    have hj:(ob B0 j).mv=true:=hj
                    cases hb:ob B0 j <;> rw [hb] at hj <;> first | rfl | cases hj
                  exact ((hmask j hlv).2.2 hj).2
                · have hj:mv=some j:=hj
                  rw [hj] at c3
                  simp only [mvI] at c3
                  split at c3
                  · rename_i b hb
                    simp only [Bool.and_eq_true] at c3
                    refine ⟨by rw [show ob B0 j=b from X6 (J6 ▸ hb)]; exact c3.1,?_⟩
                    have:=c3.2
                    show (Yg wb j).isSome=true
                    cases e:Yg wb j <;> rw [e] at this <;> first | rfl | cases this
                  · cases c3
                · obtain ⟨_,h3,_⟩:=b4' j
                  obtain ⟨a1,a2,_⟩:=h3 b hb
                  rcases ha with ha | ha
                  · exact (a1 ha).1
                  · obtain ⟨_,e⟩:=a2 (by have:B0.length≤j:=ha.1; omega); exact congrArg Gs e
                · obtain ⟨_,_,h3⟩:=b4' j
                  obtain ⟨a1,a2,_⟩:=h3 hn
                  rcases ha with ha | ha
                  · exact ⟨a1 ha,ha⟩
                  · have:=a2 (by have:B0.length≤j:=ha.1; omega)
                    have h5:j<B2.length:=ha.2
                    omega
                · obtain ⟨e1,e2,e3⟩:=hmask j hj
                  exact ⟨e2,fun h=>(e3 h).1,fun b hb hbm=>(((b4' j).2.1 b hb).1 hj).2 hbm⟩
                · show Bg.length≤j
                  have:B0.length≤j:=h1
                  omega
                · exact w4 t (Bu hi hk t x (Qhj hx) hm)
                · show (Yg wb j).isSome=true
                  cases e:Yg wb j with
                  | some _=>rfl
                  |
                   none =>
                   have hjl:j<Bg.length:=by
                     apply Classical.byContradiction
                     intro hn
                     rw [Z5 (by omega)] at hm; simp [OB.ids] at hm
                   exact absurd hm (((b4' j).2.2 e).2.2 i hi hjl)
                · obtain ⟨_,h3,_⟩:=b4' j
                  obtain ⟨_,a2,a3⟩:=h3 b hb
                  have hlv:(ob B0 j).lv=false:=by
                    cases e:(ob B0 j).lv with
                    | false=>rfl
                    | true=>exact absurd (.inl e) ha
                  refine a3 hlv ?_
                  apply Classical.byContradiction
                  intro hn
                  have:=(a2 (by omega)).1
                  exact ha (.inr ⟨by show B0.length≤j; omega,this⟩)
                · funext j
                  rw [(b4' j).1]
                  simp only [Fj]
                  cases Yg wb j <;> rfl
                · funext j
                  show (Bg2.length≤j)=(Bg.length≤j∧¬(B0.length≤j∧j<B2.length))
                  refine propext ⟨fun h=>⟨by omega,by omega⟩,fun ⟨h1,h2⟩=>by omega⟩
              · cases hd
            · cases hd
          · cases hd
        · cases hd
      · cases hd
    · cases hd
  · cases hd
def dr (
 T:TT P) (n:Nat) (arr:Array Oper):List Oper→Sg→List OB→List (H P)→Option (List (Rc×Sg×List OB)×Sg×List OB×List (H P)×V4×List Prop)
  | [],L,B,h=>some ([],L,B,h,[],[])
  |
   o::l,L,B,h=>match rsl L (gsl arr o) with
   |
    some L0=>match (match mvJ B h L0 o.op with
      | some i=>ds T n arr L B h o (some i) L0
      | none=>ds T n arr L B h o none L0) with
    |
     some (r,L',B',h',q,ob)=>match dr T n arr l L' B' h' with
     | some (rs,L2,B2,h2,q2,ob2)=>some ((r,L,B)::rs,L2,B2,h2,Hu q q2,Zw ob ob2)
     | none=>none
    | none=>none
   | none=>none
def ovC (mvs:List Nat) (x:Rc×Sg×List OB):Bool :=
  Wn (fun p=>match lk x.2.1 p.1 with
    | some y=>Wn (fun i => !J3 i mvs || isI x.1.mv i) y.ids
    | none=>true) x.1.ws &&
  Wn (fun p=>match Hl x.2.2 p.1 with
    | some b=>Wn (fun i => !J3 i mvs || isI x.1.mv i) b.ids
    | none=>true) x.1.wb
def Qvg (p x:Rc):Bool :=
  Wn (fun t => !isS (lk x.L0 t.1) && !isS (Yg x.ws t.1)) p.ws &&
  Wn (fun j=>(match Hl x.B0 j.1 with
    | some b => !b.lv
    | none=>true) && !isS (Yg x.wb j.1)) p.wb &&
  (match p.mv with
    | none=>true
    | some i=>Wn (fun t=>match t.2 with
        | some y => !J3 i y.ids
        | none=>true) x.ws && Wn (fun j => !J3 i j.2.ids) x.wb) &&
  (Nat.ble p.B1.length x.B0.length || Nat.ble x.B1.length p.B0.length)
def Db (o:Oper):List Nat:=o.after.toList.filterMap fun e=>if Region.binds .any e then some e.on else none
def Iy:List (List Nat)→Nat→List Nat
  | [],_=>[]
  | x::_,0=>x
  | _::l,i+1=>Iy l i
def uni:List Nat→List Nat→Option (List Nat)
  | [],l=>some l
  |
   x::r,l=>match uni r l with
   |
    some q=>match J3 x q with
    | true=>some q
    | false=>some (x::q)
   | none=>none
def Q3o (cs:List (List Nat)):List Nat→List Nat→Option (List Nat)
  | [],l=>some l
  |
   j::r,l=>match uni (j::Iy cs j) l with
   | some q=>Q3o cs r q
   | none=>none
def clo:List Oper→List (List Nat)→Option (List (List Nat))
  | [],cs=>some cs
  |
   o::l,cs=>match Q3o cs (Db o) [] with
   |
    some u=>match snoc cs u with
    | some c=>clo l c
    | none=>none
   | none=>none
where snoc:List (List Nat)→List Nat→Option (List (List Nat))
  | [],u=>some [u]
  |
   x::l,u=>match snoc l u with
   | some r=>some (x::r)
   | none=>none
def Qu4 (cs:List (List Nat)):Nat→List Oper→Bool
  | _,[]=>true
  |
   i,o::l=>match Wn (Nat.blt · i) (Db o) && Wn (fun p=>J3 p (Db o) || !Wn (fun j => !J3 p (Iy cs j)) (Db o)) (Iy cs i) with
   | true=>Qu4 cs (i+1) l
   | false=>false
def djC (mvs:List Nat) (p x:Rc):Bool:=Qvg p x && Qvg x p
def Qe3 (cs:List (List Nat)) (mvs:List Nat) (x:Rc) (i:Nat):Nat→List (Rc×Sg×List OB)→Bool
  |
   k,p::l=>match Nat.blt k i with
   |
    true=>match J3 k (Iy cs i) || djC mvs p.1 x with
    | true=>Qe3 cs mvs x i (k+1) l
    | false=>false
   | false=>true
  | _,[]=>true
def P3 (cs:List (List Nat)) (mvs:List Nat) (all:List (Rc×Sg×List OB)):Nat→List (Rc×Sg×List OB)→Bool
  | _,[]=>true
  |
   i,x::l=>match Qe3 cs mvs x.1 i 0 all && ovC mvs x && x.1.mv.all (J3 · mvs) with
   | true=>P3 cs mvs all (i+1) l
   | false=>false
def O1:List (Rc×Sg×List OB)→List Nat
  | []=>[]
  |
   x::l=>match x.1.mv with
   | some i=>i::O1 l
   | none=>O1 l
def drE (T:TT P) (n:Nat) (l:List Oper) (L:Sg) (B:List OB) (h:List (H P)):St P:=match dr T n l.toArray l L B h with
  |
   some (rs,L',B',h',q,ob)=>match clo l [] with
   |
    some cs=>match Qu4 cs 0 l && P3 cs (O1 rs) rs 0 rs with
    | true=>some (L',B',h',q,ob)
    | false=>none
   | none=>none
  | none=>none
end Orr

namespace Orr
open Go
variable {P:Program} {n:Nat} {L L':Sg} {B B':List OB} {Q:Exit→Sg→List OB→Prop}
class Mo (P:Program):Prop where
  mo:P.follows .mixedOrders=true
theorem Q2s {mvs:List Nat} {x:Rc×Sg×List OB} (h:ovC mvs x=true):Ov mvs x.1 (lk x.2.1) (ob x.2.2):=by
  unfold ovC at h
  rw [Bool.and_eq_true] at h
  obtain ⟨h1,h2⟩:=h
  have dec:∀ (ids:List Nat),Wn (fun i => !J3 i mvs || isI x.1.mv i) ids=true→∀ i∈ids,i∈mvs→x.1.mv=some i:=fun ids ha i hi hm=>by
    have:=X2 ha i hi
    rw [Xp.2 hm] at this
    exact Qq7 (by simpa using this)
  refine ⟨fun t y ht hy i hi hm=>?_,fun j hj i hi hm=>?_⟩
  · cases e:Yg x.1.ws t with
    | none=>rw [e] at ht; cases ht
    |
     some v =>
     have:=X2 h1 _ (He e)
     simp only [hy] at this
     exact dec _ this i hi hm
  · cases e:Yg x.1.wb j with
    | none=>rw [e] at hj; cases hj
    |
     some v =>
     have:=X2 h2 _ (He e)
     have hne:¬ob x.2.2 j=.gone:=fun e=>by rw [e] at hi; simp [OB.ids] at hi
     obtain ⟨b,e1,e2⟩:=Qrj hne
     rw [e2] at hi
     simp only [J6,e1] at this
     exact dec _ this i hi hm
theorem Qx2 {T:TT P} {arr:Array Oper}:∀ {l:List Oper} {Lg L':Sg} {Bg B':List OB} {h h':List (H P)} {q:V4} {obs:List Prop} {rs:List (Rc×Sg×List OB)},dr T n arr l Lg Bg h=some (rs,L',B',h',q,obs)→EqOk q→Qa obs →
    rs.length=l.length∧(∀ (i:Nat) (o:Oper) (x:Rc×Sg×List OB),l[i]? = some o→rs[i]? = some x→Wf P arr n o x.1)∧∀ (R:Nat→Rc) (mvs:List Nat) (k:Nat),(∀ (i:Nat) (x:Rc×Sg×List OB),rs[i]? = some x→R (k+i)=x.1)→(∀ x∈rs,ovC mvs x=true) →
      DR R mvs (fun sl bl U=>sl=lk L'∧bl=ob B'∧U=nw B') (List.range' k l.length) (lk Lg) (ob Bg) (nw Bg)
  |
   [],Lg,L',Bg,B',h,h',q,obs,rs,hd,_,_=>by
   simp only [dr,Option.some.injEq,Prod.mk.injEq] at hd
   obtain ⟨rfl,rfl,rfl,_⟩:=hd
   exact ⟨rfl,fun i o x h=>by simp at h,fun R mvs k _ _=>⟨rfl,rfl,rfl⟩⟩
  |
   o::l,Lg,L',Bg,B',h,h',q,obs,rs,hd,hq,hob=>by
   simp only [dr] at hd
   split at hd
   · rename_i L0 hL0
     split at hd
     · rename_i r L1 B1 h1 q1 ob1 hds
       split at hd
       · rename_i rs2 L2 B2 h2 q2 ob2 hdr
         simp only [Option.some.injEq,Prod.mk.injEq] at hd
         obtain ⟨rfl,rfl,rfl,_,rfl,rfl⟩:=hd
         rw [Yh] at hq
         obtain ⟨hq1,hq2⟩:=hq.app
         obtain ⟨ho1,ho2⟩:=Tk.1 hob
         have hone:Wf P arr n o r∧Loc r (lk Lg) (ob Bg) (nw Bg)∧lk L1=Fj (lk Lg) r.ws∧ob B1=Fj (ob Bg) r.wb∧nw B1=fun j=>nw Bg j∧¬r.nw_ j:=by
           split at hds <;> exact Q2a hL0 hds hq1 ho1
         obtain ⟨w1,w2,w3,w4,w5⟩:=hone
         obtain ⟨i1,i2,i3⟩:=Qx2 hdr hq2 ho2
         refine ⟨by simp [i1],fun i o' x hi hx=>?_,fun R mvs k hR hov=>?_⟩
         · cases i with
           | zero=>simp at hi hx; subst hi; subst hx; exact w1
           | succ i=>exact i2 i o' x (by simpa using hi) (by simpa using hx)
         · have e0:R k=r:=by simpa using hR 0 (r,Lg,Bg) (by simp)
           rw [show List.range' k (o::l).length=k::List.range' (k+1) l.length from by simp [List.range'_succ]]
           refine ⟨by rw [e0]; exact w2,by rw [e0]; exact Q2s (hov _ (.head _)),?_⟩
           have:=i3 R mvs (k+1) (fun i x hx=>by
             have:=hR (i+1) x (by simpa using hx)
             rwa [show k+(i+1)=k+1+i from by omega] at this) fun x hx=>hov x (.tail _ hx)
           rw [w3,w4,w5] at this
           rw [e0]
           exact this
       · cases hd
     · cases hd
   · cases hd
theorem Qbr {α:Type} {o:Option α} (h:(!isS o)=true):o=none:=by cases o <;> first | rfl | cases h
theorem Qp1 {p x:Rc} (h:Qvg p x=true):Dj1 p x:=by
  unfold Qvg at h
  simp only [Bool.and_eq_true] at h
  obtain ⟨⟨⟨h1,h2⟩,h3⟩,h4⟩:=h
  have k1:∀ t,(Yg p.ws t).isSome=true→lk x.L0 t=none∧Yg x.ws t=none:=fun t ht=>by
    cases e:Yg p.ws t with
    | none=>rw [e] at ht; cases ht
    |
     some v =>
     have:=X2 h1 _ (He e)
     rw [Bool.and_eq_true] at this
     exact ⟨Qbr this.1,Qbr this.2⟩
  refine ⟨fun t ht=>(k1 t ht).1,fun t ht=>(k1 t ht).2,fun j hj=>?_,fun i hi=>?_,fun j h5 h6=>?_⟩
  · cases e:Yg p.wb j with
    | none=>rw [e] at hj; cases hj
    |
     some v =>
     have:=X2 h2 _ (He e)
     rw [Bool.and_eq_true] at this
     refine ⟨?_,Qbr this.2⟩
     have h7:=this.1
     rw [J6] at h7
     unfold ob
     cases e:x.B0[j]? with
     | none=>rfl
     | some b=>rw [e] at h7; simpa using h7
  · rw [hi] at h3
    simp only [Bool.and_eq_true] at h3
    refine ⟨fun t y hy hm=>?_,fun j b hb hm=>?_⟩
    · have:=X2 h3.1 _ (He hy)
      simp only [Xp.2 hm] at this; cases this
    · have:=X2 h3.2 _ (He hb)
      simp only [Xp.2 hm] at this; cases this
  · rcases Bool.or_eq_true .. ▸ h4 with h | h
    · have:=Nat.le_of_ble_eq_true h
      have a1:=h5.2; have a2:=h6.1
      omega
    · have:=Nat.le_of_ble_eq_true h
      have a1:=h5.1; have a2:=h6.2
      omega
theorem Qc8 {α:Type} {f:α→Bool}:∀ {l:List α},Wn f l=false→∃ x∈l,f x=false
  | [],h=>by cases h
  |
   y::l,h=>by
   simp only [Wn] at h
   split at h
   · obtain ⟨x,h1,h2⟩:=Qc8 h; exact ⟨x,.tail _ h1,h2⟩
   · rename_i e; exact ⟨y,.head _,e⟩
theorem Qjv {cs:List (List Nat)}:∀ {l:List Oper} {k:Nat},Qu4 cs k l=true→∀ i o,l[i]? = some o→(∀ j∈Db o,j<k+i)∧∀ p,J3 p (Iy cs (k+i))=true→p∈Db o∨∃ j∈Db o,J3 p (Iy cs j)=true
  | [],k,_,i,o,h=>by simp at h
  |
   o::l,k,h,i,o',hi=>by
   simp only [Qu4] at h
   split at h
   · rename_i hc
     cases i with
     |
      zero =>
      simp at hi; subst hi
      rw [Bool.and_eq_true] at hc
      refine ⟨fun j hj=>by have:=X2 hc.1 j hj; rw [Nat.blt_eq] at this; omega,fun p hp=>?_⟩
      have:=X2 hc.2 p (Xp.1 hp)
      rw [Bool.or_eq_true] at this
      rcases this with h | h
      · exact .inl (Xp.1 h)
      · obtain ⟨x,h1,h2⟩:=Qc8 (by simpa using h)
        exact .inr ⟨x,h1,by simpa using h2⟩
     |
      succ i =>
      rw [show k+(i+1)=k+1+i from by omega]
      exact Qjv h i o' (by simpa using hi)
   · cases h
theorem Qe4 {cs:List (List Nat)} {mvs:List Nat} {x:Rc} {i:Nat}:∀ {ps:List (Rc×Sg×List OB)} {k:Nat},Qe3 cs mvs x i k ps=true→∀ (m:Nat) (p:Rc×Sg×List OB),ps[m]? = some p→k+m<i→J3 (k+m) (Iy cs i)=true∨djC mvs p.1 x=true
  | [],_,_,m,p,h,_=>by simp at h
  |
   p::ps,k,h,m,p',hm,hlt=>by
   simp only [Qe3] at h
   split at h
   · split at h
     · rename_i hc
       cases m with
       | zero=>simp at hm; subst hm; exact Bool.or_eq_true .. ▸ hc
       |
        succ m =>
        rw [show k+(m+1)=k+1+m from by omega]
        exact Qe4 h m p' (by simpa using hm) (by omega)
     · cases h
   · rename_i hb
     have:¬Nat.blt k i=true:=by rw [hb]; simp
     rw [Nat.blt_eq] at this
     omega
theorem Cq {cs:List (List Nat)} {mvs:List Nat} {all:List (Rc×Sg×List OB)}:∀ {ps:List (Rc×Sg×List OB)} {k:Nat},P3 cs mvs all k ps=true→∀ (i:Nat) (x:Rc×Sg×List OB),ps[i]? = some x→Qe3 cs mvs x.1 (k+i) 0 all=true∧ovC mvs x=true∧x.1.mv.all (J3 · mvs)=true
  | [],_,_,i,x,h=>by simp at h
  |
   p::ps,k,h,i,x,hi=>by
   simp only [P3] at h
   split at h
   · rename_i hc
     cases i with
     | zero=>simp at hi; subst hi; simp only [Bool.and_eq_true] at hc; exact ⟨hc.1.1,hc.1.2,hc.2⟩
     |
      succ i =>
      rw [show k+(i+1)=k+1+i from by omega]
      exact Cq h i x (by simpa using hi)
   · cases h
theorem Qff {l:List Oper} {i:Nat} {o:Oper} (h:l[i]? = some o):Sx l i=Db o:=by simp only [Sx,h]; rfl
theorem Ad (w:World):Grow w { w with drawn:=w.drawn+1 }:=⟨Nat.le_refl _,fun _ _=>rfl,rfl,rfl⟩
theorem Qt4 [Mo P] {T:TT P} {id:Nat} {arr:Array Oper} {hs hs':List (H P)} {q:V4} {obs:List Prop} {r:List It} (h:drE T n arr.toList L B hs=some (L',B',hs',q,obs)) (hq:EqOk q) (hob:Qa obs) (k:AK P n Q r L' B'):AK P n Q (.code (.region id arr true)::r) L B:=by
  unfold drE at h
  split at h
  · rename_i rs L2 B2 h2 q2 ob2 hdr
    split at h
    · rename_i cs _
      split at h
      · rename_i hc
        simp only [Option.some.injEq,Prod.mk.injEq] at h
        obtain ⟨rfl,rfl,_,rfl,rfl⟩:=h
        rw [Bool.and_eq_true] at hc
        obtain ⟨hcl,hap⟩:=hc
        have hcl:=Qjv hcl
        have hap:=Cq hap
        obtain ⟨hlen,hwf,hDR⟩:=Qx2 hdr hq hob
        let R:Nat→Rc:=fun i=>match rs[i]? with
          | some x=>x.1
          | none=>⟨[],[],[],[],[],[],none⟩
        have hR:∀ (i:Nat) (x:Rc×Sg×List OB),rs[i]? = some x→R i=x.1:=fun i x hx=>by simp only [R,hx]
        have hget:∀ i,i<arr.toList.length→∃ x,rs[i]? = some x:=fun i hi=>⟨rs[i]'(by omega),List.getElem?_eq_getElem _⟩
        have hDR:=hDR R (O1 rs) 0 (fun i x hx=>by rw [Nat.zero_add]; exact hR i x hx) fun x hx=>by
          obtain ⟨i,hi⟩:=List.getElem?_of_mem hx
          exact (hap i x hi).2.1
        have hda:arr.toList.toArray=arr:=by simp
        rw [hda] at hwf
        have hwf':∀ i o,arr.toList[i]? = some o→Wf P arr.toList.toArray n o (R i):=fun i o ho=>by
          obtain ⟨x,hx⟩:=hget i (List.getElem?_eq_some_iff.1 ho).1
          rw [hR i x hx,hda]
          exact hwf i o x ho hx
        have hCl:Cl arr.toList fun i p=>J3 p (Iy cs i):=⟨fun i hi j hj=>by
            have ho:=List.getElem?_eq_getElem hi
            rw [Qff ho] at hj
            have:=(hcl i _ ho).1 j hj
            omega,fun i hi p hp=>by
            have ho:=List.getElem?_eq_getElem hi
            rw [Qff ho]
            have:=(hcl i _ ho).2 p (by rw [Nat.zero_add]; exact hp)
            exact this⟩
        have hdj:∀ i,i<arr.toList.length→∀ p,p<i→(J3 p (Iy cs i))=false→Dj (O1 rs) (R p) (R i):=fun i hi p hp hn=>by
          obtain ⟨x,hx⟩:=hget i hi
          obtain ⟨y,hy⟩:=hget p (by omega)
          obtain ⟨a1,a2,a3⟩:=hap i x hx
          rw [Nat.zero_add] at a1
          rcases Qe4 a1 p y hy (by omega) with h | h
          · rw [Nat.zero_add,hn] at h; cases h
          · unfold djC at h
            rw [Bool.and_eq_true] at h
            rw [hR i x hx,hR p y hy]
            refine ⟨Qp1 h.1,Qp1 h.2,?_,fun j hj=>?_,fun j hj=>?_⟩
            · cases e:x.1.mv with
              | none=>rfl
              |
               some j =>
               rw [e] at a3
               have:J3 j (O1 rs)=true:=a3
               simpa using Xp.1 this
            · have:=hwf' i _ (List.getElem?_eq_getElem hi)
              rw [hR i x hx] at this
              exact (this.mv1 j hj).1
            · have:=hwf' p _ (List.getElem?_eq_getElem (by omega))
              rw [hR p y hy] at this
              exact (this.mv1 j hj).2
        intro F E M a w hs
        refine wp_region_any Mo.mo ?_
        have:=Qp2 (Q:=Q2k F n (mkQ Q (Dt P n Q r))) (F:=F) hCl hwf' hdj (fun a w sl bl U E M hsf ⟨e1,e2,e3⟩=>by
          subst e1; subst e2; subst e3
          exact ⟨_,_,E,M,⟨hsf.hs,hsf.size,hsf.defers,hsf.slots⟩,k⟩) arr.size (Array.replicate arr.size false) (List.range' 0 arr.toList.length) _ _ _ E M a { w with drawn:=w.drawn+1 } (by simp) List.pairwise_lt_range' (fun j=>by
            rw [List.mem_range'_1]
            simp only [Array.getD_eq_getD_getElem?,Array.getElem?_replicate]
            constructor
            · intro ⟨_,h⟩
              have h:j<arr.size:=by simpa using h
              exact ⟨by simpa using h,by rw [if_pos h]; rfl⟩
            · intro ⟨h,_⟩
              exact ⟨Nat.zero_le _,by omega⟩) (by simp) (fun i hi h=>by
              have hi:i<arr.size:=by simpa using hi
              rw [Array.getD_eq_getD_getElem?,Array.getElem?_replicate,if_pos hi] at h
              cases h) hDR ⟨hs.hs.grow (Ad w),hs.size,hs.defers,fun t x hx=>by
                obtain ⟨v,h1,h2⟩:=hs.slots t x hx
                exact ⟨v,h1,h2.keep ((Ad w).le M) fun i _ _=>rfl⟩⟩
        rw [hda] at this
        exact this
      · cases h
    · cases h
  · cases h
theorem Qn1 {it:List It} {i:Nat} (hs:Jj it=true) (h:Qb9 L B i=some (L',B')) (k:AK P n Q it L' B'):AK P n Q it L B:=AK.sub (Ll h) hs k
abbrev Rn:=Option (List It×Sg×List OB×V4×List Prop)
def Q3l:List (H P)→List TV→Option Nat
  | .p i::_,_=>some i
  | .c (Bin:=_::_) _ _::_,_=>none
  | _,ys=>Qwd ys
def unP:List (H P)→List (H P)
  | .p _::h=>h
  | h=>h
def Q08 (arr:Array Oper) (L:Sg) (o:Oper) (h:List (H P)):Option (Sg×List (H P)×(Qv×Qv)):=match o.guard with
  | none=>none
  |
   some (j,_)=>match (arr[j]?).bind (·.dst) with
   |
    some t'=>match lk L t' with
    |
     some (.v (.one (.bool b)))=>match h with
     | .t (b:=b') _::h=>some ((t',.cnd true (.one (.bool true)))::L,h,(.t (.one (.bool b)),.t (.one (.bool b'))))
     | .f (b:=b') _::h=>some ((t',.cnd true (.one (.bool false)))::L,h,(.t (.one (.bool b)),.t (.one (.bool b'))))
     | _=>none
    | _=>none
   | none=>none
theorem Q09 {arr:Array Oper} {o:Oper} {h h':List (H P)} {e:Qv×Qv} (hu:Q08 arr L o h=some (L',h',e)) (he:e.1=e.2):Sub n L B L' B:=by
  unfold Q08 at hu
  split at hu
  · cases hu
  · split at hu
    · split at hu
      · rename_i b hl
        split at hu
        · rename_i b' hb h2
          injection hu with hu; injection hu with e1 hu; injection hu with e2 e3; subst e1; subst e3
          injection he with he; injection he with he; injection he with he; subst he; subst hb
          exact fun F E M a w hs=>⟨E,M,hs.same hl fun _ h=>⟨fun _=>h,fun e=>by cases e⟩⟩
        · rename_i b' hb h2
          injection hu with hu; injection hu with e1 hu; injection hu with e2 e3; subst e1; subst e3
          injection he with he; injection he with he; injection he with he; subst he; subst hb
          exact fun F E M a w hs=>⟨E,M,hs.same hl fun _ h=>⟨fun _=>h,fun e=>by cases e⟩⟩
        · cases hu
      · cases hu
    · cases hu
def run (T:TT P) (n:Nat):Nat→List It→Sg→List OB→List (H P)→V4→List Prop→Rn
  | 0,it,L,B,_,q,ob=>some (it,L,B,q,ob)
  |
   f+1,it,L,B,h,q,ob=>match it with
   | .code (.seq x y)::r=>run T n f (.code x::.code y::r) L B h q ob
   | .code .skip::r=>run T n f r L B h q ob
   | .code (.block id c)::r=>run T n f (.code c::.blk id::r) L B h q ob
   |
    .code (.exit id)::r=>match Bh id r with
    | some r'=>run T n f r' L B h q ob
    | none=>some (it,L,B,q,ob)
   | .code (.region id arr false)::r=>run T n f (.ops arr arr.toList::r) L B h q ob
   |
    .code (.region id arr true)::r=>match h with
    |
     .p i::h=>match Qb9 L B i with
     | some (L',B')=>run T n f (.code (.region id arr true)::r) L' B' h q ob
     | none=>none
    |
     h=>match drE T n arr.toList L B h with
     | some (L',B',h',q',ob')=>run T n f r L' B' h' (Hu q' q) (Zw ob' ob)
     | none=>some (it,L,B,q,ob)
   |
    .code (.cond c x y)::r=>match h with
    |
     .t (b:=b') _::h=>match evT L c with
     | some (.one (.bool b))=>run T n f (.code x::r) L B h ((.t (.one (.bool b)),.t (.one (.bool b')))::q) ob
     | _=>none
    |
     .f (b:=b') _::h=>match evT L c with
     | some (.one (.bool b))=>run T n f (.code y::r) L B h ((.t (.one (.bool b)),.t (.one (.bool b')))::q) ob
     | _=>none
    | _=>some (it,L,B,q,ob)
   | .blk _::r=>run T n f r L B h q ob
   | .ops _ []::r=>run T n f r L B h q ob
   |
    .pst d::r=>match Qwi d L B h with
    |
     some (L',B',h',q')=>match Jj r with
     | true=>run T n f (.pst d::r) L' B' h' (Hu q' q) ob
     | false=>none
    | none=>run T n f r L B h q ob
   |
    .ops arr (o::l)::r=>match gdE arr L o with
    |
     some true=>match Ri o.op with
     |
      some (x,xs)=>match o.dst with
      |
       some d=>match Nat.blt d n with
       |
        true=>match Qjs L x xs with
        |
         some (g,ys)=>match Q3l h ys with
         |
          some i=>match Qb9 L B (dig B 20 i) with
          | some (L',B')=>run T n f (.ops arr (o::l)::r) L' B' (unP h) q ob
          | none=>some (it,L,B,q,ob)
         |
          none=>match Qdj L B h d g ys with
          | some (L',B',h',q',ob')=>run T n f (.pst d::.ops arr l::r) L' B' h' (Hu q' q) (Zw ob' ob)
          | none=>some (it,L,B,q,ob)
        | none=>some (it,L,B,q,ob)
       | false=>none
      | none=>some (it,L,B,q,ob)
     |
      none=>match efE T n L B h o.dst o.op with
      |
       some (L',B',h',q',ob')=>match o.dst with
       | some d=>run T n f (.pst d::.ops arr l::r) L' B' h' (Hu q' q) (Zw ob' ob)
       | none=>run T n f (.ops arr l::r) L' B' h' (Hu q' q) (Zw ob' ob)
      | none=>some (it,L,B,q,ob)
    |
     some false=>match Qrw n L o.dst with
     | some L'=>run T n f (.ops arr l::r) L' B h q ob
     | none=>some (it,L,B,q,ob)
    |
     none=>match Q08 arr L o h with
     | some (L',h',e)=>run T n f (.ops arr (o::l)::r) L' B h' (e::q) ob
     | none=>some (it,L,B,q,ob)
   | it=>some (it,L,B,q,ob)
theorem Qck [Mo P] (T:TT P):∀ (f:Nat) (it it':List It) (L L':Sg) (B B':List OB) (h:List (H P)) (q q':V4) (ob ob':List Prop),run T n f it L B h q ob=some (it',L',B',q',ob')→EqOk q'→Qa ob'→EqOk q∧Qa ob∧(AK P n Q it' L' B'→AK P n Q it L B):=by
  intro f
  have stop:∀ {it it':List It} {L L':Sg} {B B':List OB} {q q':V4} {ob ob':List Prop},some (it,L,B,q,ob)=some (it',L',B',q',ob')→EqOk q'→Qa ob'→EqOk q∧Qa ob∧(AK P n Q it' L' B'→AK P n Q it L B):=fun h hq hob=>by
    obtain ⟨rfl,rfl,rfl,rfl,rfl⟩:=Vz h
    exact ⟨hq,hob,id⟩
  induction f with
  | zero=>intro it it' L L' B B' h q q' ob ob' hr hq hob; exact stop hr hq hob
  |
   succ f ih =>
   intro it it' L L' B B' h q q' ob ob' hr hq hob
   unfold run at hr
   split at hr
   · obtain ⟨h1,h2,h3⟩:=ih _ _ _ _ _ _ _ _ _ _ _ hr hq hob
     exact ⟨h1,h2,fun k=>Qyt (h3 k)⟩
   · obtain ⟨h1,h2,h3⟩:=ih _ _ _ _ _ _ _ _ _ _ _ hr hq hob
     exact ⟨h1,h2,fun k=>Qt8 (h3 k)⟩
   · obtain ⟨h1,h2,h3⟩:=ih _ _ _ _ _ _ _ _ _ _ _ hr hq hob
     exact ⟨h1,h2,fun k=>Qn0 (h3 k)⟩
   · split at hr
     · rename_i r' hx
       obtain ⟨h1,h2,h3⟩:=ih _ _ _ _ _ _ _ _ _ _ _ hr hq hob
       exact ⟨h1,h2,fun k=>Qt5 hx (h3 k)⟩
     · exact stop hr hq hob
   · obtain ⟨h1,h2,h3⟩:=ih _ _ _ _ _ _ _ _ _ _ _ hr hq hob
     exact ⟨h1,h2,fun k=>Qys (h3 k)⟩
   · split at hr
     · split at hr
       · rename_i hp
         obtain ⟨h1,h2,h3⟩:=ih _ _ _ _ _ _ _ _ _ _ _ hr hq hob
         exact ⟨h1,h2,fun k=>Qn1 rfl hp (h3 k)⟩
       · cases hr
     · split at hr
       · rename_i hd
         obtain ⟨h1,h3,h4⟩:=ih _ _ _ _ _ _ _ _ _ _ _ hr hq hob
         rw [Yh] at h1
         obtain ⟨h5,h6⟩:=h1.app
         obtain ⟨h7,h8⟩:=Tk.1 h3
         exact ⟨h6,h8,fun k=>Qt4 hd h5 h7 (h4 k)⟩
       · exact stop hr hq hob
   · split at hr
     · rename_i b' hb h2
       split at hr
       · rename_i b hc
         obtain ⟨h1,h2,h3⟩:=ih _ _ _ _ _ _ _ _ _ _ _ hr hq hob
         have e:=h1.hd; injection e with e; injection e with e; injection e with e; subst e
         exact ⟨h1.tl,h2,fun k=>Qiz hc (fun _=>h3 k) fun e=>by rw [hb] at e; cases e⟩
       · cases hr
     · rename_i b' hb h2
       split at hr
       · rename_i b hc
         obtain ⟨h1,h2,h3⟩:=ih _ _ _ _ _ _ _ _ _ _ _ hr hq hob
         have e:=h1.hd; injection e with e; injection e with e; injection e with e; subst e
         exact ⟨h1.tl,h2,fun k=>Qiz hc (fun e=>by rw [hb] at e; cases e) fun _=>h3 k⟩
       · cases hr
     · exact stop hr hq hob
   · obtain ⟨h1,h2,h3⟩:=ih _ _ _ _ _ _ _ _ _ _ _ hr hq hob
     exact ⟨h1,h2,fun k=>h3 k⟩
   · obtain ⟨h1,h2,h3⟩:=ih _ _ _ _ _ _ _ _ _ _ _ hr hq hob
     exact ⟨h1,h2,fun k=>h3 k⟩
   · rename_i d r
     split at hr
     · rename_i L2 B2 h2 q2 hp
       split at hr
       · rename_i hs
         obtain ⟨h1,h3,h4⟩:=ih _ _ _ _ _ _ _ _ _ _ _ hr hq hob
         rw [Yh] at h1
         obtain ⟨h5,h6⟩:=h1.app
         exact ⟨h6,h3,fun k=>AK.sub (it:=r) (Qse hp h5) hs (h4 k)⟩
       · cases hr
     · obtain ⟨h1,h2,h3⟩:=ih _ _ _ _ _ _ _ _ _ _ _ hr hq hob
       exact ⟨h1,h2,fun k=>h3 k⟩
   · rename_i arr o l r
     split at hr
     · rename_i hgd
       split at hr
       · rename_i x xs hcall
         obtain ⟨as0,ats,ho,rfl⟩:=Ox hcall
         split at hr
         · rename_i d hd
           split at hr
           · rename_i hdn
             split at hr
             · rename_i g ys ha
               split at hr
               · rename_i i hown
                 split at hr
                 · rename_i L2 B2 hp
                   obtain ⟨h1,h2,h3⟩:=ih _ _ _ _ _ _ _ _ _ _ _ hr hq hob
                   exact ⟨h1,h2,fun k=>W1.sub (Ll hp) (h3 k)⟩
                 · exact stop hr hq hob
               · split at hr
                 · rename_i L2 B2 h2 q2 ob2 hc
                   obtain ⟨h1,h3,h4⟩:=ih _ _ _ _ _ _ _ _ _ _ _ hr hq hob
                   rw [Yh] at h1
                   obtain ⟨h5,h6⟩:=h1.app
                   obtain ⟨h7,h8⟩:=Tk.1 h3
                   exact ⟨h6,h8,fun k=>W1.on hgd (Qjt (o:=ung o) (N:=AW P arr n l (Dt P n Q r).1) ho rfl hd hdn ha hc h5 (h4 k))⟩
                 · exact stop hr hq hob
             · exact stop hr hq hob
           · cases hr
         · exact stop hr hq hob
       · split at hr
         · rename_i L2 B2 h2 q2 ob2 hs
           split at hr
           · obtain ⟨h1,h3,h4⟩:=ih _ _ _ _ _ _ _ _ _ _ _ hr hq hob
             rw [Yh] at h1
             obtain ⟨h5,h6⟩:=h1.app
             obtain ⟨h7,h8⟩:=Tk.1 h3
             exact ⟨h6,h8,fun k=>W1.on hgd (Qg5 (o:=ung o) (N:=AW P arr n l (Dt P n Q r).1) rfl rfl rfl hs h5 h7 (h4 k))⟩
           · obtain ⟨h1,h3,h4⟩:=ih _ _ _ _ _ _ _ _ _ _ _ hr hq hob
             rw [Yh] at h1
             obtain ⟨h5,h6⟩:=h1.app
             obtain ⟨h7,h8⟩:=Tk.1 h3
             exact ⟨h6,h8,fun k=>W1.on hgd (Qg5 (o:=ung o) (N:=AW P arr n l (Dt P n Q r).1) rfl rfl rfl hs h5 h7 (h4 k))⟩
         · exact stop hr hq hob
     · rename_i hgd
       split at hr
       · rename_i L2 hL
         obtain ⟨h1,h2,h3⟩:=ih _ _ _ _ _ _ _ _ _ _ _ hr hq hob
         exact ⟨h1,h2,fun k=>W1.off (N:=AW P arr n l (Dt P n Q r).1) hgd hL (h3 k)⟩
       · exact stop hr hq hob
     · split at hr
       · rename_i L2 h2 e hu
         obtain ⟨h1,h2,h3⟩:=ih _ _ _ _ _ _ _ _ _ _ _ hr hq hob
         exact ⟨h1.tl,h2,fun k=>W1.sub (Q09 hu h1.hd) (h3 k)⟩
       · exact stop hr hq hob
   · exact stop hr hq hob
end Orr

namespace Orr
open Go
variable {P:Program} {n:Nat} {L L':Sg} {B B':List OB} {Q:Exit→Sg→List OB→Prop}
def O9 (tmps:Array Value):ResultVar→Sem Value
  | .tmp t=>pure (tmps.getD t undef)
  | .cell a t=>do loadVar t (←asAddr (tmps.getD a undef))
theorem Qh8 (fn:Func) (tmps:Array Value):results fn tmps=(do
    let vs ←fn.results.mapM (O9 tmps)
    pure (if h:vs.size=1 then vs[0] else .tuple vs)):=by
  unfold results
  congr 1
def Qfm (
 T:TT P) (
  L:Sg) (B:List OB):List ResultVar→Option (List TV)
  | []=>some []
  |
   .tmp t::r=>match lk L t with
   |
    some (.v u)=>match Qfm T L B r with
    | some us=>some (u::us)
    | none=>none
   | _=>none
  |
   .cell t S::r=>match T.find S with
   |
    some ti=>match lk L t with
    |
     some (.v (.one (.ow i 0)))=>match Hl B i with
     |
      some (.blk _ xs)=>match Qfy xs 0 ti.sz with
      |
       some l=>match Gu ti.ag l with
       |
        some u=>match Qfm T L B r with
        | some us=>some (u::us)
        | none=>none
       | none=>none
      | none=>none
     | _=>none
    | _=>none
   | none=>none
theorem Lo {T:TT P} {F:Fr} {E:Vh} {M:Nat→Prop} {a:Act} {w:World} (h:SA F n L B E M a w):∀ {rs:List ResultVar} {us:List TV},Qfm T L B rs=some us→∃ vs:List Value,F2 (TRep w M E) vs us∧(rs.mapM (O9 a.tmps)).run P w=.ok vs w
  | [],us,hr=>by simp only [Qfm,Option.some.injEq] at hr; subst hr; exact ⟨[],.nil,rfl⟩
  |
   .tmp t::r,us,hr=>by
   simp only [Qfm] at hr
   split at hr
   · rename_i u hu
     split at hr
     · rename_i us' hr'
       injection hr with hr; subst hr
       obtain ⟨vs,h1,h2⟩:=Lo h hr'
       obtain ⟨v,h3,h4⟩:=h.slots t _ hu
       refine ⟨v::vs,.cons h4 h1,?_⟩
       simp only [List.mapM_cons,O9,Sem.run_bind,Sem.run_pure,Result.andThen_ok,Array.getD_eq_getD_getElem?,h3,Option.getD_some,h2]
     · cases hr
   · cases hr
  |
   .cell t S::r,us,hr=>by
   simp only [Qfm] at hr
   split at hr
   · rename_i ti hti
     have hti:=TT.find_t hti; subst hti
     split at hr
     · rename_i i hu
       split at hr
       · rename_i T' xs hb
         split at hr
         · rename_i l hl
           split at hr
           · rename_i u hbu
             split at hr
             · rename_i us' hr'
               injection hr with hr; subst hr
               obtain ⟨vs,h1,h2⟩:=Lo h hr'
               obtain ⟨v,h3,g,c,m,he,hv⟩:=h.slots t _ hu
               obtain ⟨g',c',m',he',cs,hg,hc⟩:=h.blk hb
               rw [he] at he'; injection he' with he'; injection he' with e1 _; injection e1 with e1; injection e1 with e1 _; subst e1
               obtain ⟨rfl,hle⟩:=T0 hl
               obtain ⟨v2,hv2,hv3⟩:=Ke hbu ((hc.drop 0).take ti.sz)
               have hl2:=hc.len
               have hload:(loadVar ti.t ⟨g,0,none⟩).run P w=.ok v2 w:=De ti.hag ti.hsz (vs:=(cs.drop 0).take ti.sz) (by simp; omega) (fun j v hj=>by rw [Tl hg]; exact Na hj) hv2
               refine ⟨v2::vs,.cons hv3 h1,?_⟩
               simp only [List.mapM_cons,O9,Sem.run_bind,Sem.run_pure,Result.andThen_ok,Array.getD_eq_getD_getElem?,h3,Option.getD_some,hv,asAddr,hload,h2]
             · cases hr
           · cases hr
         · cases hr
       · cases hr
     · cases hr
   · cases hr
theorem Dh {fn:Func} {a:Act} {w:World} {vs:List Value} {M:Nat→Prop} {E:Vh} {us:List TV} (h:(fn.results.toList.mapM (O9 a.tmps)).run P w=.ok vs w) (hr:F2 (TRep w M E) vs us):∃ r,(results fn a.tmps).run P w=.ok r w∧ARep w M E r (Ns us):=by
  have hm:(fn.results.mapM (O9 a.tmps)).run P w=.ok vs.toArray w:=by
    have:fn.results=fn.results.toList.toArray:=by simp
    rw [this,List.mapM_toArray,map_eq_pure_bind,Sem.run_bind,h]
    rfl
  refine ⟨if h:vs.toArray.size=1 then vs.toArray[0] else .tuple vs.toArray,?_,?_⟩
  · rw [Qh8]
    simp only [Sem.run_bind,hm,Result.andThen_ok,Sem.run_pure]
  · match vs,us,hr with
    | [v],[t],.cons h0 .nil=>simpa [Ns,ARep] using h0
    | [],[],.nil=>exact ⟨[],rfl,.nil⟩
    | v::v'::vs,t::t'::us,hr=>exact ⟨_,by simp,hr⟩
theorem HS.forget {F:Fr} {bl:Nat→OB} {U:Nat→Prop} {E:Vh} {M:Nat→Prop} {w:World} (h:HS F bl U E M w) (hJ:∀ i,¬F.J i):HS F (ob []) (nw []) (fun _=>none) M w :=
  { size:=h.size,kept:=h.kept,io:=h.io,mlt:=h.mlt,m0:=h.m0
    ids:=fun i hi=>absurd hi (hJ i)
    nj:=fun i _=>hJ i
    blk:=fun i=>by simp [ob]; trivial
    nk:=fun i g c m hl _=>by simp [ob,OB.lv] at hl
    inj:=fun i j g c m c' m' hl=>by simp [ob,OB.lv] at hl
    un:=fun i _=>⟨rfl,by simp [ob]⟩
    uj:=fun i _=>hJ i }
def Qqe (
 T:TT P):Nat→Sg→List OB→List ResultVar→Option (List TV)
  | 0,_,_,_=>none
  |
   f+1,L,B,rs=>match Qfm T L B rs with
   |
    some us=>match Qwd us with
    |
     some i=>match Qb9 L B (dig B 20 i) with
     | some (L',B')=>Qqe T f L' B' rs
     | none=>none
    |
     none=>match Fb us with
     |
      some ys=>match Fc ys with
      | true=>some ys
      | false=>none
     | none=>none
   | none=>none
theorem E4 {T:TT P} {fn:Func} {e:Exit} (he:e=.ret∨e=.normal):∀ {f:Nat} {L:Sg} {B:List OB} {us:List TV},Qqe T f L B fn.results.toList=some us→RQ P fn n 0 (fun u B=>u=us∧B=[]) e L B
  | 0,_,_,_,h=>by cases h
  |
   f+1,L,B,us,h=>by
   simp only [Qqe] at h
   split at h
   · rename_i us0 hr
     split at h
     · split at h
       · rename_i L' B' hp
         obtain ⟨_,h1⟩:=E4 he h
         refine ⟨he,fun F E M a w hs hJ=>?_⟩
         obtain ⟨E',M',h2⟩:=Ll hp F E M a w hs
         exact h1 F E' M' a w h2 hJ
       · cases h
     · split at h
       · rename_i ys hys
         split at h
         · rename_i hfr
           injection h with h; subst h
           refine ⟨he,fun F E M a w hs hJ=>?_⟩
           obtain ⟨vs,h1,h2⟩:=Lo hs hr
           have h3:=Fu hys h1
           obtain ⟨r,h4,h5⟩:=Dh h2 h3
           refine ⟨r,_,[],fun _=>none,M,h4,⟨rfl,rfl⟩,Nat.zero_le _,hs.hs.forget fun i=>hJ i (Nat.zero_le _),h5.keep (Le.refl _ _) fun i hi=>?_⟩
           rw [Qda hfr] at hi; cases hi
         · cases h
       · cases h
   · cases h
def Qeu:List Prop→Option (List Prop)
  | []=>some []
  |
   p::l=>match Qeu l with
   | some r=>some (p::r)
   | none=>none
theorem Mq:∀ {l r:List Prop},Qeu l=some r→r=l
  | [],r,h=>by simp only [Qeu,Option.some.injEq] at h; exact h.symm
  |
   p::l,r,h=>by
   simp only [Qeu] at h
   split at h
   · rename_i q hq; injection h with h; rw [←h,Mq hq]
   · cases h
def Ob:List It→Bool
  | .code .ret::_=>true
  | []=>true
  | _=>false
def wE (
 T:TT P) (n:Nat) (c:Code) (rs:List ResultVar) (args:List TV) (hs:List (H P)):Option (List TV×List Qv×List Qv×List Prop):=match run T n 100000 [.code c] (Sp 0 args) [] hs [] [] with
  |
   some (it,L,B,q,ob)=>match Ob it with
   |
    true=>match Qqe T 100 L B rs with
    |
     some us=>match Qeu ob with
     | some ob=>some (us,q.map (·.1),q.map (·.2),ob)
     | none=>none
    | none=>none
   | false=>none
  | none=>none
theorem EqOk.of:∀ {q:V4},q.map (·.1)=q.map (·.2)→EqOk q
  | [],_=>EqOk.nil
  |
   (a,b)::q,h=>by
   injection h with h1 h2
   intro p hp
   rcases List.mem_cons.1 hp with rfl | hp
   · exact h1
   · exact EqOk.of h2 p hp
theorem w [Mo P] (T:TT P) {f:FuncId} {fn:Func} {c:Code} {args res us:List TV} {as0:List Qv} {ob:List Prop} (hf:P.funcs[f]? = some fn) (hh:(fn.body,fn.ntmps,(fn.name == "runtime.NumGoroutine"),Nat.ble args.length n)=(some c,n,false,true)) (hs:List (H P))
    (h:wE T n c fn.results.toList args hs=some (us,as0,as0,ob)) (he:us=res) (ho:Qa ob):Qf P f args res:=by
  injection hh with hb hh; injection hh with hn hh; injection hh with hnm hl
  subst he
  refine ⟨⟨fn,hf,hnm,by rw [hb]; rfl⟩,fn_ hf hb hn hl ?_⟩
  unfold wE at h
  split at h
  · rename_i it L B q ob' hr
    split at h
    · rename_i hend
      split at h
      · rename_i us' hfin
        split at h <;> first | (cases h; done) | skip
        rename_i ob2 hnp
        obtain rfl:=Mq hnp
        injection h with h; injection h with e1 h; injection h with e2 h; injection h with e3 e4; subst e1; subst e4
        have hq:EqOk q:=EqOk.of (e2.trans e3.symm)
        obtain ⟨_,_,k⟩:=Qck (Q:=RQ P fn n 0 fun u B=>u=us'∧B=[]) T _ _ _ _ _ _ _ _ _ _ _ _ hr hq ho
        refine k ?_
        unfold Ob at hend
        split at hend
        · exact Qgg (E4 (.inl rfl) hfin)
        · exact E4 (.inr rfl) hfin
        · cases hend
      · cases h
    · cases h
  · cases h
theorem go [Mo P] (T:TT P) {it it':List It} {as0:List Qv} {ob:List Prop} (hs:List (H P)) (h:(match run T n 100000 it L B hs [] [] with
    |
     some (it,L,B,q,ob)=>(match Qeu ob with
     | some ob=>some (it,L,B,q.map (·.1),q.map (·.2),ob)
     | none=>none)
    | none=>none)=some (it',L',B',as0,as0,ob)) (ho:Qa ob) (k:AK P n Q it' L' B'):AK P n Q it L B:=by
  split at h
  · rename_i it L B q ob' hr
    split at h <;> first | (cases h; done) | skip
    rename_i ob2 hnp
    obtain rfl:=Mq hnp
    injection h with h; injection h with e1 h; injection h with e2 h; injection h with e3 h; injection h with e4 h; injection h with e5 e6
    subst e1; subst e2; subst e3; subst e6
    exact (Qck T _ _ _ _ _ _ _ _ _ _ _ _ hr (EqOk.of (e4.trans e5.symm)) ho).2.2 k
  · cases h
end Orr

namespace Orr
open Go
theorem Qd0 {P:Program} {S f off T:Nat} {fs:Array Field} {k:Nat} (hu:∀ w,(underlying S).run P w=.ok (.struct fs) w) (hf:(fs[f]?).map (fun fl=>(fl.type,fl.offset))=some (T,off)) (hs:∀ w,(Go.sizeOf T).run P w=.ok k w) (hk:k≠0) (b o:Nat) (w:World) :
    (Instr.fieldAt S (.pointer (some ⟨b,o,none⟩)) f).run P w=.ok (.pointer (some ⟨b,o+off,none⟩)) w:=by
  cases h:fs[f]? with
  | none=>rw [h] at hf; cases hf
  |
   some fl =>
   rw [h] at hf
   simp only [Option.map_some,Option.some.injEq,Prod.mk.injEq] at hf
   obtain ⟨rfl,rfl⟩:=hf
   simp [Instr.fieldAt,hu,h,Instr.sureAddr,fieldPlace,hs,hk,Vi]
def Gg (fs:List Field) (sizes:List Nat):List (Nat×Nat):=(fs.map (·.offset)).zip sizes
def FieldSizes (P:Program):List Field→List Nat→Prop
  | [],[]=>True
  | f::fs,k::ks=>(∀ w,(Go.sizeOf f.type).run P w=.ok k w)∧FieldSizes P fs ks
  | _,_=>False
theorem Df {P:Program}:∀ (fs:List Field) (sizes:List Nat) (w:World),FieldSizes P fs sizes →
    (fs.mapM fun f=>do pure (f.offset,←Go.sizeOf f.type):Sem (List (Nat×Nat))).run P w=.ok (Gg fs sizes) w
  | [],[],w,_=>rfl
  | [],_::_,w,h=>h.elim
  | _::_,[],w,h=>h.elim
  |
   f::fs,k::sizes,w,⟨h0,h⟩=>by
   have ih:=Df fs sizes w h
   simp only [List.mapM_cons,Sem.run_bind,h0,Result.andThen_ok,Sem.run_pure]
   rw [ih]
   rfl
theorem Qmg {P:Program} {T:Nat} {fs:Array Field} {sizes:List Nat} {z:Value} {vs:List (Nat×Value)} {cs:Array Value} (hu:∀ w,(underlying T).run P w=.ok (.struct fs) w) (hz:∀ w,(zeroValue T).run P w=.ok z w)
    (hs:FieldSizes P fs.toList sizes)
    (hf:Instr.fill ((Gg fs.toList sizes)[·]?) z.cells vs=some cs) (w:World):(Instr.build T vs.toArray).run P w=.ok (.agg cs) w:=by
  have hp:=Df (P:=P) fs.toList sizes w hs
  have hm:(fs.mapM fun f=>do pure (f.offset,←Go.sizeOf f.type):Sem (Array (Nat×Nat))).run P w=.ok (Gg fs.toList sizes).toArray w:=by
    cases fs with
    |
     mk l =>
     rw [List.mapM_toArray,map_eq_pure_bind,Sem.run_bind,show (List.mapM (fun f:Field=>do pure (f.offset,←Go.sizeOf f.type):Field→Sem (Nat×Nat)) l).run P w=_ from hp]
     rfl
  simp only [Instr.build,Sem.run_bind,hz,hu,Result.andThen_ok,hm]
  have e:(fun x:Nat=>(Gg fs.toList sizes).toArray[x]?)=fun x=>(Gg fs.toList sizes)[x]? := by funext x; simp
  rw [e,hf]
  rfl
theorem Qgq {P:Program} {T E m k:Nat} {z:Value} {vs:List (Nat×Value)} {cs:Array Value} (hu:∀ w,(underlying T).run P w=.ok (.array m E) w) (hz:∀ w,(zeroValue T).run P w=.ok z w)
    (hs:∀ w,(Go.sizeOf E).run P w=.ok k w)
    (hf:Instr.fill (fun i=>some (i*k,k)) z.cells vs=some cs) (w:World):(Instr.build T vs.toArray).run P w=.ok (.agg cs) w:=by
  simp only [Instr.build,Sem.run_bind,hz,hu,Result.andThen_ok,hs,hf]
  rfl
theorem Qmy {P:Program} {S f off T m:Nat} {ag:Bool} {fs:Array Field} (hu:∀ w,(underlying S).run P w=.ok (.struct fs) w) (hf:(fs[f]?).map (fun fl=>(fl.type,fl.offset))=some (T,off)) (ht:∀ w,(isAgg T).run P w=.ok ag w) (hs:∀ w,(Go.sizeOf T).run P w=.ok m w)
    (vs:List Value) (v:Value) (hv:if ag=true then v=.agg ((vs.drop off).take m).toArray else vs[off]? = some v) (_:off+m≤vs.length) (w:World):(Instr.field S (.agg vs.toArray) f).run P w=.ok v w:=by
  cases h:fs[f]? with
  | none=>rw [h] at hf; cases hf
  |
   some fl =>
   rw [h] at hf
   simp only [Option.map_some,Option.some.injEq,Prod.mk.injEq] at hf
   obtain ⟨rfl,rfl⟩:=hf
   cases ag with
   |
    true =>
    simp only [if_true] at hv
    subst hv
    simp [Instr.field,hu,h,asAgg,Go.part,ht,hs,List.extract]
    done
   |
    false =>
    simp at hv
    simp [Instr.field,hu,h,asAgg,Go.part,ht,hv]
variable {P:Program}
def Aggs (P:Program):List Field→List Bool→Prop
  | [],[]=>True
  | f::fs,k::ks=>(∀ w,(isAgg f.type).run P w=.ok k w)∧Aggs P fs ks
  | _,_=>False
theorem FieldSizes.get:∀ {fs:List Field} {ks:List Nat},FieldSizes P fs ks→∀ {i:Nat} {f:Field},fs[i]? = some f→∃ k,ks[i]? = some k∧∀ w,(Go.sizeOf f.type).run P w=.ok k w
  | [],[],_,i,f,h=>by simp at h
  | g::fs,k::ks,h,0,f,hf=>by simp at hf; subst hf; exact ⟨k,rfl,h.1⟩
  | g::fs,k::ks,h,i+1,f,hf=>by simpa using h.2.get (i:=i) (by simpa using hf)
  | [],_::_,h,_,_,_=>h.elim
  | _::_,[],h,_,_,_=>h.elim
theorem Aggs.get:∀ {fs:List Field} {ks:List Bool},Aggs P fs ks→∀ {i:Nat} {f:Field},fs[i]? = some f→∃ k,ks[i]? = some k∧∀ w,(isAgg f.type).run P w=.ok k w
  | [],[],_,i,f,h=>by simp at h
  | g::fs,k::ks,h,0,f,hf=>by simp at hf; subst hf; exact ⟨k,rfl,h.1⟩
  | g::fs,k::ks,h,i+1,f,hf=>by simpa using h.2.get (i:=i) (by simpa using hf)
  | [],_::_,h,_,_,_=>h.elim
  | _::_,[],h,_,_,_=>h.elim
def Ng (t:TypeId) {ag:Bool} {sz:Nat} {un:TypeDesc} {z:Value} (hag:∀ w,(isAgg t).run P w=.ok ag w) (hsz:∀ w,(Go.sizeOf t).run P w=.ok sz w) (hun:P.underlying t=some un) (hz:∀ w,(zeroValue t).run P w=.ok z w) {info:TypeInfo} (hi:∀ w,(typeInfo t).run P w=.ok info w) (by_:Nat) (hby:info.bytes=by_):TI P :=
  { t,ag,sz,un,z,by_,fo:=[],fv:=[],bl:=none,hag,hsz,hun,hz,hi:=⟨info,hi,hby⟩,hfo:=fun _ _ h=>by simp at h,hfv:=fun _ _ _ _ h=>by simp at h,hbl:=fun _ _ h=>by cases h }
def tiA (t:TypeId) {sz m E k:Nat} {ag:Bool} {zs:Array Value} (hag:∀ w,(isAgg t).run P w=.ok ag w) (hsz:∀ w,(Go.sizeOf t).run P w=.ok sz w) (hun:P.underlying t=some (.array m E)) (hz:∀ w,(zeroValue t).run P w=.ok (.agg zs) w) {info:TypeInfo} (hi:∀ w,(typeInfo t).run P w=.ok info w) (by_:Nat) (hby:info.bytes=by_) (he:∀ w,(Go.sizeOf E).run P w=.ok k w):TI P :=
  { t,ag,sz,un:=.array m E,z:=.agg zs,by_,fo:=[],fv:=[],bl:=some (zs.toList,fun i=>some (i*k,k)),hag,hsz,hun,hz,hi:=⟨info,hi,hby⟩,hfo:=fun _ _ h=>by simp at h,hfv:=fun _ _ _ _ h=>by simp at h
    hbl:=fun zs' pl h=>by
      injection h with h; injection h with h1 h2
      subst h1; subst h2
      intro vs cs hf w
      exact Qgq (z:=.agg zs) (Qd8 hun) hz he (by simpa [Value.cells] using hf) w }
def Qfb:List Field→List Nat→List Bool→List (Nat×Nat×Bool)
  | f::fs,k::ks,a::as0=>(f.offset,k,a)::Qfb fs ks as0
  | _,_,_=>[]
theorem Qfc:∀ {fs:List Field} {ks:List Nat} {as0:List Bool} {i:Nat} {x:Nat×Nat×Bool},(Qfb fs ks as0)[i]? = some x→∃ f,fs[i]? = some f∧ks[i]? = some x.2.1∧as0[i]? = some x.2.2∧x.1=f.offset
  | [],_,_,i,x,h=>by simp [Qfb] at h
  | _::_,[],_,i,x,h=>by simp [Qfb] at h
  | _::_,_::_,[],i,x,h=>by simp [Qfb] at h
  | f::fs,k::ks,a::as0,0,x,h=>by simp [Qfb] at h; subst h; exact ⟨f,rfl,rfl,rfl,rfl⟩
  | f::fs,k::ks,a::as0,i+1,x,h=>by simpa using Qfc (fs:=fs) (i:=i) (by simpa [Qfb] using h)
def tiS (t:TypeId) {sz:Nat} {fs:Array Field} {zs:Array Value} {g:Bool} {ks:List Nat} {ag:List Bool} (hag:∀ w,(isAgg t).run P w=.ok g w) (hsz:∀ w,(Go.sizeOf t).run P w=.ok sz w) (hun:P.underlying t=some (.struct fs)) (hz:∀ w,(zeroValue t).run P w=.ok (.agg zs) w) {info:TypeInfo} (hi:∀ w,(typeInfo t).run P w=.ok info w) (by_:Nat) (hby:info.bytes=by_)
    (hs:FieldSizes P fs.toList ks) (ha:Aggs P fs.toList ag) (h0:(ks.all fun k=>Nat.blt 0 k)=true):TI P :=
  { t,ag:=g,sz,un:=.struct fs,z:=.agg zs,by_,fo:=fs.toList.map (·.offset),fv:=Qfb fs.toList ks ag,bl:=some (zs.toList,((Gg fs.toList ks)[·]?)),hag,hsz,hun,hz,hi:=⟨info,hi,hby⟩
    hfo:=fun f off h b o w=>by
      rw [List.getElem?_map] at h
      cases hf:fs.toList[f]? with
      | none=>rw [hf] at h; cases h
      |
       some fl =>
       rw [hf] at h
       simp only [Option.map_some,Option.some.injEq] at h
       obtain ⟨k,hk,hr⟩:=hs.get hf
       have hk0:k≠0:=by
         have:=List.all_eq_true.1 h0 k (List.mem_of_getElem? hk)
         rw [Nat.blt_eq] at this; omega
       refine Qd0 (T:=fl.type) (k:=k) (Qd8 hun) ?_ hr hk0 b o w
       rw [←Array.getElem?_toList,hf,←h]; rfl
    hfv:=fun f off m ag_ h vs v hv hl w=>by
      obtain ⟨fl,hf,h1,h2,h3⟩:=Qfc h
      obtain ⟨k,hk,hr⟩:=hs.get hf
      obtain ⟨a,ha',hr'⟩:=ha.get hf
      rw [hk] at h1; injection h1 with h1
      rw [ha'] at h2; injection h2 with h2
      have h1:k=m:=h1
      have h2:a=ag_:=h2
      have h3:off=fl.offset:=h3
      subst h1; subst h2; subst h3
      exact Qmy (T:=fl.type) (Qd8 hun) (by rw [←Array.getElem?_toList,hf]; rfl) hr' hr vs v hv hl w
    hbl:=fun zs' pl h=>by
      injection h with h; injection h with h1 h2
      subst h1; subst h2
      intro vs cs hf w
      exact Qmg (z:=.agg zs) (Qd8 hun) hz hs (by simpa [Value.cells] using hf) w }
end Orr
