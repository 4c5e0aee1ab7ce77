/- AvDrawS AvFn ARefN ARefI ARefR RefPL -/
import Derived.Test.YtaffmkgbfgjgeaaGreatPart02
import Derived.Test.YtaffmkgbfgjgeaaGreatPart00
import Derived.Test.YtaffmkgbfgjgeaaGreatPart04
import Derived.Test.YtaffmkgbfgjgeaaGreatPart05
set_option linter.all false

namespace Orr
open Go
variable {P:Program} {ops:Array Oper} {n:Nat} {rest:List Oper} {N:Sg→List OB→Prop} {L:Sg} {B:List OB} {d:Nat} {ty:TypeId} {pos:String} {after:Array Edge}
def AMS (P:Program) (ops:Array Oper) (n:Nat) (o:Oper) (L:Sg) (B:List OB) (R:List OB→Prop):Prop :=
  ∀ (K Ob:Nat→Prop) (w0 w:World) (a:Act) (Bs:List Va) (L':List (Nat×Value)) (Fs:List Fact),St K Ob w0 w a n L' Fs Bs→(∀ t x,lk L t=some x→∃ v,Z0 L' t=some v∧ARep w (Q3 Ob Bs) v x)→BsRep w (Q3 Ob Bs) B Bs →
    wpList P ops (fun e a' w'=>e=.normal∧∃ Bs' B1,R B1∧St K Ob w0 w' a' n [] Fs Bs'∧BsRep w' (Q3 Ob Bs') B1 Bs') [o] a w
theorem Qk9 {o:Oper} {R:List OB→Prop} (haw:∀ N:Sg→List OB→Prop,(∀ B1,R B1→N L B1)→AW P ops n [o] N L B):AMS P ops n o L B R:=by
  intro K Ob w0 w a Bs L' Fs h hL hB
  have h0:St (fun b=>b<w.heap.size∧b∉Bs.map (·.1)) Ob w w a n L' [] Bs :=
    { size:=h.size,defers:=h.defers,slots:=h.slots,wsize:=X2 _,grow:=fun _ _=>rfl,own:=fun g T cs hm=>⟨fun hk=>hk.2 (Ww.2 ⟨_,hm,rfl⟩),(h.own g T cs hm).2⟩,nodup:=h.nodup,
      facts:=fun f hf=>by simp at hf,base:=fun b hk=>hk.1,obase:=fun b hb=>qZv (h.obase b hb) h.wsize,ownO:=h.ownO,io:=⟨rfl,rfl⟩ }
  refine haw (fun L2 B2=>∃ B1,R B1∧L2=L∧B2=B1) (fun B1 hR=>⟨B1,hR,rfl,rfl⟩) _ Ob w w a _ ⟨L',Bs,h0,hL,hB⟩ ?_
  rintro a' w' ⟨L2,B2,⟨L2',Bs2,h1,h2,h3⟩,B1,hR,rfl,rfl⟩
  have hle:Le w (Q3 Ob Bs) w' (Q3 Ob Bs2):=by
    refine ⟨h1.wsize,fun b hb hno=>h1.grow b ⟨hb,fun hm=>hno (.inr hm)⟩,fun b hb ho=>?_⟩
    rcases ho with ho | hm
    · exact .inl ho
    · by_cases hb2:b∈Bs.map (·.1)
      · exact .inr hb2
      · obtain ⟨⟨g,T,cs⟩,hg,rfl⟩:=Ww.1 hm
        exact absurd ⟨hb,hb2⟩ (h1.own g T cs hg).1
  have hnk:∀ b,K b→b<w.heap.size∧b∉Bs.map (·.1):=fun b hk=>⟨qZv (h.base b hk) h.wsize,fun hm=>by
    obtain ⟨⟨g,T,cs⟩,hg,rfl⟩:=Ww.1 hm
    exact (h.own g T cs hg).1 hk⟩
  refine ⟨rfl,Bs2,B2,hR,?_,h3⟩
  exact { size:=h1.size,defers:=h1.defers,slots:=fun t x (hx:none=some x)=>(nomatch hx)
          wsize:=Xd h.wsize h1.wsize,grow:=fun b hk=>(h1.grow b (hnk b hk)).trans (h.grow b hk),own:=fun g T cs hm=>⟨fun hk=>(h1.own g T cs hm).1 (hnk g hk),(h1.own g T cs hm).2⟩,
          nodup:=h1.nodup,facts:=fun f hf=>f.keep hle (h.facts f hf),base:=h.base,obase:=h.obase,ownO:=h1.ownO,io:=⟨h1.io.1.trans h.io.1,h1.io.2.trans h.io.2⟩ }
theorem Qjk {D:List Nat} {us:List AV}:∀ {os:List Oper} {ds:List Sg} {k:Nat},APs P ops n L B D us k ds os→∀ (i:Nat) dep o,ds[i]? = some dep→os[i]? = some o→AP P ops n o (D.getD (k+i) 0) (us.getD (k+i) .un) (dep++L) B
  | [],_,_,_,i,_,_,_,ho=>by simp at ho
  | _::_,[],_,_,i,_,_,hd,_=>by simp at hd
  | o::os,dp::ds,k,h,0,dep,o',hd,ho=>by simp at hd ho; subst hd; subst ho; exact h.1
  |
   o::os,dp::ds,k,h,i+1,dep,o',hd,ho=>by
   have:=Qjk h.2 i dep o' (by simpa using hd) (by simpa using ho)
   rw [show k+(i+1)=k+1+i from by omega]
   exact this
theorem U8 (D:List Nat) (j:Nat) (h:j<D.length):dd (D.map some++[none]) j=D.getD j 0∧dE (D.map some++[none]) j=true:=by
  unfold dd dE
  simp [V6,qZy,h]
theorem Nt (D:List Nat):dE (D.map some++[none]) D.length=false:=by
  unfold dE
  simp [V6]
theorem Qhf (D:List Nat) (v:Nat→Value) (js:List Nat) (h:∀ j∈js,j<D.length):dL (D.map some++[none]) v js=js.map fun j=>(D.getD j 0,v j):=by
  unfold dL
  have:js.filter (dE (D.map some++[none]))=js:=qVt.2 fun j hj=>(U8 D j (h j hj)).2
  rw [this]
  exact qJr fun j hj=>by rw [(U8 D j (h j hj)).1]
theorem Qnp (D:List Nat) (v:Nat→Value):dL (D.map some++[none]) v (List.range (D.length+1))=(List.range D.length).map fun j=>(D.getD j 0,v j):=by
  have h:=Qhf D v (List.range D.length) fun j hj=>Tu.1 hj
  rw [←h]
  unfold dL
  rw [qVw,List.filter_append]
  simp [Nt]
def EOp (P:Program) (ops:Array Oper) (n:Nat) (L:Sg) (B:List OB) (E:List Nat) (i d:Nat) (u:AV) (dep:Sg) (o:Oper):Prop :=
  match E.contains i with
  | true=>True
  | false=>AP P ops n o d u (dep++L) B
def EOps (P:Program) (ops:Array Oper) (n:Nat) (L:Sg) (B:List OB) (E:List Nat) (D:List Nat) (us:List AV):Nat→List Sg→List Oper→Prop
  | i,dep::deps,o::os=>EOp P ops n L B E i (D.getD i 0) (us.getD i .un) dep o∧EOps P ops n L B E D us (i+1) deps os
  | _,_,_=>True
theorem EOps.get {E:List Nat} {D:List Nat} {us:List AV}:∀ {os:List Oper} {ds:List Sg} {k:Nat},EOps P ops n L B E D us k ds os→∀ (i:Nat) dep o,ds[i]? = some dep→os[i]? = some o→EOp P ops n L B E (k+i) (D.getD (k+i) 0) (us.getD (k+i) .un) dep o
  | [],_,_,_,i,_,_,_,ho=>by simp at ho
  | _::_,[],_,_,i,_,_,hd,_=>by simp at hd
  | o::os,dp::ds,k,h,0,dep,o',hd,ho=>by simp at hd ho; subst hd; subst ho; exact h.1
  |
   o::os,dp::ds,k,h,i+1,dep,o',hd,ho=>by
   have:=EOps.get h.2 i dep o' (by simpa using hd) (by simpa using ho)
   rw [show k+(i+1)=k+1+i from by omega]
   exact this
theorem Qk8 {id:Nat} {l:List Oper} {Q:Exit→Sg→List OB→Prop} (hm:P.follows .mixedOrders=true) (c:Nat) (D:List Nat) (deps:List (List Nat)) (us:List AV) (R:List OB→Prop) {o0:Oper} (hchk:K7 l (c+1) (D.map some++[none]) deps=true)
    (hDm:(Nat.beq D.length c && Nat.beq us.length c && deps.all fun js=>js.all fun j=>Nat.blt j c)=true) (hnone:(D.all fun t=>(lk L t).isNone)=true) (ho0:l[c]? = some o0)
    (hops0:APs P l.toArray n L B D us 0 (depsOf D us deps) (l.take c)) (hst0:∀ js,deps[c]? = some js→AMS P l.toArray n o0 (js.map (fun j=>(D.getD j 0,us.getD j .un))++L) B R)
    (hops1:∀ B1,R B1→EOps P l.toArray n L B1 (deps.getD c []) D us 0 (depsOf D us deps) (l.take c))
    (k:∀ B1,R B1→∃ L2,Lr D us L=some L2∧AW P l.toArray n (l.drop (c+1)) (fun L B=>Q .normal L B) L2 B1):AC P n (.region id l.toArray true) Q L B:=by
  rintro K Ob w0 w a ⟨L',Bs,h,hL,hB⟩
  simp only [qXp,C4] at hDm hnone
  obtain ⟨⟨hD,hU⟩,hdl⟩:=hDm
  have hD:=Fj hD
  have hU:=Fj hU
  have hdl:∀ js∈deps,∀ j∈js,j<c:=fun js hj j hjj=>by have:=hdl js hj j hjj; rwa [Mo] at this
  obtain ⟨L3,h1,h2,h3⟩:=only L hL
  have hst:St K Ob w0 w a n L3 [] Bs:={ h with slots:=fun t v hv=>h.slots t v (h2 t v hv) }
  have hst2:=hst.add (f:=SF L L3 [] [] [] []) ⟨h3,rfl,trivial⟩
  have hc:=Hz hchk
  let Inv:(Nat→Bool)→(Nat→Value)→World→List Va→Prop:=fun p v w Bs=>(p c=false∧BsRep w (Q3 Ob Bs) B Bs)∨(p c=true∧(∀ j∈deps.getD c [],p j=true)∧∃ B1,R B1∧BsRep w (Q3 Ob Bs) B1 Bs)
  have hone:∀ (i:Nat) (dj:List Nat) (o:Oper),deps[i]? = some dj→l[i]? = some o→i<c+1→Hn P l.toArray K Ob w0 n L3 [SF L L3 [] [] [] []] Inv (D.map some++[none]) (us.map Rw) i dj o:=by
    intro i dj o hdj ho hi p hpi hpd v Fx a' w' Bs hinv hs
    have hjm:=hdl dj (Vo hdj)
    rw [Qhf D v dj fun j hj=>by rw [hD]; exact hjm j hj] at hs
    have hfacts:∀ j∈dj,ARep w' (Q3 Ob Bs) (v j) (us.getD j .un):=fun j hj=>by
      have:=hs.facts ((us.map Rw).getD j U2 (v j)) (Y7.2 (.inl (Ww.2 ⟨j,hj,rfl⟩)))
      rw [V6,S1,Xx (by rw [hU]; exact hjm j hj)] at this
      rw [V6,Xx (by rw [hU]; exact hjm j hj)]
      exact this
    obtain ⟨h6,_,_⟩:(SF L L3 [] [] [] []).holds w' (Q3 Ob Bs):=hs.facts _ (Y7.2 (.inr (by simp)))
    have hdep:=Ul (D:=D) (us:=us) hdj
    rcases Mq i c with hic | hic
    · have hdk:=U8 D i (by rw [hD]; exact hic)
      have e5:(us.map Rw).getD i U2=Rw (us[i]'(by rw [hU]; exact hic)):=by
        rw [V6,S1,Xx (by rw [hU]; exact hic)]; rfl
      have e6:us.getD i .un=us[i]'(by rw [hU]; exact hic):=by
        rw [V6,Xx (by rw [hU]; exact hic)]; rfl
      have hl:(l.take c)[i]? = some o:=by rw [Ei,if_pos hic]; exact ho
      have hne:c≠i:=by omega
      have hpc:(c == i || p c)=p c:=by simp [hne]
      have plain:∀ (BX:List OB),BsRep w' (Q3 Ob Bs) BX Bs→AP P l.toArray n o (D.getD i 0) (us.getD i .un) (dj.map (fun j=>(D.getD j 0,us.getD j .un))++L) BX →
          (∀ (w2:World) (x:Value),BsRep w2 (Q3 Ob Bs) BX Bs→Inv (fun j=>j == i || p j) (fun j=>if j=i then x else v j) w2 Bs) →
          wpList P l.toArray (fun e a' w'=>e=.normal∧∃ u Bs',Inv (fun j=>j == i || p j) (fun j=>if j=i then u else v j) w' Bs'∧St K Ob w0 w' a' n (if dE (D.map some++[none]) i then [(dd (D.map some++[none]) i,u)] else []) (((us.map Rw).getD i U2) u::([SF L L3 [] [] [] []]++Fx)) Bs') [o] a' w':=by
        intro BX hBX hap hinv2
        have hs2:=hs.add (f:=SF [] [] BX Bs [] []) ⟨fun t x (hh:none=some x)=>(nomatch hh),hBX,trivial⟩
        have hw:=hap K Ob w0 w' a' Bs _ _ hs2 (Ft h6 hfacts) hBX
        refine Wt hs.defers (fun _ _ ⟨_,hh,_⟩=>hh.defers) hw fun a2 w2 hh=>?_
        obtain ⟨x,h8,h9⟩:=hh
        obtain ⟨_,h10,_⟩:=h8.fact 0 rfl
        refine wpList_nil ⟨rfl,x,Bs,hinv2 w2 x h10,?_⟩
        rw [if_pos hdk.2,hdk.1,e5]
        rw [e6] at h9
        have h8:St K Ob w0 w2 a2 n _ ((SF [] [] BX Bs [] []::List.map (fun j=>(List.map Rw us).getD j U2 (v j)) dj)++([SF L L3 [] [] [] []]++Fx)) Bs:=h8
        exact h8.drawEnd (by simp [Z0]) h9
      rcases hinv with ⟨hp,hh⟩ | ⟨hp,hE,B1,hR,hh⟩
      · have hop:=Qjk hops0 i _ o hdep hl
        rw [Vl] at hop
        exact plain B hh hop fun w2 x h10=>.inl ⟨hpc.trans hp,h10⟩
      · have hni:(deps.getD c []).contains i=false:=by
          cases e:(deps.getD c []).contains i
          · rfl
          · have:=hE i (qYj.1 e); rw [hpi] at this; cases this
        have hop:=(hops1 B1 hR).get i _ o hdep hl
        rw [Vl] at hop
        unfold EOp at hop
        rw [hni] at hop
        exact plain B1 hh hop fun w2 x h10=>.inr ⟨hpc.trans hp,fun j hj=>by simp [hE j hj],B1,hR,h10⟩
    · obtain rfl:i=c:=by omega
      obtain rfl:o=o0:=by rw [ho] at ho0; injection ho0
      have hBX:BsRep w' (Q3 Ob Bs) B Bs:=by
        rcases hinv with ⟨_,hh⟩ | ⟨hh,_⟩
        · exact hh
        · rw [hpi] at hh; cases hh
      have hw:=hst0 dj hdj K Ob w0 w' a' Bs _ _ hs (Ft h6 hfacts) hBX
      refine Wt hs.defers (fun _ _ ⟨_,_,_,hh,_⟩=>hh.defers) hw fun a2 w2 hh=>?_
      obtain ⟨Bs',B1,hR,h8,h10⟩:=hh
      refine wpList_nil ⟨rfl,undef,Bs',.inr ⟨by simp,fun j hj=>by
        have hdc:deps.getD i []=dj:=by rw [V6,hdj]; rfl
        rw [hdc] at hj
        simp [hpd j hj],B1,hR,h10⟩,?_⟩
      have hE:dE (D.map some++[none]) i=false:=by rw [←hD]; exact Nt D
      rw [if_neg (by rw [hE]; decide)]
      have e5:(us.map Rw).getD i U2=U2:=by
        rw [V6,Eh (by simp [hU])]; rfl
      rw [e5]
      exact h8.drawEnd0 (f:=U2 undef) trivial
  have hdrawops:∀ (js:List (List Nat)) (os:List Oper) (k:Nat),(∀ i dj o,js[i]? = some dj→os[i]? = some o→Hn P l.toArray K Ob w0 n L3 [SF L L3 [] [] [] []] Inv (D.map some++[none]) (us.map Rw) (k+i) dj o) →
      Np P l.toArray K Ob w0 n L3 [SF L L3 [] [] [] []] Inv (D.map some++[none]) (us.map Rw) k js os:=by
    intro js
    induction js with
    | nil=>intro os k _; cases os <;> trivial
    |
     cons dj js ih =>
     intro os k hall
     rcases os with _ | ⟨o,os⟩
     · trivial
     · refine ⟨by have:=hall 0 dj o rfl rfl; rwa [Mp] at this,ih os (k+1) fun i dj' o' hd ho=>?_⟩
       have:=hall (i+1) dj' o' (by simpa using hd) (by simpa using ho)
       rwa [show k+(i+1)=k+1+i from by omega] at this
  refine Qht hm (c+1) (D.map some++[none]) deps (us.map Rw) Inv hchk hst2 (fun w' hw'=>.inl ⟨rfl,hB.keep (Qds hw' _)⟩) ?_ (hdrawops deps l 0 fun i dj o hd ho=>by
    rw [Vl]
    exact hone i dj o hd ho (by have:=(Uy.1 hd).1; rw [hc.deplen] at this; exact this)) fun p hp v a' w' Bs hinv hs=>?_
  · rw [C4]
    intro j hj
    have hjm:j<c+1:=Tu.1 hj
    rcases Mq j c with hjc | hjc
    · rw [(U8 D j (by rw [hD]; exact hjc)).1]
      have hmem:D.getD j 0∈D:=by rw [V6,Xx (by rw [hD]; exact hjc)]; exact qJa _
      have:=hnone _ hmem
      rw [qXo] at this
      rw [h1 _ this]; simp
    · obtain rfl:j=c:=by omega
      have hE:dE (D.map some++[none]) j=false:=by rw [←hD]; exact Nt D
      rw [hE]; rfl
  · have hdL:=Qnp D v
    rw [hD] at hdL
    rw [hdL] at hs
    have hfacts:∀ j∈List.range c,ARep w' (Q3 Ob Bs) (v j) (us.getD j .un):=fun j hj=>by
      have hjm:=Tu.1 hj
      have:=hs.facts ((us.map Rw).getD j U2 (v j)) (Y7.2 (.inl (Ww.2 ⟨j,Tu.2 (by omega),rfl⟩)))
      rw [V6,S1,Xx (by rw [hU]; exact hjm)] at this
      rw [V6,Xx (by rw [hU]; exact hjm)]
      exact this
    obtain ⟨h6,_,_⟩:(SF L L3 [] [] [] []).holds w' (Q3 Ob Bs):=hs.facts _ (Y7.2 (.inr (by simp)))
    rcases hinv with ⟨hh,_⟩ | ⟨_,_,B1,hR,hB1⟩
    · rw [hp c (by omega)] at hh; cases hh
    · obtain ⟨L2,hz,k⟩:=k B1 hR
      obtain ⟨_,rfl⟩:=Cj hz
      have hzip:D.zip us=(List.range c).map fun j=>(D.getD j 0,us.getD j .un):=by
        apply qVm
        · simp [hD,hU]
        · intro i h1 h2
          simp at h1 h2
          have e1:D[i]? = some D[i]:=Xx (by omega)
          have e2:us[i]? = some (us[i]'(by omega)):=Xx (by omega)
          rw [List.getElem_zip,List.getElem_map,List.getElem_range,V6,V6,e1,e2]; rfl
      rw [hzip] at k
      exact k K Ob w0 w' a' _ ⟨_,Bs,hs.noFacts,Ft h6 hfacts,hB1⟩ fun a2 w2 h=>h
theorem EOps.of {E:List Nat} {D:List Nat} {us:List AV}:∀ {os:List Oper} {ds:List Sg} {k:Nat},APs P ops n L B D us k ds os→EOps P ops n L B E D us k ds os
  | [],ds,_,_=>by cases ds <;> trivial
  | _::_,[],_,_=>trivial
  | o::os,dp::ds,k,h=>⟨by unfold EOp; split; trivial; exact h.1,EOps.of h.2⟩
end Orr

namespace Orr
open Go
section
variable {w:World} {O:Nat→Prop}
end
variable {P:Program} {ops:Array Oper} {n d:Nat} {rest:List Oper} {N:Sg→List OB→Prop} {L:Sg} {B:List OB} {ty:TypeId} {pos:String} {after:Array Edge}
end Orr
namespace Orr
open Go
variable {P:Program} {ops:Array Oper} {n d:Nat} {rest:List Oper} {N:Sg→List OB→Prop} {L:Sg} {B:List OB} {c:Code} {Q:Exit→Sg→List OB→Prop}
theorem SA.swap {K Ob:Nat→Prop} {w0 w:World} {a:Act} {A C:List OB} (h:SA K Ob w0 w a n L (A++C)):SA K Ob w0 w a n L (C++A):=by
  obtain ⟨L',Bs,h1,h2,h3⟩:=h
  obtain ⟨Bi,Bq,rfl,h4,h5⟩:=Qem h3
  have hp:(Bi++Bq).Perm (Bq++Bi):=List.perm_append_comm
  have ho:Q3 Ob (Bi++Bq)=Q3 Ob (Bq++Bi):=by
    funext b
    simp only [Q3]
    rw [show (b∈(Bi++Bq).map (·.1))=(b∈(Bq++Bi).map (·.1)) from propext ((hp.map _).mem_iff)]
  rw [ho] at h2 h4 h5
  exact ⟨L',Bq++Bi,h1.perm hp.symm,h2,Qjm h5 h4⟩
end Orr
namespace Orr
open Go
variable {P:Program} {ops:Array Oper} {n d:Nat} {rest:List Oper} {N:Sg→List OB→Prop} {L:Sg} {B:List OB} {c:Code} {Q:Exit→Sg→List OB→Prop}
theorem SA.slotNil {K Ob:Nat→Prop} {w0 w:World} {a:Act} (h:SA K Ob w0 w a n L B) {t:Nat} (ht:lk L t=some (.one .nils)):SA K Ob w0 w a n ((t,.one (.row []))::L) B:=by
  obtain ⟨L',Bs,h1,h2,h3⟩:=h
  refine ⟨L',Bs,h1,fun s x hx=>?_,h3⟩
  simp only [lk] at hx
  cases e:Nat.beq s t <;> rw [e] at hx
  · exact h2 s x hx
  · injection hx with hx
    subst hx
    rw [Fj e]
    obtain ⟨v,hv,hr⟩:=h2 t _ ht
    exact ⟨v,hv,(Bv (w:=w) (O:=Q3 Ob Bs) hr).x⟩
theorem R0 (t:Nat) (ht:lk L t=some (.one .nils)) (k:AW P ops n rest N ((t,.one (.row []))::L) B):AW P ops n rest N L B:=fun _ _ _ _ _ _ hs hQ=>k _ _ _ _ _ _ (hs.slotNil ht) hQ
end Orr

namespace Orr
open Go Go.Proofs
theorem Hv (l:List Nat) (x:Nat):(l.map fun (x:Nat)=>[LV.int .i64 (x:Int)])++[[.int .i64 (x:Int)]]=(l++[x]).map fun (x:Nat)=>[LV.int .i64 (x:Int)]:=by simp
abbrev P3 (l:List Nat):List (List LV):=l.map fun (x:Nat)=>[.int .i64 (x:Int)]
theorem Gv {l:List Nat} (hd:Dg l) (hl:l.length≤1099511627776):Za Tryz.prog 310 [.one (dl l)] (.one (dl ((dig ((dv l)))))):=by
 refine X4 tt 2 [] qGd Tryz.ntmps310 rfl rfl rfl ?_
 refine Qf tt 1 [] (Qh (m:=l.length) Ji rfl (Zd _) rfl) rfl ?_
 refine Qj [0,3] rfl rfl ?_
 refine Zl (fun m L B=>∃ n,n≤l.length∧(∀ j x,n≤j→l[j]? = some x→x=0)∧m=n∧L=[(0,.one (dl l)),(3,.one (.int .i64 (((n:Nat):Int))))]∧B=[]) (m:=_) ⟨l.length,X2 _,fun j x hj hx=>absurd (Uy.1 hx).1 (by omega),rfl,rfl,rfl⟩ ?_
 rintro m L B ⟨n,hp0,hp1,hm,rfl,rfl⟩
 refine Qq tt rfl ?_
 by_cases hn0:0<n
 ·obtain ⟨y,hy⟩:∃ y,l[n-1]? = some y:=⟨_,Xx (by omega)⟩
  by_cases hy0:y=0
  refine Qq tt rfl ?_
  ·skip
   refine Qr tt 3 rfl ?_
   refine Qf tt 0 [] ((Qc rfl rfl (decide_eq_true (by omega)) (Qw tt rfl rfl))) rfl ?_
   refine Qf tt 0 [] ((Qc rfl rfl (decide_eq_true (by omega)) (Qw tt rfl rfl))) rfl ?_
   refine Qf tt 0 [] ((Qc rfl rfl (decide_eq_true (by omega)) (Z9 (r:=((n-1:Nat):Int)) rfl rfl (Qm (by omega) (by omega)) rfl))) rfl ?_
   refine Qf tt 0 [] ((Qc rfl rfl (decide_eq_true (by omega)) (Qi (n-1) Ji Xw rfl rfl (rfl) (Qg hy) rfl rfl))) rfl ?_
   refine Qf tt 0 [] ((Qc rfl rfl (decide_eq_true (by omega)) (Qw tt rfl rfl))) rfl ?_
   refine Qf tt 0 [] ((Qc rfl rfl (decide_eq_true (by omega)) (Qw tt rfl rfl))) rfl ?_
   refine Qf tt 0 [] (Zs rfl (decide_eq_true (by omega)) rfl rfl) rfl ?_
   refine Xh tt 1 [] (decide_eq_true (by omega)) rfl rfl ?_
   refine Qf tt 1 [] (Z9 (r:=((n-1:Nat):Int)) rfl rfl (Qm (by omega) (by omega)) rfl) rfl ?_
   refine Qj [0,3] rfl rfl ?_
   refine Q8 ?_
   refine ⟨_,?_,n-1,by omega,fun j x hj hx=>by
     rcases Mq j n with h1 | h1
     ·have:j=n-1:=by omega
      subst this; rw [hy] at hx; injection hx with hx; rw [←hx]; exact hy0
     ·exact hp1 j x h1 hx,rfl,rfl,rfl⟩
   omega
  skip
  refine Qr tt 3 rfl ?_
  refine Qf tt 0 [] ((Qc rfl rfl (decide_eq_true (by omega)) (Qw tt rfl rfl))) rfl ?_
  refine Qf tt 0 [] ((Qc rfl rfl (decide_eq_true (by omega)) (Qw tt rfl rfl))) rfl ?_
  refine Qf tt 0 [] ((Qc rfl rfl (decide_eq_true (by omega)) (Z9 (r:=((n-1:Nat):Int)) rfl rfl (Qm (by omega) (by omega)) rfl))) rfl ?_
  refine Qf tt 0 [] ((Qc rfl rfl (decide_eq_true (by omega)) (Qi (n-1) Ji Xw rfl rfl (rfl) (Qg hy) rfl rfl))) rfl ?_
  refine Qf tt 0 [] ((Qc rfl rfl (decide_eq_true (by omega)) (Qw tt rfl rfl))) rfl ?_
  refine Qf tt 0 [] ((Qc rfl rfl (decide_eq_true (by omega)) (Qw tt rfl rfl))) rfl ?_
  refine Qf tt 0 [] (Zs rfl (decide_eq_true (by omega)) rfl rfl) rfl ?_
  refine Z8 tt 2 [] (decide_eq_false (by omega)) rfl rfl ?_
  have hcut:=Qfb (l:=l) (m:=n) hd hp0 hp1 (fun _=>⟨y,hy,hy0⟩)
  refine Qf tt 1 [] (Yc n Ji Xw rfl rfl rfl (by rw [Zr]; omega) (Jj l (sz:=1) (fun _=>rfl)) (l':=P3 (dig (dv l))) (by rw [←hcut]; simp [Ix]) rfl) rfl ?_
  exact Xp tt [] rfl (rfl)
 skip
 refine Qr tt 3 rfl ?_
 refine Qf tt 0 [] (Qk rfl rfl (decide_eq_false (by omega)) rfl) rfl ?_
 refine Qf tt 0 [] (Qk rfl rfl (decide_eq_false (by omega)) rfl) rfl ?_
 refine Qf tt 0 [] (Qk rfl rfl (decide_eq_false (by omega)) rfl) rfl ?_
 refine Qf tt 0 [] (Qk rfl rfl (decide_eq_false (by omega)) rfl) rfl ?_
 refine Qf tt 0 [] (Qk rfl rfl (decide_eq_false (by omega)) rfl) rfl ?_
 refine Qf tt 0 [] (Qk rfl rfl (decide_eq_false (by omega)) rfl) rfl ?_
 refine Qf tt 0 [] (Zw rfl (decide_eq_false (by omega)) rfl rfl) rfl ?_
 refine Z8 tt 2 [] (rfl) rfl rfl ?_
 have hcut:=Qfb (l:=l) (m:=n) hd hp0 hp1 (fun h=>absurd h hn0)
 refine Qf tt 1 [] (Yc n Ji Xw rfl rfl rfl (by rw [Zr]; omega) (Jj l (sz:=1) (fun _=>rfl)) (l':=P3 (dig (dv l))) (by rw [←hcut]; simp [Ix]) rfl) rfl ?_
 exact Xp tt [] rfl (rfl)
theorem U7 {x mu c0:Nat} (hx:sz x≤100000000) (hmu:mu≤65536) (hc:c0≤1000000000):Za Tryz.prog 260 [.one (dl ((dig x))),.one (.int .i64 (((mu:Nat):Int))),.one (.int .i64 (((c0:Nat):Int)))] (.one (dl ((dig ((x*mu+c0)))))):=by
 refine X4 tt 0 [] qGs Tryz.ntmps260 rfl rfl rfl ?_
 have hxl:=Xz x
 skip
 refine Qr tt 2 rfl ?_
 refine Qf tt 0 [] (Qh (m:=((dig x)).length) Ji rfl (Zd _) rfl) rfl ?_
 refine kw (Zb (r:=(((dig x).length+2:Nat):Int)) rfl rfl (Qm (by omega) (by omega)) rfl) ?_
 refine Zn (Qqz ((dig x).length+2) Ji qWz rfl Xw qWr rfl rfl rfl rfl rfl rfl rfl (rfl) (by omega) rfl fun r1=>ko ?_)
 refine Qr tt 2 rfl ?_
 refine Qj [0,1,2,7,8] rfl rfl ?_
 refine Zl (fun m L B=>∃ i c r o,Dg o∧o.length=i∧dv o+c*10000^i=dv ((dig x).take i)*mu+c0∧(i≤(dig x).length∨i+(dig c).length≤(dig x).length+3)∧c≤1000000000∧m=((dig x).length-i)*4+(dig c).length∧L=[(0,.one (dl ((dig x)))),(1,.one (.int .i64 (((mu:Nat):Int)))),(2,.one (.int .i64 (((c:Nat):Int)))),(7,.one (.orow r 1 0 i)),(8,.one (.int .i64 (((i:Nat):Int))))]∧B=[.row r 3 1 (P3 o)]) (m:=_) ⟨0,c0,_,[],Dg.nil,rfl,by simp [dv],.inl (K6 _),hc,rfl,rfl,rfl⟩ ?_
 rintro m L B ⟨i,c,r,o,hp0,hp1,hp2,hp3,hp4,hm,rfl,rfl⟩
 refine Qq tt rfl ?_
 have hxl:=Xz x
 have hcl:=Qal (x:=c) (by omega)
 by_cases h1:i<(dig x).length
 ·obtain ⟨d,hd⟩:∃ d,(dig x)[i]? = some d:=⟨_,Xx h1⟩
  have hd9:=Um x d (Vo hd)
  have hdm:d*mu≤9999*65536:=qJd (by omega) hmu
  have hc3:=Qal (x:=(c+d*mu) / 10000) (by omega)
  refine Qr tt 2 rfl ?_
  refine Qf tt 2 [] (Qh (m:=((dig x)).length) Ji rfl (Zd _) rfl) rfl ?_
  refine Qf tt 0 [] (Qk rfl rfl (decide_eq_true (by omega)) rfl) rfl ?_
  refine Qf tt 0 [] (Qk rfl rfl (decide_eq_true (by omega)) rfl) rfl ?_
  refine Qf tt 0 [] (Zs rfl (decide_eq_true (by omega)) rfl rfl) rfl ?_
  refine Xh tt 2 [] (rfl) rfl rfl ?_
  refine Qf tt 1 [] (Qh (m:=((dig x)).length) Ji rfl (Zd _) rfl) rfl ?_
  refine Xh tt 3 [] (decide_eq_true (by omega)) rfl rfl ?_
  refine Qf tt 2 [] (Qi (i) Ji Xw rfl rfl (rfl) (Qg hd) rfl rfl) rfl ?_
  refine Qf tt 0 [] (Qkb (r:=((d*mu:Nat):Int)) rfl rfl (Qm (qYi d mu).symm (by omega)) rfl) rfl ?_
  refine Qf tt 3 [] (Zb (r:=((c+(d*mu):Nat):Int)) rfl rfl (Qm (by omega) (by omega)) rfl) rfl ?_
  refine Qf tt 1 [] (Gr (r:=(((c+(d*mu)) % 10000:Nat):Int)) rfl rfl (by decide) (rfl) rfl) rfl ?_
  refine Zn (Zg (ls2:=(P3 (o++[(c+(d*mu)) % 10000]))) (m2:=i+1) 0 Ji Ji qWz rfl rfl Xw qWr rfl rfl rfl rfl rfl rfl rfl (by rw [Zr]; omega) (Js rfl) (Jx rfl) (by show _+1<_; omega) (by rw [Y0 (by rw [Zr]; omega)]; exact Hv _ _) (rfl) fun r2=>ko ?_)
  refine Qr tt 2 rfl ?_
  refine Qf tt 2 [] (Fk (r:=(((c+(d*mu)) / 10000:Nat):Int)) rfl rfl (by decide) (by rw [show Int.tdiv (((c+(d*mu)):Nat):Int) 10000=(((c+(d*mu)) / 10000:Nat):Int) from rfl]; exact Xq (by omega) (by omega)) rfl) rfl ?_
  refine Qf tt 1 [] (Zb (r:=((i+1:Nat):Int)) rfl rfl (Qm (by omega) (by omega)) rfl) rfl ?_
  refine Qj [0,1,2,7,8] rfl rfl ?_
  refine Q8 ?_
  refine ⟨_,?_,i+1,(c+(d*mu)) / 10000,r2,o++[(c+(d*mu)) % 10000],hp0.snoc (Tv _ (by decide)),by rw [Fl]; show o.length+1=_; omega,by rw [Wo,Ki hd,hp1,Nc]; simp only [dv,qXz,Mp]; have:=Qam (d:=d) (m:=mu) rfl hp2; rw [this]; grind,.inl (by omega),by omega,rfl,rfl,rfl⟩
  omega
 by_cases h2:0<c
 refine Qq tt rfl ?_
 ·have hdc:=Gu (x:=c) (by omega)
  refine Qr tt 2 rfl ?_
  refine Qf tt 2 [] (Qh (m:=((dig x)).length) Ji rfl (Zd _) rfl) rfl ?_
  refine Qf tt 0 [] ((Qc rfl rfl (decide_eq_false (by omega)) (Qw tt rfl rfl))) rfl ?_
  refine Qf tt 0 [] ((Qc rfl rfl (decide_eq_false (by omega)) (Qw tt rfl rfl))) rfl ?_
  refine Qf tt 0 [] (Zw rfl (decide_eq_false (by omega)) rfl rfl) rfl ?_
  refine Xh tt 2 [] (decide_eq_true (by omega)) rfl rfl ?_
  refine Qf tt 1 [] (Qh (m:=((dig x)).length) Ji rfl (Zd _) rfl) rfl ?_
  refine Z8 tt 2 [] (decide_eq_false (by omega)) rfl rfl ?_
  refine Qf tt 1 [] (Gr (r:=((c % 10000:Nat):Int)) rfl rfl (by decide) (rfl) rfl) rfl ?_
  refine Zn (Zg (ls2:=(P3 (o++[c % 10000]))) (m2:=i+1) 0 Ji Ji qWz rfl rfl Xw qWr rfl rfl rfl rfl rfl rfl rfl (by rw [Zr]; omega) (Js rfl) (Jx rfl) (by show _+1<_; omega) (by rw [Y0 (by rw [Zr]; omega)]; exact Hv _ _) (rfl) fun r3=>ko ?_)
  refine Qr tt 2 rfl ?_
  refine Qf tt 2 [] (Fk (r:=((c / 10000:Nat):Int)) rfl rfl (by decide) (by rw [show Int.tdiv ((c:Nat):Int) 10000=((c / 10000:Nat):Int) from rfl]; exact Xq (by omega) (by omega)) rfl) rfl ?_
  refine Qf tt 1 [] (Zb (r:=((i+1:Nat):Int)) rfl rfl (Qm (by omega) (by omega)) rfl) rfl ?_
  refine Qj [0,1,2,7,8] rfl rfl ?_
  refine Q8 ?_
  refine ⟨_,?_,i+1,c / 10000,r3,o++[c % 10000],hp0.snoc (Tv _ (by decide)),by rw [Fl]; show o.length+1=_; omega,by rw [Wo,hp1,Nc]; simp only [dv,qXz,Mp]; have:=Qam (d:=0) (m:=mu) rfl hp2; simp only [qYr,qXz,Mp] at this; rw [this,Y0 (by omega),Y0 (by omega)],.inr (by omega),by omega,rfl,rfl,rfl⟩
  omega
 skip
 refine Qr tt 2 rfl ?_
 refine Qf tt 2 [] (Qh (m:=((dig x)).length) Ji rfl (Zd _) rfl) rfl ?_
 refine Qf tt 0 [] ((Qc rfl rfl (decide_eq_false (by omega)) (Qw tt rfl rfl))) rfl ?_
 refine Qf tt 0 [] ((Qc rfl rfl (decide_eq_false (by omega)) (Qw tt rfl rfl))) rfl ?_
 refine Qf tt 0 [] (Zw rfl (decide_eq_false (by omega)) rfl rfl) rfl ?_
 refine Z8 tt 1 [] (decide_eq_false (by omega)) rfl rfl ?_
 refine X5 (fun _ k_=>Xe 0 [42] rfl (Zc rfl) (by rw [Zr]; omega) (by rw [Zr]; omega) rfl (Qo k_)) rfl ?_
 refine Qq tt rfl ?_
 refine kl tt 1 [] qGd rfl rfl rfl (Gv (hp0) (by omega)) rfl rfl ?_
 exact Xp tt [] rfl (by rw [show dv o=x*mu+c0 from by have h:=hp2; rw [Y0 (by omega),Ve,show c=0 by omega] at h; omega])
theorem Ds {x kd:Nat} (hx:sz x≤100000000) (hk:0<kd∧kd≤65536):Za Tryz.prog 289 [.one (dl ((dig x))),.one (.int .i64 (((kd:Nat):Int)))] (.tup [.one (dl ((dig ((x / kd))))),.one (.int .i64 (((x % kd:Nat):Int)))]):=by
 refine X4 tt 0 [] Tryz.func289 Tryz.ntmps289 rfl rfl rfl ?_
 have hxl:=Xz x
 skip
 refine Qr tt 3 rfl ?_
 refine kw (Qh (m:=((dig x)).length) Ji rfl (Zd _) rfl) ?_
 refine Zn (G4 ((dig x).length) Ji qWz rfl Xw qWr rfl rfl rfl rfl rfl rfl (rfl) (rfl) (by omega) rfl fun r1=>ko ?_)
 refine X5 (fun _ k_=>Jq 0 rfl (show _=P3 (List.replicate (dig x).length 0) by simp) (Qo k_)) rfl ?_
 refine Qr tt 3 rfl ?_
 refine Qf tt 0 [] (Qh (m:=((dig x)).length) Ji rfl (Zd _) rfl) rfl ?_
 refine Qf tt 1 [] (Z9 (r:=((((dig x).length:Nat):Int)-1)) rfl rfl (Qm rfl (by omega)) rfl) rfl ?_
 refine Qj [0,1,6,7,8] rfl rfl ?_
 refine Zl (fun m L B=>∃ j rr o,j≤(dig x).length∧o.length=(dig x).length∧Dg o∧dv (o.drop j)=dv ((dig x).drop j) / kd∧rr=dv ((dig x).drop j) % kd∧m=j∧L=[(0,.one (dl ((dig x)))),(1,.one (.int .i64 (((kd:Nat):Int)))),(6,.one (.orow r1 1 0 ((dig x).length))),(7,.one (.int .i64 (((rr:Nat):Int)))),(8,.one (.int .i64 ((((j:Nat):Int)-1))))]∧B=[.row r1 3 1 (P3 o)]) (m:=_) ⟨(dig x).length,0,List.replicate (dig x).length 0,X2 _,qZn ..,Dg.zeros _,by rw [Ll (by simp),Ll (X2 _)]; simp [dv],by rw [Ll (X2 _)]; simp [dv],rfl,rfl,rfl⟩ ?_
 rintro m L B ⟨j,rr,o,hp0,hp1,hp2,hp3,hp4,hm,rfl,rfl⟩
 refine Qq tt rfl ?_
 have hxl:=Xz x
 by_cases h1:0<j
 ·obtain ⟨d,hd⟩:∃ d,(dig x)[j-1]? = some d:=⟨_,Xx (by omega)⟩
  obtain ⟨y,hoj⟩:∃ y,o[j-1]? = some y:=⟨_,Xx (by omega)⟩
  have hd9:=Um x d (Vo hd)
  have hdd:=N9 hd
  rw [show j-1+1=j by omega] at hdd
  obtain ⟨hq1,hq2,hq3⟩:=Qfd (V:=dv ((dig x).drop j)) (kd:=kd) (d:=d) hk.1
  rw [←hdd,←hp4] at hq1 hq2
  rw [←hp4] at hq3
  have hq3:=hq3 hd9
  have hrr:rr<kd:=by rw [hp4]; exact Tv _ hk.1
  refine Qr tt 2 rfl ?_
  refine Xh tt 1 [] (decide_eq_true (by omega)) rfl rfl ?_
  refine Qf tt 2 [] (Qkb (r:=((rr*10000:Nat):Int)) rfl rfl (Qm (by omega) (by omega)) rfl) rfl ?_
  refine Qf tt 1 [] (Qi (j-1) Ji Xw rfl rfl (by omega) (Qg hd) rfl rfl) rfl ?_
  refine Qf tt 5 [] (Zb (r:=(((rr*10000)+d:Nat):Int)) rfl rfl (Qm (by omega) (by omega)) rfl) rfl ?_
  refine Qf tt 0 [] (Fk (r:=(((rr*10000+d) / kd:Nat):Int)) rfl rfl (by omega) (by rw [show Int.tdiv (((rr*10000+d):Nat):Int) ((kd:Nat):Int)=(((rr*10000+d) / kd:Nat):Int) from rfl]; exact Xq (Int.le_trans (by decide) (qYf _)) (by have h:=Int.ofNat_lt.2 hq3; omega)) rfl) rfl ?_
  refine kw (Zi (j-1) Ji Xw rfl rfl (by omega) (by omega) rfl) ?_
  refine Zn (Jp (ls2:=P3 (o.set (j-1) ((rr*10000+d) / kd))) 0 Xw rfl rfl rfl rfl rfl rfl (by rw [Vl]; exact Qg hoj) rfl (by rw [Vl]; exact Uh (fun (x:Nat)=>[LV.int .i64 (x:Int)]) _ _ _) (ko ?_))
  refine Qr tt 2 rfl ?_
  refine Qf tt 2 [] (Gr (r:=(((rr*10000+d) % kd:Nat):Int)) rfl rfl (by omega) (rfl) rfl) rfl ?_
  refine Qf tt 1 [] (Z9 (r:=(((j-1:Nat):Int)-1)) rfl rfl (Qm (by omega) (by omega)) rfl) rfl ?_
  refine Qj [0,1,6,7,8] rfl rfl ?_
  refine Q8 ?_
  refine ⟨_,?_,j-1,_,o.set (j-1) ((rr*10000+d) / kd),by omega,by rw [H6]; exact hp1,hp2.set hq3,by rw [Cr (by omega),show j-1+1=j by omega]; simp only [dv]; rw [hp3,hq1],by rw [hq2],rfl,rfl,rfl⟩
  omega
 have hj:j=0:=by omega
 subst hj
 refine Qr tt 2 rfl ?_
 refine Z8 tt 1 [] (decide_eq_false (by omega)) rfl rfl ?_
 refine X5 (fun _ k_=>Xe 0 [36] rfl (Zc rfl) (by rw [Zr]; omega) (by rw [Zr]; omega) rfl (Qo k_)) rfl ?_
 refine Qq tt rfl ?_
 refine kl tt 3 [] qGd rfl rfl rfl (Gv (hp2) (by omega)) rfl rfl ?_
 exact kr2 tt [] rfl (by rw [show dv o=x / kd from by have h:=hp3; rw [qXf,qXf,Ve] at h; exact h,show rr=x % kd from by have h:=hp4; rw [qXf,Ve] at h; exact h])
theorem Qa5 (x:Nat):(V4 x).length≤sz x:=by
 have:=Quq (x:Int)
 simp only [qVz,Xj] at this
 rcases Hl x with h | h
 ·subst h; rw [Un]; exact K6 _
 have:1≤sz x:=by
  rcases Hl (sz x) with h0 | h0
  ·have:=Mm x; rw [h0] at this; simp at this; omega
  ·exact h0
 omega
theorem Qh2 {x:Nat} {o:List Nat} {y:Nat} (h:V4 y=o++V4 x) (h0:x≠0):V4 y=(o++[x / 65536 % 65536*65536+x % 65536])++V4 (x / 65536 / 65536):=by
 rw [h,Po h0,P6]
 rw [show x / 65536 / 65536=x / 4294967296 by omega,show x / 65536 % 65536*65536+x % 65536=x % 4294967296 by omega]; rfl
theorem Qb2 {z:Int} (h:0≤z∧z≤4294967295):IntKind.u32.wrap z=z:=by
 simp [IntKind.wrap,IntKind.bits,IntKind.signed]; omega
theorem Qd7 {a z:Int} (h:a=z) (h1:0≤z∧z≤4294967295):IntKind.u32.wrap a=z:=by rw [h]; exact Qb2 h1
theorem Qi8 (x k:Nat):sz (x / k)≤sz x:=J9 (qYk _ _)
theorem Qpr (l:List Nat) (x:Nat):(l.map fun (x:Nat)=>[LV.int .u32 (x:Int)])++[[.int .u32 (x:Int)]]=(l++[x]).map fun (x:Nat)=>[LV.int .u32 (x:Int)]:=by simp
theorem Qll {x:Nat} (hx:sz x≤100000000):Za Tryz.prog 230 [.one (dl ((dig x)))] (.one (Xv (V4 x))):=by
 refine X4 tt 2 [] Tryz.func230 Tryz.ntmps230 rfl rfl rfl ?_
 refine X5 (fun _ k_=>Xy [3] 276 1 rfl (Zc rfl) rfl (Qo k_)) rfl ?_
 refine Qj [0,3] rfl rfl ?_
 refine Zl (fun m L B=>∃ y r o,V4 x=o++V4 y∧sz y≤sz x∧o.length≤(V4 x).length∧m=y∧L=[(0,.one (dl ((dig y)))),(3,.one (.orow r 1 0 o.length))]∧B=[.row r 276 1 ((o.map fun (x:Nat)=>[LV.int .u32 (x:Int)]))]) (m:=_) ⟨x,none,[],rfl,X2 _,K6 _,rfl,rfl,rfl⟩ ?_
 rintro m L B ⟨y,r,o,hp0,hp1,hp2,hm,rfl,rfl⟩
 refine Qq tt rfl ?_
 have hlx:=Qa5 x
 by_cases h1:y=0
 ·rw [h1,Un,qXg] at hp0
  refine Qr tt 1 rfl ?_
  refine Qf tt 1 [] (Qh (m:=((dig y)).length) Ji rfl (Zd _) rfl) rfl ?_
  refine Z8 tt 2 [] (decide_eq_false (by rw [h1,J4]; decide)) rfl rfl ?_
  refine X5 (fun _ k_=>Xe (L2:=_) 0 [2] rfl (Zc rfl) (by rw [Zr]) (by rw [Zr,←hp0]; omega) rfl (Qo k_)) rfl ?_
  exact Xp tt [] rfl (by rw [hp0]; rfl)
 have hol:=Qh2 hp0 h1
 refine Qr tt 1 rfl ?_
 refine Qf tt 1 [] (Qh (m:=((dig y)).length) Ji rfl (Zd _) rfl) rfl ?_
 refine Xh tt 1 [] (decide_eq_true (by have:=Gu h1; omega)) rfl rfl ?_
 refine kl tt 6 [] Tryz.func289 rfl rfl rfl (Ds (x:=y) (kd:=65536) (by omega) (by omega)) rfl rfl ?_
 refine kl tt 7 [] Tryz.func289 rfl rfl rfl (Ds (x:=((y / 65536))) (kd:=65536) (Xd (Qi8 _ _) (by omega)) (by omega)) rfl rfl ?_
 refine Qf tt 0 [] (Gz (r:=((y / 65536 % 65536:Nat):Int)) qWj Uo rfl (Qd7 rfl (by omega)) rfl) rfl ?_
 refine Qf tt 1 [] (Qkb (r:=((y / 65536 % 65536*65536:Nat):Int)) rfl rfl (Qd7 (by omega) (by omega)) rfl) rfl ?_
 refine Qf tt 0 [] (Gz (r:=((y % 65536:Nat):Int)) qWj Uo rfl (Qd7 rfl (by omega)) rfl) rfl ?_
 refine Qf tt 1 [] (Zb (r:=((y / 65536 % 65536*65536+y % 65536:Nat):Int)) rfl rfl (Qd7 (by omega) (by omega)) rfl) rfl ?_
 refine Zn (Zg (ls2:=((o++[y / 65536 % 65536*65536+y % 65536]).map fun (x:Nat)=>[LV.int .u32 (x:Int)])) (m2:=(o++[y / 65536 % 65536*65536+y % 65536]).length) 0 Jc Jc qUj rfl rfl Y4 qWl rfl rfl rfl rfl rfl rfl rfl (by rw [Zr]; exact X2 _) (Js rfl) (Jx rfl) (by show _+1<_; omega) (by rw [Y0 (by rw [Zr]; exact X2 _)]; exact Qpr _ _) (by rw [Fl]; rfl) fun r1=>ko ?_)
 refine Qr tt 3 rfl ?_
 refine Qj [0,3] rfl rfl ?_
 refine Q8 ?_
 refine ⟨_,?_,y / 65536 / 65536,r1,o++[y / 65536 % 65536*65536+y % 65536],hol,Xd (Qi8 _ _) (Xd (Qi8 _ _) hp1),by rw [hol]; exact (List.sublist_append_left _ _).length_le,rfl,rfl,rfl⟩
 omega
theorem La:∀ (l:List Nat) (j:Nat),val (l.drop j)≤val l
 | l,0=>by simp
 | [],j+1=>by simp
 | x::l,j+1=>by
  have:=La l j
  simp only [qVs,val]; omega
theorem Qj7:nd 0=.row []:=by unfold nd; rw [J4]; rfl
theorem Qe2 {l:List Nat} (hu:∀ u∈l,u<4294967296) (hl:l.length≤1099511627776) (hx:sz (val l)≤100000000):Za Tryz.prog 263 [.one (Xv l)] (.one (dl ((dig ((val l)))))):=by
 refine X4 tt 3 [] Tryz.func263 Tryz.ntmps263 rfl rfl rfl ?_
 refine Qf tt 0 [] (Qh (m:=l.length) Jc rfl (by simp [Vq,Xv]) rfl) rfl ?_
 refine Qf tt 1 [] (Z9 (r:=(((l.length:Nat):Int)-1)) rfl rfl (Qm rfl (by omega)) rfl) rfl ?_
 refine X5 (fun _ k_=>R0 3 rfl (Qo k_)) rfl ?_
 refine X5 (fun _ k_=>Xs 3 (y:=.one (nd 0)) rfl (by rw [Qj7]) (Qo k_)) rfl ?_
 refine Qj [0,3,4] rfl rfl ?_
 refine Zl (fun m L B=>∃ j V,j≤l.length∧V=val (l.drop j)∧m=j∧L=[(0,.one (Xv l)),(3,.one (dl ((dig V)))),(4,.one (.int .i64 ((((j:Nat):Int)-1))))]∧B=[]) (m:=_) ⟨l.length,0,X2 _,by rw [Ll (X2 _)]; rfl,rfl,rfl,rfl⟩ ?_
 rintro m L B ⟨j,V,hp0,hp1,hm,rfl,rfl⟩
 refine Qq tt rfl ?_
 by_cases h1:0<j
 ·obtain ⟨d,hd⟩:∃ d,l[j-1]? = some d:=⟨_,Xx (by omega)⟩
  have hd9:=hu d (Vo hd)
  have hdd:=Pd l (j-1) d hd
  rw [show j-1+1=j by omega,←hp1] at hdd
  have hle:=La l (j-1)
  have hs2:sz (V*65536+d / 65536)≤100000000:=Xd (J9 (by omega)) hx
  have hs1:sz V≤100000000:=Xd (J9 (by omega)) hx
  refine Qr tt 2 rfl ?_
  refine Xh tt 3 [] (decide_eq_true (by omega)) rfl rfl ?_
  refine Qf tt 1 [] (Qi (j-1) Jc Y4 rfl rfl (by omega) (Qg hd) rfl rfl) rfl ?_
  refine Qf tt 0 [] (Fk (r:=((d / 65536:Nat):Int)) rfl rfl (by decide) (by rw [show Int.tdiv ((d:Nat):Int) 65536=((d / 65536:Nat):Int) from rfl]; exact Qb2 (by omega)) rfl) rfl ?_
  refine Qf tt 0 [] (Gz (r:=((d / 65536:Nat):Int)) Uo qWj rfl (Qm rfl (by omega)) rfl) rfl ?_
  refine kl tt 4 [] qGs rfl rfl rfl (U7 (x:=V) (mu:=65536) (c0:=(d / 65536)) (hs1) (by omega) (by omega)) rfl rfl ?_
  refine Qf tt 1 [] (Qi (j-1) Jc Y4 rfl rfl (by omega) (Qg hd) rfl rfl) rfl ?_
  refine Qf tt 0 [] (Gr (r:=((d % 65536:Nat):Int)) rfl rfl (by decide) (rfl) rfl) rfl ?_
  refine Qf tt 0 [] (Gz (r:=((d % 65536:Nat):Int)) Uo qWj rfl (Qm rfl (by omega)) rfl) rfl ?_
  refine kl tt 2 [] qGs rfl rfl rfl (U7 (x:=((V*65536+(d / 65536)))) (mu:=65536) (c0:=(d % 65536)) (hs2) (by omega) (by omega)) rfl rfl ?_
  refine Qf tt 1 [] (Z9 (r:=(((j-1:Nat):Int)-1)) rfl rfl (Qm (by omega) (by omega)) rfl) rfl ?_
  refine Qj [0,3,4] rfl rfl ?_
  refine Q8 ?_
  refine ⟨_,?_,j-1,_,by omega,by rw [hdd]; omega,rfl,rfl,rfl⟩
  omega
 have hj:j=0:=by omega
 subst hj
 refine Qr tt 2 rfl ?_
 refine Z8 tt 2 [] (decide_eq_false (by omega)) rfl rfl ?_
 exact Xp tt [] rfl (by rw [hp1,qXf])
set_option maxRecDepth 20000 in
theorem R3 {x y:Nat} (hx:sz x≤200000000) (hy:sz y≤200000000):Za Tryz.prog 285 [.one (dl ((dig x))),.one (dl ((dig y)))] (.one (.int .i64 ((Tx x y)))):=by
 refine X4 tt 0 [] Tryz.func285 Tryz.ntmps285 rfl rfl rfl ?_
 have hxl:=Xz x
 have hyl:=Xz y
 by_cases hl:(dig x).length=(dig y).length
 ·skip
  refine Qr tt 2 rfl ?_
  refine Qf tt 1 [] (Qh (m:=((dig x)).length) Ji rfl (Zd _) rfl) rfl ?_
  refine Qf tt 1 [] (Qh (m:=((dig y)).length) Ji rfl (Zd _) rfl) rfl ?_
  refine Z8 tt 1 [] (decide_eq_false (by omega)) rfl rfl ?_
  refine Qf tt 0 [] (Qh (m:=((dig x)).length) Ji rfl (Zd _) rfl) rfl ?_
  refine Qf tt 1 [] (Z9 (r:=((((dig x).length:Nat):Int)-1)) rfl rfl (Qm rfl (by omega)) rfl) rfl ?_
  refine Qj [0,1,5] rfl rfl ?_
  refine Zl (fun m L B=>∃ j,j≤(dig x).length∧(dig x).drop j=(dig y).drop j∧m=j∧L=[(0,.one (dl ((dig x)))),(1,.one (dl ((dig y)))),(5,.one (.int .i64 ((((j:Nat):Int)-1))))]∧B=[]) (m:=_) ⟨(dig x).length,X2 _,by rw [Ll (X2 _),Ll (by omega)],rfl,rfl,rfl⟩ ?_
  rintro m L B ⟨j,hp0,hp1,hm,rfl,rfl⟩
  refine Qq tt rfl ?_
  by_cases h1:0<j
  ·obtain ⟨d,hd⟩:∃ d,(dig x)[j-1]? = some d:=⟨_,Xx (by omega)⟩
   obtain ⟨e,he⟩:∃ e,(dig y)[j-1]? = some e:=⟨_,Xx (by omega)⟩
   have hs:(dig x).drop (j-1+1)=(dig y).drop (j-1+1):=by rw [show j-1+1=j by omega]; exact hp1
   by_cases h2:d=e
   refine Qq tt rfl ?_
   ·skip
    refine Qr tt 2 rfl ?_
    refine Xh tt 0 [] (decide_eq_true (by omega)) rfl rfl ?_
    refine Qy 8 Qp rfl rfl rfl ?_
    refine Qr tt 2 rfl ?_
    refine kd (Qi (j-1) Ji Xw rfl rfl (by omega) (Qg hd) rfl rfl) rfl ?_
    refine Qr tt 3 rfl ?_
    refine kd (Qi (j-1) Ji Xw rfl rfl (by omega) (Qg he) rfl rfl) rfl ?_
    refine Qr tt 1 rfl ?_
    refine Qr tt 1 rfl ?_
    refine Z8 tt 1 [] (decide_eq_false (by omega)) rfl rfl ?_
    refine Qf tt 1 [] (Z9 (r:=(((j-1:Nat):Int)-1)) rfl rfl (Qm (by omega) (by omega)) rfl) rfl ?_
    refine Qj [0,1,5] rfl rfl ?_
    refine Q8 ?_
    refine ⟨_,?_,j-1,by omega,by rw [qZw (by omega:j-1<(dig x).length),qZw (by omega:j-1<(dig y).length),hs,(Uy.1 hd).2,(Uy.1 he).2,h2],rfl,rfl,rfl⟩
    omega
   by_cases h3:d<e
   refine Qq tt rfl ?_
   ·have hxy:=Aq (Um x) hd he hs h3
    rw [Ve,Ve] at hxy
    refine Qr tt 2 rfl ?_
    refine Xh tt 0 [] (decide_eq_true (by omega)) rfl rfl ?_
    refine Qy 8 Qp rfl rfl rfl ?_
    refine Qr tt 2 rfl ?_
    refine kd (Qi (j-1) Ji Xw rfl rfl (by omega) (Qg hd) rfl rfl) rfl ?_
    refine Qr tt 3 rfl ?_
    refine kd (Qi (j-1) Ji Xw rfl rfl (by omega) (Qg he) rfl rfl) rfl ?_
    refine Qr tt 1 rfl ?_
    refine Qr tt 1 rfl ?_
    refine Xh tt 0 [] (decide_eq_true (by omega)) rfl rfl ?_
    refine Qy 8 Qp rfl rfl rfl ?_
    refine Qr tt 2 rfl ?_
    refine kd (Qi (j-1) Ji Xw rfl rfl (by omega) (Qg hd) rfl rfl) rfl ?_
    refine Qr tt 3 rfl ?_
    refine kd (Qi (j-1) Ji Xw rfl rfl (by omega) (Qg he) rfl rfl) rfl ?_
    refine Qr tt 1 rfl ?_
    refine Qr tt 1 rfl ?_
    refine Xh tt 1 [] (decide_eq_true (by omega)) rfl rfl ?_
    exact Xp tt [] rfl (by rw [Lv hxy])
   have hxy:=Aq (Um y) he hd hs.symm (by omega)
   rw [Ve,Ve] at hxy
   refine Qr tt 2 rfl ?_
   refine Xh tt 0 [] (decide_eq_true (by omega)) rfl rfl ?_
   refine Qy 8 Qp rfl rfl rfl ?_
   refine Qr tt 2 rfl ?_
   refine kd (Qi (j-1) Ji Xw rfl rfl (by omega) (Qg hd) rfl rfl) rfl ?_
   refine Qr tt 3 rfl ?_
   refine kd (Qi (j-1) Ji Xw rfl rfl (by omega) (Qg he) rfl rfl) rfl ?_
   refine Qr tt 1 rfl ?_
   refine Qr tt 1 rfl ?_
   refine Xh tt 0 [] (decide_eq_true (by omega)) rfl rfl ?_
   refine Qy 8 Qp rfl rfl rfl ?_
   refine Qr tt 2 rfl ?_
   refine kd (Qi (j-1) Ji Xw rfl rfl (by omega) (Qg hd) rfl rfl) rfl ?_
   refine Qr tt 3 rfl ?_
   refine kd (Qi (j-1) Ji Xw rfl rfl (by omega) (Qg he) rfl rfl) rfl ?_
   refine Qr tt 1 rfl ?_
   refine Qr tt 1 rfl ?_
   refine Z8 tt 1 [] (decide_eq_false (by omega)) rfl rfl ?_
   exact Xp tt [] rfl (by rw [Lu hxy])
  have hxy:x=y:=by
   have hj:j=0:=by omega
   subst hj
   rw [qXf,qXf] at hp1
   rw [←Ve x,←Ve y,hp1]
  refine Qr tt 2 rfl ?_
  refine Z8 tt 1 [] (decide_eq_false (by omega)) rfl rfl ?_
  exact Xp tt [] rfl (by rw [Qjn hxy])
 by_cases hlt:(dig x).length<(dig y).length
 refine Qq tt rfl ?_
 ·skip
  refine Qr tt 2 rfl ?_
  refine Qf tt 1 [] (Qh (m:=((dig x)).length) Ji rfl (Zd _) rfl) rfl ?_
  refine Qf tt 1 [] (Qh (m:=((dig y)).length) Ji rfl (Zd _) rfl) rfl ?_
  refine Xh tt 1 [] (decide_eq_true (by omega)) rfl rfl ?_
  refine Qf tt 1 [] (Qh (m:=((dig x)).length) Ji rfl (Zd _) rfl) rfl ?_
  refine Qf tt 1 [] (Qh (m:=((dig y)).length) Ji rfl (Zd _) rfl) rfl ?_
  refine Xh tt 1 [] (decide_eq_true (by omega)) rfl rfl ?_
  exact Xp tt [] rfl (by rw [Lv (Qfa hlt)])
 skip
 refine Qr tt 2 rfl ?_
 refine Qf tt 1 [] (Qh (m:=((dig x)).length) Ji rfl (Zd _) rfl) rfl ?_
 refine Qf tt 1 [] (Qh (m:=((dig y)).length) Ji rfl (Zd _) rfl) rfl ?_
 refine Xh tt 1 [] (decide_eq_true (by omega)) rfl rfl ?_
 refine Qf tt 1 [] (Qh (m:=((dig x)).length) Ji rfl (Zd _) rfl) rfl ?_
 refine Qf tt 1 [] (Qh (m:=((dig y)).length) Ji rfl (Zd _) rfl) rfl ?_
 refine Z8 tt 1 [] (decide_eq_false (by omega)) rfl rfl ?_
 exact Xp tt [] rfl (by rw [Lu (Qfa (by omega))])
theorem Ph {o c s P V:Nat} (h:o+c*P=V):o+P*((c+s) % 10000)+(c+s) / 10000*(P*10000)=V+P*s:=by
 have e:=qXi (c+s) 10000
 generalize (c+s) / 10000=q at *
 generalize (c+s) % 10000=r at *
 have e2:P*(c+s)=P*(10000*q+r):=by rw [e]
 grind
theorem R7 {l:List Nat} {i:Nat} (h:l.length≤i):dv (l.take (i+1))=dv (l.take i):=by rw [Y0 (by omega),Y0 h]
theorem Qnu {l:List Nat} {p v u:Nat} (h:l[p]? = some v):dv (l.set p u)+10000^p*v=dv l+10000^p*u:=by
 have hp:=(Uy.1 h).1
 rw [Qcv (l.set p u) p (by rw [H6]; omega),Qcv l p (by omega),N9 h,Cr hp,List.take_set_of_le (X2 _)]
 simp only [dv]
 generalize 10000^p=P
 grind
theorem R8 {l:List Nat} {p u:Nat} (h:p<l.length):dv ((l.set p u).take (p+1))=dv (l.take p)+10000^p*u:=by
 rw [Ki (l:=l.set p u) (i:=p) (x:=u) (by simp [h]),List.take_set_of_le (X2 _)]
theorem Qhj {x y:Nat} (hx:sz x≤200000000) (hy:sz y≤200000000):Za Tryz.prog 284 [.one (dl ((dig x))),.one (dl ((dig y)))] (.one (dl ((dig ((x+y)))))):=by
 refine X4 tt 0 [] Tryz.func284 Tryz.ntmps284 rfl rfl rfl ?_
 have hxl:=Xz x
 have hyl:=Xz y
 skip
 refine Qr tt 4 rfl ?_
 refine X5 (fun _ k_=>Xy [5] 3 1 rfl (Zc rfl) rfl (Qo k_)) rfl ?_
 refine Qj [0,1,5,6,7] rfl rfl ?_
 refine Zl (fun m L B=>∃ i c r o,Dg o∧o.length=i∧dv o+c*10000^i=dv ((dig x).take i)+dv ((dig y).take i)∧c≤1∧(i≤(max (dig x).length (dig y).length)∨(i=(max (dig x).length (dig y).length)+1∧10000^(max (dig x).length (dig y).length)≤x+y∧c=0))∧m=((max (dig x).length (dig y).length)-i)*2+c∧L=[(0,.one (dl ((dig x)))),(1,.one (dl ((dig y)))),(5,.one (.orow r 1 0 i)),(6,.one (.int .i64 (((c:Nat):Int)))),(7,.one (.int .i64 (((i:Nat):Int))))]∧B=[.row r 3 1 (P3 o)]) (m:=_) ⟨0,0,none,[],Dg.nil,rfl,by simp [dv],by decide,.inl (K6 _),rfl,rfl,rfl⟩ ?_
 rintro m L B ⟨i,c,r,o,hp0,hp1,hp2,hp3,hp4,hm,rfl,rfl⟩
 refine Qq tt rfl ?_
 have hxl:=Xz x
 have hyl:=Xz y
 by_cases h1:i<(dig x).length
 ·by_cases h2:i<(dig y).length
  refine Qq tt rfl ?_
  ·obtain ⟨d,hd⟩:∃ d,(dig x)[i]? = some d:=⟨_,Xx h1⟩
   have hd9:=Um x d (Vo hd)
   obtain ⟨e,he⟩:∃ e,(dig y)[i]? = some e:=⟨_,Xx h2⟩
   have he9:=Um y e (Vo he)
   refine Qr tt 2 rfl ?_
   refine Qf tt 2 [] (Qh (m:=((dig x)).length) Ji rfl (Zd _) rfl) rfl ?_
   refine Qf tt 0 [] (Qk rfl rfl (decide_eq_true (by omega)) rfl) rfl ?_
   refine Qf tt 0 [] (Qk rfl rfl (decide_eq_true (by omega)) rfl) rfl ?_
   refine Qf tt 0 [] (Qk rfl rfl (decide_eq_true (by omega)) rfl) rfl ?_
   refine Qf tt 0 [] (Qk rfl rfl (decide_eq_true (by omega)) rfl) rfl ?_
   refine Qf tt 1 [] (Zs rfl (decide_eq_true (by omega)) rfl rfl) rfl ?_
   refine Qf tt 0 [] (Qk rfl rfl (rfl) rfl) rfl ?_
   refine Qf tt 0 [] (Qk rfl rfl (rfl) rfl) rfl ?_
   refine Qf tt 0 [] (Zs rfl (rfl) rfl rfl) rfl ?_
   refine Xh tt 2 [] (rfl) rfl rfl ?_
   refine Qf tt 1 [] (Qh (m:=((dig x)).length) Ji rfl (Zd _) rfl) rfl ?_
   refine Xh tt 3 [] (decide_eq_true (by omega)) rfl rfl ?_
   refine Qf tt 1 [] (Qi (i) Ji Xw rfl rfl (rfl) (Qg hd) rfl rfl) rfl ?_
   refine Qf tt 3 [] (Zb (r:=((c+d:Nat):Int)) rfl rfl (Qm (by omega) (by omega)) rfl) rfl ?_
   refine Qf tt 1 [] (Qh (m:=((dig y)).length) Ji rfl (Zd _) rfl) rfl ?_
   refine Xh tt 3 [] (decide_eq_true (by omega)) rfl rfl ?_
   refine Qf tt 1 [] (Qi (i) Ji Xw rfl rfl (rfl) (Qg he) rfl rfl) rfl ?_
   refine Qf tt 3 [] (Zb (r:=(((c+d)+e:Nat):Int)) rfl rfl (Qm (by omega) (by omega)) rfl) rfl ?_
   refine Qf tt 1 [] (Gr (r:=((((c+d)+e) % 10000:Nat):Int)) rfl rfl (by decide) (rfl) rfl) rfl ?_
   refine Zn (Zg (ls2:=(P3 (o++[((c+d)+e) % 10000]))) (m2:=i+1) 0 Ji Ji qWz rfl rfl Xw qWr rfl rfl rfl rfl rfl rfl rfl (by rw [Zr]; omega) (Js rfl) (Jx rfl) (by show _+1<_; omega) (by rw [Y0 (by rw [Zr]; omega)]; exact Hv _ _) (rfl) fun r1=>ko ?_)
   refine Qr tt 2 rfl ?_
   refine Qf tt 2 [] (Fk (r:=((((c+d)+e) / 10000:Nat):Int)) rfl rfl (by decide) (by rw [show Int.tdiv ((((c+d)+e):Nat):Int) 10000=((((c+d)+e) / 10000:Nat):Int) from rfl]; exact Xq (by omega) (by omega)) rfl) rfl ?_
   refine Qf tt 1 [] (Zb (r:=((i+1:Nat):Int)) rfl rfl (Qm (by omega) (by omega)) rfl) rfl ?_
   refine Qj [0,1,5,6,7] rfl rfl ?_
   refine Q8 ?_
   refine ⟨_,?_,i+1,((c+d)+e) / 10000,r1,o++[((c+d)+e) % 10000],hp0.snoc (Tv _ (by decide)),by rw [Fl]; show o.length+1=_; omega,by rw [Wo,hp1,Nc]; simp only [dv,qXz,Mp]; have:=Ph (s:=d+e) hp2; simp only [←qYl] at this; rw [this,Ki hd,Ki he]; grind,by omega,.inl (by omega),rfl,rfl,rfl⟩
   omega
  obtain ⟨d,hd⟩:∃ d,(dig x)[i]? = some d:=⟨_,Xx h1⟩
  have hd9:=Um x d (Vo hd)
  refine Qr tt 2 rfl ?_
  refine Qf tt 2 [] (Qh (m:=((dig x)).length) Ji rfl (Zd _) rfl) rfl ?_
  refine Qf tt 0 [] (Qk rfl rfl (decide_eq_true (by omega)) rfl) rfl ?_
  refine Qf tt 0 [] (Qk rfl rfl (decide_eq_true (by omega)) rfl) rfl ?_
  refine Qf tt 0 [] (Qk rfl rfl (decide_eq_true (by omega)) rfl) rfl ?_
  refine Qf tt 0 [] (Qk rfl rfl (decide_eq_true (by omega)) rfl) rfl ?_
  refine Qf tt 1 [] (Zs rfl (decide_eq_true (by omega)) rfl rfl) rfl ?_
  refine Qf tt 0 [] (Qk rfl rfl (rfl) rfl) rfl ?_
  refine Qf tt 0 [] (Qk rfl rfl (rfl) rfl) rfl ?_
  refine Qf tt 0 [] (Zs rfl (rfl) rfl rfl) rfl ?_
  refine Xh tt 2 [] (rfl) rfl rfl ?_
  refine Qf tt 1 [] (Qh (m:=((dig x)).length) Ji rfl (Zd _) rfl) rfl ?_
  refine Xh tt 3 [] (decide_eq_true (by omega)) rfl rfl ?_
  refine Qf tt 1 [] (Qi (i) Ji Xw rfl rfl (rfl) (Qg hd) rfl rfl) rfl ?_
  refine Qf tt 3 [] (Zb (r:=((c+d:Nat):Int)) rfl rfl (Qm (by omega) (by omega)) rfl) rfl ?_
  refine Qf tt 1 [] (Qh (m:=((dig y)).length) Ji rfl (Zd _) rfl) rfl ?_
  refine Z8 tt 2 [] (decide_eq_false (by omega)) rfl rfl ?_
  refine Qf tt 1 [] (Gr (r:=(((c+d) % 10000:Nat):Int)) rfl rfl (by decide) (rfl) rfl) rfl ?_
  refine Zn (Zg (ls2:=(P3 (o++[(c+d) % 10000]))) (m2:=i+1) 0 Ji Ji qWz rfl rfl Xw qWr rfl rfl rfl rfl rfl rfl rfl (by rw [Zr]; omega) (Js rfl) (Jx rfl) (by show _+1<_; omega) (by rw [Y0 (by rw [Zr]; omega)]; exact Hv _ _) (rfl) fun r2=>ko ?_)
  refine Qr tt 2 rfl ?_
  refine Qf tt 2 [] (Fk (r:=(((c+d) / 10000:Nat):Int)) rfl rfl (by decide) (by rw [show Int.tdiv (((c+d):Nat):Int) 10000=(((c+d) / 10000:Nat):Int) from rfl]; exact Xq (by omega) (by omega)) rfl) rfl ?_
  refine Qf tt 1 [] (Zb (r:=((i+1:Nat):Int)) rfl rfl (Qm (by omega) (by omega)) rfl) rfl ?_
  refine Qj [0,1,5,6,7] rfl rfl ?_
  refine Q8 ?_
  refine ⟨_,?_,i+1,(c+d) / 10000,r2,o++[(c+d) % 10000],hp0.snoc (Tv _ (by decide)),by rw [Fl]; show o.length+1=_; omega,by rw [Wo,hp1,Nc]; simp only [dv,qXz,Mp]; have:=Ph (s:=d) hp2; rw [this,Ki hd,R7 (l:=dig y) (by omega)]; grind,by omega,.inl (by omega),rfl,rfl,rfl⟩
  omega
 by_cases h2:i<(dig y).length
 refine Qq tt rfl ?_
 ·obtain ⟨e,he⟩:∃ e,(dig y)[i]? = some e:=⟨_,Xx h2⟩
  have he9:=Um y e (Vo he)
  refine Qr tt 2 rfl ?_
  refine Qf tt 2 [] (Qh (m:=((dig x)).length) Ji rfl (Zd _) rfl) rfl ?_
  refine Qf tt 0 [] ((Qc rfl rfl (decide_eq_false (by omega)) (Qw tt rfl rfl))) rfl ?_
  refine Qf tt 0 [] ((Qc rfl rfl (decide_eq_false (by omega)) (Qw tt rfl rfl))) rfl ?_
  refine Qf tt 0 [] ((Qc rfl rfl (decide_eq_false (by omega)) (Qh (m:=((dig y)).length) Ji rfl (Zd _) rfl))) rfl ?_
  refine Qf tt 0 [] ((Qc rfl rfl (decide_eq_false (by omega)) (Qw tt rfl rfl))) rfl ?_
  refine Qf tt 1 [] (Zw rfl (decide_eq_false (by omega)) rfl rfl) rfl ?_
  refine Qf tt 0 [] (Qk rfl rfl (decide_eq_true (by omega)) rfl) rfl ?_
  refine Qf tt 0 [] (Qk rfl rfl (decide_eq_true (by omega)) rfl) rfl ?_
  refine Qf tt 0 [] (Zs rfl (decide_eq_true (by omega)) rfl rfl) rfl ?_
  refine Xh tt 2 [] (rfl) rfl rfl ?_
  refine Qf tt 1 [] (Qh (m:=((dig x)).length) Ji rfl (Zd _) rfl) rfl ?_
  refine Z8 tt 2 [] (decide_eq_false (by omega)) rfl rfl ?_
  refine Qf tt 1 [] (Qh (m:=((dig y)).length) Ji rfl (Zd _) rfl) rfl ?_
  refine Xh tt 3 [] (decide_eq_true (by omega)) rfl rfl ?_
  refine Qf tt 1 [] (Qi (i) Ji Xw rfl rfl (rfl) (Qg he) rfl rfl) rfl ?_
  refine Qf tt 3 [] (Zb (r:=((c+e:Nat):Int)) rfl rfl (Qm (by omega) (by omega)) rfl) rfl ?_
  refine Qf tt 1 [] (Gr (r:=(((c+e) % 10000:Nat):Int)) rfl rfl (by decide) (rfl) rfl) rfl ?_
  refine Zn (Zg (ls2:=(P3 (o++[(c+e) % 10000]))) (m2:=i+1) 0 Ji Ji qWz rfl rfl Xw qWr rfl rfl rfl rfl rfl rfl rfl (by rw [Zr]; omega) (Js rfl) (Jx rfl) (by show _+1<_; omega) (by rw [Y0 (by rw [Zr]; omega)]; exact Hv _ _) (rfl) fun r3=>ko ?_)
  refine Qr tt 2 rfl ?_
  refine Qf tt 2 [] (Fk (r:=(((c+e) / 10000:Nat):Int)) rfl rfl (by decide) (by rw [show Int.tdiv (((c+e):Nat):Int) 10000=(((c+e) / 10000:Nat):Int) from rfl]; exact Xq (by omega) (by omega)) rfl) rfl ?_
  refine Qf tt 1 [] (Zb (r:=((i+1:Nat):Int)) rfl rfl (Qm (by omega) (by omega)) rfl) rfl ?_
  refine Qj [0,1,5,6,7] rfl rfl ?_
  refine Q8 ?_
  refine ⟨_,?_,i+1,(c+e) / 10000,r3,o++[(c+e) % 10000],hp0.snoc (Tv _ (by decide)),by rw [Fl]; show o.length+1=_; omega,by rw [Wo,hp1,Nc]; simp only [dv,qXz,Mp]; have:=Ph (s:=e) hp2; rw [this,Ki he,R7 (l:=dig x) (by omega)]; grind,by omega,.inl (by omega),rfl,rfl,rfl⟩
  omega
 by_cases h3:0<c
 refine Qq tt rfl ?_
 ·skip
  refine Qr tt 2 rfl ?_
  refine Qf tt 2 [] (Qh (m:=((dig x)).length) Ji rfl (Zd _) rfl) rfl ?_
  refine Qf tt 0 [] ((Qc rfl rfl (decide_eq_false (by omega)) (Qw tt rfl rfl))) rfl ?_
  refine Qf tt 0 [] ((Qc rfl rfl (decide_eq_false (by omega)) (Qw tt rfl rfl))) rfl ?_
  refine Qf tt 0 [] ((Qc rfl rfl (decide_eq_false (by omega)) (Qh (m:=((dig y)).length) Ji rfl (Zd _) rfl))) rfl ?_
  refine Qf tt 0 [] ((Qc rfl rfl (decide_eq_false (by omega)) (Qw tt rfl rfl))) rfl ?_
  refine Qf tt 1 [] (Zw rfl (decide_eq_false (by omega)) rfl rfl) rfl ?_
  refine Qf tt 0 [] ((Qc rfl rfl (decide_eq_false (by omega)) (Qw tt rfl rfl))) rfl ?_
  refine Qf tt 0 [] ((Qc rfl rfl (decide_eq_false (by omega)) (Qw tt rfl rfl))) rfl ?_
  refine Qf tt 0 [] (Zw rfl (decide_eq_false (by omega)) rfl rfl) rfl ?_
  refine Xh tt 2 [] (decide_eq_true (by omega)) rfl rfl ?_
  refine Qf tt 1 [] (Qh (m:=((dig x)).length) Ji rfl (Zd _) rfl) rfl ?_
  refine Z8 tt 2 [] (decide_eq_false (by omega)) rfl rfl ?_
  refine Qf tt 1 [] (Qh (m:=((dig y)).length) Ji rfl (Zd _) rfl) rfl ?_
  refine Z8 tt 2 [] (decide_eq_false (by omega)) rfl rfl ?_
  refine Qf tt 1 [] (Gr (r:=((c % 10000:Nat):Int)) rfl rfl (by decide) (rfl) rfl) rfl ?_
  refine Zn (Zg (ls2:=(P3 (o++[c % 10000]))) (m2:=i+1) 0 Ji Ji qWz rfl rfl Xw qWr rfl rfl rfl rfl rfl rfl rfl (by rw [Zr]; omega) (Js rfl) (Jx rfl) (by show _+1<_; omega) (by rw [Y0 (by rw [Zr]; omega)]; exact Hv _ _) (rfl) fun r4=>ko ?_)
  refine Qr tt 2 rfl ?_
  refine Qf tt 2 [] (Fk (r:=((c / 10000:Nat):Int)) rfl rfl (by decide) (by rw [show Int.tdiv ((c:Nat):Int) 10000=((c / 10000:Nat):Int) from rfl]; exact Xq (by omega) (by omega)) rfl) rfl ?_
  refine Qf tt 1 [] (Zb (r:=((i+1:Nat):Int)) rfl rfl (Qm (by omega) (by omega)) rfl) rfl ?_
  refine Qj [0,1,5,6,7] rfl rfl ?_
  refine Q8 ?_
  refine ⟨_,?_,i+1,c / 10000,r4,o++[c % 10000],hp0.snoc (Tv _ (by decide)),by rw [Fl]; show o.length+1=_; omega,by rw [Wo,hp1,Nc]; simp only [dv,qXz,Mp]; have:=Ph (s:=0) hp2; rw [Mp,qXz,Mp] at this; rw [this,R7 (l:=dig y) (by omega),R7 (l:=dig x) (by omega)],by omega,.inr ⟨by omega,by have h:=hp2; rw [Y0 (by omega),Y0 (by omega),Ve,Ve,show c=1 by omega,Nat.one_mul,show i=(max (dig x).length (dig y).length) by omega] at h; omega,by omega⟩,rfl,rfl,rfl⟩
  omega
 have hv:dv o=x+y:=by
  have h:=hp2
  rw [Y0 (by omega),Y0 (by omega),Ve,Ve,show c=0 by omega] at h
  omega
 have hfin:o=dig (x+y):=by
  rw [←hv]
  refine Qns hp0 ?_
  rw [hv]
  have m1:=Sf (x:=x) (y:=x+y) (by omega)
  have m2:=Sf (x:=y) (y:=x+y) (by omega)
  rcases hp4 with h | ⟨h,hb,_⟩
  ·omega
  ·have:=Qlo hb; omega
 refine Qr tt 2 rfl ?_
 refine Qf tt 2 [] (Qh (m:=((dig x)).length) Ji rfl (Zd _) rfl) rfl ?_
 refine Qf tt 0 [] ((Qc rfl rfl (decide_eq_false (by omega)) (Qw tt rfl rfl))) rfl ?_
 refine Qf tt 0 [] ((Qc rfl rfl (decide_eq_false (by omega)) (Qw tt rfl rfl))) rfl ?_
 refine Qf tt 0 [] ((Qc rfl rfl (decide_eq_false (by omega)) (Qh (m:=((dig y)).length) Ji rfl (Zd _) rfl))) rfl ?_
 refine Qf tt 0 [] ((Qc rfl rfl (decide_eq_false (by omega)) (Qw tt rfl rfl))) rfl ?_
 refine Qf tt 1 [] (Zw rfl (decide_eq_false (by omega)) rfl rfl) rfl ?_
 refine Qf tt 0 [] ((Qc rfl rfl (decide_eq_false (by omega)) (Qw tt rfl rfl))) rfl ?_
 refine Qf tt 0 [] ((Qc rfl rfl (decide_eq_false (by omega)) (Qw tt rfl rfl))) rfl ?_
 refine Qf tt 0 [] (Zw rfl (decide_eq_false (by omega)) rfl rfl) rfl ?_
 refine Z8 tt 2 [] (decide_eq_false (by omega)) rfl rfl ?_
 refine X5 (fun _ k_=>Xe (L2:=_) 0 [4] rfl (Zc rfl) (by rw [Zr]; omega) (by rw [Zr]; omega) rfl (Qo k_)) rfl ?_
 exact Xp tt [] rfl (by rw [show o=dig (x+y) from hfin]; rfl)
theorem Pi {o b a c P u d e c':Nat} (h:o+b=a+c*P) (hs:u+e+c=d+10000*c'):(o+P*u)+(b+P*e)=(a+P*d)+c'*(P*10000):=by
 have e2:P*(u+e+c)=P*(d+10000*c'):=by rw [hs]
 grind
theorem M3 {x y:Nat} (hx:sz x≤200000000) (hy:sz y≤200000000) (hyx:y≤x):Za Tryz.prog 286 [.one (dl ((dig x))),.one (dl ((dig y)))] (.one (dl ((dig ((x-y)))))):=by
 refine X4 tt 0 [] Tryz.func286 Tryz.ntmps286 rfl rfl rfl ?_
 have hxl:=Xz x
 have hyl:=Xz y
 skip
 refine Qr tt 2 rfl ?_
 refine kw (Qh (m:=((dig x)).length) Ji rfl (Zd _) rfl) ?_
 refine Zn (G4 ((dig x).length) Ji qWz rfl Xw qWr rfl rfl rfl rfl rfl rfl (rfl) (rfl) (by omega) rfl fun r1=>ko ?_)
 refine X5 (fun _ k_=>Jq 0 rfl (show _=P3 (List.replicate (dig x).length 0) by simp) (Qo k_)) rfl ?_
 refine Qr tt 3 rfl ?_
 refine Qf tt 1 [] (Qh (m:=((dig x)).length) Ji rfl (Zd _) rfl) rfl ?_
 refine Qj [0,1,5,6,12,13,14] rfl rfl ?_
 refine Zl (fun m L B=>∃ i c o,i≤(dig x).length∧o.length=(dig x).length∧Dg o∧dv (o.take i)+dv ((dig y).take i)=dv ((dig x).take i)+c*10000^i∧c≤1∧m=(dig x).length-i∧L=[(0,.one (dl ((dig x)))),(1,.one (dl ((dig y)))),(5,.one (.orow r1 1 0 ((dig x).length))),(6,.one (.int .i64 (((c:Nat):Int)))),(12,.one (dl ((dig x)))),(13,.one (.int .i64 ((((dig x).length:Nat):Int)))),(14,.one (.int .i64 (((i:Nat):Int))))]∧B=[.row r1 3 1 (P3 o)]) (m:=_) ⟨0,0,List.replicate (dig x).length 0,K6 _,qZn ..,Dg.zeros _,by simp [dv],by decide,rfl,rfl,rfl⟩ ?_
 rintro m L B ⟨i,c,o,hp0,hp1,hp2,hp3,hp4,hm,rfl,rfl⟩
 refine Qq tt rfl ?_
 have hxl:=Xz x
 have hyl:=Xz y
 have hmy:=Sf hyx
 by_cases h1:i<(dig x).length
 ·obtain ⟨d,hd⟩:∃ d,(dig x)[i]? = some d:=⟨_,Xx h1⟩
  obtain ⟨v,hoi⟩:∃ v,o[i]? = some v:=⟨_,Xx (by omega)⟩
  have hd9:=Um x d (Vo hd)
  by_cases h2:i<(dig y).length
  refine Qq tt rfl ?_
  ·obtain ⟨e,he⟩:∃ e,(dig y)[i]? = some e:=⟨_,Xx h2⟩
   have he9:=Um y e (Vo he)
   by_cases h3:d<c+e
   refine Qq tt rfl ?_
   ·skip
    refine Qr tt 1 rfl ?_
    refine Xh tt 4 [] (decide_eq_true (by omega)) rfl rfl ?_
    refine Qf tt 2 [] (Qi (i) Ji Xw rfl rfl (rfl) (Qg hd) rfl rfl) rfl ?_
    refine Qf tt 3 [] (Z9 (r:=(((d:Nat):Int)-((c:Nat):Int))) rfl rfl (Qm rfl (by omega)) rfl) rfl ?_
    refine Qf tt 1 [] (Qh (m:=((dig y)).length) Ji rfl (Zd _) rfl) rfl ?_
    refine Xh tt 3 [] (decide_eq_true (by omega)) rfl rfl ?_
    refine Qf tt 1 [] (Qi (i) Ji Xw rfl rfl (rfl) (Qg he) rfl rfl) rfl ?_
    refine Qf tt 4 [] (Z9 (r:=((((d:Nat):Int)-((c:Nat):Int))-((e:Nat):Int))) rfl rfl (Qm rfl (by omega)) rfl) rfl ?_
    refine Xh tt 1 [] (decide_eq_true (by omega)) rfl rfl ?_
    refine Qf tt 5 [] (Zb (r:=((d+10000-c-e:Nat):Int)) rfl rfl (Qm (by omega) (by omega)) rfl) rfl ?_
    refine kw (Zi (i) Ji Xw rfl rfl (rfl) (by omega) rfl) ?_
    refine Zn (Jp (ls2:=P3 (o.set i (d+10000-c-e))) 0 Xw rfl rfl rfl rfl rfl rfl (by rw [Vl]; exact Qg hoi) rfl (by rw [Vl]; exact Uh (fun (x:Nat)=>[LV.int .i64 (x:Int)]) _ _ _) (ko ?_))
    refine Qq tt rfl ?_
    refine Qf tt 1 [] (Zb (r:=((i+1:Nat):Int)) rfl rfl (Qm (by omega) (by omega)) rfl) rfl ?_
    refine Qj [0,1,5,6,12,13,14] rfl rfl ?_
    refine Q8 ?_
    refine ⟨_,?_,i+1,1,o.set i (d+10000-c-e),by omega,by rw [H6]; exact hp1,hp2.set (by omega),by rw [R8 (by omega),Ki hd,Ki he,Nc]; exact Pi hp3 (u:=d+10000-c-e) (d:=d) (e:=e) (c':=1) (by omega),by omega,rfl,rfl,rfl⟩
    omega
   skip
   refine Qr tt 1 rfl ?_
   refine Xh tt 4 [] (decide_eq_true (by omega)) rfl rfl ?_
   refine Qf tt 2 [] (Qi (i) Ji Xw rfl rfl (rfl) (Qg hd) rfl rfl) rfl ?_
   refine Qf tt 3 [] (Z9 (r:=(((d:Nat):Int)-((c:Nat):Int))) rfl rfl (Qm rfl (by omega)) rfl) rfl ?_
   refine Qf tt 1 [] (Qh (m:=((dig y)).length) Ji rfl (Zd _) rfl) rfl ?_
   refine Xh tt 3 [] (decide_eq_true (by omega)) rfl rfl ?_
   refine Qf tt 1 [] (Qi (i) Ji Xw rfl rfl (rfl) (Qg he) rfl rfl) rfl ?_
   refine Qf tt 4 [] (Z9 (r:=((d-c-e:Nat):Int)) rfl rfl (Qm (by omega) (by omega)) rfl) rfl ?_
   refine Z8 tt 3 [] (decide_eq_false (by omega)) rfl rfl ?_
   refine kw (Zi (i) Ji Xw rfl rfl (rfl) (by omega) rfl) ?_
   refine Zn (Jp (ls2:=P3 (o.set i (d-c-e))) 0 Xw rfl rfl rfl rfl rfl rfl (by rw [Vl]; exact Qg hoi) rfl (by rw [Vl]; exact Uh (fun (x:Nat)=>[LV.int .i64 (x:Int)]) _ _ _) (ko ?_))
   refine Qq tt rfl ?_
   refine Qf tt 1 [] (Zb (r:=((i+1:Nat):Int)) rfl rfl (Qm (by omega) (by omega)) rfl) rfl ?_
   refine Qj [0,1,5,6,12,13,14] rfl rfl ?_
   refine Q8 ?_
   refine ⟨_,?_,i+1,0,o.set i (d-c-e),by omega,by rw [H6]; exact hp1,hp2.set (by omega),by rw [R8 (by omega),Ki hd,Ki he,Nc]; exact Pi hp3 (u:=d-c-e) (d:=d) (e:=e) (c':=0) (by omega),by omega,rfl,rfl,rfl⟩
   omega
  by_cases h3:d<c
  refine Qq tt rfl ?_
  ·skip
   refine Qr tt 1 rfl ?_
   refine Xh tt 4 [] (decide_eq_true (by omega)) rfl rfl ?_
   refine Qf tt 2 [] (Qi (i) Ji Xw rfl rfl (rfl) (Qg hd) rfl rfl) rfl ?_
   refine Qf tt 3 [] (Z9 (r:=(((d:Nat):Int)-((c:Nat):Int))) rfl rfl (Qm rfl (by omega)) rfl) rfl ?_
   refine Qf tt 1 [] (Qh (m:=((dig y)).length) Ji rfl (Zd _) rfl) rfl ?_
   refine Z8 tt 3 [] (decide_eq_false (by omega)) rfl rfl ?_
   refine Xh tt 1 [] (decide_eq_true (by omega)) rfl rfl ?_
   refine Qf tt 5 [] (Zb (r:=((d+10000-c:Nat):Int)) rfl rfl (Qm (by omega) (by omega)) rfl) rfl ?_
   refine kw (Zi (i) Ji Xw rfl rfl (rfl) (by omega) rfl) ?_
   refine Zn (Jp (ls2:=P3 (o.set i (d+10000-c))) 0 Xw rfl rfl rfl rfl rfl rfl (by rw [Vl]; exact Qg hoi) rfl (by rw [Vl]; exact Uh (fun (x:Nat)=>[LV.int .i64 (x:Int)]) _ _ _) (ko ?_))
   refine Qq tt rfl ?_
   refine Qf tt 1 [] (Zb (r:=((i+1:Nat):Int)) rfl rfl (Qm (by omega) (by omega)) rfl) rfl ?_
   refine Qj [0,1,5,6,12,13,14] rfl rfl ?_
   refine Q8 ?_
   refine ⟨_,?_,i+1,1,o.set i (d+10000-c),by omega,by rw [H6]; exact hp1,hp2.set (by omega),by rw [R8 (by omega),Ki hd,(show dv ((dig y).take (i+1))=dv ((dig y).take i)+10000^i*0 by rw [R7 (by omega),qXz,Mp]),Nc]; exact Pi hp3 (u:=d+10000-c) (d:=d) (e:=0) (c':=1) (by omega),by omega,rfl,rfl,rfl⟩
   omega
  skip
  refine Qr tt 1 rfl ?_
  refine Xh tt 4 [] (decide_eq_true (by omega)) rfl rfl ?_
  refine Qf tt 2 [] (Qi (i) Ji Xw rfl rfl (rfl) (Qg hd) rfl rfl) rfl ?_
  refine Qf tt 3 [] (Z9 (r:=((d-c:Nat):Int)) rfl rfl (Qm (by omega) (by omega)) rfl) rfl ?_
  refine Qf tt 1 [] (Qh (m:=((dig y)).length) Ji rfl (Zd _) rfl) rfl ?_
  refine Z8 tt 3 [] (decide_eq_false (by omega)) rfl rfl ?_
  refine Z8 tt 3 [] (decide_eq_false (by omega)) rfl rfl ?_
  refine kw (Zi (i) Ji Xw rfl rfl (rfl) (by omega) rfl) ?_
  refine Zn (Jp (ls2:=P3 (o.set i (d-c))) 0 Xw rfl rfl rfl rfl rfl rfl (by rw [Vl]; exact Qg hoi) rfl (by rw [Vl]; exact Uh (fun (x:Nat)=>[LV.int .i64 (x:Int)]) _ _ _) (ko ?_))
  refine Qq tt rfl ?_
  refine Qf tt 1 [] (Zb (r:=((i+1:Nat):Int)) rfl rfl (Qm (by omega) (by omega)) rfl) rfl ?_
  refine Qj [0,1,5,6,12,13,14] rfl rfl ?_
  refine Q8 ?_
  refine ⟨_,?_,i+1,0,o.set i (d-c),by omega,by rw [H6]; exact hp1,hp2.set (by omega),by rw [R8 (by omega),Ki hd,(show dv ((dig y).take (i+1))=dv ((dig y).take i)+10000^i*0 by rw [R7 (by omega),qXz,Mp]),Nc]; exact Pi hp3 (u:=d-c) (d:=d) (e:=0) (c':=0) (by omega),by omega,rfl,rfl,rfl⟩
  omega
 have hi:i=(dig x).length:=by omega
 have hv:dv o=x-y:=by
  have h:=hp3
  rw [Y0 (by omega),Y0 (by omega),Y0 (by omega),Ve,Ve] at h
  have hlt:=Qff hp2
  rw [hp1,←hi] at hlt
  rcases Hl c with h0 | h0
  ·subst h0; omega
  ·rw [show c=1 by omega] at h; omega
 refine Qr tt 1 rfl ?_
 refine Z8 tt 1 [] (decide_eq_false (by omega)) rfl rfl ?_
 refine X5 (fun _ k_=>Xe 0 [42] rfl (Zc rfl) (by rw [Zr]; omega) (by rw [Zr]; omega) rfl (Qo k_)) rfl ?_
 refine Qq tt rfl ?_
 refine kl tt 1 [] qGd rfl rfl rfl (Gv (hp2) (by omega)) rfl rfl ?_
 exact Xp tt [] rfl (by rw [hv])
theorem Au {o o2 c P u v s V:Nat} (h:o+c*P=V) (hs:o2+P*v=o+P*u) {q:Nat} (hu:u+10000*q=v+c+s):o2+q*(P*10000)=V+P*s:=by
 have e2:P*(u+10000*q)=P*(v+c+s):=by rw [hu]
 grind
theorem Qxc (S:Nat):S % 10000+10000*(S / 10000)=S:=Nat.mod_add_div S 10000
set_option maxRecDepth 20000 in
theorem Qhm {x y:Nat} (hx:sz x≤200000000) (hy:sz y≤200000000):Za Tryz.prog 287 [.one (dl ((dig x))),.one (dl ((dig y)))] (.one (dl ((dig ((x*y)))))):=by
 refine X4 tt 0 [] Tryz.func287 Tryz.ntmps287 rfl rfl rfl ?_
 have hxl:=Xz x
 have hyl:=Xz y
 skip
 refine Qr tt 2 rfl ?_
 refine Qf tt 1 [] (Qh (m:=((dig x)).length) Ji rfl (Zd _) rfl) rfl ?_
 refine Qf tt 0 [] (Qh (m:=((dig y)).length) Ji rfl (Zd _) rfl) rfl ?_
 refine kw (Zb (r:=(((((dig x)).length)+(((dig y)).length):Nat):Int)) rfl rfl (Qm (by omega) (by omega)) rfl) ?_
 refine Zn (G4 (((dig x).length+(dig y).length)) Ji qWz rfl Xw qWr rfl rfl rfl rfl rfl rfl (rfl) (rfl) (by omega) rfl fun r1=>ko ?_)
 refine X5 (fun _ k_=>Jq 0 rfl (show _=P3 (List.replicate ((dig x).length+(dig y).length) 0) by simp) (Qo k_)) rfl ?_
 refine Qr tt 2 rfl ?_
 refine Qf tt 1 [] (Qh (m:=((dig x)).length) Ji rfl (Zd _) rfl) rfl ?_
 refine Qj [0,1,5,16,17,18] rfl rfl ?_
 refine Zl (fun m L B=>∃ i o,i≤(dig x).length∧o.length=((dig x).length+(dig y).length)∧Dg o∧dv o=dv ((dig x).take i)*y∧(∀ j v,i+(dig y).length≤j→o[j]? = some v→v=0)∧m=(dig x).length-i∧L=[(0,.one (dl ((dig x)))),(1,.one (dl ((dig y)))),(5,.one (.orow r1 1 0 (((dig x).length+(dig y).length)))),(16,.one (dl ((dig x)))),(17,.one (.int .i64 ((((dig x).length:Nat):Int)))),(18,.one (.int .i64 (((i:Nat):Int))))]∧B=[.row r1 3 1 (P3 o)]) (m:=_) ⟨0,List.replicate ((dig x).length+(dig y).length) 0,K6 _,qZn ..,Dg.zeros _,by rw [Qcw (fun x hx=>qZx hx)]; simp [dv],fun j v _ hv=>qZx (Vo hv),rfl,rfl,rfl⟩ ?_
 rintro m L B ⟨i,o,hp0,hp1,hp2,hp3,hp4,hm,rfl,rfl⟩
 refine Qq tt rfl ?_
 have hxl:=Xz x
 have hyl:=Xz y
 by_cases h1:i<(dig x).length
 ·obtain ⟨d,hd⟩:∃ d,(dig x)[i]? = some d:=⟨_,Xx h1⟩
  have hd9:=Um x d (Vo hd)
  refine Qr tt 1 rfl ?_
  refine Xh tt 4 [] (decide_eq_true (by omega)) rfl rfl ?_
  refine Qj [0,1,6,16,17,18,5,7,8] rfl rfl ?_
  refine Zl (fun m L B=>∃ k c o2,o2.length=((dig x).length+(dig y).length)∧Dg o2∧dv o2+c*10000^(i+k)=dv ((dig x).take i)*y+10000^i*d*dv ((dig y).take k)∧c<10000∧((k≤(dig y).length∧(∀ j v,i+(dig y).length≤j→o2[j]? = some v→v=0))∨(k=(dig y).length+1∧c=0∧(∀ j v,i+(dig y).length+1≤j→o2[j]? = some v→v=0)))∧m=((dig y).length-k)*2+min c 1∧L=[(0,.one (dl ((dig x)))),(1,.one (dl ((dig y)))),(6,.one (.int .i64 (((i:Nat):Int)))),(16,.one (dl ((dig x)))),(17,.one (.int .i64 ((((dig x).length:Nat):Int)))),(18,.one (.int .i64 (((i:Nat):Int)))),(5,.one (.orow r1 1 0 (((dig x).length+(dig y).length)))),(7,.one (.int .i64 (((c:Nat):Int)))),(8,.one (.int .i64 (((k:Nat):Int))))]∧B=[.row r1 3 1 (P3 o2)]) (m:=_) ⟨0,0,o,hp1,hp2,by rw [hp3]; simp [dv],by decide,.inl ⟨K6 _,hp4⟩,rfl,rfl,rfl⟩ ?_
  rintro m L B ⟨k,c,o2,hq0,hq1,hq2,hq3,hq4,hm,rfl,rfl⟩
  refine Qq tt rfl ?_
  by_cases h2:k<(dig y).length
  ·obtain ⟨e,he⟩:∃ e,(dig y)[k]? = some e:=⟨_,Xx h2⟩
   have he9:=Um y e (Vo he)
   have hde:d*e≤9999*9999:=qJd (by omega) (by omega)
   obtain ⟨v,hoi⟩:∃ v,o2[i+k]? = some v:=⟨_,Xx (by omega)⟩
   have hv9:=hq1 v (Vo hoi)
   refine Qr tt 2 rfl ?_
   refine Qf tt 2 [] (Qh (m:=((dig y)).length) Ji rfl (Zd _) rfl) rfl ?_
   refine Qf tt 0 [] (Qk rfl rfl (decide_eq_true (by omega)) rfl) rfl ?_
   refine Qf tt 0 [] (Qk rfl rfl (decide_eq_true (by omega)) rfl) rfl ?_
   refine Qf tt 0 [] (Zs rfl (decide_eq_true (by omega)) rfl rfl) rfl ?_
   refine Xh tt 3 [] (rfl) rfl rfl ?_
   refine Qf tt 0 [] (Zb (r:=((i+k:Nat):Int)) rfl rfl (Qm (by omega) (by omega)) rfl) rfl ?_
   refine Qf tt 0 [] (Zi (i+k) Ji Xw rfl rfl (rfl) (by omega) rfl) rfl ?_
   refine Qf tt 1 [] (X7 0 S0 Xw rfl rfl (by rw [Vl]; exact Qg hoi) rfl rfl rfl) rfl ?_
   refine Qf tt 3 [] (Zb (r:=((v+c:Nat):Int)) rfl rfl (Qm (by omega) (by omega)) rfl) rfl ?_
   refine Qf tt 1 [] (Qh (m:=((dig y)).length) Ji rfl (Zd _) rfl) rfl ?_
   refine Xh tt 0 [] (decide_eq_true (by omega)) rfl rfl ?_
   refine Qy 10 Qp rfl rfl rfl ?_
   refine Qr tt 3 rfl ?_
   refine kd (Qi (i) Ji Xw rfl rfl (rfl) (Qg hd) rfl rfl) rfl ?_
   refine Qr tt 3 rfl ?_
   refine kd (Qi (k) Ji Xw rfl rfl (rfl) (Qg he) rfl rfl) rfl ?_
   refine Qr tt 1 rfl ?_
   refine kd (Qkb (r:=((d*e:Nat):Int)) rfl rfl (Qm (qYi d e).symm (by omega)) rfl) rfl ?_
   refine Qq tt rfl ?_
   refine Qf tt 4 [] (Zb (r:=(((v+c)+(d*e):Nat):Int)) rfl rfl (Qm (by omega) (by omega)) rfl) rfl ?_
   refine Qf tt 1 [] (Zb (r:=((i+k:Nat):Int)) rfl rfl (Qm (by omega) (by omega)) rfl) rfl ?_
   refine Qf tt 0 [] (Gr (r:=((((v+c)+(d*e)) % 10000:Nat):Int)) rfl rfl (by decide) (rfl) rfl) rfl ?_
   refine kw (Zi (i+k) Ji Xw rfl rfl (rfl) (by omega) rfl) ?_
   refine Zn (Jp (ls2:=P3 (o2.set (i+k) (((v+c)+(d*e)) % 10000))) 0 Xw rfl rfl rfl rfl rfl rfl (by rw [Vl]; exact Qg hoi) rfl (by rw [Vl]; exact Uh (fun (x:Nat)=>[LV.int .i64 (x:Int)]) _ _ _) (ko ?_))
   refine Qr tt 1 rfl ?_
   refine Qf tt 2 [] (Fk (r:=((((v+c)+(d*e)) / 10000:Nat):Int)) rfl rfl (by decide) (by rw [show Int.tdiv ((((v+c)+(d*e)):Nat):Int) 10000=((((v+c)+(d*e)) / 10000:Nat):Int) from rfl]; exact Xq (by omega) (by omega)) rfl) rfl ?_
   refine Qf tt 1 [] (Zb (r:=((k+1:Nat):Int)) rfl rfl (Qm (by omega) (by omega)) rfl) rfl ?_
   refine Qj [0,1,6,16,17,18,5,7,8] rfl rfl ?_
   refine Q8 ?_
   refine ⟨_,?_,k+1,((v+c)+(d*e)) / 10000,o2.set (i+k) (((v+c)+(d*e)) % 10000),by rw [H6]; exact hq0,hq1.set (Tv _ (by decide)),by rw [←qYl i k 1,Nc]; have:=Au hq2 (Qnu hoi (u:=((v+c)+(d*e)) % 10000)) (s:=d*e) (q:=((v+c)+(d*e)) / 10000) (by rw [Qxc]); rw [this,Ki he,qJn]; grind,by omega,.inl ⟨by omega,fun j w hj hw=>(by rcases hq4 with ⟨_,h⟩ | ⟨_,_,h⟩ <;> (rw [qJf (by omega)] at hw; exact h j w (by omega) hw))⟩,rfl,rfl,rfl⟩
   omega
  by_cases h3:0<c
  refine Qq tt rfl ?_
  ·have hk:k=(dig y).length:=by omega
   have hz:∀ j v,i+(dig y).length≤j→o2[j]? = some v→v=0:=by
    rcases hq4 with ⟨_,h⟩ | ⟨_,h,_⟩
    ·exact h
    ·omega
   obtain ⟨v,hoi⟩:∃ v,o2[i+k]? = some v:=⟨_,Xx (by omega)⟩
   have hv9:=hq1 v (Vo hoi)
   have hv0:v=0:=hz (i+k) v (by omega) hoi
   refine Qr tt 2 rfl ?_
   refine Qf tt 2 [] (Qh (m:=((dig y)).length) Ji rfl (Zd _) rfl) rfl ?_
   refine Qf tt 0 [] ((Qc rfl rfl (decide_eq_false (by omega)) (Qw tt rfl rfl))) rfl ?_
   refine Qf tt 0 [] ((Qc rfl rfl (decide_eq_false (by omega)) (Qw tt rfl rfl))) rfl ?_
   refine Qf tt 0 [] (Zw rfl (decide_eq_false (by omega)) rfl rfl) rfl ?_
   refine Xh tt 3 [] (decide_eq_true (by omega)) rfl rfl ?_
   refine Qf tt 0 [] (Zb (r:=((i+k:Nat):Int)) rfl rfl (Qm (by omega) (by omega)) rfl) rfl ?_
   refine Qf tt 0 [] (Zi (i+k) Ji Xw rfl rfl (rfl) (by omega) rfl) rfl ?_
   refine Qf tt 1 [] (X7 0 S0 Xw rfl rfl (by rw [Vl]; exact Qg hoi) rfl rfl rfl) rfl ?_
   refine Qf tt 3 [] (Zb (r:=((v+c:Nat):Int)) rfl rfl (Qm (by omega) (by omega)) rfl) rfl ?_
   refine Qf tt 1 [] (Qh (m:=((dig y)).length) Ji rfl (Zd _) rfl) rfl ?_
   refine Z8 tt 3 [] (decide_eq_false (by omega)) rfl rfl ?_
   refine Qf tt 1 [] (Zb (r:=((i+k:Nat):Int)) rfl rfl (Qm (by omega) (by omega)) rfl) rfl ?_
   refine Qf tt 0 [] (Gr (r:=(((v+c) % 10000:Nat):Int)) rfl rfl (by decide) (rfl) rfl) rfl ?_
   refine kw (Zi (i+k) Ji Xw rfl rfl (rfl) (by omega) rfl) ?_
   refine Zn (Jp (ls2:=P3 (o2.set (i+k) ((v+c) % 10000))) 0 Xw rfl rfl rfl rfl rfl rfl (by rw [Vl]; exact Qg hoi) rfl (by rw [Vl]; exact Uh (fun (x:Nat)=>[LV.int .i64 (x:Int)]) _ _ _) (ko ?_))
   refine Qr tt 1 rfl ?_
   refine Qf tt 2 [] (Fk (r:=(((v+c) / 10000:Nat):Int)) rfl rfl (by decide) (by rw [show Int.tdiv (((v+c):Nat):Int) 10000=(((v+c) / 10000:Nat):Int) from rfl]; exact Xq (by omega) (by omega)) rfl) rfl ?_
   refine Qf tt 1 [] (Zb (r:=((k+1:Nat):Int)) rfl rfl (Qm (by omega) (by omega)) rfl) rfl ?_
   refine Qj [0,1,6,16,17,18,5,7,8] rfl rfl ?_
   refine Q8 ?_
   refine ⟨_,?_,k+1,(v+c) / 10000,o2.set (i+k) ((v+c) % 10000),by rw [H6]; exact hq0,hq1.set (Tv _ (by decide)),by rw [←qYl i k 1,Nc]; have:=Au hq2 (Qnu hoi (u:=(v+c) % 10000)) (s:=0) (q:=(v+c) / 10000) (by rw [Qxc]; rfl); rw [this,qXz,Mp,R7 (by omega)],by omega,.inr ⟨by omega,by omega,fun j w hj hw=>(by rw [qJf (by omega)] at hw; exact hz j w (by omega) hw)⟩,rfl,rfl,rfl⟩
   omega
  skip
  refine Qr tt 2 rfl ?_
  refine Qf tt 2 [] (Qh (m:=((dig y)).length) Ji rfl (Zd _) rfl) rfl ?_
  refine Qf tt 0 [] ((Qc rfl rfl (decide_eq_false (by omega)) (Qw tt rfl rfl))) rfl ?_
  refine Qf tt 0 [] ((Qc rfl rfl (decide_eq_false (by omega)) (Qw tt rfl rfl))) rfl ?_
  refine Qf tt 0 [] (Zw rfl (decide_eq_false (by omega)) rfl rfl) rfl ?_
  refine Z8 tt 0 [] (decide_eq_false (by omega)) rfl rfl ?_
  refine Qf tt 1 [] (Zb (r:=((i+1:Nat):Int)) rfl rfl (Qm (by omega) (by omega)) rfl) rfl ?_
  refine Qj [0,1,5,16,17,18] rfl rfl ?_
  refine Q8 ?_
  refine ⟨_,?_,i+1,o2,by omega,hq0,hq1,by rw [Ki hd,qJx]; have h:=hq2; rw [show c=0 by omega,Y0 (l:=dig y) (i:=k) (by omega),Ve] at h; rw [qYr,Mp] at h; exact h,by
   intro j v hj hv
   rcases hq4 with ⟨_,h⟩ | ⟨_,_,h⟩
   ·exact h j v (by omega) hv
   ·exact h j v (by omega) hv,rfl,rfl,rfl⟩
  omega
 have hv:dv o=x*y:=by rw [hp3,Y0 (by omega),Ve]
 refine Qr tt 1 rfl ?_
 refine Z8 tt 1 [] (decide_eq_false (by omega)) rfl rfl ?_
 refine X5 (fun _ k_=>Xe 0 [64] rfl (Zc rfl) (by rw [Zr]; omega) (by rw [Zr]; omega) rfl (Qo k_)) rfl ?_
 refine Qq tt rfl ?_
 refine kl tt 1 [] qGd rfl rfl rfl (Gv (hp2) (by omega)) rfl rfl ?_
 exact Xp tt [] rfl (by rw [hv])
theorem Qjp {x y:Nat}:Tx x y≤0↔x≤y:=by
 unfold Tx
 constructor
 ·intro h; split at h
  ·omega
  split at h <;> omega
 intro h; split
 ·omega
 split <;> omega
theorem Qlq {R y lo:Nat} (h1:y*lo≤R) (h2:R<y*(lo+1)):R / y=lo∧R % y=R-y*lo:=by
 have hy:0<y:=by
  rcases Hl y with h | h
  ·subst h; simp at h2
  ·exact h
 have e:R / y=lo:=Nat.div_eq_of_lt_le (by rw [O7]; exact h1) (by rw [O7]; exact h2)
 refine ⟨e,?_⟩
 have:=qXi R y
 rw [e] at this; omega
theorem Qp3 {R y:Nat} (h:R<y*10000):sz R≤sz y+14:=by
 refine Ks.2 (qZv h ?_)
 have:=Mm y
 rw [qJn]
 have e:(2:Nat)^14=16384:=by decide
 rw [e]; exact qJd (by omega) (by decide)
theorem Qby (y:Nat):sz (y*10000)≤sz y+14:=by
 refine Ks.2 ?_
 have:=Mm y
 rw [qJn]
 have e:(2:Nat)^14=16384:=by decide
 rw [e]; omega
theorem Ad {x y:Nat} (hx:sz x≤90000000) (hy:sz y≤90000000) (hy0:0<y):Za Tryz.prog 259 [.one (dl ((dig x))),.one (dl ((dig y)))] (.tup [.one (dl ((dig ((x / y))))),.one (dl ((dig ((x % y)))))]):=by
 refine X4 tt 0 [] Tryz.func259 Tryz.ntmps259 rfl rfl rfl ?_
 have hxl:=Xz x
 have hyl:=Xz y
 skip
 refine Qr tt 3 rfl ?_
 refine kw (Qh (m:=((dig x)).length) Ji rfl (Zd _) rfl) ?_
 refine Zn (G4 ((dig x).length) Ji qWz rfl Xw qWr rfl rfl rfl rfl rfl rfl (rfl) (rfl) (by omega) rfl fun r1=>ko ?_)
 refine X5 (fun _ k_=>Jq 0 rfl (show _=P3 (List.replicate (dig x).length 0) by simp) (Qo k_)) rfl ?_
 refine Qr tt 3 rfl ?_
 refine Qf tt 0 [] (Qh (m:=((dig x)).length) Ji rfl (Zd _) rfl) rfl ?_
 refine Qf tt 1 [] (Z9 (r:=((((dig x).length:Nat):Int)-1)) rfl rfl (Qm rfl (by omega)) rfl) rfl ?_
 refine X5 (fun _ k_=>R0 7 rfl (Qo k_)) rfl ?_
 refine X5 (fun _ k_=>Xs 7 (y:=.one (nd 0)) rfl (by rw [Qj7]) (Qo k_)) rfl ?_
 refine Qj [0,1,6,7,8] rfl rfl ?_
 refine Zl (fun m L B=>∃ j rr o,j≤(dig x).length∧o.length=(dig x).length∧Dg o∧dv (o.drop j)=dv ((dig x).drop j) / y∧rr=dv ((dig x).drop j) % y∧m=j∧L=[(0,.one (dl ((dig x)))),(1,.one (dl ((dig y)))),(6,.one (.orow r1 1 0 ((dig x).length))),(7,.one (dl ((dig rr)))),(8,.one (.int .i64 ((((j:Nat):Int)-1))))]∧B=[.row r1 3 1 (P3 o)]) (m:=_) ⟨(dig x).length,0,List.replicate (dig x).length 0,X2 _,qZn ..,Dg.zeros _,by rw [Ll (by simp),Ll (X2 _)]; simp [dv],by rw [Ll (X2 _)]; simp [dv],rfl,rfl,rfl⟩ ?_
 rintro m L B ⟨j,rr,o,hp0,hp1,hp2,hp3,hp4,hm,rfl,rfl⟩
 refine Qq tt rfl ?_
 have hxl:=Xz x
 have hyl:=Xz y
 by_cases h1:0<j
 ·obtain ⟨d,hd⟩:∃ d,(dig x)[j-1]? = some d:=⟨_,Xx (by omega)⟩
  obtain ⟨v,hoi⟩:∃ v,o[j-1]? = some v:=⟨_,Xx (by omega)⟩
  have hd9:=Um x d (Vo hd)
  have hdd:=N9 hd
  rw [show j-1+1=j by omega] at hdd
  obtain ⟨hq1,hq2,hq3⟩:=Qfd (V:=dv ((dig x).drop j)) (kd:=y) (d:=d) hy0
  rw [←hdd,←hp4] at hq1 hq2
  rw [←hp4] at hq3
  have hq3:=hq3 hd9
  have hrr:rr<y:=by rw [hp4]; exact Tv _ hy0
  have hrl:(dig rr).length≤(dig y).length:=Sf (by omega)
  have hR:rr*10000+d<y*10000:=by omega
  have hRs:=Qp3 hR
  have hdv:Dg ([d]++dig rr):=by
   intro u hu
   rcases Y7.1 hu with hu | hu
   ·rw [qZt.1 hu]; exact hd9
   ·exact Um rr u hu
  refine Qr tt 2 rfl ?_
  refine Xh tt 2 [] (decide_eq_true (by omega)) rfl rfl ?_
  refine Qf tt 1 [] (Qi (j-1) Ji Xw rfl rfl (by omega) (Qg hd) rfl rfl) rfl ?_
  refine Zn (Ex Ji Xw qWr rfl rfl rfl rfl rfl rfl rfl rfl rfl rfl fun r2=>ko ?_)
  refine Qr tt 1 rfl ?_
  refine Zn (Zg (ls2:=(P3 ([d]++dig rr))) (m2:=1+(dig rr).length) 0 Ji Ji qWz rfl rfl Xw qWr rfl rfl rfl rfl rfl rfl rfl (by simp) (Jj _ (fun _=>rfl)) (Wu _ (fun _=>rfl)) (by rw [Zr]; omega) (by simp) (by rw [Zr]) fun r3=>ko ?_)
  refine X5 (fun _ k_=>Xe 0 [28] rfl (Zc rfl) (by simp; omega) (by simp; omega) rfl (Qo k_)) rfl ?_
  refine Qq tt rfl ?_
  refine kw (Zu qGd rfl rfl rfl rfl (Gv (hdv) (by simp; omega)) rfl) ?_
  refine X5 (fun _ k_=>Xs 29 (y:=.one (dl ((dig ((rr*10000+d)))))) rfl (by rw [show dv ([d]++dig rr)=rr*10000+d from by simp [dv,Ve]; omega]) (Qo k_)) rfl ?_
  refine Qr tt 3 rfl ?_
  refine Qj [0,1,6,7,8,9,10] rfl rfl ?_
  refine Zl (fun m L B=>∃ lo hi,lo≤hi∧hi≤9999∧y*lo≤(rr*10000+d)∧(rr*10000+d)<y*(hi+1)∧m=hi-lo∧L=[(0,.one (dl ((dig x)))),(1,.one (dl ((dig y)))),(6,.one (.orow r1 1 0 ((dig x).length))),(7,.one (dl ((dig ((rr*10000+d)))))),(8,.one (.int .i64 ((((j:Nat):Int)-1)))),(9,.one (.int .i64 (((lo:Nat):Int)))),(10,.one (.int .i64 (((hi:Nat):Int))))]∧B=[.row r1 3 1 (P3 o)]) (m:=_) ⟨0,9999,K6 _,X2 _,by omega,by omega,rfl,rfl,rfl⟩ ?_
  rintro m L B ⟨lo,hi,hb0,hb1,hb2,hb3,hm,rfl,rfl⟩
  refine Qq tt rfl ?_
  by_cases h2:lo<hi
  ·by_cases h3:y*((lo+hi+1) / 2)+0≤(rr*10000+d)
   refine Qq tt rfl ?_
   ·skip
    refine Qr tt 3 rfl ?_
    refine Xh tt 2 [] (decide_eq_true (by omega)) rfl rfl ?_
    refine Qf tt 0 [] (Zb (r:=((lo+hi:Nat):Int)) rfl rfl (Qm (by omega) (by omega)) rfl) rfl ?_
    refine Qf tt 0 [] (Zb (r:=(((lo+hi)+1:Nat):Int)) rfl rfl (Qm (by omega) (by omega)) rfl) rfl ?_
    refine Qf tt 3 [] (Fk (r:=((((lo+hi+1) / 2):Nat):Int)) rfl rfl (by decide) (by rw [show Int.tdiv ((((lo+hi)+1:Nat)):Int) 2=((((lo+hi+1) / 2):Nat):Int) from rfl]; exact Xq (by omega) (by omega)) rfl) rfl ?_
    refine kl tt 1 [] qGs rfl rfl rfl (U7 (x:=y) (mu:=(((lo+hi+1) / 2))) (c0:=0) (by omega) (by omega) (by omega)) rfl rfl ?_
    refine kl tt 1 [] Tryz.func285 rfl rfl rfl (R3 (x:=((y*(((lo+hi+1) / 2))+0))) (y:=((rr*10000+d))) (Xd (J9 (show _≤y*10000 by have:=qXa y (show ((lo+hi+1) / 2)≤10000 by omega); omega)) (Xd (Qby y) (by omega))) (by omega)) rfl rfl ?_
    refine Xh tt 2 [] (decide_eq_true (Qjp.2 h3)) rfl rfl ?_
    refine Qj [0,1,6,7,8,9,10] rfl rfl ?_
    refine Q8 ?_
    refine ⟨_,?_,((lo+hi+1) / 2),hi,by omega,by omega,by omega,hb3,rfl,rfl,rfl⟩
    omega
   skip
   refine Qr tt 3 rfl ?_
   refine Xh tt 2 [] (decide_eq_true (by omega)) rfl rfl ?_
   refine Qf tt 0 [] (Zb (r:=((lo+hi:Nat):Int)) rfl rfl (Qm (by omega) (by omega)) rfl) rfl ?_
   refine Qf tt 0 [] (Zb (r:=(((lo+hi)+1:Nat):Int)) rfl rfl (Qm (by omega) (by omega)) rfl) rfl ?_
   refine Qf tt 3 [] (Fk (r:=((((lo+hi+1) / 2):Nat):Int)) rfl rfl (by decide) (by rw [show Int.tdiv ((((lo+hi)+1:Nat)):Int) 2=((((lo+hi+1) / 2):Nat):Int) from rfl]; exact Xq (by omega) (by omega)) rfl) rfl ?_
   refine kl tt 1 [] qGs rfl rfl rfl (U7 (x:=y) (mu:=(((lo+hi+1) / 2))) (c0:=0) (by omega) (by omega) (by omega)) rfl rfl ?_
   refine kl tt 1 [] Tryz.func285 rfl rfl rfl (R3 (x:=((y*(((lo+hi+1) / 2))+0))) (y:=((rr*10000+d))) (Xd (J9 (show _≤y*10000 by have:=qXa y (show ((lo+hi+1) / 2)≤10000 by omega); omega)) (Xd (Qby y) (by omega))) (by omega)) rfl rfl ?_
   refine Z8 tt 1 [] (decide_eq_false (fun h=>h3 (Qjp.1 h))) rfl rfl ?_
   refine Qf tt 1 [] (Z9 (r:=((((lo+hi+1) / 2)-1:Nat):Int)) rfl rfl (Qm (by omega) (by omega)) rfl) rfl ?_
   refine Qj [0,1,6,7,8,9,10] rfl rfl ?_
   refine Q8 ?_
   refine ⟨_,?_,lo,((lo+hi+1) / 2)-1,by omega,by omega,hb2,by rw [show ((lo+hi+1) / 2)-1+1=((lo+hi+1) / 2) by omega]; omega,rfl,rfl,rfl⟩
   omega
  have hlh:lo=hi:=by omega
  have hfd:=Qlq hb2 (by rw [hlh]; exact hb3)
  refine Qr tt 3 rfl ?_
  refine Z8 tt 3 [] (decide_eq_false (by omega)) rfl rfl ?_
  refine kw (Zi (j-1) Ji Xw rfl rfl (by omega) (by omega) rfl) ?_
  refine Zn (Jp (ls2:=P3 (o.set (j-1) lo)) 0 Xw rfl rfl rfl rfl rfl rfl (by rw [Vl]; exact Qg hoi) rfl (by rw [Vl]; exact Uh (fun (x:Nat)=>[LV.int .i64 (x:Int)]) _ _ _) (ko ?_))
  refine Qr tt 3 rfl ?_
  refine kl tt 0 [] qGs rfl rfl rfl (U7 (x:=y) (mu:=lo) (c0:=0) (by omega) (by omega) (by omega)) rfl rfl ?_
  refine kl tt 2 [] Tryz.func286 rfl rfl rfl (M3 (x:=((rr*10000+d))) (y:=((y*lo+0))) (by omega) (Xd (J9 (by omega)) (by omega:sz (rr*10000+d)≤200000000)) (by omega)) rfl rfl ?_
  refine Qf tt 1 [] (Z9 (r:=(((j-1:Nat):Int)-1)) rfl rfl (Qm (by omega) (by omega)) rfl) rfl ?_
  refine Qj [0,1,6,7,8] rfl rfl ?_
  refine Q8 ?_
  refine ⟨_,?_,j-1,_,o.set (j-1) lo,by omega,by rw [H6]; exact hp1,hp2.set (by omega),by rw [Cr (by omega),show j-1+1=j by omega]; simp only [dv]; rw [hp3,hq1,hfd.1],by rw [hq2,hfd.2]; rfl,rfl,rfl,rfl⟩
  omega
 have hj:j=0:=by omega
 subst hj
 refine Qr tt 2 rfl ?_
 refine Z8 tt 1 [] (decide_eq_false (by omega)) rfl rfl ?_
 refine X5 (fun _ k_=>Xe 0 [56] rfl (Zc rfl) (by rw [Zr]; omega) (by rw [Zr]; omega) rfl (Qo k_)) rfl ?_
 refine Qq tt rfl ?_
 refine kl tt 3 [] qGd rfl rfl rfl (Gv (hp2) (by omega)) rfl rfl ?_
 exact kr2 tt [] rfl (by rw [show dv o=x / y from by have h:=hp3; rw [qXf,qXf,Ve] at h; exact h,show rr=x % y from by have h:=hp4; rw [qXf,Ve] at h; exact h])
end Orr

namespace Orr
open Go Go.Proofs
abbrev ri (z:Int):List LV:=[nd z.natAbs,sg z]
theorem Qt4 (b:Bool) (x:Nat):ri (Q4 b x)=[nd x,.bool (b && decide (0<x))]:=by
 unfold ri sg; rw [H5,M9]
theorem Qq9 (x:Nat):decide ((0:Int)<(((dig x).length:Nat):Int))=decide (0<x):=by
 rw [decide_eq_decide]
 have := @Lx x
 omega
theorem Qpd (x:Nat):ri ((x:Nat):Int)=[nd x,.bool false]:=by
 unfold ri sg
 rw [qVz,decide_eq_false (by omega)]
theorem Qcr {z:Int} (hz:Xj z≤100000000):Za Tryz.prog 263 [.one (mg z)] (.one (nd z.natAbs)):=by
 have h:=Qe2 (l:=V4 z.natAbs) (Rl _).1 (Xd (Qa5 _) (Xd hz (by decide))) (by rw [G3]; exact hz)
 rwa [G3] at h
theorem Qsv {a b:Int} (h:(decide (a<0) == decide (b<0))=true):Q4 (decide (a<0)) (a.natAbs+b.natAbs)=a+b:=by
 unfold Q4
 by_cases h1:a<0 <;> by_cases h2:b<0 <;> simp [h1,h2] at h ⊢ <;> omega
theorem Qsy {a b:Int} (h:¬(decide (a<0) == decide (b<0))=true) (hl:b.natAbs≤a.natAbs):Q4 (decide (a<0)) (a.natAbs-b.natAbs)=a+b:=by
 unfold Q4
 by_cases h1:a<0 <;> by_cases h2:b<0 <;> simp [h1,h2] at h ⊢ <;> omega
theorem Qpo {a b:Int} (h:¬(decide (a<0) == decide (b<0))=true) (hl:¬b.natAbs≤a.natAbs):Q4 (decide (b<0)) (b.natAbs-a.natAbs)=a+b:=by
 unfold Q4
 by_cases h1:a<0 <;> by_cases h2:b<0 <;> simp [h1,h2] at h ⊢ <;> omega
theorem Rr (a:Int):(∃ m:Nat,a=(m:Int))∨∃ m:Nat,a=-(m:Int)∧0<m:=by
 rcases Int.lt_or_le a 0 with h | h
 ·exact .inr ⟨a.natAbs,by omega,by omega⟩
 exact .inl ⟨a.natAbs,by omega⟩
theorem Qsx (a b:Int):Q4 (!(decide (a<0) == decide (b<0))) (a.natAbs*b.natAbs)=a*b:=by
 rcases Rr a with ⟨m,rfl⟩ | ⟨m,rfl,hm⟩ <;> rcases Rr b with ⟨n,rfl⟩ | ⟨n,rfl,hn⟩
 ·simp [Q4,show ¬((m:Int)<0) by omega,show ¬((n:Int)<0) by omega]
 ·simp [Q4,show ¬((m:Int)<0) by omega,show (-(n:Int)<0) by omega,hn,Int.mul_neg]
 ·simp [Q4,show (-(m:Int)<0) by omega,show ¬((n:Int)<0) by omega,hm,qVa]
 simp [Q4,show (-(m:Int)<0) by omega,show (-(n:Int)<0) by omega,hm,hn,Int.neg_mul_neg]
theorem Qsw {a b:Int} (h:a % b=0):Q4 (!(decide (a<0) == decide (b<0))) (a.natAbs / b.natAbs)=a / b:=by
 by_cases hb:b=0
 ·subst hb; simp [Q4]
 obtain ⟨c,rfl⟩:=qYs h
 rw [qXw _ hb,qKc,Nat.mul_div_cancel_left _ (by omega)]
 rcases Rr b with ⟨n,rfl⟩ | ⟨n,rfl,hn⟩ <;> rcases Rr c with ⟨m,rfl⟩ | ⟨m,rfl,hm⟩
 ·have:¬((n:Int)*(m:Int)<0):=by rw [←qYi]; omega
  simp [Q4,this,show ¬((n:Int)<0) by omega]
 ·have h1:0<n*m:=qVr (by omega) hm
  have:((n:Int)*-(m:Int)<0):=by rw [Int.mul_neg,←qYi]; omega
  simp only [this,show ¬((n:Int)<0) by omega]
  simp [Q4]
 ·by_cases h0:m=0
  ·subst h0; simp [Q4]
  have h1:0<n*m:=qVr hn (by omega)
  have:(-(n:Int)*(m:Int)<0):=by rw [qVa,←qYi]; omega
  simp only [this,show (-(n:Int)<0) by omega]
  simp [Q4]
 have:¬(-(n:Int)*-(m:Int)<0):=by rw [Int.neg_mul_neg,←qYi]; omega
 simp only [this,show (-(n:Int)<0) by omega]
 simp [Q4]
theorem Qpq (a b:Int):Int.sign (a-b)=Mx a b:=by
 unfold Mx
 rcases qYa a b with h | h | h
 ·rw [if_pos h,qJh (by omega)]
 ·rw [if_neg (by omega),if_neg (by omega),h,Int.sub_self]; rfl
 rw [if_neg (by omega),if_pos h,qJt (by omega)]
theorem Qjo {x y:Nat}:0≤Tx x y↔y≤x:=by
 unfold Tx
 constructor
 ·intro h; split at h
  ·omega
  omega
 intro h; split
 ·omega
 split <;> omega
theorem Kh {x:Nat} {b:Bool} (hx:sz x≤1000000000):Za Tryz.prog 179 [.one (dl ((dig x))),.one (.bool b)] (.agg [dl ((dig ((Q4 b x)).natAbs)),sg ((Q4 b x))]):=by
 refine X4 tt 0 [] qFa Tryz.ntmps179 rfl rfl rfl ?_
 have hxl:=Xz x
 rcases b with _ | _
 ·skip
  refine Qq tt rfl ?_
  refine Zn (Qn B5 rfl rfl fun g1=>ko ?_)
  refine Qr tt 3 rfl ?_
  refine Qf tt 0 [] (Qk rfl rfl (rfl) rfl) rfl ?_
  refine Qf tt 0 [] (Qk rfl rfl (rfl) rfl) rfl ?_
  refine Qf tt 0 [] (Qk rfl rfl (rfl) rfl) rfl ?_
  refine Qf tt 2 [0] (Zw rfl (rfl) rfl rfl) rfl ?_
  exact Xp tt [0] rfl (congrArg AV.agg (Qt4 false x).symm)
 skip
 refine Qq tt rfl ?_
 refine Zn (Qn B5 rfl rfl fun g2=>ko ?_)
 refine Qr tt 3 rfl ?_
 refine Qf tt 0 [] ((Qc rfl rfl (rfl) (Qw tt rfl rfl))) rfl ?_
 refine Qf tt 0 [] ((Qc rfl rfl (rfl) (Qh (m:=((dig x)).length) Ji rfl (Zd _) rfl))) rfl ?_
 refine Qf tt 0 [] ((Qc rfl rfl (rfl) (Qw tt rfl rfl))) rfl ?_
 refine Qf tt 2 [0] (Zs rfl (rfl) rfl rfl) rfl ?_
 exact Xp tt [0] rfl (by rw [Qq9]; exact congrArg AV.agg (Qt4 true x).symm)
theorem M2 {z:Int} (hz:Xj z≤100000000):Za Tryz.prog 184 [.agg [sg z,mg z]] (.agg [dl ((dig (z).natAbs)),sg z]):=by
 refine X4 tt 1 [] Tryz.func184 Tryz.ntmps184 rfl rfl rfl ?_
 refine Zn (Qn B5 rfl rfl fun g1=>ko ?_)
 refine Qq tt rfl ?_
 refine Qy 5 Qp rfl rfl rfl ?_
 refine Qr tt 2 rfl ?_
 refine Yv tt 2 [] Tryz.func263 rfl rfl rfl (Qcr (z:=z) (hz)) rfl rfl ?_
 refine Qq tt rfl ?_
 refine kl tt 1 [0] qFa rfl rfl rfl (Kh (x:=(((z).natAbs))) (b:=(decide (z<0))) (Xd hz (by decide))) rfl rfl ?_
 exact Xp tt [0] rfl (by rw [show Q4 (decide (z<0)) z.natAbs=z from by unfold Q4; by_cases h:z<0 <;> simp [h] <;> omega])
theorem Rg {z:Int} (hz:Xj z≤100000000):Za Tryz.prog 155 [.agg [dl ((dig (z).natAbs)),sg z]] (.agg [sg z,mg z]):=by
 refine X4 tt 1 [] qGb Tryz.ntmps155 rfl rfl rfl ?_
 refine Zn (Qn Ko rfl rfl fun g1=>ko ?_)
 refine Qq tt rfl ?_
 refine Qy 5 Qp rfl rfl rfl ?_
 refine Qr tt 4 rfl ?_
 refine Yv tt 2 [0] Tryz.func230 rfl rfl rfl (Qll (x:=(z).natAbs) (hz)) rfl rfl ?_
 exact Xp tt [0] rfl (rfl)
theorem Yq {n:Int} (hn:-4000000000000000000≤n∧n≤4000000000000000000):Za Tryz.prog 104 [.one (.int .i64 n)] (.agg [dl ((dig (n).natAbs)),sg n]):=by
 refine X4 tt 0 [] qWv Tryz.ntmps104 rfl rfl rfl ?_
 rcases Rr n with ⟨mm,rfl⟩ | ⟨mm,rfl,hm0⟩
 ·have hms:sz mm≤62:=Ks.2 (qJw (show mm<4611686018427387904 by omega) (by decide))
  have hml:=Xz mm
  refine Qq tt rfl ?_
  refine Zn (Qn B5 rfl rfl fun g1=>ko ?_)
  refine Qr tt 2 rfl ?_
  refine Z8 tt 4 [] (decide_eq_false (by omega)) rfl rfl ?_
  refine Z8 tt 1 [] (decide_eq_false (by omega)) rfl rfl ?_
  refine X5 (fun _ k_=>Xy [4] 3 1 rfl (Zc rfl) rfl (Qo k_)) rfl ?_
  refine Qj [0,2,3,4] rfl rfl ?_
  refine Zl (fun m L B=>∃ y r o,dig mm=o++dig y∧y≤mm∧o.length≤(dig mm).length∧m=y∧L=[(0,.one (.int .i64 (((y:Nat):Int)))),(2,.one (.ow g1 0)),(3,.one (.bool ((decide ((((mm:Nat):Int))<0))))),(4,.one (.orow r 1 0 o.length))]∧B=[.row r 3 1 (P3 o),.blk g1 32 [.nils,.bool false]]) (m:=_) ⟨mm,none,[],rfl,X2 _,K6 _,rfl,rfl,rfl⟩ ?_
  rintro m L B ⟨y,r,o,hp0,hp1,hp2,hm,rfl,rfl⟩
  refine Qq tt rfl ?_
  by_cases h1:y=0
  ·rw [h1,J4,qXg] at hp0
   refine Qr tt 2 rfl ?_
   refine Z8 tt 2 [] (decide_eq_false (by omega)) rfl rfl ?_
   refine X5 (fun _ k_=>Xe 0 [23] rfl (Zc rfl) (by rw [Zr]) (by rw [Zr]; omega) rfl (Qo k_)) rfl ?_
   refine X5 (fun _ k_=>Xs 23 (y:=.one (dl ((dig mm)))) rfl (by rw [hp0]; rfl) (Qo k_)) rfl ?_
   refine Qq tt rfl ?_
   refine kl tt 1 [0] qFa rfl rfl rfl (Kh (x:=mm) (b:=(decide ((((mm:Nat):Int))<0))) (Xd hms (by decide))) rfl rfl ?_
   exact Xp tt [0] rfl (by rw [show Q4 (decide (((mm:Nat):Int)<0)) mm=((mm:Nat):Int) from by unfold Q4; rw [decide_eq_false (by omega)]; rfl])
  have hdy:=R5 h1
  refine Qr tt 2 rfl ?_
  refine Xh tt 2 [] (decide_eq_true (by omega)) rfl rfl ?_
  refine Qf tt 1 [] (Gr (r:=((y % 10000:Nat):Int)) rfl rfl (by decide) (rfl) rfl) rfl ?_
  refine Zn (Zg (ls2:=(P3 (o++[y % 10000]))) (m2:=(o++[y % 10000]).length) 0 Ji Ji qWz rfl rfl Xw qWr rfl rfl rfl rfl rfl rfl rfl (by rw [Zr]; exact X2 _) (Js rfl) (Jx rfl) (by show _+1<_; omega) (by rw [Y0 (by rw [Zr]; exact X2 _)]; exact Hv _ _) (by rw [Fl]; rfl) fun r2=>ko ?_)
  refine Qr tt 2 rfl ?_
  refine Qf tt 1 [] (Fk (r:=((y / 10000:Nat):Int)) rfl rfl (by decide) (by rw [show Int.tdiv ((y:Nat):Int) 10000=((y / 10000:Nat):Int) from rfl]; exact Xq (by omega) (by omega)) rfl) rfl ?_
  refine Qj [0,2,3,4] rfl rfl ?_
  refine Q8 ?_
  refine ⟨_,?_,y / 10000,r2,o++[y % 10000],by rw [hp0,hdy,P6]; rfl,by omega,by rw [hp0,hdy]; simp,rfl,rfl,rfl⟩
  omega
 have hms:sz mm≤62:=Ks.2 (qJw (show mm<4611686018427387904 by omega) (by decide))
 have hml:=Xz mm
 refine Qq tt rfl ?_
 refine Zn (Qn B5 rfl rfl fun g3=>ko ?_)
 refine Qr tt 2 rfl ?_
 refine Z8 tt 4 [] (decide_eq_false (by omega)) rfl rfl ?_
 refine Xh tt 1 [] (decide_eq_true (by omega)) rfl rfl ?_
 refine kw (Qti (r:=(-((-((mm:Nat):Int))))) rfl (Qm rfl (by omega)) rfl) ?_
 refine X5 (fun _ k_=>Xs 13 (y:=.one (.int .i64 ((mm:Nat):Int))) rfl (by rw [Int.neg_neg]) (Qo k_)) rfl ?_
 refine Qr tt 2 rfl ?_
 refine X5 (fun _ k_=>Xy [4] 3 1 rfl (Zc rfl) rfl (Qo k_)) rfl ?_
 refine Qj [0,2,3,4] rfl rfl ?_
 refine Zl (fun m L B=>∃ y r o,dig mm=o++dig y∧y≤mm∧o.length≤(dig mm).length∧m=y∧L=[(0,.one (.int .i64 (((y:Nat):Int)))),(2,.one (.ow g3 0)),(3,.one (.bool ((decide (((-((mm:Nat):Int)))<0))))),(4,.one (.orow r 1 0 o.length))]∧B=[.row r 3 1 (P3 o),.blk g3 32 [.nils,.bool false]]) (m:=_) ⟨mm,none,[],rfl,X2 _,K6 _,rfl,rfl,rfl⟩ ?_
 rintro m L B ⟨y,r,o,hp0,hp1,hp2,hm,rfl,rfl⟩
 refine Qq tt rfl ?_
 by_cases h1:y=0
 ·rw [h1,J4,qXg] at hp0
  refine Qr tt 2 rfl ?_
  refine Z8 tt 2 [] (decide_eq_false (by omega)) rfl rfl ?_
  refine X5 (fun _ k_=>Xe 0 [23] rfl (Zc rfl) (by rw [Zr]) (by rw [Zr]; omega) rfl (Qo k_)) rfl ?_
  refine X5 (fun _ k_=>Xs 23 (y:=.one (dl ((dig mm)))) rfl (by rw [hp0]; rfl) (Qo k_)) rfl ?_
  refine Qq tt rfl ?_
  refine kl tt 1 [0] qFa rfl rfl rfl (Kh (x:=mm) (b:=(decide (((-((mm:Nat):Int)))<0))) (Xd hms (by decide))) rfl rfl ?_
  exact Xp tt [0] rfl (by rw [show Q4 (decide (-((mm:Nat):Int)<0)) mm=-((mm:Nat):Int) from by unfold Q4; rw [decide_eq_true (by omega)]; rfl])
 have hdy:=R5 h1
 refine Qr tt 2 rfl ?_
 refine Xh tt 2 [] (decide_eq_true (by omega)) rfl rfl ?_
 refine Qf tt 1 [] (Gr (r:=((y % 10000:Nat):Int)) rfl rfl (by decide) (rfl) rfl) rfl ?_
 refine Zn (Zg (ls2:=(P3 (o++[y % 10000]))) (m2:=(o++[y % 10000]).length) 0 Ji Ji qWz rfl rfl Xw qWr rfl rfl rfl rfl rfl rfl rfl (by rw [Zr]; exact X2 _) (Js rfl) (Jx rfl) (by show _+1<_; omega) (by rw [Y0 (by rw [Zr]; exact X2 _)]; exact Hv _ _) (by rw [Fl]; rfl) fun r4=>ko ?_)
 refine Qr tt 2 rfl ?_
 refine Qf tt 1 [] (Fk (r:=((y / 10000:Nat):Int)) rfl rfl (by decide) (by rw [show Int.tdiv ((y:Nat):Int) 10000=((y / 10000:Nat):Int) from rfl]; exact Xq (by omega) (by omega)) rfl) rfl ?_
 refine Qj [0,2,3,4] rfl rfl ?_
 refine Q8 ?_
 refine ⟨_,?_,y / 10000,r4,o++[y % 10000],by rw [hp0,hdy,P6]; rfl,by omega,by rw [hp0,hdy]; simp,rfl,rfl,rfl⟩
 omega
theorem Vy {z:Int} (hz:Xj z≤200000000):Za Tryz.prog 176 [.agg [dl ((dig (z).natAbs)),sg z]] (.one (.bool ((decide (z=0))))):=by
 refine X4 tt 0 [] qUx Tryz.ntmps176 rfl rfl rfl ?_
 have hzl:=Xz z.natAbs
 have hzn:(dig z.natAbs).length=0↔z.natAbs=0:=Lx
 have hzz:sz z.natAbs≤200000000:=hz
 skip
 refine Qr tt 4 rfl ?_
 refine Qf tt 2 [] (Qh (m:=((dig (z).natAbs)).length) Ji rfl (Zd _) rfl) rfl ?_
 exact Xp tt [] rfl (by rw [show decide ((((dig z.natAbs).length:Nat):Int)=0)=decide (z=0) from by rw [decide_eq_decide]; omega])
theorem Ak {z:Int} (hz:Xj z≤200000000):Za Tryz.prog 225 [.agg [dl ((dig (z).natAbs)),sg z]] (.one (.int .i64 ((Int.sign z)))):=by
 refine X4 tt 0 [] Tryz.func225 Tryz.ntmps225 rfl rfl rfl ?_
 have hzl:=Xz z.natAbs
 have hzn:(dig z.natAbs).length=0↔z.natAbs=0:=Lx
 have hzz:sz z.natAbs≤200000000:=hz
 rcases qYa z 0 with h | h | h
 ·skip
  refine Qr tt 4 rfl ?_
  refine Qf tt 2 [] (Qh (m:=((dig (z).natAbs)).length) Ji rfl (Zd _) rfl) rfl ?_
  refine Z8 tt 3 [] (decide_eq_false (by omega)) rfl rfl ?_
  refine Xh tt 1 [] (decide_eq_true h) rfl rfl ?_
  exact Xp tt [] rfl (by rw [qJh h])
 ·skip
  refine Qr tt 4 rfl ?_
  refine Qf tt 2 [] (Qh (m:=((dig (z).natAbs)).length) Ji rfl (Zd _) rfl) rfl ?_
  refine Xh tt 1 [] (decide_eq_true (by omega)) rfl rfl ?_
  exact Xp tt [] rfl (by rw [h]; rfl)
 skip
 refine Qr tt 4 rfl ?_
 refine Qf tt 2 [] (Qh (m:=((dig (z).natAbs)).length) Ji rfl (Zd _) rfl) rfl ?_
 refine Z8 tt 3 [] (decide_eq_false (by omega)) rfl rfl ?_
 refine Z8 tt 1 [] (decide_eq_false (by omega)) rfl rfl ?_
 exact Xp tt [] rfl (by rw [qJt h])
theorem Wm {z:Int} (hz:Xj z≤200000000):Za Tryz.prog 175 [.agg [dl ((dig (z).natAbs)),sg z]] (.agg [dl ((dig ((-z)).natAbs)),sg ((-z))]):=by
 refine X4 tt 1 [] qUz Tryz.ntmps175 rfl rfl rfl ?_
 refine Zn (Qn B5 rfl rfl fun g1=>ko ?_)
 refine Qr tt 5 rfl ?_
 refine kl tt 1 [0] qFa rfl rfl rfl (Kh (x:=((z).natAbs)) (b:=(!(decide (z<0)))) (Xd hz (by decide))) rfl rfl ?_
 exact Xp tt [0] rfl (by rw [show Q4 (!(decide (z<0))) z.natAbs=-z from by unfold Q4; by_cases h:z<0 <;> simp [h] <;> omega])
set_option maxRecDepth 20000 in
theorem Cp {a b:Int} (ha:Xj a≤200000000) (hb:Xj b≤200000000):Za Tryz.prog 227 [.agg [dl ((dig (a).natAbs)),sg a],.agg [dl ((dig (b).natAbs)),sg b]] (.agg [dl ((dig ((a+b)).natAbs)),sg ((a+b))]):=by
 refine X4 tt 0 [] Tryz.func227 Tryz.ntmps227 rfl rfl rfl ?_
 have ha2:sz a.natAbs≤200000000:=ha
 have hb2:sz b.natAbs≤200000000:=hb
 by_cases hs:(decide (a<0) == decide (b<0))=true
 ·skip
  refine Qr tt 2 rfl ?_
  refine Zn (Qn B5 rfl rfl fun g1=>ko ?_)
  refine Qr tt 5 rfl ?_
  refine Xh tt 0 [] (hs) rfl rfl ?_
  refine Qy 7 Qp rfl rfl rfl ?_
  refine Qr tt 4 rfl ?_
  refine Yv tt 2 [] Tryz.func284 rfl rfl rfl (Qhj (x:=(a).natAbs) (y:=(b).natAbs) (ha) (hb)) rfl rfl ?_
  refine Qq tt rfl ?_
  refine kl tt 1 [0] qFa rfl rfl rfl (Kh (x:=((((a).natAbs+(b).natAbs)))) (b:=(decide (a<0))) (Xd (J9 (show _≤a.natAbs+b.natAbs by omega)) (Xd (Qd2 _ _) (by omega)))) rfl rfl ?_
  exact Xp tt [0] rfl (by rw [Qsv hs])
 by_cases hl:b.natAbs≤a.natAbs
 refine Qq tt rfl ?_
 ·skip
  refine Qr tt 2 rfl ?_
  refine Zn (Qn B5 rfl rfl fun g2=>ko ?_)
  refine Qr tt 5 rfl ?_
  refine Z8 tt 4 [] (by simpa using hs) rfl rfl ?_
  refine kl tt 1 [] Tryz.func285 rfl rfl rfl (R3 (x:=(a).natAbs) (y:=(b).natAbs) (ha) (hb)) rfl rfl ?_
  refine Xh tt 0 [] (decide_eq_true (Qjo.2 hl)) rfl rfl ?_
  refine Qy 7 Qp rfl rfl rfl ?_
  refine Qr tt 4 rfl ?_
  refine Yv tt 2 [] Tryz.func286 rfl rfl rfl (M3 (x:=(a).natAbs) (y:=(b).natAbs) (ha) (hb) (hl)) rfl rfl ?_
  refine Qq tt rfl ?_
  refine kl tt 1 [0] qFa rfl rfl rfl (Kh (x:=((((a).natAbs-(b).natAbs)))) (b:=(decide (a<0))) (Xd (J9 (show _≤a.natAbs+b.natAbs by omega)) (Xd (Qd2 _ _) (by omega)))) rfl rfl ?_
  exact Xp tt [0] rfl (by rw [Qsy hs hl])
 skip
 refine Qr tt 2 rfl ?_
 refine Zn (Qn B5 rfl rfl fun g3=>ko ?_)
 refine Qr tt 5 rfl ?_
 refine Z8 tt 4 [] (by simpa using hs) rfl rfl ?_
 refine kl tt 1 [] Tryz.func285 rfl rfl rfl (R3 (x:=(a).natAbs) (y:=(b).natAbs) (ha) (hb)) rfl rfl ?_
 refine Z8 tt 0 [] (decide_eq_false (fun h=>hl (Qjo.1 h))) rfl rfl ?_
 refine Qy 7 Qp rfl rfl rfl ?_
 refine Qr tt 4 rfl ?_
 refine Yv tt 2 [] Tryz.func286 rfl rfl rfl (M3 (x:=(b).natAbs) (y:=(a).natAbs) (hb) (ha) (by omega)) rfl rfl ?_
 refine Qq tt rfl ?_
 refine kl tt 1 [0] qFa rfl rfl rfl (Kh (x:=((((b).natAbs-(a).natAbs)))) (b:=(decide (b<0))) (Xd (J9 (show _≤a.natAbs+b.natAbs by omega)) (Xd (Qd2 _ _) (by omega)))) rfl rfl ?_
 exact Xp tt [0] rfl (by rw [Qpo hs hl])
theorem Qah {a b:Int} (ha:Xj a≤200000000) (hb:Xj b≤200000000):Za Tryz.prog 262 [.agg [dl ((dig (a).natAbs)),sg a],.agg [dl ((dig (b).natAbs)),sg b]] (.agg [dl ((dig ((a-b)).natAbs)),sg ((a-b))]):=by
 refine X4 tt 2 [] Tryz.func262 Tryz.ntmps262 rfl rfl rfl ?_
 refine Zn (Qn B5 rfl rfl fun g1=>ko ?_)
 refine Qq tt rfl ?_
 refine Qy 3 Qp rfl rfl rfl ?_
 refine Qr tt 2 rfl ?_
 refine Yv tt 0 [] qUz rfl rfl rfl (Wm (hb)) rfl rfl ?_
 refine kl tt 1 [0] Tryz.func227 rfl rfl rfl (Cp (a:=a) (b:=((-b))) (ha) (by rw [Xg]; exact hb)) rfl rfl ?_
 exact Xp tt [0] rfl (by rw [Int.sub_eq_add_neg])
set_option maxRecDepth 20000 in
theorem Jo {a b:Int} (ha:Xj a≤200000000) (hb:Xj b≤200000000):Za Tryz.prog 228 [.agg [dl ((dig (a).natAbs)),sg a],.agg [dl ((dig (b).natAbs)),sg b]] (.agg [dl ((dig ((a*b)).natAbs)),sg ((a*b))]):=by
 refine X4 tt 2 [] qWs Tryz.ntmps228 rfl rfl rfl ?_
 refine Zn (Qn B5 rfl rfl fun g1=>ko ?_)
 refine Qq tt rfl ?_
 refine Qy 10 Qp rfl rfl rfl ?_
 refine Qr tt 4 rfl ?_
 refine Yv tt 5 [] Tryz.func287 rfl rfl rfl (Qhm (x:=(a).natAbs) (y:=(b).natAbs) (ha) (hb)) rfl rfl ?_
 refine Qq tt rfl ?_
 refine kl tt 1 [0] qFa rfl rfl rfl (Kh (x:=((((a).natAbs*(b).natAbs)))) (b:=(!((decide (a<0)) == (decide (b<0))))) (Xd (Qi9 _ _) (by have ha2:sz a.natAbs≤200000000:=ha; have hb2:sz b.natAbs≤200000000:=hb; omega))) rfl rfl ?_
 exact Xp tt [0] rfl (by rw [Qsx])
theorem Qlk {a b:Int} (ha:Xj a≤190000000) (hb:Xj b≤190000000):Za Tryz.prog 281 [.agg [dl ((dig (a).natAbs)),sg a],.agg [dl ((dig (b).natAbs)),sg b]] (.one (.int .i64 ((Mx a b)))):=by
 refine X4 tt 5 [] Tryz.func281 Tryz.ntmps281 rfl rfl rfl ?_
 refine kl tt 0 [] Tryz.func262 rfl rfl rfl (Qah (a:=a) (b:=b) (Xd ha (by decide)) (Xd hb (by decide))) rfl rfl ?_
 refine kl tt 1 [] Tryz.func225 rfl rfl rfl (Ak (Xd (L9 _ _) (by omega))) rfl rfl ?_
 exact Xp tt [] rfl (by rw [Qpq])
theorem Fn {a b:Int} (ha:Xj a≤90000000) (hb:Xj b≤90000000):Za Tryz.prog 177 [.agg [dl ((dig (a).natAbs)),sg a],.agg [dl ((dig (b).natAbs)),sg b]] (.agg [dl ((dig (((Int.gcd a b:Nat):Int)).natAbs)),sg (((Int.gcd a b:Nat):Int))]):=by
 refine X4 tt 2 [] qFm Tryz.ntmps177 rfl rfl rfl ?_
 refine Zn (Qn B5 rfl rfl fun g1=>ko ?_)
 refine Qq tt rfl ?_
 refine Qy 5 Qp rfl rfl rfl ?_
 refine Qr tt 5 rfl ?_
 refine Qr tt 1 rfl ?_
 refine Qj [4,5,6] rfl rfl ?_
 refine Zl (fun m L B=>∃ x y,Nat.gcd x y=Int.gcd a b∧sz x≤90000000∧sz y≤90000000∧m=y∧L=[(4,.one (.ow g1 0)),(5,.one (dl ((dig x)))),(6,.one (dl ((dig y))))]∧B=[.blk g1 32 [.nils,.bool false]]) (m:=_) ⟨_,_,rfl,ha,hb,rfl,rfl,rfl⟩ ?_
 rintro m L B ⟨x,y,hp0,hp1,hp2,hm,rfl,rfl⟩
 refine Qq tt rfl ?_
 have hyn:(dig y).length=0↔y=0:=Lx
 have hyl:=Xz y
 by_cases h1:y=0
 ·skip
  refine Qr tt 1 rfl ?_
  refine Qf tt 1 [] (Qh (m:=((dig y)).length) Ji rfl (Zd _) rfl) rfl ?_
  refine Z8 tt 3 [0] (decide_eq_false (by omega)) rfl rfl ?_
  exact Xp tt [0] rfl (by rw [show Int.gcd a b=x from by rw [←hp0,h1,Nat.gcd_zero_right]]; exact congrArg AV.agg (Qpd x).symm)
 have hlt:=Tv x (show 0<y by omega)
 refine Qr tt 1 rfl ?_
 refine Qf tt 1 [] (Qh (m:=((dig y)).length) Ji rfl (Zd _) rfl) rfl ?_
 refine Xh tt 2 [] (decide_eq_true (by omega)) rfl rfl ?_
 refine kl tt 9 [] Tryz.func259 rfl rfl rfl (Ad (x:=x) (y:=y) (hp1) (hp2) (by omega)) rfl rfl ?_
 refine Qj [4,5,6] rfl rfl ?_
 refine Q8 ?_
 refine ⟨_,?_,_,_,by rw [←hp0,qVl x y,Nat.gcd_rec y x,qVl],hp2,Xd (J9 (by omega)) hp2,rfl,rfl,rfl⟩
 omega
theorem Kx {a b:Int} (ha:Xj a≤90000000) (hb:Xj b≤90000000) (h0:b≠0) (hd:a % b=0):Za Tryz.prog 178 [.agg [dl ((dig (a).natAbs)),sg a],.agg [dl ((dig (b).natAbs)),sg b]] (.agg [dl ((dig ((a / b)).natAbs)),sg ((a / b))]):=by
 refine X4 tt 2 [] qUs Tryz.ntmps178 rfl rfl rfl ?_
 refine Zn (Qn B5 rfl rfl fun g1=>ko ?_)
 refine Qr tt 4 rfl ?_
 refine kl tt 11 [] Tryz.func259 rfl rfl rfl (Ad (x:=(a).natAbs) (y:=(b).natAbs) (ha) (hb) (by omega)) rfl rfl ?_
 refine kl tt 1 [0] qFa rfl rfl rfl (Kh (x:=((((a).natAbs / (b).natAbs)))) (b:=(!((decide (a<0)) == (decide (b<0))))) (Xd (J9 (qYk _ _)) (Xd ha (by decide)))) rfl rfl ?_
 exact Xp tt [0] rfl (by rw [Qsw hd])
theorem Vj:dig 1=[1]:=by rw [R5 (by decide)]; rw [show 1 / 10000=0 from rfl,J4]
theorem Ap {x e:Nat} (h:(dig x).length=1) (he:(dig x)[0]? = some e):x=e:=by
 rcases hd:dig x with _ | ⟨u,l⟩
 ·rw [hd] at h; cases h
 rcases l with _ | ⟨w,l⟩
 ·rw [hd] at he; simp at he
  have:=Ve x
  rw [hd] at this; simp [dv] at this; omega
 rw [hd] at h; simp at h
abbrev rr (q:Rat):List LV:=ri q.num++ri (q.den:Int)
theorem I1 {a b:Int} (hb:0<b):ri (a / ((Int.gcd a b:Nat):Int))++ri (b / ((Int.gcd a b:Nat):Int))=rr (Rat.divInt a b):=by
 obtain ⟨h1,h2⟩:=Eb (n:=a) hb
 rw [Fa,Int.gcd_comm] at h1 h2
 rw [h1,h2]
theorem Qir (a:Int):ri a++ri 1=rr (Rat.divInt a 1):=by
 have h:=I1 (a:=a) (b:=1) (by decide)
 rw [show ((Int.gcd a 1:Nat):Int)=1 by simp] at h
 simpa using h
theorem Pk {a b:Int} (hb:b≠0) (ha2:Xj a≤90000000) (hb2:Xj b≤90000000):Xj ((Int.gcd a b:Nat):Int)≤90000000∧((Int.gcd a b:Nat):Int)≠0∧a % ((Int.gcd a b:Nat):Int)=0∧b % ((Int.gcd a b:Nat):Int)=0:=by
 have h1:=Qj0 (n:=a) hb hb2
 have h2:=Qfj (n:=a) hb
 have h3:=A5 a b
 have h4:=A9 a b
 rw [Fa,Int.gcd_comm] at h1 h2 h3 h4
 exact ⟨h1,by omega,h3,h4⟩
theorem C5 {a b:Int} (h:b<0):Qz a b=Rat.divInt (-a) (-b):=by
 unfold Qz; rw [if_neg (by omega)]
 exact (Rat.neg_divInt_neg a b).symm
theorem C6 {a b:Int} (h:0<b):Qz a b=Rat.divInt a b:=by
 unfold Qz; rw [if_neg (by omega)]
theorem Qsk {a:Int}:Qz a 0=Rat.divInt a 1:=rfl
theorem Fo {a b:Int} (ha:Xj a≤90000000) (hb:Xj b≤90000000):Za Tryz.prog 103 [.agg [dl ((dig (a).natAbs)),sg a],.agg [dl ((dig (b).natAbs)),sg b]] (.agg [dl ((dig (((Qz a b)).num).natAbs)),sg (((Qz a b)).num),dl ((dig ((((Qz a b)).den:Int)).natAbs)),sg ((((Qz a b)).den:Int))]):=by
 refine X4 tt 0 [] qUk Tryz.ntmps103 rfl rfl rfl ?_
 have hal:=Xz a.natAbs
 have hbl:=Xz b.natAbs
 have ha2:sz a.natAbs≤90000000:=ha
 have hb2:sz b.natAbs≤90000000:=hb
 have hbl2:=Xz (-b).natAbs
 have hb3:sz (-b).natAbs≤90000000:=by rw [Int.natAbs_neg]; exact hb
 rcases qYa b 0 with hs | hs | hs
 ·skip
  refine Qq tt rfl ?_
  by_cases hl1:(dig ((-b)).natAbs).length=1
  ·obtain ⟨e,he⟩:∃ e,(dig ((-b)).natAbs)[0]? = some e:=⟨_,Xx (by omega)⟩
   have hde:=Ap hl1 he
   by_cases he1:e=1
   refine Qq tt rfl ?_
   ·skip
    refine Qq tt rfl ?_
    refine Zn (Yy rfl rfl rfl fun g1=>ko ?_)
    refine Zn (Yy rfl rfl rfl fun g2=>ko ?_)
    refine Zn (Qn Tz rfl rfl fun g3=>ko ?_)
    refine Xu tt 1 [1] rfl ?_
    refine kl tt 0 [] qUx rfl rfl rfl (Vy (Xd hb (by decide))) rfl rfl ?_
    refine Z8 tt 2 [1] (decide_eq_false (by omega)) rfl rfl ?_
    refine Xh tt 0 [] (decide_eq_true (by omega)) rfl rfl ?_
    refine Qy 3 Qp rfl rfl rfl ?_
    refine Xu tt 1 [2] rfl ?_
    refine Yv tt 1 [1] qUz rfl rfl rfl (Wm (Xd ha (by decide))) rfl rfl ?_
    refine Qq tt rfl ?_
    refine kl tt 4 [2,1,1] qUz rfl rfl rfl (Wm (Xd hb (by decide))) rfl rfl ?_
    refine Qf tt 2 [] (Qh (m:=((dig ((-b)).natAbs)).length) Ji rfl (Zd _) rfl) rfl ?_
    refine Qf tt 0 [] ((Qc rfl rfl (decide_eq_true (by omega)) (Qw tt rfl rfl))) rfl ?_
    refine Qf tt 0 [] ((Qc rfl rfl (decide_eq_true (by omega)) (Wv tt 1 rfl rfl))) rfl ?_
    refine Qf tt 0 [] ((Qc rfl rfl (decide_eq_true (by omega)) (Qi (0) Ji Xw rfl rfl (rfl) (Qg he) rfl rfl))) rfl ?_
    refine Qf tt 0 [] ((Qc rfl rfl (decide_eq_true (by omega)) (Qw tt rfl rfl))) rfl ?_
    refine Qf tt 0 [] ((Qc rfl rfl (decide_eq_true (by omega)) (Qw tt rfl rfl))) rfl ?_
    refine Qf tt 0 [] (Zs rfl (decide_eq_true (by omega)) rfl rfl) rfl ?_
    refine Xh tt 4 [2,1,0] (decide_eq_true (by omega)) rfl rfl ?_
    exact Xp tt [0] rfl (by rw [C5 (by omega),show (-b)=1 by omega]; exact congrArg AV.agg (Qir _))
   have hgf:=Pk (a:=(-a)) (b:=(-b)) (by omega) (by first | exact ha | (rw [Xg]; exact ha)) (by first | exact hb | (rw [Xg]; exact hb))
   refine Qq tt rfl ?_
   refine Zn (Yy rfl rfl rfl fun g4=>ko ?_)
   refine Zn (Yy rfl rfl rfl fun g5=>ko ?_)
   refine Zn (Qn Tz rfl rfl fun g6=>ko ?_)
   refine Xu tt 1 [1] rfl ?_
   refine kl tt 0 [] qUx rfl rfl rfl (Vy (Xd hb (by decide))) rfl rfl ?_
   refine Z8 tt 2 [1] (decide_eq_false (by omega)) rfl rfl ?_
   refine Xh tt 0 [] (decide_eq_true (by omega)) rfl rfl ?_
   refine Qy 3 Qp rfl rfl rfl ?_
   refine Xu tt 1 [2] rfl ?_
   refine Yv tt 1 [1] qUz rfl rfl rfl (Wm (Xd ha (by decide))) rfl rfl ?_
   refine Qq tt rfl ?_
   refine kl tt 4 [2,1,1] qUz rfl rfl rfl (Wm (Xd hb (by decide))) rfl rfl ?_
   refine Qf tt 2 [] (Qh (m:=((dig ((-b)).natAbs)).length) Ji rfl (Zd _) rfl) rfl ?_
   refine Qf tt 0 [] ((Qc rfl rfl (decide_eq_true (by omega)) (Qw tt rfl rfl))) rfl ?_
   refine Qf tt 0 [] ((Qc rfl rfl (decide_eq_true (by omega)) (Wv tt 1 rfl rfl))) rfl ?_
   refine Qf tt 0 [] ((Qc rfl rfl (decide_eq_true (by omega)) (Qi (0) Ji Xw rfl rfl (rfl) (Qg he) rfl rfl))) rfl ?_
   refine Qf tt 0 [] ((Qc rfl rfl (decide_eq_true (by omega)) (Qw tt rfl rfl))) rfl ?_
   refine Qf tt 0 [] ((Qc rfl rfl (decide_eq_true (by omega)) (Qw tt rfl rfl))) rfl ?_
   refine Qf tt 0 [] (Zs rfl (decide_eq_true (by omega)) rfl rfl) rfl ?_
   refine Z8 tt 2 [2,1] (decide_eq_false (by omega)) rfl rfl ?_
   refine kw (Zu qFm rfl rfl rfl rfl (Fn (a:=((-a))) (b:=((-b))) (by first | exact ha | (rw [Xg]; exact ha)) (by first | exact hb | (rw [Xg]; exact hb))) rfl) ?_
   refine Zn (Qn B5 rfl rfl fun g7=>ko ?_)
   refine Xu tt 1 [0] rfl ?_
   refine Qy 5 Qp rfl rfl rfl ?_
   refine Xu tt 2 [3,0] rfl ?_
   refine Yv tt 2 [2,0] qUs rfl rfl rfl (Kx (a:=((-a))) (b:=(((Int.gcd ((-a)) ((-b)):Nat):Int))) (by first | exact ha | (rw [Xg]; exact ha)) (hgf.1) (hgf.2.1) (hgf.2.2.1)) rfl rfl ?_
   refine Qq tt rfl ?_
   refine kl tt 2 [1] qUs rfl rfl rfl (Kx (a:=((-b))) (b:=(((Int.gcd ((-a)) ((-b)):Nat):Int))) (by first | exact hb | (rw [Xg]; exact hb)) (hgf.1) (hgf.2.1) (hgf.2.2.2)) rfl rfl ?_
   exact Xp tt [1] rfl (by rw [C5 (by omega)]; exact congrArg AV.agg (I1 (by omega)))
  have hgf:=Pk (a:=(-a)) (b:=(-b)) (by omega) (by first | exact ha | (rw [Xg]; exact ha)) (by first | exact hb | (rw [Xg]; exact hb))
  refine Qq tt rfl ?_
  refine Zn (Yy rfl rfl rfl fun g8=>ko ?_)
  refine Zn (Yy rfl rfl rfl fun g9=>ko ?_)
  refine Zn (Qn Tz rfl rfl fun g10=>ko ?_)
  refine Xu tt 1 [1] rfl ?_
  refine kl tt 0 [] qUx rfl rfl rfl (Vy (Xd hb (by decide))) rfl rfl ?_
  refine Z8 tt 2 [1] (decide_eq_false (by omega)) rfl rfl ?_
  refine Xh tt 0 [] (decide_eq_true (by omega)) rfl rfl ?_
  refine Qy 3 Qp rfl rfl rfl ?_
  refine Xu tt 1 [2] rfl ?_
  refine Yv tt 1 [1] qUz rfl rfl rfl (Wm (Xd ha (by decide))) rfl rfl ?_
  refine Qq tt rfl ?_
  refine kl tt 4 [2,1,1] qUz rfl rfl rfl (Wm (Xd hb (by decide))) rfl rfl ?_
  refine Qf tt 2 [] (Qh (m:=((dig ((-b)).natAbs)).length) Ji rfl (Zd _) rfl) rfl ?_
  refine Qf tt 0 [] (Qk rfl rfl (decide_eq_false (by omega)) rfl) rfl ?_
  refine Qf tt 0 [] (Qk rfl rfl (decide_eq_false (by omega)) rfl) rfl ?_
  refine Qf tt 0 [] (Qk rfl rfl (decide_eq_false (by omega)) rfl) rfl ?_
  refine Qf tt 0 [] (Qk rfl rfl (decide_eq_false (by omega)) rfl) rfl ?_
  refine Qf tt 0 [] (Qk rfl rfl (decide_eq_false (by omega)) rfl) rfl ?_
  refine Qf tt 0 [] (Zw rfl (decide_eq_false (by omega)) rfl rfl) rfl ?_
  refine Z8 tt 2 [2,1] (rfl) rfl rfl ?_
  refine kw (Zu qFm rfl rfl rfl rfl (Fn (a:=((-a))) (b:=((-b))) (by first | exact ha | (rw [Xg]; exact ha)) (by first | exact hb | (rw [Xg]; exact hb))) rfl) ?_
  refine Zn (Qn B5 rfl rfl fun g11=>ko ?_)
  refine Xu tt 1 [0] rfl ?_
  refine Qy 5 Qp rfl rfl rfl ?_
  refine Xu tt 2 [3,0] rfl ?_
  refine Yv tt 2 [2,0] qUs rfl rfl rfl (Kx (a:=((-a))) (b:=(((Int.gcd ((-a)) ((-b)):Nat):Int))) (by first | exact ha | (rw [Xg]; exact ha)) (hgf.1) (hgf.2.1) (hgf.2.2.1)) rfl rfl ?_
  refine Qq tt rfl ?_
  refine kl tt 2 [1] qUs rfl rfl rfl (Kx (a:=((-b))) (b:=(((Int.gcd ((-a)) ((-b)):Nat):Int))) (by first | exact hb | (rw [Xg]; exact hb)) (hgf.1) (hgf.2.1) (hgf.2.2.2)) rfl rfl ?_
  exact Xp tt [1] rfl (by rw [C5 (by omega)]; exact congrArg AV.agg (I1 (by omega)))
 ·skip
  refine Qq tt rfl ?_
  refine Zn (Yy rfl rfl rfl fun g12=>ko ?_)
  refine Zn (Yy rfl rfl rfl fun g13=>ko ?_)
  refine Zn (Qn Tz rfl rfl fun g14=>ko ?_)
  refine Xu tt 1 [1] rfl ?_
  refine kl tt 0 [] qUx rfl rfl rfl (Vy (Xd hb (by decide))) rfl rfl ?_
  refine Xh tt 0 [] (decide_eq_true hs) rfl rfl ?_
  refine kl tt 3 [1,1] qWv rfl rfl rfl (Yq (n:=1) (by decide)) rfl rfl ?_
  refine Z8 tt 2 [1] (decide_eq_false (by decide)) rfl rfl ?_
  refine Qf tt 2 [] (Qh (m:=((dig ((1:Int)).natAbs)).length) Ji rfl (Zd _) rfl) rfl ?_
  refine Qf tt 0 [] ((Qc rfl rfl (decide_eq_true (by rw [show (1:Int).natAbs=1 from rfl,Vj]; rfl)) (Qw tt rfl rfl))) rfl ?_
  refine Qf tt 0 [] ((Qc rfl rfl (decide_eq_true (by rw [show (1:Int).natAbs=1 from rfl,Vj]; rfl)) (Wv tt 1 rfl rfl))) rfl ?_
  refine Qf tt 0 [] ((Qc rfl rfl (decide_eq_true (by rw [show (1:Int).natAbs=1 from rfl,Vj]; rfl)) (Qi (0) Ji Xw rfl rfl (rfl) (Qg (by rw [show (1:Int).natAbs=1 from rfl,Vj]; rfl)) rfl rfl))) rfl ?_
  refine Qf tt 0 [] ((Qc rfl rfl (decide_eq_true (by rw [show (1:Int).natAbs=1 from rfl,Vj]; rfl)) (Qw tt rfl rfl))) rfl ?_
  refine Qf tt 0 [] ((Qc rfl rfl (decide_eq_true (by rw [show (1:Int).natAbs=1 from rfl,Vj]; rfl)) (Qw tt rfl rfl))) rfl ?_
  refine Qf tt 0 [] (Zs rfl (decide_eq_true (by rw [show (1:Int).natAbs=1 from rfl,Vj]; rfl)) rfl rfl) rfl ?_
  refine Xh tt 4 [2,1,0] (rfl) rfl rfl ?_
  exact Xp tt [0] rfl (by rw [hs,Qsk]; exact congrArg AV.agg (Qir _))
 skip
 refine Qq tt rfl ?_
 by_cases hl1:(dig (b).natAbs).length=1
 ·obtain ⟨e,he⟩:∃ e,(dig (b).natAbs)[0]? = some e:=⟨_,Xx (by omega)⟩
  have hde:=Ap hl1 he
  by_cases he1:e=1
  refine Qq tt rfl ?_
  ·skip
   refine Qq tt rfl ?_
   refine Zn (Yy rfl rfl rfl fun g15=>ko ?_)
   refine Zn (Yy rfl rfl rfl fun g16=>ko ?_)
   refine Zn (Qn Tz rfl rfl fun g17=>ko ?_)
   refine Xu tt 1 [1] rfl ?_
   refine kl tt 0 [] qUx rfl rfl rfl (Vy (Xd hb (by decide))) rfl rfl ?_
   refine Z8 tt 2 [1] (decide_eq_false (by omega)) rfl rfl ?_
   refine Z8 tt 2 [1] (decide_eq_false (by omega)) rfl rfl ?_
   refine Qf tt 2 [] (Qh (m:=((dig (b).natAbs)).length) Ji rfl (Zd _) rfl) rfl ?_
   refine Qf tt 0 [] ((Qc rfl rfl (decide_eq_true (by omega)) (Qw tt rfl rfl))) rfl ?_
   refine Qf tt 0 [] ((Qc rfl rfl (decide_eq_true (by omega)) (Wv tt 1 rfl rfl))) rfl ?_
   refine Qf tt 0 [] ((Qc rfl rfl (decide_eq_true (by omega)) (Qi (0) Ji Xw rfl rfl (rfl) (Qg he) rfl rfl))) rfl ?_
   refine Qf tt 0 [] ((Qc rfl rfl (decide_eq_true (by omega)) (Qw tt rfl rfl))) rfl ?_
   refine Qf tt 0 [] ((Qc rfl rfl (decide_eq_true (by omega)) (Qw tt rfl rfl))) rfl ?_
   refine Qf tt 0 [] (Zs rfl (decide_eq_true (by omega)) rfl rfl) rfl ?_
   refine Xh tt 4 [2,1,0] (decide_eq_true (by omega)) rfl rfl ?_
   exact Xp tt [0] rfl (by rw [C6 (by omega),show b=1 by omega]; exact congrArg AV.agg (Qir _))
  have hgf:=Pk (a:=a) (b:=b) (by omega) (by first | exact ha | (rw [Xg]; exact ha)) (by first | exact hb | (rw [Xg]; exact hb))
  refine Qq tt rfl ?_
  refine Zn (Yy rfl rfl rfl fun g18=>ko ?_)
  refine Zn (Yy rfl rfl rfl fun g19=>ko ?_)
  refine Zn (Qn Tz rfl rfl fun g20=>ko ?_)
  refine Xu tt 1 [1] rfl ?_
  refine kl tt 0 [] qUx rfl rfl rfl (Vy (Xd hb (by decide))) rfl rfl ?_
  refine Z8 tt 2 [1] (decide_eq_false (by omega)) rfl rfl ?_
  refine Z8 tt 2 [1] (decide_eq_false (by omega)) rfl rfl ?_
  refine Qf tt 2 [] (Qh (m:=((dig (b).natAbs)).length) Ji rfl (Zd _) rfl) rfl ?_
  refine Qf tt 0 [] ((Qc rfl rfl (decide_eq_true (by omega)) (Qw tt rfl rfl))) rfl ?_
  refine Qf tt 0 [] ((Qc rfl rfl (decide_eq_true (by omega)) (Wv tt 1 rfl rfl))) rfl ?_
  refine Qf tt 0 [] ((Qc rfl rfl (decide_eq_true (by omega)) (Qi (0) Ji Xw rfl rfl (rfl) (Qg he) rfl rfl))) rfl ?_
  refine Qf tt 0 [] ((Qc rfl rfl (decide_eq_true (by omega)) (Qw tt rfl rfl))) rfl ?_
  refine Qf tt 0 [] ((Qc rfl rfl (decide_eq_true (by omega)) (Qw tt rfl rfl))) rfl ?_
  refine Qf tt 0 [] (Zs rfl (decide_eq_true (by omega)) rfl rfl) rfl ?_
  refine Z8 tt 2 [2,1] (decide_eq_false (by omega)) rfl rfl ?_
  refine kw (Zu qFm rfl rfl rfl rfl (Fn (a:=a) (b:=b) (by first | exact ha | (rw [Xg]; exact ha)) (by first | exact hb | (rw [Xg]; exact hb))) rfl) ?_
  refine Zn (Qn B5 rfl rfl fun g21=>ko ?_)
  refine Xu tt 1 [0] rfl ?_
  refine Qy 5 Qp rfl rfl rfl ?_
  refine Xu tt 2 [3,0] rfl ?_
  refine Yv tt 2 [2,0] qUs rfl rfl rfl (Kx (a:=a) (b:=(((Int.gcd a b:Nat):Int))) (by first | exact ha | (rw [Xg]; exact ha)) (hgf.1) (hgf.2.1) (hgf.2.2.1)) rfl rfl ?_
  refine Qq tt rfl ?_
  refine kl tt 2 [1] qUs rfl rfl rfl (Kx (a:=b) (b:=(((Int.gcd a b:Nat):Int))) (by first | exact hb | (rw [Xg]; exact hb)) (hgf.1) (hgf.2.1) (hgf.2.2.2)) rfl rfl ?_
  exact Xp tt [1] rfl (by rw [C6 (by omega)]; exact congrArg AV.agg (I1 (by omega)))
 have hgf:=Pk (a:=a) (b:=b) (by omega) (by first | exact ha | (rw [Xg]; exact ha)) (by first | exact hb | (rw [Xg]; exact hb))
 refine Qq tt rfl ?_
 refine Zn (Yy rfl rfl rfl fun g22=>ko ?_)
 refine Zn (Yy rfl rfl rfl fun g23=>ko ?_)
 refine Zn (Qn Tz rfl rfl fun g24=>ko ?_)
 refine Xu tt 1 [1] rfl ?_
 refine kl tt 0 [] qUx rfl rfl rfl (Vy (Xd hb (by decide))) rfl rfl ?_
 refine Z8 tt 2 [1] (decide_eq_false (by omega)) rfl rfl ?_
 refine Z8 tt 2 [1] (decide_eq_false (by omega)) rfl rfl ?_
 refine Qf tt 2 [] (Qh (m:=((dig (b).natAbs)).length) Ji rfl (Zd _) rfl) rfl ?_
 refine Qf tt 0 [] (Qk rfl rfl (decide_eq_false (by omega)) rfl) rfl ?_
 refine Qf tt 0 [] (Qk rfl rfl (decide_eq_false (by omega)) rfl) rfl ?_
 refine Qf tt 0 [] (Qk rfl rfl (decide_eq_false (by omega)) rfl) rfl ?_
 refine Qf tt 0 [] (Qk rfl rfl (decide_eq_false (by omega)) rfl) rfl ?_
 refine Qf tt 0 [] (Qk rfl rfl (decide_eq_false (by omega)) rfl) rfl ?_
 refine Qf tt 0 [] (Zw rfl (decide_eq_false (by omega)) rfl rfl) rfl ?_
 refine Z8 tt 2 [2,1] (rfl) rfl rfl ?_
 refine kw (Zu qFm rfl rfl rfl rfl (Fn (a:=a) (b:=b) (by first | exact ha | (rw [Xg]; exact ha)) (by first | exact hb | (rw [Xg]; exact hb))) rfl) ?_
 refine Zn (Qn B5 rfl rfl fun g25=>ko ?_)
 refine Xu tt 1 [0] rfl ?_
 refine Qy 5 Qp rfl rfl rfl ?_
 refine Xu tt 2 [3,0] rfl ?_
 refine Yv tt 2 [2,0] qUs rfl rfl rfl (Kx (a:=a) (b:=(((Int.gcd a b:Nat):Int))) (by first | exact ha | (rw [Xg]; exact ha)) (hgf.1) (hgf.2.1) (hgf.2.2.1)) rfl rfl ?_
 refine Qq tt rfl ?_
 refine kl tt 2 [1] qUs rfl rfl rfl (Kx (a:=b) (b:=(((Int.gcd a b:Nat):Int))) (by first | exact hb | (rw [Xg]; exact hb)) (hgf.1) (hgf.2.1) (hgf.2.2.2)) rfl rfl ?_
 exact Xp tt [1] rfl (by rw [C6 (by omega)]; exact congrArg AV.agg (I1 (by omega)))
end Orr

namespace Orr
open Go Go.Proofs
theorem Qac (a b:Rat):Qz (a.num*(b.den:Int)+b.num*(a.den:Int)) ((a.den:Int)*(b.den:Int))=a+b:=by
 unfold Qz
 rw [if_neg (qYw (Uk a) (Uk b)),←Rat.divInt_add_divInt _ _ (Uk a) (Uk b),qXv,qXv]
theorem Qa7 (a b:Rat):Qz (a.num*b.num) ((a.den:Int)*(b.den:Int))=a*b:=by
 unfold Qz
 rw [if_neg (qYw (Uk a) (Uk b)),←Rat.divInt_mul_divInt,qXv,qXv]
theorem Qbl {a b:Rat} (h:b≠0):Qz (a.num*(b.den:Int)) ((a.den:Int)*b.num)=a / b:=by
 have hn:b.num≠0:=fun e=>h (Rat.num_eq_zero.1 e)
 unfold Qz
 rw [if_neg (qYw (Uk a) hn),←Rat.divInt_mul_divInt,qXv,Rat.div_def]
 congr 1
 conv=>rhs; rw [←qXv b,Rat.inv_divInt]
theorem Qvn {s:Nat} {a b:Rat} (ha:Qs s a) (hb:Qs s b):Qs (2*s+1) (a+b):=by
 rw [←Qac]
 unfold Qz
 rw [if_neg (qYw (Uk a) (Uk b))]
 refine Qs.divInt (Xd (L7 _ _) ?_) (Xd (Xl _ _) (by have:=ha.2; have:=hb.2; omega)) (by omega)
 have h1:=Xl a.num (b.den:Int)
 have h2:=Xl b.num (a.den:Int)
 have:=ha.1; have:=ha.2; have:=hb.1; have:=hb.2
 omega
theorem Qlm {a:Rat} (ha:Qs 100000000 a):Za Tryz.prog 83 [.agg [dl ((dig ((a).num).natAbs)),sg ((a).num),dl ((dig (((a).den:Int)).natAbs)),sg (((a).den:Int))]] (.agg [sg a.num,mg a.num,sg ((a.den:Int)),mg ((a.den:Int))]):=by
 refine X4 tt 1 [] Tryz.func83 Tryz.ntmps83 rfl rfl rfl ?_
 refine Zn (Qn qUu rfl rfl fun g1=>ko ?_)
 refine Qq tt rfl ?_
 refine Qy 5 Qp rfl rfl rfl ?_
 refine Qr tt 2 rfl ?_
 refine Yv tt 2 [] qGb rfl rfl rfl (Rg (ha.1)) rfl rfl ?_
 refine Qq tt rfl ?_
 refine kl tt 2 [0] qGb rfl rfl rfl (Rg (ha.2)) rfl rfl ?_
 exact Xp tt [0] rfl (rfl)
theorem Pg {n d:Int} (hn:-1000000000≤n∧n≤1000000000) (hd:-1000000000≤d∧d≤1000000000):Za Tryz.prog 139 [.one (.int .i64 n),.one (.int .i64 d)] (.agg [dl ((dig (((Qz n d)).num).natAbs)),sg (((Qz n d)).num),dl ((dig ((((Qz n d)).den:Int)).natAbs)),sg ((((Qz n d)).den:Int))]):=by
 refine X4 tt 0 [] qGa Tryz.ntmps139 rfl rfl rfl ?_
 have hns:Xj n≤30:=Gg.2 (qJw (show n.natAbs<1073741824 by omega) (by decide))
 have hds:Xj d≤30:=Gg.2 (qJw (show d.natAbs<1073741824 by omega) (by decide))
 skip
 refine Qq tt rfl ?_
 refine Zn (Qn Tz rfl rfl fun g1=>ko ?_)
 refine Qr tt 1 rfl ?_
 refine kl tt 1 [] qWv rfl rfl rfl (Yq (n:=n) (by omega)) rfl rfl ?_
 refine kl tt 0 [] qWv rfl rfl rfl (Yq (n:=d) (by omega)) rfl rfl ?_
 refine kl tt 1 [0] qUk rfl rfl rfl (Fo (a:=n) (b:=d) (by omega) (by omega)) rfl rfl ?_
 exact Xp tt [0] rfl (rfl)
theorem Qhn {a:Rat} (ha:Qs 100000000 a):Za Tryz.prog 102 [.agg [dl ((dig ((a).num).natAbs)),sg ((a).num),dl ((dig (((a).den:Int)).natAbs)),sg (((a).den:Int))]] (.agg [dl ((dig (((-a)).num).natAbs)),sg (((-a)).num),dl ((dig ((((-a)).den:Int)).natAbs)),sg ((((-a)).den:Int))]):=by
 refine X4 tt 1 [] Tryz.func102 Tryz.ntmps102 rfl rfl rfl ?_
 refine Zn (Qn Tz rfl rfl fun g1=>ko ?_)
 refine Qq tt rfl ?_
 refine Qy 5 Qp rfl rfl rfl ?_
 refine Qr tt 2 rfl ?_
 refine Yv tt 2 [] qUz rfl rfl rfl (Wm (Xd ha.1 (by decide))) rfl rfl ?_
 refine Xu tt 2 [0] rfl ?_
 exact Xp tt [0] rfl (rfl)
set_option maxRecDepth 20000 in
theorem Ac {a b:Rat} (ha:Qs 20000000 a) (hb:Qs 20000000 b):Za Tryz.prog 187 [.agg [dl ((dig ((a).num).natAbs)),sg ((a).num),dl ((dig (((a).den:Int)).natAbs)),sg (((a).den:Int))],.agg [dl ((dig ((b).num).natAbs)),sg ((b).num),dl ((dig (((b).den:Int)).natAbs)),sg (((b).den:Int))]] (.agg [dl ((dig (((a+b)).num).natAbs)),sg (((a+b)).num),dl ((dig ((((a+b)).den:Int)).natAbs)),sg ((((a+b)).den:Int))]):=by
 refine X4 tt 2 [] Tryz.func187 Tryz.ntmps187 rfl rfl rfl ?_
 refine Zn (Qn Tz rfl rfl fun g1=>ko ?_)
 refine Qq tt rfl ?_
 refine Qy 15 Qp rfl rfl rfl ?_
 refine Qr tt 4 rfl ?_
 refine Yv tt 4 [] qWs rfl rfl rfl (Jo (a:=((a).num)) (b:=(((b).den:Int))) (by have:=ha.1; have:=ha.2; have:=hb.1; have:=hb.2; omega) (by have:=ha.1; have:=ha.2; have:=hb.1; have:=hb.2; omega)) rfl rfl ?_
 refine Yv tt 0 [] qWs rfl rfl rfl (Jo (a:=((b).num)) (b:=(((a).den:Int))) (by have:=ha.1; have:=ha.2; have:=hb.1; have:=hb.2; omega) (by have:=ha.1; have:=ha.2; have:=hb.1; have:=hb.2; omega)) rfl rfl ?_
 refine Yv tt 4 [] Tryz.func227 rfl rfl rfl (Cp (a:=((((a).num)*(((b).den:Int))))) (b:=((((b).num)*(((a).den:Int))))) (Xd (Xl _ _) (by have:=ha.1; have:=ha.2; have:=hb.1; have:=hb.2; omega)) (Xd (Xl _ _) (by have:=ha.1; have:=ha.2; have:=hb.1; have:=hb.2; omega))) rfl rfl ?_
 refine Qq tt rfl ?_
 refine kl tt 0 [] qWs rfl rfl rfl (Jo (a:=(((a).den:Int))) (b:=(((b).den:Int))) (by have:=ha.1; have:=ha.2; have:=hb.1; have:=hb.2; omega) (by have:=ha.1; have:=ha.2; have:=hb.1; have:=hb.2; omega)) rfl rfl ?_
 refine kl tt 1 [0] qUk rfl rfl rfl (Fo (a:=((((((a).num)*(((b).den:Int))))+((((b).num)*(((a).den:Int))))))) (b:=(((((a).den:Int))*(((b).den:Int))))) (Xd (L7 _ _) (by have h1:=Xl a.num (b.den:Int); have h2:=Xl b.num (a.den:Int); have:=ha.1; have:=ha.2; have:=hb.1; have:=hb.2; omega)) (Xd (Xl _ _) (by have:=ha.1; have:=ha.2; have:=hb.1; have:=hb.2; omega))) rfl rfl ?_
 exact Xp tt [0] rfl (by rw [Qac])
set_option maxRecDepth 20000 in
theorem Ae {a b:Rat} (ha:Qs 40000000 a) (hb:Qs 40000000 b):Za Tryz.prog 154 [.agg [dl ((dig ((a).num).natAbs)),sg ((a).num),dl ((dig (((a).den:Int)).natAbs)),sg (((a).den:Int))],.agg [dl ((dig ((b).num).natAbs)),sg ((b).num),dl ((dig (((b).den:Int)).natAbs)),sg (((b).den:Int))]] (.agg [dl ((dig (((a*b)).num).natAbs)),sg (((a*b)).num),dl ((dig ((((a*b)).den:Int)).natAbs)),sg ((((a*b)).den:Int))]):=by
 refine X4 tt 2 [] Tryz.func154 Tryz.ntmps154 rfl rfl rfl ?_
 refine Zn (Qn Tz rfl rfl fun g1=>ko ?_)
 refine Qq tt rfl ?_
 refine Qy 9 Qp rfl rfl rfl ?_
 refine Qr tt 4 rfl ?_
 refine Yv tt 4 [] qWs rfl rfl rfl (Jo (a:=((a).num)) (b:=((b).num)) (by have:=ha.1; have:=ha.2; have:=hb.1; have:=hb.2; omega) (by have:=ha.1; have:=ha.2; have:=hb.1; have:=hb.2; omega)) rfl rfl ?_
 refine Qq tt rfl ?_
 refine kl tt 0 [] qWs rfl rfl rfl (Jo (a:=(((a).den:Int))) (b:=(((b).den:Int))) (by have:=ha.1; have:=ha.2; have:=hb.1; have:=hb.2; omega) (by have:=ha.1; have:=ha.2; have:=hb.1; have:=hb.2; omega)) rfl rfl ?_
 refine kl tt 1 [0] qUk rfl rfl rfl (Fo (a:=((((a).num)*((b).num)))) (b:=(((((a).den:Int))*(((b).den:Int))))) (Xd (Xl _ _) (by have:=ha.1; have:=ha.2; have:=hb.1; have:=hb.2; omega)) (Xd (Xl _ _) (by have:=ha.1; have:=ha.2; have:=hb.1; have:=hb.2; omega))) rfl rfl ?_
 exact Xp tt [0] rfl (by rw [Qa7])
set_option maxRecDepth 20000 in
theorem Ah {a b:Rat} (ha:Qs 40000000 a) (hb:Qs 40000000 b) (h0:b≠0):Za Tryz.prog 218 [.agg [dl ((dig ((a).num).natAbs)),sg ((a).num),dl ((dig (((a).den:Int)).natAbs)),sg (((a).den:Int))],.agg [dl ((dig ((b).num).natAbs)),sg ((b).num),dl ((dig (((b).den:Int)).natAbs)),sg (((b).den:Int))]] (.agg [dl ((dig (((a / b)).num).natAbs)),sg (((a / b)).num),dl ((dig ((((a / b)).den:Int)).natAbs)),sg ((((a / b)).den:Int))]):=by
 refine X4 tt 2 [] Tryz.func218 Tryz.ntmps218 rfl rfl rfl ?_
 refine Zn (Qn Tz rfl rfl fun g1=>ko ?_)
 refine Qq tt rfl ?_
 refine Qy 9 Qp rfl rfl rfl ?_
 refine Qr tt 4 rfl ?_
 refine Yv tt 4 [] qWs rfl rfl rfl (Jo (a:=((a).num)) (b:=(((b).den:Int))) (by have:=ha.1; have:=ha.2; have:=hb.1; have:=hb.2; omega) (by have:=ha.1; have:=ha.2; have:=hb.1; have:=hb.2; omega)) rfl rfl ?_
 refine Qq tt rfl ?_
 refine kl tt 0 [] qWs rfl rfl rfl (Jo (a:=(((a).den:Int))) (b:=((b).num)) (by have:=ha.1; have:=ha.2; have:=hb.1; have:=hb.2; omega) (by have:=ha.1; have:=ha.2; have:=hb.1; have:=hb.2; omega)) rfl rfl ?_
 refine kl tt 1 [0] qUk rfl rfl rfl (Fo (a:=((((a).num)*(((b).den:Int))))) (b:=(((((a).den:Int))*((b).num)))) (Xd (Xl _ _) (by have:=ha.1; have:=ha.2; have:=hb.1; have:=hb.2; omega)) (Xd (Xl _ _) (by have:=ha.1; have:=ha.2; have:=hb.1; have:=hb.2; omega))) rfl rfl ?_
 exact Xp tt [0] rfl (by rw [Qbl h0])
set_option maxRecDepth 20000 in
theorem Qhl {a b:Rat} (ha:Qs 40000000 a) (hb:Qs 40000000 b):Za Tryz.prog 217 [.agg [dl ((dig ((a).num).natAbs)),sg ((a).num),dl ((dig (((a).den:Int)).natAbs)),sg (((a).den:Int))],.agg [dl ((dig ((b).num).natAbs)),sg ((b).num),dl ((dig (((b).den:Int)).natAbs)),sg (((b).den:Int))]] (.one (.int .i64 ((Qq6 a b)))):=by
 refine X4 tt 3 [] Tryz.func217 Tryz.ntmps217 rfl rfl rfl ?_
 refine Qy 9 Qp rfl rfl rfl ?_
 refine Qr tt 4 rfl ?_
 refine Yv tt 4 [] qWs rfl rfl rfl (Jo (a:=((a).num)) (b:=(((b).den:Int))) (by have:=ha.1; have:=ha.2; have:=hb.1; have:=hb.2; omega) (by have:=ha.1; have:=ha.2; have:=hb.1; have:=hb.2; omega)) rfl rfl ?_
 refine Qq tt rfl ?_
 refine kl tt 0 [] qWs rfl rfl rfl (Jo (a:=((b).num)) (b:=(((a).den:Int))) (by have:=ha.1; have:=ha.2; have:=hb.1; have:=hb.2; omega) (by have:=ha.1; have:=ha.2; have:=hb.1; have:=hb.2; omega)) rfl rfl ?_
 refine kl tt 1 [] Tryz.func281 rfl rfl rfl (Qlk (a:=((((a).num)*(((b).den:Int))))) (b:=((((b).num)*(((a).den:Int))))) (Xd (Xl _ _) (by have:=ha.1; have:=ha.2; have:=hb.1; have:=hb.2; omega)) (Xd (Xl _ _) (by have:=ha.1; have:=ha.2; have:=hb.1; have:=hb.2; omega))) rfl rfl ?_
 exact Xp tt [] rfl (rfl)
end Orr

namespace Orr
def Uz:List Rat→List Rat
  | []=>[]
  |
   x::l=>match Uz l with
   | []=>if x=0 then [] else [x]
   | y::k=>x::y::k
theorem S5:∀ {l:List Rat},(∀ x∈l,x=0)→Uz l=[]
  | [],_=>rfl
  |
   x::l,h=>by
   have ih:=S5 (l:=l) (fun y hy=>h y (Ge _ hy))
   simp [Uz,ih,h x (Fm ..)]
theorem I3:∀ {l:List Rat} {m:Nat} {y:Rat},(∀ j x,m<j→l[j]? = some x→x=0)→l[m]? = some y→y≠0→Uz l=l.take (m+1)
  | [],m,y,_,h,_=>by simp at h
  |
   x::l,0,y,h1,h2,h3=>by
   have h0:Uz l=[]:=S5 fun z hz=>by
     obtain ⟨j,hj⟩:=qZr.1 hz
     exact h1 (j+1) z (by omega) (by simpa using hj)
   simp at h2
   subst h2
   simp [Uz,h0,h3]
  |
   x::l,m+1,y,h1,h2,h3=>by
   have ih:=I3 (l:=l) (m:=m) (y:=y) (fun j z hj hz=>h1 (j+1) z (by omega) (by simpa using hz)) (by simpa using h2) h3
   cases hl:l with
   | nil=>subst hl; simp at h2
   |
    cons u k =>
    subst hl
    rw [qVu] at ih
    simp only [Uz] at ih ⊢
    rw [ih]
    simp
theorem Da {l:List Rat} {m:Nat} (hm:m≤l.length) (h1:∀ j x,m≤j→l[j]? = some x→x=0) (h2:0<m→∃ y,l[m-1]? = some y∧y≠0):Uz l=l.take m:=by
  rcases Hl m with h0 | h0
  · subst h0
    rw [S5 fun z hz=>?_]; rfl
    obtain ⟨j,hj⟩:=qZr.1 hz
    exact h1 j z (by omega) hj
  · obtain ⟨y,hy,hy0⟩:=h2 h0
    have:=I3 (l:=l) (m:=m-1) (y:=y) (fun j x hj hx=>h1 j x (by omega) hx) hy hy0
    rwa [show m-1+1=m from by omega] at this
theorem Qbs:∀ (l:List Rat),∀ z∈Uz l,z∈l
  | [],z,h=>h
  |
   x::l,z,h=>by
   simp only [Uz] at h
   have ih:=Qbs l
   split at h
   · split at h
     · cases h
     · simp at h; simp [h]
   · rename_i y k e
     rw [e] at ih
     rcases Vw.1 h with h | h
     · simp [h]
     · exact Ge _ (ih z h)
theorem Qbr:∀ (l:List Rat),(Uz l).length≤l.length
  | []=>X2 _
  |
   x::l=>by
   have ih:=Qbr l
   simp only [Uz]
   split
   · split <;> simp
   · rename_i y k e
     rw [e] at ih
     simp at ih ⊢; omega
def zp (p:List Int):List Rat:=p.map fun (z:Int)=>(z:Rat)
theorem Fi:∀ (p:List Int),Uz (zp p)=zp (trim p)
  | []=>rfl
  |
   x::l=>by
   have ih:=Fi l
   unfold zp at ih ⊢
   simp only [Ln,Uz,trim,ih]
   cases h:trim l with
   |
    nil =>
    simp only [List.map_nil]
    by_cases hx:x=0
    · subst hx; simp
    · have:(x:Rat)≠0:=fun e=>hx (by exact_mod_cast e)
      simp [hx,this]
   | cons y k=>simp
theorem Ze (p:List Int):(zp p).length=p.length:=Zr _
theorem Qv3 {p:List Int} {i:Nat} {z:Int} (h:p[i]? = some z):(zp p)[i]? = some (z:Rat):=by simp [zp,h]
theorem P2 (p:List Int) (i:Nat):(zp p).getD i 0=((p.getD i 0:Int):Rat):=by
  simp only [V6,zp,S1]
  cases p[i]? <;> rfl
def Rb (s:Nat) (p:List Rat):Prop:=∀ q∈p,Qs s q
theorem Rb.mono {s t:Nat} {p:List Rat} (h:Rb s p) (ht:s≤t):Rb t p:=fun q hq=>(h q hq).mono ht
theorem Rb.get {s:Nat} {p:List Rat} (h:Rb s p) {i:Nat} {q:Rat} (hq:p[i]? = some q):Qs s q:=h q (Vo hq)
theorem W0 {s:Nat} {z:Int} (h:Xj z≤s) (h1:1≤s):Qs s (z:Rat):=⟨by simpa using h,Xd (show Xj ((1:Nat):Int)≤1 by decide) h1⟩
theorem S2 {s:Nat} {p:List Int} (h:Bd s p) (h1:1≤s):Rb s (zp p):=fun q hq=>by
  obtain ⟨z,hz,rfl⟩:=Ww.1 hq
  exact W0 (h z hz) h1
theorem Qsh {s:Nat} (h1:1≤s):Qs s 0:=W0 (z:=0) (by simp [Sp]) h1
theorem Rb.getD {s:Nat} {p:List Rat} (h:Rb s p) (h1:1≤s) (i:Nat):Qs s (p.getD i 0):=by
  rw [V6]
  cases e:p[i]? with
  | none=>exact Qsh h1
  | some q=>exact h.get e
theorem Rb.trim {s:Nat} {p:List Rat} (h:Rb s p):Rb s (Uz p):=fun q hq=>h q (Qbs p q hq)
def W2 (f:Nat→Rat) (n:Nat):List Rat:=(List.range n).map f
theorem Xo (f:Nat→Rat) (n:Nat):(W2 f n).length=n:=by simp [W2]
theorem G2 (f:Nat→Rat) (n:Nat):W2 f (n+1)=W2 f n++[f n]:=by simp [W2,qVw]
theorem Pw {s n:Nat} {f:Nat→Rat} (h:∀ i,i<n→Qs s (f i)):Rb s (W2 f n):=fun q hq=>by
  obtain ⟨i,hi,rfl⟩:=Ww.1 hq
  exact h i (Tu.1 hi)
theorem Px {f:Nat→Rat} {g:Nat→Int} (n:Nat) (h:∀ i,i<n→f i=(g i:Rat)):W2 f n=zp ((List.range n).map g):=by
  simp only [W2,zp,List.map_map]
  exact qJr fun i hi=>h i (Tu.1 hi)
def Qsi (p q:List Rat):List Rat:=Uz (W2 (fun i=>p.getD i 0+q.getD i 0) (max p.length q.length))
def Fz (p:List Rat) (c:Rat):List Rat:=Uz (W2 (fun i=>p.getD i 0*c) p.length)
def Qmp (p:List Rat):List Rat:=Fz p (-1)
def Qvs (p q:List Rat):List Rat:=Qsi p (Qmp q)
theorem Qsj (p q:List Int):Qsi (zp p) (zp q)=zp (Qut p q):=by
  unfold Qsi Qut W6
  rw [Px (g:=fun k=>p.getD k 0+q.getD k 0) _ fun i _=>by rw [P2,P2,Rat.intCast_add],Fi,Ze,Ze]
theorem Qbq (p:List Int) (c:Int):Fz (zp p) (c:Rat)=zp (J8 p c):=by
  unfold Fz J8 W6
  rw [Px (g:=fun k=>p.getD k 0*c) _ fun i _=>by rw [P2,qJq],Fi,Ze]
theorem Qig (p:List Int):J8 p (-1)=Lj p:=by
  unfold J8 Lj W6
  congr 2
  funext k
  omega
theorem Qko (p:List Int):Qmp (zp p)=zp (Lj p):=by
  rw [←Qig,←Qbq]; rfl
theorem Sj {p q:List Int} (hp:Yw p) (hq:Yw q) (h:∀ k,p.getD k 0=q.getD k 0):p=q:=by
  have key:∀ {p q:List Int},Yw q→(∀ k,p.getD k 0=q.getD k 0)→q.length≤p.length:=by
    intro p q hq h
    rcases Mq p.length q.length with h1 | h1
    · have h2:=Pz hq (by omega)
      rw [←h,V6,Eh (by omega)] at h2
      exact (h2 rfl).elim
    · exact h1
  exact Qhv (Nat.le_antisymm (key hp fun k=>(h k).symm) (key hq h)) fun j _=>h j
theorem Qhu {n m:Nat} {f g:Nat→Int} (hn:n≤m) (h:∀ k,k<n→f k=g k) (h0:∀ k,n≤k→k<m→g k=0):W6 n f=W6 m g:=by
  refine Sj (Ky _ _) (Ky _ _) fun k=>?_
  rw [Gw,Gw]
  by_cases h1:k<n
  · rw [if_pos h1,if_pos (by omega),h k h1]
  · rw [if_neg h1]
    by_cases h2:k<m
    · rw [if_pos h2,h0 k (by omega) h2]
    · rw [if_neg h2]
theorem Qsq (p q:List Int):Qvs (zp p) (zp q)=zp (Lk p q):=by
  unfold Qvs
  rw [Qko,Qsj]
  congr 1
  have hl:=Qfo q
  unfold Qut Lk
  refine Qhu (by omega) (fun k _=>?_) fun k h1 h2=>?_
  · unfold Lj
    rw [Gw]
    split
    · omega
    · rename_i h
      have:q.getD k 0=0:=by rw [V6,Eh (by omega)]; rfl
      omega
  · have h3:p.getD k 0=0:=by rw [V6,Eh (by omega)]; rfl
    have h4:(Lj q).getD k 0=0:=by rw [V6,Eh (by omega)]; rfl
    unfold Lj at h4
    rw [Gw] at h4
    split at h4
    · omega
    · have:q.getD k 0=0:=by rw [V6,Eh (by omega)]; rfl
      omega
end Orr
