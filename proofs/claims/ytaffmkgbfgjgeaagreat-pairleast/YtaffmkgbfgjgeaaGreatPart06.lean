/- AvDrawS AvFn ARefN ARefI ARefR RefPL -/
import Derived.Test.YtaffmkgbfgjgeaaGreatPart02
import Derived.Test.YtaffmkgbfgjgeaaGreatPart00
import Derived.Test.YtaffmkgbfgjgeaaGreatPart04
import Derived.Test.YtaffmkgbfgjgeaaGreatPart05
set_option linter.all false

namespace Orr
open Go
variable {P:Program} {ops:Array Oper} {n:Nat} {rest:List Oper} {N:Sg→List OB→Prop} {L:Sg} {B:List OB} {d:Nat} {ty:TypeId} {pos:String} {after:Array Edge}
def AMS (P:Program) (ops:Array Oper) (n:Nat) (o:Oper) (L:Sg) (B:List OB) (R:List OB→Prop):Prop :=
  ∀ (K Ob:Nat→Prop) (w0 w:World) (a:Act) (Bs:List Y8) (L':List (Nat×Value)) (Fs:List Fact),St K Ob w0 w a n L' Fs Bs→(∀ t x,lk L t=some x→∃ v,Z1 L' t=some v∧ARep w (Qy Ob Bs) v x)→BsRep w (Qy Ob Bs) B Bs →
    wpList P ops (fun e a' w'=>e=.normal∧∃ Bs' B1,R B1∧St K Ob w0 w' a' n [] Fs Bs'∧BsRep w' (Qy Ob Bs') B1 Bs') [o] a w
theorem P5 {o:Oper} {R:List OB→Prop} (haw:∀ N:Sg→List OB→Prop,(∀ B1,R B1→N L B1)→AW P ops n [o] N L B):AMS P ops n o L B R:=by
  intro K Ob w0 w a Bs L' Fs h hL hB
  have h0:St (fun b=>b<w.heap.size∧b∉Bs.map (·.1)) Ob w w a n L' [] Bs :=
    { size:=h.size,defers:=h.defers,slots:=h.slots,wsize:=Ji _,grow:=fun _ _=>rfl,own:=fun g T cs hm=>⟨fun hk=>hk.2 (Wa.2 ⟨_,hm,rfl⟩),(h.own g T cs hm).2⟩,nodup:=h.nodup,
      facts:=fun f hf=>by simp at hf,base:=fun b hk=>hk.1,obase:=fun b hb=>qZv (h.obase b hb) h.wsize,ownO:=h.ownO,io:=⟨rfl,rfl⟩ }
  refine haw (fun L2 B2=>∃ B1,R B1∧L2=L∧B2=B1) (fun B1 hR=>⟨B1,hR,rfl,rfl⟩) _ Ob w w a _ ⟨L',Bs,h0,hL,hB⟩ ?_
  rintro a' w' ⟨L2,B2,⟨L2',Bs2,h1,h2,h3⟩,B1,hR,rfl,rfl⟩
  have hle:Le w (Qy Ob Bs) w' (Qy Ob Bs2):=by
    refine ⟨h1.wsize,fun b hb hno=>h1.grow b ⟨hb,fun hm=>hno (.inr hm)⟩,fun b hb ho=>?_⟩
    rcases ho with ho | hm
    · exact .inl ho
    · by_cases hb2:b∈Bs.map (·.1)
      · exact .inr hb2
      · obtain ⟨⟨g,T,cs⟩,hg,rfl⟩:=Wa.1 hm
        exact absurd ⟨hb,hb2⟩ (h1.own g T cs hg).1
  have hnk:∀ b,K b→b<w.heap.size∧b∉Bs.map (·.1):=fun b hk=>⟨qZv (h.base b hk) h.wsize,fun hm=>by
    obtain ⟨⟨g,T,cs⟩,hg,rfl⟩:=Wa.1 hm
    exact (h.own g T cs hg).1 hk⟩
  refine ⟨rfl,Bs2,B2,hR,?_,h3⟩
  exact { size:=h1.size,defers:=h1.defers,slots:=fun t x (hx:none=some x)=>(nomatch hx)
          wsize:=Xa h.wsize h1.wsize,grow:=fun b hk=>(h1.grow b (hnk b hk)).trans (h.grow b hk),own:=fun g T cs hm=>⟨fun hk=>(h1.own g T cs hm).1 (hnk g hk),(h1.own g T cs hm).2⟩,
          nodup:=h1.nodup,facts:=fun f hf=>f.keep hle (h.facts f hf),base:=h.base,obase:=h.obase,ownO:=h1.ownO,io:=⟨h1.io.1.trans h.io.1,h1.io.2.trans h.io.2⟩ }
theorem Qmd {D:List Nat} {us:List AV}:∀ {os:List Oper} {ds:List Sg} {k:Nat},APs P ops n L B D us k ds os→∀ (i:Nat) dep o,ds[i]? = some dep→os[i]? = some o→AP P ops n o (D.getD (k+i) 0) (us.getD (k+i) .un) (dep++L) B
  | [],_,_,_,i,_,_,_,ho=>by simp at ho
  | _::_,[],_,_,i,_,_,hd,_=>by simp at hd
  | o::os,dp::ds,k,h,0,dep,o',hd,ho=>by simp at hd ho; subst hd; subst ho; exact h.1
  |
   o::os,dp::ds,k,h,i+1,dep,o',hd,ho=>by
   have:=Qmd h.2 i dep o' (by simpa using hd) (by simpa using ho)
   rw [show k+(i+1)=k+1+i from by omega]
   exact this
theorem Fm (D:List Nat) (j:Nat) (h:j<D.length):dd (D.map some++[none]) j=D.getD j 0∧dE (D.map some++[none]) j=true:=by
  unfold dd dE
  simp [Ve,qXa,h]
theorem Bn (D:List Nat):dE (D.map some++[none]) D.length=false:=by
  unfold dE
  simp [Ve]
theorem Qkr (D:List Nat) (v:Nat→Value) (js:List Nat) (h:∀ j∈js,j<D.length):dL (D.map some++[none]) v js=js.map fun j=>(D.getD j 0,v j):=by
  unfold dL
  have:js.filter (dE (D.map some++[none]))=js:=qYv.2 fun j hj=>(Fm D j (h j hj)).2
  rw [this]
  exact qJt fun j hj=>by rw [(Fm D j (h j hj)).1]
theorem Qpo (D:List Nat) (v:Nat→Value):dL (D.map some++[none]) v (List.range (D.length+1))=(List.range D.length).map fun j=>(D.getD j 0,v j):=by
  have h:=Qkr D v (List.range D.length) fun j hj=>Ru.1 hj
  rw [←h]
  unfold dL
  rw [qVz,List.filter_append]
  simp [Bn]
def EOp (P:Program) (ops:Array Oper) (n:Nat) (L:Sg) (B:List OB) (E:List Nat) (i d:Nat) (u:AV) (dep:Sg) (o:Oper):Prop :=
  match E.contains i with
  | true=>True
  | false=>AP P ops n o d u (dep++L) B
def EOps (P:Program) (ops:Array Oper) (n:Nat) (L:Sg) (B:List OB) (E:List Nat) (D:List Nat) (us:List AV):Nat→List Sg→List Oper→Prop
  | i,dep::deps,o::os=>EOp P ops n L B E i (D.getD i 0) (us.getD i .un) dep o∧EOps P ops n L B E D us (i+1) deps os
  | _,_,_=>True
theorem EOps.get {E:List Nat} {D:List Nat} {us:List AV}:∀ {os:List Oper} {ds:List Sg} {k:Nat},EOps P ops n L B E D us k ds os→∀ (i:Nat) dep o,ds[i]? = some dep→os[i]? = some o→EOp P ops n L B E (k+i) (D.getD (k+i) 0) (us.getD (k+i) .un) dep o
  | [],_,_,_,i,_,_,_,ho=>by simp at ho
  | _::_,[],_,_,i,_,_,hd,_=>by simp at hd
  | o::os,dp::ds,k,h,0,dep,o',hd,ho=>by simp at hd ho; subst hd; subst ho; exact h.1
  |
   o::os,dp::ds,k,h,i+1,dep,o',hd,ho=>by
   have:=EOps.get h.2 i dep o' (by simpa using hd) (by simpa using ho)
   rw [show k+(i+1)=k+1+i from by omega]
   exact this
theorem Qcj {id:Nat} {l:List Oper} {Q:Exit→Sg→List OB→Prop} (hm:P.follows .mixedOrders=true) (c:Nat) (D:List Nat) (deps:List (List Nat)) (us:List AV) (R:List OB→Prop) {o0:Oper} (hchk:Kc l (c+1) (D.map some++[none]) deps=true)
    (hDm:(Nat.beq D.length c && Nat.beq us.length c && deps.all fun js=>js.all fun j=>Nat.blt j c)=true) (hnone:(D.all fun t=>(lk L t).isNone)=true) (ho0:l[c]? = some o0)
    (hops0:APs P l.toArray n L B D us 0 (depsOf D us deps) (l.take c)) (hst0:∀ js,deps[c]? = some js→AMS P l.toArray n o0 (js.map (fun j=>(D.getD j 0,us.getD j .un))++L) B R)
    (hops1:∀ B1,R B1→EOps P l.toArray n L B1 (deps.getD c []) D us 0 (depsOf D us deps) (l.take c))
    (k:∀ B1,R B1→∃ L2,C2 D us L=some L2∧AW P l.toArray n (l.drop (c+1)) (fun L B=>Q .normal L B) L2 B1):AC P n (.region id l.toArray true) Q L B:=by
  rintro K Ob w0 w a ⟨L',Bs,h,hL,hB⟩
  simp only [qXk,Bv] at hDm hnone
  obtain ⟨⟨hD,hU⟩,hdl⟩:=hDm
  have hD:=Fg hD
  have hU:=Fg hU
  have hdl:∀ js∈deps,∀ j∈js,j<c:=fun js hj j hjj=>by have:=hdl js hj j hjj; rwa [Mc] at this
  obtain ⟨L3,h1,h2,h3⟩:=only L hL
  have hst:St K Ob w0 w a n L3 [] Bs:={ h with slots:=fun t v hv=>h.slots t v (h2 t v hv) }
  have hst2:=hst.add (f:=SF L L3 [] [] [] []) ⟨h3,rfl,trivial⟩
  have hc:=Hr hchk
  let Inv:(Nat→Bool)→(Nat→Value)→World→List Y8→Prop:=fun p v w Bs=>(p c=false∧BsRep w (Qy Ob Bs) B Bs)∨(p c=true∧(∀ j∈deps.getD c [],p j=true)∧∃ B1,R B1∧BsRep w (Qy Ob Bs) B1 Bs)
  have hone:∀ (i:Nat) (dj:List Nat) (o:Oper),deps[i]? = some dj→l[i]? = some o→i<c+1→Gp P l.toArray K Ob w0 n L3 [SF L L3 [] [] [] []] Inv (D.map some++[none]) (us.map Gz) i dj o:=by
    intro i dj o hdj ho hi p hpi hpd v Fx a' w' Bs hinv hs
    have hjm:=hdl dj (Y6 hdj)
    rw [Qkr D v dj fun j hj=>by rw [hD]; exact hjm j hj] at hs
    have hfacts:∀ j∈dj,ARep w' (Qy Ob Bs) (v j) (us.getD j .un):=fun j hj=>by
      have:=hs.facts ((us.map Gz).getD j Uq (v j)) (Yz.2 (.inl (Wa.2 ⟨j,hj,rfl⟩)))
      rw [Ve,Sd,Xv (by rw [hU]; exact hjm j hj)] at this
      rw [Ve,Xv (by rw [hU]; exact hjm j hj)]
      exact this
    obtain ⟨h6,_,_⟩:(SF L L3 [] [] [] []).holds w' (Qy Ob Bs):=hs.facts _ (Yz.2 (.inr (by simp)))
    have hdep:=Wo (D:=D) (us:=us) hdj
    rcases Mp i c with hic | hic
    · have hdk:=Fm D i (by rw [hD]; exact hic)
      have e5:(us.map Gz).getD i Uq=Gz (us[i]'(by rw [hU]; exact hic)):=by
        rw [Ve,Sd,Xv (by rw [hU]; exact hic)]; rfl
      have e6:us.getD i .un=us[i]'(by rw [hU]; exact hic):=by
        rw [Ve,Xv (by rw [hU]; exact hic)]; rfl
      have hl:(l.take c)[i]? = some o:=by rw [Ei,if_pos hic]; exact ho
      have hne:c≠i:=by omega
      have hpc:(c == i || p c)=p c:=by simp [hne]
      have plain:∀ (BX:List OB),BsRep w' (Qy Ob Bs) BX Bs→AP P l.toArray n o (D.getD i 0) (us.getD i .un) (dj.map (fun j=>(D.getD j 0,us.getD j .un))++L) BX →
          (∀ (w2:World) (x:Value),BsRep w2 (Qy Ob Bs) BX Bs→Inv (fun j=>j == i || p j) (fun j=>if j=i then x else v j) w2 Bs) →
          wpList P l.toArray (fun e a' w'=>e=.normal∧∃ u Bs',Inv (fun j=>j == i || p j) (fun j=>if j=i then u else v j) w' Bs'∧St K Ob w0 w' a' n (if dE (D.map some++[none]) i then [(dd (D.map some++[none]) i,u)] else []) (((us.map Gz).getD i Uq) u::([SF L L3 [] [] [] []]++Fx)) Bs') [o] a' w':=by
        intro BX hBX hap hinv2
        have hs2:=hs.add (f:=SF [] [] BX Bs [] []) ⟨fun t x (hh:none=some x)=>(nomatch hh),hBX,trivial⟩
        have hw:=hap K Ob w0 w' a' Bs _ _ hs2 (Ug h6 hfacts) hBX
        refine K0 hs.defers (fun _ _ ⟨_,hh,_⟩=>hh.defers) hw fun a2 w2 hh=>?_
        obtain ⟨x,h8,h9⟩:=hh
        obtain ⟨_,h10,_⟩:=h8.fact 0 rfl
        refine wpList_nil ⟨rfl,x,Bs,hinv2 w2 x h10,?_⟩
        rw [if_pos hdk.2,hdk.1,e5]
        rw [e6] at h9
        have h8:St K Ob w0 w2 a2 n _ ((SF [] [] BX Bs [] []::List.map (fun j=>(List.map Gz us).getD j Uq (v j)) dj)++([SF L L3 [] [] [] []]++Fx)) Bs:=h8
        exact h8.drawEnd (by simp [Z1]) h9
      rcases hinv with ⟨hp,hh⟩ | ⟨hp,hE,B1,hR,hh⟩
      · have hop:=Qmd hops0 i _ o hdep hl
        rw [Vy] at hop
        exact plain B hh hop fun w2 x h10=>.inl ⟨hpc.trans hp,h10⟩
      · have hni:(deps.getD c []).contains i=false:=by
          cases e:(deps.getD c []).contains i
          · rfl
          · have:=hE i (qYi.1 e); rw [hpi] at this; cases this
        have hop:=(hops1 B1 hR).get i _ o hdep hl
        rw [Vy] at hop
        unfold EOp at hop
        rw [hni] at hop
        exact plain B1 hh hop fun w2 x h10=>.inr ⟨hpc.trans hp,fun j hj=>by simp [hE j hj],B1,hR,h10⟩
    · obtain rfl:i=c:=by omega
      obtain rfl:o=o0:=by rw [ho] at ho0; injection ho0
      have hBX:BsRep w' (Qy Ob Bs) B Bs:=by
        rcases hinv with ⟨_,hh⟩ | ⟨hh,_⟩
        · exact hh
        · rw [hpi] at hh; cases hh
      have hw:=hst0 dj hdj K Ob w0 w' a' Bs _ _ hs (Ug h6 hfacts) hBX
      refine K0 hs.defers (fun _ _ ⟨_,_,_,hh,_⟩=>hh.defers) hw fun a2 w2 hh=>?_
      obtain ⟨Bs',B1,hR,h8,h10⟩:=hh
      refine wpList_nil ⟨rfl,undef,Bs',.inr ⟨by simp,fun j hj=>by
        have hdc:deps.getD i []=dj:=by rw [Ve,hdj]; rfl
        rw [hdc] at hj
        simp [hpd j hj],B1,hR,h10⟩,?_⟩
      have hE:dE (D.map some++[none]) i=false:=by rw [←hD]; exact Bn D
      rw [if_neg (by rw [hE]; decide)]
      have e5:(us.map Gz).getD i Uq=Uq:=by
        rw [Ve,Eu (by simp [hU])]; rfl
      rw [e5]
      exact h8.drawEnd0 (f:=Uq undef) trivial
  have hdrawops:∀ (js:List (List Nat)) (os:List Oper) (k:Nat),(∀ i dj o,js[i]? = some dj→os[i]? = some o→Gp P l.toArray K Ob w0 n L3 [SF L L3 [] [] [] []] Inv (D.map some++[none]) (us.map Gz) (k+i) dj o) →
      Pk P l.toArray K Ob w0 n L3 [SF L L3 [] [] [] []] Inv (D.map some++[none]) (us.map Gz) k js os:=by
    intro js
    induction js with
    | nil=>intro os k _; cases os <;> trivial
    |
     cons dj js ih =>
     intro os k hall
     rcases os with _ | ⟨o,os⟩
     · trivial
     · refine ⟨by have:=hall 0 dj o rfl rfl; rwa [Mr] at this,ih os (k+1) fun i dj' o' hd ho=>?_⟩
       have:=hall (i+1) dj' o' (by simpa using hd) (by simpa using ho)
       rwa [show k+(i+1)=k+1+i from by omega] at this
  refine Qeh hm (c+1) (D.map some++[none]) deps (us.map Gz) Inv hchk hst2 (fun w' hw'=>.inl ⟨rfl,hB.keep (Ac hw' _)⟩) ?_ (hdrawops deps l 0 fun i dj o hd ho=>by
    rw [Vy]
    exact hone i dj o hd ho (by have:=(Wz.1 hd).1; rw [hc.deplen] at this; exact this)) fun p hp v a' w' Bs hinv hs=>?_
  · rw [Bv]
    intro j hj
    have hjm:j<c+1:=Ru.1 hj
    rcases Mp j c with hjc | hjc
    · rw [(Fm D j (by rw [hD]; exact hjc)).1]
      have hmem:D.getD j 0∈D:=by rw [Ve,Xv (by rw [hD]; exact hjc)]; exact qJd _
      have:=hnone _ hmem
      rw [qXq] at this
      rw [h1 _ this]; simp
    · obtain rfl:j=c:=by omega
      have hE:dE (D.map some++[none]) j=false:=by rw [←hD]; exact Bn D
      rw [hE]; rfl
  · have hdL:=Qpo D v
    rw [hD] at hdL
    rw [hdL] at hs
    have hfacts:∀ j∈List.range c,ARep w' (Qy Ob Bs) (v j) (us.getD j .un):=fun j hj=>by
      have hjm:=Ru.1 hj
      have:=hs.facts ((us.map Gz).getD j Uq (v j)) (Yz.2 (.inl (Wa.2 ⟨j,Ru.2 (by omega),rfl⟩)))
      rw [Ve,Sd,Xv (by rw [hU]; exact hjm)] at this
      rw [Ve,Xv (by rw [hU]; exact hjm)]
      exact this
    obtain ⟨h6,_,_⟩:(SF L L3 [] [] [] []).holds w' (Qy Ob Bs):=hs.facts _ (Yz.2 (.inr (by simp)))
    rcases hinv with ⟨hh,_⟩ | ⟨_,_,B1,hR,hB1⟩
    · rw [hp c (by omega)] at hh; cases hh
    · obtain ⟨L2,hz,k⟩:=k B1 hR
      obtain ⟨_,rfl⟩:=P3 hz
      have hzip:D.zip us=(List.range c).map fun j=>(D.getD j 0,us.getD j .un):=by
        apply qYt
        · simp [hD,hU]
        · intro i h1 h2
          simp at h1 h2
          have e1:D[i]? = some D[i]:=Xv (by omega)
          have e2:us[i]? = some (us[i]'(by omega)):=Xv (by omega)
          rw [List.getElem_zip,List.getElem_map,List.getElem_range,Ve,Ve,e1,e2]; rfl
      rw [hzip] at k
      exact k K Ob w0 w' a' _ ⟨_,Bs,hs.noFacts,Ug h6 hfacts,hB1⟩ fun a2 w2 h=>h
theorem EOps.of {E:List Nat} {D:List Nat} {us:List AV}:∀ {os:List Oper} {ds:List Sg} {k:Nat},APs P ops n L B D us k ds os→EOps P ops n L B E D us k ds os
  | [],ds,_,_=>by cases ds <;> trivial
  | _::_,[],_,_=>trivial
  | o::os,dp::ds,k,h=>⟨by unfold EOp; split; trivial; exact h.1,EOps.of h.2⟩
theorem Iy {id:Nat} {l:List Oper} {Q:Exit→Sg→List OB→Prop} (hm:P.follows .mixedOrders=true) (c:Nat) (D:List Nat) (deps:List (List Nat)) (us:List AV) (R:List OB→Prop) {o0:Oper} (hchk:Kc l (c+1) (D.map some++[none]) deps=true)
    (hDm:(Nat.beq D.length c && Nat.beq us.length c && deps.all fun js=>js.all fun j=>Nat.blt j c)=true) (hnone:(D.all fun t=>(lk L t).isNone)=true) (ho0:l[c]? = some o0)
    (hops0:APs P l.toArray n L B D us 0 (depsOf D us deps) (l.take c)) (hst0:∀ js,deps[c]? = some js→AMS P l.toArray n o0 (js.map (fun j=>(D.getD j 0,us.getD j .un))++L) B R)
    (hops1:∀ B1,R B1→APs P l.toArray n L B1 D us 0 (depsOf D us deps) (l.take c))
    (k:∀ B1,R B1→∃ L2,C2 D us L=some L2∧AW P l.toArray n (l.drop (c+1)) (fun L B=>Q .normal L B) L2 B1):AC P n (.region id l.toArray true) Q L B :=
  Qcj hm c D deps us R hchk hDm hnone ho0 hops0 hst0 (fun B1 hR=>EOps.of (hops1 B1 hR)) k
end Orr

namespace Orr
open Go
def okY:LV→Bool
  | .ow _ _=>true
  | x=>x.free
def Quw (xs:List LV):Bool:=xs.all okY
section
variable {w:World} {O:Nat→Prop}
theorem Qu1 {v:Value} {x:LV} (h:XRep w O v x) (hx:okY x=true):YRep w O v x:=by
  cases x <;> first | exact h | cases hx
theorem Qsy {v:Value} {x:LV} (h:YRep w O v x):XRep w O v x:=by
  cases x <;> first | exact h | exact LRep.x h
theorem Om:∀ {vs:List Value} {xs:List LV},XReps w O vs xs→Quw xs=true→YReps w O vs xs
  | [],[],_,_=>trivial
  |
   v::vs,x::xs,h,ho=>by
   simp only [Quw,List.all_cons,qXk] at ho
   exact ⟨Qu1 h.1 ho.1,Om h.2 ho.2⟩
  | [],_::_,h,_=>h.elim
  | _::_,[],h,_=>h.elim
theorem Ow:∀ {vs:List Value} {xs:List LV},YReps w O vs xs→XReps w O vs xs
  | [],[],_=>trivial
  | v::vs,x::xs,h=>⟨Qsy h.1,Ow h.2⟩
  | [],_::_,h=>h.elim
  | _::_,[],h=>h.elim
end
variable {P:Program} {ops:Array Oper} {n d:Nat} {rest:List Oper} {N:Sg→List OB→Prop} {L:Sg} {B:List OB} {ty:TypeId} {pos:String} {after:Array Edge}
theorem L4 {f:Nat} {pre post:List Operand} {us ys:List AV} {xs zs:List LV} (hx:Mo L pre=some us) (hy:Mo L post=some ys) (hxs:Qax us=some xs) (hzs:Qax ys=some zs) (hf1:Quw xs=true) (hf2:Quw zs=true) (hd:Nat.blt d n=true) :
    AP P ops n { dst:=some d,op:=.makeFunc (.func f) pre.toArray post.toArray,type:=ty,pos:=pos,after:=after,guard:=none } d (.one (.ofn f xs zs)) L B:=by
  refine Rv hd fun K Ob w0 w a Bs L' Fs h hL hB=>?_
  obtain ⟨vs,h1,h2,h3⟩:=Sa hL hx
  obtain ⟨qs,h4,h5,h6⟩:=Sa hL hy
  have e1:=h.evl h1
  have e2:=h.evl h4
  have r1:=Ch hxs h2 h3
  have r2:=Ch hzs h5 h6
  refine ⟨.func (.func f) vs.toArray qs.toArray,?_,⟨vs,qs,rfl,Om r1 hf1,Om r2 hf2⟩⟩
  simp only [execOp,Instr.makeFunc,e1,e2,Sem.run_bind,Sem.run_pure,Result.andThen_ok]
theorem Qom {f:FuncId} {fn:Func} {x:Operand} {xs:List Operand} {us args:List AV} {ats:Array TypeId} {pre post:List LV} {Bin Br:List OB} {Post:AV→List OB→Prop} (hg:Yf L x=some (.one (.ofn f pre post)))
    (hf:P.funcs[f]? = some fn) (hn:(fn.name == "runtime.NumGoroutine")=false) (hb:fn.body.isNone=false)
    (hx:Mo L xs=some us) (hun:Sh us=some args) (hc:Wt P f (pre.map .one++args++post.map .one) Bin Post) (hd:Nat.blt d n=true) (k:∀ r Bo,Post r Bo→AW P ops n rest N ((d,r)::L) (Bo++Br)) :
    AW P ops n ({ dst:=some d,op:=.call { callee:=.value x,args:=xs.toArray,argTypes:=ats },type:=ty,pos:=pos,after:=after,guard:=none }::rest) N L (Bin++Br):=by
  rintro K Ob w0 w a Q ⟨L',Bs,h,hL,hB⟩ hQ
  obtain ⟨vs,h1,h2,h3⟩:=Sa hL hx
  have hargs0:=R2 hun h2 h3
  obtain ⟨v0,hv0,hr0⟩:=Zq hL hg
  obtain ⟨ps,qs,rfl,hp,hq⟩:∃ ps qs:List Value,v0=.func (.func f) ps.toArray qs.toArray∧YReps w (Qy Ob Bs) ps pre∧YReps w (Qy Ob Bs) qs post:=hr0
  have hargs:=((Hw (Ow hp)).append hargs0).append (Hw (Ow hq))
  have hsplit:∀ {Bin Br:List OB} {Bs:List Y8},BsRep w (Qy Ob Bs) (Bin++Br) Bs→∀ {O},O=Qy Ob Bs→∃ Bi Bq,Bs=Bi++Bq∧BsRep w O Bin Bi∧BsRep w O Br Bq:=by
    have key:∀ {O:Nat→Prop} {Bin Br:List OB} {Bs:List Y8},BsRep w O (Bin++Br) Bs→∃ Bi Bq,Bs=Bi++Bq∧BsRep w O Bin Bi∧BsRep w O Br Bq:=by
      intro O Bin
      induction Bin with
      | nil=>intro Br Bs h; exact ⟨[],Bs,rfl,rfl,h⟩
      |
       cons b Bin ih =>
       intro Br Bs h
       obtain ⟨Bo,Bs',rfl,h1,h2⟩:=h
       obtain ⟨Bi,Bq,rfl,h3,h4⟩:=ih h2
       exact ⟨Bo++Bi,Bq,by simp,⟨Bo,Bi,rfl,h1,h3⟩,h4⟩
    intro Bin Br Bs h O e; subst e; exact key h
  obtain ⟨Bi,Bq,rfl,h4,h5⟩:=hsplit hB rfl
  rw [←Pw] at hargs h4
  have hcall:=hc (Qy Ob Bq) w (ps++vs++qs) Bi (fun b hb=>h.owns_lt (by simp only [Qy,G2,Yz]; exact hb.imp id .inr)) h.held hargs h4
  refine wpList_plain rfl fun K' hK=>?_
  unfold Oper.wp
  have e:(execOp a.eval { dst:=some d,op:=.call { callee:=.value x,args:=xs.toArray,argTypes:=ats },type:=ty,pos:=pos,after:=after,guard:=none }).run P w=.ok (.enter f (ps++vs++qs).toArray) w:=by
    have hxs:=h.evl h1
    have he:=h.ev hv0
    simp only [execOp,resolve,he,Deferred.ofValue,hxs,Sem.run_bind,Sem.run_pure,Result.andThen_ok,invoke]
    rw [show ps.toArray++vs.toArray++qs.toArray=(ps++vs++qs).toArray from by simp]
    exact W1 w hf hn hb
  rw [e]
  simp only [Oper.upon]
  refine hcall.mono fun e' w' hr=>?_
  obtain ⟨v,r,Bout,Bo,rfl,h6,h7,h8,h9,h10⟩:=hr
  have hadd:=h.add (f:=SF L L' Br Bq [] []) ⟨hL,h5,trivial⟩
  have h11:=hadd.moved h9 h10
  obtain ⟨h12,h13,_⟩:=h11.fact 0 rfl
  rw [Pw] at h7 h8
  refine hK _ _ (k r Bout h6 _ _ _ _ _ _ ⟨(d,v)::L',Bo++Bq,h11.noFacts.put v hd,Ga h12 h7,?_⟩ hQ)
  have key:∀ {O:Nat→Prop} {B1 B2:List OB} {b1 b2:List Y8},BsRep w' O B1 b1→BsRep w' O B2 b2→BsRep w' O (B1++B2) (b1++b2):=by
    intro O B1
    induction B1 with
    | nil=>intro B2 b1 b2 h1 h2; rw [show b1=[] from h1]; exact h2
    |
     cons b B1 ih =>
     intro B2 b1 b2 h1 h2
     obtain ⟨Bo,Bs',rfl,h3,h4⟩:=h1
     exact ⟨Bo,Bs'++b2,by simp,h3,ih h4 h2⟩
  exact key h8 h13
end Orr
namespace Orr
open Go
variable {P:Program} {ops:Array Oper} {n d:Nat} {rest:List Oper} {N:Sg→List OB→Prop} {L:Sg} {B:List OB} {c:Code} {Q:Exit→Sg→List OB→Prop}
theorem SA.swap {K Ob:Nat→Prop} {w0 w:World} {a:Act} {A C:List OB} (h:SA K Ob w0 w a n L (A++C)):SA K Ob w0 w a n L (C++A):=by
  obtain ⟨L',Bs,h1,h2,h3⟩:=h
  obtain ⟨Bi,Bq,rfl,h4,h5⟩:=Qia h3
  have hp:(Bi++Bq).Perm (Bq++Bi):=List.perm_append_comm
  have ho:Qy Ob (Bi++Bq)=Qy Ob (Bq++Bi):=by
    funext b
    simp only [Qy]
    rw [show (b∈(Bi++Bq).map (·.1))=(b∈(Bq++Bi).map (·.1)) from propext ((hp.map _).mem_iff)]
  rw [ho] at h2 h4 h5
  exact ⟨L',Bq++Bi,h1.perm hp.symm,h2,Qlr h5 h4⟩
theorem Qlm {A C:List OB} (k:AW P ops n rest N L (C++A)):AW P ops n rest N L (A++C):=fun _ _ _ _ _ _ hs hQ=>k _ _ _ _ _ _ hs.swap hQ
theorem Qn9 {w:World} {O:Nat→Prop} {x0 x1:LV} (hx:∀ v,XRep w O v x0→XRep w O v x1) {vs:List Value} {xs:List LV} {j:Nat} (h:XReps w O vs xs) (hj:xs[j]? = some x0):XReps w O vs (xs.set j x1):=by
  refine XReps.of (by rw [H8]; exact h.len) fun i v x hv hx'=>?_
  rw [qYm] at hx'
  split at hx'
  · rename_i e
    subst e
    split at hx'
    · injection hx' with e; subst e; exact hx v (h.get' hv hj)
    · cases hx'
  · exact h.get' hv hx'
theorem SA.leafNil {K Ob:Nat→Prop} {w0 w:World} {a:Act} (i j:Nat) {g:Nat} {T:TypeId} {xs ys:List LV} {B':List OB} (h:SA K Ob w0 w a n L B) (hi:Jg B i=some (.blk g T xs,B')) (hj:xs[j]? = some .nils) (hys:xs.set j (.row [])=ys):SA K Ob w0 w a n L (.blk g T ys::B'):=by
  subst hys
  obtain ⟨L',Bo,Bs,h1,h2,⟨cs,rfl,h3⟩,h4⟩:=h.front hi
  exact SA.of h1 h2 ⟨cs,rfl,Qn9 (x0:=.nils) (w:=w) (O:=Qy Ob ([(g,Tag.ty T,cs)]++Bs)) (fun v hv=>(S8 (w:=w) (O:=Qy Ob ([(g,Tag.ty T,cs)]++Bs)) hv).x) h3 hj⟩ h4
theorem Qjd (i j:Nat) {g:Nat} {T:TypeId} {xs ys:List LV} {B':List OB} (hi:Jg B i=some (.blk g T xs,B')) (hj:xs[j]? = some .nils) (hys:xs.set j (.row [])=ys) (k:AW P ops n rest N L (.blk g T ys::B')):AW P ops n rest N L B:=fun _ _ _ _ _ _ hs hQ=>k _ _ _ _ _ _ (hs.leafNil i j hi hj hys) hQ
end Orr
namespace Orr
open Go
variable {P:Program} {ops:Array Oper} {n d:Nat} {rest:List Oper} {N:Sg→List OB→Prop} {L:Sg} {B:List OB} {c:Code} {Q:Exit→Sg→List OB→Prop}
theorem SA.slotNil {K Ob:Nat→Prop} {w0 w:World} {a:Act} (h:SA K Ob w0 w a n L B) {t:Nat} (ht:lk L t=some (.one .nils)):SA K Ob w0 w a n ((t,.one (.row []))::L) B:=by
  obtain ⟨L',Bs,h1,h2,h3⟩:=h
  refine ⟨L',Bs,h1,fun s x hx=>?_,h3⟩
  simp only [lk] at hx
  cases e:Nat.beq s t <;> rw [e] at hx
  · exact h2 s x hx
  · injection hx with hx
    subst hx
    rw [Fg e]
    obtain ⟨v,hv,hr⟩:=h2 t _ ht
    exact ⟨v,hv,(S8 (w:=w) (O:=Qy Ob Bs) hr).x⟩
theorem Nb (t:Nat) (ht:lk L t=some (.one .nils)) (k:AW P ops n rest N ((t,.one (.row []))::L) B):AW P ops n rest N L B:=fun _ _ _ _ _ _ hs hQ=>k _ _ _ _ _ _ (hs.slotNil ht) hQ
end Orr

namespace Orr
open Go Go.Proofs
theorem Ri (l:List Nat) (x:Nat):(l.map fun (x:Nat)=>[LV.int .i64 (x:Int)])++[[.int .i64 (x:Int)]]=(l++[x]).map fun (x:Nat)=>[LV.int .i64 (x:Int)]:=by simp
abbrev Mn (l:List Nat):List (List LV):=l.map fun (x:Nat)=>[.int .i64 (x:Int)]
theorem Hj {l:List Nat} (hd:Dg l) (hl:l.length≤1099511627776):Q8 Tryz.prog 310 [.one (dl l)] (.one (dl ((dig ((dv l)))))):=by
 refine X2 tt 2 [] qGb Tryz.ntmps310 rfl rfl rfl ?_
 refine Qf tt 1 [] (Qj (m:=l.length) Jl rfl (Ze _) rfl) rfl ?_
 refine Qk [0,3] rfl rfl ?_
 refine Zj (fun m L B=>∃ n,n≤l.length∧(∀ j x,n≤j→l[j]? = some x→x=0)∧m=n∧L=[(0,.one (dl l)),(3,.one (.int .i64 (((n:Nat):Int))))]∧B=[]) (m:=_) ⟨l.length,Ji _,fun j x hj hx=>absurd (Wz.1 hx).1 (by omega),rfl,rfl,rfl⟩ ?_
 rintro m L B ⟨n,hp0,hp1,hm,rfl,rfl⟩
 refine Qw tt rfl ?_
 by_cases hn0:0<n
 ·obtain ⟨y,hy⟩:∃ y,l[n-1]? = some y:=⟨_,Xv (by omega)⟩
  by_cases hy0:y=0
  refine Qw tt rfl ?_
  ·skip
   refine Qr tt 3 rfl ?_
   refine Qf tt 0 [] ((Qd rfl rfl (decide_eq_true (by omega)) (Qv tt rfl rfl))) rfl ?_
   refine Qf tt 0 [] ((Qd rfl rfl (decide_eq_true (by omega)) (Qv tt rfl rfl))) rfl ?_
   refine Qf tt 0 [] ((Qd rfl rfl (decide_eq_true (by omega)) (Xs (r:=((n-1:Nat):Int)) rfl rfl (Qm (by omega) (by omega)) rfl))) rfl ?_
   refine Qf tt 0 [] ((Qd rfl rfl (decide_eq_true (by omega)) (Qi (n-1) Jl Js rfl rfl (rfl) (Qg hy) rfl rfl))) rfl ?_
   refine Qf tt 0 [] ((Qd rfl rfl (decide_eq_true (by omega)) (Qv tt rfl rfl))) rfl ?_
   refine Qf tt 0 [] ((Qd rfl rfl (decide_eq_true (by omega)) (Qv tt rfl rfl))) rfl ?_
   refine Qf tt 0 [] (Zp rfl (decide_eq_true (by omega)) rfl rfl) rfl ?_
   refine Xf tt 1 [] (decide_eq_true (by omega)) rfl rfl ?_
   refine Qf tt 1 [] (Xs (r:=((n-1:Nat):Int)) rfl rfl (Qm (by omega) (by omega)) rfl) rfl ?_
   refine Qk [0,3] rfl rfl ?_
   refine Q7 ?_
   refine ⟨_,?_,n-1,by omega,fun j x hj hx=>by
     rcases Mp j n with h1 | h1
     ·have:j=n-1:=by omega
      subst this; rw [hy] at hx; injection hx with hx; rw [←hx]; exact hy0
     ·exact hp1 j x h1 hx,rfl,rfl,rfl⟩
   omega
  skip
  refine Qr tt 3 rfl ?_
  refine Qf tt 0 [] ((Qd rfl rfl (decide_eq_true (by omega)) (Qv tt rfl rfl))) rfl ?_
  refine Qf tt 0 [] ((Qd rfl rfl (decide_eq_true (by omega)) (Qv tt rfl rfl))) rfl ?_
  refine Qf tt 0 [] ((Qd rfl rfl (decide_eq_true (by omega)) (Xs (r:=((n-1:Nat):Int)) rfl rfl (Qm (by omega) (by omega)) rfl))) rfl ?_
  refine Qf tt 0 [] ((Qd rfl rfl (decide_eq_true (by omega)) (Qi (n-1) Jl Js rfl rfl (rfl) (Qg hy) rfl rfl))) rfl ?_
  refine Qf tt 0 [] ((Qd rfl rfl (decide_eq_true (by omega)) (Qv tt rfl rfl))) rfl ?_
  refine Qf tt 0 [] ((Qd rfl rfl (decide_eq_true (by omega)) (Qv tt rfl rfl))) rfl ?_
  refine Qf tt 0 [] (Zp rfl (decide_eq_true (by omega)) rfl rfl) rfl ?_
  refine Xb tt 2 [] (decide_eq_false (by omega)) rfl rfl ?_
  have hcut:=Qij (l:=l) (m:=n) hd hp0 hp1 (fun _=>⟨y,hy,hy0⟩)
  refine Qf tt 1 [] (Fd n Jl Js rfl rfl rfl (by rw [Zw]; omega) (Vu l (sz:=1) (fun _=>rfl)) (l':=Mn (dig (dv l))) (by rw [←hcut]; simp [qXu]) rfl) rfl ?_
  exact Xq tt [] rfl (rfl)
 skip
 refine Qr tt 3 rfl ?_
 refine Qf tt 0 [] (Qh rfl rfl (decide_eq_false (by omega)) rfl) rfl ?_
 refine Qf tt 0 [] (Qh rfl rfl (decide_eq_false (by omega)) rfl) rfl ?_
 refine Qf tt 0 [] (Qh rfl rfl (decide_eq_false (by omega)) rfl) rfl ?_
 refine Qf tt 0 [] (Qh rfl rfl (decide_eq_false (by omega)) rfl) rfl ?_
 refine Qf tt 0 [] (Qh rfl rfl (decide_eq_false (by omega)) rfl) rfl ?_
 refine Qf tt 0 [] (Qh rfl rfl (decide_eq_false (by omega)) rfl) rfl ?_
 refine Qf tt 0 [] (Zu rfl (decide_eq_false (by omega)) rfl rfl) rfl ?_
 refine Xb tt 2 [] (rfl) rfl rfl ?_
 have hcut:=Qij (l:=l) (m:=n) hd hp0 hp1 (fun h=>absurd h hn0)
 refine Qf tt 1 [] (Fd n Jl Js rfl rfl rfl (by rw [Zw]; omega) (Vu l (sz:=1) (fun _=>rfl)) (l':=Mn (dig (dv l))) (by rw [←hcut]; simp [qXu]) rfl) rfl ?_
 exact Xq tt [] rfl (rfl)
theorem Ft {x mu c0:Nat} (hx:sz x≤100000000) (hmu:mu≤65536) (hc:c0≤1000000000):Q8 Tryz.prog 260 [.one (dl ((dig x))),.one (.int .i64 (((mu:Nat):Int))),.one (.int .i64 (((c0:Nat):Int)))] (.one (dl ((dig ((x*mu+c0)))))):=by
 refine X2 tt 0 [] qGm Tryz.ntmps260 rfl rfl rfl ?_
 have hxl:=X1 x
 skip
 refine Qr tt 2 rfl ?_
 refine Qf tt 0 [] (Qj (m:=((dig x)).length) Jl rfl (Ze _) rfl) rfl ?_
 refine kw (Q6 (r:=(((dig x).length+2:Nat):Int)) rfl rfl (Qm (by omega) (by omega)) rfl) ?_
 refine Zn (Quq ((dig x).length+2) Jl qWy rfl Js qWs rfl rfl rfl rfl rfl rfl rfl (rfl) (by omega) rfl fun r1=>ko ?_)
 refine Qr tt 2 rfl ?_
 refine Qk [0,1,2,7,8] rfl rfl ?_
 refine Zj (fun m L B=>∃ i c r o,Dg o∧o.length=i∧dv o+c*10000^i=dv ((dig x).take i)*mu+c0∧(i≤(dig x).length∨i+(dig c).length≤(dig x).length+3)∧c≤1000000000∧m=((dig x).length-i)*4+(dig c).length∧L=[(0,.one (dl ((dig x)))),(1,.one (.int .i64 (((mu:Nat):Int)))),(2,.one (.int .i64 (((c:Nat):Int)))),(7,.one (.orow r 1 0 i)),(8,.one (.int .i64 (((i:Nat):Int))))]∧B=[.row r 3 1 (Mn o)]) (m:=_) ⟨0,c0,_,[],Dg.nil,rfl,by simp [dv],.inl (K7 _),hc,rfl,rfl,rfl⟩ ?_
 rintro m L B ⟨i,c,r,o,hp0,hp1,hp2,hp3,hp4,hm,rfl,rfl⟩
 refine Qw tt rfl ?_
 have hxl:=X1 x
 have hcl:=Qc4 (x:=c) (by omega)
 by_cases h1:i<(dig x).length
 ·obtain ⟨d,hd⟩:∃ d,(dig x)[i]? = some d:=⟨_,Xv h1⟩
  have hd9:=U3 x d (Y6 hd)
  have hdm:d*mu≤9999*65536:=qXr (by omega) hmu
  have hc3:=Qc4 (x:=(c+d*mu) / 10000) (by omega)
  refine Qr tt 2 rfl ?_
  refine Qf tt 2 [] (Qj (m:=((dig x)).length) Jl rfl (Ze _) rfl) rfl ?_
  refine Qf tt 0 [] (Qh rfl rfl (decide_eq_true (by omega)) rfl) rfl ?_
  refine Qf tt 0 [] (Qh rfl rfl (decide_eq_true (by omega)) rfl) rfl ?_
  refine Qf tt 0 [] (Zp rfl (decide_eq_true (by omega)) rfl rfl) rfl ?_
  refine Xf tt 2 [] (rfl) rfl rfl ?_
  refine Qf tt 1 [] (Qj (m:=((dig x)).length) Jl rfl (Ze _) rfl) rfl ?_
  refine Xf tt 3 [] (decide_eq_true (by omega)) rfl rfl ?_
  refine Qf tt 2 [] (Qi (i) Jl Js rfl rfl (rfl) (Qg hd) rfl rfl) rfl ?_
  refine Qf tt 0 [] (Qbo (r:=((d*mu:Nat):Int)) rfl rfl (Qm (qYj d mu).symm (by omega)) rfl) rfl ?_
  refine Qf tt 3 [] (Q6 (r:=((c+(d*mu):Nat):Int)) rfl rfl (Qm (by omega) (by omega)) rfl) rfl ?_
  refine Qf tt 1 [] (G9 (r:=(((c+(d*mu)) % 10000:Nat):Int)) rfl rfl (by decide) (rfl) rfl) rfl ?_
  refine Zn (Zo (ls2:=(Mn (o++[(c+(d*mu)) % 10000]))) (m2:=i+1) 0 Jl Jl qWy rfl rfl Js qWs rfl rfl rfl rfl rfl rfl rfl (by rw [Zw]; omega) (Yh rfl) (Ya rfl) (by show _+1<_; omega) (by rw [Vh (by rw [Zw]; omega)]; exact Ri _ _) (rfl) fun r2=>ko ?_)
  refine Qr tt 2 rfl ?_
  refine Qf tt 2 [] (Hb (r:=(((c+(d*mu)) / 10000:Nat):Int)) rfl rfl (by decide) (by rw [show Int.tdiv (((c+(d*mu)):Nat):Int) 10000=(((c+(d*mu)) / 10000:Nat):Int) from rfl]; exact Xz (by omega) (by omega)) rfl) rfl ?_
  refine Qf tt 1 [] (Q6 (r:=((i+1:Nat):Int)) rfl rfl (Qm (by omega) (by omega)) rfl) rfl ?_
  refine Qk [0,1,2,7,8] rfl rfl ?_
  refine Q7 ?_
  refine ⟨_,?_,i+1,(c+(d*mu)) / 10000,r2,o++[(c+(d*mu)) % 10000],hp0.snoc (Se _ (by decide)),by rw [H7]; show o.length+1=_; omega,by rw [W9,Kw hd,hp1,Ni]; simp only [dv,qJb,Mr]; have:=Qcv (d:=d) (m:=mu) rfl hp2; rw [this]; grind,.inl (by omega),by omega,rfl,rfl,rfl⟩
  omega
 by_cases h2:0<c
 refine Qw tt rfl ?_
 ·have hdc:=He (x:=c) (by omega)
  refine Qr tt 2 rfl ?_
  refine Qf tt 2 [] (Qj (m:=((dig x)).length) Jl rfl (Ze _) rfl) rfl ?_
  refine Qf tt 0 [] ((Qd rfl rfl (decide_eq_false (by omega)) (Qv tt rfl rfl))) rfl ?_
  refine Qf tt 0 [] ((Qd rfl rfl (decide_eq_false (by omega)) (Qv tt rfl rfl))) rfl ?_
  refine Qf tt 0 [] (Zu rfl (decide_eq_false (by omega)) rfl rfl) rfl ?_
  refine Xf tt 2 [] (decide_eq_true (by omega)) rfl rfl ?_
  refine Qf tt 1 [] (Qj (m:=((dig x)).length) Jl rfl (Ze _) rfl) rfl ?_
  refine Xb tt 2 [] (decide_eq_false (by omega)) rfl rfl ?_
  refine Qf tt 1 [] (G9 (r:=((c % 10000:Nat):Int)) rfl rfl (by decide) (rfl) rfl) rfl ?_
  refine Zn (Zo (ls2:=(Mn (o++[c % 10000]))) (m2:=i+1) 0 Jl Jl qWy rfl rfl Js qWs rfl rfl rfl rfl rfl rfl rfl (by rw [Zw]; omega) (Yh rfl) (Ya rfl) (by show _+1<_; omega) (by rw [Vh (by rw [Zw]; omega)]; exact Ri _ _) (rfl) fun r3=>ko ?_)
  refine Qr tt 2 rfl ?_
  refine Qf tt 2 [] (Hb (r:=((c / 10000:Nat):Int)) rfl rfl (by decide) (by rw [show Int.tdiv ((c:Nat):Int) 10000=((c / 10000:Nat):Int) from rfl]; exact Xz (by omega) (by omega)) rfl) rfl ?_
  refine Qf tt 1 [] (Q6 (r:=((i+1:Nat):Int)) rfl rfl (Qm (by omega) (by omega)) rfl) rfl ?_
  refine Qk [0,1,2,7,8] rfl rfl ?_
  refine Q7 ?_
  refine ⟨_,?_,i+1,c / 10000,r3,o++[c % 10000],hp0.snoc (Se _ (by decide)),by rw [H7]; show o.length+1=_; omega,by rw [W9,hp1,Ni]; simp only [dv,qJb,Mr]; have:=Qcv (d:=0) (m:=mu) rfl hp2; simp only [qYs,qJb,Mr] at this; rw [this,Vh (by omega),Vh (by omega)],.inr (by omega),by omega,rfl,rfl,rfl⟩
  omega
 skip
 refine Qr tt 2 rfl ?_
 refine Qf tt 2 [] (Qj (m:=((dig x)).length) Jl rfl (Ze _) rfl) rfl ?_
 refine Qf tt 0 [] ((Qd rfl rfl (decide_eq_false (by omega)) (Qv tt rfl rfl))) rfl ?_
 refine Qf tt 0 [] ((Qd rfl rfl (decide_eq_false (by omega)) (Qv tt rfl rfl))) rfl ?_
 refine Qf tt 0 [] (Zu rfl (decide_eq_false (by omega)) rfl rfl) rfl ?_
 refine Xb tt 1 [] (decide_eq_false (by omega)) rfl rfl ?_
 refine X5 (fun _ k_=>Xm 0 [42] rfl (Zg rfl) (by rw [Zw]; omega) (by rw [Zw]; omega) rfl (Qo k_)) rfl ?_
 refine Qw tt rfl ?_
 refine kl tt 1 [] qGb rfl rfl rfl (Hj (hp0) (by omega)) rfl rfl ?_
 exact Xq tt [] rfl (by rw [show dv o=x*mu+c0 from by have h:=hp2; rw [Vh (by omega),Vk,show c=0 by omega] at h; omega])
theorem Ly {x kd:Nat} (hx:sz x≤100000000) (hk:0<kd∧kd≤65536):Q8 Tryz.prog 289 [.one (dl ((dig x))),.one (.int .i64 (((kd:Nat):Int)))] (.tup [.one (dl ((dig ((x / kd))))),.one (.int .i64 (((x % kd:Nat):Int)))]):=by
 refine X2 tt 0 [] Tryz.func289 Tryz.ntmps289 rfl rfl rfl ?_
 have hxl:=X1 x
 skip
 refine Qr tt 3 rfl ?_
 refine kw (Qj (m:=((dig x)).length) Jl rfl (Ze _) rfl) ?_
 refine Zn (G3 ((dig x).length) Jl qWy rfl Js qWs rfl rfl rfl rfl rfl rfl (rfl) (rfl) (by omega) rfl fun r1=>ko ?_)
 refine X5 (fun _ k_=>Jx 0 rfl (show _=Mn (List.replicate (dig x).length 0) by simp) (Qo k_)) rfl ?_
 refine Qr tt 3 rfl ?_
 refine Qf tt 0 [] (Qj (m:=((dig x)).length) Jl rfl (Ze _) rfl) rfl ?_
 refine Qf tt 1 [] (Xs (r:=((((dig x).length:Nat):Int)-1)) rfl rfl (Qm rfl (by omega)) rfl) rfl ?_
 refine Qk [0,1,6,7,8] rfl rfl ?_
 refine Zj (fun m L B=>∃ j rr o,j≤(dig x).length∧o.length=(dig x).length∧Dg o∧dv (o.drop j)=dv ((dig x).drop j) / kd∧rr=dv ((dig x).drop j) % kd∧m=j∧L=[(0,.one (dl ((dig x)))),(1,.one (.int .i64 (((kd:Nat):Int)))),(6,.one (.orow r1 1 0 ((dig x).length))),(7,.one (.int .i64 (((rr:Nat):Int)))),(8,.one (.int .i64 ((((j:Nat):Int)-1))))]∧B=[.row r1 3 1 (Mn o)]) (m:=_) ⟨(dig x).length,0,List.replicate (dig x).length 0,Ji _,Li ..,Dg.zeros _,by rw [Aa (by simp),Aa (Ji _)]; simp [dv],by rw [Aa (Ji _)]; simp [dv],rfl,rfl,rfl⟩ ?_
 rintro m L B ⟨j,rr,o,hp0,hp1,hp2,hp3,hp4,hm,rfl,rfl⟩
 refine Qw tt rfl ?_
 have hxl:=X1 x
 by_cases h1:0<j
 ·obtain ⟨d,hd⟩:∃ d,(dig x)[j-1]? = some d:=⟨_,Xv (by omega)⟩
  obtain ⟨y,hoj⟩:∃ y,o[j-1]? = some y:=⟨_,Xv (by omega)⟩
  have hd9:=U3 x d (Y6 hd)
  have hdd:=Bw hd
  rw [show j-1+1=j by omega] at hdd
  obtain ⟨hq1,hq2,hq3⟩:=Qgm (V:=dv ((dig x).drop j)) (kd:=kd) (d:=d) hk.1
  rw [←hdd,←hp4] at hq1 hq2
  rw [←hp4] at hq3
  have hq3:=hq3 hd9
  have hrr:rr<kd:=by rw [hp4]; exact Se _ hk.1
  refine Qr tt 2 rfl ?_
  refine Xf tt 1 [] (decide_eq_true (by omega)) rfl rfl ?_
  refine Qf tt 2 [] (Qbo (r:=((rr*10000:Nat):Int)) rfl rfl (Qm (by omega) (by omega)) rfl) rfl ?_
  refine Qf tt 1 [] (Qi (j-1) Jl Js rfl rfl (by omega) (Qg hd) rfl rfl) rfl ?_
  refine Qf tt 5 [] (Q6 (r:=(((rr*10000)+d:Nat):Int)) rfl rfl (Qm (by omega) (by omega)) rfl) rfl ?_
  refine Qf tt 0 [] (Hb (r:=(((rr*10000+d) / kd:Nat):Int)) rfl rfl (by omega) (by rw [show Int.tdiv (((rr*10000+d):Nat):Int) ((kd:Nat):Int)=(((rr*10000+d) / kd:Nat):Int) from rfl]; exact Xz (Int.le_trans (by decide) (qYe _)) (by have h:=Int.ofNat_lt.2 hq3; omega)) rfl) rfl ?_
  refine kw (Zr (j-1) Jl Js rfl rfl (by omega) (by omega) rfl) ?_
  refine Zn (Ju (ls2:=Mn (o.set (j-1) ((rr*10000+d) / kd))) 0 Js rfl rfl rfl rfl rfl rfl (by rw [Vy]; exact Qg hoj) rfl (by rw [Vy]; exact W4 (fun (x:Nat)=>[LV.int .i64 (x:Int)]) _ _ _) (ko ?_))
  refine Qr tt 2 rfl ?_
  refine Qf tt 2 [] (G9 (r:=(((rr*10000+d) % kd:Nat):Int)) rfl rfl (by omega) (rfl) rfl) rfl ?_
  refine Qf tt 1 [] (Xs (r:=(((j-1:Nat):Int)-1)) rfl rfl (Qm (by omega) (by omega)) rfl) rfl ?_
  refine Qk [0,1,6,7,8] rfl rfl ?_
  refine Q7 ?_
  refine ⟨_,?_,j-1,_,o.set (j-1) ((rr*10000+d) / kd),by omega,by rw [H8]; exact hp1,hp2.set hq3,by rw [D0 (by omega),show j-1+1=j by omega]; simp only [dv]; rw [hp3,hq1],by rw [hq2],rfl,rfl,rfl⟩
  omega
 have hj:j=0:=by omega
 subst hj
 refine Qr tt 2 rfl ?_
 refine Xb tt 1 [] (decide_eq_false (by omega)) rfl rfl ?_
 refine X5 (fun _ k_=>Xm 0 [36] rfl (Zg rfl) (by rw [Zw]; omega) (by rw [Zw]; omega) rfl (Qo k_)) rfl ?_
 refine Qw tt rfl ?_
 refine kl tt 3 [] qGb rfl rfl rfl (Hj (hp2) (by omega)) rfl rfl ?_
 exact kr2 tt [] rfl (by rw [show dv o=x / kd from by have h:=hp3; rw [qXf,qXf,Vk] at h; exact h,show rr=x % kd from by have h:=hp4; rw [qXf,Vk] at h; exact h])
theorem Qck (x:Nat):(Kb x).length≤sz x:=by
 have:=Qx4 (x:Int)
 simp only [qKd,Xh] at this
 rcases H9 x with h | h
 ·subst h; rw [U0]; exact K7 _
 have:1≤sz x:=by
  rcases H9 (sz x) with h0 | h0
  ·have:=M3 x; rw [h0] at this; simp at this; omega
  ·exact h0
 omega
theorem Qkf {x:Nat} {o:List Nat} {y:Nat} (h:Kb y=o++Kb x) (h0:x≠0):Kb y=(o++[x / 65536 % 65536*65536+x % 65536])++Kb (x / 65536 / 65536):=by
 rw [h,Pv h0,N1]
 rw [show x / 65536 / 65536=x / 4294967296 by omega,show x / 65536 % 65536*65536+x % 65536=x % 4294967296 by omega]; rfl
theorem Qbq {z:Int} (h:0≤z∧z≤4294967295):IntKind.u32.wrap z=z:=by
 simp [IntKind.wrap,IntKind.bits,IntKind.signed]; omega
theorem Qeq {a z:Int} (h:a=z) (h1:0≤z∧z≤4294967295):IntKind.u32.wrap a=z:=by rw [h]; exact Qbq h1
theorem Qkk (x k:Nat):sz (x / k)≤sz x:=Yb (qYk _ _)
theorem Qre (l:List Nat) (x:Nat):(l.map fun (x:Nat)=>[LV.int .u32 (x:Int)])++[[.int .u32 (x:Int)]]=(l++[x]).map fun (x:Nat)=>[LV.int .u32 (x:Int)]:=by simp
theorem Qnr {x:Nat} (hx:sz x≤100000000):Q8 Tryz.prog 230 [.one (dl ((dig x)))] (.one (Xy (Kb x))):=by
 refine X2 tt 2 [] Tryz.func230 Tryz.ntmps230 rfl rfl rfl ?_
 refine X5 (fun _ k_=>X9 [3] 276 1 rfl (Zg rfl) rfl (Qo k_)) rfl ?_
 refine Qk [0,3] rfl rfl ?_
 refine Zj (fun m L B=>∃ y r o,Kb x=o++Kb y∧sz y≤sz x∧o.length≤(Kb x).length∧m=y∧L=[(0,.one (dl ((dig y)))),(3,.one (.orow r 1 0 o.length))]∧B=[.row r 276 1 ((o.map fun (x:Nat)=>[LV.int .u32 (x:Int)]))]) (m:=_) ⟨x,none,[],rfl,Ji _,K7 _,rfl,rfl,rfl⟩ ?_
 rintro m L B ⟨y,r,o,hp0,hp1,hp2,hm,rfl,rfl⟩
 refine Qw tt rfl ?_
 have hlx:=Qck x
 by_cases h1:y=0
 ·rw [h1,U0,qXh] at hp0
  refine Qr tt 1 rfl ?_
  refine Qf tt 1 [] (Qj (m:=((dig y)).length) Jl rfl (Ze _) rfl) rfl ?_
  refine Xb tt 2 [] (decide_eq_false (by rw [h1,J8]; decide)) rfl rfl ?_
  refine X5 (fun _ k_=>Xm (L2:=_) 0 [2] rfl (Zg rfl) (by rw [Zw]) (by rw [Zw,←hp0]; omega) rfl (Qo k_)) rfl ?_
  exact Xq tt [] rfl (by rw [hp0]; rfl)
 have hol:=Qkf hp0 h1
 refine Qr tt 1 rfl ?_
 refine Qf tt 1 [] (Qj (m:=((dig y)).length) Jl rfl (Ze _) rfl) rfl ?_
 refine Xf tt 1 [] (decide_eq_true (by have:=He h1; omega)) rfl rfl ?_
 refine kl tt 6 [] Tryz.func289 rfl rfl rfl (Ly (x:=y) (kd:=65536) (by omega) (by omega)) rfl rfl ?_
 refine kl tt 7 [] Tryz.func289 rfl rfl rfl (Ly (x:=((y / 65536))) (kd:=65536) (Xa (Qkk _ _) (by omega)) (by omega)) rfl rfl ?_
 refine Qf tt 0 [] (Hf (r:=((y / 65536 % 65536:Nat):Int)) qWm Uy rfl (Qeq rfl (by omega)) rfl) rfl ?_
 refine Qf tt 1 [] (Qbo (r:=((y / 65536 % 65536*65536:Nat):Int)) rfl rfl (Qeq (by omega) (by omega)) rfl) rfl ?_
 refine Qf tt 0 [] (Hf (r:=((y % 65536:Nat):Int)) qWm Uy rfl (Qeq rfl (by omega)) rfl) rfl ?_
 refine Qf tt 1 [] (Q6 (r:=((y / 65536 % 65536*65536+y % 65536:Nat):Int)) rfl rfl (Qeq (by omega) (by omega)) rfl) rfl ?_
 refine Zn (Zo (ls2:=((o++[y / 65536 % 65536*65536+y % 65536]).map fun (x:Nat)=>[LV.int .u32 (x:Int)])) (m2:=(o++[y / 65536 % 65536*65536+y % 65536]).length) 0 Jd Jd qUd rfl rfl Y7 qWo rfl rfl rfl rfl rfl rfl rfl (by rw [Zw]; exact Ji _) (Yh rfl) (Ya rfl) (by show _+1<_; omega) (by rw [Vh (by rw [Zw]; exact Ji _)]; exact Qre _ _) (by rw [H7]; rfl) fun r1=>ko ?_)
 refine Qr tt 3 rfl ?_
 refine Qk [0,3] rfl rfl ?_
 refine Q7 ?_
 refine ⟨_,?_,y / 65536 / 65536,r1,o++[y / 65536 % 65536*65536+y % 65536],hol,Xa (Qkk _ _) (Xa (Qkk _ _) hp1),by rw [hol]; exact (List.sublist_append_left _ _).length_le,rfl,rfl,rfl⟩
 omega
theorem Lc:∀ (l:List Nat) (j:Nat),val (l.drop j)≤val l
 | l,0=>by simp
 | [],j+1=>by simp
 | x::l,j+1=>by
  have:=Lc l j
  simp only [List.drop_succ_cons,val]; omega
theorem Qle:nd 0=.row []:=by unfold nd; rw [J8]; rfl
theorem Qgj {l:List Nat} (hu:∀ u∈l,u<4294967296) (hl:l.length≤1099511627776) (hx:sz (val l)≤100000000):Q8 Tryz.prog 263 [.one (Xy l)] (.one (dl ((dig ((val l)))))):=by
 refine X2 tt 3 [] Tryz.func263 Tryz.ntmps263 rfl rfl rfl ?_
 refine Qf tt 0 [] (Qj (m:=l.length) Jd rfl (by simp [We,Xy]) rfl) rfl ?_
 refine Qf tt 1 [] (Xs (r:=(((l.length:Nat):Int)-1)) rfl rfl (Qm rfl (by omega)) rfl) rfl ?_
 refine X5 (fun _ k_=>Nb 3 rfl (Qo k_)) rfl ?_
 refine X5 (fun _ k_=>Jf 3 (y:=.one (nd 0)) rfl (by rw [Qle]) (Qo k_)) rfl ?_
 refine Qk [0,3,4] rfl rfl ?_
 refine Zj (fun m L B=>∃ j V,j≤l.length∧V=val (l.drop j)∧m=j∧L=[(0,.one (Xy l)),(3,.one (dl ((dig V)))),(4,.one (.int .i64 ((((j:Nat):Int)-1))))]∧B=[]) (m:=_) ⟨l.length,0,Ji _,by rw [Aa (Ji _)]; rfl,rfl,rfl,rfl⟩ ?_
 rintro m L B ⟨j,V,hp0,hp1,hm,rfl,rfl⟩
 refine Qw tt rfl ?_
 by_cases h1:0<j
 ·obtain ⟨d,hd⟩:∃ d,l[j-1]? = some d:=⟨_,Xv (by omega)⟩
  have hd9:=hu d (Y6 hd)
  have hdd:=Pf l (j-1) d hd
  rw [show j-1+1=j by omega,←hp1] at hdd
  have hle:=Lc l (j-1)
  have hs2:sz (V*65536+d / 65536)≤100000000:=Xa (Yb (by omega)) hx
  have hs1:sz V≤100000000:=Xa (Yb (by omega)) hx
  refine Qr tt 2 rfl ?_
  refine Xf tt 3 [] (decide_eq_true (by omega)) rfl rfl ?_
  refine Qf tt 1 [] (Qi (j-1) Jd Y7 rfl rfl (by omega) (Qg hd) rfl rfl) rfl ?_
  refine Qf tt 0 [] (Hb (r:=((d / 65536:Nat):Int)) rfl rfl (by decide) (by rw [show Int.tdiv ((d:Nat):Int) 65536=((d / 65536:Nat):Int) from rfl]; exact Qbq (by omega)) rfl) rfl ?_
  refine Qf tt 0 [] (Hf (r:=((d / 65536:Nat):Int)) Uy qWm rfl (Qm rfl (by omega)) rfl) rfl ?_
  refine kl tt 4 [] qGm rfl rfl rfl (Ft (x:=V) (mu:=65536) (c0:=(d / 65536)) (hs1) (by omega) (by omega)) rfl rfl ?_
  refine Qf tt 1 [] (Qi (j-1) Jd Y7 rfl rfl (by omega) (Qg hd) rfl rfl) rfl ?_
  refine Qf tt 0 [] (G9 (r:=((d % 65536:Nat):Int)) rfl rfl (by decide) (rfl) rfl) rfl ?_
  refine Qf tt 0 [] (Hf (r:=((d % 65536:Nat):Int)) Uy qWm rfl (Qm rfl (by omega)) rfl) rfl ?_
  refine kl tt 2 [] qGm rfl rfl rfl (Ft (x:=((V*65536+(d / 65536)))) (mu:=65536) (c0:=(d % 65536)) (hs2) (by omega) (by omega)) rfl rfl ?_
  refine Qf tt 1 [] (Xs (r:=(((j-1:Nat):Int)-1)) rfl rfl (Qm (by omega) (by omega)) rfl) rfl ?_
  refine Qk [0,3,4] rfl rfl ?_
  refine Q7 ?_
  refine ⟨_,?_,j-1,_,by omega,by rw [hdd]; omega,rfl,rfl,rfl⟩
  omega
 have hj:j=0:=by omega
 subst hj
 refine Qr tt 2 rfl ?_
 refine Xb tt 2 [] (decide_eq_false (by omega)) rfl rfl ?_
 exact Xq tt [] rfl (by rw [hp1,qXf])
set_option maxRecDepth 20000 in
theorem T1 {x y:Nat} (hx:sz x≤200000000) (hy:sz y≤200000000):Q8 Tryz.prog 285 [.one (dl ((dig x))),.one (dl ((dig y)))] (.one (.int .i64 ((Sj x y)))):=by
 refine X2 tt 0 [] Tryz.func285 Tryz.ntmps285 rfl rfl rfl ?_
 have hxl:=X1 x
 have hyl:=X1 y
 by_cases hl:(dig x).length=(dig y).length
 ·skip
  refine Qr tt 2 rfl ?_
  refine Qf tt 1 [] (Qj (m:=((dig x)).length) Jl rfl (Ze _) rfl) rfl ?_
  refine Qf tt 1 [] (Qj (m:=((dig y)).length) Jl rfl (Ze _) rfl) rfl ?_
  refine Xb tt 1 [] (decide_eq_false (by omega)) rfl rfl ?_
  refine Qf tt 0 [] (Qj (m:=((dig x)).length) Jl rfl (Ze _) rfl) rfl ?_
  refine Qf tt 1 [] (Xs (r:=((((dig x).length:Nat):Int)-1)) rfl rfl (Qm rfl (by omega)) rfl) rfl ?_
  refine Qk [0,1,5] rfl rfl ?_
  refine Zj (fun m L B=>∃ j,j≤(dig x).length∧(dig x).drop j=(dig y).drop j∧m=j∧L=[(0,.one (dl ((dig x)))),(1,.one (dl ((dig y)))),(5,.one (.int .i64 ((((j:Nat):Int)-1))))]∧B=[]) (m:=_) ⟨(dig x).length,Ji _,by rw [Aa (Ji _),Aa (by omega)],rfl,rfl,rfl⟩ ?_
  rintro m L B ⟨j,hp0,hp1,hm,rfl,rfl⟩
  refine Qw tt rfl ?_
  by_cases h1:0<j
  ·obtain ⟨d,hd⟩:∃ d,(dig x)[j-1]? = some d:=⟨_,Xv (by omega)⟩
   obtain ⟨e,he⟩:∃ e,(dig y)[j-1]? = some e:=⟨_,Xv (by omega)⟩
   have hs:(dig x).drop (j-1+1)=(dig y).drop (j-1+1):=by rw [show j-1+1=j by omega]; exact hp1
   by_cases h2:d=e
   refine Qw tt rfl ?_
   ·skip
    refine Qr tt 2 rfl ?_
    refine Xf tt 0 [] (decide_eq_true (by omega)) rfl rfl ?_
    refine Qx 8 Qp rfl rfl rfl ?_
    refine Qr tt 2 rfl ?_
    refine kd (Qi (j-1) Jl Js rfl rfl (by omega) (Qg hd) rfl rfl) rfl ?_
    refine Qr tt 3 rfl ?_
    refine kd (Qi (j-1) Jl Js rfl rfl (by omega) (Qg he) rfl rfl) rfl ?_
    refine Qr tt 1 rfl ?_
    refine Qr tt 1 rfl ?_
    refine Xb tt 1 [] (decide_eq_false (by omega)) rfl rfl ?_
    refine Qf tt 1 [] (Xs (r:=(((j-1:Nat):Int)-1)) rfl rfl (Qm (by omega) (by omega)) rfl) rfl ?_
    refine Qk [0,1,5] rfl rfl ?_
    refine Q7 ?_
    refine ⟨_,?_,j-1,by omega,by rw [qZt (by omega:j-1<(dig x).length),qZt (by omega:j-1<(dig y).length),hs,(Wz.1 hd).2,(Wz.1 he).2,h2],rfl,rfl,rfl⟩
    omega
   by_cases h3:d<e
   refine Qw tt rfl ?_
   ·have hxy:=Oe (U3 x) hd he hs h3
    rw [Vk,Vk] at hxy
    refine Qr tt 2 rfl ?_
    refine Xf tt 0 [] (decide_eq_true (by omega)) rfl rfl ?_
    refine Qx 8 Qp rfl rfl rfl ?_
    refine Qr tt 2 rfl ?_
    refine kd (Qi (j-1) Jl Js rfl rfl (by omega) (Qg hd) rfl rfl) rfl ?_
    refine Qr tt 3 rfl ?_
    refine kd (Qi (j-1) Jl Js rfl rfl (by omega) (Qg he) rfl rfl) rfl ?_
    refine Qr tt 1 rfl ?_
    refine Qr tt 1 rfl ?_
    refine Xf tt 0 [] (decide_eq_true (by omega)) rfl rfl ?_
    refine Qx 8 Qp rfl rfl rfl ?_
    refine Qr tt 2 rfl ?_
    refine kd (Qi (j-1) Jl Js rfl rfl (by omega) (Qg hd) rfl rfl) rfl ?_
    refine Qr tt 3 rfl ?_
    refine kd (Qi (j-1) Jl Js rfl rfl (by omega) (Qg he) rfl rfl) rfl ?_
    refine Qr tt 1 rfl ?_
    refine Qr tt 1 rfl ?_
    refine Xf tt 1 [] (decide_eq_true (by omega)) rfl rfl ?_
    exact Xq tt [] rfl (by rw [Ae hxy])
   have hxy:=Oe (U3 y) he hd hs.symm (by omega)
   rw [Vk,Vk] at hxy
   refine Qr tt 2 rfl ?_
   refine Xf tt 0 [] (decide_eq_true (by omega)) rfl rfl ?_
   refine Qx 8 Qp rfl rfl rfl ?_
   refine Qr tt 2 rfl ?_
   refine kd (Qi (j-1) Jl Js rfl rfl (by omega) (Qg hd) rfl rfl) rfl ?_
   refine Qr tt 3 rfl ?_
   refine kd (Qi (j-1) Jl Js rfl rfl (by omega) (Qg he) rfl rfl) rfl ?_
   refine Qr tt 1 rfl ?_
   refine Qr tt 1 rfl ?_
   refine Xf tt 0 [] (decide_eq_true (by omega)) rfl rfl ?_
   refine Qx 8 Qp rfl rfl rfl ?_
   refine Qr tt 2 rfl ?_
   refine kd (Qi (j-1) Jl Js rfl rfl (by omega) (Qg hd) rfl rfl) rfl ?_
   refine Qr tt 3 rfl ?_
   refine kd (Qi (j-1) Jl Js rfl rfl (by omega) (Qg he) rfl rfl) rfl ?_
   refine Qr tt 1 rfl ?_
   refine Qr tt 1 rfl ?_
   refine Xb tt 1 [] (decide_eq_false (by omega)) rfl rfl ?_
   exact Xq tt [] rfl (by rw [Ey hxy])
  have hxy:x=y:=by
   have hj:j=0:=by omega
   subst hj
   rw [qXf,qXf] at hp1
   rw [←Vk x,←Vk y,hp1]
  refine Qr tt 2 rfl ?_
  refine Xb tt 1 [] (decide_eq_false (by omega)) rfl rfl ?_
  exact Xq tt [] rfl (by rw [Qk2 hxy])
 by_cases hlt:(dig x).length<(dig y).length
 refine Qw tt rfl ?_
 ·skip
  refine Qr tt 2 rfl ?_
  refine Qf tt 1 [] (Qj (m:=((dig x)).length) Jl rfl (Ze _) rfl) rfl ?_
  refine Qf tt 1 [] (Qj (m:=((dig y)).length) Jl rfl (Ze _) rfl) rfl ?_
  refine Xf tt 1 [] (decide_eq_true (by omega)) rfl rfl ?_
  refine Qf tt 1 [] (Qj (m:=((dig x)).length) Jl rfl (Ze _) rfl) rfl ?_
  refine Qf tt 1 [] (Qj (m:=((dig y)).length) Jl rfl (Ze _) rfl) rfl ?_
  refine Xf tt 1 [] (decide_eq_true (by omega)) rfl rfl ?_
  exact Xq tt [] rfl (by rw [Ae (Qh6 hlt)])
 skip
 refine Qr tt 2 rfl ?_
 refine Qf tt 1 [] (Qj (m:=((dig x)).length) Jl rfl (Ze _) rfl) rfl ?_
 refine Qf tt 1 [] (Qj (m:=((dig y)).length) Jl rfl (Ze _) rfl) rfl ?_
 refine Xf tt 1 [] (decide_eq_true (by omega)) rfl rfl ?_
 refine Qf tt 1 [] (Qj (m:=((dig x)).length) Jl rfl (Ze _) rfl) rfl ?_
 refine Qf tt 1 [] (Qj (m:=((dig y)).length) Jl rfl (Ze _) rfl) rfl ?_
 refine Xb tt 1 [] (decide_eq_false (by omega)) rfl rfl ?_
 exact Xq tt [] rfl (by rw [Ey (Qh6 (by omega))])
theorem P1 {o c s P V:Nat} (h:o+c*P=V):o+P*((c+s) % 10000)+(c+s) / 10000*(P*10000)=V+P*s:=by
 have e:=qXl (c+s) 10000
 generalize (c+s) / 10000=q at *
 generalize (c+s) % 10000=r at *
 have e2:P*(c+s)=P*(10000*q+r):=by rw [e]
 grind
theorem Th {l:List Nat} {i:Nat} (h:l.length≤i):dv (l.take (i+1))=dv (l.take i):=by rw [Vh (by omega),Vh h]
theorem Qrg {l:List Nat} {p v u:Nat} (h:l[p]? = some v):dv (l.set p u)+10000^p*v=dv l+10000^p*u:=by
 have hp:=(Wz.1 h).1
 rw [Qer (l.set p u) p (by rw [H8]; omega),Qer l p (by omega),Bw h,D0 hp,List.take_set_of_le (Ji _)]
 simp only [dv]
 generalize 10000^p=P
 grind
theorem T9 {l:List Nat} {p u:Nat} (h:p<l.length):dv ((l.set p u).take (p+1))=dv (l.take p)+10000^p*u:=by
 rw [Kw (l:=l.set p u) (i:=p) (x:=u) (by simp [h]),List.take_set_of_le (Ji _)]
theorem Qiy {x y:Nat} (hx:sz x≤200000000) (hy:sz y≤200000000):Q8 Tryz.prog 284 [.one (dl ((dig x))),.one (dl ((dig y)))] (.one (dl ((dig ((x+y)))))):=by
 refine X2 tt 0 [] Tryz.func284 Tryz.ntmps284 rfl rfl rfl ?_
 have hxl:=X1 x
 have hyl:=X1 y
 skip
 refine Qr tt 4 rfl ?_
 refine X5 (fun _ k_=>X9 [5] 3 1 rfl (Zg rfl) rfl (Qo k_)) rfl ?_
 refine Qk [0,1,5,6,7] rfl rfl ?_
 refine Zj (fun m L B=>∃ i c r o,Dg o∧o.length=i∧dv o+c*10000^i=dv ((dig x).take i)+dv ((dig y).take i)∧c≤1∧(i≤(max (dig x).length (dig y).length)∨(i=(max (dig x).length (dig y).length)+1∧10000^(max (dig x).length (dig y).length)≤x+y∧c=0))∧m=((max (dig x).length (dig y).length)-i)*2+c∧L=[(0,.one (dl ((dig x)))),(1,.one (dl ((dig y)))),(5,.one (.orow r 1 0 i)),(6,.one (.int .i64 (((c:Nat):Int)))),(7,.one (.int .i64 (((i:Nat):Int))))]∧B=[.row r 3 1 (Mn o)]) (m:=_) ⟨0,0,none,[],Dg.nil,rfl,by simp [dv],by decide,.inl (K7 _),rfl,rfl,rfl⟩ ?_
 rintro m L B ⟨i,c,r,o,hp0,hp1,hp2,hp3,hp4,hm,rfl,rfl⟩
 refine Qw tt rfl ?_
 have hxl:=X1 x
 have hyl:=X1 y
 by_cases h1:i<(dig x).length
 ·by_cases h2:i<(dig y).length
  refine Qw tt rfl ?_
  ·obtain ⟨d,hd⟩:∃ d,(dig x)[i]? = some d:=⟨_,Xv h1⟩
   have hd9:=U3 x d (Y6 hd)
   obtain ⟨e,he⟩:∃ e,(dig y)[i]? = some e:=⟨_,Xv h2⟩
   have he9:=U3 y e (Y6 he)
   refine Qr tt 2 rfl ?_
   refine Qf tt 2 [] (Qj (m:=((dig x)).length) Jl rfl (Ze _) rfl) rfl ?_
   refine Qf tt 0 [] (Qh rfl rfl (decide_eq_true (by omega)) rfl) rfl ?_
   refine Qf tt 0 [] (Qh rfl rfl (decide_eq_true (by omega)) rfl) rfl ?_
   refine Qf tt 0 [] (Qh rfl rfl (decide_eq_true (by omega)) rfl) rfl ?_
   refine Qf tt 0 [] (Qh rfl rfl (decide_eq_true (by omega)) rfl) rfl ?_
   refine Qf tt 1 [] (Zp rfl (decide_eq_true (by omega)) rfl rfl) rfl ?_
   refine Qf tt 0 [] (Qh rfl rfl (rfl) rfl) rfl ?_
   refine Qf tt 0 [] (Qh rfl rfl (rfl) rfl) rfl ?_
   refine Qf tt 0 [] (Zp rfl (rfl) rfl rfl) rfl ?_
   refine Xf tt 2 [] (rfl) rfl rfl ?_
   refine Qf tt 1 [] (Qj (m:=((dig x)).length) Jl rfl (Ze _) rfl) rfl ?_
   refine Xf tt 3 [] (decide_eq_true (by omega)) rfl rfl ?_
   refine Qf tt 1 [] (Qi (i) Jl Js rfl rfl (rfl) (Qg hd) rfl rfl) rfl ?_
   refine Qf tt 3 [] (Q6 (r:=((c+d:Nat):Int)) rfl rfl (Qm (by omega) (by omega)) rfl) rfl ?_
   refine Qf tt 1 [] (Qj (m:=((dig y)).length) Jl rfl (Ze _) rfl) rfl ?_
   refine Xf tt 3 [] (decide_eq_true (by omega)) rfl rfl ?_
   refine Qf tt 1 [] (Qi (i) Jl Js rfl rfl (rfl) (Qg he) rfl rfl) rfl ?_
   refine Qf tt 3 [] (Q6 (r:=(((c+d)+e:Nat):Int)) rfl rfl (Qm (by omega) (by omega)) rfl) rfl ?_
   refine Qf tt 1 [] (G9 (r:=((((c+d)+e) % 10000:Nat):Int)) rfl rfl (by decide) (rfl) rfl) rfl ?_
   refine Zn (Zo (ls2:=(Mn (o++[((c+d)+e) % 10000]))) (m2:=i+1) 0 Jl Jl qWy rfl rfl Js qWs rfl rfl rfl rfl rfl rfl rfl (by rw [Zw]; omega) (Yh rfl) (Ya rfl) (by show _+1<_; omega) (by rw [Vh (by rw [Zw]; omega)]; exact Ri _ _) (rfl) fun r1=>ko ?_)
   refine Qr tt 2 rfl ?_
   refine Qf tt 2 [] (Hb (r:=((((c+d)+e) / 10000:Nat):Int)) rfl rfl (by decide) (by rw [show Int.tdiv ((((c+d)+e):Nat):Int) 10000=((((c+d)+e) / 10000:Nat):Int) from rfl]; exact Xz (by omega) (by omega)) rfl) rfl ?_
   refine Qf tt 1 [] (Q6 (r:=((i+1:Nat):Int)) rfl rfl (Qm (by omega) (by omega)) rfl) rfl ?_
   refine Qk [0,1,5,6,7] rfl rfl ?_
   refine Q7 ?_
   refine ⟨_,?_,i+1,((c+d)+e) / 10000,r1,o++[((c+d)+e) % 10000],hp0.snoc (Se _ (by decide)),by rw [H7]; show o.length+1=_; omega,by rw [W9,hp1,Ni]; simp only [dv,qJb,Mr]; have:=P1 (s:=d+e) hp2; simp only [←qVa] at this; rw [this,Kw hd,Kw he]; grind,by omega,.inl (by omega),rfl,rfl,rfl⟩
   omega
  obtain ⟨d,hd⟩:∃ d,(dig x)[i]? = some d:=⟨_,Xv h1⟩
  have hd9:=U3 x d (Y6 hd)
  refine Qr tt 2 rfl ?_
  refine Qf tt 2 [] (Qj (m:=((dig x)).length) Jl rfl (Ze _) rfl) rfl ?_
  refine Qf tt 0 [] (Qh rfl rfl (decide_eq_true (by omega)) rfl) rfl ?_
  refine Qf tt 0 [] (Qh rfl rfl (decide_eq_true (by omega)) rfl) rfl ?_
  refine Qf tt 0 [] (Qh rfl rfl (decide_eq_true (by omega)) rfl) rfl ?_
  refine Qf tt 0 [] (Qh rfl rfl (decide_eq_true (by omega)) rfl) rfl ?_
  refine Qf tt 1 [] (Zp rfl (decide_eq_true (by omega)) rfl rfl) rfl ?_
  refine Qf tt 0 [] (Qh rfl rfl (rfl) rfl) rfl ?_
  refine Qf tt 0 [] (Qh rfl rfl (rfl) rfl) rfl ?_
  refine Qf tt 0 [] (Zp rfl (rfl) rfl rfl) rfl ?_
  refine Xf tt 2 [] (rfl) rfl rfl ?_
  refine Qf tt 1 [] (Qj (m:=((dig x)).length) Jl rfl (Ze _) rfl) rfl ?_
  refine Xf tt 3 [] (decide_eq_true (by omega)) rfl rfl ?_
  refine Qf tt 1 [] (Qi (i) Jl Js rfl rfl (rfl) (Qg hd) rfl rfl) rfl ?_
  refine Qf tt 3 [] (Q6 (r:=((c+d:Nat):Int)) rfl rfl (Qm (by omega) (by omega)) rfl) rfl ?_
  refine Qf tt 1 [] (Qj (m:=((dig y)).length) Jl rfl (Ze _) rfl) rfl ?_
  refine Xb tt 2 [] (decide_eq_false (by omega)) rfl rfl ?_
  refine Qf tt 1 [] (G9 (r:=(((c+d) % 10000:Nat):Int)) rfl rfl (by decide) (rfl) rfl) rfl ?_
  refine Zn (Zo (ls2:=(Mn (o++[(c+d) % 10000]))) (m2:=i+1) 0 Jl Jl qWy rfl rfl Js qWs rfl rfl rfl rfl rfl rfl rfl (by rw [Zw]; omega) (Yh rfl) (Ya rfl) (by show _+1<_; omega) (by rw [Vh (by rw [Zw]; omega)]; exact Ri _ _) (rfl) fun r2=>ko ?_)
  refine Qr tt 2 rfl ?_
  refine Qf tt 2 [] (Hb (r:=(((c+d) / 10000:Nat):Int)) rfl rfl (by decide) (by rw [show Int.tdiv (((c+d):Nat):Int) 10000=(((c+d) / 10000:Nat):Int) from rfl]; exact Xz (by omega) (by omega)) rfl) rfl ?_
  refine Qf tt 1 [] (Q6 (r:=((i+1:Nat):Int)) rfl rfl (Qm (by omega) (by omega)) rfl) rfl ?_
  refine Qk [0,1,5,6,7] rfl rfl ?_
  refine Q7 ?_
  refine ⟨_,?_,i+1,(c+d) / 10000,r2,o++[(c+d) % 10000],hp0.snoc (Se _ (by decide)),by rw [H7]; show o.length+1=_; omega,by rw [W9,hp1,Ni]; simp only [dv,qJb,Mr]; have:=P1 (s:=d) hp2; rw [this,Kw hd,Th (l:=dig y) (by omega)]; grind,by omega,.inl (by omega),rfl,rfl,rfl⟩
  omega
 by_cases h2:i<(dig y).length
 refine Qw tt rfl ?_
 ·obtain ⟨e,he⟩:∃ e,(dig y)[i]? = some e:=⟨_,Xv h2⟩
  have he9:=U3 y e (Y6 he)
  refine Qr tt 2 rfl ?_
  refine Qf tt 2 [] (Qj (m:=((dig x)).length) Jl rfl (Ze _) rfl) rfl ?_
  refine Qf tt 0 [] ((Qd rfl rfl (decide_eq_false (by omega)) (Qv tt rfl rfl))) rfl ?_
  refine Qf tt 0 [] ((Qd rfl rfl (decide_eq_false (by omega)) (Qv tt rfl rfl))) rfl ?_
  refine Qf tt 0 [] ((Qd rfl rfl (decide_eq_false (by omega)) (Qj (m:=((dig y)).length) Jl rfl (Ze _) rfl))) rfl ?_
  refine Qf tt 0 [] ((Qd rfl rfl (decide_eq_false (by omega)) (Qv tt rfl rfl))) rfl ?_
  refine Qf tt 1 [] (Zu rfl (decide_eq_false (by omega)) rfl rfl) rfl ?_
  refine Qf tt 0 [] (Qh rfl rfl (decide_eq_true (by omega)) rfl) rfl ?_
  refine Qf tt 0 [] (Qh rfl rfl (decide_eq_true (by omega)) rfl) rfl ?_
  refine Qf tt 0 [] (Zp rfl (decide_eq_true (by omega)) rfl rfl) rfl ?_
  refine Xf tt 2 [] (rfl) rfl rfl ?_
  refine Qf tt 1 [] (Qj (m:=((dig x)).length) Jl rfl (Ze _) rfl) rfl ?_
  refine Xb tt 2 [] (decide_eq_false (by omega)) rfl rfl ?_
  refine Qf tt 1 [] (Qj (m:=((dig y)).length) Jl rfl (Ze _) rfl) rfl ?_
  refine Xf tt 3 [] (decide_eq_true (by omega)) rfl rfl ?_
  refine Qf tt 1 [] (Qi (i) Jl Js rfl rfl (rfl) (Qg he) rfl rfl) rfl ?_
  refine Qf tt 3 [] (Q6 (r:=((c+e:Nat):Int)) rfl rfl (Qm (by omega) (by omega)) rfl) rfl ?_
  refine Qf tt 1 [] (G9 (r:=(((c+e) % 10000:Nat):Int)) rfl rfl (by decide) (rfl) rfl) rfl ?_
  refine Zn (Zo (ls2:=(Mn (o++[(c+e) % 10000]))) (m2:=i+1) 0 Jl Jl qWy rfl rfl Js qWs rfl rfl rfl rfl rfl rfl rfl (by rw [Zw]; omega) (Yh rfl) (Ya rfl) (by show _+1<_; omega) (by rw [Vh (by rw [Zw]; omega)]; exact Ri _ _) (rfl) fun r3=>ko ?_)
  refine Qr tt 2 rfl ?_
  refine Qf tt 2 [] (Hb (r:=(((c+e) / 10000:Nat):Int)) rfl rfl (by decide) (by rw [show Int.tdiv (((c+e):Nat):Int) 10000=(((c+e) / 10000:Nat):Int) from rfl]; exact Xz (by omega) (by omega)) rfl) rfl ?_
  refine Qf tt 1 [] (Q6 (r:=((i+1:Nat):Int)) rfl rfl (Qm (by omega) (by omega)) rfl) rfl ?_
  refine Qk [0,1,5,6,7] rfl rfl ?_
  refine Q7 ?_
  refine ⟨_,?_,i+1,(c+e) / 10000,r3,o++[(c+e) % 10000],hp0.snoc (Se _ (by decide)),by rw [H7]; show o.length+1=_; omega,by rw [W9,hp1,Ni]; simp only [dv,qJb,Mr]; have:=P1 (s:=e) hp2; rw [this,Kw he,Th (l:=dig x) (by omega)]; grind,by omega,.inl (by omega),rfl,rfl,rfl⟩
  omega
 by_cases h3:0<c
 refine Qw tt rfl ?_
 ·skip
  refine Qr tt 2 rfl ?_
  refine Qf tt 2 [] (Qj (m:=((dig x)).length) Jl rfl (Ze _) rfl) rfl ?_
  refine Qf tt 0 [] ((Qd rfl rfl (decide_eq_false (by omega)) (Qv tt rfl rfl))) rfl ?_
  refine Qf tt 0 [] ((Qd rfl rfl (decide_eq_false (by omega)) (Qv tt rfl rfl))) rfl ?_
  refine Qf tt 0 [] ((Qd rfl rfl (decide_eq_false (by omega)) (Qj (m:=((dig y)).length) Jl rfl (Ze _) rfl))) rfl ?_
  refine Qf tt 0 [] ((Qd rfl rfl (decide_eq_false (by omega)) (Qv tt rfl rfl))) rfl ?_
  refine Qf tt 1 [] (Zu rfl (decide_eq_false (by omega)) rfl rfl) rfl ?_
  refine Qf tt 0 [] ((Qd rfl rfl (decide_eq_false (by omega)) (Qv tt rfl rfl))) rfl ?_
  refine Qf tt 0 [] ((Qd rfl rfl (decide_eq_false (by omega)) (Qv tt rfl rfl))) rfl ?_
  refine Qf tt 0 [] (Zu rfl (decide_eq_false (by omega)) rfl rfl) rfl ?_
  refine Xf tt 2 [] (decide_eq_true (by omega)) rfl rfl ?_
  refine Qf tt 1 [] (Qj (m:=((dig x)).length) Jl rfl (Ze _) rfl) rfl ?_
  refine Xb tt 2 [] (decide_eq_false (by omega)) rfl rfl ?_
  refine Qf tt 1 [] (Qj (m:=((dig y)).length) Jl rfl (Ze _) rfl) rfl ?_
  refine Xb tt 2 [] (decide_eq_false (by omega)) rfl rfl ?_
  refine Qf tt 1 [] (G9 (r:=((c % 10000:Nat):Int)) rfl rfl (by decide) (rfl) rfl) rfl ?_
  refine Zn (Zo (ls2:=(Mn (o++[c % 10000]))) (m2:=i+1) 0 Jl Jl qWy rfl rfl Js qWs rfl rfl rfl rfl rfl rfl rfl (by rw [Zw]; omega) (Yh rfl) (Ya rfl) (by show _+1<_; omega) (by rw [Vh (by rw [Zw]; omega)]; exact Ri _ _) (rfl) fun r4=>ko ?_)
  refine Qr tt 2 rfl ?_
  refine Qf tt 2 [] (Hb (r:=((c / 10000:Nat):Int)) rfl rfl (by decide) (by rw [show Int.tdiv ((c:Nat):Int) 10000=((c / 10000:Nat):Int) from rfl]; exact Xz (by omega) (by omega)) rfl) rfl ?_
  refine Qf tt 1 [] (Q6 (r:=((i+1:Nat):Int)) rfl rfl (Qm (by omega) (by omega)) rfl) rfl ?_
  refine Qk [0,1,5,6,7] rfl rfl ?_
  refine Q7 ?_
  refine ⟨_,?_,i+1,c / 10000,r4,o++[c % 10000],hp0.snoc (Se _ (by decide)),by rw [H7]; show o.length+1=_; omega,by rw [W9,hp1,Ni]; simp only [dv,qJb,Mr]; have:=P1 (s:=0) hp2; rw [Mr,qJb,Mr] at this; rw [this,Th (l:=dig y) (by omega),Th (l:=dig x) (by omega)],by omega,.inr ⟨by omega,by have h:=hp2; rw [Vh (by omega),Vh (by omega),Vk,Vk,show c=1 by omega,Nat.one_mul,show i=(max (dig x).length (dig y).length) by omega] at h; omega,by omega⟩,rfl,rfl,rfl⟩
  omega
 have hv:dv o=x+y:=by
  have h:=hp2
  rw [Vh (by omega),Vh (by omega),Vk,Vk,show c=0 by omega] at h
  omega
 have hfin:o=dig (x+y):=by
  rw [←hv]
  refine Qrj hp0 ?_
  rw [hv]
  have m1:=S6 (x:=x) (y:=x+y) (by omega)
  have m2:=S6 (x:=y) (y:=x+y) (by omega)
  rcases hp4 with h | ⟨h,hb,_⟩
  ·omega
  ·have:=Qmz hb; omega
 refine Qr tt 2 rfl ?_
 refine Qf tt 2 [] (Qj (m:=((dig x)).length) Jl rfl (Ze _) rfl) rfl ?_
 refine Qf tt 0 [] ((Qd rfl rfl (decide_eq_false (by omega)) (Qv tt rfl rfl))) rfl ?_
 refine Qf tt 0 [] ((Qd rfl rfl (decide_eq_false (by omega)) (Qv tt rfl rfl))) rfl ?_
 refine Qf tt 0 [] ((Qd rfl rfl (decide_eq_false (by omega)) (Qj (m:=((dig y)).length) Jl rfl (Ze _) rfl))) rfl ?_
 refine Qf tt 0 [] ((Qd rfl rfl (decide_eq_false (by omega)) (Qv tt rfl rfl))) rfl ?_
 refine Qf tt 1 [] (Zu rfl (decide_eq_false (by omega)) rfl rfl) rfl ?_
 refine Qf tt 0 [] ((Qd rfl rfl (decide_eq_false (by omega)) (Qv tt rfl rfl))) rfl ?_
 refine Qf tt 0 [] ((Qd rfl rfl (decide_eq_false (by omega)) (Qv tt rfl rfl))) rfl ?_
 refine Qf tt 0 [] (Zu rfl (decide_eq_false (by omega)) rfl rfl) rfl ?_
 refine Xb tt 2 [] (decide_eq_false (by omega)) rfl rfl ?_
 refine X5 (fun _ k_=>Xm (L2:=_) 0 [4] rfl (Zg rfl) (by rw [Zw]; omega) (by rw [Zw]; omega) rfl (Qo k_)) rfl ?_
 exact Xq tt [] rfl (by rw [show o=dig (x+y) from hfin]; rfl)
theorem P2 {o b a c P u d e c':Nat} (h:o+b=a+c*P) (hs:u+e+c=d+10000*c'):(o+P*u)+(b+P*e)=(a+P*d)+c'*(P*10000):=by
 have e2:P*(u+e+c)=P*(d+10000*c'):=by rw [hs]
 grind
theorem Ns {x y:Nat} (hx:sz x≤200000000) (hy:sz y≤200000000) (hyx:y≤x):Q8 Tryz.prog 286 [.one (dl ((dig x))),.one (dl ((dig y)))] (.one (dl ((dig ((x-y)))))):=by
 refine X2 tt 0 [] Tryz.func286 Tryz.ntmps286 rfl rfl rfl ?_
 have hxl:=X1 x
 have hyl:=X1 y
 skip
 refine Qr tt 2 rfl ?_
 refine kw (Qj (m:=((dig x)).length) Jl rfl (Ze _) rfl) ?_
 refine Zn (G3 ((dig x).length) Jl qWy rfl Js qWs rfl rfl rfl rfl rfl rfl (rfl) (rfl) (by omega) rfl fun r1=>ko ?_)
 refine X5 (fun _ k_=>Jx 0 rfl (show _=Mn (List.replicate (dig x).length 0) by simp) (Qo k_)) rfl ?_
 refine Qr tt 3 rfl ?_
 refine Qf tt 1 [] (Qj (m:=((dig x)).length) Jl rfl (Ze _) rfl) rfl ?_
 refine Qk [0,1,5,6,12,13,14] rfl rfl ?_
 refine Zj (fun m L B=>∃ i c o,i≤(dig x).length∧o.length=(dig x).length∧Dg o∧dv (o.take i)+dv ((dig y).take i)=dv ((dig x).take i)+c*10000^i∧c≤1∧m=(dig x).length-i∧L=[(0,.one (dl ((dig x)))),(1,.one (dl ((dig y)))),(5,.one (.orow r1 1 0 ((dig x).length))),(6,.one (.int .i64 (((c:Nat):Int)))),(12,.one (dl ((dig x)))),(13,.one (.int .i64 ((((dig x).length:Nat):Int)))),(14,.one (.int .i64 (((i:Nat):Int))))]∧B=[.row r1 3 1 (Mn o)]) (m:=_) ⟨0,0,List.replicate (dig x).length 0,K7 _,Li ..,Dg.zeros _,by simp [dv],by decide,rfl,rfl,rfl⟩ ?_
 rintro m L B ⟨i,c,o,hp0,hp1,hp2,hp3,hp4,hm,rfl,rfl⟩
 refine Qw tt rfl ?_
 have hxl:=X1 x
 have hyl:=X1 y
 have hmy:=S6 hyx
 by_cases h1:i<(dig x).length
 ·obtain ⟨d,hd⟩:∃ d,(dig x)[i]? = some d:=⟨_,Xv h1⟩
  obtain ⟨v,hoi⟩:∃ v,o[i]? = some v:=⟨_,Xv (by omega)⟩
  have hd9:=U3 x d (Y6 hd)
  by_cases h2:i<(dig y).length
  refine Qw tt rfl ?_
  ·obtain ⟨e,he⟩:∃ e,(dig y)[i]? = some e:=⟨_,Xv h2⟩
   have he9:=U3 y e (Y6 he)
   by_cases h3:d<c+e
   refine Qw tt rfl ?_
   ·skip
    refine Qr tt 1 rfl ?_
    refine Xf tt 4 [] (decide_eq_true (by omega)) rfl rfl ?_
    refine Qf tt 2 [] (Qi (i) Jl Js rfl rfl (rfl) (Qg hd) rfl rfl) rfl ?_
    refine Qf tt 3 [] (Xs (r:=(((d:Nat):Int)-((c:Nat):Int))) rfl rfl (Qm rfl (by omega)) rfl) rfl ?_
    refine Qf tt 1 [] (Qj (m:=((dig y)).length) Jl rfl (Ze _) rfl) rfl ?_
    refine Xf tt 3 [] (decide_eq_true (by omega)) rfl rfl ?_
    refine Qf tt 1 [] (Qi (i) Jl Js rfl rfl (rfl) (Qg he) rfl rfl) rfl ?_
    refine Qf tt 4 [] (Xs (r:=((((d:Nat):Int)-((c:Nat):Int))-((e:Nat):Int))) rfl rfl (Qm rfl (by omega)) rfl) rfl ?_
    refine Xf tt 1 [] (decide_eq_true (by omega)) rfl rfl ?_
    refine Qf tt 5 [] (Q6 (r:=((d+10000-c-e:Nat):Int)) rfl rfl (Qm (by omega) (by omega)) rfl) rfl ?_
    refine kw (Zr (i) Jl Js rfl rfl (rfl) (by omega) rfl) ?_
    refine Zn (Ju (ls2:=Mn (o.set i (d+10000-c-e))) 0 Js rfl rfl rfl rfl rfl rfl (by rw [Vy]; exact Qg hoi) rfl (by rw [Vy]; exact W4 (fun (x:Nat)=>[LV.int .i64 (x:Int)]) _ _ _) (ko ?_))
    refine Qw tt rfl ?_
    refine Qf tt 1 [] (Q6 (r:=((i+1:Nat):Int)) rfl rfl (Qm (by omega) (by omega)) rfl) rfl ?_
    refine Qk [0,1,5,6,12,13,14] rfl rfl ?_
    refine Q7 ?_
    refine ⟨_,?_,i+1,1,o.set i (d+10000-c-e),by omega,by rw [H8]; exact hp1,hp2.set (by omega),by rw [T9 (by omega),Kw hd,Kw he,Ni]; exact P2 hp3 (u:=d+10000-c-e) (d:=d) (e:=e) (c':=1) (by omega),by omega,rfl,rfl,rfl⟩
    omega
   skip
   refine Qr tt 1 rfl ?_
   refine Xf tt 4 [] (decide_eq_true (by omega)) rfl rfl ?_
   refine Qf tt 2 [] (Qi (i) Jl Js rfl rfl (rfl) (Qg hd) rfl rfl) rfl ?_
   refine Qf tt 3 [] (Xs (r:=(((d:Nat):Int)-((c:Nat):Int))) rfl rfl (Qm rfl (by omega)) rfl) rfl ?_
   refine Qf tt 1 [] (Qj (m:=((dig y)).length) Jl rfl (Ze _) rfl) rfl ?_
   refine Xf tt 3 [] (decide_eq_true (by omega)) rfl rfl ?_
   refine Qf tt 1 [] (Qi (i) Jl Js rfl rfl (rfl) (Qg he) rfl rfl) rfl ?_
   refine Qf tt 4 [] (Xs (r:=((d-c-e:Nat):Int)) rfl rfl (Qm (by omega) (by omega)) rfl) rfl ?_
   refine Xb tt 3 [] (decide_eq_false (by omega)) rfl rfl ?_
   refine kw (Zr (i) Jl Js rfl rfl (rfl) (by omega) rfl) ?_
   refine Zn (Ju (ls2:=Mn (o.set i (d-c-e))) 0 Js rfl rfl rfl rfl rfl rfl (by rw [Vy]; exact Qg hoi) rfl (by rw [Vy]; exact W4 (fun (x:Nat)=>[LV.int .i64 (x:Int)]) _ _ _) (ko ?_))
   refine Qw tt rfl ?_
   refine Qf tt 1 [] (Q6 (r:=((i+1:Nat):Int)) rfl rfl (Qm (by omega) (by omega)) rfl) rfl ?_
   refine Qk [0,1,5,6,12,13,14] rfl rfl ?_
   refine Q7 ?_
   refine ⟨_,?_,i+1,0,o.set i (d-c-e),by omega,by rw [H8]; exact hp1,hp2.set (by omega),by rw [T9 (by omega),Kw hd,Kw he,Ni]; exact P2 hp3 (u:=d-c-e) (d:=d) (e:=e) (c':=0) (by omega),by omega,rfl,rfl,rfl⟩
   omega
  by_cases h3:d<c
  refine Qw tt rfl ?_
  ·skip
   refine Qr tt 1 rfl ?_
   refine Xf tt 4 [] (decide_eq_true (by omega)) rfl rfl ?_
   refine Qf tt 2 [] (Qi (i) Jl Js rfl rfl (rfl) (Qg hd) rfl rfl) rfl ?_
   refine Qf tt 3 [] (Xs (r:=(((d:Nat):Int)-((c:Nat):Int))) rfl rfl (Qm rfl (by omega)) rfl) rfl ?_
   refine Qf tt 1 [] (Qj (m:=((dig y)).length) Jl rfl (Ze _) rfl) rfl ?_
   refine Xb tt 3 [] (decide_eq_false (by omega)) rfl rfl ?_
   refine Xf tt 1 [] (decide_eq_true (by omega)) rfl rfl ?_
   refine Qf tt 5 [] (Q6 (r:=((d+10000-c:Nat):Int)) rfl rfl (Qm (by omega) (by omega)) rfl) rfl ?_
   refine kw (Zr (i) Jl Js rfl rfl (rfl) (by omega) rfl) ?_
   refine Zn (Ju (ls2:=Mn (o.set i (d+10000-c))) 0 Js rfl rfl rfl rfl rfl rfl (by rw [Vy]; exact Qg hoi) rfl (by rw [Vy]; exact W4 (fun (x:Nat)=>[LV.int .i64 (x:Int)]) _ _ _) (ko ?_))
   refine Qw tt rfl ?_
   refine Qf tt 1 [] (Q6 (r:=((i+1:Nat):Int)) rfl rfl (Qm (by omega) (by omega)) rfl) rfl ?_
   refine Qk [0,1,5,6,12,13,14] rfl rfl ?_
   refine Q7 ?_
   refine ⟨_,?_,i+1,1,o.set i (d+10000-c),by omega,by rw [H8]; exact hp1,hp2.set (by omega),by rw [T9 (by omega),Kw hd,(show dv ((dig y).take (i+1))=dv ((dig y).take i)+10000^i*0 by rw [Th (by omega),qJb,Mr]),Ni]; exact P2 hp3 (u:=d+10000-c) (d:=d) (e:=0) (c':=1) (by omega),by omega,rfl,rfl,rfl⟩
   omega
  skip
  refine Qr tt 1 rfl ?_
  refine Xf tt 4 [] (decide_eq_true (by omega)) rfl rfl ?_
  refine Qf tt 2 [] (Qi (i) Jl Js rfl rfl (rfl) (Qg hd) rfl rfl) rfl ?_
  refine Qf tt 3 [] (Xs (r:=((d-c:Nat):Int)) rfl rfl (Qm (by omega) (by omega)) rfl) rfl ?_
  refine Qf tt 1 [] (Qj (m:=((dig y)).length) Jl rfl (Ze _) rfl) rfl ?_
  refine Xb tt 3 [] (decide_eq_false (by omega)) rfl rfl ?_
  refine Xb tt 3 [] (decide_eq_false (by omega)) rfl rfl ?_
  refine kw (Zr (i) Jl Js rfl rfl (rfl) (by omega) rfl) ?_
  refine Zn (Ju (ls2:=Mn (o.set i (d-c))) 0 Js rfl rfl rfl rfl rfl rfl (by rw [Vy]; exact Qg hoi) rfl (by rw [Vy]; exact W4 (fun (x:Nat)=>[LV.int .i64 (x:Int)]) _ _ _) (ko ?_))
  refine Qw tt rfl ?_
  refine Qf tt 1 [] (Q6 (r:=((i+1:Nat):Int)) rfl rfl (Qm (by omega) (by omega)) rfl) rfl ?_
  refine Qk [0,1,5,6,12,13,14] rfl rfl ?_
  refine Q7 ?_
  refine ⟨_,?_,i+1,0,o.set i (d-c),by omega,by rw [H8]; exact hp1,hp2.set (by omega),by rw [T9 (by omega),Kw hd,(show dv ((dig y).take (i+1))=dv ((dig y).take i)+10000^i*0 by rw [Th (by omega),qJb,Mr]),Ni]; exact P2 hp3 (u:=d-c) (d:=d) (e:=0) (c':=0) (by omega),by omega,rfl,rfl,rfl⟩
  omega
 have hi:i=(dig x).length:=by omega
 have hv:dv o=x-y:=by
  have h:=hp3
  rw [Vh (by omega),Vh (by omega),Vh (by omega),Vk,Vk] at h
  have hlt:=Qhd hp2
  rw [hp1,←hi] at hlt
  rcases H9 c with h0 | h0
  ·subst h0; omega
  ·rw [show c=1 by omega] at h; omega
 refine Qr tt 1 rfl ?_
 refine Xb tt 1 [] (decide_eq_false (by omega)) rfl rfl ?_
 refine X5 (fun _ k_=>Xm 0 [42] rfl (Zg rfl) (by rw [Zw]; omega) (by rw [Zw]; omega) rfl (Qo k_)) rfl ?_
 refine Qw tt rfl ?_
 refine kl tt 1 [] qGb rfl rfl rfl (Hj (hp2) (by omega)) rfl rfl ?_
 exact Xq tt [] rfl (by rw [hv])
theorem O3 {o o2 c P u v s V:Nat} (h:o+c*P=V) (hs:o2+P*v=o+P*u) {q:Nat} (hu:u+10000*q=v+c+s):o2+q*(P*10000)=V+P*s:=by
 have e2:P*(u+10000*q)=P*(v+c+s):=by rw [hu]
 grind
theorem Q1a (S:Nat):S % 10000+10000*(S / 10000)=S:=Nat.mod_add_div S 10000
set_option maxRecDepth 20000 in
theorem Qiz {x y:Nat} (hx:sz x≤200000000) (hy:sz y≤200000000):Q8 Tryz.prog 287 [.one (dl ((dig x))),.one (dl ((dig y)))] (.one (dl ((dig ((x*y)))))):=by
 refine X2 tt 0 [] Tryz.func287 Tryz.ntmps287 rfl rfl rfl ?_
 have hxl:=X1 x
 have hyl:=X1 y
 skip
 refine Qr tt 2 rfl ?_
 refine Qf tt 1 [] (Qj (m:=((dig x)).length) Jl rfl (Ze _) rfl) rfl ?_
 refine Qf tt 0 [] (Qj (m:=((dig y)).length) Jl rfl (Ze _) rfl) rfl ?_
 refine kw (Q6 (r:=(((((dig x)).length)+(((dig y)).length):Nat):Int)) rfl rfl (Qm (by omega) (by omega)) rfl) ?_
 refine Zn (G3 (((dig x).length+(dig y).length)) Jl qWy rfl Js qWs rfl rfl rfl rfl rfl rfl (rfl) (rfl) (by omega) rfl fun r1=>ko ?_)
 refine X5 (fun _ k_=>Jx 0 rfl (show _=Mn (List.replicate ((dig x).length+(dig y).length) 0) by simp) (Qo k_)) rfl ?_
 refine Qr tt 2 rfl ?_
 refine Qf tt 1 [] (Qj (m:=((dig x)).length) Jl rfl (Ze _) rfl) rfl ?_
 refine Qk [0,1,5,16,17,18] rfl rfl ?_
 refine Zj (fun m L B=>∃ i o,i≤(dig x).length∧o.length=((dig x).length+(dig y).length)∧Dg o∧dv o=dv ((dig x).take i)*y∧(∀ j v,i+(dig y).length≤j→o[j]? = some v→v=0)∧m=(dig x).length-i∧L=[(0,.one (dl ((dig x)))),(1,.one (dl ((dig y)))),(5,.one (.orow r1 1 0 (((dig x).length+(dig y).length)))),(16,.one (dl ((dig x)))),(17,.one (.int .i64 ((((dig x).length:Nat):Int)))),(18,.one (.int .i64 (((i:Nat):Int))))]∧B=[.row r1 3 1 (Mn o)]) (m:=_) ⟨0,List.replicate ((dig x).length+(dig y).length) 0,K7 _,Li ..,Dg.zeros _,by rw [Qdk (fun x hx=>qZz hx)]; simp [dv],fun j v _ hv=>qZz (Y6 hv),rfl,rfl,rfl⟩ ?_
 rintro m L B ⟨i,o,hp0,hp1,hp2,hp3,hp4,hm,rfl,rfl⟩
 refine Qw tt rfl ?_
 have hxl:=X1 x
 have hyl:=X1 y
 by_cases h1:i<(dig x).length
 ·obtain ⟨d,hd⟩:∃ d,(dig x)[i]? = some d:=⟨_,Xv h1⟩
  have hd9:=U3 x d (Y6 hd)
  refine Qr tt 1 rfl ?_
  refine Xf tt 4 [] (decide_eq_true (by omega)) rfl rfl ?_
  refine Qk [0,1,6,16,17,18,5,7,8] rfl rfl ?_
  refine Zj (fun m L B=>∃ k c o2,o2.length=((dig x).length+(dig y).length)∧Dg o2∧dv o2+c*10000^(i+k)=dv ((dig x).take i)*y+10000^i*d*dv ((dig y).take k)∧c<10000∧((k≤(dig y).length∧(∀ j v,i+(dig y).length≤j→o2[j]? = some v→v=0))∨(k=(dig y).length+1∧c=0∧(∀ j v,i+(dig y).length+1≤j→o2[j]? = some v→v=0)))∧m=((dig y).length-k)*2+min c 1∧L=[(0,.one (dl ((dig x)))),(1,.one (dl ((dig y)))),(6,.one (.int .i64 (((i:Nat):Int)))),(16,.one (dl ((dig x)))),(17,.one (.int .i64 ((((dig x).length:Nat):Int)))),(18,.one (.int .i64 (((i:Nat):Int)))),(5,.one (.orow r1 1 0 (((dig x).length+(dig y).length)))),(7,.one (.int .i64 (((c:Nat):Int)))),(8,.one (.int .i64 (((k:Nat):Int))))]∧B=[.row r1 3 1 (Mn o2)]) (m:=_) ⟨0,0,o,hp1,hp2,by rw [hp3]; simp [dv],by decide,.inl ⟨K7 _,hp4⟩,rfl,rfl,rfl⟩ ?_
  rintro m L B ⟨k,c,o2,hq0,hq1,hq2,hq3,hq4,hm,rfl,rfl⟩
  refine Qw tt rfl ?_
  by_cases h2:k<(dig y).length
  ·obtain ⟨e,he⟩:∃ e,(dig y)[k]? = some e:=⟨_,Xv h2⟩
   have he9:=U3 y e (Y6 he)
   have hde:d*e≤9999*9999:=qXr (by omega) (by omega)
   obtain ⟨v,hoi⟩:∃ v,o2[i+k]? = some v:=⟨_,Xv (by omega)⟩
   have hv9:=hq1 v (Y6 hoi)
   refine Qr tt 2 rfl ?_
   refine Qf tt 2 [] (Qj (m:=((dig y)).length) Jl rfl (Ze _) rfl) rfl ?_
   refine Qf tt 0 [] (Qh rfl rfl (decide_eq_true (by omega)) rfl) rfl ?_
   refine Qf tt 0 [] (Qh rfl rfl (decide_eq_true (by omega)) rfl) rfl ?_
   refine Qf tt 0 [] (Zp rfl (decide_eq_true (by omega)) rfl rfl) rfl ?_
   refine Xf tt 3 [] (rfl) rfl rfl ?_
   refine Qf tt 0 [] (Q6 (r:=((i+k:Nat):Int)) rfl rfl (Qm (by omega) (by omega)) rfl) rfl ?_
   refine Qf tt 0 [] (Zr (i+k) Jl Js rfl rfl (rfl) (by omega) rfl) rfl ?_
   refine Qf tt 1 [] (Yo 0 Lw Js rfl rfl (by rw [Vy]; exact Qg hoi) rfl rfl rfl) rfl ?_
   refine Qf tt 3 [] (Q6 (r:=((v+c:Nat):Int)) rfl rfl (Qm (by omega) (by omega)) rfl) rfl ?_
   refine Qf tt 1 [] (Qj (m:=((dig y)).length) Jl rfl (Ze _) rfl) rfl ?_
   refine Xf tt 0 [] (decide_eq_true (by omega)) rfl rfl ?_
   refine Qx 10 Qp rfl rfl rfl ?_
   refine Qr tt 3 rfl ?_
   refine kd (Qi (i) Jl Js rfl rfl (rfl) (Qg hd) rfl rfl) rfl ?_
   refine Qr tt 3 rfl ?_
   refine kd (Qi (k) Jl Js rfl rfl (rfl) (Qg he) rfl rfl) rfl ?_
   refine Qr tt 1 rfl ?_
   refine kd (Qbo (r:=((d*e:Nat):Int)) rfl rfl (Qm (qYj d e).symm (by omega)) rfl) rfl ?_
   refine Qw tt rfl ?_
   refine Qf tt 4 [] (Q6 (r:=(((v+c)+(d*e):Nat):Int)) rfl rfl (Qm (by omega) (by omega)) rfl) rfl ?_
   refine Qf tt 1 [] (Q6 (r:=((i+k:Nat):Int)) rfl rfl (Qm (by omega) (by omega)) rfl) rfl ?_
   refine Qf tt 0 [] (G9 (r:=((((v+c)+(d*e)) % 10000:Nat):Int)) rfl rfl (by decide) (rfl) rfl) rfl ?_
   refine kw (Zr (i+k) Jl Js rfl rfl (rfl) (by omega) rfl) ?_
   refine Zn (Ju (ls2:=Mn (o2.set (i+k) (((v+c)+(d*e)) % 10000))) 0 Js rfl rfl rfl rfl rfl rfl (by rw [Vy]; exact Qg hoi) rfl (by rw [Vy]; exact W4 (fun (x:Nat)=>[LV.int .i64 (x:Int)]) _ _ _) (ko ?_))
   refine Qr tt 1 rfl ?_
   refine Qf tt 2 [] (Hb (r:=((((v+c)+(d*e)) / 10000:Nat):Int)) rfl rfl (by decide) (by rw [show Int.tdiv ((((v+c)+(d*e)):Nat):Int) 10000=((((v+c)+(d*e)) / 10000:Nat):Int) from rfl]; exact Xz (by omega) (by omega)) rfl) rfl ?_
   refine Qf tt 1 [] (Q6 (r:=((k+1:Nat):Int)) rfl rfl (Qm (by omega) (by omega)) rfl) rfl ?_
   refine Qk [0,1,6,16,17,18,5,7,8] rfl rfl ?_
   refine Q7 ?_
   refine ⟨_,?_,k+1,((v+c)+(d*e)) / 10000,o2.set (i+k) (((v+c)+(d*e)) % 10000),by rw [H8]; exact hq0,hq1.set (Se _ (by decide)),by rw [←qVa i k 1,Ni]; have:=O3 hq2 (Qrg hoi (u:=((v+c)+(d*e)) % 10000)) (s:=d*e) (q:=((v+c)+(d*e)) / 10000) (by rw [Q1a]); rw [this,Kw he,qJo]; grind,by omega,.inl ⟨by omega,fun j w hj hw=>(by rcases hq4 with ⟨_,h⟩ | ⟨_,_,h⟩ <;> (rw [qXv (by omega)] at hw; exact h j w (by omega) hw))⟩,rfl,rfl,rfl⟩
   omega
  by_cases h3:0<c
  refine Qw tt rfl ?_
  ·have hk:k=(dig y).length:=by omega
   have hz:∀ j v,i+(dig y).length≤j→o2[j]? = some v→v=0:=by
    rcases hq4 with ⟨_,h⟩ | ⟨_,h,_⟩
    ·exact h
    ·omega
   obtain ⟨v,hoi⟩:∃ v,o2[i+k]? = some v:=⟨_,Xv (by omega)⟩
   have hv9:=hq1 v (Y6 hoi)
   have hv0:v=0:=hz (i+k) v (by omega) hoi
   refine Qr tt 2 rfl ?_
   refine Qf tt 2 [] (Qj (m:=((dig y)).length) Jl rfl (Ze _) rfl) rfl ?_
   refine Qf tt 0 [] ((Qd rfl rfl (decide_eq_false (by omega)) (Qv tt rfl rfl))) rfl ?_
   refine Qf tt 0 [] ((Qd rfl rfl (decide_eq_false (by omega)) (Qv tt rfl rfl))) rfl ?_
   refine Qf tt 0 [] (Zu rfl (decide_eq_false (by omega)) rfl rfl) rfl ?_
   refine Xf tt 3 [] (decide_eq_true (by omega)) rfl rfl ?_
   refine Qf tt 0 [] (Q6 (r:=((i+k:Nat):Int)) rfl rfl (Qm (by omega) (by omega)) rfl) rfl ?_
   refine Qf tt 0 [] (Zr (i+k) Jl Js rfl rfl (rfl) (by omega) rfl) rfl ?_
   refine Qf tt 1 [] (Yo 0 Lw Js rfl rfl (by rw [Vy]; exact Qg hoi) rfl rfl rfl) rfl ?_
   refine Qf tt 3 [] (Q6 (r:=((v+c:Nat):Int)) rfl rfl (Qm (by omega) (by omega)) rfl) rfl ?_
   refine Qf tt 1 [] (Qj (m:=((dig y)).length) Jl rfl (Ze _) rfl) rfl ?_
   refine Xb tt 3 [] (decide_eq_false (by omega)) rfl rfl ?_
   refine Qf tt 1 [] (Q6 (r:=((i+k:Nat):Int)) rfl rfl (Qm (by omega) (by omega)) rfl) rfl ?_
   refine Qf tt 0 [] (G9 (r:=(((v+c) % 10000:Nat):Int)) rfl rfl (by decide) (rfl) rfl) rfl ?_
   refine kw (Zr (i+k) Jl Js rfl rfl (rfl) (by omega) rfl) ?_
   refine Zn (Ju (ls2:=Mn (o2.set (i+k) ((v+c) % 10000))) 0 Js rfl rfl rfl rfl rfl rfl (by rw [Vy]; exact Qg hoi) rfl (by rw [Vy]; exact W4 (fun (x:Nat)=>[LV.int .i64 (x:Int)]) _ _ _) (ko ?_))
   refine Qr tt 1 rfl ?_
   refine Qf tt 2 [] (Hb (r:=(((v+c) / 10000:Nat):Int)) rfl rfl (by decide) (by rw [show Int.tdiv (((v+c):Nat):Int) 10000=(((v+c) / 10000:Nat):Int) from rfl]; exact Xz (by omega) (by omega)) rfl) rfl ?_
   refine Qf tt 1 [] (Q6 (r:=((k+1:Nat):Int)) rfl rfl (Qm (by omega) (by omega)) rfl) rfl ?_
   refine Qk [0,1,6,16,17,18,5,7,8] rfl rfl ?_
   refine Q7 ?_
   refine ⟨_,?_,k+1,(v+c) / 10000,o2.set (i+k) ((v+c) % 10000),by rw [H8]; exact hq0,hq1.set (Se _ (by decide)),by rw [←qVa i k 1,Ni]; have:=O3 hq2 (Qrg hoi (u:=(v+c) % 10000)) (s:=0) (q:=(v+c) / 10000) (by rw [Q1a]; rfl); rw [this,qJb,Mr,Th (by omega)],by omega,.inr ⟨by omega,by omega,fun j w hj hw=>(by rw [qXv (by omega)] at hw; exact hz j w (by omega) hw)⟩,rfl,rfl,rfl⟩
   omega
  skip
  refine Qr tt 2 rfl ?_
  refine Qf tt 2 [] (Qj (m:=((dig y)).length) Jl rfl (Ze _) rfl) rfl ?_
  refine Qf tt 0 [] ((Qd rfl rfl (decide_eq_false (by omega)) (Qv tt rfl rfl))) rfl ?_
  refine Qf tt 0 [] ((Qd rfl rfl (decide_eq_false (by omega)) (Qv tt rfl rfl))) rfl ?_
  refine Qf tt 0 [] (Zu rfl (decide_eq_false (by omega)) rfl rfl) rfl ?_
  refine Xb tt 0 [] (decide_eq_false (by omega)) rfl rfl ?_
  refine Qf tt 1 [] (Q6 (r:=((i+1:Nat):Int)) rfl rfl (Qm (by omega) (by omega)) rfl) rfl ?_
  refine Qk [0,1,5,16,17,18] rfl rfl ?_
  refine Q7 ?_
  refine ⟨_,?_,i+1,o2,by omega,hq0,hq1,by rw [Kw hd,qJv]; have h:=hq2; rw [show c=0 by omega,Vh (l:=dig y) (i:=k) (by omega),Vk] at h; rw [qYs,Mr] at h; exact h,by
   intro j v hj hv
   rcases hq4 with ⟨_,h⟩ | ⟨_,_,h⟩
   ·exact h j v (by omega) hv
   ·exact h j v (by omega) hv,rfl,rfl,rfl⟩
  omega
 have hv:dv o=x*y:=by rw [hp3,Vh (by omega),Vk]
 refine Qr tt 1 rfl ?_
 refine Xb tt 1 [] (decide_eq_false (by omega)) rfl rfl ?_
 refine X5 (fun _ k_=>Xm 0 [64] rfl (Zg rfl) (by rw [Zw]; omega) (by rw [Zw]; omega) rfl (Qo k_)) rfl ?_
 refine Qw tt rfl ?_
 refine kl tt 1 [] qGb rfl rfl rfl (Hj (hp2) (by omega)) rfl rfl ?_
 exact Xq tt [] rfl (by rw [hv])
theorem Qk0 {x y:Nat}:Sj x y≤0↔x≤y:=by
 unfold Sj
 constructor
 ·intro h; split at h
  ·omega
  split at h <;> omega
 intro h; split
 ·omega
 split <;> omega
theorem Qod {R y lo:Nat} (h1:y*lo≤R) (h2:R<y*(lo+1)):R / y=lo∧R % y=R-y*lo:=by
 have hy:0<y:=by
  rcases H9 y with h | h
  ·subst h; simp at h2
  ·exact h
 have e:R / y=lo:=Nat.div_eq_of_lt_le (by rw [qXp]; exact h1) (by rw [qXp]; exact h2)
 refine ⟨e,?_⟩
 have:=qXl R y
 rw [e] at this; omega
theorem Qrk {R y:Nat} (h:R<y*10000):sz R≤sz y+14:=by
 refine K5.2 (qZv h ?_)
 have:=M3 y
 rw [qJo]
 have e:(2:Nat)^14=16384:=by decide
 rw [e]; exact qXr (by omega) (by decide)
theorem Qbr (y:Nat):sz (y*10000)≤sz y+14:=by
 refine K5.2 ?_
 have:=M3 y
 rw [qJo]
 have e:(2:Nat)^14=16384:=by decide
 rw [e]; omega
theorem Io {x y:Nat} (hx:sz x≤90000000) (hy:sz y≤90000000) (hy0:0<y):Q8 Tryz.prog 259 [.one (dl ((dig x))),.one (dl ((dig y)))] (.tup [.one (dl ((dig ((x / y))))),.one (dl ((dig ((x % y)))))]):=by
 refine X2 tt 0 [] Tryz.func259 Tryz.ntmps259 rfl rfl rfl ?_
 have hxl:=X1 x
 have hyl:=X1 y
 skip
 refine Qr tt 3 rfl ?_
 refine kw (Qj (m:=((dig x)).length) Jl rfl (Ze _) rfl) ?_
 refine Zn (G3 ((dig x).length) Jl qWy rfl Js qWs rfl rfl rfl rfl rfl rfl (rfl) (rfl) (by omega) rfl fun r1=>ko ?_)
 refine X5 (fun _ k_=>Jx 0 rfl (show _=Mn (List.replicate (dig x).length 0) by simp) (Qo k_)) rfl ?_
 refine Qr tt 3 rfl ?_
 refine Qf tt 0 [] (Qj (m:=((dig x)).length) Jl rfl (Ze _) rfl) rfl ?_
 refine Qf tt 1 [] (Xs (r:=((((dig x).length:Nat):Int)-1)) rfl rfl (Qm rfl (by omega)) rfl) rfl ?_
 refine X5 (fun _ k_=>Nb 7 rfl (Qo k_)) rfl ?_
 refine X5 (fun _ k_=>Jf 7 (y:=.one (nd 0)) rfl (by rw [Qle]) (Qo k_)) rfl ?_
 refine Qk [0,1,6,7,8] rfl rfl ?_
 refine Zj (fun m L B=>∃ j rr o,j≤(dig x).length∧o.length=(dig x).length∧Dg o∧dv (o.drop j)=dv ((dig x).drop j) / y∧rr=dv ((dig x).drop j) % y∧m=j∧L=[(0,.one (dl ((dig x)))),(1,.one (dl ((dig y)))),(6,.one (.orow r1 1 0 ((dig x).length))),(7,.one (dl ((dig rr)))),(8,.one (.int .i64 ((((j:Nat):Int)-1))))]∧B=[.row r1 3 1 (Mn o)]) (m:=_) ⟨(dig x).length,0,List.replicate (dig x).length 0,Ji _,Li ..,Dg.zeros _,by rw [Aa (by simp),Aa (Ji _)]; simp [dv],by rw [Aa (Ji _)]; simp [dv],rfl,rfl,rfl⟩ ?_
 rintro m L B ⟨j,rr,o,hp0,hp1,hp2,hp3,hp4,hm,rfl,rfl⟩
 refine Qw tt rfl ?_
 have hxl:=X1 x
 have hyl:=X1 y
 by_cases h1:0<j
 ·obtain ⟨d,hd⟩:∃ d,(dig x)[j-1]? = some d:=⟨_,Xv (by omega)⟩
  obtain ⟨v,hoi⟩:∃ v,o[j-1]? = some v:=⟨_,Xv (by omega)⟩
  have hd9:=U3 x d (Y6 hd)
  have hdd:=Bw hd
  rw [show j-1+1=j by omega] at hdd
  obtain ⟨hq1,hq2,hq3⟩:=Qgm (V:=dv ((dig x).drop j)) (kd:=y) (d:=d) hy0
  rw [←hdd,←hp4] at hq1 hq2
  rw [←hp4] at hq3
  have hq3:=hq3 hd9
  have hrr:rr<y:=by rw [hp4]; exact Se _ hy0
  have hrl:(dig rr).length≤(dig y).length:=S6 (by omega)
  have hR:rr*10000+d<y*10000:=by omega
  have hRs:=Qrk hR
  have hdv:Dg ([d]++dig rr):=by
   intro u hu
   rcases Yz.1 hu with hu | hu
   ·rw [qZw.1 hu]; exact hd9
   ·exact U3 rr u hu
  refine Qr tt 2 rfl ?_
  refine Xf tt 2 [] (decide_eq_true (by omega)) rfl rfl ?_
  refine Qf tt 1 [] (Qi (j-1) Jl Js rfl rfl (by omega) (Qg hd) rfl rfl) rfl ?_
  refine Zn (Ox Jl Js qWs rfl rfl rfl rfl rfl rfl rfl rfl rfl rfl fun r2=>ko ?_)
  refine Qr tt 1 rfl ?_
  refine Zn (Zo (ls2:=(Mn ([d]++dig rr))) (m2:=1+(dig rr).length) 0 Jl Jl qWy rfl rfl Js qWs rfl rfl rfl rfl rfl rfl rfl (by simp) (Vu _ (fun _=>rfl)) (F1 _ (fun _=>rfl)) (by rw [Zw]; omega) (by simp) (by rw [Zw]) fun r3=>ko ?_)
  refine X5 (fun _ k_=>Xm 0 [28] rfl (Zg rfl) (by simp; omega) (by simp; omega) rfl (Qo k_)) rfl ?_
  refine Qw tt rfl ?_
  refine kw (Zs qGb rfl rfl rfl rfl (Hj (hdv) (by simp; omega)) rfl) ?_
  refine X5 (fun _ k_=>Jf 29 (y:=.one (dl ((dig ((rr*10000+d)))))) rfl (by rw [show dv ([d]++dig rr)=rr*10000+d from by simp [dv,Vk]; omega]) (Qo k_)) rfl ?_
  refine Qr tt 3 rfl ?_
  refine Qk [0,1,6,7,8,9,10] rfl rfl ?_
  refine Zj (fun m L B=>∃ lo hi,lo≤hi∧hi≤9999∧y*lo≤(rr*10000+d)∧(rr*10000+d)<y*(hi+1)∧m=hi-lo∧L=[(0,.one (dl ((dig x)))),(1,.one (dl ((dig y)))),(6,.one (.orow r1 1 0 ((dig x).length))),(7,.one (dl ((dig ((rr*10000+d)))))),(8,.one (.int .i64 ((((j:Nat):Int)-1)))),(9,.one (.int .i64 (((lo:Nat):Int)))),(10,.one (.int .i64 (((hi:Nat):Int))))]∧B=[.row r1 3 1 (Mn o)]) (m:=_) ⟨0,9999,K7 _,Ji _,by omega,by omega,rfl,rfl,rfl⟩ ?_
  rintro m L B ⟨lo,hi,hb0,hb1,hb2,hb3,hm,rfl,rfl⟩
  refine Qw tt rfl ?_
  by_cases h2:lo<hi
  ·by_cases h3:y*((lo+hi+1) / 2)+0≤(rr*10000+d)
   refine Qw tt rfl ?_
   ·skip
    refine Qr tt 3 rfl ?_
    refine Xf tt 2 [] (decide_eq_true (by omega)) rfl rfl ?_
    refine Qf tt 0 [] (Q6 (r:=((lo+hi:Nat):Int)) rfl rfl (Qm (by omega) (by omega)) rfl) rfl ?_
    refine Qf tt 0 [] (Q6 (r:=(((lo+hi)+1:Nat):Int)) rfl rfl (Qm (by omega) (by omega)) rfl) rfl ?_
    refine Qf tt 3 [] (Hb (r:=((((lo+hi+1) / 2):Nat):Int)) rfl rfl (by decide) (by rw [show Int.tdiv ((((lo+hi)+1:Nat)):Int) 2=((((lo+hi+1) / 2):Nat):Int) from rfl]; exact Xz (by omega) (by omega)) rfl) rfl ?_
    refine kl tt 1 [] qGm rfl rfl rfl (Ft (x:=y) (mu:=(((lo+hi+1) / 2))) (c0:=0) (by omega) (by omega) (by omega)) rfl rfl ?_
    refine kl tt 1 [] Tryz.func285 rfl rfl rfl (T1 (x:=((y*(((lo+hi+1) / 2))+0))) (y:=((rr*10000+d))) (Xa (Yb (show _≤y*10000 by have:=qXd y (show ((lo+hi+1) / 2)≤10000 by omega); omega)) (Xa (Qbr y) (by omega))) (by omega)) rfl rfl ?_
    refine Xf tt 2 [] (decide_eq_true (Qk0.2 h3)) rfl rfl ?_
    refine Qk [0,1,6,7,8,9,10] rfl rfl ?_
    refine Q7 ?_
    refine ⟨_,?_,((lo+hi+1) / 2),hi,by omega,by omega,by omega,hb3,rfl,rfl,rfl⟩
    omega
   skip
   refine Qr tt 3 rfl ?_
   refine Xf tt 2 [] (decide_eq_true (by omega)) rfl rfl ?_
   refine Qf tt 0 [] (Q6 (r:=((lo+hi:Nat):Int)) rfl rfl (Qm (by omega) (by omega)) rfl) rfl ?_
   refine Qf tt 0 [] (Q6 (r:=(((lo+hi)+1:Nat):Int)) rfl rfl (Qm (by omega) (by omega)) rfl) rfl ?_
   refine Qf tt 3 [] (Hb (r:=((((lo+hi+1) / 2):Nat):Int)) rfl rfl (by decide) (by rw [show Int.tdiv ((((lo+hi)+1:Nat)):Int) 2=((((lo+hi+1) / 2):Nat):Int) from rfl]; exact Xz (by omega) (by omega)) rfl) rfl ?_
   refine kl tt 1 [] qGm rfl rfl rfl (Ft (x:=y) (mu:=(((lo+hi+1) / 2))) (c0:=0) (by omega) (by omega) (by omega)) rfl rfl ?_
   refine kl tt 1 [] Tryz.func285 rfl rfl rfl (T1 (x:=((y*(((lo+hi+1) / 2))+0))) (y:=((rr*10000+d))) (Xa (Yb (show _≤y*10000 by have:=qXd y (show ((lo+hi+1) / 2)≤10000 by omega); omega)) (Xa (Qbr y) (by omega))) (by omega)) rfl rfl ?_
   refine Xb tt 1 [] (decide_eq_false (fun h=>h3 (Qk0.1 h))) rfl rfl ?_
   refine Qf tt 1 [] (Xs (r:=((((lo+hi+1) / 2)-1:Nat):Int)) rfl rfl (Qm (by omega) (by omega)) rfl) rfl ?_
   refine Qk [0,1,6,7,8,9,10] rfl rfl ?_
   refine Q7 ?_
   refine ⟨_,?_,lo,((lo+hi+1) / 2)-1,by omega,by omega,hb2,by rw [show ((lo+hi+1) / 2)-1+1=((lo+hi+1) / 2) by omega]; omega,rfl,rfl,rfl⟩
   omega
  have hlh:lo=hi:=by omega
  have hfd:=Qod hb2 (by rw [hlh]; exact hb3)
  refine Qr tt 3 rfl ?_
  refine Xb tt 3 [] (decide_eq_false (by omega)) rfl rfl ?_
  refine kw (Zr (j-1) Jl Js rfl rfl (by omega) (by omega) rfl) ?_
  refine Zn (Ju (ls2:=Mn (o.set (j-1) lo)) 0 Js rfl rfl rfl rfl rfl rfl (by rw [Vy]; exact Qg hoi) rfl (by rw [Vy]; exact W4 (fun (x:Nat)=>[LV.int .i64 (x:Int)]) _ _ _) (ko ?_))
  refine Qr tt 3 rfl ?_
  refine kl tt 0 [] qGm rfl rfl rfl (Ft (x:=y) (mu:=lo) (c0:=0) (by omega) (by omega) (by omega)) rfl rfl ?_
  refine kl tt 2 [] Tryz.func286 rfl rfl rfl (Ns (x:=((rr*10000+d))) (y:=((y*lo+0))) (by omega) (Xa (Yb (by omega)) (by omega:sz (rr*10000+d)≤200000000)) (by omega)) rfl rfl ?_
  refine Qf tt 1 [] (Xs (r:=(((j-1:Nat):Int)-1)) rfl rfl (Qm (by omega) (by omega)) rfl) rfl ?_
  refine Qk [0,1,6,7,8] rfl rfl ?_
  refine Q7 ?_
  refine ⟨_,?_,j-1,_,o.set (j-1) lo,by omega,by rw [H8]; exact hp1,hp2.set (by omega),by rw [D0 (by omega),show j-1+1=j by omega]; simp only [dv]; rw [hp3,hq1,hfd.1],by rw [hq2,hfd.2]; rfl,rfl,rfl,rfl⟩
  omega
 have hj:j=0:=by omega
 subst hj
 refine Qr tt 2 rfl ?_
 refine Xb tt 1 [] (decide_eq_false (by omega)) rfl rfl ?_
 refine X5 (fun _ k_=>Xm 0 [56] rfl (Zg rfl) (by rw [Zw]; omega) (by rw [Zw]; omega) rfl (Qo k_)) rfl ?_
 refine Qw tt rfl ?_
 refine kl tt 3 [] qGb rfl rfl rfl (Hj (hp2) (by omega)) rfl rfl ?_
 exact kr2 tt [] rfl (by rw [show dv o=x / y from by have h:=hp3; rw [qXf,qXf,Vk] at h; exact h,show rr=x % y from by have h:=hp4; rw [qXf,Vk] at h; exact h])
end Orr

namespace Orr
open Go Go.Proofs
abbrev ri (z:Int):List LV:=[nd z.natAbs,sg z]
theorem Qv6 (b:Bool) (x:Nat):ri (Q4 b x)=[nd x,.bool (b && decide (0<x))]:=by
 unfold ri sg; rw [Rq,Nk]
theorem Qs8 (x:Nat):decide ((0:Int)<(((dig x).length:Nat):Int))=decide (0<x):=by
 rw [decide_eq_decide]
 have := @Ah x
 omega
theorem Qry (x:Nat):ri ((x:Nat):Int)=[nd x,.bool false]:=by
 unfold ri sg
 rw [qKd,decide_eq_false (by omega)]
theorem Qfm {z:Int} (hz:Xh z≤100000000):Q8 Tryz.prog 263 [.one (mg z)] (.one (nd z.natAbs)):=by
 have h:=Qgj (l:=Kb z.natAbs) (R0 _).1 (Xa (Qck _) (Xa hz (by decide))) (by rw [Hk]; exact hz)
 rwa [Hk] at h
theorem Qs7 {a b:Int} (h:(decide (a<0) == decide (b<0))=true):Q4 (decide (a<0)) (a.natAbs+b.natAbs)=a+b:=by
 unfold Q4
 by_cases h1:a<0 <;> by_cases h2:b<0 <;> simp [h1,h2] at h ⊢ <;> omega
theorem Qs0 {a b:Int} (h:¬(decide (a<0) == decide (b<0))=true) (hl:b.natAbs≤a.natAbs):Q4 (decide (a<0)) (a.natAbs-b.natAbs)=a+b:=by
 unfold Q4
 by_cases h1:a<0 <;> by_cases h2:b<0 <;> simp [h1,h2] at h ⊢ <;> omega
theorem Qpp {a b:Int} (h:¬(decide (a<0) == decide (b<0))=true) (hl:¬b.natAbs≤a.natAbs):Q4 (decide (b<0)) (b.natAbs-a.natAbs)=a+b:=by
 unfold Q4
 by_cases h1:a<0 <;> by_cases h2:b<0 <;> simp [h1,h2] at h ⊢ <;> omega
theorem R3 (a:Int):(∃ m:Nat,a=(m:Int))∨∃ m:Nat,a=-(m:Int)∧0<m:=by
 rcases Int.lt_or_le a 0 with h | h
 ·exact .inr ⟨a.natAbs,by omega,by omega⟩
 exact .inl ⟨a.natAbs,by omega⟩
theorem Qus (a b:Int):Q4 (!(decide (a<0) == decide (b<0))) (a.natAbs*b.natAbs)=a*b:=by
 rcases R3 a with ⟨m,rfl⟩ | ⟨m,rfl,hm⟩ <;> rcases R3 b with ⟨n,rfl⟩ | ⟨n,rfl,hn⟩
 ·simp [Q4,show ¬((m:Int)<0) by omega,show ¬((n:Int)<0) by omega]
 ·simp [Q4,show ¬((m:Int)<0) by omega,show (-(n:Int)<0) by omega,hn,Int.mul_neg]
 ·simp [Q4,show (-(m:Int)<0) by omega,show ¬((n:Int)<0) by omega,hm,qVe]
 simp [Q4,show (-(m:Int)<0) by omega,show (-(n:Int)<0) by omega,hm,hn,Int.neg_mul_neg]
theorem Qua {a b:Int} (h:a % b=0):Q4 (!(decide (a<0) == decide (b<0))) (a.natAbs / b.natAbs)=a / b:=by
 by_cases hb:b=0
 ·subst hb; simp [Q4]
 obtain ⟨c,rfl⟩:=qYz h
 rw [qXx _ hb,qKh,Nat.mul_div_cancel_left _ (by omega)]
 rcases R3 b with ⟨n,rfl⟩ | ⟨n,rfl,hn⟩ <;> rcases R3 c with ⟨m,rfl⟩ | ⟨m,rfl,hm⟩
 ·have:¬((n:Int)*(m:Int)<0):=by rw [←qYj]; omega
  simp [Q4,this,show ¬((n:Int)<0) by omega]
 ·have h1:0<n*m:=qVt (by omega) hm
  have:((n:Int)*-(m:Int)<0):=by rw [Int.mul_neg,←qYj]; omega
  simp only [this,show ¬((n:Int)<0) by omega]
  simp [Q4]
 ·by_cases h0:m=0
  ·subst h0; simp [Q4]
  have h1:0<n*m:=qVt hn (by omega)
  have:(-(n:Int)*(m:Int)<0):=by rw [qVe,←qYj]; omega
  simp only [this,show (-(n:Int)<0) by omega]
  simp [Q4]
 have:¬(-(n:Int)*-(m:Int)<0):=by rw [Int.neg_mul_neg,←qYj]; omega
 simp only [this,show (-(n:Int)<0) by omega]
 simp [Q4]
theorem Qqv (a b:Int):Int.sign (a-b)=Ng a b:=by
 unfold Ng
 rcases qYc a b with h | h | h
 ·rw [if_pos h,qJk (by omega)]
 ·rw [if_neg (by omega),if_neg (by omega),h,Int.sub_self]; rfl
 rw [if_neg (by omega),if_pos h,qJw (by omega)]
theorem Qk7 {x y:Nat}:0≤Sj x y↔y≤x:=by
 unfold Sj
 constructor
 ·intro h; split at h
  ·omega
  omega
 intro h; split
 ·omega
 split <;> omega
theorem Ky {x:Nat} {b:Bool} (hx:sz x≤1000000000):Q8 Tryz.prog 179 [.one (dl ((dig x))),.one (.bool b)] (.agg [dl ((dig ((Q4 b x)).natAbs)),sg ((Q4 b x))]):=by
 refine X2 tt 0 [] qUw Tryz.ntmps179 rfl rfl rfl ?_
 have hxl:=X1 x
 rcases b with _ | _
 ·skip
  refine Qw tt rfl ?_
  refine Zn (Ql Cq rfl rfl fun g1=>ko ?_)
  refine Qr tt 3 rfl ?_
  refine Qf tt 0 [] (Qh rfl rfl (rfl) rfl) rfl ?_
  refine Qf tt 0 [] (Qh rfl rfl (rfl) rfl) rfl ?_
  refine Qf tt 0 [] (Qh rfl rfl (rfl) rfl) rfl ?_
  refine Qf tt 2 [0] (Zu rfl (rfl) rfl rfl) rfl ?_
  exact Xq tt [0] rfl (congrArg AV.agg (Qv6 false x).symm)
 skip
 refine Qw tt rfl ?_
 refine Zn (Ql Cq rfl rfl fun g2=>ko ?_)
 refine Qr tt 3 rfl ?_
 refine Qf tt 0 [] ((Qd rfl rfl (rfl) (Qv tt rfl rfl))) rfl ?_
 refine Qf tt 0 [] ((Qd rfl rfl (rfl) (Qj (m:=((dig x)).length) Jl rfl (Ze _) rfl))) rfl ?_
 refine Qf tt 0 [] ((Qd rfl rfl (rfl) (Qv tt rfl rfl))) rfl ?_
 refine Qf tt 2 [0] (Zp rfl (rfl) rfl rfl) rfl ?_
 exact Xq tt [0] rfl (by rw [Qs8]; exact congrArg AV.agg (Qv6 true x).symm)
theorem N4 {z:Int} (hz:Xh z≤100000000):Q8 Tryz.prog 184 [.agg [sg z,mg z]] (.agg [dl ((dig (z).natAbs)),sg z]):=by
 refine X2 tt 1 [] Tryz.func184 Tryz.ntmps184 rfl rfl rfl ?_
 refine Zn (Ql Cq rfl rfl fun g1=>ko ?_)
 refine Qw tt rfl ?_
 refine Qx 5 Qp rfl rfl rfl ?_
 refine Qr tt 2 rfl ?_
 refine Ye tt 2 [] Tryz.func263 rfl rfl rfl (Qfm (z:=z) (hz)) rfl rfl ?_
 refine Qw tt rfl ?_
 refine kl tt 1 [0] qUw rfl rfl rfl (Ky (x:=(((z).natAbs))) (b:=(decide (z<0))) (Xa hz (by decide))) rfl rfl ?_
 exact Xq tt [0] rfl (by rw [show Q4 (decide (z<0)) z.natAbs=z from by unfold Q4; by_cases h:z<0 <;> simp [h] <;> omega])
theorem Te {z:Int} (hz:Xh z≤100000000):Q8 Tryz.prog 155 [.agg [dl ((dig (z).natAbs)),sg z]] (.agg [sg z,mg z]):=by
 refine X2 tt 1 [] qGc Tryz.ntmps155 rfl rfl rfl ?_
 refine Zn (Ql Ko rfl rfl fun g1=>ko ?_)
 refine Qw tt rfl ?_
 refine Qx 5 Qp rfl rfl rfl ?_
 refine Qr tt 4 rfl ?_
 refine Ye tt 2 [0] Tryz.func230 rfl rfl rfl (Qnr (x:=(z).natAbs) (hz)) rfl rfl ?_
 exact Xq tt [0] rfl (rfl)
theorem Yt {n:Int} (hn:-4000000000000000000≤n∧n≤4000000000000000000):Q8 Tryz.prog 104 [.one (.int .i64 n)] (.agg [dl ((dig (n).natAbs)),sg n]):=by
 refine X2 tt 0 [] qWv Tryz.ntmps104 rfl rfl rfl ?_
 rcases R3 n with ⟨mm,rfl⟩ | ⟨mm,rfl,hm0⟩
 ·have hms:sz mm≤62:=K5.2 (qJn (show mm<4611686018427387904 by omega) (by decide))
  have hml:=X1 mm
  refine Qw tt rfl ?_
  refine Zn (Ql Cq rfl rfl fun g1=>ko ?_)
  refine Qr tt 2 rfl ?_
  refine Xb tt 4 [] (decide_eq_false (by omega)) rfl rfl ?_
  refine Xb tt 1 [] (decide_eq_false (by omega)) rfl rfl ?_
  refine X5 (fun _ k_=>X9 [4] 3 1 rfl (Zg rfl) rfl (Qo k_)) rfl ?_
  refine Qk [0,2,3,4] rfl rfl ?_
  refine Zj (fun m L B=>∃ y r o,dig mm=o++dig y∧y≤mm∧o.length≤(dig mm).length∧m=y∧L=[(0,.one (.int .i64 (((y:Nat):Int)))),(2,.one (.ow g1 0)),(3,.one (.bool ((decide ((((mm:Nat):Int))<0))))),(4,.one (.orow r 1 0 o.length))]∧B=[.row r 3 1 (Mn o),.blk g1 32 [.nils,.bool false]]) (m:=_) ⟨mm,none,[],rfl,Ji _,K7 _,rfl,rfl,rfl⟩ ?_
  rintro m L B ⟨y,r,o,hp0,hp1,hp2,hm,rfl,rfl⟩
  refine Qw tt rfl ?_
  by_cases h1:y=0
  ·rw [h1,J8,qXh] at hp0
   refine Qr tt 2 rfl ?_
   refine Xb tt 2 [] (decide_eq_false (by omega)) rfl rfl ?_
   refine X5 (fun _ k_=>Xm 0 [23] rfl (Zg rfl) (by rw [Zw]) (by rw [Zw]; omega) rfl (Qo k_)) rfl ?_
   refine X5 (fun _ k_=>Jf 23 (y:=.one (dl ((dig mm)))) rfl (by rw [hp0]; rfl) (Qo k_)) rfl ?_
   refine Qw tt rfl ?_
   refine kl tt 1 [0] qUw rfl rfl rfl (Ky (x:=mm) (b:=(decide ((((mm:Nat):Int))<0))) (Xa hms (by decide))) rfl rfl ?_
   exact Xq tt [0] rfl (by rw [show Q4 (decide (((mm:Nat):Int)<0)) mm=((mm:Nat):Int) from by unfold Q4; rw [decide_eq_false (by omega)]; rfl])
  have hdy:=Tu h1
  refine Qr tt 2 rfl ?_
  refine Xf tt 2 [] (decide_eq_true (by omega)) rfl rfl ?_
  refine Qf tt 1 [] (G9 (r:=((y % 10000:Nat):Int)) rfl rfl (by decide) (rfl) rfl) rfl ?_
  refine Zn (Zo (ls2:=(Mn (o++[y % 10000]))) (m2:=(o++[y % 10000]).length) 0 Jl Jl qWy rfl rfl Js qWs rfl rfl rfl rfl rfl rfl rfl (by rw [Zw]; exact Ji _) (Yh rfl) (Ya rfl) (by show _+1<_; omega) (by rw [Vh (by rw [Zw]; exact Ji _)]; exact Ri _ _) (by rw [H7]; rfl) fun r2=>ko ?_)
  refine Qr tt 2 rfl ?_
  refine Qf tt 1 [] (Hb (r:=((y / 10000:Nat):Int)) rfl rfl (by decide) (by rw [show Int.tdiv ((y:Nat):Int) 10000=((y / 10000:Nat):Int) from rfl]; exact Xz (by omega) (by omega)) rfl) rfl ?_
  refine Qk [0,2,3,4] rfl rfl ?_
  refine Q7 ?_
  refine ⟨_,?_,y / 10000,r2,o++[y % 10000],by rw [hp0,hdy,N1]; rfl,by omega,by rw [hp0,hdy]; simp,rfl,rfl,rfl⟩
  omega
 have hms:sz mm≤62:=K5.2 (qJn (show mm<4611686018427387904 by omega) (by decide))
 have hml:=X1 mm
 refine Qw tt rfl ?_
 refine Zn (Ql Cq rfl rfl fun g3=>ko ?_)
 refine Qr tt 2 rfl ?_
 refine Xb tt 4 [] (decide_eq_false (by omega)) rfl rfl ?_
 refine Xf tt 1 [] (decide_eq_true (by omega)) rfl rfl ?_
 refine kw (Qvv (r:=(-((-((mm:Nat):Int))))) rfl (Qm rfl (by omega)) rfl) ?_
 refine X5 (fun _ k_=>Jf 13 (y:=.one (.int .i64 ((mm:Nat):Int))) rfl (by rw [Int.neg_neg]) (Qo k_)) rfl ?_
 refine Qr tt 2 rfl ?_
 refine X5 (fun _ k_=>X9 [4] 3 1 rfl (Zg rfl) rfl (Qo k_)) rfl ?_
 refine Qk [0,2,3,4] rfl rfl ?_
 refine Zj (fun m L B=>∃ y r o,dig mm=o++dig y∧y≤mm∧o.length≤(dig mm).length∧m=y∧L=[(0,.one (.int .i64 (((y:Nat):Int)))),(2,.one (.ow g3 0)),(3,.one (.bool ((decide (((-((mm:Nat):Int)))<0))))),(4,.one (.orow r 1 0 o.length))]∧B=[.row r 3 1 (Mn o),.blk g3 32 [.nils,.bool false]]) (m:=_) ⟨mm,none,[],rfl,Ji _,K7 _,rfl,rfl,rfl⟩ ?_
 rintro m L B ⟨y,r,o,hp0,hp1,hp2,hm,rfl,rfl⟩
 refine Qw tt rfl ?_
 by_cases h1:y=0
 ·rw [h1,J8,qXh] at hp0
  refine Qr tt 2 rfl ?_
  refine Xb tt 2 [] (decide_eq_false (by omega)) rfl rfl ?_
  refine X5 (fun _ k_=>Xm 0 [23] rfl (Zg rfl) (by rw [Zw]) (by rw [Zw]; omega) rfl (Qo k_)) rfl ?_
  refine X5 (fun _ k_=>Jf 23 (y:=.one (dl ((dig mm)))) rfl (by rw [hp0]; rfl) (Qo k_)) rfl ?_
  refine Qw tt rfl ?_
  refine kl tt 1 [0] qUw rfl rfl rfl (Ky (x:=mm) (b:=(decide (((-((mm:Nat):Int)))<0))) (Xa hms (by decide))) rfl rfl ?_
  exact Xq tt [0] rfl (by rw [show Q4 (decide (-((mm:Nat):Int)<0)) mm=-((mm:Nat):Int) from by unfold Q4; rw [decide_eq_true (by omega)]; rfl])
 have hdy:=Tu h1
 refine Qr tt 2 rfl ?_
 refine Xf tt 2 [] (decide_eq_true (by omega)) rfl rfl ?_
 refine Qf tt 1 [] (G9 (r:=((y % 10000:Nat):Int)) rfl rfl (by decide) (rfl) rfl) rfl ?_
 refine Zn (Zo (ls2:=(Mn (o++[y % 10000]))) (m2:=(o++[y % 10000]).length) 0 Jl Jl qWy rfl rfl Js qWs rfl rfl rfl rfl rfl rfl rfl (by rw [Zw]; exact Ji _) (Yh rfl) (Ya rfl) (by show _+1<_; omega) (by rw [Vh (by rw [Zw]; exact Ji _)]; exact Ri _ _) (by rw [H7]; rfl) fun r4=>ko ?_)
 refine Qr tt 2 rfl ?_
 refine Qf tt 1 [] (Hb (r:=((y / 10000:Nat):Int)) rfl rfl (by decide) (by rw [show Int.tdiv ((y:Nat):Int) 10000=((y / 10000:Nat):Int) from rfl]; exact Xz (by omega) (by omega)) rfl) rfl ?_
 refine Qk [0,2,3,4] rfl rfl ?_
 refine Q7 ?_
 refine ⟨_,?_,y / 10000,r4,o++[y % 10000],by rw [hp0,hdy,N1]; rfl,by omega,by rw [hp0,hdy]; simp,rfl,rfl,rfl⟩
 omega
theorem V7 {z:Int} (hz:Xh z≤200000000):Q8 Tryz.prog 176 [.agg [dl ((dig (z).natAbs)),sg z]] (.one (.bool ((decide (z=0))))):=by
 refine X2 tt 0 [] qUt Tryz.ntmps176 rfl rfl rfl ?_
 have hzl:=X1 z.natAbs
 have hzn:(dig z.natAbs).length=0↔z.natAbs=0:=Ah
 have hzz:sz z.natAbs≤200000000:=hz
 skip
 refine Qr tt 4 rfl ?_
 refine Qf tt 2 [] (Qj (m:=((dig (z).natAbs)).length) Jl rfl (Ze _) rfl) rfl ?_
 exact Xq tt [] rfl (by rw [show decide ((((dig z.natAbs).length:Nat):Int)=0)=decide (z=0) from by rw [decide_eq_decide]; omega])
theorem Oo {z:Int} (hz:Xh z≤200000000):Q8 Tryz.prog 225 [.agg [dl ((dig (z).natAbs)),sg z]] (.one (.int .i64 ((Int.sign z)))):=by
 refine X2 tt 0 [] Tryz.func225 Tryz.ntmps225 rfl rfl rfl ?_
 have hzl:=X1 z.natAbs
 have hzn:(dig z.natAbs).length=0↔z.natAbs=0:=Ah
 have hzz:sz z.natAbs≤200000000:=hz
 rcases qYc z 0 with h | h | h
 ·skip
  refine Qr tt 4 rfl ?_
  refine Qf tt 2 [] (Qj (m:=((dig (z).natAbs)).length) Jl rfl (Ze _) rfl) rfl ?_
  refine Xb tt 3 [] (decide_eq_false (by omega)) rfl rfl ?_
  refine Xf tt 1 [] (decide_eq_true h) rfl rfl ?_
  exact Xq tt [] rfl (by rw [qJk h])
 ·skip
  refine Qr tt 4 rfl ?_
  refine Qf tt 2 [] (Qj (m:=((dig (z).natAbs)).length) Jl rfl (Ze _) rfl) rfl ?_
  refine Xf tt 1 [] (decide_eq_true (by omega)) rfl rfl ?_
  exact Xq tt [] rfl (by rw [h]; rfl)
 skip
 refine Qr tt 4 rfl ?_
 refine Qf tt 2 [] (Qj (m:=((dig (z).natAbs)).length) Jl rfl (Ze _) rfl) rfl ?_
 refine Xb tt 3 [] (decide_eq_false (by omega)) rfl rfl ?_
 refine Xb tt 1 [] (decide_eq_false (by omega)) rfl rfl ?_
 exact Xq tt [] rfl (by rw [qJw h])
theorem W2 {z:Int} (hz:Xh z≤200000000):Q8 Tryz.prog 175 [.agg [dl ((dig (z).natAbs)),sg z]] (.agg [dl ((dig ((-z)).natAbs)),sg ((-z))]):=by
 refine X2 tt 1 [] qUx Tryz.ntmps175 rfl rfl rfl ?_
 refine Zn (Ql Cq rfl rfl fun g1=>ko ?_)
 refine Qr tt 5 rfl ?_
 refine kl tt 1 [0] qUw rfl rfl rfl (Ky (x:=((z).natAbs)) (b:=(!(decide (z<0)))) (Xa hz (by decide))) rfl rfl ?_
 exact Xq tt [0] rfl (by rw [show Q4 (!(decide (z<0))) z.natAbs=-z from by unfold Q4; by_cases h:z<0 <;> simp [h] <;> omega])
set_option maxRecDepth 20000 in
theorem Dk {a b:Int} (ha:Xh a≤200000000) (hb:Xh b≤200000000):Q8 Tryz.prog 227 [.agg [dl ((dig (a).natAbs)),sg a],.agg [dl ((dig (b).natAbs)),sg b]] (.agg [dl ((dig ((a+b)).natAbs)),sg ((a+b))]):=by
 refine X2 tt 0 [] Tryz.func227 Tryz.ntmps227 rfl rfl rfl ?_
 have ha2:sz a.natAbs≤200000000:=ha
 have hb2:sz b.natAbs≤200000000:=hb
 by_cases hs:(decide (a<0) == decide (b<0))=true
 ·skip
  refine Qr tt 2 rfl ?_
  refine Zn (Ql Cq rfl rfl fun g1=>ko ?_)
  refine Qr tt 5 rfl ?_
  refine Xf tt 0 [] (hs) rfl rfl ?_
  refine Qx 7 Qp rfl rfl rfl ?_
  refine Qr tt 4 rfl ?_
  refine Ye tt 2 [] Tryz.func284 rfl rfl rfl (Qiy (x:=(a).natAbs) (y:=(b).natAbs) (ha) (hb)) rfl rfl ?_
  refine Qw tt rfl ?_
  refine kl tt 1 [0] qUw rfl rfl rfl (Ky (x:=((((a).natAbs+(b).natAbs)))) (b:=(decide (a<0))) (Xa (Yb (show _≤a.natAbs+b.natAbs by omega)) (Xa (Qfp _ _) (by omega)))) rfl rfl ?_
  exact Xq tt [0] rfl (by rw [Qs7 hs])
 by_cases hl:b.natAbs≤a.natAbs
 refine Qw tt rfl ?_
 ·skip
  refine Qr tt 2 rfl ?_
  refine Zn (Ql Cq rfl rfl fun g2=>ko ?_)
  refine Qr tt 5 rfl ?_
  refine Xb tt 4 [] (by simpa using hs) rfl rfl ?_
  refine kl tt 1 [] Tryz.func285 rfl rfl rfl (T1 (x:=(a).natAbs) (y:=(b).natAbs) (ha) (hb)) rfl rfl ?_
  refine Xf tt 0 [] (decide_eq_true (Qk7.2 hl)) rfl rfl ?_
  refine Qx 7 Qp rfl rfl rfl ?_
  refine Qr tt 4 rfl ?_
  refine Ye tt 2 [] Tryz.func286 rfl rfl rfl (Ns (x:=(a).natAbs) (y:=(b).natAbs) (ha) (hb) (hl)) rfl rfl ?_
  refine Qw tt rfl ?_
  refine kl tt 1 [0] qUw rfl rfl rfl (Ky (x:=((((a).natAbs-(b).natAbs)))) (b:=(decide (a<0))) (Xa (Yb (show _≤a.natAbs+b.natAbs by omega)) (Xa (Qfp _ _) (by omega)))) rfl rfl ?_
  exact Xq tt [0] rfl (by rw [Qs0 hs hl])
 skip
 refine Qr tt 2 rfl ?_
 refine Zn (Ql Cq rfl rfl fun g3=>ko ?_)
 refine Qr tt 5 rfl ?_
 refine Xb tt 4 [] (by simpa using hs) rfl rfl ?_
 refine kl tt 1 [] Tryz.func285 rfl rfl rfl (T1 (x:=(a).natAbs) (y:=(b).natAbs) (ha) (hb)) rfl rfl ?_
 refine Xb tt 0 [] (decide_eq_false (fun h=>hl (Qk7.1 h))) rfl rfl ?_
 refine Qx 7 Qp rfl rfl rfl ?_
 refine Qr tt 4 rfl ?_
 refine Ye tt 2 [] Tryz.func286 rfl rfl rfl (Ns (x:=(b).natAbs) (y:=(a).natAbs) (hb) (ha) (by omega)) rfl rfl ?_
 refine Qw tt rfl ?_
 refine kl tt 1 [0] qUw rfl rfl rfl (Ky (x:=((((b).natAbs-(a).natAbs)))) (b:=(decide (b<0))) (Xa (Yb (show _≤a.natAbs+b.natAbs by omega)) (Xa (Qfp _ _) (by omega)))) rfl rfl ?_
 exact Xq tt [0] rfl (by rw [Qpp hs hl])
theorem Qbu {a b:Int} (ha:Xh a≤200000000) (hb:Xh b≤200000000):Q8 Tryz.prog 262 [.agg [dl ((dig (a).natAbs)),sg a],.agg [dl ((dig (b).natAbs)),sg b]] (.agg [dl ((dig ((a-b)).natAbs)),sg ((a-b))]):=by
 refine X2 tt 2 [] Tryz.func262 Tryz.ntmps262 rfl rfl rfl ?_
 refine Zn (Ql Cq rfl rfl fun g1=>ko ?_)
 refine Qw tt rfl ?_
 refine Qx 3 Qp rfl rfl rfl ?_
 refine Qr tt 2 rfl ?_
 refine Ye tt 0 [] qUx rfl rfl rfl (W2 (hb)) rfl rfl ?_
 refine kl tt 1 [0] Tryz.func227 rfl rfl rfl (Dk (a:=a) (b:=((-b))) (ha) (by rw [Xk]; exact hb)) rfl rfl ?_
 exact Xq tt [0] rfl (by rw [Int.sub_eq_add_neg])
set_option maxRecDepth 20000 in
theorem Jt {a b:Int} (ha:Xh a≤200000000) (hb:Xh b≤200000000):Q8 Tryz.prog 228 [.agg [dl ((dig (a).natAbs)),sg a],.agg [dl ((dig (b).natAbs)),sg b]] (.agg [dl ((dig ((a*b)).natAbs)),sg ((a*b))]):=by
 refine X2 tt 2 [] qWu Tryz.ntmps228 rfl rfl rfl ?_
 refine Zn (Ql Cq rfl rfl fun g1=>ko ?_)
 refine Qw tt rfl ?_
 refine Qx 10 Qp rfl rfl rfl ?_
 refine Qr tt 4 rfl ?_
 refine Ye tt 5 [] Tryz.func287 rfl rfl rfl (Qiz (x:=(a).natAbs) (y:=(b).natAbs) (ha) (hb)) rfl rfl ?_
 refine Qw tt rfl ?_
 refine kl tt 1 [0] qUw rfl rfl rfl (Ky (x:=((((a).natAbs*(b).natAbs)))) (b:=(!((decide (a<0)) == (decide (b<0))))) (Xa (Qit _ _) (by have ha2:sz a.natAbs≤200000000:=ha; have hb2:sz b.natAbs≤200000000:=hb; omega))) rfl rfl ?_
 exact Xq tt [0] rfl (by rw [Qus])
theorem Qmw {a b:Int} (ha:Xh a≤190000000) (hb:Xh b≤190000000):Q8 Tryz.prog 281 [.agg [dl ((dig (a).natAbs)),sg a],.agg [dl ((dig (b).natAbs)),sg b]] (.one (.int .i64 ((Ng a b)))):=by
 refine X2 tt 5 [] Tryz.func281 Tryz.ntmps281 rfl rfl rfl ?_
 refine kl tt 0 [] Tryz.func262 rfl rfl rfl (Qbu (a:=a) (b:=b) (Xa ha (by decide)) (Xa hb (by decide))) rfl rfl ?_
 refine kl tt 1 [] Tryz.func225 rfl rfl rfl (Oo (Xa (Ex _ _) (by omega))) rfl rfl ?_
 exact Xq tt [] rfl (by rw [Qqv])
theorem F8 {a b:Int} (ha:Xh a≤90000000) (hb:Xh b≤90000000):Q8 Tryz.prog 177 [.agg [dl ((dig (a).natAbs)),sg a],.agg [dl ((dig (b).natAbs)),sg b]] (.agg [dl ((dig (((Int.gcd a b:Nat):Int)).natAbs)),sg (((Int.gcd a b:Nat):Int))]):=by
 refine X2 tt 2 [] qFs Tryz.ntmps177 rfl rfl rfl ?_
 refine Zn (Ql Cq rfl rfl fun g1=>ko ?_)
 refine Qw tt rfl ?_
 refine Qx 5 Qp rfl rfl rfl ?_
 refine Qr tt 5 rfl ?_
 refine Qr tt 1 rfl ?_
 refine Qk [4,5,6] rfl rfl ?_
 refine Zj (fun m L B=>∃ x y,Nat.gcd x y=Int.gcd a b∧sz x≤90000000∧sz y≤90000000∧m=y∧L=[(4,.one (.ow g1 0)),(5,.one (dl ((dig x)))),(6,.one (dl ((dig y))))]∧B=[.blk g1 32 [.nils,.bool false]]) (m:=_) ⟨_,_,rfl,ha,hb,rfl,rfl,rfl⟩ ?_
 rintro m L B ⟨x,y,hp0,hp1,hp2,hm,rfl,rfl⟩
 refine Qw tt rfl ?_
 have hyn:(dig y).length=0↔y=0:=Ah
 have hyl:=X1 y
 by_cases h1:y=0
 ·skip
  refine Qr tt 1 rfl ?_
  refine Qf tt 1 [] (Qj (m:=((dig y)).length) Jl rfl (Ze _) rfl) rfl ?_
  refine Xb tt 3 [0] (decide_eq_false (by omega)) rfl rfl ?_
  exact Xq tt [0] rfl (by rw [show Int.gcd a b=x from by rw [←hp0,h1,Nat.gcd_zero_right]]; exact congrArg AV.agg (Qry x).symm)
 have hlt:=Se x (show 0<y by omega)
 refine Qr tt 1 rfl ?_
 refine Qf tt 1 [] (Qj (m:=((dig y)).length) Jl rfl (Ze _) rfl) rfl ?_
 refine Xf tt 2 [] (decide_eq_true (by omega)) rfl rfl ?_
 refine kl tt 9 [] Tryz.func259 rfl rfl rfl (Io (x:=x) (y:=y) (hp1) (hp2) (by omega)) rfl rfl ?_
 refine Qk [4,5,6] rfl rfl ?_
 refine Q7 ?_
 refine ⟨_,?_,_,_,by rw [←hp0,qVp x y,Nat.gcd_rec y x,qVp],hp2,Xa (Yb (by omega)) hp2,rfl,rfl,rfl⟩
 omega
theorem K9 {a b:Int} (ha:Xh a≤90000000) (hb:Xh b≤90000000) (h0:b≠0) (hd:a % b=0):Q8 Tryz.prog 178 [.agg [dl ((dig (a).natAbs)),sg a],.agg [dl ((dig (b).natAbs)),sg b]] (.agg [dl ((dig ((a / b)).natAbs)),sg ((a / b))]):=by
 refine X2 tt 2 [] qUq Tryz.ntmps178 rfl rfl rfl ?_
 refine Zn (Ql Cq rfl rfl fun g1=>ko ?_)
 refine Qr tt 4 rfl ?_
 refine kl tt 11 [] Tryz.func259 rfl rfl rfl (Io (x:=(a).natAbs) (y:=(b).natAbs) (ha) (hb) (by omega)) rfl rfl ?_
 refine kl tt 1 [0] qUw rfl rfl rfl (Ky (x:=((((a).natAbs / (b).natAbs)))) (b:=(!((decide (a<0)) == (decide (b<0))))) (Xa (Yb (qYk _ _)) (Xa ha (by decide)))) rfl rfl ?_
 exact Xq tt [0] rfl (by rw [Qua hd])
theorem Vr:dig 1=[1]:=by rw [Tu (by decide)]; rw [show 1 / 10000=0 from rfl,J8]
theorem Ia {x e:Nat} (h:(dig x).length=1) (he:(dig x)[0]? = some e):x=e:=by
 rcases hd:dig x with _ | ⟨u,l⟩
 ·rw [hd] at h; cases h
 rcases l with _ | ⟨w,l⟩
 ·rw [hd] at he; simp at he
  have:=Vk x
  rw [hd] at this; simp [dv] at this; omega
 rw [hd] at h; simp at h
abbrev rr (q:Rat):List LV:=ri q.num++ri (q.den:Int)
theorem Oc {a b:Int} (hb:0<b):ri (a / ((Int.gcd a b:Nat):Int))++ri (b / ((Int.gcd a b:Nat):Int))=rr (Rat.divInt a b):=by
 obtain ⟨h1,h2⟩:=Aj (n:=a) hb
 rw [Fw,Int.gcd_comm] at h1 h2
 rw [h1,h2]
theorem Qkz (a:Int):ri a++ri 1=rr (Rat.divInt a 1):=by
 have h:=Oc (a:=a) (b:=1) (by decide)
 rw [show ((Int.gcd a 1:Nat):Int)=1 by simp] at h
 simpa using h
theorem Mj {a b:Int} (hb:b≠0) (ha2:Xh a≤90000000) (hb2:Xh b≤90000000):Xh ((Int.gcd a b:Nat):Int)≤90000000∧((Int.gcd a b:Nat):Int)≠0∧a % ((Int.gcd a b:Nat):Int)=0∧b % ((Int.gcd a b:Nat):Int)=0:=by
 have h1:=Qk3 (n:=a) hb hb2
 have h2:=Qg1 (n:=a) hb
 have h3:=I1 a b
 have h4:=Qad a b
 rw [Fw,Int.gcd_comm] at h1 h2 h3 h4
 exact ⟨h1,by omega,h3,h4⟩
theorem Dj {a b:Int} (h:b<0):Q3 a b=Rat.divInt (-a) (-b):=by
 unfold Q3; rw [if_neg (by omega)]
 exact (Rat.neg_divInt_neg a b).symm
theorem Dm {a b:Int} (h:0<b):Q3 a b=Rat.divInt a b:=by
 unfold Q3; rw [if_neg (by omega)]
theorem Qtv {a:Int}:Q3 a 0=Rat.divInt a 1:=rfl
theorem F6 {a b:Int} (ha:Xh a≤90000000) (hb:Xh b≤90000000):Q8 Tryz.prog 103 [.agg [dl ((dig (a).natAbs)),sg a],.agg [dl ((dig (b).natAbs)),sg b]] (.agg [dl ((dig (((Q3 a b)).num).natAbs)),sg (((Q3 a b)).num),dl ((dig ((((Q3 a b)).den:Int)).natAbs)),sg ((((Q3 a b)).den:Int))]):=by
 refine X2 tt 0 [] qUj Tryz.ntmps103 rfl rfl rfl ?_
 have hal:=X1 a.natAbs
 have hbl:=X1 b.natAbs
 have ha2:sz a.natAbs≤90000000:=ha
 have hb2:sz b.natAbs≤90000000:=hb
 have hbl2:=X1 (-b).natAbs
 have hb3:sz (-b).natAbs≤90000000:=by rw [Int.natAbs_neg]; exact hb
 rcases qYc b 0 with hs | hs | hs
 ·skip
  refine Qw tt rfl ?_
  by_cases hl1:(dig ((-b)).natAbs).length=1
  ·obtain ⟨e,he⟩:∃ e,(dig ((-b)).natAbs)[0]? = some e:=⟨_,Xv (by omega)⟩
   have hde:=Ia hl1 he
   by_cases he1:e=1
   refine Qw tt rfl ?_
   ·skip
    refine Qw tt rfl ?_
    refine Zn (Y0 rfl rfl rfl fun g1=>ko ?_)
    refine Zn (Y0 rfl rfl rfl fun g2=>ko ?_)
    refine Zn (Ql Sl rfl rfl fun g3=>ko ?_)
    refine Xd tt 1 [1] rfl ?_
    refine kl tt 0 [] qUt rfl rfl rfl (V7 (Xa hb (by decide))) rfl rfl ?_
    refine Xb tt 2 [1] (decide_eq_false (by omega)) rfl rfl ?_
    refine Xf tt 0 [] (decide_eq_true (by omega)) rfl rfl ?_
    refine Qx 3 Qp rfl rfl rfl ?_
    refine Xd tt 1 [2] rfl ?_
    refine Ye tt 1 [1] qUx rfl rfl rfl (W2 (Xa ha (by decide))) rfl rfl ?_
    refine Qw tt rfl ?_
    refine kl tt 4 [2,1,1] qUx rfl rfl rfl (W2 (Xa hb (by decide))) rfl rfl ?_
    refine Qf tt 2 [] (Qj (m:=((dig ((-b)).natAbs)).length) Jl rfl (Ze _) rfl) rfl ?_
    refine Qf tt 0 [] ((Qd rfl rfl (decide_eq_true (by omega)) (Qv tt rfl rfl))) rfl ?_
    refine Qf tt 0 [] ((Qd rfl rfl (decide_eq_true (by omega)) (F0 tt 1 rfl rfl))) rfl ?_
    refine Qf tt 0 [] ((Qd rfl rfl (decide_eq_true (by omega)) (Qi (0) Jl Js rfl rfl (rfl) (Qg he) rfl rfl))) rfl ?_
    refine Qf tt 0 [] ((Qd rfl rfl (decide_eq_true (by omega)) (Qv tt rfl rfl))) rfl ?_
    refine Qf tt 0 [] ((Qd rfl rfl (decide_eq_true (by omega)) (Qv tt rfl rfl))) rfl ?_
    refine Qf tt 0 [] (Zp rfl (decide_eq_true (by omega)) rfl rfl) rfl ?_
    refine Xf tt 4 [2,1,0] (decide_eq_true (by omega)) rfl rfl ?_
    exact Xq tt [0] rfl (by rw [Dj (by omega),show (-b)=1 by omega]; exact congrArg AV.agg (Qkz _))
   have hgf:=Mj (a:=(-a)) (b:=(-b)) (by omega) (by first | exact ha | (rw [Xk]; exact ha)) (by first | exact hb | (rw [Xk]; exact hb))
   refine Qw tt rfl ?_
   refine Zn (Y0 rfl rfl rfl fun g4=>ko ?_)
   refine Zn (Y0 rfl rfl rfl fun g5=>ko ?_)
   refine Zn (Ql Sl rfl rfl fun g6=>ko ?_)
   refine Xd tt 1 [1] rfl ?_
   refine kl tt 0 [] qUt rfl rfl rfl (V7 (Xa hb (by decide))) rfl rfl ?_
   refine Xb tt 2 [1] (decide_eq_false (by omega)) rfl rfl ?_
   refine Xf tt 0 [] (decide_eq_true (by omega)) rfl rfl ?_
   refine Qx 3 Qp rfl rfl rfl ?_
   refine Xd tt 1 [2] rfl ?_
   refine Ye tt 1 [1] qUx rfl rfl rfl (W2 (Xa ha (by decide))) rfl rfl ?_
   refine Qw tt rfl ?_
   refine kl tt 4 [2,1,1] qUx rfl rfl rfl (W2 (Xa hb (by decide))) rfl rfl ?_
   refine Qf tt 2 [] (Qj (m:=((dig ((-b)).natAbs)).length) Jl rfl (Ze _) rfl) rfl ?_
   refine Qf tt 0 [] ((Qd rfl rfl (decide_eq_true (by omega)) (Qv tt rfl rfl))) rfl ?_
   refine Qf tt 0 [] ((Qd rfl rfl (decide_eq_true (by omega)) (F0 tt 1 rfl rfl))) rfl ?_
   refine Qf tt 0 [] ((Qd rfl rfl (decide_eq_true (by omega)) (Qi (0) Jl Js rfl rfl (rfl) (Qg he) rfl rfl))) rfl ?_
   refine Qf tt 0 [] ((Qd rfl rfl (decide_eq_true (by omega)) (Qv tt rfl rfl))) rfl ?_
   refine Qf tt 0 [] ((Qd rfl rfl (decide_eq_true (by omega)) (Qv tt rfl rfl))) rfl ?_
   refine Qf tt 0 [] (Zp rfl (decide_eq_true (by omega)) rfl rfl) rfl ?_
   refine Xb tt 2 [2,1] (decide_eq_false (by omega)) rfl rfl ?_
   refine kw (Zs qFs rfl rfl rfl rfl (F8 (a:=((-a))) (b:=((-b))) (by first | exact ha | (rw [Xk]; exact ha)) (by first | exact hb | (rw [Xk]; exact hb))) rfl) ?_
   refine Zn (Ql Cq rfl rfl fun g7=>ko ?_)
   refine Xd tt 1 [0] rfl ?_
   refine Qx 5 Qp rfl rfl rfl ?_
   refine Xd tt 2 [3,0] rfl ?_
   refine Ye tt 2 [2,0] qUq rfl rfl rfl (K9 (a:=((-a))) (b:=(((Int.gcd ((-a)) ((-b)):Nat):Int))) (by first | exact ha | (rw [Xk]; exact ha)) (hgf.1) (hgf.2.1) (hgf.2.2.1)) rfl rfl ?_
   refine Qw tt rfl ?_
   refine kl tt 2 [1] qUq rfl rfl rfl (K9 (a:=((-b))) (b:=(((Int.gcd ((-a)) ((-b)):Nat):Int))) (by first | exact hb | (rw [Xk]; exact hb)) (hgf.1) (hgf.2.1) (hgf.2.2.2)) rfl rfl ?_
   exact Xq tt [1] rfl (by rw [Dj (by omega)]; exact congrArg AV.agg (Oc (by omega)))
  have hgf:=Mj (a:=(-a)) (b:=(-b)) (by omega) (by first | exact ha | (rw [Xk]; exact ha)) (by first | exact hb | (rw [Xk]; exact hb))
  refine Qw tt rfl ?_
  refine Zn (Y0 rfl rfl rfl fun g8=>ko ?_)
  refine Zn (Y0 rfl rfl rfl fun g9=>ko ?_)
  refine Zn (Ql Sl rfl rfl fun g10=>ko ?_)
  refine Xd tt 1 [1] rfl ?_
  refine kl tt 0 [] qUt rfl rfl rfl (V7 (Xa hb (by decide))) rfl rfl ?_
  refine Xb tt 2 [1] (decide_eq_false (by omega)) rfl rfl ?_
  refine Xf tt 0 [] (decide_eq_true (by omega)) rfl rfl ?_
  refine Qx 3 Qp rfl rfl rfl ?_
  refine Xd tt 1 [2] rfl ?_
  refine Ye tt 1 [1] qUx rfl rfl rfl (W2 (Xa ha (by decide))) rfl rfl ?_
  refine Qw tt rfl ?_
  refine kl tt 4 [2,1,1] qUx rfl rfl rfl (W2 (Xa hb (by decide))) rfl rfl ?_
  refine Qf tt 2 [] (Qj (m:=((dig ((-b)).natAbs)).length) Jl rfl (Ze _) rfl) rfl ?_
  refine Qf tt 0 [] (Qh rfl rfl (decide_eq_false (by omega)) rfl) rfl ?_
  refine Qf tt 0 [] (Qh rfl rfl (decide_eq_false (by omega)) rfl) rfl ?_
  refine Qf tt 0 [] (Qh rfl rfl (decide_eq_false (by omega)) rfl) rfl ?_
  refine Qf tt 0 [] (Qh rfl rfl (decide_eq_false (by omega)) rfl) rfl ?_
  refine Qf tt 0 [] (Qh rfl rfl (decide_eq_false (by omega)) rfl) rfl ?_
  refine Qf tt 0 [] (Zu rfl (decide_eq_false (by omega)) rfl rfl) rfl ?_
  refine Xb tt 2 [2,1] (rfl) rfl rfl ?_
  refine kw (Zs qFs rfl rfl rfl rfl (F8 (a:=((-a))) (b:=((-b))) (by first | exact ha | (rw [Xk]; exact ha)) (by first | exact hb | (rw [Xk]; exact hb))) rfl) ?_
  refine Zn (Ql Cq rfl rfl fun g11=>ko ?_)
  refine Xd tt 1 [0] rfl ?_
  refine Qx 5 Qp rfl rfl rfl ?_
  refine Xd tt 2 [3,0] rfl ?_
  refine Ye tt 2 [2,0] qUq rfl rfl rfl (K9 (a:=((-a))) (b:=(((Int.gcd ((-a)) ((-b)):Nat):Int))) (by first | exact ha | (rw [Xk]; exact ha)) (hgf.1) (hgf.2.1) (hgf.2.2.1)) rfl rfl ?_
  refine Qw tt rfl ?_
  refine kl tt 2 [1] qUq rfl rfl rfl (K9 (a:=((-b))) (b:=(((Int.gcd ((-a)) ((-b)):Nat):Int))) (by first | exact hb | (rw [Xk]; exact hb)) (hgf.1) (hgf.2.1) (hgf.2.2.2)) rfl rfl ?_
  exact Xq tt [1] rfl (by rw [Dj (by omega)]; exact congrArg AV.agg (Oc (by omega)))
 ·skip
  refine Qw tt rfl ?_
  refine Zn (Y0 rfl rfl rfl fun g12=>ko ?_)
  refine Zn (Y0 rfl rfl rfl fun g13=>ko ?_)
  refine Zn (Ql Sl rfl rfl fun g14=>ko ?_)
  refine Xd tt 1 [1] rfl ?_
  refine kl tt 0 [] qUt rfl rfl rfl (V7 (Xa hb (by decide))) rfl rfl ?_
  refine Xf tt 0 [] (decide_eq_true hs) rfl rfl ?_
  refine kl tt 3 [1,1] qWv rfl rfl rfl (Yt (n:=1) (by decide)) rfl rfl ?_
  refine Xb tt 2 [1] (decide_eq_false (by decide)) rfl rfl ?_
  refine Qf tt 2 [] (Qj (m:=((dig ((1:Int)).natAbs)).length) Jl rfl (Ze _) rfl) rfl ?_
  refine Qf tt 0 [] ((Qd rfl rfl (decide_eq_true (by rw [show (1:Int).natAbs=1 from rfl,Vr]; rfl)) (Qv tt rfl rfl))) rfl ?_
  refine Qf tt 0 [] ((Qd rfl rfl (decide_eq_true (by rw [show (1:Int).natAbs=1 from rfl,Vr]; rfl)) (F0 tt 1 rfl rfl))) rfl ?_
  refine Qf tt 0 [] ((Qd rfl rfl (decide_eq_true (by rw [show (1:Int).natAbs=1 from rfl,Vr]; rfl)) (Qi (0) Jl Js rfl rfl (rfl) (Qg (by rw [show (1:Int).natAbs=1 from rfl,Vr]; rfl)) rfl rfl))) rfl ?_
  refine Qf tt 0 [] ((Qd rfl rfl (decide_eq_true (by rw [show (1:Int).natAbs=1 from rfl,Vr]; rfl)) (Qv tt rfl rfl))) rfl ?_
  refine Qf tt 0 [] ((Qd rfl rfl (decide_eq_true (by rw [show (1:Int).natAbs=1 from rfl,Vr]; rfl)) (Qv tt rfl rfl))) rfl ?_
  refine Qf tt 0 [] (Zp rfl (decide_eq_true (by rw [show (1:Int).natAbs=1 from rfl,Vr]; rfl)) rfl rfl) rfl ?_
  refine Xf tt 4 [2,1,0] (rfl) rfl rfl ?_
  exact Xq tt [0] rfl (by rw [hs,Qtv]; exact congrArg AV.agg (Qkz _))
 skip
 refine Qw tt rfl ?_
 by_cases hl1:(dig (b).natAbs).length=1
 ·obtain ⟨e,he⟩:∃ e,(dig (b).natAbs)[0]? = some e:=⟨_,Xv (by omega)⟩
  have hde:=Ia hl1 he
  by_cases he1:e=1
  refine Qw tt rfl ?_
  ·skip
   refine Qw tt rfl ?_
   refine Zn (Y0 rfl rfl rfl fun g15=>ko ?_)
   refine Zn (Y0 rfl rfl rfl fun g16=>ko ?_)
   refine Zn (Ql Sl rfl rfl fun g17=>ko ?_)
   refine Xd tt 1 [1] rfl ?_
   refine kl tt 0 [] qUt rfl rfl rfl (V7 (Xa hb (by decide))) rfl rfl ?_
   refine Xb tt 2 [1] (decide_eq_false (by omega)) rfl rfl ?_
   refine Xb tt 2 [1] (decide_eq_false (by omega)) rfl rfl ?_
   refine Qf tt 2 [] (Qj (m:=((dig (b).natAbs)).length) Jl rfl (Ze _) rfl) rfl ?_
   refine Qf tt 0 [] ((Qd rfl rfl (decide_eq_true (by omega)) (Qv tt rfl rfl))) rfl ?_
   refine Qf tt 0 [] ((Qd rfl rfl (decide_eq_true (by omega)) (F0 tt 1 rfl rfl))) rfl ?_
   refine Qf tt 0 [] ((Qd rfl rfl (decide_eq_true (by omega)) (Qi (0) Jl Js rfl rfl (rfl) (Qg he) rfl rfl))) rfl ?_
   refine Qf tt 0 [] ((Qd rfl rfl (decide_eq_true (by omega)) (Qv tt rfl rfl))) rfl ?_
   refine Qf tt 0 [] ((Qd rfl rfl (decide_eq_true (by omega)) (Qv tt rfl rfl))) rfl ?_
   refine Qf tt 0 [] (Zp rfl (decide_eq_true (by omega)) rfl rfl) rfl ?_
   refine Xf tt 4 [2,1,0] (decide_eq_true (by omega)) rfl rfl ?_
   exact Xq tt [0] rfl (by rw [Dm (by omega),show b=1 by omega]; exact congrArg AV.agg (Qkz _))
  have hgf:=Mj (a:=a) (b:=b) (by omega) (by first | exact ha | (rw [Xk]; exact ha)) (by first | exact hb | (rw [Xk]; exact hb))
  refine Qw tt rfl ?_
  refine Zn (Y0 rfl rfl rfl fun g18=>ko ?_)
  refine Zn (Y0 rfl rfl rfl fun g19=>ko ?_)
  refine Zn (Ql Sl rfl rfl fun g20=>ko ?_)
  refine Xd tt 1 [1] rfl ?_
  refine kl tt 0 [] qUt rfl rfl rfl (V7 (Xa hb (by decide))) rfl rfl ?_
  refine Xb tt 2 [1] (decide_eq_false (by omega)) rfl rfl ?_
  refine Xb tt 2 [1] (decide_eq_false (by omega)) rfl rfl ?_
  refine Qf tt 2 [] (Qj (m:=((dig (b).natAbs)).length) Jl rfl (Ze _) rfl) rfl ?_
  refine Qf tt 0 [] ((Qd rfl rfl (decide_eq_true (by omega)) (Qv tt rfl rfl))) rfl ?_
  refine Qf tt 0 [] ((Qd rfl rfl (decide_eq_true (by omega)) (F0 tt 1 rfl rfl))) rfl ?_
  refine Qf tt 0 [] ((Qd rfl rfl (decide_eq_true (by omega)) (Qi (0) Jl Js rfl rfl (rfl) (Qg he) rfl rfl))) rfl ?_
  refine Qf tt 0 [] ((Qd rfl rfl (decide_eq_true (by omega)) (Qv tt rfl rfl))) rfl ?_
  refine Qf tt 0 [] ((Qd rfl rfl (decide_eq_true (by omega)) (Qv tt rfl rfl))) rfl ?_
  refine Qf tt 0 [] (Zp rfl (decide_eq_true (by omega)) rfl rfl) rfl ?_
  refine Xb tt 2 [2,1] (decide_eq_false (by omega)) rfl rfl ?_
  refine kw (Zs qFs rfl rfl rfl rfl (F8 (a:=a) (b:=b) (by first | exact ha | (rw [Xk]; exact ha)) (by first | exact hb | (rw [Xk]; exact hb))) rfl) ?_
  refine Zn (Ql Cq rfl rfl fun g21=>ko ?_)
  refine Xd tt 1 [0] rfl ?_
  refine Qx 5 Qp rfl rfl rfl ?_
  refine Xd tt 2 [3,0] rfl ?_
  refine Ye tt 2 [2,0] qUq rfl rfl rfl (K9 (a:=a) (b:=(((Int.gcd a b:Nat):Int))) (by first | exact ha | (rw [Xk]; exact ha)) (hgf.1) (hgf.2.1) (hgf.2.2.1)) rfl rfl ?_
  refine Qw tt rfl ?_
  refine kl tt 2 [1] qUq rfl rfl rfl (K9 (a:=b) (b:=(((Int.gcd a b:Nat):Int))) (by first | exact hb | (rw [Xk]; exact hb)) (hgf.1) (hgf.2.1) (hgf.2.2.2)) rfl rfl ?_
  exact Xq tt [1] rfl (by rw [Dm (by omega)]; exact congrArg AV.agg (Oc (by omega)))
 have hgf:=Mj (a:=a) (b:=b) (by omega) (by first | exact ha | (rw [Xk]; exact ha)) (by first | exact hb | (rw [Xk]; exact hb))
 refine Qw tt rfl ?_
 refine Zn (Y0 rfl rfl rfl fun g22=>ko ?_)
 refine Zn (Y0 rfl rfl rfl fun g23=>ko ?_)
 refine Zn (Ql Sl rfl rfl fun g24=>ko ?_)
 refine Xd tt 1 [1] rfl ?_
 refine kl tt 0 [] qUt rfl rfl rfl (V7 (Xa hb (by decide))) rfl rfl ?_
 refine Xb tt 2 [1] (decide_eq_false (by omega)) rfl rfl ?_
 refine Xb tt 2 [1] (decide_eq_false (by omega)) rfl rfl ?_
 refine Qf tt 2 [] (Qj (m:=((dig (b).natAbs)).length) Jl rfl (Ze _) rfl) rfl ?_
 refine Qf tt 0 [] (Qh rfl rfl (decide_eq_false (by omega)) rfl) rfl ?_
 refine Qf tt 0 [] (Qh rfl rfl (decide_eq_false (by omega)) rfl) rfl ?_
 refine Qf tt 0 [] (Qh rfl rfl (decide_eq_false (by omega)) rfl) rfl ?_
 refine Qf tt 0 [] (Qh rfl rfl (decide_eq_false (by omega)) rfl) rfl ?_
 refine Qf tt 0 [] (Qh rfl rfl (decide_eq_false (by omega)) rfl) rfl ?_
 refine Qf tt 0 [] (Zu rfl (decide_eq_false (by omega)) rfl rfl) rfl ?_
 refine Xb tt 2 [2,1] (rfl) rfl rfl ?_
 refine kw (Zs qFs rfl rfl rfl rfl (F8 (a:=a) (b:=b) (by first | exact ha | (rw [Xk]; exact ha)) (by first | exact hb | (rw [Xk]; exact hb))) rfl) ?_
 refine Zn (Ql Cq rfl rfl fun g25=>ko ?_)
 refine Xd tt 1 [0] rfl ?_
 refine Qx 5 Qp rfl rfl rfl ?_
 refine Xd tt 2 [3,0] rfl ?_
 refine Ye tt 2 [2,0] qUq rfl rfl rfl (K9 (a:=a) (b:=(((Int.gcd a b:Nat):Int))) (by first | exact ha | (rw [Xk]; exact ha)) (hgf.1) (hgf.2.1) (hgf.2.2.1)) rfl rfl ?_
 refine Qw tt rfl ?_
 refine kl tt 2 [1] qUq rfl rfl rfl (K9 (a:=b) (b:=(((Int.gcd a b:Nat):Int))) (by first | exact hb | (rw [Xk]; exact hb)) (hgf.1) (hgf.2.1) (hgf.2.2.2)) rfl rfl ?_
 exact Xq tt [1] rfl (by rw [Dm (by omega)]; exact congrArg AV.agg (Oc (by omega)))
end Orr

namespace Orr
open Go Go.Proofs
theorem Qby (a b:Rat):Q3 (a.num*(b.den:Int)+b.num*(a.den:Int)) ((a.den:Int)*(b.den:Int))=a+b:=by
 unfold Q3
 rw [if_neg (qJg (U6 a) (U6 b)),←Rat.divInt_add_divInt _ _ (U6 a) (U6 b),qXw,qXw]
theorem Qdf (a b:Rat):Q3 (a.num*b.num) ((a.den:Int)*(b.den:Int))=a*b:=by
 unfold Q3
 rw [if_neg (qJg (U6 a) (U6 b)),←Rat.divInt_mul_divInt,qXw,qXw]
theorem Qb5 {a b:Rat} (h:b≠0):Q3 (a.num*(b.den:Int)) ((a.den:Int)*b.num)=a / b:=by
 have hn:b.num≠0:=fun e=>h (Rat.num_eq_zero.1 e)
 unfold Q3
 rw [if_neg (qJg (U6 a) hn),←Rat.divInt_mul_divInt,qXw,qVu]
 congr 1
 conv=>rhs; rw [←qXw b,Rat.inv_divInt]
theorem Qwj {s:Nat} {a b:Rat} (ha:Qs s a) (hb:Qs s b):Qs (2*s+1) (a+b):=by
 rw [←Qby]
 unfold Q3
 rw [if_neg (qJg (U6 a) (U6 b))]
 refine Qs.divInt (Xa (C1 _ _) ?_) (Xa (Z2 _ _) (by have:=ha.2; have:=hb.2; omega)) (by omega)
 have h1:=Z2 a.num (b.den:Int)
 have h2:=Z2 b.num (a.den:Int)
 have:=ha.1; have:=ha.2; have:=hb.1; have:=hb.2
 omega
theorem Qor {a:Rat} (ha:Qs 100000000 a):Q8 Tryz.prog 83 [.agg [dl ((dig ((a).num).natAbs)),sg ((a).num),dl ((dig (((a).den:Int)).natAbs)),sg (((a).den:Int))]] (.agg [sg a.num,mg a.num,sg ((a.den:Int)),mg ((a.den:Int))]):=by
 refine X2 tt 1 [] Tryz.func83 Tryz.ntmps83 rfl rfl rfl ?_
 refine Zn (Ql qUp rfl rfl fun g1=>ko ?_)
 refine Qw tt rfl ?_
 refine Qx 5 Qp rfl rfl rfl ?_
 refine Qr tt 2 rfl ?_
 refine Ye tt 2 [] qGc rfl rfl rfl (Te (ha.1)) rfl rfl ?_
 refine Qw tt rfl ?_
 refine kl tt 2 [0] qGc rfl rfl rfl (Te (ha.2)) rfl rfl ?_
 exact Xq tt [0] rfl (rfl)
theorem P9 {n d:Int} (hn:-1000000000≤n∧n≤1000000000) (hd:-1000000000≤d∧d≤1000000000):Q8 Tryz.prog 139 [.one (.int .i64 n),.one (.int .i64 d)] (.agg [dl ((dig (((Q3 n d)).num).natAbs)),sg (((Q3 n d)).num),dl ((dig ((((Q3 n d)).den:Int)).natAbs)),sg ((((Q3 n d)).den:Int))]):=by
 refine X2 tt 0 [] qGd Tryz.ntmps139 rfl rfl rfl ?_
 have hns:Xh n≤30:=G7.2 (qJn (show n.natAbs<1073741824 by omega) (by decide))
 have hds:Xh d≤30:=G7.2 (qJn (show d.natAbs<1073741824 by omega) (by decide))
 skip
 refine Qw tt rfl ?_
 refine Zn (Ql Sl rfl rfl fun g1=>ko ?_)
 refine Qr tt 1 rfl ?_
 refine kl tt 1 [] qWv rfl rfl rfl (Yt (n:=n) (by omega)) rfl rfl ?_
 refine kl tt 0 [] qWv rfl rfl rfl (Yt (n:=d) (by omega)) rfl rfl ?_
 refine kl tt 1 [0] qUj rfl rfl rfl (F6 (a:=n) (b:=d) (by omega) (by omega)) rfl rfl ?_
 exact Xq tt [0] rfl (rfl)
theorem Qjq {a:Rat} (ha:Qs 100000000 a):Q8 Tryz.prog 102 [.agg [dl ((dig ((a).num).natAbs)),sg ((a).num),dl ((dig (((a).den:Int)).natAbs)),sg (((a).den:Int))]] (.agg [dl ((dig (((-a)).num).natAbs)),sg (((-a)).num),dl ((dig ((((-a)).den:Int)).natAbs)),sg ((((-a)).den:Int))]):=by
 refine X2 tt 1 [] Tryz.func102 Tryz.ntmps102 rfl rfl rfl ?_
 refine Zn (Ql Sl rfl rfl fun g1=>ko ?_)
 refine Qw tt rfl ?_
 refine Qx 5 Qp rfl rfl rfl ?_
 refine Qr tt 2 rfl ?_
 refine Ye tt 2 [] qUx rfl rfl rfl (W2 (Xa ha.1 (by decide))) rfl rfl ?_
 refine Xd tt 2 [0] rfl ?_
 exact Xq tt [0] rfl (rfl)
set_option maxRecDepth 20000 in
theorem Qaa {a b:Rat} (ha:Qs 20000000 a) (hb:Qs 20000000 b):Q8 Tryz.prog 187 [.agg [dl ((dig ((a).num).natAbs)),sg ((a).num),dl ((dig (((a).den:Int)).natAbs)),sg (((a).den:Int))],.agg [dl ((dig ((b).num).natAbs)),sg ((b).num),dl ((dig (((b).den:Int)).natAbs)),sg (((b).den:Int))]] (.agg [dl ((dig (((a+b)).num).natAbs)),sg (((a+b)).num),dl ((dig ((((a+b)).den:Int)).natAbs)),sg ((((a+b)).den:Int))]):=by
 refine X2 tt 2 [] Tryz.func187 Tryz.ntmps187 rfl rfl rfl ?_
 refine Zn (Ql Sl rfl rfl fun g1=>ko ?_)
 refine Qw tt rfl ?_
 refine Qx 15 Qp rfl rfl rfl ?_
 refine Qr tt 4 rfl ?_
 refine Ye tt 4 [] qWu rfl rfl rfl (Jt (a:=((a).num)) (b:=(((b).den:Int))) (by have:=ha.1; have:=ha.2; have:=hb.1; have:=hb.2; omega) (by have:=ha.1; have:=ha.2; have:=hb.1; have:=hb.2; omega)) rfl rfl ?_
 refine Ye tt 0 [] qWu rfl rfl rfl (Jt (a:=((b).num)) (b:=(((a).den:Int))) (by have:=ha.1; have:=ha.2; have:=hb.1; have:=hb.2; omega) (by have:=ha.1; have:=ha.2; have:=hb.1; have:=hb.2; omega)) rfl rfl ?_
 refine Ye tt 4 [] Tryz.func227 rfl rfl rfl (Dk (a:=((((a).num)*(((b).den:Int))))) (b:=((((b).num)*(((a).den:Int))))) (Xa (Z2 _ _) (by have:=ha.1; have:=ha.2; have:=hb.1; have:=hb.2; omega)) (Xa (Z2 _ _) (by have:=ha.1; have:=ha.2; have:=hb.1; have:=hb.2; omega))) rfl rfl ?_
 refine Qw tt rfl ?_
 refine kl tt 0 [] qWu rfl rfl rfl (Jt (a:=(((a).den:Int))) (b:=(((b).den:Int))) (by have:=ha.1; have:=ha.2; have:=hb.1; have:=hb.2; omega) (by have:=ha.1; have:=ha.2; have:=hb.1; have:=hb.2; omega)) rfl rfl ?_
 refine kl tt 1 [0] qUj rfl rfl rfl (F6 (a:=((((((a).num)*(((b).den:Int))))+((((b).num)*(((a).den:Int))))))) (b:=(((((a).den:Int))*(((b).den:Int))))) (Xa (C1 _ _) (by have h1:=Z2 a.num (b.den:Int); have h2:=Z2 b.num (a.den:Int); have:=ha.1; have:=ha.2; have:=hb.1; have:=hb.2; omega)) (Xa (Z2 _ _) (by have:=ha.1; have:=ha.2; have:=hb.1; have:=hb.2; omega))) rfl rfl ?_
 exact Xq tt [0] rfl (by rw [Qby])
set_option maxRecDepth 20000 in
theorem A4 {a b:Rat} (ha:Qs 40000000 a) (hb:Qs 40000000 b):Q8 Tryz.prog 154 [.agg [dl ((dig ((a).num).natAbs)),sg ((a).num),dl ((dig (((a).den:Int)).natAbs)),sg (((a).den:Int))],.agg [dl ((dig ((b).num).natAbs)),sg ((b).num),dl ((dig (((b).den:Int)).natAbs)),sg (((b).den:Int))]] (.agg [dl ((dig (((a*b)).num).natAbs)),sg (((a*b)).num),dl ((dig ((((a*b)).den:Int)).natAbs)),sg ((((a*b)).den:Int))]):=by
 refine X2 tt 2 [] Tryz.func154 Tryz.ntmps154 rfl rfl rfl ?_
 refine Zn (Ql Sl rfl rfl fun g1=>ko ?_)
 refine Qw tt rfl ?_
 refine Qx 9 Qp rfl rfl rfl ?_
 refine Qr tt 4 rfl ?_
 refine Ye tt 4 [] qWu rfl rfl rfl (Jt (a:=((a).num)) (b:=((b).num)) (by have:=ha.1; have:=ha.2; have:=hb.1; have:=hb.2; omega) (by have:=ha.1; have:=ha.2; have:=hb.1; have:=hb.2; omega)) rfl rfl ?_
 refine Qw tt rfl ?_
 refine kl tt 0 [] qWu rfl rfl rfl (Jt (a:=(((a).den:Int))) (b:=(((b).den:Int))) (by have:=ha.1; have:=ha.2; have:=hb.1; have:=hb.2; omega) (by have:=ha.1; have:=ha.2; have:=hb.1; have:=hb.2; omega)) rfl rfl ?_
 refine kl tt 1 [0] qUj rfl rfl rfl (F6 (a:=((((a).num)*((b).num)))) (b:=(((((a).den:Int))*(((b).den:Int))))) (Xa (Z2 _ _) (by have:=ha.1; have:=ha.2; have:=hb.1; have:=hb.2; omega)) (Xa (Z2 _ _) (by have:=ha.1; have:=ha.2; have:=hb.1; have:=hb.2; omega))) rfl rfl ?_
 exact Xq tt [0] rfl (by rw [Qdf])
set_option maxRecDepth 20000 in
theorem Iv {a b:Rat} (ha:Qs 40000000 a) (hb:Qs 40000000 b) (h0:b≠0):Q8 Tryz.prog 218 [.agg [dl ((dig ((a).num).natAbs)),sg ((a).num),dl ((dig (((a).den:Int)).natAbs)),sg (((a).den:Int))],.agg [dl ((dig ((b).num).natAbs)),sg ((b).num),dl ((dig (((b).den:Int)).natAbs)),sg (((b).den:Int))]] (.agg [dl ((dig (((a / b)).num).natAbs)),sg (((a / b)).num),dl ((dig ((((a / b)).den:Int)).natAbs)),sg ((((a / b)).den:Int))]):=by
 refine X2 tt 2 [] Tryz.func218 Tryz.ntmps218 rfl rfl rfl ?_
 refine Zn (Ql Sl rfl rfl fun g1=>ko ?_)
 refine Qw tt rfl ?_
 refine Qx 9 Qp rfl rfl rfl ?_
 refine Qr tt 4 rfl ?_
 refine Ye tt 4 [] qWu rfl rfl rfl (Jt (a:=((a).num)) (b:=(((b).den:Int))) (by have:=ha.1; have:=ha.2; have:=hb.1; have:=hb.2; omega) (by have:=ha.1; have:=ha.2; have:=hb.1; have:=hb.2; omega)) rfl rfl ?_
 refine Qw tt rfl ?_
 refine kl tt 0 [] qWu rfl rfl rfl (Jt (a:=(((a).den:Int))) (b:=((b).num)) (by have:=ha.1; have:=ha.2; have:=hb.1; have:=hb.2; omega) (by have:=ha.1; have:=ha.2; have:=hb.1; have:=hb.2; omega)) rfl rfl ?_
 refine kl tt 1 [0] qUj rfl rfl rfl (F6 (a:=((((a).num)*(((b).den:Int))))) (b:=(((((a).den:Int))*((b).num)))) (Xa (Z2 _ _) (by have:=ha.1; have:=ha.2; have:=hb.1; have:=hb.2; omega)) (Xa (Z2 _ _) (by have:=ha.1; have:=ha.2; have:=hb.1; have:=hb.2; omega))) rfl rfl ?_
 exact Xq tt [0] rfl (by rw [Qb5 h0])
set_option maxRecDepth 20000 in
theorem Qiv {a b:Rat} (ha:Qs 40000000 a) (hb:Qs 40000000 b):Q8 Tryz.prog 217 [.agg [dl ((dig ((a).num).natAbs)),sg ((a).num),dl ((dig (((a).den:Int)).natAbs)),sg (((a).den:Int))],.agg [dl ((dig ((b).num).natAbs)),sg ((b).num),dl ((dig (((b).den:Int)).natAbs)),sg (((b).den:Int))]] (.one (.int .i64 ((Qt8 a b)))):=by
 refine X2 tt 3 [] Tryz.func217 Tryz.ntmps217 rfl rfl rfl ?_
 refine Qx 9 Qp rfl rfl rfl ?_
 refine Qr tt 4 rfl ?_
 refine Ye tt 4 [] qWu rfl rfl rfl (Jt (a:=((a).num)) (b:=(((b).den:Int))) (by have:=ha.1; have:=ha.2; have:=hb.1; have:=hb.2; omega) (by have:=ha.1; have:=ha.2; have:=hb.1; have:=hb.2; omega)) rfl rfl ?_
 refine Qw tt rfl ?_
 refine kl tt 0 [] qWu rfl rfl rfl (Jt (a:=((b).num)) (b:=(((a).den:Int))) (by have:=ha.1; have:=ha.2; have:=hb.1; have:=hb.2; omega) (by have:=ha.1; have:=ha.2; have:=hb.1; have:=hb.2; omega)) rfl rfl ?_
 refine kl tt 1 [] Tryz.func281 rfl rfl rfl (Qmw (a:=((((a).num)*(((b).den:Int))))) (b:=((((b).num)*(((a).den:Int))))) (Xa (Z2 _ _) (by have:=ha.1; have:=ha.2; have:=hb.1; have:=hb.2; omega)) (Xa (Z2 _ _) (by have:=ha.1; have:=ha.2; have:=hb.1; have:=hb.2; omega))) rfl rfl ?_
 exact Xq tt [] rfl (rfl)
end Orr

namespace Orr
def U9:List Rat→List Rat
  | []=>[]
  |
   x::l=>match U9 l with
   | []=>if x=0 then [] else [x]
   | y::k=>x::y::k
theorem S2:∀ {l:List Rat},(∀ x∈l,x=0)→U9 l=[]
  | [],_=>rfl
  |
   x::l,h=>by
   have ih:=S2 (l:=l) (fun y hy=>h y (W0 _ hy))
   simp [U9,ih,h x (Ub ..)]
theorem Id:∀ {l:List Rat} {m:Nat} {y:Rat},(∀ j x,m<j→l[j]? = some x→x=0)→l[m]? = some y→y≠0→U9 l=l.take (m+1)
  | [],m,y,_,h,_=>by simp at h
  |
   x::l,0,y,h1,h2,h3=>by
   have h0:U9 l=[]:=S2 fun z hz=>by
     obtain ⟨j,hj⟩:=qZn.1 hz
     exact h1 (j+1) z (by omega) (by simpa using hj)
   simp at h2
   subst h2
   simp [U9,h0,h3]
  |
   x::l,m+1,y,h1,h2,h3=>by
   have ih:=Id (l:=l) (m:=m) (y:=y) (fun j z hj hz=>h1 (j+1) z (by omega) (by simpa using hz)) (by simpa using h2) h3
   cases hl:l with
   | nil=>subst hl; simp at h2
   |
    cons u k =>
    subst hl
    rw [qVv] at ih
    simp only [U9] at ih ⊢
    rw [ih]
    simp
theorem Dp {l:List Rat} {m:Nat} (hm:m≤l.length) (h1:∀ j x,m≤j→l[j]? = some x→x=0) (h2:0<m→∃ y,l[m-1]? = some y∧y≠0):U9 l=l.take m:=by
  rcases H9 m with h0 | h0
  · subst h0
    rw [S2 fun z hz=>?_]; rfl
    obtain ⟨j,hj⟩:=qZn.1 hz
    exact h1 j z (by omega) hj
  · obtain ⟨y,hy,hy0⟩:=h2 h0
    have:=Id (l:=l) (m:=m-1) (y:=y) (fun j x hj hx=>h1 j x (by omega) hx) hy hy0
    rwa [show m-1+1=m from by omega] at this
theorem Qbm:∀ (l:List Rat),∀ z∈U9 l,z∈l
  | [],z,h=>h
  |
   x::l,z,h=>by
   simp only [U9] at h
   have ih:=Qbm l
   split at h
   · split at h
     · cases h
     · simp at h; simp [h]
   · rename_i y k e
     rw [e] at ih
     rcases Vb.1 h with h | h
     · simp [h]
     · exact W0 _ (ih z h)
theorem Qc6:∀ (l:List Rat),(U9 l).length≤l.length
  | []=>Ji _
  |
   x::l=>by
   have ih:=Qc6 l
   simp only [U9]
   split
   · split <;> simp
   · rename_i y k e
     rw [e] at ih
     simp at ih ⊢; omega
def zp (p:List Int):List Rat:=p.map fun (z:Int)=>(z:Rat)
theorem Fq:∀ (p:List Int),U9 (zp p)=zp (trim p)
  | []=>rfl
  |
   x::l=>by
   have ih:=Fq l
   unfold zp at ih ⊢
   simp only [Ee,U9,trim,ih]
   cases h:trim l with
   |
    nil =>
    simp only [List.map_nil]
    by_cases hx:x=0
    · subst hx; simp
    · have:(x:Rat)≠0:=fun e=>hx (by exact_mod_cast e)
      simp [hx,this]
   | cons y k=>simp
theorem Zf (p:List Int):(zp p).length=p.length:=Zw _
theorem Qwz {p:List Int} {i:Nat} {z:Int} (h:p[i]? = some z):(zp p)[i]? = some (z:Rat):=by simp [zp,h]
theorem Mb (p:List Int) (i:Nat):(zp p).getD i 0=((p.getD i 0:Int):Rat):=by
  simp only [Ve,zp,Sd]
  cases p[i]? <;> rfl
def Rb (s:Nat) (p:List Rat):Prop:=∀ q∈p,Qs s q
theorem Rb.mono {s t:Nat} {p:List Rat} (h:Rb s p) (ht:s≤t):Rb t p:=fun q hq=>(h q hq).mono ht
theorem Rb.get {s:Nat} {p:List Rat} (h:Rb s p) {i:Nat} {q:Rat} (hq:p[i]? = some q):Qs s q:=h q (Y6 hq)
theorem Ue {s:Nat} {z:Int} (h:Xh z≤s) (h1:1≤s):Qs s (z:Rat):=⟨by simpa using h,Xa (show Xh ((1:Nat):Int)≤1 by decide) h1⟩
theorem R4 {s:Nat} {p:List Int} (h:Bd s p) (h1:1≤s):Rb s (zp p):=fun q hq=>by
  obtain ⟨z,hz,rfl⟩:=Wa.1 hq
  exact Ue (h z hz) h1
theorem Qs1 {s:Nat} (h1:1≤s):Qs s 0:=Ue (z:=0) (by simp [Sr]) h1
theorem Rb.getD {s:Nat} {p:List Rat} (h:Rb s p) (h1:1≤s) (i:Nat):Qs s (p.getD i 0):=by
  rw [Ve]
  cases e:p[i]? with
  | none=>exact Qs1 h1
  | some q=>exact h.get e
theorem Rb.trim {s:Nat} {p:List Rat} (h:Rb s p):Rb s (U9 p):=fun q hq=>h q (Qbm p q hq)
def Uc (f:Nat→Rat) (n:Nat):List Rat:=(List.range n).map f
theorem Xp (f:Nat→Rat) (n:Nat):(Uc f n).length=n:=by simp [Uc]
theorem Hm (f:Nat→Rat) (n:Nat):Uc f (n+1)=Uc f n++[f n]:=by simp [Uc,qVz]
theorem Px {s n:Nat} {f:Nat→Rat} (h:∀ i,i<n→Qs s (f i)):Rb s (Uc f n):=fun q hq=>by
  obtain ⟨i,hi,rfl⟩:=Wa.1 hq
  exact h i (Ru.1 hi)
theorem Mm {f:Nat→Rat} {g:Nat→Int} (n:Nat) (h:∀ i,i<n→f i=(g i:Rat)):Uc f n=zp ((List.range n).map g):=by
  simp only [Uc,zp,List.map_map]
  exact qJt fun i hi=>h i (Ru.1 hi)
def Qtx (p q:List Rat):List Rat:=U9 (Uc (fun i=>p.getD i 0+q.getD i 0) (max p.length q.length))
def Gi (p:List Rat) (c:Rat):List Rat:=U9 (Uc (fun i=>p.getD i 0*c) p.length)
def Qnj (p:List Rat):List Rat:=Gi p (-1)
def Qxu (p q:List Rat):List Rat:=Qtx p (Qnj q)
theorem Qly (p q:List Int):Qtx (zp p) (zp q)=zp (Qif p q):=by
  unfold Qtx Qif Ut
  rw [Mm (g:=fun k=>p.getD k 0+q.getD k 0) _ fun i _=>by rw [Mb,Mb,Rat.intCast_add],Fq,Zf,Zf]
theorem Qcd (p:List Int) (c:Int):Gi (zp p) (c:Rat)=zp (Xx p c):=by
  unfold Gi Xx Ut
  rw [Mm (g:=fun k=>p.getD k 0*c) _ fun i _=>by rw [Mb,qJs],Fq,Zf]
theorem Qj9 (p:List Int):Xx p (-1)=Ec p:=by
  unfold Xx Ec Ut
  congr 2
  funext k
  omega
theorem Qmm (p:List Int):Qnj (zp p)=zp (Ec p):=by
  rw [←Qj9,←Qcd]; rfl
theorem Sx {p q:List Int} (hp:Yu p) (hq:Yu q) (h:∀ k,p.getD k 0=q.getD k 0):p=q:=by
  have key:∀ {p q:List Int},Yu q→(∀ k,p.getD k 0=q.getD k 0)→q.length≤p.length:=by
    intro p q hq h
    rcases Mp p.length q.length with h1 | h1
    · have h2:=Dr hq (by omega)
      rw [←h,Ve,Eu (by omega)] at h2
      exact (h2 rfl).elim
    · exact h1
  exact Qix (Nat.le_antisymm (key hp fun k=>(h k).symm) (key hq h)) fun j _=>h j
theorem Qj5 {n m:Nat} {f g:Nat→Int} (hn:n≤m) (h:∀ k,k<n→f k=g k) (h0:∀ k,n≤k→k<m→g k=0):Ut n f=Ut m g:=by
  refine Sx (Ke _ _) (Ke _ _) fun k=>?_
  rw [Fc,Fc]
  by_cases h1:k<n
  · rw [if_pos h1,if_pos (by omega),h k h1]
  · rw [if_neg h1]
    by_cases h2:k<m
    · rw [if_pos h2,h0 k (by omega) h2]
    · rw [if_neg h2]
theorem Quc (p q:List Int):Qxu (zp p) (zp q)=zp (Si p q):=by
  unfold Qxu
  rw [Qmm,Qly]
  congr 1
  have hl:=Qho q
  unfold Qif Si
  refine Qj5 (by omega) (fun k _=>?_) fun k h1 h2=>?_
  · unfold Ec
    rw [Fc]
    split
    · omega
    · rename_i h
      have:q.getD k 0=0:=by rw [Ve,Eu (by omega)]; rfl
      omega
  · have h3:p.getD k 0=0:=by rw [Ve,Eu (by omega)]; rfl
    have h4:(Ec q).getD k 0=0:=by rw [Ve,Eu (by omega)]; rfl
    unfold Ec at h4
    rw [Fc] at h4
    split at h4
    · omega
    · have:q.getD k 0=0:=by rw [Ve,Eu (by omega)]; rfl
      omega
end Orr
