/- N26 N17 N20 N21 N22 N23 N24 N18 N19 N27 -/
import Derived.Test.YtdcbpgmmopdelaaGreatPart01
import Derived.Test.YtdcbpgmmopdelaaGreatPart00
set_option linter.all false
namespace Orr
open Go
variable{P:Program}{n:Nat}{L L':Sg}{B B':Ga}
def WN:Fv->Nat->Option Nat
 | [],_=>none
 |i::_,0=>some i
 |_::l,j+1=>WN l j
theorem Aw:∀{l:Fv} {j:Nat},WN l j=l[j]?
 | [],_=>by simp[WN]
 |_::_,0=>by simp[WN]
 |_::l,j+1=>by simp[WN,Aw]
def TC(is:Fv)(c:Nat)(j:Nat):Nat:=match WN is j with
 |some i=>i
 |none=>c+j
def rnY(is:Fv):LV->Option LV
 |
  .ow i o=>match WN is i with
  |some j=>some (.ow j o)
  |none=>none
 |x=>some x
def rnL(is:Fv):LV->Option LV
 |
  .ow i o=>match WN is i with
  |some j=>some (.ow j o)
  |none=>none
 |
  .orow i s p=>match WN is i with
  |some j=>some (.orow j s p)
  |none=>none
 |
  .oel i s k o=>match WN is i with
  |some j=>some (.oel j s k o)
  |none=>none
 |
  .omap i=>match WN is i with
  |some j=>some (.omap j)
  |none=>none
 |
  .oif t i o=>match WN is i with
  |some j=>some (.oif t j o)
  |none=>none
 |
  .ofn f a b=>match Mg (rnY is) a,Mg (rnY is) b with
  |some a,some b=>some (.ofn f a b)
  |_,_=>none
 |x=>some x
def Pre(is js:Fv):Prop:=∀i j,WN is i=some j->WN js i=some j
theorem Pre.refl(is:Fv):Pre is is:=λ_ _ h=>h
theorem Qb0{is:Fv}{i j:Nat}(h:WN is i=some j):i<is.length:=by
 rw[Aw]at h;exact(Qd.1 h).1
section
variable{is js:Fv}{c:Nat}(hp:Pre is js)
include hp
theorem MJ{i j:Nat}(h:WN is i=some j):TC js c i=j:=by simp only[TC,hp i j h]
theorem Qvn{x y:LV}(h:rnY is x=some y):y=uZ (TC js c) x/\∀i∈YQ [x],i<is.length:=by
 cases x <;> simp only[rnY]at h
 case ow i o =>
  split at h
  ·rename_i j hj;injection h with h;subst h;exact⟨by simp only[uZ,MJ hp hj],λi' hi=>by simp[YQ]at hi;subst hi;exact Qb0 hj⟩
  ·cases h
 all_goals (injection h with h;subst h;exact⟨rfl,λi hi=>by simp[YQ]at hi⟩)
theorem uJ:∀{xs ys:Fy},Mg (rnY is) xs=some ys->ys=xs.map (uZ (TC js c))/\∀i∈YQ xs,i<is.length
 | [],ys,h=>by simp only[Mg,Option.some.injEq]at h;subst h;exact⟨rfl,λi hi=>by simp[YQ]at hi⟩
 |
  x::xs,ys,h=>by
  simp only[Mg]at h
  split at h
  ·rename_i y hy
   split at h
   ·rename_i r hr;injection h with h;subst h;obtain⟨h1,h2⟩:=Qvn (c:=c) hp hy;obtain⟨h3,h4⟩:=uJ hr;refine⟨by rw[Zx,<-h1,<-h3],λi hi=>?_⟩;cases x with
    |
     ow j o =>
     simp only[YQ,Qj]at hi;rcases hi with rfl|hi
     ·exact h2 _ (by simp[YQ])
     ·exact h4 i hi
    |_=>exact h4 i hi
   ·cases h
  ·cases h
theorem Qlj{x y:LV}(h:rnL is x=some y):y=FV (TC js c) x/\∀i∈x.ids,i<is.length:=by
 cases x <;> simp only[rnL]at h
 case ofn f a b =>
  split at h
  ·rename_i a' b' ha hb;injection h with h;subst h;obtain⟨h1,h2⟩:=uJ (c:=c) hp ha;obtain⟨h3,h4⟩:=uJ (c:=c) hp hb;exact⟨by rw[h1,h3];rfl,λi hi=>(Qr.1 hi).elim (h2 i) (h4 i)⟩
  ·cases h
 all_goals first
  |(injection h with h;subst h;exact⟨rfl,λi hi=>by simp[LV.ids]at hi⟩)
  |(
   split at h
   ·rename_i j hj;injection h with h;subst h;exact⟨by simp only[FV,MJ hp hj],λi' hi=>by simp[LV.ids]at hi;subst hi;exact Qb0 hj⟩
   ·cases h)
theorem uX:∀{xs ys:Fy},Mg (rnL is) xs=some ys->ys=xs.map (FV (TC js c))/\∀i∈xs.flatMap LV.ids,i<is.length
 | [],ys,h=>by simp only[Mg,Option.some.injEq]at h;subst h;exact⟨rfl,λi hi=>by simp at hi⟩
 |
  x::xs,ys,h=>by
  simp only[Mg]at h
  split at h
  ·rename_i y hy
   split at h
   ·rename_i r hr;injection h with h;subst h;obtain⟨h1,h2⟩:=Qlj (c:=c) hp hy;obtain⟨h3,h4⟩:=uX hr;refine⟨by rw[Zx,<-h1,<-h3],λi hi=>?_⟩;rw[List.flatMap_cons]at hi;exact(Qr.1 hi).elim (h2 i) (h4 i)
   ·cases h
  ·cases h
theorem Qvm{t u:TV}(h:nV (rnL is) t=some u):u=BR (TC js c) t/\∀i∈t.ids,i<is.length:=by
 cases t <;> simp only[nV]at h <;> split at h <;> first|(cases h;done)|skip
 ·rename_i hy;injection h with h;subst h;obtain⟨h1,h2⟩:=Qlj (c:=c) hp hy;exact⟨by rw[h1];rfl,h2⟩
 ·rename_i hy;injection h with h;subst h;obtain⟨h1,h2⟩:=uX (c:=c) hp hy;exact⟨by rw[h1];rfl,h2⟩
theorem CL:∀{xs ys:Gb},Mg (nV (rnL is)) xs=some ys->ys=xs.map (BR (TC js c))/\∀t∈xs,∀i∈t.ids,i<is.length
 | [],ys,h=>by simp only[Mg,Option.some.injEq]at h;subst h;exact⟨rfl,λi hi=>by simp at hi⟩
 |
  x::xs,ys,h=>by
  simp only[Mg]at h
  split at h
  ·rename_i y hy
   split at h
   ·rename_i r hr;injection h with h;subst h;obtain⟨h1,h2⟩:=Qvm (c:=c) hp hy;obtain⟨h3,h4⟩:=CL hr;refine⟨by rw[Zx,<-h1,<-h3],λt ht=>?_⟩;rcases Qj.1 ht with rfl|ht
    ·exact h2
    ·exact h4 t ht
   ·cases h
  ·cases h
theorem eN{b d:OB}(h:VF (rnL is) b=some d):d=I6 (TC js c) b/\∀i∈b.ids,i<is.length:=by
 cases b with
 |
  blk T xs =>
  simp only[VF]at h
  split at h
  ·rename_i hy;injection h with h;subst h;obtain⟨h1,h2⟩:=uX (c:=c) hp hy;exact⟨by rw[h1];rfl,h2⟩
  ·cases h
 |_=>simp only[VF,Option.some.injEq]at h;subst h;exact⟨rfl,λi hi=>by simp[OB.ids]at hi⟩
end
def Qov:Fv->Fv->Bool
 | [],_=>true
 |
  i::l,ms=>match Bf i ms with
  |true=>false
  |false=>Qov l ms
theorem Qal:∀{l ms:Fv},Qov l ms=true->∀m∈ms,m∉l
 | [],_,_,m,_=>by simp
 |
  i::l,ms,h,m,hm=>by
  simp only[Qov]at h
  split at h
  ·cases h
  ·rename_i hn;intro hi;rcases Qj.1 hi with rfl|hi
   ·rw[Px.2 hm]at hn;cases hn
   ·exact Qal h m hm hi
def qK(ms:Fv)(x:LV):Option LV:=match Qov x.ids ms with
 |true=>some x
 |false=>some .any
theorem Qbg{w:World}{M:Nat->Prop}{E:Lf}{ms:Fv}:nN w M E w M E (qK ms):=by
 intro v x y h hr;unfold qK at h
 split at h <;> (injection h with h;subst h)
 ·exact hr
 ·exact LRep.any v hr.one
theorem sU{ms:Fv}{i:Nat}(hi:i∈ms)(x y:LV)(h:qK ms x=some y):i∉y.ids:=by
 unfold qK at h
 split at h <;> (injection h with h;subst h)
 ·rename_i hd;exact Qal hd i hi
 ·simp[LV.ids]
def klB(ms is:Fv):Nat->Ga->Option Ga
 |_,[]=>some []
 |
  k,b::l=>match klB ms is (k+1) l with
  |
   some r=>match Bf k is with
   |true=>some (b::r)
   |
    false=>match VF (qK ms) b with
    |some c=>some (c::r)
    |none=>none
  |none=>none
theorem Qjt{ms is:Fv}:∀{l r:Ga} {k:Nat},klB ms is k l=some r->r.length=l.length/\∀(j:Nat) (b:OB),l[j]? = some b->∃c,r[j]? = some c/\(k+j∈is/\c=b\/k+j∉is/\VF (qK ms) b=some c)
 | [],r,k,h=>by simp only[klB,Option.some.injEq]at h;subst h;exact⟨rfl,λj b hb=>by simp at hb⟩
 |
  b::l,r,k,h=>by
  simp only[klB]at h
  split at h
  ·rename_i q hq;obtain⟨h1,h2⟩:=Qjt hq;have key:∀c,r=c::q->(k∈is/\c=b\/k∉is/\VF (qK ms) b=some c)->r.length=(b::l).length/\∀(j:Nat) (b':OB),(b::l)[j]? = some b'->∃c,r[j]? = some c/\(k+j∈is/\c=b'\/k+j∉is/\VF (qK ms) b'=some c):=λc e hc=>by
    subst e;refine⟨by simp[h1],λj b' hb=>?_⟩;cases j with
    |zero=>simp at hb;subst hb;exact⟨c,rfl,hc⟩
    |
     succ j =>
     rw[show k+(j+1)=k+1+j from by omega];simpa using h2 j b' (by simpa using hb)
   split at h
   ·rename_i hm;injection h with h;exact key b h.symm (.inl ⟨Px.1 hm,rfl⟩)
   ·rename_i hm
    split at h
    ·rename_i c hc;injection h with h;exact key c h.symm (.inr ⟨λh=>(by rw[Px.2 h]at hm;cases hm),hc⟩)
    ·cases h
  ·cases h
def kl(ms is:Fv)(L:Sg)(B:Ga):Option (Sg×Ga):=match ms with
 | []=>some (L,B)
 |
  _=>match fN (qK ms) L,klB ms is 0 B with
  |some L',some B'=>some (L',B')
  |_,_=>none
theorem Qxo{ms is:Fv}(h:kl ms is L B=some (L',B')):(∀F E M a w,SA F n L B E M a w->SA F n L' B' E M a w)/\B'.length=B.length/\(∀m∈ms,(∀t x,lk L' t=some x->m∉x.ids)/\∀i,i∉is->m∉(ob B' i).ids):=by
 unfold kl at h
 split at h
 ·injection h with h;injection h with e1 e2;subst e1;subst e2;exact⟨λ_ _ _ _ _ h=>h,rfl,λm hm=>(by cases hm)⟩
 ·split at h
  ·rename_i L2 B2 hL hB;injection h with h;injection h with e1 e2;subst e1;subst e2;obtain⟨h1,h2⟩:=Qjt hB;have hn:nw B2=nw B:=by funext i;simp only[nw,h1]
   have hg:∀i,(ob B2 i=.gone/\ob B i=.gone)\/ob B2 i=ob B i\/i∉is/\VF (qK ms) (ob B i)=some (ob B2 i):=λi=>by
    rcases Q8 i B.length with hi|hi
    ·obtain⟨c,h3,h4⟩:=h2 i _ (Qg hi);rw[Xd]at h4;rw[P5 h3,P5 (Qg hi)];rcases h4 with h4|h4
     ·exact .inr (.inl h4.2)
     ·exact .inr (.inr h4)
    ·exact .inl ⟨Sx (by omega),Sx hi⟩
   refine⟨λF E M a w hs=>⟨?_,hs.size,hs.defers,Qs4 Qbg hL hs.slots⟩,h1,λm hm=>⟨λt x hx=>uH (sU hm) hL t x hx,λi hi=>?_⟩⟩
   ·rw[hn];refine hs.hs.re (λi=>?_) (λi=>?_) (λi=>?_) λi hi=>?_
    ·rcases hg i with⟨e,_⟩|e|⟨_,e⟩
     ·rw[e];trivial
     ·rw[e];exact hs.hs.blk i
     ·exact wZ Qbg e (hs.hs.blk i)
    ·rcases hg i with⟨e,e'⟩|e|⟨_,e⟩
     ·rw[e,e']
     ·rw[e]
     ·exact(UE e).1
    ·rcases hg i with⟨e,e'⟩|e|⟨_,e⟩
     ·rw[e,e']
     ·rw[e]
     ·exact(UE e).2.1
    ·rcases hg i with⟨e,e'⟩|e|⟨_,e⟩
     ·exact e
     ·rw[e];exact hi
     ·exact(UE e).2.2 hi
   ·rcases Q8 i B.length with hl|hl
    ·obtain⟨c,h3,h4⟩:=h2 i _ (Qg hl);rw[Xd]at h4;rw[P5 h3];rcases h4 with⟨h4,_⟩|⟨_,h4⟩
     ·exact absurd h4 hi
     ·generalize B[i]=b at h4;cases b with
      |
       blk T xs =>
       simp only[VF]at h4
       split at h4
       ·rename_i r hr;injection h4 with e;rw[<-e];exact HN (sU hm) hr
       ·cases h4
      |_=>simp only[VF,Option.some.injEq]at h4;rw[<-h4];simp[OB.ids]
    ·rw[Sx (by omega)];simp[OB.ids]
  ·cases h
def Qpx:Fv->Ga->Option Fv
 |
  i::is,b::l=>match Qpx is l with
  |
   some r=>match b.mv with
   |true=>some (i::r)
   |false=>some r
  |none=>none
 |_,_=>some []
theorem Qbw:∀{is:Fv} {l:Ga} {r:Fv},Qpx is l=some r->∀(j i:Nat) (b:OB),is[j]? = some i->l[j]? = some b->b.mv=true->i∈r
 | [],_,_,_,j,i,b,h,_,_=>by simp at h
 |_::_,[],_,_,j,i,b,_,h,_=>by simp at h
 |
  i0::is,b0::l,r,h,j,i,b,hi,hb,hm=>by
  simp only[Qpx]at h
  split at h
  ·rename_i q hq;have key:(j=0->i0∈r)->(∀x∈q,x∈r)->i∈r:=λk1 k2=>by
    cases j with
    |zero=>simp at hi;subst hi;exact k1 rfl
    |succ j=>exact k2 _ (Qbw hq j i b (by simpa using hi) (by simpa using hb) hm)
   split at h
   ·injection h with h;subst h;exact key (λ_=>.head _) λx hx=>.tail _ hx
   ·rename_i hf;injection h with h;subst h;refine key (λe=>?_) λx hx=>hx
    subst e;simp at hb;subst hb;rw[hm]at hf;cases hf
  ·cases h
def eqB(is0:Fv)(B1:Ga):Fv->Ga->Option Li
 | [],[]=>some []
 |
  i::is,c::l=>match Ou B1 i,VF (rnL is0) c,eqB is0 B1 is l with
  |
   some b,some c',some q=>match c.lv && (!c.mv || b.mv)with
   |true=>some ((.o c',.o (flO c' b))::q)
   |false=>none
  |_,_,_=>none
 |_,_=>none
theorem Qin{is0 js:Fv}{c0:Nat}{B1:Ga}(hp:Pre is0 js):∀{is:Fv} {l:Ga} {q:Li},eqB is0 B1 is l=some q->EqOk q->is.length=l.length/\∀(j:Nat) (c:OB),l[j]? = some c->∃i b,is[j]? = some i/\B1[i]? = some b/\c.lv=true/\(c.mv=true->b.mv=true)/\XU b=XU (I6 (TC js c0) c)/\∀k∈c.ids,k<is0.length
 | [],[],_,_,_=>⟨rfl,λj c h=>by simp at h⟩
 |
  i::is,c::l,q,h,hq=>by
  simp only[eqB]at h
  split at h
  ·rename_i b c' q' hb hc' hq'
   split at h
   ·rename_i hf;injection h with h;subst h;obtain⟨h1,h2⟩:=Qin hp hq' hq.tl;refine⟨by simp[h1],λj d hd=>?_⟩;cases j with
    |
     zero =>
     simp at hd;subst hd;obtain⟨h3,h4⟩:=eN (c:=c0) hp hc';have e:=hq.hd;injection e with e;rw[Zn]at hf;refine⟨i,b,rfl,Nc ▸ hb,hf.1,λhm=>by simpa[hm]using hf.2,?_,h4⟩;rw[<-h3,e,dK]
    |succ j=>simpa using h2 j d (by simpa using hd)
   ·cases h
  ·cases h
 | [],_::_,_,h,_=>by cases h
 |_::_,[],_,h,_=>by cases h
def flF:OB->OB->Option OB
 | .row f _ _ _,.row _ T sz ls=>some (.row f T sz ls)
 |_,.gone=>some .gone
 |_,.blk T xs=>some (.blk T xs)
 |_,.mpb es=>some (.mpb es)
 | .gone,.row f T sz ls=>some (.row f T sz ls)
 | .blk ..,.row f T sz ls=>some (.row f T sz ls)
 | .mpb _,.row f T sz ls=>some (.row f T sz ls)
theorem Quh(b c:OB):flF b c=some (flO b c):=by cases b <;> cases c <;> rfl
def SL:Fv->Ga->Nat->Option OB
 |
  i::is,b::bs,k=>match Nat.beq i k with
  |true=>some b
  |false=>SL is bs k
 |_,_,_=>none
def Qaq:Fv->Ga->Option Ga
 | [],l=>some l
 |_::is,_::l=>Qaq is l
 |_::_,[]=>none
theorem tW:∀{is:Fv} {l r:Ga},Qaq is l=some r->is.length<=l.length/\r=l.drop is.length
 | [],l,r,h=>by simp only[Qaq,Option.some.injEq]at h;subst h;exact⟨Qh _,rfl⟩
 |
  _::is,_::l,r,h=>by
  obtain⟨h1,h2⟩:=tW (is:=is) h;exact⟨by simp;omega,by simpa using h2⟩
 |_::_,[],_,h=>by cases h
def Qqk(
 is:Fv) (Bo:Ga):Nat->Ga->Option Ga
  |_,[]=>Qaq is Bo
  |
   k,b::l=>match Qqk is Bo (k+1) l with
   |
    some r=>match SL is Bo k with
    |
     some c=>match flF b c with
     |
      some d=>match !d.mv || b.mv with
      |true=>some (d::r)
      |false=>none
     |none=>none
    |none=>some (b::r)
   |none=>none
theorem Qcf{is:Fv}{Bo:Ga}:∀{l r:Ga} {k:Nat},Qqk is Bo k l=some r->is.length<=Bo.length/\r.length=l.length+(Bo.length-is.length)/\(∀j,j<l.length->(ob r j=match SL is Bo (k+j)with|some c=>flO (ob l j) c|none=>ob l j)/\((ob r j).mv=true->(ob l j).mv=true))/\∀j,ob r (l.length+j)=ob Bo (is.length+j)
 |
  [],r,k,h=>by
  obtain⟨h1,h2⟩:=tW h;refine⟨h1,by simp[h2],λj hj=>by simp at hj,λj=>?_⟩;subst h2;simp[ob,Xi]
 |
  b::l,r,k,h=>by
  simp only[Qqk]at h
  split at h
  ·rename_i q hq;obtain⟨h1,h2,h3,h4⟩:=Qcf hq;have key:∀d,r=d::q->(d=match SL is Bo k with|some c=>flO b c|none=>b)->(d.mv=true->b.mv=true)->is.length<=Bo.length/\r.length=(b::l).length+(Bo.length-is.length)/\(∀j,j<(b::l).length->(ob r j=match SL is Bo (k+j)with|some c=>flO (ob (b::l) j) c|none=>ob (b::l) j)/\((ob r j).mv=true->(ob (b::l) j).mv=true))/\∀j,ob r ((b::l).length+j)=ob Bo (is.length+j):=λd e hd hdm=>by
    subst e;refine⟨h1,by simp[h2];omega,λj hj=>?_,λj=>?_⟩
    ·cases j with
     |zero=>rw[Jh];exact⟨by simpa[ob]using hd,by simpa[ob]using hdm⟩
     |
      succ j =>
      have:=h3 j (by simpa using hj);rw[show k+(j+1)=k+1+j from by omega];simpa[ob]using this
    ·rw[<-h4 j,show(b::l).length+j=(l.length+j)+1 from by simp;omega];simp[ob]
   split at h
   ·rename_i c hc;rw[Quh]at h;simp only at h
    split at h
    ·rename_i hf;injection h with h;exact key _ h.symm (by rw[hc]) λhm=>by simpa[hm]using hf
    ·cases h
   ·rename_i hc;injection h with h;exact key _ h.symm (by rw[hc]) id
  ·cases h
theorem SE:∀{is:Fv} {Bo:Ga} {k:Nat} {c:OB},SL is Bo k=some c->∃j:Nat,is[j]? = some k/\Bo[j]? = some c
 | [],_,_,_,h=>by simp[SL]at h
 |_::_,[],_,_,h=>by simp[SL]at h
 |
  i::is,b::bs,k,c,h=>by
  simp only[SL]at h
  split at h
  ·rename_i e;injection h with h;subst h;exact⟨0,by simp[Nat.eq_of_beq_eq_true e],rfl⟩
  ·obtain⟨j,h1,h2⟩:=SE h;exact⟨j+1,by simpa using h1,by simpa using h2⟩
theorem zL:∀{is:Fv} {Bo:Ga} {k:Nat},is.length<=Bo.length->SL is Bo k=none->k∉is
 | [],_,_,_,_=>by simp
 |_::_,[],_,hl,_=>by simp at hl
 |
  i::is,b::bs,k,hl,h=>by
  simp only[SL]at h
  split at h
  ·cases h
  ·rename_i e;have:=zL (by simpa using hl) h;simp[Ne.symm (Kc e),this]
def Qmf:Fv->Ga->Option (Fv×Fv)
 |is,[]=>some ([],is)
 |
  i::is,_::l=>match Qmf is l with
  |some (a,b)=>some (i::a,b)
  |none=>none
 | [],_::_=>none
theorem Qcv:∀{is:Fv} {l:Ga} {a b:Fv},Qmf is l=some (a,b)->is=a++b/\a.length=l.length
 |is,[],a,b,h=>by simp only[Qmf,Option.some.injEq,Prod.mk.injEq]at h;obtain⟨rfl,rfl⟩:=h;exact⟨rfl,rfl⟩
 |
  i::is,_::l,a,b,h=>by
  simp only[Qmf]at h
  split at h
  ·rename_i a' b' hh;obtain⟨h1,h2⟩:=Qcv hh;simp only[Option.some.injEq,Prod.mk.injEq]at h;obtain⟨rfl,rfl⟩:=h;exact⟨by rw[h1];rfl,by simp[h2]⟩
  ·cases h
 | [],_::_,_,_,h=>by cases h
def Qq2:Nat->Fv->Bool
 |_,[]=>true
 |
  k,i::l=>match Nat.beq i k with
  |true=>Qq2 (k+1) l
  |false=>false
theorem DZ:∀{k:Nat} {l:Fv},Qq2 k l=true->∀(j i:Nat),l[j]? = some i->i=k+j
 |_,[],_,j,i,h=>by simp at h
 |
  k,x::l,h,j,i,hi=>by
  simp only[Qq2]at h
  split at h
  ·rename_i e;cases j with
   |zero=>simp at hi;subst hi;exact Qu e
   |succ j=>have:=DZ h j i (by simpa using hi);omega
  ·cases h
def ndp:Fv->Bool
 | []=>true
 |
  i::l=>match Bf i l with
  |true=>false
  |false=>ndp l
theorem kE:∀{l:Fv},ndp l=true->∀i j k:Nat,l[i]? = some k->l[j]? = some k->i=j
 | [],_,i,j,k,h,_=>by simp at h
 |
  x::l,h,i,j,k,hi,hj=>by
  simp only[ndp]at h
  split at h
  ·cases h
  ·rename_i hn;have hx:x∉l:=λh=>by rw[Px.2 h]at hn;cases hn
   cases i with
   |
    zero =>
    cases j with
    |zero=>rfl
    |succ j=>simp at hi hj;subst hi;exact absurd (Qa hj) hx
   |
    succ i =>
    cases j with
    |zero=>simp at hi hj;subst hj;exact absurd (Qa hi) hx
    |succ j=>rw[kE h i j k (by simpa using hi) (by simpa using hj)]
def Qse(L:Sg)(B:Ga)(h:List (H P))(d f:Nat)(ys:Gb):St P:=match h with
 |
  .c (f:=f') (args:=args) (Bin:=Bin) (res:=res) (Bout:=Bout) is _::h=>match Nat.beq f f',lenB B,Qmf is Bin with
  |
   true,some nB,some (is1,is2)=>match Mg (nV (rnL is1)) args,Qpx is1 Bin with
   |
    some args',some ms=>match fF ys args',kl ms is1 L B with
    |
     some q,some (L1,B1)=>match eqB is1 B1 is1 Bin,Mg (VF (rnL is)) Bout with
     |
      some q2,some Bo=>match Qqk is1 Bo 0 B1,Mg (nV (rnL is)) res with
      |
       some B2,some res'=>match avF res' with
       |
        some u=>match ndp is,Qq2 nB is2,(An (Nat.blt · nB) is1 && Nat.beq is.length Bout.length)with
        |true,true,true=>some ((d,u)::L1,B2,h,q++q2,[])
        |_,_,_=>none
       |none=>none
      |_,_=>none
     |_,_=>none
    |_,_=>none
   |_,_=>none
  |_,_,_=>none
 |_=>none
def Qhw(L:Sg)(B:Ga)(h:List (H P))(d f:Nat)(ys:Gb):St P:=match Qsd L B h d f ys with
 |some r=>some r
 |none=>Qse L B h d f ys
theorem Qj2{α β:Type}{f:α->Option β}{l:List α}{r:List β}(h:Mg f l=some r):r.length=l.length:=(Iy h).1
theorem Qqt{is js:Fv}{c:Nat}(hp:Pre is js){l r:Ga}(h:Mg (VF (rnL is)) l=some r)(j:Nat):ob r j=I6 (TC js c) (ob l j):=by
 rcases kN h j with⟨h1,h2⟩|h1
 ·rw[Sx h1,Sx h2];rfl
 ·exact(eN hp h1).1
theorem rH{arr:Array Oper}{o:Oper}{N:Kp}{h h':List (H P)}{q:Li}{obs:List Prop}{d f:Nat}{us ys:Gb}{xs:Array Operand}{pre post:Fy}(hce:Cee P n o xs.toList f pre post L B)(hg:o.guard=none)(hd:o.dst=some d)(hdn:Nat.blt d n=true)
 (hus:evTs L xs.toList=some us) (hys:Ir (nI pre us post)=some ys) (hc:Qhw L B h d f ys=some (L',B',h',q,obs)) (hq:EqOk q) (k:N L' B'):W1 P arr n o N L B:=by
 unfold Qhw at hc
 split at hc
 ·rename_i r hcE;injection hc with hc;subst hc;rename_i hc;unfold Qsd at hcE
  split at hcE
  ·rename_i f' args Bin res Bout is hdo h2
   split at hcE
   ·rename_i hB hfr;simp only[Zn]at hB hfr;obtain rfl:=Qba hB.1;obtain rfl:=Qba hB.2
    split at hcE
    ·rename_i q2 hz
     split at hcE
     ·rename_i u hu;obtain⟨rfl,rfl,rfl,rfl,rfl⟩:=Cn hcE;have e0:=hq.hd;injection e0 with e0;subst e0;exact W1.call hdo hce hg hd hdn hus hys (TP hz hq.tl) hfr.1 hfr.2 (by rw[Qga hu];exact k)
     ·cases hcE
    ·cases hcE
   ·cases hcE
  ·cases hcE
 ·rename_i hne;clear hne;unfold Qse at hc
  split at hc
  ·rename_i f' args Bin res Bout is hdo h2
   split at hc
   ·rename_i nB is1 is2 e hnB hspl;obtain rfl:=Qu e;obtain rfl:=Ca hnB;obtain⟨hsp,hl1⟩:=Qcv hspl
    split at hc
    ·rename_i args' ms hargs hms
     split at hc
     ·rename_i q1 L1 B1 hz hkl
      split at hc
      ·rename_i q2 Bo hq2 hBo
       split at hc
       ·rename_i B2 res' hput hres
        split at hc
        ·rename_i u hu
         split at hc
         ·rename_i hnd hseq hlt;obtain⟨rfl,rfl,rfl,rfl,rfl⟩:=Cn hc;rw[Zn]at hlt;obtain⟨hlt,hlen⟩:=hlt;have hlen:=Qu hlen;have hlt:∀i∈is1,i<B.length:=λi hi=>by have:=Mk hlt i hi;rwa[Jp]at this
          obtain⟨hqa,hqb⟩:=hq.app;have hpre:Pre is1 is:=λi j hj=>by
           rw[Aw]at hj ⊢;rw[hsp,Q3 (Qd.1 hj).1];exact hj
          let c:=B.length+is.length
          obtain⟨ha1,ha2⟩:=CL (c:=c) hpre hargs;obtain⟨hr1,_⟩:=CL (c:=c) (Pre.refl is) hres;obtain⟨hk1,hk2,hk3⟩:=Qxo (n:=n) hkl;obtain⟨_,he2⟩:=Qin (c0:=c) hpre hq2 hqb;have hBol:=Qj2 hBo;obtain⟨hp1,hp2,hp3,hp4⟩:=Qcf hput;have hmv:=Qbw hms;have hi1:∀j,j<Bin.length->∃i,is1[j]? = some i/\TC is c j=i:=λj hj=>by
           have h1:is1[j]? = some is1[j]:=Qg (by omega);exact⟨_,h1,MJ hpre (by rw[Aw];exact h1)⟩
          have hall:∀j i,is[j]? = some i->i<c:=λj i hj=>by
           have hjl:=(Qd.1 hj).1;have hll:is.length=is1.length+is2.length:=by rw[hsp];simp
           rcases Q8 j is1.length with h|h
           ·rw[hsp,Q3 h]at hj;have:=hlt i (Qa hj);simp only[c];omega
           ·rw[hsp,Zk h]at hj;have:=DZ hseq _ _ hj;have:=(Qd.1 hj).1;simp only[c];omega
          have hrho:∀i j,TC is c i=TC is c j->i=j:=λi j e=>by
           simp only[TC,Aw]at e;cases hi:is[i]? with
           |
            none =>
            cases hj:is[j]? with
            |none=>simp only[hi,hj]at e;omega
            |some b=>simp only[hi,hj]at e;have:=hall j b hj;omega
           |
            some a =>
            cases hj:is[j]? with
            |none=>simp only[hi,hj]at e;have:=hall i a hi;omega
            |some b=>simp only[hi,hj]at e;subst e;exact kE hnd i j a hi hj
          have hobin:∀j,j<Bin.length->∃i b,is1[j]? = some i/\B1[i]? = some b/\(ob Bin j).lv=true/\((ob Bin j).mv=true->b.mv=true)/\XU b=XU (I6 (TC is c) (ob Bin j))/\∀k∈(ob Bin j).ids,k<is1.length:=λj hj=>by
           have h1:=Qg hj;rw[P5 h1];exact he2 j _ h1
          have hbg:∀j,¬j<Bin.length->ob Bin j=.gone:=λj hj=>Sx (by omega)
          have hBoutl:Bo.length=Bout.length:=hBol;refine W1.callD (ρ:=TC is c) (B1:=B1) (L1:=L1) hdo hce hg hd hdn hus hys ((TP hz hqa).trans ha1) hrho (λt ht i hi=>by have:=ha2 t ht i hi;omega) (λj i hi=>?_) (λj hj=>?_) (λj hj=>?_) (λj h1 h2=>?_) (by omega) hk1 hk2 (λj hj=>?_) (λj hj=>?_) (λj hj=>?_) (λi hi hn=>?_) (by rw[hp2,hk2];omega) ?_
          ·rcases Q8 j Bin.length with hj|hj
           ·obtain⟨_,_,_,_,_,_,_,h9⟩:=hobin j hj;have:=h9 i hi;omega
           ·rw[Sx hj]at hi;simp[OB.ids]at hi
          ·obtain⟨_,_,_,_,h5,_⟩:=hobin j hj;exact h5
          ·obtain⟨i,h1,h2⟩:=hi1 j hj;rw[h2];exact hlt i (Qa h1)
          ·have hll:is.length=is1.length+is2.length:=by rw[hsp];simp
           have h3:is[j]? = is2[j-is1.length]? := by rw[hsp,Zk (by omega)]
           have h4:is2[j-is1.length]? = some is2[j-is1.length]:=Qg (by omega);have h5:=DZ hseq _ _ h4;rw[h4]at h3;have:TC is c j=is2[j-is1.length]:=MJ (Pre.refl is) (by rw[Aw];exact h3);rw[this,h5,hl1]
          ·have hjl:j<Bin.length:=by
            apply Classical.byContradiction;intro hn;rw[hbg j hn]at hj;cases hj
           obtain⟨i,h1,h2⟩:=hi1 j hjl;have hb:=Qg hjl;rw[P5 hb]at hj;have:=hmv j i _ h1 hb hj;rw[h2];refine⟨(hk3 i this).1,λm hm=>(hk3 i this).2 m λhmi=>?_⟩;obtain⟨j',hj'⟩:=Zp.1 hmi;have hjl':j'<Bin.length:=by have:=(Qd.1 hj').1;omega
           obtain⟨i',h3,h4⟩:=hi1 j' hjl';rw[hj']at h3;injection h3 with h3;exact hm j' hjl' (h4.trans h3.symm)
          ·obtain⟨i,b,h1,h3,h5,h6,h7,_⟩:=hobin j hj;obtain⟨i',h1',h2⟩:=hi1 j hj;rw[h1]at h1';injection h1' with h1';subst h1'
           rw[h2,P5 h3];exact⟨h7,h6⟩
          ·have hBj:=Qqt (c:=c) (Pre.refl is) hBo j;rcases Q8 j Bin.length with h|h
           ·obtain⟨i,h1,h2⟩:=hi1 j h;have hil:=hlt i (Qa h1);rw[h2];obtain⟨h3,h3m⟩:=hp3 i (by omega);rw[Xd]at h3;cases hf:SL is1 Bo i with
            |none=>exact absurd (Qa h1) (zL (by omega) hf)
            |
             some b =>
             rw[hf]at h3;have h3:ob B2 i=flO (ob B1 i) b:=h3;obtain⟨j',h4,h5⟩:=SE hf;have:j'=j:=kE hnd j' j i (by rw[hsp,Q3 (Qd.1 h4).1];exact h4) (by rw[hsp,Q3 (Qd.1 h1).1];exact h1);subst this;rw[P5 h5]at hBj;exact⟨by rw[h3,dK,hBj],λ_=>h3m⟩
           ·have h1:=hp4 (j-Bin.length);have e1:is1.length+(j-Bin.length)=j:=by omega
            rw[e1]at h1;have hll:is.length=is1.length+is2.length:=by rw[hsp];simp
            have h3:is[j]? = is2[j-is1.length]? := by rw[hsp,Zk (by omega)]
            have h4:is2[j-is1.length]? = some is2[j-is1.length]:=Qg (by omega);have h5:=DZ hseq _ _ h4;rw[h4]at h3;have e2:TC is c j=is2[j-is1.length]:=MJ (Pre.refl is) (by rw[Aw];exact h3);rw[e2,h5,<-hk2,hl1,h1,hBj];exact⟨rfl,λh'=>by omega⟩
          ·have h3:=(hp3 i (by omega)).1;rw[Xd]at h3;cases hf:SL is1 Bo i with
           |none=>rw[hf]at h3;exact h3
           |
            some b =>
            obtain⟨j',h4,_⟩:=SE hf;have hjl':j'<Bin.length:=by have:=(Qd.1 h4).1;omega
            obtain⟨i',h5,h6⟩:=hi1 j' hjl';rw[h4]at h5;injection h5 with h5;exact absurd (h6.trans h5.symm) (hn j' hjl')
          ·rw[<-hr1,Qga hu];exact k
         ·cases hc
        ·cases hc
       ·cases hc
      ·cases hc
     ·cases hc
    ·cases hc
   ·cases hc
  ·cases hc
end Orr
namespace Orr
open Go
variable{P:Program}{n:Nat}{L L':Sg}{B B':Ga}{Q:Exit->Sg->Ga->Prop}
def JI:Li->Li->Li
 | [],l=>l
 |x::r,l=>x::JI r l
theorem Nz:∀{a b:Li},JI a b=a++b
 | [],_=>rfl
 |_::_,_=>by simp[JI,Nz]
def Qji:List (H P)->Option Nat
 | @H.c _ f _ _ _ _ _ _::_=>some f
 | .p _::r=>Qji r
 | .lo::r=>Qji r
 |_=>none
def msF:List (Nat×Nat×String)->Nat->Option (Nat×String)
 | [],_=>none
 |
  (g,off,nm)::l,f=>match Nat.beq g f with
  |true=>some (off,nm)
  |false=>msF l f
theorem Qj8:∀{l:List (Nat×Nat×String)} {f off:Nat} {nm:String},msF l f=some (off,nm)->(f,off,nm)∈l
 |
  (g,o,s)::l,f,off,nm,h=>by
  simp only[msF]at h
  split at h
  ·rename_i e;obtain rfl:=Qu e;injection h with h;injection h with h1 h2;subst h1;subst h2;exact Qw ..
  ·exact Qi _ (Qj8 h)
def oC(T:TT P)(L:Sg)(h:List (H P))(c:Callee)(xs:List Operand):Option (Nat×Gb×Li):=match c with
 |
  .value x=>match evT L x with
  |
   some (.one fv)=>match Qo7 fv with
   |
    some (f,pre,post)=>match evTs L xs with
    |
     some us=>match Ir (nI pre us post)with
     |some ys=>some (f,ys,[])
     |none=>none
    |none=>none
   |none=>none
  |_=>none
 |
  .invoke r name=>match evT L r,Qji h with
  |
   some (.one (.oif t i off)),some f=>match T.find t with
   |
    some ti=>match msF ti.ms f with
    |
     some (d,nm)=>match nD off d,evTs L xs with
     |
      some s,some us=>match Ir (nI [.ow i s] us [])with
      |some ys=>some (f,ys,[(.s name,.s nm)])
      |none=>none
     |_,_=>none
    |none=>none
   |none=>none
  |_,_=>none
 | .builtin _=>none
def oD(q0:Li)(L:Sg)(B:Ga)(h:List (H P))(d f:Nat)(ys:Gb):St P:=match Qhw L B h d f ys with
 |some (L',B',h',q,ob)=>some (L',B',h',JI q0 q,ob)
 |none=>none
theorem oI{T:TT P}{arr:Array Oper}{o:Oper}{N:Kp}{h h':List (H P)}{q q0:Li}{ob:List Prop}{d f:Nat}{ys:Gb}{c:Callee}{xs:Array Operand}{ats:Array TypeId}(ho:o.op=.call { callee:=c,args:=xs,argTypes:=ats })(hg:o.guard=none)(hd:o.dst=some d)(hdn:Nat.blt d n=true)
 (ha:oC T L h c xs.toList=some (f,ys,q0)) (hc:oD q0 L B h d f ys=some (L',B',h',q,ob)) (hq:EqOk q) (k:N L' B'):W1 P arr n o N L B:=by
 unfold oD at hc
 split at hc
 ·rename_i L2 B2 h2 q2 ob2 hc';obtain⟨rfl,rfl,rfl,rfl,rfl⟩:=Cn hc;rw[Nz]at hq;have hq0:EqOk q0:=λp hp=>hq p (Qr.2 (.inl hp))
  have hq2:EqOk q2:=λp hp=>hq p (Qr.2 (.inr hp))
  unfold oC at ha
  split at ha
  ·rename_i x
   split at ha
   ·rename_i fv hx
    split at ha
    ·rename_i f pre post hfv
     split at ha
     ·rename_i us hus
      split at ha
      ·rename_i ys hys;injection ha with ha;injection ha with e1 ha;injection ha with e2 e3;subst e1;subst e2;exact rH (Cee.value ho hx hfv) hg hd hdn hus hys hc' hq2 k
      ·cases ha
     ·cases ha
    ·cases ha
   ·cases ha
  ·rename_i r name
   split at ha
   ·rename_i t i off f hr hf
    split at ha
    ·rename_i ti hti
     split at ha
     ·rename_i dd nm hms
      split at ha
      ·rename_i s us hs hus
       split at ha
       ·rename_i ys hys;injection ha with ha;injection ha with e1 ha;injection ha with e2 e3;subst e1;subst e2;subst e3;have hnm:=hq0 _ (Qo.2 rfl);injection hnm with hnm;subst hnm;have hm:=ti.hms _ (Qj8 hms);rw[TT.find_t hti]at hm;exact rH (Cee.invoke ho hr hm (yP hs)) hg hd hdn hus hys hc' hq2 k
       ·cases ha
      ·cases ha
     ·cases ha
    ·cases ha
   ·cases ha
  ·cases ha
 ·cases hc
end Orr
namespace Orr
open Go
variable{P:Program}{arr:Array Oper}{n:Nat}{o:Oper}{F:Fr}{E:Lf}{M:Nat->Prop}{a:Act}{w:World}
theorem Qrp{o:Oper}{a:Act}{w:World}{K1 K2:Act->World->Prop}{Q1 Q2:Exit->Act->World->Prop}(hd:a.defers=[])
 (hK:∀a' w',K1 a' w'->a'.defers=[]/\((∃v,a'=a.put o.dst v)->K2 a' w')) (hp:∀c a w,¬Q1 (.panic c) a w) (ho:¬LetsOut Q1) (h:o.wp P a w K1 Q1):o.wp P a w K2 Q2:=by
 unfold Oper.wp at *;generalize (execOp a.eval o).run P w=r at *;cases r with
 |
  ok nx w' =>
  cases nx <;> simp only[Oper.upon]at h ⊢
  case value v=>exact(hK _ _ h).2 ⟨v,rfl⟩
  case skip=>exact(hK _ _ h).2 ⟨_,rfl⟩
  case defer d =>
   have:=(hK _ _ h).1;cases hdst:o.dst <;> simp[Act.put,hdst]at this
  case enter f args =>
   refine Calls.mono h λe w'' he=>?_
   cases e with
   |returned v=>exact(hK _ _ he).2 ⟨v,rfl⟩
   |panicked c=>exact absurd he (hp _ _ _)
   |outgrown=>exact absurd he ho
  case row row args=>exact Rows.mono h λv w'' he=>(hK _ _ he).2 ⟨v,rfl⟩
 |
  halt x w' =>
  cases x <;> simp only[Oper.upon]at h ⊢
  case panic v=>exact absurd h (hp _ _ _)
theorem Qmi{K1 K2:Act->World->Prop}{Q:Exit->Act->World->Prop}(hd:a.defers=[])(hK:∀a' w',K1 a' w'->a'.defers=[]/\((∃v,a'=a.put o.dst v)->K2 a' w'))(h:aT P arr o a w K1 λ_ _ _=>False):aT P arr o a w K2 Q:=by
 have hno:¬LetsOut λ(_:Exit) (_:Act) (_:World)=>False:=λ⟨_,_,h⟩=>h
 unfold aT at *
 split
 ·rename_i hw;rw[if_pos hw]at h;exact .inl (Qrp hd hK (λ_ _ _ h=>h) hno (h.resolve_right λh=>hno h.2))
 ·rename_i hw;rw[if_neg hw]at h;exact(hK _ _ h).2 ⟨_,rfl⟩
structure SF(F:Fr)(n:Nat)(sl:Nat->Option AV)(bl:Nat->OB)(U:Nat->Prop)(E:Lf)(M:Nat->Prop)(a:Act)(w:World):Prop where
 hs:HS F bl U E M w
 size:a.tmps.size=n
 defers:a.defers=[]
 slots:∀t x,sl t=some x->∃v,a.tmps[t]? = some v/\ARep w M E v x
def B6{α:Type}:List (Nat×α)->Nat->Option α
 | [],_=>none
 |
  (t,v)::l,s=>match Nat.beq s t with
  |true=>some v
  |false=>B6 l s
def QW{α:Type}(f:Nat->α)(l:List (Nat×α)):Nat->α:=λt=>match B6 l t with
 |some v=>v
 |none=>f t
structure Rc where
 L0:Sg
 B0:List OB
 L1:Sg
 B1:List OB
 ws:List (Nat×Option AV)
 wb:List (Nat×OB)
 mv:Option Nat
def Rc.act(r:Rc)(j:Nat):Prop:=(ob r.B0 j).lv=true\/r.B0.length<=j/\j<r.B1.length
structure Loc(r:Rc)(sl:Nat->Option AV)(bl:Nat->OB)(U:Nat->Prop):Prop where
 l0:∀t x,lk r.L0 t=some x->sl t=some x
 b0:∀j,(ob r.B0 j).lv=true->XU (bl j)=XU (ob r.B0 j)/\((ob r.B0 j).mv=true->(bl j).mv=true)/\∀b,B6 r.wb j=some b->b.mv=true->(bl j).mv=true
 new:∀j,r.B0.length<=j->j<r.B1.length->U j
 mvs:∀i,r.mv=some i->(∀t x,sl t=some x->i∈x.ids->(B6 r.ws t).isSome=true)/\∀j,i∈(bl j).ids->(B6 r.wb j).isSome=true
 kl:∀j b,B6 r.wb j=some b->¬r.act j->∃i,r.mv=some i/\VF (E4 i) (bl j)=some b
structure Wf(P:Program)(arr:Array Oper)(n:Nat)(o:Oper)(r:Rc):Prop where
 w1:W1 P arr n o (λL B=>L=r.L1/\B=r.B1) r.L0 r.B0
 ids0:∀t x,lk r.L0 t=some x->∀i∈x.ids,i<r.B0.length
 idsb:∀j,∀i∈(ob r.B0 j).ids,i<r.B0.length
 mv0:∀j,(ob r.B0 j).mv=true->r.mv=some j
 mv1:∀j,r.mv=some j->(ob r.B0 j).lv=true/\(B6 r.wb j).isSome=true
 ws1:∀t x,B6 r.ws t=some (some x)->lk r.L1 t=some x
 ws2:∀t,o.dst=some t->(B6 r.ws t).isSome=true
 wb1:∀j b,B6 r.wb j=some b->r.act j->XU b=XU (ob r.B1 j)
 wb2:∀j,r.act j->B6 r.wb j=none->XU (ob r.B1 j)=XU (ob r.B0 j)/\(ob r.B0 j).lv=true
theorem eT:∀b:OB,I6 id b=b
 |
  .blk T xs=>by
  have e:∀ys:Fy,ys.map (uZ id)=ys:=λys=>by
   induction ys with
   |nil=>rfl
   |cons y ys ih=>simp only[Zx,ih];cases y <;> rfl
  have e2:∀ys:Fy,ys.map (FV id)=ys:=λys=>by
   induction ys with
   |nil=>rfl
   |cons y ys ih=>simp only[Zx,ih];cases y <;> simp[FV,e]
  simp only[I6,e2]
 | .gone=>rfl
 | .row .. => rfl
 | .mpb _=>rfl
theorem Loc.step{r:Rc}{sl:Nat->Option AV}{bl:Nat->OB}{U:Nat->Prop}(hl:Loc r sl bl U)(hw:Wf P arr n o r)(h:SF F n sl bl U E M a w){K:Act->World->Prop}{Q:Exit->Act->World->Prop}
 (hK:∀a' w' E' M',SF F n (QW sl r.ws) (QW bl r.wb) (λj=>U j/\¬(r.B0.length<=j/\j<r.B1.length)) E' M' a' w'->K a' w'):aT P arr o a w K Q:=by
 have hlv0:∀j,(ob r.B0 j).lv=true->j<r.B0.length:=λj hj=>by
  apply Classical.byContradiction;intro hn;rw[Sx (by omega)]at hj;cases hj
 have hkill:∀j,¬r.act j->OBRep w M E j (QW bl r.wb j)/\(QW bl r.wb j).lv=(bl j).lv/\(QW bl r.wb j).mv=(bl j).mv/\(bl j=.gone->QW bl r.wb j=.gone)/\∀i,r.mv=some i->i∉(QW bl r.wb j).ids:=λj hj=>by
  simp only[QW]
  split
  ·rename_i b hb;obtain⟨i,hi,hk⟩:=hl.kl j b hb hj;obtain⟨e1,e2,e3⟩:=UE hk;refine⟨wZ sF hk (h.hs.blk j),e1,e2,e3,λi' hi'=>?_⟩;rw[hi]at hi';injection hi' with hi';subst hi'
   cases hbj:bl j <;> rw[hbj]at hk <;> simp only[VF,Option.some.injEq]at hk <;> first|(rw[<-hk];simp[OB.ids];done)|skip
   split at hk
   ·rename_i r' hr';injection hk with hk;rw[<-hk];exact HN (λ_ _=>PT) hr'
   ·cases hk
  ·rename_i hb;refine⟨h.hs.blk j,rfl,rfl,id,λi hi hm=>?_⟩;have:=(hl.mvs i hi).2 j hm;rw[hb]at this;cases this
 let blx:Nat->OB:=λj=>if (ob r.B0 j).lv=true then ob r.B0 j else if r.B0.length<=j/\j<r.B1.length then bl j else QW bl r.wb j
 have hx1:∀j,(ob r.B0 j).lv=true->blx j=ob r.B0 j:=λj hj=>if_pos hj
 have hx2:∀j,¬r.act j->blx j=QW bl r.wb j:=λj hj=>by
  simp only[blx];rw[if_neg λh=>hj (.inl h),if_neg λh=>hj (.inr h)]
 have hx3:∀j,r.B0.length<=j/\j<r.B1.length->blx j=bl j:=λj hj=>by
  simp only[blx];rw[if_neg λh=>by have:=hlv0 j h;omega,if_pos hj]
 have hcase:∀j,(ob r.B0 j).lv=true\/(r.B0.length<=j/\j<r.B1.length)\/¬r.act j:=λj=>by
  by_cases h1:(ob r.B0 j).lv=true
  ·exact .inl h1
  ·by_cases h2:r.B0.length<=j/\j<r.B1.length
   ·exact .inr (.inl h2)
   ·exact .inr (.inr λh=>h.elim h1 h2)
 have hsx:HS F blx U E M w:=by
  have h1:∀j,OBRep w M E j (blx j)/\(blx j).lv=(bl j).lv/\((blx j).mv=true->(bl j).mv=true)/\(bl j=.gone->blx j=.gone):=λj=>by
   rcases hcase j with hj|hj|hj
   ·rw[hx1 j hj];obtain⟨e1,e2,_⟩:=hl.b0 j hj;exact⟨Qa5 e1 (h.hs.blk j),(PQ e1).symm,e2,λe=>by rw[e]at e1;have:=PQ e1;rw[hj]at this;cases this⟩
   ·rw[hx3 j hj];exact⟨h.hs.blk j,rfl,id,id⟩
   ·rw[hx2 j hj];obtain⟨e1,e2,e3,e4,_⟩:=hkill j hj;exact⟨e1,e2,λh=>e3 ▸ h,e4⟩
  exact { h.hs with
   nj:=λi hi=>h.hs.nj i ((h1 i).2.2.1 hi)
   blk:=λi=>(h1 i).1
   nk:=λi g c m hi=>h.hs.nk i g c m (by rw[<-(h1 i).2.1];exact hi)
   inj:=λi j g c m c' m' hi hj=>h.hs.inj i j g c m c' m' (by rw[<-(h1 i).2.1];exact hi) (by rw[<-(h1 j).2.1];exact hj)
   un:=λi hi=>⟨(h.hs.un i hi).1,(h1 i).2.2.2 (h.hs.un i hi).2⟩ }
 let E':Lf:=λj=>if r.B0.length<=j then none else E j
 have hE':∀j,j<r.B0.length->E' j=E j:=λj hj=>if_neg (by omega)
 have hsub:HS (prt (ob r.B0) (nw r.B0) E' M w) (ob r.B0) (nw r.B0) E' M w:=hsx.sub (ρ:=id) (λj hj=>by rw[eT];exact hx1 j hj)
  (λ_ _ e=>e) (λj hj=>Sx hj) (λj hj=>if_pos hj) (λj hj=>hE' j (by simpa[nw]using hj)) (λj i hi=>by have:=hw.idsb j i hi;simp only[nw];omega)
 have hsa:SA (prt (ob r.B0) (nw r.B0) E' M w) n r.L0 r.B0 E' M a w:=⟨hsub,h.size,h.defers,λt x hx=>by
  obtain⟨v,h1,h2⟩:=h.slots t x (hl.l0 t x hx);exact⟨v,h1,h2.keep (Le.refl _ _) λi hi _=>hE' i (hw.ids0 t x hx i hi)⟩⟩
 refine Qmi (K1:=λa' w'=>∃E1 M1,SA (prt (ob r.B0) (nw r.B0) E' M w) n r.L1 r.B1 E1 M1 a' w') h.defers (λa' w' ⟨E1,M1,h1⟩=>⟨h1.defers,λ⟨v,ha⟩=>?_⟩) (hw.w1 _ _ _ _ _ _ _ hsa λa' w' L' B' E1 M1 h1 ⟨e1,e2⟩=>by subst e1;subst e2;exact⟨E1,M1,h1⟩);have dec:∀j,r.act j\/¬r.act j:=λj=>Classical.em _
 let E2:Lf:=λj=>if (ob r.B0 j).lv=true\/r.B0.length<=j/\j<r.B1.length then E1 j else E j
 let bl2:Nat->OB:=λj=>if (ob r.B0 j).lv=true\/r.B0.length<=j/\j<r.B1.length then ob r.B1 j else blx j
 have kb:Back blx (ob r.B0) (ob r.B1) bl2 U (nw r.B0) (nw r.B1) (λj=>U j/\¬(r.B0.length<=j/\j<r.B1.length)) E E' E1 E2 id r.act:={
  inj:=λ_ _ e=>e
  hb:=λj hj=>by rw[eT];exact hx1 j hj
  e':=λj hj=>hE' j (by simpa[nw]using hj)
  a0:=λj hj=>⟨.inl hj,by have:=hlv0 j hj;simp only[nw];omega⟩
  a1:=λj hj=>hj.imp id λh=>⟨h.1,hl.new j h.1 h.2⟩
  a2:=λj h1 h2=>.inr ⟨h1,by simpa[nw]using h2⟩
  hit:=λj hj=>⟨if_pos hj,by rw[eT];exact if_pos hj⟩
  no:=λi hi=>⟨if_neg λh=>hi i h rfl,if_neg λh=>hi i h rfl⟩
  u2:=λi hi=>⟨hi.1,λj hj e=>by
   have e:j=i:=e;subst e;rcases hj with hj|hj
   ·have h1:=(h.hs.un j hi.1).2;have h2:=(hl.b0 j hj).1;rw[h1]at h2;rw[<-PQ h2]at hj;cases hj
   ·exact hi.2 hj⟩
  mv:=λj hj i hi hm=>by
   have hn:¬r.act i:=λh=>hi i h rfl
   rw[hx2 i hn]at hm;exact(hkill i hn).2.2.2.2 j (hw.mv0 j hj) hm }
 have hs2:=HS.back kb hsx h1.hs;have hle:=BM kb hsx h1.hs;have hfl:HS F (QW bl r.wb) (λj=>U j/\¬(r.B0.length<=j/\j<r.B1.length)) E2 M1 w':=by
  refine hs2.flag (λj=>?_) λj hj=>?_
  ·rcases dec j with hj|hj
   ·rw[show bl2 j=ob r.B1 j from if_pos hj];simp only[QW]
    split
    ·rename_i b hb;exact(hw.wb1 j b hb hj).symm
    ·rename_i hb;obtain⟨e1,e2⟩:=hw.wb2 j hj hb;exact e1.trans (hl.b0 j e2).1.symm
   ·rw[show bl2 j=blx j from if_neg hj,hx2 j hj]
  ·rcases hcase j with hj'|hj'|hj'
   ·simp only[QW]at hj
    split at hj
    ·rename_i b hb;exact h.hs.nj j ((hl.b0 j hj').2.2 b hb hj)
    ·exact h.hs.nj j hj
   ·exact h.hs.uj j (hl.new j hj'.1 hj'.2)
   ·rw[(hkill j hj').2.2.1]at hj;exact h.hs.nj j hj
 refine hK a' w' E2 M1 ⟨hfl,h1.size,h1.defers,λt x hx=>?_⟩;simp only[QW]at hx
 split at hx
 ·rename_i y hy;subst hx;obtain⟨v',h2,h3⟩:=h1.slots t x (hw.ws1 t x hy);exact⟨v',h2,h3.keep (Le.refl _ _) λi _ hi=>DT kb hsx h1.hs hi⟩
 ·rename_i hy;have hne:o.dst≠some t:=λe=>by have:=hw.ws2 t e;rw[hy]at this;cases this
  obtain⟨v',h2,h3⟩:=h.slots t x hx;refine⟨v',?_,h3.keep hle λi hi hne'=>TE kb hsx h1.hs hne' λj hj e=>?_⟩
  ·rw[ha];cases hd:o.dst with
   |none=>exact h2
   |
    some d =>
    simp only[Act.put];rw[Array.getElem?_setIfInBounds_ne (λe=>hne (by rw[hd,e]))];exact h2
  ·have e:j=i:=e;subst e;have:=(hl.mvs j (hw.mv0 j hj)).1 t x hx hi;rw[hy]at this;cases this
end Orr
namespace Orr
open Go
variable{P:Program}{n:Nat}{Q:Exit->Act->World->Prop}{F:Fr}
def Rc.nw_(r:Rc)(j:Nat):Prop:=r.B0.length<=j/\j<r.B1.length
def Ov(mvs:Fv)(r:Rc)(sl:Nat->Option AV)(bl:Nat->OB):Prop :=
 (∀t y,(B6 r.ws t).isSome=true->sl t=some y->∀i∈y.ids,i∈mvs->r.mv=some i)/\∀j,(B6 r.wb j).isSome=true->∀i∈(bl j).ids,i∈mvs->r.mv=some i
def DR(R:Nat->Rc)(mvs:Fv)(N:(Nat->Option AV)->(Nat->OB)->(Nat->Prop)->Prop):Fv->(Nat->Option AV)->(Nat->OB)->(Nat->Prop)->Prop
 | [],sl,bl,U=>N sl bl U
 |i::l,sl,bl,U=>Loc (R i) sl bl U/\Ov mvs (R i) sl bl/\DR R mvs N l (QW sl (R i).ws) (QW bl (R i).wb) (λj=>U j/\¬(R i).nw_ j)
structure Dj1(p x:Rc):Prop where
 rd:∀t,(B6 p.ws t).isSome=true->lk x.L0 t=none
 ws:∀t,(B6 p.ws t).isSome=true->B6 x.ws t=none
 wb:∀j,(B6 p.wb j).isSome=true->(ob x.B0 j).lv=false/\B6 x.wb j=none
 mv:∀i,p.mv=some i->(∀t y,B6 x.ws t=some (some y)->i∉y.ids)/\∀j b,B6 x.wb j=some b->i∉b.ids
 nw:∀j,p.nw_ j->¬x.nw_ j
theorem D8{α:Type}{o:Option α}(h:¬o.isSome=true):o=none:=by cases o <;> first|rfl|(exact absurd rfl h)
theorem Nq{α:Type}{f:Nat->α}{l:List (Nat×α)}{t:Nat}(h:B6 l t=none):QW f l t=f t:=by simp[QW,h]
theorem Dj1.loc{p x:Rc}{mvs:Fv}{sl:Nat->Option AV}{bl:Nat->OB}{U:Nat->Prop}(d:Dj1 p x)(d':Dj1 x p)(hx:x.mv.all (mvs.contains ·)=true)(hx1:∀j,x.mv=some j->(ob x.B0 j).lv=true)(hp1:∀j,p.mv=some j->(B6 p.wb j).isSome=true)(ho:Ov mvs p sl bl)
 (h:Loc x (QW sl p.ws) (QW bl p.wb) λj=>U j/\¬p.nw_ j):Loc x sl bl U:=by
 have hno:∀i,x.mv=some i->i∈mvs/\p.mv≠some i:=λi hi=>by
  rw[hi]at hx;refine⟨by simpa using hx,λe=>?_⟩;have:=(d.wb i (hp1 i e)).1;rw[hx1 i hi]at this;cases this
 refine⟨λt y hy=>?_,λj hj=>?_,λj h1 h2=>(h.new j h1 h2).1,λi hi=>⟨λt y hy hm=>?_,λj hm=>?_⟩,λj b hb hn=>?_⟩
 ·have h1:=h.l0 t y hy;rwa[Nq (D8 λe=>by rw[d.rd t e]at hy;cases hy)]at h1
 ·have h1:=h.b0 j hj;rwa[Nq (D8 λe=>by rw[(d.wb j e).1]at hj;cases hj)]at h1
 ·by_cases e:(B6 p.ws t).isSome=true
  ·obtain⟨h1,h2⟩:=hno i hi;exact absurd (ho.1 t y e hy i hm h1) h2
  ·exact(h.mvs i hi).1 t y (by rw[Nq (D8 e)];exact hy) hm
 ·by_cases e:(B6 p.wb j).isSome=true
  ·obtain⟨h1,h2⟩:=hno i hi;exact absurd (ho.2 j e i hm h1) h2
  ·exact(h.mvs i hi).2 j (by rw[Nq (D8 e)];exact hm)
 ·have h1:=h.kl j b hb hn;rwa[Nq (d'.wb j (by rw[hb];rfl)).2]at h1
theorem Dj1.loc'{p x:Rc}{sl:Nat->Option AV}{bl:Nat->OB}{U:Nat->Prop}(d:Dj1 p x)(d':Dj1 x p)(h:Loc p sl bl U):Loc p (QW sl x.ws) (QW bl x.wb) λj=>U j/\¬x.nw_ j:=by
 refine⟨λt y hy=>?_,λj hj=>?_,λj h1 h2=>⟨h.new j h1 h2,λh3=>d.nw j ⟨h1,h2⟩ h3⟩,λi hi=>⟨λt y hy hm=>?_,λj hm=>?_⟩,λj b hb hn=>?_⟩
 ·rw[Nq (D8 λe=>by rw[d'.rd t e]at hy;cases hy)];exact h.l0 t y hy
 ·rw[Nq (D8 λe=>by rw[(d'.wb j e).1]at hj;cases hj)];exact h.b0 j hj
 ·simp only[QW]at hy
  split at hy
  ·rename_i v hv;subst hy;exact absurd hm ((d.mv i hi).1 t y hv)
  ·exact(h.mvs i hi).1 t y hy hm
 ·simp only[QW]at hm
  split at hm
  ·rename_i b hb;exact absurd hm ((d.mv i hi).2 j b hb)
  ·exact(h.mvs i hi).2 j hm
 ·rw[Nq (d.wb j (by rw[hb];rfl)).2];exact h.kl j b hb hn
theorem Ov.of{mvs:Fv}{r r':Rc}{sl:Nat->Option AV}{bl:Nat->OB}(d:Dj1 r r')(h:Ov mvs r sl bl):Ov mvs r (QW sl r'.ws) (QW bl r'.wb) :=
 ⟨λt y ht hy=>h.1 t y ht (by rwa[Nq (d.ws t ht)]at hy),λj hj i hi=>h.2 j hj i (by rwa[Nq (d.wb j hj).2]at hi)⟩
theorem Ov.to{mvs:Fv}{r r':Rc}{sl:Nat->Option AV}{bl:Nat->OB}(d:Dj1 r r')(h:Ov mvs r (QW sl r'.ws) (QW bl r'.wb)):Ov mvs r sl bl :=
 ⟨λt y ht hy=>h.1 t y ht (by rw[Nq (d.ws t ht)];exact hy),λj hj i hi=>h.2 j hj i (by rw[Nq (d.wb j hj).2];exact hi)⟩
theorem nU{α:Type}{f:Nat->α}{a b:List (Nat×α)}(h:∀t,(B6 a t).isSome=true->B6 b t=none):QW (QW f a) b=QW (QW f b) a:=by
 funext t;simp only[QW];cases ha:B6 a t with
 |none=>cases B6 b t <;> rfl
 |some v=>rw[h t (by rw[ha];rfl)]
section
variable{R:Nat->Rc}{mvs:Fv}{N:(Nat->Option AV)->(Nat->OB)->(Nat->Prop)->Prop}
structure Dj(mvs:List Nat)(p x:Rc):Prop where
 a:Dj1 p x
 b:Dj1 x p
 m:x.mv.all (mvs.contains ·)=true
 x1:∀j,x.mv=some j->(ob x.B0 j).lv=true
 p1:∀j,p.mv=some j->(B6 p.wb j).isSome=true
theorem DR.swap{p x:Nat}{l:Fv}{sl:Nat->Option AV}{bl:Nat->OB}{U:Nat->Prop}(d:Dj mvs (R p) (R x))(h:DR R mvs N (p::x::l) sl bl U):DR R mvs N (x::p::l) sl bl U:=by
 obtain⟨h1,h2,h3,h4,h5⟩:=h;refine⟨d.a.loc d.b d.m d.x1 d.p1 h2 h3,h4.to d.b,d.a.loc' d.b h1,h2.of d.a,?_⟩;rw[nU (a:=(R x).ws) (b:=(R p).ws) d.b.ws,nU (a:=(R x).wb) (b:=(R p).wb) λj hj=>(d.b.wb j hj).2];have e:(λj=>(U j/\¬(R x).nw_ j)/\¬(R p).nw_ j)=λj=>(U j/\¬(R p).nw_ j)/\¬(R x).nw_ j:=by
  funext j;exact propext ⟨λ⟨⟨a,b⟩,c⟩=>⟨⟨a,c⟩,b⟩,λ⟨⟨a,b⟩,c⟩=>⟨⟨a,c⟩,b⟩⟩
 rw[e];exact h5
theorem DR.front{i:Nat}:∀{l1 l2:Fv} {sl:Nat->Option AV} {bl:Nat->OB} {U:Nat->Prop},(∀p∈l1,Dj mvs (R p) (R i))->DR R mvs N (l1++i::l2) sl bl U->DR R mvs N (i::(l1++l2)) sl bl U
 | [],_,_,_,_,_,h=>h
 |
  p::l1,l2,sl,bl,U,hd,h=>by
  obtain⟨h1,h2,h3⟩:=h;exact DR.swap (hd p (.head _)) ⟨h1,h2,DR.front (l1:=l1) (λq hq=>hd q (.tail _ hq)) h3⟩
end
def UX(ops:List Oper)(i:Nat):Fv:=match ops[i]? with
 |none=>[]
 |some o=>o.after.toList.filterMap λe=>if Region.binds .any e then some e.on else none
structure Cl(l:List Oper)(cl:Nat->Nat->Bool):Prop where
 down:∀i,i<l.length->∀j∈UX l i,j<i
 closed:∀i,i<l.length->∀p,cl i p=true->p∈UX l i\/∃j∈UX l i,cl j p=true
theorem MX{l:List Oper}{listed:Array Bool}{i:Nat}:i∈Region.ready .any l.toArray listed↔listed.getD i true=false/\i<l.length/\∀j∈UX l i,listed.getD j false=true:=by
 constructor
 ·intro h;obtain⟨h0,o,ho,hall⟩:=mem_ready.1 h;have ho':l[i]? = some o:=by simpa using ho
  refine⟨h0,(Qd.1 ho').1,λj hj=>?_⟩;simp only[UX,ho',Vn]at hj;obtain⟨e,he,hb⟩:=hj
  split at hb
  ·rename_i hbind;injection hb with hb;subst hb;exact hall e (by simpa using he) hbind
  ·cases hb
 ·rintro⟨h0,hi,hp⟩
  refine mem_ready.2 ⟨h0,l[i],by simp[hi],λe he hb=>hp _ ?_⟩;simp only[UX,Qg hi,Vn];exact⟨e,by simpa using he,by simp[hb]⟩
theorem vI{listed:Array Bool}{j:Nat}(hj:j<listed.size):listed.getD j true=listed.getD j false:=by simp[Array.getD,hj]
theorem Qif{l:List Oper}{R:Nat->Rc}{mvs:Fv}{cl:Nat->Nat->Bool}{N:(Nat->Option AV)->(Nat->OB)->(Nat->Prop)->Prop}(hc:Cl l cl)(hw:∀i o,l[i]? = some o->Wf P l.toArray n o (R i))(hd:∀i,i<l.length->∀p,p<i->cl i p=false->Dj mvs (R p) (R i))
 (hq:∀a w sl bl U E M,SF F n sl bl U E M a w->N sl bl U->Q .normal a w) :
 ∀(fuel:Nat) (listed:Array Bool) (rem:Fv) (sl:Nat->Option AV) (bl:Nat->OB) (U:Nat->Prop) (E:Lf) (M:Nat->Prop) (a:Act) (w:World),listed.size=l.length->rem.Pairwise (· < ·)->(∀j,j∈rem↔j<l.length/\listed.getD j true=false)->rem.length<=fuel ->
  (∀i,i<l.length->listed.getD i true=true->∀j∈UX l i,listed.getD j true=true) ->
  DR R mvs N rem sl bl U->SF F n sl bl U E M a w->wpAny P .any l.toArray Q fuel listed a w:=by
 intro fuel;have hnil:∀(listed:Array Bool) (rem:Fv),listed.size=l.length->rem.Pairwise (· < ·)->(∀j,j∈rem↔j<l.length/\listed.getD j true=false)->Region.ready .any l.toArray listed=[]->rem=[]:=λlisted rem hs hp hm hr=>by
  cases rem with
  |nil=>rfl
  |
   cons i rem =>
   have hi:=(hm i).1 (.head _);have:i∈Region.ready .any l.toArray listed:=MX.2 ⟨hi.2,hi.1,λj hj=>by
    have hji:=hc.down i hi.1 j hj;rw[<-vI (by omega)];cases e:listed.getD j true with
    |true=>rfl
    |
     false =>
     have hjm:=(hm j).2 ⟨by omega,e⟩;rcases Qj.1 hjm with rfl|hjm
     ·omega
     ·have:=(Q5.1 hp).1 j hjm;omega⟩
   rw[hr]at this;cases this
 induction fuel with
 |
  zero =>
  intro listed rem sl bl U E M a w hs hp hm hl hcl h hsf;have:rem=[]:=Qf (by omega);subst this;refine⟨?_,hq _ _ _ _ _ _ _ hsf h⟩;apply List.eq_nil_iff_forall_not_mem.2;intro j hj;obtain⟨h0,hjl,_⟩:=MX.1 hj;exact absurd ((hm j).2 ⟨hjl,h0⟩) (by simp)
 |
  succ fuel ih =>
  intro listed rem sl bl U E M a w hs hp hm hl hcl h hsf;refine⟨λhr=>?_,λi hi=>?_⟩
  ·have:=hnil listed rem hs hp hm hr;subst this;exact hq _ _ _ _ _ _ _ hsf h
  ·obtain⟨h0,hil,hpr⟩:=MX.1 hi;obtain⟨l1,l2,rfl⟩:=Wh ((hm i).2 ⟨hil,h0⟩);have hpp:=Zv.1 hp;have hlt:∀p∈l1,p<i:=λp hp1=>hpp.2.2 p hp1 i (.head _)
   have hdone:∀j,cl i j=true->listed.getD j true=true:=by
    have key:∀k,k<l.length->(∀j∈UX l k,listed.getD j true=true)->∀j,cl k j=true->listed.getD j true=true:=by
     intro k
     induction k using Nat.strongRecOn with
     |
      _ k ihk =>
      intro hk hpk j hj;rcases hc.closed k hk j hj with h1|⟨q,hq1,hq2⟩
      ·exact hpk j h1
      ·have hqk:=hc.down k hk q hq1;exact ihk q hqk (by omega) (hcl q (by omega) (hpk q hq1)) j hq2
    exact λj hj=>key i hil (λq hq=>by have:=hc.down i hil q hq;rw[vI (by omega)];exact hpr q hq) j hj
   have hdj:∀p∈l1,Dj mvs (R p) (R i):=λp hp1=>hd i hil p (hlt p hp1) (by
    cases e:cl i p with
    |false=>rfl
    |
     true =>
     have h1:=hdone p e;have h2:=((hm p).1 (Qr.2 (.inl hp1))).2;rw[h1]at h2;cases h2)
   obtain⟨h1,_,h3⟩:=DR.front hdj h;have ho:l[i]? = some l[i]:=Qg hil;unfold wpOp;have hoa:l.toArray[i]? = some l[i]:=by simpa using ho
   simp only[hoa];refine h1.step (hw i _ ho) hsf (Q:=Q) λa' w' E' M' hsf'=>?_
   refine ih _ (l1++l2) _ _ _ E' M' a' w' (by simp[hs]) ?_ (λj=>?_) (by simp at hl ⊢;omega) (λk hk hkl j hj=>?_) h3 hsf'
   ·refine Zv.2 ⟨hpp.1,(Q5.1 hpp.2.1).2,λa ha b hb=>hpp.2.2 a ha b (.tail _ hb)⟩
   ·by_cases hji:i=j
    ·subst hji;have:i∉l1++l2:=λhm'=>by
      rcases Qr.1 hm' with h|h
      ·exact Nat.lt_irrefl _ (hlt i h)
      ·exact Nat.lt_irrefl _ ((Q5.1 hpp.2.1).1 i h)
     simp[this,hs,hil]
    ·rw[getD_set_ne true hji,<-hm j];simp[Ne.symm hji]
   ·by_cases hki:i=k
    ·subst hki;have hji:=hc.down i hil j hj;rw[getD_set_ne true (by omega),vI (by omega)];exact hpr j hj
    ·rw[getD_set_ne true hki]at hkl;have h2:=hcl k hk hkl j hj;by_cases hij:i=j
     ·subst hij;rw[h0]at h2;cases h2
     ·rw[getD_set_ne true hij];exact h2
end Orr
namespace Orr
open Go
variable{P:Program}{n:Nat}
theorem dL:∀{L:Sg} {t:Nat} {x:AV},lk L t=some x->(t,x)∈L
 |
  (s,v)::L,t,x,h=>by
  simp only[lk]at h
  split at h
  ·rename_i e;injection h with h;subst h;rw[Nat.eq_of_beq_eq_true e];exact .head _
  ·exact .tail _ (dL h)
theorem JQ{α:Type}:∀{L:List (Nat×α)} {t:Nat} {x:α},B6 L t=some x->(t,x)∈L
 |
  (s,v)::L,t,x,h=>by
  simp only[B6]at h
  split at h
  ·rename_i e;injection h with h;subst h;rw[Nat.eq_of_beq_eq_true e];exact .head _
  ·exact .tail _ (JQ h)
def tsl:List Operand->Fv
 | []=>[]
 | .tmp t::r=>t::tsl r
 |_::r=>tsl r
def gsl(arr:Array Oper)(o:Oper):Fv:=match o.guard with
 |none=>tsl o.op.operands.toList
 |
  some (j,_)=>match (arr[j]?).bind (·.dst)with
  |some t=>t::tsl o.op.operands.toList
  |none=>tsl o.op.operands.toList
def rsl(L:Sg):Fv->Option Sg
 | []=>some []
 |
  t::r=>match rsl L r with
  |
   some q=>match lk L t with
   |some v=>some ((t,v)::q)
   |none=>some q
  |none=>none
theorem eA{L:Sg}:∀{ts:Fv} {L0:Sg},rsl L ts=some L0->∀t x,lk L0 t=some x->lk L t=some x
 | [],L0,h,t,x,hx=>by simp only[rsl,Option.some.injEq]at h;subst h;cases hx
 |
  s::r,L0,h,t,x,hx=>by
  simp only[rsl]at h
  split at h
  ·rename_i q hq
   split at h
   ·rename_i v hv;injection h with h;subst h;simp only[lk]at hx
    split at hx
    ·rename_i e;injection hx with hx;subst hx;rw[Nat.eq_of_beq_eq_true e];exact hv
    ·exact eA hq t x hx
   ·injection h with h;subst h;exact eA hq t x hx
  ·cases h
def Qxi:Sg->Fv
 | []=>[]
 |(_,v)::l=>v.ids++Qxi l
def fxF:OB->Option OB
 | .row _ T sz ls=>some (.row true T sz ls)
 |b=>some b
theorem Quj{b c:OB}(h:fxF b=some c):XU b=XU c/\c.mv=false:=by
 cases b <;> simp only[fxF,Option.some.injEq]at h <;> subst h <;> exact⟨rfl,rfl⟩
def isI(mv:Option Nat)(k:Nat):Bool:=match mv with
 |some i=>Nat.beq i k
 |none=>false
theorem Qjr{mv:Option Nat}{k:Nat}(h:isI mv k=true):mv=some k:=by
 cases mv with
 |none=>cases h
 |some i=>rw[Qu h]
def Qj5(
 ids:Fv) (mv:Option Nat):Nat->Ga->Option Ga
  |_,[]=>some []
  |
   k,b::l=>match Qj5 ids mv (k+1) l with
   |
    some r=>match Bf k ids with
    |
     true=>match isI mv k with
     |true=>some (b::r)
     |
      false=>match fxF b with
      |some c=>some (c::r)
      |none=>none
    |false=>some (.gone::r)
   |none=>none
theorem sM{ids:Fv}{mv:Option Nat}:∀{l:Ga} {k:Nat} {r:Ga},Qj5 ids mv k l=some r->r.length=l.length/\∀(j:Nat) (b:OB),l[j]? = some b->∃c,r[j]? = some c/\(c.lv=true->XU b=XU c/\(c.mv=true->b.mv=true/\mv=some (k+j)))
 | [],k,r,h=>by simp only[Qj5,Option.some.injEq]at h;subst h;exact⟨rfl,λj b hb=>by simp at hb⟩
 |
  b::l,k,r,h=>by
  simp only[Qj5]at h
  split at h
  ·rename_i q hq;obtain⟨h1,h2⟩:=sM hq;have key:∀c,(c.lv=true->XU b=XU c/\(c.mv=true->b.mv=true/\mv=some k))->r=c::q->r.length=(b::l).length/\∀(j:Nat) (b':OB),(b::l)[j]? = some b'->∃c,r[j]? = some c/\(c.lv=true->XU b'=XU c/\(c.mv=true->b'.mv=true/\mv=some (k+j))):=λc hc e=>by
    subst e;refine⟨by simp[h1],λj b' hb=>?_⟩;cases j with
    |zero=>simp at hb;subst hb;exact⟨c,rfl,hc⟩
    |
     succ j =>
     obtain⟨c',h3,h4⟩:=h2 j b' (by simpa using hb);exact⟨c',by simpa using h3,by rw[show k+(j+1)=k+1+j from by omega];exact h4⟩
   split at h
   ·split at h
    ·rename_i e;injection h with h;exact key b (λ_=>⟨rfl,λh=>⟨h,Qjr e⟩⟩) h.symm
    ·split at h
     ·rename_i c hc;injection h with h;obtain⟨e1,e2⟩:=Quj hc;exact key c (λ_=>⟨e1,λh=>by rw[e2]at h;cases h⟩) h.symm
     ·cases h
   ·injection h with h;exact key .gone (λh=>by cases h) h.symm
  ·cases h
def Qz2(L0:Sg):Op->Option Nat
 |
  .call { callee:=.builtin .append,args:=xs,argTypes:=_ }=>match xs.toList with
  |
   x::_=>match evT L0 x with
   |some (.one (.orow i _ _))=>some i
   |_=>none
  | []=>none
 |_=>none
def Qyr(L0:Sg)(mv:Option Nat):Op->Fv
 |
  .store _ x _=>match evT L0 x with
  |some (.one (.ow i _))=>[i]
  |some (.one (.oel i _ _ _))=>[i]
  |_=>[]
 |
  .call { callee:=.builtin .copy,args:=xs,argTypes:=_ }=>match xs.toList with
  |
   x::_=>match evT L0 x with
   |some (.one (.orow i _ _))=>[i]
   |_=>[]
  | []=>[]
 |
  _=>match mv with
  |some i=>[i]
  |none=>[]
def Qbh(mv:Option Nat):Sg->Option Fv
 | []=>some []
 |
  (t,v)::l=>match Qbh mv l with
  |
   some r=>match mv with
   |
    some i=>match Bf i v.ids with
    |true=>some (t::r)
    |false=>some r
   |none=>some r
  |none=>none
theorem PS{mv:Option Nat}{i:Nat}(hi:mv=some i):∀{L:Sg} {ks:Fv},Qbh mv L=some ks->∀t v,(t,v)∈L->i∈v.ids->t∈ks
 | [],_,_,t,v,h,_=>by cases h
 |
  (s,u)::L,ks,h,t,v,hm,hv=>by
  subst hi;simp only[Qbh]at h
  split at h
  ·rename_i r hr
   split at h
   ·injection h with h;subst h;rcases Qj.1 hm with e|hm
    ·injection e with e1 e2;subst e1;exact .head _
    ·exact .tail _ (PS rfl hr t v hm hv)
   ·rename_i hn;injection h with h;subst h;rcases Qj.1 hm with e|hm
    ·injection e with e1 e2;subst e2;rw[Px.2 hv]at hn;cases hn
    ·exact PS rfl hr t v hm hv
  ·cases h
def rmv(ks:Fv):Sg->Option Sg
 | []=>some []
 |
  (t,v)::l=>match rmv ks l with
  |
   some r=>match Bf t ks with
   |true=>some r
   |false=>some ((t,v)::r)
  |none=>none
theorem Qli{ks:Fv}:∀{L L':Sg},rmv ks L=some L'->∀t,lk L' t=if Bf t ks=true then none else lk L t
 | [],L',h,t=>by simp only[rmv,Option.some.injEq]at h;subst h;simp[lk]
 |
  (s,v)::L,L',h,t=>by
  simp only[rmv]at h
  split at h
  ·rename_i r hr;have ih:=Qli hr t
   split at h
   ·rename_i hm;injection h with h;subst h;rw[ih];simp only[lk]
    split
    ·rfl
    ·rename_i hn
     split
     ·rename_i e;rw[Nat.eq_of_beq_eq_true e]at hn;exact absurd hm hn
     ·rfl
   ·rename_i hm;injection h with h;subst h;simp only[lk]
    split
    ·rename_i e;rw[Nat.eq_of_beq_eq_true e,hm];rfl
    ·exact ih
  ·cases h
def NH:Fv->List (Nat×Option AV)
 | []=>[]
 |t::l=>(t,none)::NH l
theorem A8{t:Nat}:∀{ks:Fv},B6 (NH ks) t=if Bf t ks=true then some none else none
 | []=>by simp[NH,B6,Bf]
 |
  s::ks=>by
  by_cases e:Nat.beq t s=true
  ·simp only[NH,B6,Bf,e,if_true]
  ·have e:Nat.beq t s=false:=by cases h:Nat.beq t s <;> first|rfl|exact absurd h e
   simp only[NH,B6,Bf,e];exact A8
def dWs(dst:Option Nat)(L1 Lg:Sg)(ks:Fv):Option (List (Nat×Option AV)×Sg):=match rmv ks Lg with
 |
  some L'=>match dst with
  |
   some d=>match lk L1 d with
   |some u=>some ((d,some u)::NH ks,(d,u)::L')
   |none=>none
  |none=>some (NH ks,L')
 |none=>none
theorem Qub{dst:Option Nat}{L1 Lg L':Sg}{ks:Fv}{ws:List (Nat×Option AV)}(h:dWs dst L1 Lg ks=some (ws,L')):lk L'=QW (lk Lg) ws/\(∀t x,B6 ws t=some (some x)->lk L1 t=some x)/\(∀t,dst=some t->(B6 ws t).isSome=true)/\∀t∈ks,(B6 ws t).isSome=true:=by
 unfold dWs at h
 split at h
 ·rename_i L2 hr;have h2:=Qli hr;have h3:lk L2=QW (lk Lg) (NH ks):=by
   funext t;rw[h2 t];simp only[QW,A8]
   split <;> rfl
  split at h
  ·rename_i d
   split at h
   ·rename_i u hu;injection h with h;injection h with e1 e2;subst e1;subst e2;refine⟨?_,λt x hx=>?_,λt ht=>?_,λt ht=>?_⟩
    ·funext t;simp only[lk,QW,B6];cases e:Nat.beq t d
     ·rw[h3];rfl
     ·rfl
    ·simp only[B6]at hx
     split at hx
     ·rename_i e;injection hx with hx;injection hx with hx;subst hx;rw[Nat.eq_of_beq_eq_true e];exact hu
     ·rw[A8]at hx
      split at hx <;> cases hx
    ·injection ht with ht;subst ht;simp[B6]
    ·simp only[B6]
     split
     ·rfl
     ·rw[A8,if_pos (Px.2 ht)];rfl
   ·cases h
  ·injection h with h;injection h with e1 e2;subst e1;subst e2;refine⟨h3,λt x hx=>?_,λt ht=>by(cases ht),λt ht=>?_⟩
   ·rw[A8]at hx
    split at hx <;> cases hx
   ·rw[A8,if_pos (Px.2 ht)];rfl
 ·cases h
def dWb(wr:Fv)(mv:Option Nat):Nat->Ga->Ga->Ga->Option (List (Nat×OB)×Ga×Li)
 |_,[],_,[]=>some ([],[],[])
 |
  k,[],r,b1::l1=>match dWb wr mv (k+1) [] r l1 with
  |some (wb,B',q)=>some ((k,b1)::wb,b1::B',q)
  |none=>none
 |
  k,b::l,b0::l0,b1::l1=>match dWb wr mv (k+1) l l0 l1 with
  |
   some (wb,B',q)=>match b0.lv with
   |
    true=>match Bf k wr with
    |
     true=>match !(flO b b1).mv || b.mv with
     |true=>some ((k,flO b b1)::wb,flO b b1::B',q)
     |false=>none
    |
     false=>match mv with
     |
      some i=>match Bf i b.ids with
      |true=>none
      |false=>some (wb,b::B',(.o b0,.o b1)::q)
     |none=>some (wb,b::B',(.o b0,.o b1)::q)
   |
    false=>match mv with
    |
     some i=>match Bf i b.ids with
     |
      true=>match VF (E4 i) b with
      |some b'=>some ((k,b')::wb,b'::B',q)
      |none=>none
     |false=>some (wb,b::B',q)
    |none=>some (wb,b::B',q)
  |none=>none
 |_,_,_,_=>none
def BOk(mv:Option Nat)(nb n1 j:Nat)(wbj:Option OB)(b b0 b1 b':OB):Prop :=
 b'=wbj.getD b /\
 (∀x,wbj=some x->(b0.lv=true->XU x=XU b1/\(x.mv=true->b.mv=true))/\(nb<=j->j<n1/\x=b1)/\(b0.lv=false->j<nb->∃i,mv=some i/\VF (E4 i) b=some x)) /\
 (wbj=none->(b0.lv=true->XU b1=XU b0)/\(nb<=j->n1<=j)/\∀i,mv=some i->j<nb->i∉b.ids)
theorem VY{α:Type}{l:List (Nat×α)}{k j:Nat}{x:α}(h:j≠k):B6 ((k,x)::l) j=B6 l j:=by
 have e:Nat.beq j k=false:=by cases e:Nat.beq j k <;> first|rfl|exact absurd (Qu e) h
 simp only[B6,e]
theorem HT{α:Type}{l:List (Nat×α)}{k:Nat}{x:α}:B6 ((k,x)::l) k=some x:=by simp[B6]
theorem cP{wr:Fv}{mv:Option Nat}:∀{B B0 B1 B':Ga} {k:Nat} {wb:List (Nat×OB)} {q:Li},dWb wr mv k B B0 B1=some (wb,B',q)->EqOk q->B0.length=B.length->B'.length=B1.length/\B.length<=B1.length/\(∀j,j<k->B6 wb j=none) /\
 ∀j,BOk mv B.length B1.length j (B6 wb (k+j)) (ob B j) (ob B0 j) (ob B1 j) (ob B' j)
 |
  [],[],[],B',k,wb,q,h,_,_=>by
  simp only[dWb,Option.some.injEq,Prod.mk.injEq]at h;obtain⟨rfl,rfl,rfl⟩:=h;exact⟨rfl,Qn _,λ_ _=>rfl,λj=>⟨rfl,λx hx=>(by cases hx),λ_=>⟨λ_=>rfl,λh=>h,λi _ h=>(by simp at h)⟩⟩⟩
 |
  [],[],b1::l1,B',k,wb,q,h,hq,hl=>by
  simp only[dWb]at h
  split at h
  ·rename_i wb2 B2 q2 h2;simp only[Option.some.injEq,Prod.mk.injEq]at h;obtain⟨rfl,rfl,rfl⟩:=h;obtain⟨i1,i2,i3,i4⟩:=cP h2 hq rfl;refine⟨by simp[i1],by simp,λj hj=>by rw[VY (by omega)];exact i3 j (by omega),λj=>?_⟩;cases j with
   |zero=>exact⟨by simp[HT,ob],λx hx=>(by
    simp only[Jh,HT,Option.some.injEq]at hx;subst hx;exact⟨λh=>(by simp[ob,OB.lv]at h),λ_=>⟨by simp,by simp[ob]⟩,λ_ h=>(by simp at h)⟩),λhx=>(by simp[HT]at hx)⟩
   |
    succ j =>
    rw[VY (by omega),show k+(j+1)=k+1+j from by omega];obtain⟨j1,j2,j3⟩:=i4 j;refine⟨by simpa[ob]using j1,λx hx=>?_,λhx=>?_⟩
    ·obtain⟨a1,a2,a3⟩:=j2 x hx;exact⟨λh=>(by simp[ob,OB.lv]at h),λh=>by simpa[ob]using a2 (Qh _),λ_ h=>(by simp at h)⟩
    ·obtain⟨a1,a2,a3⟩:=j3 hx;exact⟨λh=>(by simp[ob,OB.lv]at h),λh=>by simpa using a2 (Qh _),λi _ h=>(by simp at h)⟩
  ·cases h
 |
  b::l,b0::l0,b1::l1,B',k,wb,q,h,hq,hl=>by
  simp only[dWb]at h
  split at h
  ·rename_i wb2 B2 q2 h2;have key:∀(x:Option OB) (b':OB),(B'=b'::B2)->(wb=match x with|some y=>(k,y)::wb2|none=>wb2)->EqOk q2->BOk mv (l.length+1) (l1.length+1) 0 x b b0 b1 b'->B'.length=(b1::l1).length/\(b::l).length<=(b1::l1).length/\(∀j,j<k->B6 wb j=none)/\∀j,BOk mv (b::l).length (b1::l1).length j (B6 wb (k+j)) (ob (b::l) j) (ob (b0::l0) j) (ob (b1::l1) j) (ob B' j):=λx b' e1 e2 hq2 h0=>by
    subst e1 e2;obtain⟨i1,i2,i3,i4⟩:=cP h2 hq2 (by simpa using hl);have hx:∀j,B6 (match x with|some y=>(k,y)::wb2|none=>wb2) j=if j=k then x else B6 wb2 j:=λj=>by
     cases x with
     |
      none =>
      show B6 wb2 j=_;by_cases e:j=k
      ·rw[if_pos e,e];exact i3 k (by omega)
      ·rw[if_neg e]
     |
      some y =>
      show B6 ((k,y)::wb2) j=_;by_cases e:j=k
      ·rw[if_pos e,e];exact HT
      ·rw[if_neg e];exact VY e
    refine⟨by simp[i1],by simpa using i2,λj hj=>by rw[hx,if_neg (by omega)];exact i3 j (by omega),λj=>?_⟩;cases j with
    |zero=>rw[hx,Jh,if_pos rfl];simpa[ob]using h0
    |
     succ j =>
     rw[hx,if_neg (by omega),show k+(j+1)=k+1+j from by omega];obtain⟨j1,j2,j3⟩:=i4 j;refine⟨by simpa[ob]using j1,λx hx=>?_,λhx=>?_⟩
     ·obtain⟨a1,a2,a3⟩:=j2 x hx;exact⟨λh=>by simpa[ob]using a1 (by simpa[ob]using h),λh=>by simpa[ob]using a2 (by simpa using h),λh h'=>by simpa[ob]using a3 (by simpa[ob]using h) (by simpa using h')⟩
     ·obtain⟨a1,a2,a3⟩:=j3 hx;exact⟨λh=>by simpa[ob]using a1 (by simpa[ob]using h),λh=>by simpa using a2 (by simpa using h),λi hi h=>by simpa[ob]using a3 i hi (by simpa using h)⟩
   have big:∀{p:Prop},l.length+1<=0->p:=λh=>by omega
   split at h
   ·rename_i hlv
    split at h
    ·split at h
     ·rename_i hm;simp only[Option.some.injEq,Prod.mk.injEq]at h;obtain⟨rfl,rfl,rfl⟩:=h;refine key (some (flO b b1)) _ rfl rfl hq ⟨rfl,λx hx=>?_,λhx=>by cases hx⟩;injection hx with hx;subst hx;refine⟨λ_=>⟨dK _ _,λh=>?_⟩,λh=>big h,λh=>(by rw[hlv]at h;cases h)⟩;simpa[h]using hm
     ·cases h
    ·split at h
     ·rename_i i
      split at h
      ·cases h
      ·rename_i hn;simp only[Option.some.injEq,Prod.mk.injEq]at h;obtain⟨rfl,rfl,rfl⟩:=h;have e:=hq.hd;injection e with e;refine key none _ rfl rfl hq.tl ⟨rfl,λx hx=>(by cases hx),λ_=>⟨λ_=>by rw[e],λh=>big h,λi' hi' _ hm=>?_⟩⟩;injection hi' with hi';subst hi'
       rw[Px.2 hm]at hn;cases hn
     ·simp only[Option.some.injEq,Prod.mk.injEq]at h;obtain⟨rfl,rfl,rfl⟩:=h;have e:=hq.hd;injection e with e;exact key none _ rfl rfl hq.tl ⟨rfl,λx hx=>(by cases hx),λ_=>⟨λ_=>by rw[e],λh=>big h,λi' hi'=>by cases hi'⟩⟩
   ·rename_i hlv;have hlv':¬b0.lv=true:=by rw[hlv];simp
    split at h
    ·rename_i i
     split at h
     ·split at h
      ·rename_i b2 hb2;simp only[Option.some.injEq,Prod.mk.injEq]at h;obtain⟨rfl,rfl,rfl⟩:=h;refine key (some b2) _ rfl rfl hq ⟨rfl,λx hx=>?_,λhx=>by cases hx⟩;injection hx with hx;subst hx;exact⟨λh=>absurd h hlv',λh=>big h,λ_ _=>⟨i,rfl,hb2⟩⟩
      ·cases h
     ·rename_i hn;simp only[Option.some.injEq,Prod.mk.injEq]at h;obtain⟨rfl,rfl,rfl⟩:=h;refine key none _ rfl rfl hq ⟨rfl,λx hx=>(by cases hx),λ_=>⟨λh=>absurd h hlv',λh=>big h,λi' hi' _ hm=>?_⟩⟩;injection hi' with hi';subst hi'
      rw[Px.2 hm]at hn;cases hn
    ·simp only[Option.some.injEq,Prod.mk.injEq]at h;obtain⟨rfl,rfl,rfl⟩:=h;exact key none _ rfl rfl hq ⟨rfl,λx hx=>(by cases hx),λ_=>⟨λh=>absurd h hlv',λh=>big h,λi' hi'=>by cases hi'⟩⟩
  ·cases h
 | [],_::_,_,_,_,_,_,_,_,hl=>by simp at hl
 |_::_,[],_,_,_,_,_,_,_,hl=>by simp at hl
 |_::_,_::_,[],_,_,_,_,h,_,_=>by simp[dWb]at h
end Orr
namespace Orr
open Go
variable{P:Program}{n:Nat}
def YO:Op->Option (Callee×List Operand)
 | .call { callee:=.value x,args:=xs,argTypes:=_ }=>some (.value x,xs.toList)
 | .call { callee:=.invoke r m,args:=xs,argTypes:=_ }=>some (.invoke r m,xs.toList)
 |_=>none
theorem xJ{op:Op}{x:Callee}{xs:List Operand}(h:YO op=some (x,xs)):∃as0 ats,op=.call { callee:=x,args:=as0,argTypes:=ats }/\xs=Array.toList as0:=by
 unfold YO at h
 split at h
 ·injection h with h;injection h with e1 e2;subst e1;subst e2;exact⟨_,_,rfl,rfl⟩
 ·injection h with h;injection h with e1 e2;subst e1;subst e2;exact⟨_,_,rfl,rfl⟩
 ·cases h
def Sb:List Prop->List Prop->List Prop
 | [],l=>l
 |x::r,l=>x::Sb r l
theorem VO:∀{a b:List Prop},Ge (Sb a b)↔Ge a/\Ge b
 | [],_=>by simp[Sb,Ge]
 |x::r,b=>by simp only[Sb];rw[Ej,Ej,VO,and_assoc]
def st1(T:TT P)(n:Nat)(arr:Array Oper)(L:Sg)(B:Ga)(h:List (H P))(o:Oper):St P:=match YO o.op with
 |
  some (x,xs)=>match gdE arr L o with
  |
   some true=>match o.dst with
   |
    some d=>match Nat.blt d n with
    |
     true=>match oC T L h x xs with
     |some (g,ys,q0)=>oD q0 L B h d g ys
     |none=>none
    |false=>none
   |none=>none
  |
   some false=>match Qke n L o.dst with
   |some L'=>some (L',B,h,[],[])
   |none=>none
  |none=>none
 |none=>stE T n arr L B h o
theorem Qvw{T:TT P}{arr:Array Oper}{o:Oper}{N:Kp}{L L':Sg}{B B':Ga}{h h':List (H P)}{q:Li}{ob:List Prop}(hs:st1 T n arr L B h o=some (L',B',h',q,ob))(hq:EqOk q)(hob:Ge ob)(k:N L' B'):W1 P arr n o N L B:=by
 unfold st1 at hs
 split at hs
 ·rename_i x xs hcall;obtain⟨as0,ats,ho,rfl⟩:=xJ hcall
  split at hs
  ·rename_i hg
   split at hs
   ·rename_i d hd
    split at hs
    ·rename_i hdn
     split at hs
     ·rename_i g ys q0 ha;exact W1.on hg (oI (o:=ung o) ho rfl hd hdn ha hs hq k)
     ·cases hs
    ·cases hs
   ·cases hs
  ·rename_i hg
   split at hs
   ·rename_i L2 hL;obtain⟨rfl,rfl,rfl,rfl,rfl⟩:=Cn hs;exact W1.off hg hL k
   ·cases hs
  ·cases hs
 ·exact Qvx hs hq hob k
def Qqg:Nat->Option Nat->Sg->Ga->List (H P)->Li->Option (Sg×Ga×List (H P)×Li)
 | 0,_,L,B,h,q=>some (L,B,h,q)
 |
  f+1,d,L,B,h,q=>match d with
  |none=>some (L,B,h,q)
  |
   some t=>match Qk2 t L B h with
   |some (L',B',h',q')=>Qqg f d L' B' h' (JI q' q)
   |none=>some (L,B,h,q)
theorem Qcd:∀{f:Nat} {d:Option Nat} {L L':Sg} {B B':Ga} {h h':List (H P)} {q q':Li},Qqg f d L B h q=some (L',B',h',q')->EqOk q'->EqOk q/\Sub n L B L' B'
 | 0,_,_,_,_,_,_,_,_,_,hp,hq=>by obtain⟨rfl,rfl,rfl,rfl⟩:=Re hp;exact⟨hq,Sub.refl⟩
 |
  f+1,d,_,_,_,_,_,_,_,_,hp,hq=>by
  simp only[Qqg]at hp
  split at hp
  ·obtain⟨rfl,rfl,rfl,rfl⟩:=Re hp;exact⟨hq,Sub.refl⟩
  ·split at hp
   ·rename_i hpe;obtain⟨h1,h2⟩:=Qcd hp hq;rw[Nz]at h1;obtain⟨h3,h4⟩:=h1.app;exact⟨h4,(eQ hpe h3).trans h2⟩
   ·obtain⟨rfl,rfl,rfl,rfl⟩:=Re hp;exact⟨hq,Sub.refl⟩
theorem W1.post{arr:Array Oper}{o:Oper}{L L1 L2:Sg}{B B1 B2:Ga}(h:W1 P arr n o (λL B=>L=L1/\B=B1) L B)(hs:Sub n L1 B1 L2 B2):W1 P arr n o (λL B=>L=L2/\B=B2) L B:=λF E M a w K Q hsa hK =>
 h F E M a w K Q hsa λa' w' L' B' E' M' h1 ⟨e1,e2⟩=>by
  subst e1;subst e2;obtain⟨E2,M2,h2⟩:=hs F E' M' a' w' h1;exact hK _ _ _ _ _ _ h2 ⟨rfl,rfl⟩
def isS{α:Type}:Option α->Bool
 |some _=>true
 |none=>false
def mvI(mv:Option Nat)(B0:Ga)(wb:List (Nat×OB)):Bool:=match mv with
 |none=>true
 |
  some i=>match Ou B0 i with
  |some b=>b.lv && isS (B6 wb i)
  |none=>false
def wr2(L0:Sg)(mv:Option Nat)(op:Op)(h:List (H P)):Fv:=match YO op with
 |
  some _=>match h with
  | .c is _::_=>is
  |_=>[]
 |
  none=>match mv with
  |some i=>i::Qyr L0 mv op
  |none=>Qyr L0 mv op
def rdJ(B:Ga):Fv->Fv
 | []=>[]
 |
  i::l=>match Ou B i with
  |some b=>i::(b.ids++rdJ B l)
  |none=>i::rdJ B l
def Qkb(B:Ga):Fv->Option Nat
 | []=>none
 |
  i::l=>match Ou B i with
  |some (.row false _ _ _)=>some i
  |_=>Qkb B l
def Qyi(B:Ga)(L0:Sg)(y:Operand):Option Nat:=match evT L0 y with
 |
  some (.one (.orow i _ _))=>match Ou B i with
  |some (.row false _ _ _)=>some i
  |_=>none
 |_=>none
def mvJ(B:Ga)(h:List (H P))(L0:Sg)(op:Op):Option Nat:=match Qz2 L0 op with
 |some i=>some i
 |
  none=>match YO op with
  |
   some _=>match h with
   | .c is _::_=>Qkb B is
   |_=>none
  |
   none=>match op with
   |
    .store _ x y=>match Qyi B L0 y with
    |some i=>some i
    |
     none=>match evT L0 x with
     |
      some (.one (.ow i _))=>match Ou B i with
      |some b=>Qkb B b.ids
      |none=>none
     |_=>none
   |_=>none
def rdI(L0:Sg):Op->Fv
 | .move _=>[]
 | .assign _=>[]
 | .nilCheck .. => []
 | .fieldAddr .. => []
 | .makeFunc .. => []
 |_=>Qxi L0
def rdK(B:Ga)(L0:Sg)(op:Op):Fv:=match YO op with
 |some _=>rdJ B (rdJ B (rdI L0 op))
 |
  none=>match op with
  | .store .. => rdJ B (rdI L0 op)
  |_=>rdI L0 op
def roH(op:Op)(h:List (H P)):Option (List (H P)):=match YO op with
 |
  some _=>match h with
  | .lo::r=>some r
  |_=>none
 |none=>none
def Qyb(o:Option (List (H P)))(h:List (H P)):List (H P):=match o with
 |some r=>r
 |none=>h
def wr3(L0:Sg)(mv:Option Nat)(op:Op)(h:List (H P)):Fv:=match roH op h with
 |some _=>[]
 |none=>wr2 L0 mv op h
def ds(
 T:TT P) (
  n:Nat) (arr:Array Oper) (Lg:Sg) (Bg:Ga) (h:List (H P)) (o:Oper) (mv:Option Nat) (L0:Sg):Option (Rc×Sg×Ga×List (H P)×Li×List Prop):=match Qj5 (rdK Bg L0 o.op) mv 0 Bg,lenB Bg with
  |
   some B0,some nb=>match st1 T n arr L0 B0 (Qyb (roH o.op h) h) o with
   |
    some (L1,B1,h1,q1,ob1)=>match Qqg 3 o.dst L1 B1 h1 q1 with
    |
     some (L2,B2,h2,q2)=>match Qbh mv Lg with
     |
      some ks=>match dWs o.dst L2 Lg ks with
      |
       some (ws,Lg')=>match dWb (wr3 L0 mv o.op h) mv 0 Bg B0 B2 with
       |
        some (wb,Bg',q3)=>match (An (λp=>An (Nat.blt · nb) p.2.ids) L0 && An (λb=>An (Nat.blt · nb) b.ids) B0 && mvI mv B0 wb)with
        |true=>some (⟨L0,B0,L2,B2,ws,wb,mv⟩,Lg',Bg',h2,JI q3 q2,ob1)
        |false=>none
       |none=>none
      |none=>none
     |none=>none
    |none=>none
   |none=>none
  |_,_=>none
def Qj6{B:Ga}{j:Nat}(h:¬ob B j=.gone):∃b,B[j]? = some b/\ob B j=b:=by
 unfold ob at h ⊢;cases hb:B[j]? with
 |none=>rw[hb]at h;exact absurd rfl h
 |some b=>exact⟨b,rfl,rfl⟩
theorem Qxg{T:TT P}{arr:Array Oper}{o:Oper}{Lg Lg' L0:Sg}{Bg Bg':Ga}{h h':List (H P)}{q:Li}{obs:List Prop}{mv:Option Nat}{r:Rc}(hL:rsl Lg (gsl arr o)=some L0)(hd:ds T n arr Lg Bg h o mv L0=some (r,Lg',Bg',h',q,obs))(hq:EqOk q)(hob:Ge obs) :
 Wf P arr n o r/\Loc r (lk Lg) (ob Bg) (nw Bg)/\lk Lg'=QW (lk Lg) r.ws/\ob Bg'=QW (ob Bg) r.wb/\nw Bg'=λj=>nw Bg j/\¬r.nw_ j:=by
 unfold ds at hd
 split at hd
 ·rename_i B0 nb hm hnb
  split at hd
  ·rename_i L1 B1 h1 q1 ob1 hs
   split at hd
   ·rename_i L2 B2 h2 q2 hp
    split at hd
    ·rename_i ks hk
     split at hd
     ·rename_i ws Lg2 hws
      split at hd
      ·rename_i wb Bg2 q3 hwb
       split at hd
       ·rename_i hc;injection hd with hd;injection hd with e1 hd;injection hd with e2 hd;injection hd with e3 hd;injection hd with e4 hd;injection hd with e5 e6;subst e1;subst e2;subst e3;subst e5;subst e6;rw[Nz]at hq;obtain⟨hq3,hq2⟩:=hq.app;obtain⟨hq1,hsub⟩:=Qcd (n:=n) hp hq2;obtain rfl:=Ca hnb;obtain⟨m1,m2⟩:=sM hm;obtain⟨b1,b2,b3,b4⟩:=cP hwb hq3 m1;obtain⟨w1,w2,w3,w4⟩:=Qub hws;simp only[Zn]at hc;obtain⟨⟨c1,c2⟩,c3⟩:=hc;have c1:=Mk c1;have c2:=Mk c2;have hmask:∀j,(ob B0 j).lv=true->j<Bg.length/\XU (ob Bg j)=XU (ob B0 j)/\((ob B0 j).mv=true->(ob Bg j).mv=true/\mv=some j):=λj hj=>by
         have hjl:j<Bg.length:=by
          apply Classical.byContradiction;intro hn;rw[Sx (by omega)]at hj;cases hj
         obtain⟨c,e1,e2⟩:=m2 j _ (Qg hjl);rw[P5 e1]at hj ⊢;rw[P5 (Qg hjl)];have:=e2 hj;rw[Xd]at this;exact⟨hjl,this⟩
        have b4':∀j,BOk mv Bg.length B2.length j (B6 wb j) (ob Bg j) (ob B0 j) (ob B2 j) (ob Bg2 j):=λj=>by have:=b4 j;rwa[Xd]at this
        refine⟨⟨W1.post (Qvw hs hq1 hob ⟨rfl,rfl⟩) hsub,λt x hx i hi=>?_,λj i hi=>?_,λj hj=>?_,λj hj=>?_,w2,w3,λj b hb ha=>?_,λj ha hn=>?_⟩,⟨eA hL,λj hj=>?_,λj h1 h2=>?_,λi hi=>⟨λt x hx hm=>?_,λj hm=>?_⟩,λj b hb ha=>?_⟩,w1,?_,?_⟩
        ·have:=Mk (c1 _ (dL hx)) i hi;rw[Jp]at this;show i<B0.length;omega
        ·have hne:¬ob B0 j=.gone:=λe=>by rw[show ob B0 j=.gone from e]at hi;simp[OB.ids]at hi
         obtain⟨b,e1,e2⟩:=Qj6 hne;have hi:i∈(ob B0 j).ids:=hi;rw[e2]at hi;have:=Mk (c2 b (Qa e1)) i hi;rw[Jp]at this;show i<B0.length;omega
        ·have hlv:(ob B0 j).lv=true:=by
          have hj:(ob B0 j).mv=true:=hj;cases hb:ob B0 j <;> rw[hb]at hj <;> first|rfl|cases hj
         exact((hmask j hlv).2.2 hj).2
        ·have hj:mv=some j:=hj;rw[hj]at c3;simp only[mvI]at c3
         split at c3
         ·rename_i b hb;simp only[Zn]at c3;refine⟨by rw[show ob B0 j=b from P5 (Nc ▸ hb)];exact c3.1,?_⟩;have:=c3.2;show(B6 wb j).isSome=true;cases e:B6 wb j <;> rw[e]at this <;> first|rfl|cases this
         ·cases c3
        ·obtain⟨_,h3,_⟩:=b4' j;obtain⟨a1,a2,_⟩:=h3 b hb;rcases ha with ha|ha
         ·exact(a1 ha).1
         ·obtain⟨_,e⟩:=a2 (by have:B0.length<=j:=ha.1;omega);exact congrArg XU e
        ·obtain⟨_,_,h3⟩:=b4' j;obtain⟨a1,a2,_⟩:=h3 hn;rcases ha with ha|ha
         ·exact⟨a1 ha,ha⟩
         ·have:=a2 (by have:B0.length<=j:=ha.1;omega);have h5:j<B2.length:=ha.2;omega
        ·obtain⟨e1,e2,e3⟩:=hmask j hj;exact⟨e2,λh=>(e3 h).1,λb hb hbm=>(((b4' j).2.1 b hb).1 hj).2 hbm⟩
        ·show Bg.length<=j;have:B0.length<=j:=h1;omega
        ·exact w4 t (PS hi hk t x (dL hx) hm)
        ·show(B6 wb j).isSome=true;cases e:B6 wb j with
         |some _=>rfl
         |
          none =>
          have hjl:j<Bg.length:=by
           apply Classical.byContradiction;intro hn;rw[Sx (by omega)]at hm;simp[OB.ids]at hm
          exact absurd hm (((b4' j).2.2 e).2.2 i hi hjl)
        ·obtain⟨_,h3,_⟩:=b4' j;obtain⟨_,a2,a3⟩:=h3 b hb;have hlv:(ob B0 j).lv=false:=by
          cases e:(ob B0 j).lv with
          |false=>rfl
          |true=>exact absurd (.inl e) ha
         refine a3 hlv ?_;apply Classical.byContradiction;intro hn;have:=(a2 (by omega)).1;exact ha (.inr ⟨by show B0.length<=j;omega,this⟩)
        ·funext j;rw[(b4' j).1];simp only[QW];cases B6 wb j <;> rfl
        ·funext j;show(Bg2.length<=j)=(Bg.length<=j/\¬(B0.length<=j/\j<B2.length));refine propext ⟨λh=>⟨by omega,by omega⟩,λ⟨h1,h2⟩=>by omega⟩
       ·cases hd
      ·cases hd
     ·cases hd
    ·cases hd
   ·cases hd
  ·cases hd
 ·cases hd
def dr(
 T:TT P) (n:Nat) (arr:Array Oper):List Oper->Sg->Ga->List (H P)->Option (List (Rc×Sg×Ga)×Sg×Ga×List (H P)×Li×List Prop)
  | [],L,B,h=>some ([],L,B,h,[],[])
  |
   o::l,L,B,h=>match rsl L (gsl arr o)with
   |
    some L0=>match (match mvJ B h L0 o.op with
     |some i=>ds T n arr L B h o (some i) L0
     |none=>ds T n arr L B h o none L0)with
    |
     some (r,L',B',h',q,ob)=>match dr T n arr l L' B' h' with
     |some (rs,L2,B2,h2,q2,ob2)=>some ((r,L,B)::rs,L2,B2,h2,JI q q2,Sb ob ob2)
     |none=>none
    |none=>none
   |none=>none
def ovC(mvs:Fv)(x:Rc×Sg×Ga):Bool :=
 An (λp=>match lk x.2.1 p.1 with
  |some y=>An (λi => !Bf i mvs || isI x.1.mv i) y.ids
  |none=>true) x.1.ws &&
 An (λp=>match Ou x.2.2 p.1 with
  |some b=>An (λi => !Bf i mvs || isI x.1.mv i) b.ids
  |none=>true) x.1.wb
def Qow(p x:Rc):Bool :=
 An (λt => !isS (lk x.L0 t.1) && !isS (B6 x.ws t.1)) p.ws &&
 An (λj=>(match Ou x.B0 j.1 with
  |some b => !b.lv
  |none=>true) && !isS (B6 x.wb j.1)) p.wb &&
 (match p.mv with
  |none=>true
  |some i=>An (λt=>match t.2 with
   |some y => !Bf i y.ids
   |none=>true) x.ws && An (λj => !Bf i j.2.ids) x.wb) &&
 (Nat.ble p.B1.length x.B0.length || Nat.ble x.B1.length p.B0.length)
def NT(o:Oper):Fv:=o.after.toList.filterMap λe=>if Region.binds .any e then some e.on else none
def qU:List Fv->Nat->Fv
 | [],_=>[]
 |x::_,0=>x
 |_::l,i+1=>qU l i
def uni:Fv->Fv->Option Fv
 | [],l=>some l
 |
  x::r,l=>match uni r l with
  |
   some q=>match Bf x q with
   |true=>some q
   |false=>some (x::q)
  |none=>none
def Qyp(cs:List Fv):Fv->Fv->Option Fv
 | [],l=>some l
 |
  j::r,l=>match uni (j::qU cs j) l with
  |some q=>Qyp cs r q
  |none=>none
def clo:List Oper->List Fv->Option (List Fv)
 | [],cs=>some cs
 |
  o::l,cs=>match Qyp cs (NT o) []with
  |
   some u=>match snoc cs u with
   |some c=>clo l c
   |none=>none
  |none=>none
where snoc:List Fv->Fv->Option (List Fv)
 | [],u=>some [u]
 |
  x::l,u=>match snoc l u with
  |some r=>some (x::r)
  |none=>none
def Qol(cs:List Fv):Nat->List Oper->Bool
 |_,[]=>true
 |
  i,o::l=>match An (Nat.blt · i) (NT o) && An (λp=>Bf p (NT o) || !An (λj => !Bf p (qU cs j)) (NT o)) (qU cs i)with
  |true=>Qol cs (i+1) l
  |false=>false
def djC(mvs:Fv)(p x:Rc):Bool:=Qow p x && Qow x p
def pJ(cs:List Fv)(mvs:Fv)(x:Rc)(i:Nat):Nat->List (Rc×Sg×Ga)->Bool
 |
  k,p::l=>match Nat.blt k i with
  |
   true=>match Bf k (qU cs i) || djC mvs p.1 x with
   |true=>pJ cs mvs x i (k+1) l
   |false=>false
  |false=>true
 |_,[]=>true
def GQ(cs:List Fv)(mvs:Fv)(all:List (Rc×Sg×Ga)):Nat->List (Rc×Sg×Ga)->Bool
 |_,[]=>true
 |
  i,x::l=>match pJ cs mvs x.1 i 0 all && ovC mvs x && x.1.mv.all (Bf · mvs)with
  |true=>GQ cs mvs all (i+1) l
  |false=>false
def xR:List (Rc×Sg×Ga)->Fv
 | []=>[]
 |
  x::l=>match x.1.mv with
  |some i=>i::xR l
  |none=>xR l
def drE(T:TT P)(n:Nat)(l:List Oper)(L:Sg)(B:Ga)(h:List (H P)):St P:=match dr T n l.toArray l L B h with
 |
  some (rs,L',B',h',q,ob)=>match clo l []with
  |
   some cs=>match Qol cs 0 l && GQ cs (xR rs) rs 0 rs with
   |true=>some (L',B',h',q,ob)
   |false=>none
  |none=>none
 |none=>none
end Orr
namespace Orr
open Go
variable{P:Program}{n:Nat}{L L':Sg}{B B':Ga}{Q:Exit->Sg->Ga->Prop}
class Mo (P:Program):Prop where
 mo:P.follows .mixedOrders=true
theorem Qx0{mvs:Fv}{x:Rc×Sg×Ga}(h:ovC mvs x=true):Ov mvs x.1 (lk x.2.1) (ob x.2.2):=by
 unfold ovC at h;rw[Zn]at h;obtain⟨h1,h2⟩:=h;have dec:∀(ids:Fv),An (λi => !Bf i mvs || isI x.1.mv i) ids=true->∀i∈ids,i∈mvs->x.1.mv=some i:=λids ha i hi hm=>by
  have:=Mk ha i hi;rw[Px.2 hm]at this;exact Qjr (by simpa using this)
 refine⟨λt y ht hy i hi hm=>?_,λj hj i hi hm=>?_⟩
 ·cases e:B6 x.1.ws t with
  |none=>rw[e]at ht;cases ht
  |
   some v =>
   have:=Mk h1 _ (JQ e);simp only[hy]at this;exact dec _ this i hi hm
 ·cases e:B6 x.1.wb j with
  |none=>rw[e]at hj;cases hj
  |
   some v =>
   have:=Mk h2 _ (JQ e);have hne:¬ob x.2.2 j=.gone:=λe=>by rw[e]at hi;simp[OB.ids]at hi
   obtain⟨b,e1,e2⟩:=Qj6 hne;rw[e2]at hi;simp only[Nc,e1]at this;exact dec _ this i hi hm
theorem Qsj{T:TT P}{arr:Array Oper}:∀{l:List Oper} {Lg L':Sg} {Bg B':Ga} {h h':List (H P)} {q:Li} {obs:List Prop} {rs:List (Rc×Sg×Ga)},dr T n arr l Lg Bg h=some (rs,L',B',h',q,obs)->EqOk q->Ge obs ->
 rs.length=l.length/\(∀(i:Nat) (o:Oper) (x:Rc×Sg×Ga),l[i]? = some o->rs[i]? = some x->Wf P arr n o x.1)/\∀(R:Nat->Rc) (mvs:Fv) (k:Nat),(∀(i:Nat) (x:Rc×Sg×Ga),rs[i]? = some x->R (k+i)=x.1)->(∀x∈rs,ovC mvs x=true) ->
  DR R mvs (λsl bl U=>sl=lk L'/\bl=ob B'/\U=nw B') (List.range' k l.length) (lk Lg) (ob Bg) (nw Bg)
 |
  [],Lg,L',Bg,B',h,h',q,obs,rs,hd,_,_=>by
  simp only[dr,Option.some.injEq,Prod.mk.injEq]at hd;obtain⟨rfl,rfl,rfl,_⟩:=hd;exact⟨rfl,λi o x h=>by simp at h,λR mvs k _ _=>⟨rfl,rfl,rfl⟩⟩
 |
  o::l,Lg,L',Bg,B',h,h',q,obs,rs,hd,hq,hob=>by
  simp only[dr]at hd
  split at hd
  ·rename_i L0 hL0
   split at hd
   ·rename_i r L1 B1 h1 q1 ob1 hds
    split at hd
    ·rename_i rs2 L2 B2 h2 q2 ob2 hdr;simp only[Option.some.injEq,Prod.mk.injEq]at hd;obtain⟨rfl,rfl,rfl,_,rfl,rfl⟩:=hd;rw[Nz]at hq;obtain⟨hq1,hq2⟩:=hq.app;obtain⟨ho1,ho2⟩:=VO.1 hob;have hone:Wf P arr n o r/\Loc r (lk Lg) (ob Bg) (nw Bg)/\lk L1=QW (lk Lg) r.ws/\ob B1=QW (ob Bg) r.wb/\nw B1=λj=>nw Bg j/\¬r.nw_ j:=by
      split at hds <;> exact Qxg hL0 hds hq1 ho1
     obtain⟨w1,w2,w3,w4,w5⟩:=hone;obtain⟨i1,i2,i3⟩:=Qsj hdr hq2 ho2;refine⟨by simp[i1],λi o' x hi hx=>?_,λR mvs k hR hov=>?_⟩
     ·cases i with
      |zero=>simp at hi hx;subst hi;subst hx;exact w1
      |succ i=>exact i2 i o' x (by simpa using hi) (by simpa using hx)
     ·have e0:R k=r:=by simpa using hR 0 (r,Lg,Bg) (by simp)
      rw[show List.range' k (o::l).length=k::List.range' (k+1) l.length from by simp[List.range'_succ]];refine⟨by rw[e0];exact w2,by rw[e0];exact Qx0 (hov _ (.head _)),?_⟩;have:=i3 R mvs (k+1) (λi x hx=>by
       have:=hR (i+1) x (by simpa using hx);rwa[show k+(i+1)=k+1+i from by omega]at this) λx hx=>hov x (.tail _ hx)
      rw[w3,w4,w5]at this;rw[e0];exact this
    ·cases hd
   ·cases hd
  ·cases hd
theorem kX{α:Type}{o:Option α}(h:(!isS o)=true):o=none:=by cases o <;> first|rfl|cases h
theorem Qie{p x:Rc}(h:Qow p x=true):Dj1 p x:=by
 unfold Qow at h;simp only[Zn]at h;obtain⟨⟨⟨h1,h2⟩,h3⟩,h4⟩:=h;have k1:∀t,(B6 p.ws t).isSome=true->lk x.L0 t=none/\B6 x.ws t=none:=λt ht=>by
  cases e:B6 p.ws t with
  |none=>rw[e]at ht;cases ht
  |
   some v =>
   have:=Mk h1 _ (JQ e);rw[Zn]at this;exact⟨kX this.1,kX this.2⟩
 refine⟨λt ht=>(k1 t ht).1,λt ht=>(k1 t ht).2,λj hj=>?_,λi hi=>?_,λj h5 h6=>?_⟩
 ·cases e:B6 p.wb j with
  |none=>rw[e]at hj;cases hj
  |
   some v =>
   have:=Mk h2 _ (JQ e);rw[Zn]at this;refine⟨?_,kX this.2⟩;have h7:=this.1;rw[Nc]at h7;unfold ob;cases e:x.B0[j]? with
   |none=>rfl
   |some b=>rw[e]at h7;simpa using h7
 ·rw[hi]at h3;simp only[Zn]at h3;refine⟨λt y hy hm=>?_,λj b hb hm=>?_⟩
  ·have:=Mk h3.1 _ (JQ hy);simp only[Px.2 hm]at this;cases this
  ·have:=Mk h3.2 _ (JQ hb);simp only[Px.2 hm]at this;cases this
 ·rcases Vp .. ▸ h4 with h|h
  ·have:=Zm h;have a1:=h5.2;have a2:=h6.1;omega
  ·have:=Zm h;have a1:=h5.1;have a2:=h6.2;omega
theorem fE{α:Type}{f:α->Bool}:∀{l:List α},An f l=false->∃x∈l,f x=false
 | [],h=>by cases h
 |
  y::l,h=>by
  simp only[An]at h
  split at h
  ·obtain⟨x,h1,h2⟩:=fE h;exact⟨x,.tail _ h1,h2⟩
  ·rename_i e;exact⟨y,.head _,e⟩
theorem Qab{cs:List Fv}:∀{l:List Oper} {k:Nat},Qol cs k l=true->∀i o,l[i]? = some o->(∀j∈NT o,j<k+i)/\∀p,Bf p (qU cs (k+i))=true->p∈NT o\/∃j∈NT o,Bf p (qU cs j)=true
 | [],k,_,i,o,h=>by simp at h
 |
  o::l,k,h,i,o',hi=>by
  simp only[Qol]at h
  split at h
  ·rename_i hc;cases i with
   |
    zero =>
    simp at hi;subst hi;rw[Zn]at hc;refine⟨λj hj=>by have:=Mk hc.1 j hj;rw[Jp]at this;omega,λp hp=>?_⟩;have:=Mk hc.2 p (Px.1 hp);rw[Vp]at this;rcases this with h|h
    ·exact .inl (Px.1 h)
    ·obtain⟨x,h1,h2⟩:=fE (by simpa using h);exact .inr ⟨x,h1,by simpa using h2⟩
   |
    succ i =>
    rw[show k+(i+1)=k+1+i from by omega];exact Qab h i o' (by simpa using hi)
  ·cases h
theorem pK{cs:List Fv}{mvs:Fv}{x:Rc}{i:Nat}:∀{ps:List (Rc×Sg×Ga)} {k:Nat},pJ cs mvs x i k ps=true->∀(m:Nat) (p:Rc×Sg×Ga),ps[m]? = some p->k+m<i->Bf (k+m) (qU cs i)=true\/djC mvs p.1 x=true
 | [],_,_,m,p,h,_=>by simp at h
 |
  p::ps,k,h,m,p',hm,hlt=>by
  simp only[pJ]at h
  split at h
  ·split at h
   ·rename_i hc;cases m with
    |zero=>simp at hm;subst hm;exact Vp .. ▸ hc
    |
     succ m =>
     rw[show k+(m+1)=k+1+m from by omega];exact pK h m p' (by simpa using hm) (by omega)
   ·cases h
  ·rename_i hb;have:¬Nat.blt k i=true:=by rw[hb];simp
   rw[Jp]at this;omega
theorem MC{cs:List Fv}{mvs:Fv}{all:List (Rc×Sg×Ga)}:∀{ps:List (Rc×Sg×Ga)} {k:Nat},GQ cs mvs all k ps=true->∀(i:Nat) (x:Rc×Sg×Ga),ps[i]? = some x->pJ cs mvs x.1 (k+i) 0 all=true/\ovC mvs x=true/\x.1.mv.all (Bf · mvs)=true
 | [],_,_,i,x,h=>by simp at h
 |
  p::ps,k,h,i,x,hi=>by
  simp only[GQ]at h
  split at h
  ·rename_i hc;cases i with
   |zero=>simp at hi;subst hi;simp only[Zn]at hc;exact⟨hc.1.1,hc.1.2,hc.2⟩
   |
    succ i =>
    rw[show k+(i+1)=k+1+i from by omega];exact MC h i x (by simpa using hi)
  ·cases h
theorem pD{l:List Oper}{i:Nat}{o:Oper}(h:l[i]? = some o):UX l i=NT o:=by simp only[UX,h];rfl
theorem AG(w:World):Grow w { w with drawn:=w.drawn+1 }:=⟨Qn _,λ_ _=>rfl,rfl,rfl⟩
theorem Qnp[Mo P]{T:TT P}{id:Nat}{arr:Array Oper}{hs hs':List (H P)}{q:Li}{obs:List Prop}{r:List It}(h:drE T n arr.toList L B hs=some (L',B',hs',q,obs))(hq:EqOk q)(hob:Ge obs)(k:AK P n Q r L' B'):AK P n Q (.code (.region id arr true)::r) L B:=by
 unfold drE at h
 split at h
 ·rename_i rs L2 B2 h2 q2 ob2 hdr
  split at h
  ·rename_i cs _
   split at h
   ·rename_i hc;simp only[Option.some.injEq,Prod.mk.injEq]at h;obtain⟨rfl,rfl,_,rfl,rfl⟩:=h;rw[Zn]at hc;obtain⟨hcl,hap⟩:=hc;have hcl:=Qab hcl;have hap:=MC hap;obtain⟨hlen,hwf,hDR⟩:=Qsj hdr hq hob
    let R:Nat->Rc:=λi=>match rs[i]? with
     |some x=>x.1
     |none=>⟨[],[],[],[],[],[],none⟩
    have hR:∀(i:Nat) (x:Rc×Sg×Ga),rs[i]? = some x->R i=x.1:=λi x hx=>by simp only[R,hx]
    have hget:∀i,i<arr.toList.length->∃x,rs[i]? = some x:=λi hi=>⟨rs[i]'(by omega),Qg _⟩
    have hDR:=hDR R (xR rs) 0 (λi x hx=>by rw[Xd];exact hR i x hx) λx hx=>by
     obtain⟨i,hi⟩:=Ze hx;exact(hap i x hi).2.1
    have hda:arr.toList.toArray=arr:=by simp
    rw[hda]at hwf;have hwf':∀i o,arr.toList[i]? = some o->Wf P arr.toList.toArray n o (R i):=λi o ho=>by
     obtain⟨x,hx⟩:=hget i (Qd.1 ho).1;rw[hR i x hx,hda];exact hwf i o x ho hx
    have hCl:Cl arr.toList λi p=>Bf p (qU cs i):=⟨λi hi j hj=>by
     have ho:=Qg hi;rw[pD ho]at hj;have:=(hcl i _ ho).1 j hj;omega,λi hi p hp=>by
     have ho:=Qg hi;rw[pD ho];have:=(hcl i _ ho).2 p (by rw[Xd];exact hp);exact this⟩
    have hdj:∀i,i<arr.toList.length->∀p,p<i->(Bf p (qU cs i))=false->Dj (xR rs) (R p) (R i):=λi hi p hp hn=>by
     obtain⟨x,hx⟩:=hget i hi;obtain⟨y,hy⟩:=hget p (by omega);obtain⟨a1,a2,a3⟩:=hap i x hx;rw[Xd]at a1;rcases pK a1 p y hy (by omega)with h|h
     ·rw[Xd,hn]at h;cases h
     ·unfold djC at h;rw[Zn]at h;rw[hR i x hx,hR p y hy];refine⟨Qie h.1,Qie h.2,?_,λj hj=>?_,λj hj=>?_⟩
      ·cases e:x.1.mv with
       |none=>rfl
       |
        some j =>
        rw[e]at a3;have:Bf j (xR rs)=true:=a3;simpa using Px.1 this
      ·have:=hwf' i _ (Qg hi);rw[hR i x hx]at this;exact(this.mv1 j hj).1
      ·have:=hwf' p _ (Qg (by omega));rw[hR p y hy]at this;exact(this.mv1 j hj).2
    intro F E M a w hs;refine wp_region_any Mo.mo ?_;have:=Qif (Q:=Qxq F n (mkQ Q (BP P n Q r))) (F:=F) hCl hwf' hdj (λa w sl bl U E M hsf ⟨e1,e2,e3⟩=>by
     subst e1;subst e2;subst e3;exact⟨_,_,E,M,⟨hsf.hs,hsf.size,hsf.defers,hsf.slots⟩,k⟩) arr.size (Array.replicate arr.size false) (List.range' 0 arr.toList.length) _ _ _ E M a { w with drawn:=w.drawn+1 } (by simp) List.pairwise_lt_range' (λj=>by
      rw[List.mem_range'_1];simp only[Array.getD_eq_getD_getElem?,Array.getElem?_replicate];constructor
      ·intro⟨_,h⟩;have h:j<arr.size:=by simpa using h
       exact⟨by simpa using h,by rw[if_pos h];rfl⟩
      ·intro⟨h,_⟩;exact⟨Qh _,by omega⟩) (by simp) (λi hi h=>by
       have hi:i<arr.size:=by simpa using hi
       rw[Array.getD_eq_getD_getElem?,Array.getElem?_replicate,if_pos hi]at h;cases h) hDR ⟨hs.hs.grow (AG w),hs.size,hs.defers,λt x hx=>by
        obtain⟨v,h1,h2⟩:=hs.slots t x hx;exact⟨v,h1,h2.keep ((AG w).le M) λi _ _=>rfl⟩⟩
    rw[hda]at this;exact this
   ·cases h
  ·cases h
 ·cases h
theorem Qfv{it:List It}{i:Nat}(hs:Mb it=true)(h:wL L B i=some (L',B'))(k:AK P n Q it L' B'):AK P n Q it L B:=AK.sub (CM h) hs k
abbrev Rn:=Option (List It×Sg×Ga×Li×List Prop)
def Qym:List (H P)->Gb->Option Nat
 | .p i::_,_=>some i
 | .c (Bin:=_::_) _ _::_,_=>none
 |_,ys=>Qqa ys
def unP:List (H P)->List (H P)
 | .p _::h=>h
 |h=>h
def Qv7(arr:Array Oper)(L:Sg)(o:Oper)(h:List (H P)):Option (Sg×List (H P)×(Qv×Qv)):=match o.guard with
 |none=>none
 |
  some (j,_)=>match (arr[j]?).bind (·.dst)with
  |
   some t'=>match lk L t' with
   |
    some (.v (.one (.bool b)))=>match h with
    | .t (b:=b') _::h=>some ((t',.cnd true (.one (.bool true)))::L,h,(.t (.one (.bool b)),.t (.one (.bool b'))))
    | .f (b:=b') _::h=>some ((t',.cnd true (.one (.bool false)))::L,h,(.t (.one (.bool b)),.t (.one (.bool b'))))
    |_=>none
   |_=>none
  |none=>none
theorem Qv8{arr:Array Oper}{o:Oper}{h h':List (H P)}{e:Qv×Qv}(hu:Qv7 arr L o h=some (L',h',e))(he:e.1=e.2):Sub n L B L' B:=by
 unfold Qv7 at hu
 split at hu
 ·cases hu
 ·split at hu
  ·split at hu
   ·rename_i b hl
    split at hu
    ·rename_i b' hb h2;injection hu with hu;injection hu with e1 hu;injection hu with e2 e3;subst e1;subst e3;injection he with he;injection he with he;injection he with he;subst he;subst hb;exact λF E M a w hs=>⟨E,M,hs.same hl λ_ h=>⟨λ_=>h,λe=>by cases e⟩⟩
    ·rename_i b' hb h2;injection hu with hu;injection hu with e1 hu;injection hu with e2 e3;subst e1;subst e3;injection he with he;injection he with he;injection he with he;subst he;subst hb;exact λF E M a w hs=>⟨E,M,hs.same hl λ_ h=>⟨λ_=>h,λe=>by cases e⟩⟩
    ·cases hu
   ·cases hu
  ·cases hu
def run(T:TT P)(n:Nat):Nat->List It->Sg->Ga->List (H P)->Li->List Prop->Rn
 | 0,it,L,B,_,q,ob=>some (it,L,B,q,ob)
 |
  f+1,it,L,B,h,q,ob=>match it with
  | .code (.seq x y)::r=>run T n f (.code x::.code y::r) L B h q ob
  | .code .skip::r=>run T n f r L B h q ob
  | .code (.block id c)::r=>run T n f (.code c::.blk id::r) L B h q ob
  |
   .code (.exit id)::r=>match SB id r with
   |some r'=>run T n f r' L B h q ob
   |none=>some (it,L,B,q,ob)
  | .code (.region id arr false)::r=>run T n f (.ops arr arr.toList::r) L B h q ob
  |
   .code (.region id arr true)::r=>match h with
   |
    .p i::h=>match wL L B i with
    |some (L',B')=>run T n f (.code (.region id arr true)::r) L' B' h q ob
    |none=>none
   |
    h=>match drE T n arr.toList L B h with
    |some (L',B',h',q',ob')=>run T n f r L' B' h' (JI q' q) (Sb ob' ob)
    |none=>some (it,L,B,q,ob)
  |
   .code (.cond c x y)::r=>match h with
   |
    .t (b:=b') _::h=>match evT L c with
    |some (.one (.bool b))=>run T n f (.code x::r) L B h ((.t (.one (.bool b)),.t (.one (.bool b')))::q) ob
    |_=>none
   |
    .f (b:=b') _::h=>match evT L c with
    |some (.one (.bool b))=>run T n f (.code y::r) L B h ((.t (.one (.bool b)),.t (.one (.bool b')))::q) ob
    |_=>none
   |_=>some (it,L,B,q,ob)
  | .blk _::r=>run T n f r L B h q ob
  | .ops _ []::r=>run T n f r L B h q ob
  |
   .pst d::r=>match Qk2 d L B h with
   |
    some (L',B',h',q')=>match Mb r with
    |true=>run T n f (.pst d::r) L' B' h' (JI q' q) ob
    |false=>none
   |none=>run T n f r L B h q ob
  |
   .ops arr (o::l)::r=>match gdE arr L o with
   |
    some true=>match YO o.op with
    |
     some (x,xs)=>match o.dst with
     |
      some d=>match Nat.blt d n with
      |
       true=>match oC T L h x xs with
       |
        some (g,ys,q0)=>match Qym h ys with
        |
         some i=>match wL L B (dig B 20 i)with
         |some (L',B')=>run T n f (.ops arr (o::l)::r) L' B' (unP h) q ob
         |none=>some (it,L,B,q,ob)
        |
         none=>match oD q0 L B h d g ys with
         |some (L',B',h',q',ob')=>run T n f (.pst d::.ops arr l::r) L' B' h' (JI q' q) (Sb ob' ob)
         |none=>some (it,L,B,q,ob)
       |none=>some (it,L,B,q,ob)
      |false=>none
     |none=>some (it,L,B,q,ob)
    |
     none=>match efE T n L B h o.dst o.op with
     |
      some (L',B',h',q',ob')=>match o.dst with
      |some d=>run T n f (.pst d::.ops arr l::r) L' B' h' (JI q' q) (Sb ob' ob)
      |none=>run T n f (.ops arr l::r) L' B' h' (JI q' q) (Sb ob' ob)
     |none=>some (it,L,B,q,ob)
   |
    some false=>match Qke n L o.dst with
    |some L'=>run T n f (.ops arr l::r) L' B h q ob
    |none=>some (it,L,B,q,ob)
   |
    none=>match Qv7 arr L o h with
    |some (L',h',e)=>run T n f (.ops arr (o::l)::r) L' B h' (e::q) ob
    |none=>some (it,L,B,q,ob)
  |it=>some (it,L,B,q,ob)
theorem uU[Mo P](T:TT P):∀(f:Nat) (it it':List It) (L L':Sg) (B B':Ga) (h:List (H P)) (q q':Li) (ob ob':List Prop),run T n f it L B h q ob=some (it',L',B',q',ob')->EqOk q'->Ge ob'->EqOk q/\Ge ob/\(AK P n Q it' L' B'->AK P n Q it L B):=by
 intro f;have stop:∀{it it':List It} {L L':Sg} {B B':Ga} {q q':Li} {ob ob':List Prop},some (it,L,B,q,ob)=some (it',L',B',q',ob')->EqOk q'->Ge ob'->EqOk q/\Ge ob/\(AK P n Q it' L' B'->AK P n Q it L B):=λh hq hob=>by
  obtain⟨rfl,rfl,rfl,rfl,rfl⟩:=Cn h;exact⟨hq,hob,id⟩
 induction f with
 |zero=>intro it it' L L' B B' h q q' ob ob' hr hq hob;exact stop hr hq hob
 |
  succ f ih =>
  intro it it' L L' B B' h q q' ob ob' hr hq hob;unfold run at hr
  split at hr
  ·obtain⟨h1,h2,h3⟩:=ih _ _ _ _ _ _ _ _ _ _ _ hr hq hob;exact⟨h1,h2,λk=>Qtb (h3 k)⟩
  ·obtain⟨h1,h2,h3⟩:=ih _ _ _ _ _ _ _ _ _ _ _ hr hq hob;exact⟨h1,h2,λk=>Qnt (h3 k)⟩
  ·obtain⟨h1,h2,h3⟩:=ih _ _ _ _ _ _ _ _ _ _ _ hr hq hob;exact⟨h1,h2,λk=>Qfu (h3 k)⟩
  ·split at hr
   ·rename_i r' hx;obtain⟨h1,h2,h3⟩:=ih _ _ _ _ _ _ _ _ _ _ _ hr hq hob;exact⟨h1,h2,λk=>Qnq hx (h3 k)⟩
   ·exact stop hr hq hob
  ·obtain⟨h1,h2,h3⟩:=ih _ _ _ _ _ _ _ _ _ _ _ hr hq hob;exact⟨h1,h2,λk=>Qta (h3 k)⟩
  ·split at hr
   ·split at hr
    ·rename_i hp;obtain⟨h1,h2,h3⟩:=ih _ _ _ _ _ _ _ _ _ _ _ hr hq hob;exact⟨h1,h2,λk=>Qfv rfl hp (h3 k)⟩
    ·cases hr
   ·split at hr
    ·rename_i hd;obtain⟨h1,h3,h4⟩:=ih _ _ _ _ _ _ _ _ _ _ _ hr hq hob;rw[Nz]at h1;obtain⟨h5,h6⟩:=h1.app;obtain⟨h7,h8⟩:=VO.1 h3;exact⟨h6,h8,λk=>Qnp hd h5 h7 (h4 k)⟩
    ·exact stop hr hq hob
  ·split at hr
   ·rename_i b' hb h2
    split at hr
    ·rename_i b hc;obtain⟨h1,h2,h3⟩:=ih _ _ _ _ _ _ _ _ _ _ _ hr hq hob;have e:=h1.hd;injection e with e;injection e with e;injection e with e;subst e;exact⟨h1.tl,h2,λk=>iZ hc (λ_=>h3 k) λe=>by rw[hb]at e;cases e⟩
    ·cases hr
   ·rename_i b' hb h2
    split at hr
    ·rename_i b hc;obtain⟨h1,h2,h3⟩:=ih _ _ _ _ _ _ _ _ _ _ _ hr hq hob;have e:=h1.hd;injection e with e;injection e with e;injection e with e;subst e;exact⟨h1.tl,h2,λk=>iZ hc (λe=>by rw[hb]at e;cases e) λ_=>h3 k⟩
    ·cases hr
   ·exact stop hr hq hob
  ·obtain⟨h1,h2,h3⟩:=ih _ _ _ _ _ _ _ _ _ _ _ hr hq hob;exact⟨h1,h2,λk=>h3 k⟩
  ·obtain⟨h1,h2,h3⟩:=ih _ _ _ _ _ _ _ _ _ _ _ hr hq hob;exact⟨h1,h2,λk=>h3 k⟩
  ·rename_i d r
   split at hr
   ·rename_i L2 B2 h2 q2 hp
    split at hr
    ·rename_i hs;obtain⟨h1,h3,h4⟩:=ih _ _ _ _ _ _ _ _ _ _ _ hr hq hob;rw[Nz]at h1;obtain⟨h5,h6⟩:=h1.app;exact⟨h6,h3,λk=>AK.sub (it:=r) (eQ hp h5) hs (h4 k)⟩
    ·cases hr
   ·obtain⟨h1,h2,h3⟩:=ih _ _ _ _ _ _ _ _ _ _ _ hr hq hob;exact⟨h1,h2,λk=>h3 k⟩
  ·rename_i arr o l r
   split at hr
   ·rename_i hgd
    split at hr
    ·rename_i x xs hcall;obtain⟨as0,ats,ho,rfl⟩:=xJ hcall
     split at hr
     ·rename_i d hd
      split at hr
      ·rename_i hdn
       split at hr
       ·rename_i g ys q0 ha
        split at hr
        ·rename_i i hown
         split at hr
         ·rename_i L2 B2 hp;obtain⟨h1,h2,h3⟩:=ih _ _ _ _ _ _ _ _ _ _ _ hr hq hob;exact⟨h1,h2,λk=>W1.sub (CM hp) (h3 k)⟩
         ·exact stop hr hq hob
        ·split at hr
         ·rename_i L2 B2 h2 q2 ob2 hc;obtain⟨h1,h3,h4⟩:=ih _ _ _ _ _ _ _ _ _ _ _ hr hq hob;rw[Nz]at h1;obtain⟨h5,h6⟩:=h1.app;obtain⟨h7,h8⟩:=VO.1 h3;exact⟨h6,h8,λk=>W1.on hgd (oI (o:=ung o) (N:=AW P arr n l (BP P n Q r).1) ho rfl hd hdn ha hc h5 (h4 k))⟩
         ·exact stop hr hq hob
       ·exact stop hr hq hob
      ·cases hr
     ·exact stop hr hq hob
    ·split at hr
     ·rename_i L2 B2 h2 q2 ob2 hs
      split at hr
      ·obtain⟨h1,h3,h4⟩:=ih _ _ _ _ _ _ _ _ _ _ _ hr hq hob;rw[Nz]at h1;obtain⟨h5,h6⟩:=h1.app;obtain⟨h7,h8⟩:=VO.1 h3;exact⟨h6,h8,λk=>W1.on hgd (dQ (o:=ung o) (N:=AW P arr n l (BP P n Q r).1) rfl rfl rfl hs h5 h7 (h4 k))⟩
      ·obtain⟨h1,h3,h4⟩:=ih _ _ _ _ _ _ _ _ _ _ _ hr hq hob;rw[Nz]at h1;obtain⟨h5,h6⟩:=h1.app;obtain⟨h7,h8⟩:=VO.1 h3;exact⟨h6,h8,λk=>W1.on hgd (dQ (o:=ung o) (N:=AW P arr n l (BP P n Q r).1) rfl rfl rfl hs h5 h7 (h4 k))⟩
     ·exact stop hr hq hob
   ·rename_i hgd
    split at hr
    ·rename_i L2 hL;obtain⟨h1,h2,h3⟩:=ih _ _ _ _ _ _ _ _ _ _ _ hr hq hob;exact⟨h1,h2,λk=>W1.off (N:=AW P arr n l (BP P n Q r).1) hgd hL (h3 k)⟩
    ·exact stop hr hq hob
   ·split at hr
    ·rename_i L2 h2 e hu;obtain⟨h1,h2,h3⟩:=ih _ _ _ _ _ _ _ _ _ _ _ hr hq hob;exact⟨h1.tl,h2,λk=>W1.sub (Qv8 hu h1.hd) (h3 k)⟩
    ·exact stop hr hq hob
  ·exact stop hr hq hob
end Orr
namespace Orr
open Go
variable{P:Program}{n:Nat}{L L':Sg}{B B':Ga}{Q:Exit->Sg->Ga->Prop}
def jN(tmps:Array Value):ResultVar->Sem Value
 | .tmp t=>pure (tmps.getD t undef)
 | .cell a t=>do loadVar t (<-asAddr (tmps.getD a undef))
theorem eM(fn:Func)(tmps:Array Value):results fn tmps=(do
 let vs <-fn.results.mapM (jN tmps)
 pure (if h:vs.size=1 then vs[0]else .tuple vs)):=by
 unfold results;congr 1
def mY(
 T:TT P) (
  L:Sg) (B:Ga):List ResultVar->Option Gb
  | []=>some []
  |
   .tmp t::r=>match lk L t with
   |
    some (.v u)=>match mY T L B r with
    |some us=>some (u::us)
    |none=>none
   |_=>none
  |
   .cell t S::r=>match T.find S with
   |
    some ti=>match lk L t with
    |
     some (.v (.one (.ow i 0)))=>match Ou B i with
     |
      some (.blk _ xs)=>match mE xs 0 ti.sz with
      |
       some l=>match XH ti.ag l with
       |
        some u=>match mY T L B r with
        |some us=>some (u::us)
        |none=>none
       |none=>none
      |none=>none
     |_=>none
    |_=>none
   |none=>none
theorem CC{T:TT P}{F:Fr}{E:Lf}{M:Nat->Prop}{a:Act}{w:World}(h:SA F n L B E M a w):∀{rs:List ResultVar} {us:Gb},mY T L B rs=some us->∃vs:List Value,F2 (TRep w M E) vs us/\(rs.mapM (jN a.tmps)).run P w=.ok vs w
 | [],us,hr=>by simp only[mY,Option.some.injEq]at hr;subst hr;exact⟨[],.nil,rfl⟩
 |
  .tmp t::r,us,hr=>by
  simp only[mY]at hr
  split at hr
  ·rename_i u hu
   split at hr
   ·rename_i us' hr';injection hr with hr;subst hr;obtain⟨vs,h1,h2⟩:=CC h hr';obtain⟨v,h3,h4⟩:=h.slots t _ hu;refine⟨v::vs,.cons h4 h1,?_⟩;simp only[List.mapM_cons,jN,Sem.run_bind,Sem.run_pure,Result.andThen_ok,Array.getD_eq_getD_getElem?,h3,V3,h2]
   ·cases hr
  ·cases hr
 |
  .cell t S::r,us,hr=>by
  simp only[mY]at hr
  split at hr
  ·rename_i ti hti;have hti:=TT.find_t hti;subst hti
   split at hr
   ·rename_i i hu
    split at hr
    ·rename_i T' xs hb
     split at hr
     ·rename_i l hl
      split at hr
      ·rename_i u hbu
       split at hr
       ·rename_i us' hr';injection hr with hr;subst hr;obtain⟨vs,h1,h2⟩:=CC h hr';obtain⟨v,h3,g,c,m,he,hv⟩:=h.slots t _ hu;obtain⟨g',c',m',he',cs,hg,hc⟩:=h.blk hb;rw[he]at he';injection he' with he';injection he' with e1 _;injection e1 with e1;injection e1 with e1 _;subst e1
        obtain⟨rfl,hle⟩:=WV hl;obtain⟨v2,hv2,hv3⟩:=Ek hbu ((hc.drop 0).take ti.sz);have hl2:=hc.len;have hload:(loadVar ti.t ⟨g,0,none⟩).run P w=.ok v2 w:=NC ti.hag ti.hsz (vs:=(cs.drop 0).take ti.sz) (by simp;omega) (λj v hj=>by rw[KJ hg];exact RA hj) hv2;refine⟨v2::vs,.cons hv3 h1,?_⟩;simp only[List.mapM_cons,jN,Sem.run_bind,Sem.run_pure,Result.andThen_ok,Array.getD_eq_getD_getElem?,h3,V3,hv,asAddr,hload,h2]
       ·cases hr
      ·cases hr
     ·cases hr
    ·cases hr
   ·cases hr
  ·cases hr
theorem NL{fn:Func}{a:Act}{w:World}{vs:List Value}{M:Nat->Prop}{E:Lf}{us:Gb}(h:(fn.results.toList.mapM (jN a.tmps)).run P w=.ok vs w)(hr:F2 (TRep w M E) vs us):∃r,(results fn a.tmps).run P w=.ok r w/\ARep w M E r (TL us):=by
 have hm:(fn.results.mapM (jN a.tmps)).run P w=.ok vs.toArray w:=by
  have:fn.results=fn.results.toList.toArray:=by simp
  rw[this,List.mapM_toArray,map_eq_pure_bind,Sem.run_bind,h];rfl
 refine⟨if h:vs.toArray.size=1 then vs.toArray[0]else .tuple vs.toArray,?_,?_⟩
 ·rw[eM];simp only[Sem.run_bind,hm,Result.andThen_ok,Sem.run_pure]
 ·match vs,us,hr with
  | [v],[t],.cons h0 .nil=>simpa[TL,ARep]using h0
  | [],[],.nil=>exact⟨[],rfl,.nil⟩
  |v::v'::vs,t::t'::us,hr=>exact⟨_,by simp,hr⟩
theorem HS.forget{F:Fr}{bl:Nat->OB}{U:Nat->Prop}{E:Lf}{M:Nat->Prop}{w:World}(h:HS F bl U E M w)(hJ:∀i,¬F.J i):HS F (ob []) (nw []) (λ_=>none) M w :=
 {size:=h.size,kept:=h.kept,io:=h.io,mlt:=h.mlt,m0:=h.m0
  ids:=λi hi=>absurd hi (hJ i)
  nj:=λi _=>hJ i
  blk:=λi=>by simp[ob];trivial
  nk:=λi g c m hl _=>by simp[ob,OB.lv]at hl
  inj:=λi j g c m c' m' hl=>by simp[ob,OB.lv]at hl
  un:=λi _=>⟨rfl,by simp[ob]⟩
  uj:=λi _=>hJ i }
def Qiv(
 T:TT P):Nat->Sg->Ga->List ResultVar->Option Gb
  | 0,_,_,_=>none
  |
   f+1,L,B,rs=>match mY T L B rs with
   |
    some us=>match Qqa us with
    |
     some i=>match wL L B (dig B 20 i)with
     |some (L',B')=>Qiv T f L' B' rs
     |none=>none
    |
     none=>match Ir us with
     |
      some ys=>match O2 ys with
      |true=>some ys
      |false=>none
     |none=>none
   |none=>none
theorem EE{T:TT P}{fn:Func}{e:Exit}(he:e=.ret\/e=.normal):∀{f:Nat} {L:Sg} {B:Ga} {us:Gb},Qiv T f L B fn.results.toList=some us->RQ P fn n 0 (λu B=>u=us/\B=[]) e L B
 | 0,_,_,_,h=>by cases h
 |
  f+1,L,B,us,h=>by
  simp only[Qiv]at h
  split at h
  ·rename_i us0 hr
   split at h
   ·split at h
    ·rename_i L' B' hp;obtain⟨_,h1⟩:=EE he h;refine⟨he,λF E M a w hs hJ=>?_⟩;obtain⟨E',M',h2⟩:=CM hp F E M a w hs;exact h1 F E' M' a w h2 hJ
    ·cases h
   ·split at h
    ·rename_i ys hys
     split at h
     ·rename_i hfr;injection h with h;subst h;refine⟨he,λF E M a w hs hJ=>?_⟩;obtain⟨vs,h1,h2⟩:=CC hs hr;have h3:=ZZ hys h1;obtain⟨r,h4,h5⟩:=NL h2 h3;refine⟨r,_,[],λ_=>none,M,h4,⟨rfl,rfl⟩,Qh _,hs.hs.forget λi=>hJ i (Qh _),h5.keep (Le.refl _ _) λi hi=>?_⟩;rw[gZ hfr]at hi;cases hi
     ·cases h
    ·cases h
  ·cases h
def qW:List Prop->Option (List Prop)
 | []=>some []
 |
  p::l=>match qW l with
  |some r=>some (p::r)
  |none=>none
theorem HC:∀{l r:List Prop},qW l=some r->r=l
 | [],r,h=>by simp only[qW,Option.some.injEq]at h;exact h.symm
 |
  p::l,r,h=>by
  simp only[qW]at h
  split at h
  ·rename_i q hq;injection h with h;rw[<-h,HC hq]
  ·cases h
def zS:List It->Bool
 | .code .ret::_=>true
 | []=>true
 |_=>false
def wE(
 T:TT P) (n:Nat) (c:Code) (rs:List ResultVar) (args:Gb) (hs:List (H P)):Option (Gb×List Qv×List Qv×List Prop):=match run T n 100000 [.code c] (WL 0 args) [] hs [] []with
  |
   some (it,L,B,q,ob)=>match zS it with
   |
    true=>match Qiv T 100 L B rs with
    |
     some us=>match qW ob with
     |some ob=>some (us,q.map (·.1),q.map (·.2),ob)
     |none=>none
    |none=>none
   |false=>none
  |none=>none
theorem EqOk.of:∀{q:Li},q.map (·.1)=q.map (·.2)->EqOk q
 | [],_=>EqOk.nil
 |
  (a,b)::q,h=>by
  injection h with h1 h2;intro p hp;rcases Qj.1 hp with rfl|hp
  ·exact h1
  ·exact EqOk.of h2 p hp
theorem w [Mo P] (T:TT P) {f:FuncId} {fn:Func} {c:Code} {args res us:Gb} {as0:List Qv} {ob:List Prop} (hf:P.funcs[f]? = some fn) (hh:(fn.body,fn.ntmps,(fn.name == "runtime.NumGoroutine"),Nat.ble args.length n)=(some c,n,false,true)) (hs:List (H P))
 (h:wE T n c fn.results.toList args hs=some (us,as0,as0,ob)) (he:us=res) (ho:Ge ob):yT P f args res:=by
 injection hh with hb hh;injection hh with hn hh;injection hh with hnm hl;subst he;refine⟨⟨fn,hf,hnm,by rw[hb];rfl⟩,fn_ hf hb hn hl ?_⟩;unfold wE at h
 split at h
 ·rename_i it L B q ob' hr
  split at h
  ·rename_i hend
   split at h
   ·rename_i us' hfin
    split at h <;> first|(cases h;done)|skip
    rename_i ob2 hnp;obtain rfl:=HC hnp;injection h with h;injection h with e1 h;injection h with e2 h;injection h with e3 e4;subst e1;subst e4;have hq:EqOk q:=EqOk.of (e2.trans e3.symm);obtain⟨_,_,k⟩:=uU (Q:=RQ P fn n 0 λu B=>u=us'/\B=[]) T _ _ _ _ _ _ _ _ _ _ _ _ hr hq ho;refine k ?_;unfold zS at hend
    split at hend
    ·exact nC (EE (.inl rfl) hfin)
    ·exact EE (.inr rfl) hfin
    ·cases hend
   ·cases h
  ·cases h
 ·cases h
theorem go[Mo P](T:TT P){it it':List It}{as0:List Qv}{ob:List Prop}(hs:List (H P))(h:(match run T n 100000 it L B hs [] []with
 |
  some (it,L,B,q,ob)=>(match qW ob with
  |some ob=>some (it,L,B,q.map (·.1),q.map (·.2),ob)
  |none=>none)
 |none=>none)=some (it',L',B',as0,as0,ob)) (ho:Ge ob) (k:AK P n Q it' L' B'):AK P n Q it L B:=by
 split at h
 ·rename_i it L B q ob' hr
  split at h <;> first|(cases h;done)|skip
  rename_i ob2 hnp;obtain rfl:=HC hnp;injection h with h;injection h with e1 h;injection h with e2 h;injection h with e3 h;injection h with e4 h;injection h with e5 e6;subst e1;subst e2;subst e3;subst e6;exact(uU T _ _ _ _ _ _ _ _ _ _ _ _ hr (EqOk.of (e4.trans e5.symm)) ho).2.2 k
 ·cases h
end Orr
namespace Orr
open Go
theorem tN{P:Program}{S f off T:Nat}{fs:Array Field}{k:Nat}(hu:∀w,(underlying S).run P w=.ok (.struct fs) w)(hf:(fs[f]?).map (λfl=>(fl.type,fl.offset))=some (T,off))(hs:∀w,(Go.sizeOf T).run P w=.ok k w)(hk:k≠0)(b o:Nat)(w:World) :
 (Instr.fieldAt S (.pointer (some ⟨b,o,none⟩)) f).run P w=.ok (.pointer (some ⟨b,o+off,none⟩)) w:=by
 cases h:fs[f]? with
 |none=>rw[h]at hf;cases hf
 |
  some fl =>
  rw[h]at hf;simp only[Yw,Option.some.injEq,Prod.mk.injEq]at hf;obtain⟨rfl,rfl⟩:=hf;simp[Instr.fieldAt,hu,h,Instr.sureAddr,fieldPlace,hs,hk,Lk]
def ZO(fs:List Field)(sizes:Fv):List (Nat×Nat):=(fs.map (·.offset)).zip sizes
def FieldSizes(P:Program):List Field->Fv->Prop
 | [],[]=>True
 |f::fs,k::ks=>(∀w,(Go.sizeOf f.type).run P w=.ok k w)/\FieldSizes P fs ks
 |_,_=>False
theorem ND{P:Program}:∀(fs:List Field) (sizes:Fv) (w:World),FieldSizes P fs sizes ->
 (fs.mapM λf=>do pure (f.offset,<-Go.sizeOf f.type):Sem (List (Nat×Nat))).run P w=.ok (ZO fs sizes) w
 | [],[],w,_=>rfl
 | [],_::_,w,h=>h.elim
 |_::_,[],w,h=>h.elim
 |
  f::fs,k::sizes,w,⟨h0,h⟩=>by
  have ih:=ND fs sizes w h;simp only[List.mapM_cons,Sem.run_bind,h0,Result.andThen_ok,Sem.run_pure];rw[ih];rfl
theorem Qc9{P:Program}{T:Nat}{fs:Array Field}{sizes:Fv}{z:Value}{vs:List (Nat×Value)}{cs:Array Value}(hu:∀w,(underlying T).run P w=.ok (.struct fs) w)(hz:∀w,(zeroValue T).run P w=.ok z w)
 (hs:FieldSizes P fs.toList sizes)
 (hf:Instr.fill ((ZO fs.toList sizes)[·]?) z.cells vs=some cs) (w:World):(Instr.build T vs.toArray).run P w=.ok (.agg cs) w:=by
 have hp:=ND (P:=P) fs.toList sizes w hs;have hm:(fs.mapM λf=>do pure (f.offset,<-Go.sizeOf f.type):Sem (Array (Nat×Nat))).run P w=.ok (ZO fs.toList sizes).toArray w:=by
  cases fs with
  |
   mk l =>
   rw[List.mapM_toArray,map_eq_pure_bind,Sem.run_bind,show(List.mapM (λf:Field=>do pure (f.offset,<-Go.sizeOf f.type):Field->Sem (Nat×Nat)) l).run P w=_ from hp];rfl
 simp only[Instr.build,Sem.run_bind,hz,hu,Result.andThen_ok,hm];have e:(λx:Nat=>(ZO fs.toList sizes).toArray[x]?)=λx=>(ZO fs.toList sizes)[x]? := by funext x;simp
 rw[e,hf];rfl
theorem bY{P:Program}{T E m k:Nat}{z:Value}{vs:List (Nat×Value)}{cs:Array Value}(hu:∀w,(underlying T).run P w=.ok (.array m E) w)(hz:∀w,(zeroValue T).run P w=.ok z w)
 (hs:∀w,(Go.sizeOf E).run P w=.ok k w)
 (hf:Instr.fill (λi=>some (i*k,k)) z.cells vs=some cs) (w:World):(Instr.build T vs.toArray).run P w=.ok (.agg cs) w:=by
 simp only[Instr.build,Sem.run_bind,hz,hu,Result.andThen_ok,hs,hf];rfl
theorem Qea{P:Program}{S f off T m:Nat}{ag:Bool}{fs:Array Field}(hu:∀w,(underlying S).run P w=.ok (.struct fs) w)(hf:(fs[f]?).map (λfl=>(fl.type,fl.offset))=some (T,off))(ht:∀w,(isAgg T).run P w=.ok ag w)(hs:∀w,(Go.sizeOf T).run P w=.ok m w)
 (vs:List Value) (v:Value) (hv:if ag=true then v=.agg ((vs.drop off).take m).toArray else vs[off]? = some v) (_:off+m<=vs.length) (w:World):(Instr.field S (.agg vs.toArray) f).run P w=.ok v w:=by
 cases h:fs[f]? with
 |none=>rw[h]at hf;cases hf
 |
  some fl =>
  rw[h]at hf;simp only[Yw,Option.some.injEq,Prod.mk.injEq]at hf;obtain⟨rfl,rfl⟩:=hf;cases ag with
  |
   true =>
   simp only[if_true]at hv;subst hv;simp[Instr.field,hu,h,asAgg,Go.part,ht,hs,List.extract]
   done
  |
   false =>
   simp at hv;simp[Instr.field,hu,h,asAgg,Go.part,ht,hv]
variable{P:Program}
def Aggs(P:Program):List Field->List Bool->Prop
 | [],[]=>True
 |f::fs,k::ks=>(∀w,(isAgg f.type).run P w=.ok k w)/\Aggs P fs ks
 |_,_=>False
theorem FieldSizes.get:∀{fs:List Field} {ks:Fv},FieldSizes P fs ks->∀{i:Nat} {f:Field},fs[i]? = some f->∃k,ks[i]? = some k/\∀w,(Go.sizeOf f.type).run P w=.ok k w
 | [],[],_,i,f,h=>by simp at h
 |g::fs,k::ks,h,0,f,hf=>by simp at hf;subst hf;exact⟨k,rfl,h.1⟩
 |g::fs,k::ks,h,i+1,f,hf=>by simpa using h.2.get (i:=i) (by simpa using hf)
 | [],_::_,h,_,_,_=>h.elim
 |_::_,[],h,_,_,_=>h.elim
theorem Aggs.get:∀{fs:List Field} {ks:List Bool},Aggs P fs ks->∀{i:Nat} {f:Field},fs[i]? = some f->∃k,ks[i]? = some k/\∀w,(isAgg f.type).run P w=.ok k w
 | [],[],_,i,f,h=>by simp at h
 |g::fs,k::ks,h,0,f,hf=>by simp at hf;subst hf;exact⟨k,rfl,h.1⟩
 |g::fs,k::ks,h,i+1,f,hf=>by simpa using h.2.get (i:=i) (by simpa using hf)
 | [],_::_,h,_,_,_=>h.elim
 |_::_,[],h,_,_,_=>h.elim
def QV(t:TypeId){ag:Bool}{sz:Nat}{un:TypeDesc}{z:Value}(hag:∀w,(isAgg t).run P w=.ok ag w)(hsz:∀w,(Go.sizeOf t).run P w=.ok sz w)(hun:P.underlying t=some un)(hz:∀w,(zeroValue t).run P w=.ok z w){info:TypeInfo}(hi:∀w,(typeInfo t).run P w=.ok info w)(by_:Nat)(hby:info.bytes=by_):TI P :=
 {t,ag,sz,un,z,by_,fo:=[],fv:=[],bl:=none,hag,hsz,hun,hz,hi:=⟨info,hi,hby⟩,hfo:=λ_ _ h=>by simp at h,hfv:=λ_ _ _ _ h=>by simp at h,hbl:=λ_ _ h=>by cases h }
def tiA(t:TypeId){sz m E k:Nat}{ag:Bool}{zs:Array Value}(hag:∀w,(isAgg t).run P w=.ok ag w)(hsz:∀w,(Go.sizeOf t).run P w=.ok sz w)(hun:P.underlying t=some (.array m E))(hz:∀w,(zeroValue t).run P w=.ok (.agg zs) w){info:TypeInfo}(hi:∀w,(typeInfo t).run P w=.ok info w)(by_:Nat)(hby:info.bytes=by_)(he:∀w,(Go.sizeOf E).run P w=.ok k w):TI P :=
 {t,ag,sz,un:=.array m E,z:=.agg zs,by_,fo:=[],fv:=[],bl:=some (zs.toList,λi=>some (i*k,k)),hag,hsz,hun,hz,hi:=⟨info,hi,hby⟩,hfo:=λ_ _ h=>by simp at h,hfv:=λ_ _ _ _ h=>by simp at h
  hbl:=λzs' pl h=>by
   injection h with h;injection h with h1 h2;subst h1;subst h2;intro vs cs hf w;exact bY (z:=.agg zs) (sZ hun) hz he (by simpa[Value.cells]using hf) w }
def pN:List Field->Fv->List Bool->List (Nat×Nat×Bool)
 |f::fs,k::ks,a::as0=>(f.offset,k,a)::pN fs ks as0
 |_,_,_=>[]
theorem pB:∀{fs:List Field} {ks:Fv} {as0:List Bool} {i:Nat} {x:Nat×Nat×Bool},(pN fs ks as0)[i]? = some x->∃f,fs[i]? = some f/\ks[i]? = some x.2.1/\as0[i]? = some x.2.2/\x.1=f.offset
 | [],_,_,i,x,h=>by simp[pN]at h
 |_::_,[],_,i,x,h=>by simp[pN]at h
 |_::_,_::_,[],i,x,h=>by simp[pN]at h
 |f::fs,k::ks,a::as0,0,x,h=>by simp[pN]at h;subst h;exact⟨f,rfl,rfl,rfl,rfl⟩
 |f::fs,k::ks,a::as0,i+1,x,h=>by simpa using pB (fs:=fs) (i:=i) (by simpa[pN]using h)
def WW(t:TypeId){sz:Nat}{fs:Array Field}{zs:Array Value}{g:Bool}{ks:Fv}{ag:List Bool}(hag:∀w,(isAgg t).run P w=.ok g w)(hsz:∀w,(Go.sizeOf t).run P w=.ok sz w)(hun:P.underlying t=some (.struct fs))(hz:∀w,(zeroValue t).run P w=.ok (.agg zs) w){info:TypeInfo}(hi:∀w,(typeInfo t).run P w=.ok info w)(by_:Nat)(hby:info.bytes=by_)
 (hs:FieldSizes P fs.toList ks) (ha:Aggs P fs.toList ag) (h0:(ks.all λk=>Nat.blt 0 k)=true):TI P :=
 {t,ag:=g,sz,un:=.struct fs,z:=.agg zs,by_,fo:=fs.toList.map (·.offset),fv:=pN fs.toList ks ag,bl:=some (zs.toList,((ZO fs.toList ks)[·]?)),hag,hsz,hun,hz,hi:=⟨info,hi,hby⟩
  hfo:=λf off h b o w=>by
   rw[Zb]at h;cases hf:fs.toList[f]? with
   |none=>rw[hf]at h;cases h
   |
    some fl =>
    rw[hf]at h;simp only[Yw,Option.some.injEq]at h;obtain⟨k,hk,hr⟩:=hs.get hf;have hk0:k≠0:=by
     have:=Jd.1 h0 k (Qa hk);rw[Jp]at this;omega
    refine tN (T:=fl.type) (k:=k) (sZ hun) ?_ hr hk0 b o w;rw[<-Array.getElem?_toList,hf,<-h];rfl
  hfv:=λf off m ag_ h vs v hv hl w=>by
   obtain⟨fl,hf,h1,h2,h3⟩:=pB h;obtain⟨k,hk,hr⟩:=hs.get hf;obtain⟨a,ha',hr'⟩:=ha.get hf;rw[hk]at h1;injection h1 with h1;rw[ha']at h2;injection h2 with h2;have h1:k=m:=h1;have h2:a=ag_:=h2;have h3:off=fl.offset:=h3;subst h1;subst h2;subst h3;exact Qea (T:=fl.type) (sZ hun) (by rw[<-Array.getElem?_toList,hf];rfl) hr' hr vs v hv hl w
  hbl:=λzs' pl h=>by
   injection h with h;injection h with h1 h2;subst h1;subst h2;intro vs cs hf w;exact Qc9 (z:=.agg zs) (sZ hun) hz hs (by simpa[Value.cells]using hf) w }
end Orr
namespace Orr
open Go
section
variable{F:Fr}{bl bl':Nat->OB}{U U':Nat->Prop}{E E':Lf}{M:Nat->Prop}{w:World}
theorem HS.renum(h:HS F bl U E M w){ρ:Nat->Nat}(hi:∀i j,ρ i=ρ j->i=j)(hb:∀j,(bl' j).lv=true->bl (ρ j)=I6 ρ (bl' j))(hU:∀j,U' j->bl' j=.gone)(h1:∀j,U' j->E' j=none)(h2:∀j,¬U' j->E' j=E (ρ j))(hids:∀j,∀i∈(bl' j).ids,¬U' i)(hJ:∀j,F.J j->ρ j=j/\¬U' j):HS F bl' U' E' M w:=by
 have hlu:∀j,(bl' j).lv=true->¬U' j:=λj hj hu=>by rw[hU j hu]at hj;cases hj
 have hlv:∀j,(bl' j).lv=true->(bl (ρ j)).lv=true:=λj hj=>by rw[hb j hj,(Cd _).1];exact hj
 exact {
  size:=h.size
  kept:=h.kept
  io:=h.io
  mlt:=h.mlt
  m0:=h.m0
  ids:=λi hi=>by obtain⟨e,hu⟩:=hJ i hi;rw[h2 i hu,e];exact h.ids i hi
  nj:=λi hi hj=>by
   have hl:(bl' i).lv=true:=by cases e:bl' i <;> rw[e]at hi <;> first|rfl|cases hi
   refine h.nj i ?_ hj;have:=hb i hl;rw[(hJ i hj).1]at this;rw[this,(Cd _).2];exact hi
  blk:=λj=>by
   cases hl:(bl' j).lv with
   |false=>cases hbl:bl' j <;> rw[hbl]at hl <;> first|trivial|cases hl
   |
    true =>
    have:=h.blk (ρ j);rw[hb j hl]at this;exact this.to (λ_=>h2 j (hlu j hl)) λi hi _=>h2 i (hids j i hi)
  nk:=λi g c m hl e=>h.nk (ρ i) g c m (hlv i hl) (by rw[<-h2 i (hlu i hl)];exact e)
  inj:=λi j g c m c' m' hli hlj ei ej=>hi _ _ (h.inj (ρ i) (ρ j) g c m c' m' (hlv i hli) (hlv j hlj) (by rw[<-h2 i (hlu i hli)];exact ei) (by rw[<-h2 j (hlu j hlj)];exact ej))
  un:=λi hi=>⟨h1 i hi,hU i hi⟩
  uj:=λi hi hj=>(hJ i hj).2 hi }
end
variable{P:Program}{n:Nat}{L L':Sg}{B B':Ga}{Q:Exit->Sg->Ga->Prop}
def eqA:AV->AV->Option Li
 | .v t,.v u=>some [(.t t,.t u)]
 | .tup l,.tup r=>fF l r
 | .cnd b t,.cnd c u=>some [(.t (.one (.bool b)),.t (.one (.bool c))),(.t t,.t u)]
 |_,_=>none
theorem Que{x y:AV}{q:Li}(h:eqA x y=some q)(hq:EqOk q):x=y:=by
 cases x <;> cases y <;> simp only[eqA]at h <;> first|(cases h;done)|skip
 ·injection h with h;subst h;have e:=hq.hd;injection e with e;rw[e]
 ·rw[TP h hq]
 ·injection h with h;subst h;have e:=hq.hd;injection e with e;injection e with e;injection e with e;have e2:=hq.tl.hd;injection e2 with e2;rw[e,e2]
def Qrf(nb:Nat)(L:Sg):Sg->Option Li
 | []=>some []
 |
  (t,x)::l=>match lk L t with
  |
   some y=>match eqA y x,Qrf nb L l with
   |
    some q,some q2=>match An (Nat.blt · nb) x.ids with
    |true=>some (JI q q2)
    |false=>none
   |_,_=>none
  |none=>none
theorem Qcw{nb:Nat}:∀{l:Sg} {q:Li},Qrf nb L l=some q->EqOk q->∀t x,lk l t=some x->lk L t=some x/\∀i∈x.ids,i<nb
 | [],_,_,_,t,x,h=>by simp[lk]at h
 |
  (s,y)::l,q,h,hq,t,x,hx=>by
  simp only[Qrf]at h
  split at h
  ·rename_i z hz
   split at h
   ·rename_i q1 q2 h1 h2
    split at h
    ·rename_i hi;injection h with h;subst h;rw[Nz]at hq;obtain⟨ha,hb⟩:=hq.app;simp only[lk]at hx
     split at hx
     ·rename_i e;injection hx with hx;subst hx;obtain rfl:=Qu e;refine⟨by rw[hz,Que h1 ha],λi hm=>?_⟩;have:=Mk hi i hm;rwa[Jp]at this
     ·exact Qcw h2 hb t x hx
    ·cases h
   ·cases h
  ·cases h
def PH:OB->Bool
 | .gone=>true
 |_=>false
def Qfc(nb:Nat):Ga->Ga->Option Li
 |_,[]=>some []
 |
  [],c::l=>match PH c with
  |true=>Qfc nb [] l
  |false=>none
 |
  b::r,c::l=>match Qfc nb r l with
  |
   some q=>match PH c with
   |true=>some q
   |
    false=>match An (Nat.blt · nb) c.ids with
    |true=>some ((.o b,.o c)::q)
    |false=>none
  |none=>none
theorem DX{nb:Nat}:∀{r l:Ga} {q:Li},Qfc nb r l=some q->EqOk q->∀j,(ob l j).lv=true->ob r j=ob l j/\∀i∈(ob l j).ids,i<nb
 |_,[],_,_,_,j,hj=>by simp[ob,OB.lv]at hj
 |
  [],c::l,q,h,hq,j,hj=>by
  simp only[Qfc]at h
  split at h
  ·rename_i hg;cases j with
   |zero=>cases c <;> simp[PH]at hg;simp[ob,OB.lv]at hj
   |
    succ j =>
    have:=DX h hq j (by simpa[ob]using hj);simpa[ob]using this
  ·cases h
 |
  b::r,c::l,q,h,hq,j,hj=>by
  simp only[Qfc]at h
  split at h
  ·rename_i q' hq'
   split at h
   ·rename_i hg;injection h with h;subst h;cases j with
    |zero=>cases c <;> simp[PH]at hg;simp[ob,OB.lv]at hj
    |
     succ j =>
     have:=DX hq' hq j (by simpa[ob]using hj);simpa[ob]using this
   ·split at h
    ·rename_i hi;injection h with h;subst h;have e:=hq.hd;injection e with e;cases j with
     |
      zero =>
      refine⟨by simpa[ob]using e,λi hm=>?_⟩;have:=Mk hi i (by simpa[ob]using hm);rwa[Jp]at this
     |
      succ j =>
      have:=DX hq' hq.tl j (by simpa[ob]using hj);simpa[ob]using this
    ·cases h
  ·cases h
def aS(k:Option Nat)(L:Sg)(B:Ga)(L2:Sg)(B2:Ga):Option Li:=match lenB B,lenB B2 with
 |
  some n1,some n2=>match (match Nat.ble n1 n2 with
   |true=>true
   |
    false=>match k with
    |some k=>Nat.ble k n2
    |none=>false)with
  |
   true=>match Qrf n2 L L2,Qfc n2 B B2 with
   |some q,some q2=>some (JI q q2)
   |_,_=>none
  |false=>none
 |_,_=>none
theorem Qqq:∀b:OB,I6 id b=b
 |
  .blk T xs=>by
  have e:∀ys:Fy,ys.map (uZ id)=ys:=λys=>by
   induction ys with
   |nil=>rfl
   |cons y ys ih=>simp only[Zx,ih];cases y <;> rfl
  have e2:∀ys:Fy,ys.map (FV id)=ys:=λys=>by
   induction ys with
   |nil=>rfl
   |cons y ys ih=>simp only[Zx,ih];cases y <;> simp[FV,e]
  simp only[I6,e2]
 | .gone=>rfl
 | .row .. => rfl
 | .mpb _=>rfl
theorem DJ{k:Option Nat}{L2:Sg}{B2:Ga}{q:Li}(h:aS k L B L2 B2=some q)(hq:EqOk q):Qwr k n L B L2 B2:=by
 unfold aS at h
 split at h
 ·rename_i n1 n2 h1 h2;obtain rfl:=Ca h1;obtain rfl:=Ca h2
  split at h
  ·rename_i hk
   split at h
   ·rename_i q1 q2 hs hb;injection h with h;subst h;rw[Nz]at hq;obtain⟨ha,hbq⟩:=hq.app;have hs:=Qcw hs ha;have hb:=DX hb hbq;intro F E M a w hF hsa;have hJ:∀j,F.J j->j<B2.length:=λj hj=>by
     apply Classical.byContradiction;intro hn
     split at hk
     ·rename_i e;have:=Zm e;exact hsa.hs.uj j (by simp only[nw];omega) hj
     ·split at hk
      ·have:=Zm hk;exact hF j (by omega) hj
      ·cases hk
    refine⟨λi=>if i<B2.length then E i else none,M,hsa.hs.renum (ρ:=id) (λ_ _ e=>e) (λj hj=>?_) (λj hj=>Sx hj) (λj hj=>if_neg (by simpa[nw]using hj)) (λj hj=>if_pos (by simpa[nw]using hj)) (λj i hi=>?_) (λj hj=>⟨rfl,by have:=hJ j hj;simp only[nw];omega⟩),hsa.size,hsa.defers,λt x hx=>?_⟩
    ·rw[Qqq];exact(hb j hj).1
    ·have hl:(ob B2 j).lv=true:=by cases e:ob B2 j <;> rw[e]at hi <;> first|rfl|simp[OB.ids]at hi
     have:=(hb j hl).2 i hi;simp only[nw];omega
    ·obtain⟨h1,h2⟩:=hs t x hx;obtain⟨v,h3,h4⟩:=hsa.slots t x h1;exact⟨v,h3,h4.keep (Le.refl _ _) λi hi _=>if_pos (h2 i hi)⟩
   ·cases h
  ·cases h
 ·cases h
def two:Option Li->Option (List Qv×List Qv)
 |some q=>some (q.map (·.1),q.map (·.2))
 |none=>none
theorem FP{o:Option Li}{as0:List Qv}(h:two o=some (as0,as0)):∃q,o=some q/\EqOk q:=by
 cases o with
 |none=>cases h
 |
  some q =>
  injection h with h;injection h with e1 e2;exact⟨q,rfl,EqOk.of (e1.trans e2.symm)⟩
theorem sb{it:List It}(L2:Sg)(B2:Ga){as0:List Qv}(hs:Mb it=true)(h:two (aS none L B L2 B2)=some (as0,as0))(k:AK P n Q it L2 B2):AK P n Q it L B:=by
 obtain⟨q,h1,h2⟩:=FP h;exact AK.sub (λF E M a w hsa=>DJ h1 h2 F E M a w trivial hsa) hs k
theorem pb(i:Nat){it:List It}(hs:Mb it=true)(h:wL L B i=some (L',B'))(k:AK P n Q it L' B'):AK P n Q it L B:=Qfv hs h k
def BF:LV->LV
 | .nils=>.row []
 |x=>x
theorem Qp0{w:World}{M:Nat->Prop}{v:Value}{x:LV}(h:LRep w M v x):LRep w M v (BF x):=by
 cases x <;> first|exact h|exact VU h
theorem nl(
 i:Nat) {fx:Bool} {T:TypeId} {sz:Nat} {ls:Fz} {it:List It} (hs:Mb it=true) (hb:Ou B i=some (.row fx T sz ls)) (hB:I8 B i (.row fx T sz (ls.map λc=>c.map BF))=some B') (k:AK P n Q it L B'):AK P n Q it L B:=by
  obtain⟨rfl,hl⟩:=Ea hB;have hbi:B[i]? = some (.row fx T sz ls):=Nc ▸ hb;refine AK.sub (λF E M a w h=>⟨E,M,?_,h.size,h.defers,h.slots⟩) hs k;rw[PD,UA hbi];have hn:(ls.map λc=>c.map BF).length=ls.length:=by simp
  refine h.hs.re (λj=>?_) (λj=>?_) (λj=>?_) λj hj=>?_
  ·by_cases e:j=i
   ·subst e;rw[G7];obtain⟨h0,h1,q,h2,h3⟩:=h.blk hb;refine⟨h0,λc hc=>?_,q,by rw[hn];exact h2,?_⟩
    ·obtain⟨c',hc',rfl⟩:=Zd.1 hc;rw[Q4];exact h1 c' hc'
    ·cases q with
     |none=>have h3:ls=[]:=h3;subst h3;rfl
     |
      some q =>
      obtain⟨vss,ex,h4,h5,h6,h7⟩:=h3;refine⟨vss,ex,?_,h5,h6,by rw[hn];exact h7⟩;refine F2.of (by rw[hn];exact h4.len) λk v x hv hx=>?_
      rw[Zb]at hx;cases hy:ls[k]? with
      |none=>rw[hy]at hx;cases hx
      |
       some y =>
       rw[hy]at hx;injection hx with hx;subst hx;have h8:=h4.get' hv hy;refine F2.of (by rw[Q4];exact h8.len) λm u z hu hz=>?_
       rw[Zb]at hz;cases hy2:y[m]? with
       |none=>rw[hy2]at hz;cases hz
       |some y2=>rw[hy2]at hz;injection hz with hz;subst hz;exact Qp0 (h8.get' hu hy2)
   ·rw[H6 _ _ e];exact h.hs.blk j
  ·by_cases e:j=i
   ·subst e;rw[G7,P5 hbi];rfl
   ·rw[H6 _ _ e]
  ·by_cases e:j=i
   ·subst e;rw[G7,P5 hbi];rfl
   ·rw[H6 _ _ e]
  ·by_cases e:j=i
   ·subst e;rw[P5 hbi]at hj;cases hj
   ·rw[H6 _ _ e];exact hj
theorem Qp2{w:World}{M:Nat->Prop}{E:Lf}{v:Value}{x:LV}(h:XRep w M E v x):XRep w M E v (BF x):=by
 cases x <;> first|exact h|exact VU h
theorem nlb(i:Nat){T:TypeId}{xs:Fy}{it:List It}(hs:Mb it=true)(hb:Ou B i=some (.blk T xs))(hB:I8 B i (.blk T (xs.map BF))=some B')(k:AK P n Q it L B'):AK P n Q it L B:=by
 obtain⟨rfl,hl⟩:=Ea hB;have hbi:B[i]? = some (.blk T xs):=Nc ▸ hb;refine AK.sub (λF E M a w h=>⟨E,M,?_,h.size,h.defers,h.slots⟩) hs k;rw[PD,UA hbi];refine h.hs.re (λj=>?_) (λj=>?_) (λj=>?_) λj hj=>?_
 ·by_cases e:j=i
  ·subst e;rw[G7];obtain⟨g,c,m,h1,cs,h2,h3⟩:=h.blk hb;refine⟨g,c,m,h1,cs,h2,F2.of (by rw[Q4];exact h3.len) λk v x hv hx=>?_⟩;rw[Zb]at hx;cases hy:xs[k]? with
   |none=>rw[hy]at hx;cases hx
   |some y=>rw[hy]at hx;injection hx with hx;subst hx;exact Qp2 (h3.get' hv hy)
  ·rw[H6 _ _ e];exact h.hs.blk j
 ·by_cases e:j=i
  ·subst e;rw[G7,P5 hbi];rfl
  ·rw[H6 _ _ e]
 ·by_cases e:j=i
  ·subst e;rw[G7,P5 hbi];rfl
  ·rw[H6 _ _ e]
 ·by_cases e:j=i
  ·subst e;rw[P5 hbi]at hj;cases hj
  ·rw[H6 _ _ e];exact hj
def rN:List It->Bool
 | .code _::_=>true
 | .ops _ (_::_)::_=>true
 | .ops _ []::r=>rN r
 | .blk _::r=>rN r
 | .pst _::r=>rN r
 |_=>false
theorem AK.fact{p:Prop}(hp:∀F E M a w,SA F n L B E M a w->p):∀{it:List It},rN it=true->(p->AK P n Q it L B)->AK P n Q it L B
 | .code _::_,_,k=>λF E M a w hs=>k (hp F E M a w hs) F E M a w hs
 | .ops _ (_::_)::_,_,k=>λF E M a w K Q hs hK=>k (hp F E M a w hs) F E M a w K Q hs hK
 | .ops _ []::r,hs,k=>AK.fact (it:=r) hp hs k
 | .blk _::r,hs,k=>AK.fact (it:=r) hp hs k
 | .pst _::r,hs,k=>AK.fact (it:=r) hp hs k
theorem ln(t:Nat){l:Fz}{it:List It}(hl:lk L t=some (.v (.one (.row l))))(hs:rN it=true)(k:l.length<9223372036854775808->AK P n Q it L B):AK P n Q it L B :=
 AK.fact (λF E M a w h=>by
  obtain⟨v,_,h2⟩:=h.slots t _ hl;have h2:LRep w M v (.row l):=h2;cases h2 with
  |row A c sz b o l f hc hc63=>exact Xj hc hc63) hs k
def Qig:List Oper->Fv->Fv
 | [],r=>r
 |
  o::l,r=>match o.dst with
  |some d=>d::Qig l r
  |none=>Qig l r
def fK:Code->Fv->Fv
 | .region _ arr _,r=>Qig arr.toList r
 | .seq a b,r=>fK a (fK b r)
 | .cond _ a b,r=>fK a (fK b r)
 | .block _ c,r=>fK c r
 | .loop c,r=>fK c r
 | .scope c,r=>fK c r
 |_,r=>r
def prn(ks:Fv):Sg->Option Sg
 | []=>some []
 |
  (t,v)::l=>match Bf t ks with
  |true=>prn ks l
  |
   false=>match prn (t::ks) l with
   |some r=>some ((t,v)::r)
   |none=>none
theorem lp{S:Type}{c:Code}{r:List It}{L1:Sg}(k:Nat)(st:Sg->S->Sg)(bs:S->Ga)(μ:S->Nat)(I:S->Prop)(s0:S)(h0:I s0)(hL:prn (fK c []) L=some L1)(hk:∀s,I s->(bs s).length=k){as0:List Qv}(hs:two (aS none L B (st L1 s0) (bs s0))=some (as0,as0))
 (round:∀s,I s->AK P n Q (.code c::.rnd (some k) (λL B=>∃s',μ s'<μ s/\I s'/\L=st L1 s'/\B=bs s')::r) (st L1 s) (bs s)):AK P n Q (.code (.loop c)::r) L B:=by
 obtain⟨q,h1,h2⟩:=FP hs;refine Qnr (λm L B=>∃s,m=μ s/\I s/\L=st L1 s/\B=bs s) (m:=μ s0) (k:=k) (λm L B ⟨s,_,hI,_,hB⟩=>by rw[hB,hk s hI];exact Qn _) ⟨_,_,λF E M a w hsa=>DJ h1 h2 F E M a w trivial hsa,s0,rfl,h0,rfl,rfl⟩ λm L B ⟨s,hm,hI,hL,hB⟩=>?_
 subst hm;subst hL;subst hB;have:=round s hI;have e:(λ(L:Sg) (B:Ga)=>∃m',m'<μ s/\∃s',m'=μ s'/\I s'/\L=st L1 s'/\B=bs s')=λL B=>∃s',μ s'<μ s/\I s'/\L=st L1 s'/\B=bs s':=by
  funext L B;exact propext ⟨λ⟨_,h1,s',e,h2⟩=>⟨s',e ▸ h1,h2⟩,λ⟨s',h1,h2⟩=>⟨_,h1,s',rfl,h2⟩⟩
 rw[e];exact this
theorem rd{S:Type}{r:List It}{k:Option Nat}{st:S->Sg}{bs:S->Ga}{μ:S->Nat}{I:S->Prop}{m:Nat}(s':S)(hμ:μ s'<m)(hI:I s'){as0:List Qv}(hs:two (aS k L B (st s') (bs s'))=some (as0,as0)):AK P n Q (.rnd k (λL B=>∃s',μ s'<m/\I s'/\L=st s'/\B=bs s')::r) L B:=by
 obtain⟨q,h1,h2⟩:=FP hs;exact⟨_,_,DJ h1 h2,s',hμ,hI,rfl,rfl⟩
theorem ct(j:Nat){S:Type}{it:List It}(st:S->Sg)(bs:S->Ga)(I:S->Prop)(hs:Mb (it.drop j)=true)(hx:AK P n Q (it.take j++.rnd none (λL B=>∃s',I s'/\L=st s'/\B=bs s')::it.drop j) L B)(hy:∀s,I s->AK P n Q (it.drop j) (st s) (bs s)):AK P n Q it L B :=
 Qxm j _ hx hs λL B ⟨s,hI,hL,hB⟩=>by subst hL;subst hB;exact hy s hI
theorem rc{S:Type}{r:List It}{k:Option Nat}{st:S->Sg}{bs:S->Ga}{I:S->Prop}(s':S)(hI:I s'){as0:List Qv}(hs:two (aS k L B (st s') (bs s'))=some (as0,as0)):AK P n Q (.rnd k (λL B=>∃s',I s'/\L=st s'/\B=bs s')::r) L B:=by
 obtain⟨q,h1,h2⟩:=FP hs;exact⟨_,_,DJ h1 h2,s',hI,rfl,rfl⟩
theorem Sk {f:FuncId} {fn:Func} {c:Code} {args res:Gb} {Bin Bout:Ga} (hf:P.funcs[f]? = some fn) (hh:(fn.body,fn.ntmps,(fn.name == "runtime.NumGoroutine"),Nat.ble args.length n)=(some c,n,false,true)) (h:AK P n (RQ P fn n Bin.length λu B=>u=res/\B=Bout) [.code c] (WL 0 args) Bin):Cf P f args Bin res Bout:=by
 injection hh with hb hh;injection hh with hn hh;injection hh with hnm hl;exact⟨⟨fn,hf,hnm,by rw[hb];rfl⟩,fn_ hf hb hn hl h⟩
def enE(T:TT P)(n:Nat)(rs:List ResultVar)(it:List It)(L:Sg)(B:Ga)(hs:List (H P)):Option (Gb×List Qv×List Qv×List Prop):=match run T n 100000 it L B hs [] []with
 |
  some (it,L,B,q,ob)=>match zS it with
  |
   true=>match Qiv T 100 L B rs with
   |
    some us=>match qW ob with
    |some ob=>some (us,q.map (·.1),q.map (·.2),ob)
    |none=>none
   |none=>none
  |false=>none
 |none=>none
theorem en[Mo P](T:TT P){fn:Func}{res us:Gb}{it:List It}{as0:List Qv}{ob:List Prop}(hs:List (H P))(h:enE T n fn.results.toList it L B hs=some (us,as0,as0,ob))(he:us=res)(ho:Ge ob):AK P n (RQ P fn n 0 λu B=>u=res/\B=[]) it L B:=by
 subst he;unfold enE at h
 split at h
 ·rename_i it L B q ob' hr
  split at h
  ·rename_i hend
   split at h
   ·rename_i us' hfin
    split at h <;> first|(cases h;done)|skip
    rename_i ob2 hnp;obtain rfl:=HC hnp;injection h with h;injection h with e1 h;injection h with e2 h;injection h with e3 e4;subst e1;subst e4;have hq:EqOk q:=EqOk.of (e2.trans e3.symm);obtain⟨_,_,k⟩:=uU (Q:=RQ P fn n 0 λu B=>u=us'/\B=[]) T _ _ _ _ _ _ _ _ _ _ _ _ hr hq ho;refine k ?_;unfold zS at hend
    split at hend
    ·exact nC (EE (.inl rfl) hfin)
    ·exact EE (.inr rfl) hfin
    ·cases hend
   ·cases h
  ·cases h
 ·cases h
def finD(T:TT P)(k:Nat)(L:Sg)(B:Ga)(rs:List ResultVar)(res:Gb)(Bout:Ga)(is:Fv):Option Li:=match mY T L B rs,Mg (nV (rnL is)) res,outB is B is Bout with
 |
  some us,some rs',some q2=>match Ir us with
  |
   some us=>match fF us rs' with
   |
    some q=>match seqP k 0 is,ndp is,Nat.beq is.length Bout.length with
    |true,true,true=>some (JI q q2)
    |_,_,_=>none
   |none=>none
  |none=>none
 |_,_,_=>none
where
 outB (
  is0:Fv) (B:Ga):Fv->Ga->Option Li
   |
    i::is,c::l=>match outB is0 B is l with
    |
     some q=>match PH c with
     |true=>some q
     |
      false=>match Ou B i,VF (rnL is0) c with
      |some b,some c'=>some ((.o b,.o c')::q)
      |_,_=>none
    |none=>none
   |_,_=>some []
 seqP:Nat->Nat->Fv->Bool
  | 0,_,_=>true
  |
   k+1,j,i::l=>match Nat.beq i j with
   |true=>seqP k (j+1) l
   |false=>false
  |_+1,_,[]=>false
theorem CS{is0:Fv}{c0:Nat}:∀{is:Fv} {l:Ga} {q:Li},finD.outB is0 B is l=some q->EqOk q->∀(j:Nat) (i:Nat) (c:OB),is[j]? = some i->l[j]? = some c->c.lv=true->ob B i=I6 (TC is0 c0) c/\∀m∈c.ids,m<is0.length
 | [],l,_,_,_,j,i,c,h,_,_=>by simp at h
 |_::_,[],_,_,_,j,i,c,_,h,_=>by simp at h
 |
  x::is,d::l,q,h,hq,j,i,c,hi,hc,hl=>by
  simp only[finD.outB]at h
  split at h
  ·rename_i q' hq'
   split at h
   ·rename_i hg;injection h with h;subst h;cases j with
    |zero=>simp at hc;subst hc;cases d <;> simp[PH,OB.lv]at hg hl
    |succ j=>exact CS hq' hq j i c (by simpa using hi) (by simpa using hc) hl
   ·split at h
    ·rename_i b c' hb hc';injection h with h;subst h;cases j with
     |
      zero =>
      simp at hi hc;subst hi;subst hc;have e:=hq.hd;injection e with e;obtain⟨h1,h2⟩:=eN (c:=c0) (Pre.refl is0) hc';exact⟨by rw[P5 (Nc ▸ hb),e,h1],h2⟩
     |succ j=>exact CS hq' hq.tl j i c (by simpa using hi) (by simpa using hc) hl
    ·cases h
  ·cases h
theorem uG:∀{k j:Nat} {l:Fv},finD.seqP k j l=true->∀m,m<k->l[m]? = some (j+m)
 | 0,_,_,_,m,h=>by omega
 |k+1,j,[],h,_,_=>by simp[finD.seqP]at h
 |
  k+1,j,i::l,h,m,hm=>by
  simp only[finD.seqP]at h
  split at h
  ·rename_i e;cases m with
   |zero=>simp[Qu e]
   |
    succ m =>
    have:=uG h m (by omega);rw[show j+(m+1)=j+1+m from by omega];simpa using this
  ·cases h
theorem Qgb:∀is:Fv,∃c,∀i∈is,i<c
 | []=>⟨0,λi hi=>by simp at hi⟩
 |
  x::is=>by
  obtain⟨c,hc⟩:=Qgb is;refine⟨c+x+1,λi hi=>?_⟩;rcases Qj.1 hi with rfl|hi
  ·omega
  ·have:=hc i hi;omega
theorem Qa2{T:TT P}{fn:Func}{k:Nat}{e:Exit}(he:e=.ret\/e=.normal){res:Gb}{Bout:Ga}{is:Fv}{q:Li}(h:finD T k L B fn.results.toList res Bout is=some q)(hq:EqOk q):RQ P fn n k (λu B=>u=res/\B=Bout) e L B:=by
 unfold finD at h
 split at h
 ·rename_i us rs' q2 h1 h2 h3
  split at h
  ·rename_i us2 hf
   split at h
   ·rename_i q1 hz
    split at h
    ·rename_i hsp hnd hlen;injection h with h;subst h;rw[Nz]at hq;obtain⟨ha,hb⟩:=hq.app;have hlen:=Qu hlen;refine⟨he,λF E M a w hs hJ=>?_⟩;obtain⟨c,hc⟩:=Qgb is;have hrho:∀i j,TC is c i=TC is c j->i=j:=λi j e=>by
      simp only[TC,Aw]at e;cases hi:is[i]? with
      |
       none =>
       cases hj:is[j]? with
       |none=>simp only[hi,hj]at e;omega
       |some b=>simp only[hi,hj]at e;have:=hc b (Qa hj);omega
      |
       some a =>
       cases hj:is[j]? with
       |none=>simp only[hi,hj]at e;have:=hc a (Qa hi);omega
       |some b=>simp only[hi,hj]at e;subst e;exact kE hnd i j a hi hj
     have hof:∀j i,is[j]? = some i->TC is c j=i:=λj i h=>MJ (Pre.refl is) (by rw[Aw];exact h)
     obtain⟨hr1,hr2⟩:=CL (c:=c) (Pre.refl is) h2;obtain⟨vs,h4,h5⟩:=CC hs h1;have h6:=ZZ hf h4;rw[TP hz ha,hr1]at h6
     let E':Lf:=λj=>if j<Bout.length then E (TC is c j)else none
     have hE':∀j,j<Bout.length->E' j=E (TC is c j):=λj hj=>if_pos hj
     have h7:F2 (TRep w M E') vs res:=F2.of (by rw[h6.len];simp) λj v t hv ht=>by
      have:=h6.get' (b:=BR (TC is c) t) hv (by simp[ht]);exact this.to λi hi _=>hE' i (by have:=hr2 t (Qa ht) i hi;omega)
     obtain⟨r,h8,h9⟩:=NL h5 h7;have hkl:k<=Bout.length:=by
      cases k with
      |zero=>omega
      |succ k=>have:=(Qd.1 (uG hsp k (by omega))).1;omega
     refine⟨r,res,Bout,E',M,h8,⟨rfl,rfl⟩,hkl,hs.hs.renum (ρ:=TC is c) hrho (λj hj=>?_) (λj hj=>Sx hj) (λj hj=>if_neg (by simpa[nw]using hj)) (λj hj=>hE' j (by simpa[nw]using hj)) (λj i hi=>?_) (λj hj=>?_),h9⟩
     ·have hjl:j<Bout.length:=by
       apply Classical.byContradiction;intro hn;rw[Sx (by omega)]at hj;cases hj
      have g1:is[j]? = some is[j]:=Qg (by omega);have g2:=Qg hjl;rw[P5 g2]at hj ⊢;rw[hof j _ g1];exact(CS (c0:=c) h3 hb j _ _ g1 g2 hj).1
     ·have hl:(ob Bout j).lv=true:=by cases e:ob Bout j <;> rw[e]at hi <;> first|rfl|simp[OB.ids]at hi
      have hjl:j<Bout.length:=by
       apply Classical.byContradiction;intro hn;rw[Sx (by omega)]at hl;cases hl
      have g1:is[j]? = some is[j]:=Qg (by omega);have g2:=Qg hjl;rw[P5 g2]at hl hi;have:=(CS (c0:=c) h3 hb j _ _ g1 g2 hl).2 i hi;simp only[nw];omega
     ·have hjk:j<k:=by
       apply Classical.byContradiction;intro hn;exact hJ j (by omega) hj
      have:=uG hsp j hjk;rw[Xd]at this;exact⟨hof j j this,by simp only[nw];omega⟩
    ·cases h
   ·cases h
  ·cases h
 ·cases h
def Qev:Fv->Sg->Ga->Option (Sg×Ga)
 | [],L,B=>some (L,B)
 |
  i::l,L,B=>match wL L B i with
  |some (L',B')=>Qev l L' B'
  |none=>none
theorem RV:∀{l:Fv} {L L':Sg} {B B':Ga},Qev l L B=some (L',B')->Sub n L B L' B'
 | [],_,_,_,_,h=>by injection h with h;injection h with e1 e2;subst e1;subst e2;exact Sub.refl
 |
  i::l,L,L',B,B',h=>by
  simp only[Qev]at h
  split at h
  ·rename_i hp;exact(CM hp).trans (RV h)
  ·cases h
theorem RQ.sub{fn:Func}{k:Nat}{Post:Gb->Ga->Prop}{e:Exit}(h:Sub n L B L' B')(hr:RQ P fn n k Post e L' B'):RQ P fn n k Post e L B:=⟨hr.1,λF E M a w hs hJ=>by
 obtain⟨E',M',h1⟩:=h F E M a w hs;exact hr.2 F E' M' a w h1 hJ⟩
def edE(T:TT P)(n k:Nat)(rs:List ResultVar)(it:List It)(L:Sg)(B:Ga)(hs:List (H P))(res:Gb)(Bout:Ga)(ps is:Fv):Option (List Qv×List Qv×List Prop):=match run T n 100000 it L B hs [] []with
 |
  some (it,L,B,q,ob)=>match zS it with
  |
   true=>match Qev ps L B with
   |
    some (L,B)=>match finD T k L B rs res Bout is with
    |
     some q2=>(match qW ob with
     |some ob=>some ((JI q q2).map (·.1),(JI q q2).map (·.2),ob)
     |none=>none)
    |none=>none
   |none=>none
  |false=>none
 |none=>none
theorem ed[Mo P](T:TT P){fn:Func}{k:Nat}{res:Gb}{Bout:Ga}{it:List It}{as0:List Qv}{ob:List Prop}(ps is:Fv)(hs:List (H P))(h:edE T n k fn.results.toList it L B hs res Bout ps is=some (as0,as0,ob))(ho:Ge ob):AK P n (RQ P fn n k λu B=>u=res/\B=Bout) it L B:=by
 unfold edE at h
 split at h
 ·rename_i it L B q ob' hr
  split at h
  ·rename_i hend
   split at h
   ·rename_i L2 B2 hp
    split at h
    ·rename_i q2 hfin
     split at h <;> first|(cases h;done)|skip
     rename_i ob2 hnp;obtain rfl:=HC hnp;injection h with h;injection h with e2 h;injection h with e3 e4;subst e4;have hq:EqOk (JI q q2):=EqOk.of (e2.trans e3.symm);rw[Nz]at hq;obtain⟨ha,hb⟩:=hq.app;obtain⟨_,_,k⟩:=uU (Q:=RQ P fn n k λu B=>u=res/\B=Bout) T _ _ _ _ _ _ _ _ _ _ _ _ hr ha ho;refine k ?_;unfold zS at hend
     split at hend
     ·exact nC (RQ.sub (RV hp) (Qa2 (.inl rfl) hfin hb))
     ·exact RQ.sub (RV hp) (Qa2 (.inr rfl) hfin hb)
     ·cases hend
    ·cases h
   ·cases h
  ·cases h
 ·cases h
end Orr
