import Derived.Test.YtenbfolapbibpaaGreatPart01
import Derived.Test.YtenbfolapbibpaaGreatPart00
set_option linter.all false
namespace Orr
open Go
variable{P:Program}{n:Nat}{L L':Sg}{B B':Fe}
def WB:U8->Nat->Option Nat
 | [],_=>none
 |i::_,0=>some i
 |_::l,j+1=>WB l j
theorem A7:∀{l:U8} {j:Nat},WB l j=l[j]?
 | [],_=>by simp[WB]
 |_::_,0=>by simp[WB]
 |_::l,j+1=>by simp[WB,A7]
def SK(is:U8)(c:Nat)(j:Nat):Nat:=match WB is j with
 |some i=>i
 |none=>c+j
def rnY(is:U8):LV->Option LV
 |
  .ow i o=>match WB is i with
  |some j=>some (.ow j o)
  |none=>none
 |x=>some x
def rnL(is:U8):LV->Option LV
 |
  .ow i o=>match WB is i with
  |some j=>some (.ow j o)
  |none=>none
 |
  .orow i s p=>match WB is i with
  |some j=>some (.orow j s p)
  |none=>none
 |
  .oel i s k o=>match WB is i with
  |some j=>some (.oel j s k o)
  |none=>none
 |
  .omap i=>match WB is i with
  |some j=>some (.omap j)
  |none=>none
 |
  .oif t i o=>match WB is i with
  |some j=>some (.oif t j o)
  |none=>none
 |
  .ofn f a b=>match Pv (rnY is) a,Pv (rnY is) b with
  |some a,some b=>some (.ofn f a b)
  |_,_=>none
 |x=>some x
def Pre(is js:U8):Prop:=∀i j,WB is i=some j->WB js i=some j
theorem Pre.refl(is:U8):Pre is is:=λ_ _ h=>h
theorem Qcb{is:U8}{i j:Nat}(h:WB is i=some j):i<is.length:=by
 rw[A7]at h;exact(Qd.1 h).1
section
variable{is js:U8}{c:Nat}(hp:Pre is js)
include hp
theorem MS{i j:Nat}(h:WB is i=some j):SK js c i=j:=by simp only[SK,hp i j h]
theorem Qzj{x y:LV}(h:rnY is x=some y):y=uC (SK js c) x/\∀i∈JL [x],i<is.length:=by
 cases x <;> simp only[rnY]at h
 case ow i o =>
  split at h
  ·rename_i j hj;injection h with h;subst h;exact⟨by simp only[uC,MS hp hj],λi' hi=>by simp[JL]at hi;subst hi;exact Qcb hj⟩
  ·cases h
 all_goals (injection h with h;subst h;exact⟨rfl,λi hi=>by simp[JL]at hi⟩)
theorem uL:∀{xs ys:Fb},Pv (rnY is) xs=some ys->ys=xs.map (uC (SK js c))/\∀i∈JL xs,i<is.length
 | [],ys,h=>by simp only[Pv,Option.some.injEq]at h;subst h;exact⟨rfl,λi hi=>by simp[JL]at hi⟩
 |
  x::xs,ys,h=>by
  simp only[Pv]at h
  split at h
  ·rename_i y hy
   split at h
   ·rename_i r hr;injection h with h;subst h;obtain⟨h1,h2⟩:=Qzj (c:=c) hp hy;obtain⟨h3,h4⟩:=uL hr;refine⟨by rw[Xa,<-h1,<-h3],λi hi=>?_⟩;cases x with
    |
     ow j o =>
     simp only[JL,Qk]at hi;rcases hi with rfl|hi
     ·exact h2 _ (by simp[JL])
     ·exact h4 i hi
    |_=>exact h4 i hi
   ·cases h
  ·cases h
theorem Qm9{x y:LV}(h:rnL is x=some y):y=FP (SK js c) x/\∀i∈x.ids,i<is.length:=by
 cases x <;> simp only[rnL]at h
 case ofn f a b =>
  split at h
  ·rename_i a' b' ha hb;injection h with h;subst h;obtain⟨h1,h2⟩:=uL (c:=c) hp ha;obtain⟨h3,h4⟩:=uL (c:=c) hp hb;exact⟨by rw[h1,h3];rfl,λi hi=>(Qp.1 hi).elim (h2 i) (h4 i)⟩
  ·cases h
 all_goals first
  |(injection h with h;subst h;exact⟨rfl,λi hi=>by simp[LV.ids]at hi⟩)
  |(
   split at h
   ·rename_i j hj;injection h with h;subst h;exact⟨by simp only[FP,MS hp hj],λi' hi=>by simp[LV.ids]at hi;subst hi;exact Qcb hj⟩
   ·cases h)
theorem uD:∀{xs ys:Fb},Pv (rnL is) xs=some ys->ys=xs.map (FP (SK js c))/\∀i∈xs.flatMap LV.ids,i<is.length
 | [],ys,h=>by simp only[Pv,Option.some.injEq]at h;subst h;exact⟨rfl,λi hi=>by simp at hi⟩
 |
  x::xs,ys,h=>by
  simp only[Pv]at h
  split at h
  ·rename_i y hy
   split at h
   ·rename_i r hr;injection h with h;subst h;obtain⟨h1,h2⟩:=Qm9 (c:=c) hp hy;obtain⟨h3,h4⟩:=uD hr;refine⟨by rw[Xa,<-h1,<-h3],λi hi=>?_⟩;rw[Yk]at hi;exact(Qp.1 hi).elim (h2 i) (h4 i)
   ·cases h
  ·cases h
theorem Qzi{t u:TV}(h:nL (rnL is) t=some u):u=BE (SK js c) t/\∀i∈t.ids,i<is.length:=by
 cases t <;> simp only[nL]at h <;> split at h <;> first|(cases h;done)|skip
 ·rename_i hy;injection h with h;subst h;obtain⟨h1,h2⟩:=Qm9 (c:=c) hp hy;exact⟨by rw[h1];rfl,h2⟩
 ·rename_i hy;injection h with h;subst h;obtain⟨h1,h2⟩:=uD (c:=c) hp hy;exact⟨by rw[h1];rfl,h2⟩
theorem DI:∀{xs ys:Ff},Pv (nL (rnL is)) xs=some ys->ys=xs.map (BE (SK js c))/\∀t∈xs,∀i∈t.ids,i<is.length
 | [],ys,h=>by simp only[Pv,Option.some.injEq]at h;subst h;exact⟨rfl,λi hi=>by simp at hi⟩
 |
  x::xs,ys,h=>by
  simp only[Pv]at h
  split at h
  ·rename_i y hy
   split at h
   ·rename_i r hr;injection h with h;subst h;obtain⟨h1,h2⟩:=Qzi (c:=c) hp hy;obtain⟨h3,h4⟩:=DI hr;refine⟨by rw[Xa,<-h1,<-h3],λt ht=>?_⟩;rcases Qk.1 ht with rfl|ht
    ·exact h2
    ·exact h4 t ht
   ·cases h
  ·cases h
theorem aM{b d:OB}(h:VW (rnL is) b=some d):d=Og (SK js c) b/\∀i∈b.ids,i<is.length:=by
 cases b with
 |
  blk T xs =>
  simp only[VW]at h
  split at h
  ·rename_i hy;injection h with h;subst h;obtain⟨h1,h2⟩:=uD (c:=c) hp hy;exact⟨by rw[h1];rfl,h2⟩
  ·cases h
 |_=>simp only[VW,Option.some.injEq]at h;subst h;exact⟨rfl,λi hi=>by simp[OB.ids]at hi⟩
end
def Qrs:U8->U8->Bool
 | [],_=>true
 |
  i::l,ms=>match Nt i ms with
  |true=>false
  |false=>Qrs l ms
theorem Qa1:∀{l ms:U8},Qrs l ms=true->∀m∈ms,m∉l
 | [],_,_,m,_=>Fp
 |
  i::l,ms,h,m,hm=>by
  simp only[Qrs]at h
  split at h
  ·cases h
  ·rename_i hn;intro hi;rcases Qk.1 hi with rfl|hi
   ·rw[Pe.2 hm]at hn;cases hn
   ·exact Qa1 h m hm hi
def zZ(ms:U8)(x:LV):Option LV:=match Qrs x.ids ms with
 |true=>some x
 |false=>some .any
variable{ms:U8}
theorem Qbp{w:World}{M:Nat->Prop}{E:Dv}:Turn w M E w M E (zZ ms):=by
 intro v x y h hr;unfold zZ at h
 split at h <;> (injection h with h;subst h)
 ·exact hr
 ·exact LRep.any v hr.one
theorem sC{i:Nat}(hi:i∈ms)(x y:LV)(h:zZ ms x=some y):i∉y.ids:=by
 unfold zZ at h
 split at h <;> (injection h with h;subst h)
 ·rename_i hd;exact Qa1 hd i hi
 ·simp[LV.ids]
def klB(ms is:U8):Nat->Fe->Option Fe
 |_,[]=>some []
 |
  k,b::l=>match klB ms is (k+1) l with
  |
   some r=>match Nt k is with
   |true=>some (b::r)
   |
    false=>match VW (zZ ms) b with
    |some c=>some (c::r)
    |none=>none
  |none=>none
theorem Qli{ms is:U8}:∀{l r:Fe} {k:Nat},klB ms is k l=some r->r.length=l.length/\∀(j:Nat) (b:OB),l[j]? = some b->∃c,r[j]? = some c/\(k+j∈is/\c=b\/k+j∉is/\VW (zZ ms) b=some c)
 | [],r,k,h=>by simp only[klB,Option.some.injEq]at h;subst h;exact⟨rfl,λj b hb=>by simp at hb⟩
 |
  b::l,r,k,h=>by
  simp only[klB]at h
  split at h
  ·rename_i q hq;obtain⟨h1,h2⟩:=Qli hq;have key:∀c,r=c::q->(k∈is/\c=b\/k∉is/\VW (zZ ms) b=some c)->r.length=(b::l).length/\∀(j:Nat) (b':OB),(b::l)[j]? = some b'->∃c,r[j]? = some c/\(k+j∈is/\c=b'\/k+j∉is/\VW (zZ ms) b'=some c):=λc e hc=>by
    subst e;refine⟨by simp[h1],λj b' hb=>?_⟩;cases j with
    |zero=>simp at hb;subst hb;exact⟨c,rfl,hc⟩
    |
     succ j =>
     rw[show k+(j+1)=k+1+j from Fj];simpa using h2 j b' (by simpa using hb)
   split at h
   ·rename_i hm;injection h with h;exact key b h.symm (.inl ⟨Pe.1 hm,rfl⟩)
   ·rename_i hm
    split at h
    ·rename_i c hc;injection h with h;exact key c h.symm (.inr ⟨λh=>(by rw[Pe.2 h]at hm;cases hm),hc⟩)
    ·cases h
  ·cases h
def kl(ms is:U8)(L:Sg)(B:Fe):Option (Sg×Fe):=match ms with
 | []=>some (L,B)
 |
  _=>match gK (zZ ms) L,klB ms is 0 B with
  |some L',some B'=>some (L',B')
  |_,_=>none
theorem Q11{is:U8}(h:kl ms is L B=some (L',B')):(∀F E M a w,SA F n L B E M a w->SA F n L' B' E M a w)/\B'.length=B.length/\(∀m∈ms,(∀t x,lk L' t=some x->m∉x.ids)/\∀i,i∉is->m∉(ob B' i).ids):=by
 unfold kl at h
 split at h
 ·injection h with h;injection h with e1 e2;subst e1;subst e2;exact⟨λ_ _ _ _ _ h=>h,rfl,λm hm=>(by cases hm)⟩
 ·split at h
  ·rename_i L2 B2 hL hB;injection h with h;injection h with e1 e2;subst e1;subst e2;obtain⟨h1,h2⟩:=Qli hB;have hn:nw B2=nw B:=by funext i;simp only[nw,h1]
   have hg:∀i,(ob B2 i=.gone/\ob B i=.gone)\/ob B2 i=ob B i\/i∉is/\VW (zZ ms) (ob B i)=some (ob B2 i):=λi=>by
    rcases Zc i B.length with hi|hi
    ·obtain⟨c,h3,h4⟩:=h2 i _ (Qf hi);rw[Z9]at h4;rw[Su h3,Su (Qf hi)];rcases h4 with h4|h4
     ·exact .inr (.inl h4.2)
     ·exact .inr (.inr h4)
    ·exact .inl ⟨Tw Fj,Tw hi⟩
   refine⟨λF E M a w hs=>⟨?_,hs.size,hs.defers,Qv4 Qbp hL hs.slots⟩,h1,λm hm=>⟨λt x hx=>fZ (sC hm) hL t x hx,λi hi=>?_⟩⟩
   ·rw[hn];refine hs.hs.re (λi=>?_) (λi=>?_) (λi=>?_) λi hi=>?_
    ·rcases hg i with⟨e,_⟩|e|⟨_,e⟩
     ·rw[e];trivial
     ·rw[e];exact hs.hs.blk i
     ·exact uZ Qbp e (hs.hs.blk i)
    ·rcases hg i with⟨e,e'⟩|e|⟨_,e⟩
     ·rw[e,e']
     ·rw[e]
     ·exact(FW e).1
    ·rcases hg i with⟨e,e'⟩|e|⟨_,e⟩
     ·rw[e,e']
     ·rw[e]
     ·exact(FW e).2.1
    ·rcases hg i with⟨e,e'⟩|e|⟨_,e⟩
     ·exact e
     ·rw[e];exact hi
     ·exact(FW e).2.2 hi
   ·rcases Zc i B.length with hl|hl
    ·obtain⟨c,h3,h4⟩:=h2 i _ (Qf hl);rw[Z9]at h4;rw[Su h3];rcases h4 with⟨h4,_⟩|⟨_,h4⟩
     ·exact absurd h4 hi
     ·generalize B[i]=b at h4;cases b with
      |
       blk T xs =>
       simp only[VW]at h4
       split at h4
       ·rename_i r hr;injection h4 with e;rw[<-e];exact RV (sC hm) hr
       ·cases h4
      |_=>simp only[VW,Option.some.injEq]at h4;rw[<-h4];simp[OB.ids]
    ·rw[Tw Fj];simp[OB.ids]
  ·cases h
def Qsk:U8->Fe->Option U8
 |
  i::is,b::l=>match Qsk is l with
  |
   some r=>match b.mv with
   |true=>some (i::r)
   |false=>some r
  |none=>none
 |_,_=>some []
theorem Qb6:∀{is:U8} {l:Fe} {r:U8},Qsk is l=some r->∀(j i:Nat) (b:OB),is[j]? = some i->l[j]? = some b->b.mv=true->i∈r
 | [],_,_,_,j,i,b,h,_,_=>by simp at h
 |_::_,[],_,_,j,i,b,_,h,_=>by simp at h
 |
  i0::is,b0::l,r,h,j,i,b,hi,hb,hm=>by
  simp only[Qsk]at h
  split at h
  ·rename_i q hq;have key:(j=0->i0∈r)->(∀x∈q,x∈r)->i∈r:=λk1 k2=>by
    cases j with
    |zero=>simp at hi;subst hi;exact k1 rfl
    |succ j=>exact k2 _ (Qb6 hq j i b (by simpa using hi) (by simpa using hb) hm)
   split at h
   ·injection h with h;subst h;exact key (λ_=>.head _) λx hx=>.tail _ hx
   ·rename_i hf;injection h with h;subst h;refine key (λe=>?_) λx hx=>hx
    subst e;simp at hb;subst hb;rw[hm]at hf;cases hf
  ·cases h
def eqB(is0:U8)(B1:Fe):U8->Fe->Option Dy
 | [],[]=>some []
 |
  i::is,c::l=>match On B1 i,VW (rnL is0) c,eqB is0 B1 is l with
  |
   some b,some c',some q=>match c.lv && (!c.mv || b.mv)with
   |true=>some ((.o c',.o (flO c' b))::q)
   |false=>none
  |_,_,_=>none
 |_,_=>none
theorem Qkc{is0 js:U8}{c0:Nat}{B1:Fe}(hp:Pre is0 js):∀{is:U8} {l:Fe} {q:Dy},eqB is0 B1 is l=some q->EqOk q->is.length=l.length/\∀(j:Nat) (c:OB),l[j]? = some c->∃i b,is[j]? = some i/\B1[i]? = some b/\c.lv=true/\(c.mv=true->b.mv=true)/\ZO b=ZO (Og (SK js c0) c)/\∀k∈c.ids,k<is0.length
 | [],[],_,_,_=>⟨rfl,λj c h=>by simp at h⟩
 |
  i::is,c::l,q,h,hq=>by
  simp only[eqB]at h
  split at h
  ·rename_i b c' q' hb hc' hq'
   split at h
   ·rename_i hf;injection h with h;subst h;obtain⟨h1,h2⟩:=Qkc hp hq' hq.tl;refine⟨by simp[h1],λj d hd=>?_⟩;cases j with
    |
     zero =>
     simp at hd;subst hd;obtain⟨h3,h4⟩:=aM (c:=c0) hp hc';have e:=hq.hd;injection e with e;rw[Zn]at hf;refine⟨i,b,rfl,Mh ▸ hb,hf.1,λhm=>by simpa[hm]using hf.2,?_,h4⟩;rw[<-h3,e,lW]
    |succ j=>simpa using h2 j d (by simpa using hd)
   ·cases h
  ·cases h
 | [],_::_,_,h,_=>by cases h
 |_::_,[],_,h,_=>by cases h
def flF:OB->OB->Option OB
 | .row f _ _ _,.row _ T sz ls=>some (.row f T sz ls)
 |_,.gone=>some .gone
 |_,.blk T xs=>some (.blk T xs)
 |_,.mpb es=>some (.mpb es)
 | .gone,.row f T sz ls=>some (.row f T sz ls)
 | .blk ..,.row f T sz ls=>some (.row f T sz ls)
 | .mpb _,.row f T sz ls=>some (.row f T sz ls)
theorem Qyd(b c:OB):flF b c=some (flO b c):=by cases b <;> cases c <;> rfl
def PT:U8->Fe->Nat->Option OB
 |
  i::is,b::bs,k=>match Nat.beq i k with
  |true=>some b
  |false=>PT is bs k
 |_,_,_=>none
def Qa3:U8->Fe->Option Fe
 | [],l=>some l
 |_::is,_::l=>Qa3 is l
 |_::_,[]=>none
theorem tR:∀{is:U8} {l r:Fe},Qa3 is l=some r->is.length<=l.length/\r=l.drop is.length
 | [],l,r,h=>by simp only[Qa3,Option.some.injEq]at h;subst h;exact⟨Qg _,rfl⟩
 |
  _::is,_::l,r,h=>by
  obtain⟨h1,h2⟩:=tR (is:=is) h;exact⟨Fo,by simpa using h2⟩
 |_::_,[],_,h=>by cases h
def Qtc(
 is:U8) (Bo:Fe):Nat->Fe->Option Fe
  |_,[]=>Qa3 is Bo
  |
   k,b::l=>match Qtc is Bo (k+1) l with
   |
    some r=>match PT is Bo k with
    |
     some c=>match flF b c with
     |
      some d=>match !d.mv || b.mv with
      |true=>some (d::r)
      |false=>none
     |none=>none
    |none=>some (b::r)
   |none=>none
theorem Qcq{is:U8}{Bo:Fe}:∀{l r:Fe} {k:Nat},Qtc is Bo k l=some r->is.length<=Bo.length/\r.length=l.length+(Bo.length-is.length)/\(∀j,j<l.length->(ob r j=match PT is Bo (k+j)with|some c=>flO (ob l j) c|none=>ob l j)/\((ob r j).mv=true->(ob l j).mv=true))/\∀j,ob r (l.length+j)=ob Bo (is.length+j)
 |
  [],r,k,h=>by
  obtain⟨h1,h2⟩:=tR h;refine⟨h1,by simp[h2],λj hj=>by simp at hj,λj=>?_⟩;subst h2;simp[ob,Xq]
 |
  b::l,r,k,h=>by
  simp only[Qtc]at h
  split at h
  ·rename_i q hq;obtain⟨h1,h2,h3,h4⟩:=Qcq hq;have key:∀d,r=d::q->(d=match PT is Bo k with|some c=>flO b c|none=>b)->(d.mv=true->b.mv=true)->is.length<=Bo.length/\r.length=(b::l).length+(Bo.length-is.length)/\(∀j,j<(b::l).length->(ob r j=match PT is Bo (k+j)with|some c=>flO (ob (b::l) j) c|none=>ob (b::l) j)/\((ob r j).mv=true->(ob (b::l) j).mv=true))/\∀j,ob r ((b::l).length+j)=ob Bo (is.length+j):=λd e hd hdm=>by
    subst e;refine⟨h1,by simp[h2];omega,λj hj=>?_,λj=>?_⟩
    ·cases j with
     |zero=>rw[X5];exact⟨by simpa[ob]using hd,by simpa[ob]using hdm⟩
     |
      succ j =>
      have:=h3 j (by simpa using hj);rw[show k+(j+1)=k+1+j from Fj];simpa[ob]using this
    ·rw[<-h4 j,show(b::l).length+j=(l.length+j)+1 from Fo];simp[ob]
   split at h
   ·rename_i c hc;rw[Qyd]at h;simp only at h
    split at h
    ·rename_i hf;injection h with h;exact key _ h.symm (by rw[hc]) λhm=>by simpa[hm]using hf
    ·cases h
   ·rename_i hc;injection h with h;exact key _ h.symm (by rw[hc]) id
  ·cases h
theorem PS:∀{is:U8} {Bo:Fe} {k:Nat} {c:OB},PT is Bo k=some c->∃j:Nat,is[j]? = some k/\Bo[j]? = some c
 | [],_,_,_,h=>by simp[PT]at h
 |_::_,[],_,_,h=>by simp[PT]at h
 |
  i::is,b::bs,k,c,h=>by
  simp only[PT]at h
  split at h
  ·rename_i e;injection h with h;subst h;exact⟨0,by simp[Nat.eq_of_beq_eq_true e],rfl⟩
  ·obtain⟨j,h1,h2⟩:=PS h;exact⟨j+1,by simpa using h1,by simpa using h2⟩
theorem xE:∀{is:U8} {Bo:Fe} {k:Nat},is.length<=Bo.length->PT is Bo k=none->k∉is
 | [],_,_,_,_=>Fp
 |_::_,[],_,hl,_=>by simp at hl
 |
  i::is,b::bs,k,hl,h=>by
  simp only[PT]at h
  split at h
  ·cases h
  ·rename_i e;have:=xE (by simpa using hl) h;simp[Ne.symm (V7 e),this]
def Qnz:U8->Fe->Option (U8×U8)
 |is,[]=>some ([],is)
 |
  i::is,_::l=>match Qnz is l with
  |some (a,b)=>some (i::a,b)
  |none=>none
 | [],_::_=>none
theorem Qc2:∀{is:U8} {l:Fe} {a b:U8},Qnz is l=some (a,b)->is=a++b/\a.length=l.length
 |is,[],a,b,h=>by simp only[Qnz,Option.some.injEq,Prod.mk.injEq]at h;obtain⟨rfl,rfl⟩:=h;exact⟨rfl,rfl⟩
 |
  i::is,_::l,a,b,h=>by
  simp only[Qnz]at h
  split at h
  ·rename_i a' b' hh;obtain⟨h1,h2⟩:=Qc2 hh;simp only[Option.some.injEq,Prod.mk.injEq]at h;obtain⟨rfl,rfl⟩:=h;exact⟨by rw[h1];rfl,by simp[h2]⟩
  ·cases h
 | [],_::_,_,_,h=>by cases h
def Qtv:Nat->U8->Bool
 |_,[]=>true
 |
  k,i::l=>match Nat.beq i k with
  |true=>Qtv (k+1) l
  |false=>false
theorem LQ:∀{k:Nat} {l:U8},Qtv k l=true->∀(j i:Nat),l[j]? = some i->i=k+j
 |_,[],_,j,i,h=>by simp at h
 |
  k,x::l,h,j,i,hi=>by
  simp only[Qtv]at h
  split at h
  ·rename_i e;cases j with
   |zero=>simp at hi;subst hi;exact Qz e
   |succ j=>have:=LQ h j i (by simpa using hi);omega
  ·cases h
def ndp:U8->Bool
 | []=>true
 |
  i::l=>match Nt i l with
  |true=>false
  |false=>ndp l
theorem wI:∀{l:U8},ndp l=true->∀i j k:Nat,l[i]? = some k->l[j]? = some k->i=j
 | [],_,i,j,k,h,_=>by simp at h
 |
  x::l,h,i,j,k,hi,hj=>by
  simp only[ndp]at h
  split at h
  ·cases h
  ·rename_i hn;have hx:x∉l:=λh=>by rw[Pe.2 h]at hn;cases hn
   cases i with
   |
    zero =>
    cases j with
    |zero=>rfl
    |succ j=>simp at hi hj;subst hi;exact absurd (Qa hj) hx
   |
    succ i =>
    cases j with
    |zero=>simp at hi hj;subst hj;exact absurd (Qa hi) hx
    |succ j=>rw[wI h i j k (by simpa using hi) (by simpa using hj)]
def Qu9(L:Sg)(B:Fe)(h:List (H P))(d f:Nat)(ys:Ff):St P:=match h with
 |
  .c (f:=f') (args:=args) (Bin:=Bin) (res:=res) (Bout:=Bout) is _::h=>match Nat.beq f f',lenB B,Qnz is Bin with
  |
   true,some nB,some (is1,is2)=>match Pv (nL (rnL is1)) args,Qsk is1 Bin with
   |
    some args',some ms=>match fE ys args',kl ms is1 L B with
    |
     some q,some (L1,B1)=>match eqB is1 B1 is1 Bin,Pv (VW (rnL is)) Bout with
     |
      some q2,some Bo=>match Qtc is1 Bo 0 B1,Pv (nL (rnL is)) res with
      |
       some B2,some res'=>match avF res' with
       |
        some u=>match ndp is,Qtv nB is2,(Ax (Nat.blt · nB) is1 && Nat.beq is.length Bout.length)with
        |true,true,true=>some ((d,u)::L1,B2,h,q++q2,[])
        |_,_,_=>none
       |none=>none
      |_,_=>none
     |_,_=>none
    |_,_=>none
   |_,_=>none
  |_,_,_=>none
 |_=>none
def Qjd(L:Sg)(B:Fe)(h:List (H P))(d f:Nat)(ys:Ff):St P:=match Qu8 L B h d f ys with
 |some r=>some r
 |none=>Qu9 L B h d f ys
theorem Qlr{α β:Type}{f:α->Option β}{l:List α}{r:List β}(h:Pv f l=some r):r.length=l.length:=(I9 h).1
theorem Qto{is js:U8}{c:Nat}(hp:Pre is js){l r:Fe}(h:Pv (VW (rnL is)) l=some r)(j:Nat):ob r j=Og (SK js c) (ob l j):=by
 rcases wB h j with⟨h1,h2⟩|h1
 ·rw[Tw h1,Tw h2];rfl
 ·exact(aM hp h1).1
theorem rE{arr:Array Oper}{o:Oper}{N:Kp}{h h':List (H P)}{q:Dy}{obs:List Prop}{d f:Nat}{us ys:Ff}{xs:Array Operand}{pre post:Fb}(hce:Cee P n o xs.toList f pre post L B)(hg:o.guard=none)(hd:o.dst=some d)(hdn:Nat.blt d n=true)
 (hus:evTs L xs.toList=some us) (hys:I3 (bC pre us post)=some ys) (hc:Qjd L B h d f ys=some (L',B',h',q,obs)) (hq:EqOk q) (k:N L' B'):W1 P arr n o N L B:=by
 unfold Qjd at hc
 split at hc
 ·rename_i r hcE;injection hc with hc;subst hc;rename_i hc;unfold Qu8 at hcE
  split at hcE
  ·rename_i f' args Bin res Bout is hdo h2
   split at hcE
   ·rename_i hB hfr;simp only[Zn]at hB hfr;obtain rfl:=Qbk hB.1;obtain rfl:=Qbk hB.2
    split at hcE
    ·rename_i q2 hz
     split at hcE
     ·rename_i u hu;obtain⟨rfl,rfl,rfl,rfl,rfl⟩:=Bz hcE;have e0:=hq.hd;injection e0 with e0;subst e0;exact W1.call hdo hce hg hd hdn hus hys (SJ hz hq.tl) hfr.1 hfr.2 (by rw[Qg3 hu];exact k)
     ·cases hcE
    ·cases hcE
   ·cases hcE
  ·cases hcE
 ·rename_i hne;clear hne;unfold Qu9 at hc
  split at hc
  ·rename_i f' args Bin res Bout is hdo h2
   split at hc
   ·rename_i nB is1 is2 e hnB hspl;obtain rfl:=Qz e;obtain rfl:=Bp hnB;obtain⟨hsp,hl1⟩:=Qc2 hspl
    split at hc
    ·rename_i args' ms hargs hms
     split at hc
     ·rename_i q1 L1 B1 hz hkl
      split at hc
      ·rename_i q2 Bo hq2 hBo
       split at hc
       ·rename_i B2 res' hput hres
        split at hc
        ·rename_i u hu
         split at hc
         ·rename_i hnd hseq hlt;obtain⟨rfl,rfl,rfl,rfl,rfl⟩:=Bz hc;rw[Zn]at hlt;obtain⟨hlt,hlen⟩:=hlt;have hlen:=Qz hlen;have hlt:∀i∈is1,i<B.length:=λi hi=>by have:=Py hlt i hi;rwa[Je]at this
          obtain⟨hqa,hqb⟩:=hq.app;have hpre:Pre is1 is:=λi j hj=>by
           rw[A7]at hj ⊢;rw[hsp,Zd (Qd.1 hj).1];exact hj
          let c:=B.length+is.length
          obtain⟨ha1,ha2⟩:=DI (c:=c) hpre hargs;obtain⟨hr1,_⟩:=DI (c:=c) (Pre.refl is) hres;obtain⟨hk1,hk2,hk3⟩:=Q11 (n:=n) hkl;obtain⟨_,he2⟩:=Qkc (c0:=c) hpre hq2 hqb;have hBol:=Qlr hBo;obtain⟨hp1,hp2,hp3,hp4⟩:=Qcq hput;have hmv:=Qb6 hms;have hi1:∀j,j<Bin.length->∃i,is1[j]? = some i/\SK is c j=i:=λj hj=>by
           have h1:is1[j]? = some is1[j]:=Qf Fj;exact⟨_,h1,MS hpre (by rw[A7];exact h1)⟩
          have hall:∀j i,is[j]? = some i->i<c:=λj i hj=>by
           have hjl:=(Qd.1 hj).1;have hll:is.length=is1.length+is2.length:=by rw[hsp];simp
           rcases Zc j is1.length with h|h
           ·rw[hsp,Zd h]at hj;have:=hlt i (Qa hj);simp only[c];omega
           ·rw[hsp,Zz h]at hj;have:=LQ hseq _ _ hj;have:=(Qd.1 hj).1;simp only[c];omega
          have hrho:∀i j,SK is c i=SK is c j->i=j:=λi j e=>by
           simp only[SK,A7]at e;cases hi:is[i]? with
           |
            none =>
            cases hj:is[j]? with
            |none=>simp only[hi,hj]at e;omega
            |some b=>simp only[hi,hj]at e;have:=hall j b hj;omega
           |
            some a =>
            cases hj:is[j]? with
            |none=>simp only[hi,hj]at e;have:=hall i a hi;omega
            |some b=>simp only[hi,hj]at e;subst e;exact wI hnd i j a hi hj
          have hobin:∀j,j<Bin.length->∃i b,is1[j]? = some i/\B1[i]? = some b/\(ob Bin j).lv=true/\((ob Bin j).mv=true->b.mv=true)/\ZO b=ZO (Og (SK is c) (ob Bin j))/\∀k∈(ob Bin j).ids,k<is1.length:=λj hj=>by
           have h1:=Qf hj;rw[Su h1];exact he2 j _ h1
          have hbg:∀j,¬j<Bin.length->ob Bin j=.gone:=λj hj=>Tw Fj
          have hBoutl:Bo.length=Bout.length:=hBol;refine W1.callD (ρ:=SK is c) (B1:=B1) (L1:=L1) hdo hce hg hd hdn hus hys ((SJ hz hqa).trans ha1) hrho (λt ht i hi=>by have:=ha2 t ht i hi;omega) (λj i hi=>?_) (λj hj=>?_) (λj hj=>?_) (λj h1 h2=>?_) Fj hk1 hk2 (λj hj=>?_) (λj hj=>?_) (λj hj=>?_) (λi hi hn=>?_) (by rw[hp2,hk2];omega) ?_
          ·rcases Zc j Bin.length with hj|hj
           ·obtain⟨_,_,_,_,_,_,_,h9⟩:=hobin j hj;have:=h9 i hi;omega
           ·rw[Tw hj]at hi;simp[OB.ids]at hi
          ·obtain⟨_,_,_,_,h5,_⟩:=hobin j hj;exact h5
          ·obtain⟨i,h1,h2⟩:=hi1 j hj;rw[h2];exact hlt i (Qa h1)
          ·have hll:is.length=is1.length+is2.length:=by rw[hsp];simp
           have h3:is[j]? = is2[j-is1.length]? := by rw[hsp,Zz Fj]
           have h4:is2[j-is1.length]? = some is2[j-is1.length]:=Qf Fj;have h5:=LQ hseq _ _ h4;rw[h4]at h3;have:SK is c j=is2[j-is1.length]:=MS (Pre.refl is) (by rw[A7];exact h3);rw[this,h5,hl1]
          ·have hjl:j<Bin.length:=by
            apply Classical.byContradiction;intro hn;rw[hbg j hn]at hj;cases hj
           obtain⟨i,h1,h2⟩:=hi1 j hjl;have hb:=Qf hjl;rw[Su hb]at hj;have:=hmv j i _ h1 hb hj;rw[h2];refine⟨(hk3 i this).1,λm hm=>(hk3 i this).2 m λhmi=>?_⟩;obtain⟨j',hj'⟩:=Zk.1 hmi;have hjl':j'<Bin.length:=by have:=(Qd.1 hj').1;omega
           obtain⟨i',h3,h4⟩:=hi1 j' hjl';rw[hj']at h3;injection h3 with h3;exact hm j' hjl' (h4.trans h3.symm)
          ·obtain⟨i,b,h1,h3,h5,h6,h7,_⟩:=hobin j hj;obtain⟨i',h1',h2⟩:=hi1 j hj;rw[h1]at h1';injection h1' with h1';subst h1'
           rw[h2,Su h3];exact⟨h7,h6⟩
          ·have hBj:=Qto (c:=c) (Pre.refl is) hBo j;rcases Zc j Bin.length with h|h
           ·obtain⟨i,h1,h2⟩:=hi1 j h;have hil:=hlt i (Qa h1);rw[h2];obtain⟨h3,h3m⟩:=hp3 i Fj;rw[Z9]at h3;cases hf:PT is1 Bo i with
            |none=>exact absurd (Qa h1) (xE Fj hf)
            |
             some b =>
             rw[hf]at h3;have h3:ob B2 i=flO (ob B1 i) b:=h3;obtain⟨j',h4,h5⟩:=PS hf;have:j'=j:=wI hnd j' j i (by rw[hsp,Zd (Qd.1 h4).1];exact h4) (by rw[hsp,Zd (Qd.1 h1).1];exact h1);subst this;rw[Su h5]at hBj;exact⟨by rw[h3,lW,hBj],λ_=>h3m⟩
           ·have h1:=hp4 (j-Bin.length);have e1:is1.length+(j-Bin.length)=j:=Fj;rw[e1]at h1;have hll:is.length=is1.length+is2.length:=by rw[hsp];simp
            have h3:is[j]? = is2[j-is1.length]? := by rw[hsp,Zz Fj]
            have h4:is2[j-is1.length]? = some is2[j-is1.length]:=Qf Fj;have h5:=LQ hseq _ _ h4;rw[h4]at h3;have e2:SK is c j=is2[j-is1.length]:=MS (Pre.refl is) (by rw[A7];exact h3);rw[e2,h5,<-hk2,hl1,h1,hBj];exact⟨rfl,λh'=>Fj⟩
          ·have h3:=(hp3 i Fj).1;rw[Z9]at h3;cases hf:PT is1 Bo i with
           |none=>rw[hf]at h3;exact h3
           |
            some b =>
            obtain⟨j',h4,_⟩:=PS hf;have hjl':j'<Bin.length:=by have:=(Qd.1 h4).1;omega
            obtain⟨i',h5,h6⟩:=hi1 j' hjl';rw[h4]at h5;injection h5 with h5;exact absurd (h6.trans h5.symm) (hn j' hjl')
          ·rw[<-hr1,Qg3 hu];exact k
         ·cases hc
        ·cases hc
       ·cases hc
      ·cases hc
     ·cases hc
    ·cases hc
   ·cases hc
  ·cases hc
end Orr
namespace Orr
open Go
variable{P:Program}{n:Nat}{L L':Sg}{B B':Fe}{Q:Exit->Sg->Fe->Prop}
def JM:Dy->Dy->Dy
 | [],l=>l
 |x::r,l=>x::JM r l
theorem No:∀{a b:Dy},JM a b=a++b
 | [],_=>rfl
 |_::_,_=>by simp[JM,No]
def Qk5:List (H P)->Option Nat
 | @H.c _ f _ _ _ _ _ _::_=>some f
 | .p _::r=>Qk5 r
 | .lo::r=>Qk5 r
 |_=>none
def msF:List (Nat×Nat×String)->Nat->Option (Nat×String)
 | [],_=>none
 |
  (g,off,nm)::l,f=>match Nat.beq g f with
  |true=>some (off,nm)
  |false=>msF l f
theorem Qly:∀{l:List (Nat×Nat×String)} {f off:Nat} {nm:String},msF l f=some (off,nm)->(f,off,nm)∈l
 |
  (g,o,s)::l,f,off,nm,h=>by
  simp only[msF]at h
  split at h
  ·rename_i e;obtain rfl:=Qz e;injection h with h;injection h with h1 h2;subst h1;subst h2;exact Qw ..
  ·exact Qh _ (Qly h)
def Qan(T:TT P)(L:Sg)(h:List (H P))(c:Callee)(xs:List Operand):Option (Nat×Ff×Dy):=match c with
 |
  .value x=>match evT L x with
  |
   some (.one fv)=>match Qr4 fv with
   |
    some (f,pre,post)=>match evTs L xs with
    |
     some us=>match I3 (bC pre us post)with
     |some ys=>some (f,ys,[])
     |none=>none
    |none=>none
   |none=>none
  |_=>none
 |
  .invoke r name=>match evT L r,Qk5 h with
  |
   some (.one (.oif t i off)),some f=>match T.find t with
   |
    some ti=>match msF ti.ms f with
    |
     some (d,nm)=>match bN off d,evTs L xs with
     |
      some s,some us=>match I3 (bC [.ow i s] us [])with
      |some ys=>some (f,ys,[(.s name,.s nm)])
      |none=>none
     |_,_=>none
    |none=>none
   |none=>none
  |_,_=>none
 | .builtin _=>none
def Qao(q0:Dy)(L:Sg)(B:Fe)(h:List (H P))(d f:Nat)(ys:Ff):St P:=match Qjd L B h d f ys with
 |some (L',B',h',q,ob)=>some (L',B',h',JM q0 q,ob)
 |none=>none
theorem Qap{T:TT P}{arr:Array Oper}{o:Oper}{N:Kp}{h h':List (H P)}{q q0:Dy}{ob:List Prop}{d f:Nat}{ys:Ff}{c:Callee}{xs:Array Operand}{ats:Array TypeId}(ho:o.op=.call { callee:=c,args:=xs,argTypes:=ats })(hg:o.guard=none)(hd:o.dst=some d)(hdn:Nat.blt d n=true)
 (ha:Qan T L h c xs.toList=some (f,ys,q0)) (hc:Qao q0 L B h d f ys=some (L',B',h',q,ob)) (hq:EqOk q) (k:N L' B'):W1 P arr n o N L B:=by
 unfold Qao at hc
 split at hc
 ·rename_i L2 B2 h2 q2 ob2 hc';obtain⟨rfl,rfl,rfl,rfl,rfl⟩:=Bz hc;rw[No]at hq;have hq0:EqOk q0:=λp hp=>hq p (Qp.2 (.inl hp))
  have hq2:EqOk q2:=λp hp=>hq p (Qp.2 (.inr hp))
  unfold Qan at ha
  split at ha
  ·rename_i x
   split at ha
   ·rename_i fv hx
    split at ha
    ·rename_i f pre post hfv
     split at ha
     ·rename_i us hus
      split at ha
      ·rename_i ys hys;injection ha with ha;injection ha with e1 ha;injection ha with e2 e3;subst e1;subst e2;exact rE (Cee.value ho hx hfv) hg hd hdn hus hys hc' hq2 k
      ·cases ha
     ·cases ha
    ·cases ha
   ·cases ha
  ·rename_i r name
   split at ha
   ·rename_i t i off f hr hf
    split at ha
    ·rename_i ti hti
     split at ha
     ·rename_i dd nm hms
      split at ha
      ·rename_i s us hs hus
       split at ha
       ·rename_i ys hys;injection ha with ha;injection ha with e1 ha;injection ha with e2 e3;subst e1;subst e2;subst e3;have hnm:=hq0 _ (Ql.2 rfl);injection hnm with hnm;subst hnm;have hm:=ti.hms _ (Qly hms);rw[TT.find_t hti]at hm;exact rE (Cee.invoke ho hr hm (vH hs)) hg hd hdn hus hys hc' hq2 k
       ·cases ha
      ·cases ha
     ·cases ha
    ·cases ha
   ·cases ha
  ·cases ha
 ·cases hc
end Orr
namespace Orr
open Go
variable{P:Program}{arr:Array Oper}{n:Nat}{o:Oper}{F:Fr}{E:Dv}{M:Nat->Prop}{a:Act}{w:World}
theorem Qug{o:Oper}{a:Act}{w:World}{K1 K2:Act->World->Prop}{Q1 Q2:Exit->Act->World->Prop}(hd:a.defers=[])
 (hK:∀a' w',K1 a' w'->a'.defers=[]/\((∃v,a'=a.put o.dst v)->K2 a' w')) (hp:∀c a w,¬Q1 (.panic c) a w) (ho:¬LetsOut Q1) (h:o.wp P a w K1 Q1):o.wp P a w K2 Q2:=by
 unfold Oper.wp at *;generalize (execOp a.eval o).run P w=r at *;cases r with
 |
  ok nx w' =>
  cases nx <;> simp only[Oper.upon]at h ⊢
  case value v=>exact(hK _ _ h).2 ⟨v,rfl⟩
  case skip=>exact(hK _ _ h).2 ⟨_,rfl⟩
  case defer d =>
   have:=(hK _ _ h).1;cases hdst:o.dst <;> simp[Act.put,hdst]at this
  case enter f args =>
   refine Calls.mono h λe w'' he=>?_
   cases e with
   |returned v=>exact(hK _ _ he).2 ⟨v,rfl⟩
   |panicked c=>exact absurd he (hp _ _ _)
   |outgrown=>exact absurd he ho
  case row row args=>exact Rows.mono h λv w'' he=>(hK _ _ he).2 ⟨v,rfl⟩
 |
  halt x w' =>
  cases x <;> simp only[Oper.upon]at h ⊢
  case panic v=>exact absurd h (hp _ _ _)
theorem Qn2{K1 K2:Act->World->Prop}{Q:Exit->Act->World->Prop}(hd:a.defers=[])(hK:∀a' w',K1 a' w'->a'.defers=[]/\((∃v,a'=a.put o.dst v)->K2 a' w'))(h:iF P arr o a w K1 λ_ _ _=>False):iF P arr o a w K2 Q:=by
 have hno:¬LetsOut λ(_:Exit) (_:Act) (_:World)=>False:=λ⟨_,_,h⟩=>h
 unfold iF at *
 split
 ·rename_i hw;rw[if_pos hw]at h;exact .inl (Qug hd hK (λ_ _ _ h=>h) hno (h.resolve_right λh=>hno h.2))
 ·rename_i hw;rw[if_neg hw]at h;exact(hK _ _ h).2 ⟨_,rfl⟩
structure SF(F:Fr)(n:Nat)(sl:Nat->Option AV)(bl:Nat->OB)(U:Nat->Prop)(E:Dv)(M:Nat->Prop)(a:Act)(w:World):Prop where
 hs:HS F bl U E M w
 size:a.tmps.size=n
 defers:a.defers=[]
 slots:∀t x,sl t=some x->∃v,a.tmps[t]? = some v/\ARep w M E v x
def Bi{α:Type}:List (Nat×α)->Nat->Option α
 | [],_=>none
 |
  (t,v)::l,s=>match Nat.beq s t with
  |true=>some v
  |false=>Bi l s
def QR{α:Type}(f:Nat->α)(l:List (Nat×α)):Nat->α:=λt=>match Bi l t with
 |some v=>v
 |none=>f t
structure Rc where
 L0:Sg
 B0:List OB
 L1:Sg
 B1:List OB
 ws:List (Nat×Option AV)
 wb:List (Nat×OB)
 mv:Option Nat
def Rc.act(r:Rc)(j:Nat):Prop:=(ob r.B0 j).lv=true\/r.B0.length<=j/\j<r.B1.length
structure Loc(r:Rc)(sl:Nat->Option AV)(bl:Nat->OB)(U:Nat->Prop):Prop where
 l0:∀t x,lk r.L0 t=some x->sl t=some x
 b0:∀j,(ob r.B0 j).lv=true->ZO (bl j)=ZO (ob r.B0 j)/\((ob r.B0 j).mv=true->(bl j).mv=true)/\∀b,Bi r.wb j=some b->b.mv=true->(bl j).mv=true
 new:∀j,r.B0.length<=j->j<r.B1.length->U j
 mvs:∀i,r.mv=some i->(∀t x,sl t=some x->i∈x.ids->(Bi r.ws t).isSome=true)/\∀j,i∈(bl j).ids->(Bi r.wb j).isSome=true
 kl:∀j b,Bi r.wb j=some b->¬r.act j->∃i,r.mv=some i/\VW (E9 i) (bl j)=some b
structure Wf(P:Program)(arr:Array Oper)(n:Nat)(o:Oper)(r:Rc):Prop where
 w1:W1 P arr n o (λL B=>L=r.L1/\B=r.B1) r.L0 r.B0
 ids0:∀t x,lk r.L0 t=some x->∀i∈x.ids,i<r.B0.length
 idsb:∀j,∀i∈(ob r.B0 j).ids,i<r.B0.length
 mv0:∀j,(ob r.B0 j).mv=true->r.mv=some j
 mv1:∀j,r.mv=some j->(ob r.B0 j).lv=true/\(Bi r.wb j).isSome=true
 ws1:∀t x,Bi r.ws t=some (some x)->lk r.L1 t=some x
 ws2:∀t,o.dst=some t->(Bi r.ws t).isSome=true
 wb1:∀j b,Bi r.wb j=some b->r.act j->ZO b=ZO (ob r.B1 j)
 wb2:∀j,r.act j->Bi r.wb j=none->ZO (ob r.B1 j)=ZO (ob r.B0 j)/\(ob r.B0 j).lv=true
theorem aT:∀b:OB,Og id b=b
 |
  .blk T xs=>by
  have e:∀ys:Fb,ys.map (uC id)=ys:=λys=>by
   induction ys with
   |nil=>rfl
   |cons y ys ih=>simp only[Xa,ih];cases y <;> rfl
  have e2:∀ys:Fb,ys.map (FP id)=ys:=λys=>by
   induction ys with
   |nil=>rfl
   |cons y ys ih=>simp only[Xa,ih];cases y <;> simp[FP,e]
  simp only[Og,e2]
 | .gone=>rfl
 | .row .. => rfl
 | .mpb _=>rfl
theorem Loc.step{r:Rc}{sl:Nat->Option AV}{bl:Nat->OB}{U:Nat->Prop}(hl:Loc r sl bl U)(hw:Wf P arr n o r)(h:SF F n sl bl U E M a w){K:Act->World->Prop}{Q:Exit->Act->World->Prop}
 (hK:∀a' w' E' M',SF F n (QR sl r.ws) (QR bl r.wb) (λj=>U j/\¬(r.B0.length<=j/\j<r.B1.length)) E' M' a' w'->K a' w'):iF P arr o a w K Q:=by
 have hlv0:∀j,(ob r.B0 j).lv=true->j<r.B0.length:=λj hj=>by
  apply Classical.byContradiction;intro hn;rw[Tw Fj]at hj;cases hj
 have hkill:∀j,¬r.act j->OBRep w M E j (QR bl r.wb j)/\(QR bl r.wb j).lv=(bl j).lv/\(QR bl r.wb j).mv=(bl j).mv/\(bl j=.gone->QR bl r.wb j=.gone)/\∀i,r.mv=some i->i∉(QR bl r.wb j).ids:=λj hj=>by
  simp only[QR]
  split
  ·rename_i b hb;obtain⟨i,hi,hk⟩:=hl.kl j b hb hj;obtain⟨e1,e2,e3⟩:=FW hk;refine⟨uZ sD hk (h.hs.blk j),e1,e2,e3,λi' hi'=>?_⟩;rw[hi]at hi';injection hi' with hi';subst hi'
   cases hbj:bl j <;> rw[hbj]at hk <;> simp only[VW,Option.some.injEq]at hk <;> first|(rw[<-hk];simp[OB.ids];done)|skip
   split at hk
   ·rename_i r' hr';injection hk with hk;rw[<-hk];exact RV (λ_ _=>PD) hr'
   ·cases hk
  ·rename_i hb;refine⟨h.hs.blk j,rfl,rfl,id,λi hi hm=>?_⟩;have:=(hl.mvs i hi).2 j hm;rw[hb]at this;cases this
 let blx:Nat->OB:=λj=>if (ob r.B0 j).lv=true then ob r.B0 j else if r.B0.length<=j/\j<r.B1.length then bl j else QR bl r.wb j
 have hx1:∀j,(ob r.B0 j).lv=true->blx j=ob r.B0 j:=λj hj=>if_pos hj
 have hx2:∀j,¬r.act j->blx j=QR bl r.wb j:=λj hj=>by
  simp only[blx];rw[if_neg λh=>hj (.inl h),if_neg λh=>hj (.inr h)]
 have hx3:∀j,r.B0.length<=j/\j<r.B1.length->blx j=bl j:=λj hj=>by
  simp only[blx];rw[if_neg λh=>by have:=hlv0 j h;omega,if_pos hj]
 have hcase:∀j,(ob r.B0 j).lv=true\/(r.B0.length<=j/\j<r.B1.length)\/¬r.act j:=λj=>by
  by_cases h1:(ob r.B0 j).lv=true
  ·exact .inl h1
  ·by_cases h2:r.B0.length<=j/\j<r.B1.length
   ·exact .inr (.inl h2)
   ·exact .inr (.inr λh=>h.elim h1 h2)
 have hsx:HS F blx U E M w:=by
  have h1:∀j,OBRep w M E j (blx j)/\(blx j).lv=(bl j).lv/\((blx j).mv=true->(bl j).mv=true)/\(bl j=.gone->blx j=.gone):=λj=>by
   rcases hcase j with hj|hj|hj
   ·rw[hx1 j hj];obtain⟨e1,e2,_⟩:=hl.b0 j hj;exact⟨Qbf e1 (h.hs.blk j),(PP e1).symm,e2,λe=>by rw[e]at e1;have:=PP e1;rw[hj]at this;cases this⟩
   ·rw[hx3 j hj];exact⟨h.hs.blk j,rfl,id,id⟩
   ·rw[hx2 j hj];obtain⟨e1,e2,e3,e4,_⟩:=hkill j hj;exact⟨e1,e2,λh=>e3 ▸ h,e4⟩
  exact { h.hs with
   nj:=λi hi=>h.hs.nj i ((h1 i).2.2.1 hi)
   blk:=λi=>(h1 i).1
   nk:=λi g c m hi=>h.hs.nk i g c m (by rw[<-(h1 i).2.1];exact hi)
   inj:=λi j g c m c' m' hi hj=>h.hs.inj i j g c m c' m' (by rw[<-(h1 i).2.1];exact hi) (by rw[<-(h1 j).2.1];exact hj)
   un:=λi hi=>⟨(h.hs.un i hi).1,(h1 i).2.2.2 (h.hs.un i hi).2⟩ }
 let E':Dv:=λj=>if r.B0.length<=j then none else E j
 have hE':∀j,j<r.B0.length->E' j=E j:=λj hj=>if_neg Fj
 have hsub:HS (prt (ob r.B0) (nw r.B0) E' M w) (ob r.B0) (nw r.B0) E' M w:=hsx.sub (ρ:=id) (λj hj=>by rw[aT];exact hx1 j hj)
  (λ_ _ e=>e) (λj hj=>Tw hj) (λj hj=>if_pos hj) (λj hj=>hE' j (by simpa[nw]using hj)) (λj i hi=>by have:=hw.idsb j i hi;simp only[nw];omega)
 have hsa:SA (prt (ob r.B0) (nw r.B0) E' M w) n r.L0 r.B0 E' M a w:=⟨hsub,h.size,h.defers,λt x hx=>by
  obtain⟨v,h1,h2⟩:=h.slots t x (hl.l0 t x hx);exact⟨v,h1,h2.keep (Le.refl _ _) λi hi _=>hE' i (hw.ids0 t x hx i hi)⟩⟩
 refine Qn2 (K1:=λa' w'=>∃E1 M1,SA (prt (ob r.B0) (nw r.B0) E' M w) n r.L1 r.B1 E1 M1 a' w') h.defers (λa' w' ⟨E1,M1,h1⟩=>⟨h1.defers,λ⟨v,ha⟩=>?_⟩) (hw.w1 _ _ _ _ _ _ _ hsa λa' w' L' B' E1 M1 h1 ⟨e1,e2⟩=>by subst e1;subst e2;exact⟨E1,M1,h1⟩);have dec:∀j,r.act j\/¬r.act j:=λj=>Classical.em _
 let E2:Dv:=λj=>if (ob r.B0 j).lv=true\/r.B0.length<=j/\j<r.B1.length then E1 j else E j
 let bl2:Nat->OB:=λj=>if (ob r.B0 j).lv=true\/r.B0.length<=j/\j<r.B1.length then ob r.B1 j else blx j
 have kb:Back blx (ob r.B0) (ob r.B1) bl2 U (nw r.B0) (nw r.B1) (λj=>U j/\¬(r.B0.length<=j/\j<r.B1.length)) E E' E1 E2 id r.act:={
  inj:=λ_ _ e=>e
  hb:=λj hj=>by rw[aT];exact hx1 j hj
  e':=λj hj=>hE' j (by simpa[nw]using hj)
  a0:=λj hj=>⟨.inl hj,by have:=hlv0 j hj;simp only[nw];omega⟩
  a1:=λj hj=>hj.imp id λh=>⟨h.1,hl.new j h.1 h.2⟩
  a2:=λj h1 h2=>.inr ⟨h1,by simpa[nw]using h2⟩
  hit:=λj hj=>⟨if_pos hj,by rw[aT];exact if_pos hj⟩
  no:=λi hi=>⟨if_neg λh=>hi i h rfl,if_neg λh=>hi i h rfl⟩
  u2:=λi hi=>⟨hi.1,λj hj e=>by
   have e:j=i:=e;subst e;rcases hj with hj|hj
   ·have h1:=(h.hs.un j hi.1).2;have h2:=(hl.b0 j hj).1;rw[h1]at h2;rw[<-PP h2]at hj;cases hj
   ·exact hi.2 hj⟩
  mv:=λj hj i hi hm=>by
   have hn:¬r.act i:=λh=>hi i h rfl
   rw[hx2 i hn]at hm;exact(hkill i hn).2.2.2.2 j (hw.mv0 j hj) hm }
 have hs2:=HS.back kb hsx h1.hs;have hle:=CZ kb hsx h1.hs;have hfl:HS F (QR bl r.wb) (λj=>U j/\¬(r.B0.length<=j/\j<r.B1.length)) E2 M1 w':=by
  refine hs2.flag (λj=>?_) λj hj=>?_
  ·rcases dec j with hj|hj
   ·rw[show bl2 j=ob r.B1 j from if_pos hj];simp only[QR]
    split
    ·rename_i b hb;exact(hw.wb1 j b hb hj).symm
    ·rename_i hb;obtain⟨e1,e2⟩:=hw.wb2 j hj hb;exact e1.trans (hl.b0 j e2).1.symm
   ·rw[show bl2 j=blx j from if_neg hj,hx2 j hj]
  ·rcases hcase j with hj'|hj'|hj'
   ·simp only[QR]at hj
    split at hj
    ·rename_i b hb;exact h.hs.nj j ((hl.b0 j hj').2.2 b hb hj)
    ·exact h.hs.nj j hj
   ·exact h.hs.uj j (hl.new j hj'.1 hj'.2)
   ·rw[(hkill j hj').2.2.1]at hj;exact h.hs.nj j hj
 refine hK a' w' E2 M1 ⟨hfl,h1.size,h1.defers,λt x hx=>?_⟩;simp only[QR]at hx
 split at hx
 ·rename_i y hy;subst hx;obtain⟨v',h2,h3⟩:=h1.slots t x (hw.ws1 t x hy);exact⟨v',h2,h3.keep (Le.refl _ _) λi _ hi=>LR kb hsx h1.hs hi⟩
 ·rename_i hy;have hne:o.dst≠some t:=λe=>by have:=hw.ws2 t e;rw[hy]at this;cases this
  obtain⟨v',h2,h3⟩:=h.slots t x hx;refine⟨v',?_,h3.keep hle λi hi hne'=>SR kb hsx h1.hs hne' λj hj e=>?_⟩
  ·rw[ha];cases hd:o.dst with
   |none=>exact h2
   |
    some d =>
    simp only[Act.put];rw[Array.getElem?_setIfInBounds_ne (λe=>hne (by rw[hd,e]))];exact h2
  ·have e:j=i:=e;subst e;have:=(hl.mvs j (hw.mv0 j hj)).1 t x hx hi;rw[hy]at this;cases this
end Orr
namespace Orr
open Go
variable{P:Program}{n:Nat}{Q:Exit->Act->World->Prop}{F:Fr}
def Rc.nw_(r:Rc)(j:Nat):Prop:=r.B0.length<=j/\j<r.B1.length
def Ov(mvs:U8)(r:Rc)(sl:Nat->Option AV)(bl:Nat->OB):Prop :=
 (∀t y,(Bi r.ws t).isSome=true->sl t=some y->∀i∈y.ids,i∈mvs->r.mv=some i)/\∀j,(Bi r.wb j).isSome=true->∀i∈(bl j).ids,i∈mvs->r.mv=some i
def DR(R:Nat->Rc)(mvs:U8)(N:(Nat->Option AV)->(Nat->OB)->(Nat->Prop)->Prop):U8->(Nat->Option AV)->(Nat->OB)->(Nat->Prop)->Prop
 | [],sl,bl,U=>N sl bl U
 |i::l,sl,bl,U=>Loc (R i) sl bl U/\Ov mvs (R i) sl bl/\DR R mvs N l (QR sl (R i).ws) (QR bl (R i).wb) (λj=>U j/\¬(R i).nw_ j)
structure Dj1(p x:Rc):Prop where
 rd:∀t,(Bi p.ws t).isSome=true->lk x.L0 t=none
 ws:∀t,(Bi p.ws t).isSome=true->Bi x.ws t=none
 wb:∀j,(Bi p.wb j).isSome=true->(ob x.B0 j).lv=false/\Bi x.wb j=none
 mv:∀i,p.mv=some i->(∀t y,Bi x.ws t=some (some y)->i∉y.ids)/\∀j b,Bi x.wb j=some b->i∉b.ids
 nw:∀j,p.nw_ j->¬x.nw_ j
variable{α:Type}
theorem Dn{o:Option α}(h:¬o.isSome=true):o=none:=by cases o <;> first|rfl|(exact absurd rfl h)
theorem Nb{f:Nat->α}{l:List (Nat×α)}{t:Nat}(h:Bi l t=none):QR f l t=f t:=by simp[QR,h]
variable{sl:Nat->Option AV}{bl:Nat->OB}{U:Nat->Prop}
theorem Dj1.loc{p x:Rc}{mvs:U8}(d:Dj1 p x)(d':Dj1 x p)(hx:x.mv.all (mvs.contains ·)=true)(hx1:∀j,x.mv=some j->(ob x.B0 j).lv=true)(hp1:∀j,p.mv=some j->(Bi p.wb j).isSome=true)(ho:Ov mvs p sl bl)
 (h:Loc x (QR sl p.ws) (QR bl p.wb) λj=>U j/\¬p.nw_ j):Loc x sl bl U:=by
 have hno:∀i,x.mv=some i->i∈mvs/\p.mv≠some i:=λi hi=>by
  rw[hi]at hx;refine⟨by simpa using hx,λe=>?_⟩;have:=(d.wb i (hp1 i e)).1;rw[hx1 i hi]at this;cases this
 refine⟨λt y hy=>?_,λj hj=>?_,λj h1 h2=>(h.new j h1 h2).1,λi hi=>⟨λt y hy hm=>?_,λj hm=>?_⟩,λj b hb hn=>?_⟩
 ·have h1:=h.l0 t y hy;rwa[Nb (Dn λe=>by rw[d.rd t e]at hy;cases hy)]at h1
 ·have h1:=h.b0 j hj;rwa[Nb (Dn λe=>by rw[(d.wb j e).1]at hj;cases hj)]at h1
 ·by_cases e:(Bi p.ws t).isSome=true
  ·obtain⟨h1,h2⟩:=hno i hi;exact absurd (ho.1 t y e hy i hm h1) h2
  ·exact(h.mvs i hi).1 t y (by rw[Nb (Dn e)];exact hy) hm
 ·by_cases e:(Bi p.wb j).isSome=true
  ·obtain⟨h1,h2⟩:=hno i hi;exact absurd (ho.2 j e i hm h1) h2
  ·exact(h.mvs i hi).2 j (by rw[Nb (Dn e)];exact hm)
 ·have h1:=h.kl j b hb hn;rwa[Nb (d'.wb j (by rw[hb];rfl)).2]at h1
theorem Dj1.loc'{p x:Rc}(d:Dj1 p x)(d':Dj1 x p)(h:Loc p sl bl U):Loc p (QR sl x.ws) (QR bl x.wb) λj=>U j/\¬x.nw_ j:=by
 refine⟨λt y hy=>?_,λj hj=>?_,λj h1 h2=>⟨h.new j h1 h2,λh3=>d.nw j ⟨h1,h2⟩ h3⟩,λi hi=>⟨λt y hy hm=>?_,λj hm=>?_⟩,λj b hb hn=>?_⟩
 ·rw[Nb (Dn λe=>by rw[d'.rd t e]at hy;cases hy)];exact h.l0 t y hy
 ·rw[Nb (Dn λe=>by rw[(d'.wb j e).1]at hj;cases hj)];exact h.b0 j hj
 ·simp only[QR]at hy
  split at hy
  ·rename_i v hv;subst hy;exact absurd hm ((d.mv i hi).1 t y hv)
  ·exact(h.mvs i hi).1 t y hy hm
 ·simp only[QR]at hm
  split at hm
  ·rename_i b hb;exact absurd hm ((d.mv i hi).2 j b hb)
  ·exact(h.mvs i hi).2 j hm
 ·rw[Nb (d.wb j (by rw[hb];rfl)).2];exact h.kl j b hb hn
theorem Ov.of{mvs:U8}{r r':Rc}(d:Dj1 r r')(h:Ov mvs r sl bl):Ov mvs r (QR sl r'.ws) (QR bl r'.wb) :=
 ⟨λt y ht hy=>h.1 t y ht (by rwa[Nb (d.ws t ht)]at hy),λj hj i hi=>h.2 j hj i (by rwa[Nb (d.wb j hj).2]at hi)⟩
theorem Ov.to{mvs:U8}{r r':Rc}(d:Dj1 r r')(h:Ov mvs r (QR sl r'.ws) (QR bl r'.wb)):Ov mvs r sl bl :=
 ⟨λt y ht hy=>h.1 t y ht (by rw[Nb (d.ws t ht)];exact hy),λj hj i hi=>h.2 j hj i (by rw[Nb (d.wb j hj).2];exact hi)⟩
theorem nO{f:Nat->α}{a b:List (Nat×α)}(h:∀t,(Bi a t).isSome=true->Bi b t=none):QR (QR f a) b=QR (QR f b) a:=by
 funext t;simp only[QR];cases ha:Bi a t with
 |none=>cases Bi b t <;> rfl
 |some v=>rw[h t (by rw[ha];rfl)]
section
variable{R:Nat->Rc}{mvs:U8}{N:(Nat->Option AV)->(Nat->OB)->(Nat->Prop)->Prop}
structure Dj(mvs:List Nat)(p x:Rc):Prop where
 a:Dj1 p x
 b:Dj1 x p
 m:x.mv.all (mvs.contains ·)=true
 x1:∀j,x.mv=some j->(ob x.B0 j).lv=true
 p1:∀j,p.mv=some j->(Bi p.wb j).isSome=true
theorem DR.swap{p x:Nat}{l:U8}{sl:Nat->Option AV}{bl:Nat->OB}{U:Nat->Prop}(d:Dj mvs (R p) (R x))(h:DR R mvs N (p::x::l) sl bl U):DR R mvs N (x::p::l) sl bl U:=by
 obtain⟨h1,h2,h3,h4,h5⟩:=h;refine⟨d.a.loc d.b d.m d.x1 d.p1 h2 h3,h4.to d.b,d.a.loc' d.b h1,h2.of d.a,?_⟩;rw[nO (a:=(R x).ws) (b:=(R p).ws) d.b.ws,nO (a:=(R x).wb) (b:=(R p).wb) λj hj=>(d.b.wb j hj).2];have e:(λj=>(U j/\¬(R x).nw_ j)/\¬(R p).nw_ j)=λj=>(U j/\¬(R p).nw_ j)/\¬(R x).nw_ j:=by
  funext j;exact propext ⟨λ⟨⟨a,b⟩,c⟩=>⟨⟨a,c⟩,b⟩,λ⟨⟨a,b⟩,c⟩=>⟨⟨a,c⟩,b⟩⟩
 rw[e];exact h5
theorem DR.front{i:Nat}:∀{l1 l2:U8} {sl:Nat->Option AV} {bl:Nat->OB} {U:Nat->Prop},(∀p∈l1,Dj mvs (R p) (R i))->DR R mvs N (l1++i::l2) sl bl U->DR R mvs N (i::(l1++l2)) sl bl U
 | [],_,_,_,_,_,h=>h
 |
  p::l1,l2,sl,bl,U,hd,h=>by
  obtain⟨h1,h2,h3⟩:=h;exact DR.swap (hd p (.head _)) ⟨h1,h2,DR.front (l1:=l1) (λq hq=>hd q (.tail _ hq)) h3⟩
end
def UJ(ops:List Oper)(i:Nat):U8:=match ops[i]? with
 |none=>[]
 |some o=>o.after.toList.filterMap λe=>if Region.binds .any e then some e.on else none
structure Cl(l:List Oper)(cl:Nat->Nat->Bool):Prop where
 down:∀i,i<l.length->∀j∈UJ l i,j<i
 closed:∀i,i<l.length->∀p,cl i p=true->p∈UJ l i\/∃j∈UJ l i,cl j p=true
variable{l:List Oper}{listed:Array Bool}
theorem MR{i:Nat}:i∈Region.ready .any l.toArray listed↔listed.getD i true=false/\i<l.length/\∀j∈UJ l i,listed.getD j false=true:=by
 constructor
 ·intro h;obtain⟨h0,o,ho,hall⟩:=mem_ready.1 h;have ho':l[i]? = some o:=by simpa using ho
  refine⟨h0,(Qd.1 ho').1,λj hj=>?_⟩;simp only[UJ,ho',J0]at hj;obtain⟨e,he,hb⟩:=hj
  split at hb
  ·rename_i hbind;injection hb with hb;subst hb;exact hall e (by simpa using he) hbind
  ·cases hb
 ·rintro⟨h0,hi,hp⟩
  refine mem_ready.2 ⟨h0,l[i],by simp[hi],λe he hb=>hp _ ?_⟩;simp only[UJ,Qf hi,J0];exact⟨e,by simpa using he,by simp[hb]⟩
theorem wV{j:Nat}(hj:j<listed.size):listed.getD j true=listed.getD j false:=by simp[Array.getD,hj]
theorem Qjz{R:Nat->Rc}{mvs:U8}{cl:Nat->Nat->Bool}{N:(Nat->Option AV)->(Nat->OB)->(Nat->Prop)->Prop}(hc:Cl l cl)(hw:∀i o,l[i]? = some o->Wf P l.toArray n o (R i))(hd:∀i,i<l.length->∀p,p<i->cl i p=false->Dj mvs (R p) (R i))
 (hq:∀a w sl bl U E M,SF F n sl bl U E M a w->N sl bl U->Q .normal a w) :
 ∀(fuel:Nat) (listed:Array Bool) (rem:U8) (sl:Nat->Option AV) (bl:Nat->OB) (U:Nat->Prop) (E:Dv) (M:Nat->Prop) (a:Act) (w:World),listed.size=l.length->rem.Pairwise (· < ·)->(∀j,j∈rem↔j<l.length/\listed.getD j true=false)->rem.length<=fuel ->
  (∀i,i<l.length->listed.getD i true=true->∀j∈UJ l i,listed.getD j true=true) ->
  DR R mvs N rem sl bl U->SF F n sl bl U E M a w->wpAny P .any l.toArray Q fuel listed a w:=by
 intro fuel;have hnil:∀(listed:Array Bool) (rem:U8),listed.size=l.length->rem.Pairwise (· < ·)->(∀j,j∈rem↔j<l.length/\listed.getD j true=false)->Region.ready .any l.toArray listed=[]->rem=[]:=λlisted rem hs hp hm hr=>by
  cases rem with
  |nil=>rfl
  |
   cons i rem =>
   have hi:=(hm i).1 (.head _);have:i∈Region.ready .any l.toArray listed:=MR.2 ⟨hi.2,hi.1,λj hj=>by
    have hji:=hc.down i hi.1 j hj;rw[<-wV Fj];cases e:listed.getD j true with
    |true=>rfl
    |
     false =>
     have hjm:=(hm j).2 ⟨Fj,e⟩;rcases Qk.1 hjm with rfl|hjm
     ·omega
     ·have:=(Q0.1 hp).1 j hjm;omega⟩
   rw[hr]at this;cases this
 induction fuel with
 |
  zero =>
  intro listed rem sl bl U E M a w hs hp hm hl hcl h hsf;have:rem=[]:=Qi Fj;subst this;refine⟨?_,hq _ _ _ _ _ _ _ hsf h⟩;apply List.eq_nil_iff_forall_not_mem.2;intro j hj;obtain⟨h0,hjl,_⟩:=MR.1 hj;exact absurd ((hm j).2 ⟨hjl,h0⟩) Fp
 |
  succ fuel ih =>
  intro listed rem sl bl U E M a w hs hp hm hl hcl h hsf;refine⟨λhr=>?_,λi hi=>?_⟩
  ·have:=hnil listed rem hs hp hm hr;subst this;exact hq _ _ _ _ _ _ _ hsf h
  ·obtain⟨h0,hil,hpr⟩:=MR.1 hi;obtain⟨l1,l2,rfl⟩:=Kx ((hm i).2 ⟨hil,h0⟩);have hpp:=Zp.1 hp;have hlt:∀p∈l1,p<i:=λp hp1=>hpp.2.2 p hp1 i (.head _)
   have hdone:∀j,cl i j=true->listed.getD j true=true:=by
    have key:∀k,k<l.length->(∀j∈UJ l k,listed.getD j true=true)->∀j,cl k j=true->listed.getD j true=true:=by
     intro k
     induction k using Nat.strongRecOn with
     |
      _ k ihk =>
      intro hk hpk j hj;rcases hc.closed k hk j hj with h1|⟨q,hq1,hq2⟩
      ·exact hpk j h1
      ·have hqk:=hc.down k hk q hq1;exact ihk q hqk Fj (hcl q Fj (hpk q hq1)) j hq2
    exact λj hj=>key i hil (λq hq=>by have:=hc.down i hil q hq;rw[wV Fj];exact hpr q hq) j hj
   have hdj:∀p∈l1,Dj mvs (R p) (R i):=λp hp1=>hd i hil p (hlt p hp1) (by
    cases e:cl i p with
    |false=>rfl
    |
     true =>
     have h1:=hdone p e;have h2:=((hm p).1 (Qp.2 (.inl hp1))).2;rw[h1]at h2;cases h2)
   obtain⟨h1,_,h3⟩:=DR.front hdj h;have ho:l[i]? = some l[i]:=Qf hil;unfold wpOp;have hoa:l.toArray[i]? = some l[i]:=by simpa using ho
   simp only[hoa];refine h1.step (hw i _ ho) hsf (Q:=Q) λa' w' E' M' hsf'=>?_
   refine ih _ (l1++l2) _ _ _ E' M' a' w' (by simp[hs]) ?_ (λj=>?_) (by simp at hl ⊢;omega) (λk hk hkl j hj=>?_) h3 hsf'
   ·refine Zp.2 ⟨hpp.1,(Q0.1 hpp.2.1).2,λa ha b hb=>hpp.2.2 a ha b (.tail _ hb)⟩
   ·by_cases hji:i=j
    ·subst hji;have:i∉l1++l2:=λhm'=>by
      rcases Qp.1 hm' with h|h
      ·exact Nat.lt_irrefl _ (hlt i h)
      ·exact Nat.lt_irrefl _ ((Q0.1 hpp.2.1).1 i h)
     simp[this,hs,hil]
    ·rw[getD_set_ne true hji,<-hm j];simp[Ne.symm hji]
   ·by_cases hki:i=k
    ·subst hki;have hji:=hc.down i hil j hj;rw[getD_set_ne true Fj,wV Fj];exact hpr j hj
    ·rw[getD_set_ne true hki]at hkl;have h2:=hcl k hk hkl j hj;by_cases hij:i=j
     ·subst hij;rw[h0]at h2;cases h2
     ·rw[getD_set_ne true hij];exact h2
end Orr
namespace Orr
open Go
variable{P:Program}{n:Nat}
theorem lO:∀{L:Sg} {t:Nat} {x:AV},lk L t=some x->(t,x)∈L
 |
  (s,v)::L,t,x,h=>by
  simp only[lk]at h
  split at h
  ·rename_i e;injection h with h;subst h;rw[Nat.eq_of_beq_eq_true e];exact .head _
  ·exact .tail _ (lO h)
theorem XA{α:Type}:∀{L:List (Nat×α)} {t:Nat} {x:α},Bi L t=some x->(t,x)∈L
 |
  (s,v)::L,t,x,h=>by
  simp only[Bi]at h
  split at h
  ·rename_i e;injection h with h;subst h;rw[Nat.eq_of_beq_eq_true e];exact .head _
  ·exact .tail _ (XA h)
def tsl:List Operand->U8
 | []=>[]
 | .tmp t::r=>t::tsl r
 |_::r=>tsl r
def gsl(arr:Array Oper)(o:Oper):U8:=match o.guard with
 |none=>tsl o.op.operands.toList
 |
  some (j,_)=>match (arr[j]?).bind (·.dst)with
  |some t=>t::tsl o.op.operands.toList
  |none=>tsl o.op.operands.toList
def rsl(L:Sg):U8->Option Sg
 | []=>some []
 |
  t::r=>match rsl L r with
  |
   some q=>match lk L t with
   |some v=>some ((t,v)::q)
   |none=>some q
  |none=>none
theorem aC{L:Sg}:∀{ts:U8} {L0:Sg},rsl L ts=some L0->∀t x,lk L0 t=some x->lk L t=some x
 | [],L0,h,t,x,hx=>by simp only[rsl,Option.some.injEq]at h;subst h;cases hx
 |
  s::r,L0,h,t,x,hx=>by
  simp only[rsl]at h
  split at h
  ·rename_i q hq
   split at h
   ·rename_i v hv;injection h with h;subst h;simp only[lk]at hx
    split at hx
    ·rename_i e;injection hx with hx;subst hx;rw[Nat.eq_of_beq_eq_true e];exact hv
    ·exact aC hq t x hx
   ·injection h with h;subst h;exact aC hq t x hx
  ·cases h
def Q1v:Sg->U8
 | []=>[]
 |(_,v)::l=>v.ids++Q1v l
def fxF:OB->Option OB
 | .row _ T sz ls=>some (.row true T sz ls)
 |b=>some b
theorem Qye{b c:OB}(h:fxF b=some c):ZO b=ZO c/\c.mv=false:=by
 cases b <;> simp only[fxF,Option.some.injEq]at h <;> subst h <;> exact⟨rfl,rfl⟩
def isI(mv:Option Nat)(k:Nat):Bool:=match mv with
 |some i=>Nat.beq i k
 |none=>false
variable{k:Nat}
theorem Qle{mv:Option Nat}(h:isI mv k=true):mv=some k:=by
 cases mv with
 |none=>cases h
 |some i=>rw[Qz h]
def Qlu(
 ids:U8) (mv:Option Nat):Nat->Fe->Option Fe
  |_,[]=>some []
  |
   k,b::l=>match Qlu ids mv (k+1) l with
   |
    some r=>match Nt k ids with
    |
     true=>match isI mv k with
     |true=>some (b::r)
     |
      false=>match fxF b with
      |some c=>some (c::r)
      |none=>none
    |false=>some (.gone::r)
   |none=>none
theorem pV{ids:U8}{mv:Option Nat}:∀{l:Fe} {k:Nat} {r:Fe},Qlu ids mv k l=some r->r.length=l.length/\∀(j:Nat) (b:OB),l[j]? = some b->∃c,r[j]? = some c/\(c.lv=true->ZO b=ZO c/\(c.mv=true->b.mv=true/\mv=some (k+j)))
 | [],k,r,h=>by simp only[Qlu,Option.some.injEq]at h;subst h;exact⟨rfl,λj b hb=>by simp at hb⟩
 |
  b::l,k,r,h=>by
  simp only[Qlu]at h
  split at h
  ·rename_i q hq;obtain⟨h1,h2⟩:=pV hq;have key:∀c,(c.lv=true->ZO b=ZO c/\(c.mv=true->b.mv=true/\mv=some k))->r=c::q->r.length=(b::l).length/\∀(j:Nat) (b':OB),(b::l)[j]? = some b'->∃c,r[j]? = some c/\(c.lv=true->ZO b'=ZO c/\(c.mv=true->b'.mv=true/\mv=some (k+j))):=λc hc e=>by
    subst e;refine⟨by simp[h1],λj b' hb=>?_⟩;cases j with
    |zero=>simp at hb;subst hb;exact⟨c,rfl,hc⟩
    |
     succ j =>
     obtain⟨c',h3,h4⟩:=h2 j b' (by simpa using hb);exact⟨c',by simpa using h3,by rw[show k+(j+1)=k+1+j from Fj];exact h4⟩
   split at h
   ·split at h
    ·rename_i e;injection h with h;exact key b (λ_=>⟨rfl,λh=>⟨h,Qle e⟩⟩) h.symm
    ·split at h
     ·rename_i c hc;injection h with h;obtain⟨e1,e2⟩:=Qye hc;exact key c (λ_=>⟨e1,λh=>by rw[e2]at h;cases h⟩) h.symm
     ·cases h
   ·injection h with h;exact key .gone (λh=>by cases h) h.symm
  ·cases h
def Q4b(L0:Sg):Op->Option Nat
 |
  .call { callee:=.builtin .append,args:=xs,argTypes:=_ }=>match xs.toList with
  |
   x::_=>match evT L0 x with
   |some (.one (.orow i _ _))=>some i
   |_=>none
  | []=>none
 |_=>none
def Q2y(L0:Sg)(mv:Option Nat):Op->U8
 |
  .store _ x _=>match evT L0 x with
  |some (.one (.ow i _))=>[i]
  |some (.one (.oel i _ _ _))=>[i]
  |_=>[]
 |
  .call { callee:=.builtin .copy,args:=xs,argTypes:=_ }=>match xs.toList with
  |
   x::_=>match evT L0 x with
   |some (.one (.orow i _ _))=>[i]
   |_=>[]
  | []=>[]
 |
  _=>match mv with
  |some i=>[i]
  |none=>[]
def Qbq(mv:Option Nat):Sg->Option U8
 | []=>some []
 |
  (t,v)::l=>match Qbq mv l with
  |
   some r=>match mv with
   |
    some i=>match Nt i v.ids with
    |true=>some (t::r)
    |false=>some r
   |none=>some r
  |none=>none
theorem PL{mv:Option Nat}{i:Nat}(hi:mv=some i):∀{L:Sg} {ks:U8},Qbq mv L=some ks->∀t v,(t,v)∈L->i∈v.ids->t∈ks
 | [],_,_,t,v,h,_=>by cases h
 |
  (s,u)::L,ks,h,t,v,hm,hv=>by
  subst hi;simp only[Qbq]at h
  split at h
  ·rename_i r hr
   split at h
   ·injection h with h;subst h;rcases Qk.1 hm with e|hm
    ·injection e with e1 e2;subst e1;exact .head _
    ·exact .tail _ (PL rfl hr t v hm hv)
   ·rename_i hn;injection h with h;subst h;rcases Qk.1 hm with e|hm
    ·injection e with e1 e2;subst e2;rw[Pe.2 hv]at hn;cases hn
    ·exact PL rfl hr t v hm hv
  ·cases h
def rmv(ks:U8):Sg->Option Sg
 | []=>some []
 |
  (t,v)::l=>match rmv ks l with
  |
   some r=>match Nt t ks with
   |true=>some r
   |false=>some ((t,v)::r)
  |none=>none
theorem Qm8{ks:U8}:∀{L L':Sg},rmv ks L=some L'->∀t,lk L' t=if Nt t ks=true then none else lk L t
 | [],L',h,t=>by simp only[rmv,Option.some.injEq]at h;subst h;simp[lk]
 |
  (s,v)::L,L',h,t=>by
  simp only[rmv]at h
  split at h
  ·rename_i r hr;have ih:=Qm8 hr t
   split at h
   ·rename_i hm;injection h with h;subst h;rw[ih];simp only[lk]
    split
    ·rfl
    ·rename_i hn
     split
     ·rename_i e;rw[Nat.eq_of_beq_eq_true e]at hn;exact absurd hm hn
     ·rfl
   ·rename_i hm;injection h with h;subst h;simp only[lk]
    split
    ·rename_i e;rw[Nat.eq_of_beq_eq_true e,hm];rfl
    ·exact ih
  ·cases h
def BX:U8->List (Nat×Option AV)
 | []=>[]
 |t::l=>(t,none)::BX l
theorem Ik{t:Nat}:∀{ks:U8},Bi (BX ks) t=if Nt t ks=true then some none else none
 | []=>by simp[BX,Bi,Nt]
 |
  s::ks=>by
  by_cases e:Nat.beq t s=true
  ·simp only[BX,Bi,Nt,e,if_true]
  ·have e:Nat.beq t s=false:=by cases h:Nat.beq t s <;> first|rfl|exact absurd h e
   simp only[BX,Bi,Nt,e];exact Ik
def dWs(dst:Option Nat)(L1 Lg:Sg)(ks:U8):Option (List (Nat×Option AV)×Sg):=match rmv ks Lg with
 |
  some L'=>match dst with
  |
   some d=>match lk L1 d with
   |some u=>some ((d,some u)::BX ks,(d,u)::L')
   |none=>none
  |none=>some (BX ks,L')
 |none=>none
theorem Qxx{dst:Option Nat}{L1 Lg L':Sg}{ks:U8}{ws:List (Nat×Option AV)}(h:dWs dst L1 Lg ks=some (ws,L')):lk L'=QR (lk Lg) ws/\(∀t x,Bi ws t=some (some x)->lk L1 t=some x)/\(∀t,dst=some t->(Bi ws t).isSome=true)/\∀t∈ks,(Bi ws t).isSome=true:=by
 unfold dWs at h
 split at h
 ·rename_i L2 hr;have h2:=Qm8 hr;have h3:lk L2=QR (lk Lg) (BX ks):=by
   funext t;rw[h2 t];simp only[QR,Ik]
   split <;> rfl
  split at h
  ·rename_i d
   split at h
   ·rename_i u hu;injection h with h;injection h with e1 e2;subst e1;subst e2;refine⟨?_,λt x hx=>?_,λt ht=>?_,λt ht=>?_⟩
    ·funext t;simp only[lk,QR,Bi];cases e:Nat.beq t d
     ·rw[h3];rfl
     ·rfl
    ·simp only[Bi]at hx
     split at hx
     ·rename_i e;injection hx with hx;injection hx with hx;subst hx;rw[Nat.eq_of_beq_eq_true e];exact hu
     ·rw[Ik]at hx
      split at hx <;> cases hx
    ·injection ht with ht;subst ht;simp[Bi]
    ·simp only[Bi]
     split
     ·rfl
     ·rw[Ik,if_pos (Pe.2 ht)];rfl
   ·cases h
  ·injection h with h;injection h with e1 e2;subst e1;subst e2;refine⟨h3,λt x hx=>?_,λt ht=>by(cases ht),λt ht=>?_⟩
   ·rw[Ik]at hx
    split at hx <;> cases hx
   ·rw[Ik,if_pos (Pe.2 ht)];rfl
 ·cases h
def dWb(wr:U8)(mv:Option Nat):Nat->Fe->Fe->Fe->Option (List (Nat×OB)×Fe×Dy)
 |_,[],_,[]=>some ([],[],[])
 |
  k,[],r,b1::l1=>match dWb wr mv (k+1) [] r l1 with
  |some (wb,B',q)=>some ((k,b1)::wb,b1::B',q)
  |none=>none
 |
  k,b::l,b0::l0,b1::l1=>match dWb wr mv (k+1) l l0 l1 with
  |
   some (wb,B',q)=>match b0.lv with
   |
    true=>match Nt k wr with
    |
     true=>match !(flO b b1).mv || b.mv with
     |true=>some ((k,flO b b1)::wb,flO b b1::B',q)
     |false=>none
    |
     false=>match mv with
     |
      some i=>match Nt i b.ids with
      |true=>none
      |false=>some (wb,b::B',(.o b0,.o b1)::q)
     |none=>some (wb,b::B',(.o b0,.o b1)::q)
   |
    false=>match mv with
    |
     some i=>match Nt i b.ids with
     |
      true=>match VW (E9 i) b with
      |some b'=>some ((k,b')::wb,b'::B',q)
      |none=>none
     |false=>some (wb,b::B',q)
    |none=>some (wb,b::B',q)
  |none=>none
 |_,_,_,_=>none
def BOk(mv:Option Nat)(nb n1 j:Nat)(wbj:Option OB)(b b0 b1 b':OB):Prop :=
 b'=wbj.getD b /\
 (∀x,wbj=some x->(b0.lv=true->ZO x=ZO b1/\(x.mv=true->b.mv=true))/\(nb<=j->j<n1/\x=b1)/\(b0.lv=false->j<nb->∃i,mv=some i/\VW (E9 i) b=some x)) /\
 (wbj=none->(b0.lv=true->ZO b1=ZO b0)/\(nb<=j->n1<=j)/\∀i,mv=some i->j<nb->i∉b.ids)
variable{α:Type}
theorem YA{l:List (Nat×α)}{j:Nat}{x:α}(h:j≠k):Bi ((k,x)::l) j=Bi l j:=by
 have e:Nat.beq j k=false:=by cases e:Nat.beq j k <;> first|rfl|exact absurd (Qz e) h
 simp only[Bi,e]
theorem RX{l:List (Nat×α)}{x:α}:Bi ((k,x)::l) k=some x:=by simp[Bi]
theorem dL{wr:U8}{mv:Option Nat}:∀{B B0 B1 B':Fe} {k:Nat} {wb:List (Nat×OB)} {q:Dy},dWb wr mv k B B0 B1=some (wb,B',q)->EqOk q->B0.length=B.length->B'.length=B1.length/\B.length<=B1.length/\(∀j,j<k->Bi wb j=none) /\
 ∀j,BOk mv B.length B1.length j (Bi wb (k+j)) (ob B j) (ob B0 j) (ob B1 j) (ob B' j)
 |
  [],[],[],B',k,wb,q,h,_,_=>by
  simp only[dWb,Option.some.injEq,Prod.mk.injEq]at h;obtain⟨rfl,rfl,rfl⟩:=h;exact⟨rfl,Qm _,λ_ _=>rfl,λj=>⟨rfl,λx hx=>(by cases hx),λ_=>⟨λ_=>rfl,λh=>h,λi _ h=>(by simp at h)⟩⟩⟩
 |
  [],[],b1::l1,B',k,wb,q,h,hq,hl=>by
  simp only[dWb]at h
  split at h
  ·rename_i wb2 B2 q2 h2;simp only[Option.some.injEq,Prod.mk.injEq]at h;obtain⟨rfl,rfl,rfl⟩:=h;obtain⟨i1,i2,i3,i4⟩:=dL h2 hq rfl;refine⟨by simp[i1],Fp,λj hj=>by rw[YA Fj];exact i3 j Fj,λj=>?_⟩;cases j with
   |zero=>exact⟨by simp[RX,ob],λx hx=>(by
    simp only[X5,RX,Option.some.injEq]at hx;subst hx;exact⟨λh=>(by simp[ob,OB.lv]at h),λ_=>⟨Fp,by simp[ob]⟩,λ_ h=>(by simp at h)⟩),λhx=>(by simp[RX]at hx)⟩
   |
    succ j =>
    rw[YA Fj,show k+(j+1)=k+1+j from Fj];obtain⟨j1,j2,j3⟩:=i4 j;refine⟨by simpa[ob]using j1,λx hx=>?_,λhx=>?_⟩
    ·obtain⟨a1,a2,a3⟩:=j2 x hx;exact⟨λh=>(by simp[ob,OB.lv]at h),λh=>by simpa[ob]using a2 (Qg _),λ_ h=>(by simp at h)⟩
    ·obtain⟨a1,a2,a3⟩:=j3 hx;exact⟨λh=>(by simp[ob,OB.lv]at h),λh=>by simpa using a2 (Qg _),λi _ h=>(by simp at h)⟩
  ·cases h
 |
  b::l,b0::l0,b1::l1,B',k,wb,q,h,hq,hl=>by
  simp only[dWb]at h
  split at h
  ·rename_i wb2 B2 q2 h2;have key:∀(x:Option OB) (b':OB),(B'=b'::B2)->(wb=match x with|some y=>(k,y)::wb2|none=>wb2)->EqOk q2->BOk mv (l.length+1) (l1.length+1) 0 x b b0 b1 b'->B'.length=(b1::l1).length/\(b::l).length<=(b1::l1).length/\(∀j,j<k->Bi wb j=none)/\∀j,BOk mv (b::l).length (b1::l1).length j (Bi wb (k+j)) (ob (b::l) j) (ob (b0::l0) j) (ob (b1::l1) j) (ob B' j):=λx b' e1 e2 hq2 h0=>by
    subst e1 e2;obtain⟨i1,i2,i3,i4⟩:=dL h2 hq2 (by simpa using hl);have hx:∀j,Bi (match x with|some y=>(k,y)::wb2|none=>wb2) j=if j=k then x else Bi wb2 j:=λj=>by
     cases x with
     |
      none =>
      show Bi wb2 j=_;by_cases e:j=k
      ·rw[if_pos e,e];exact i3 k Fj
      ·rw[if_neg e]
     |
      some y =>
      show Bi ((k,y)::wb2) j=_;by_cases e:j=k
      ·rw[if_pos e,e];exact RX
      ·rw[if_neg e];exact YA e
    refine⟨by simp[i1],by simpa using i2,λj hj=>by rw[hx,if_neg Fj];exact i3 j Fj,λj=>?_⟩;cases j with
    |zero=>rw[hx,X5,if_pos rfl];simpa[ob]using h0
    |
     succ j =>
     rw[hx,if_neg Fj,show k+(j+1)=k+1+j from Fj];obtain⟨j1,j2,j3⟩:=i4 j;refine⟨by simpa[ob]using j1,λx hx=>?_,λhx=>?_⟩
     ·obtain⟨a1,a2,a3⟩:=j2 x hx;exact⟨λh=>by simpa[ob]using a1 (by simpa[ob]using h),λh=>by simpa[ob]using a2 (by simpa using h),λh h'=>by simpa[ob]using a3 (by simpa[ob]using h) (by simpa using h')⟩
     ·obtain⟨a1,a2,a3⟩:=j3 hx;exact⟨λh=>by simpa[ob]using a1 (by simpa[ob]using h),λh=>by simpa using a2 (by simpa using h),λi hi h=>by simpa[ob]using a3 i hi (by simpa using h)⟩
   have big:∀{p:Prop},l.length+1<=0->p:=λh=>Fj
   split at h
   ·rename_i hlv
    split at h
    ·split at h
     ·rename_i hm;simp only[Option.some.injEq,Prod.mk.injEq]at h;obtain⟨rfl,rfl,rfl⟩:=h;refine key (some (flO b b1)) _ rfl rfl hq ⟨rfl,λx hx=>?_,λhx=>by cases hx⟩;injection hx with hx;subst hx;refine⟨λ_=>⟨lW _ _,λh=>?_⟩,λh=>big h,λh=>(by rw[hlv]at h;cases h)⟩;simpa[h]using hm
     ·cases h
    ·split at h
     ·rename_i i
      split at h
      ·cases h
      ·rename_i hn;simp only[Option.some.injEq,Prod.mk.injEq]at h;obtain⟨rfl,rfl,rfl⟩:=h;have e:=hq.hd;injection e with e;refine key none _ rfl rfl hq.tl ⟨rfl,λx hx=>(by cases hx),λ_=>⟨λ_=>by rw[e],λh=>big h,λi' hi' _ hm=>?_⟩⟩;injection hi' with hi';subst hi'
       rw[Pe.2 hm]at hn;cases hn
     ·simp only[Option.some.injEq,Prod.mk.injEq]at h;obtain⟨rfl,rfl,rfl⟩:=h;have e:=hq.hd;injection e with e;exact key none _ rfl rfl hq.tl ⟨rfl,λx hx=>(by cases hx),λ_=>⟨λ_=>by rw[e],λh=>big h,λi' hi'=>by cases hi'⟩⟩
   ·rename_i hlv;have hlv':¬b0.lv=true:=by rw[hlv];simp
    split at h
    ·rename_i i
     split at h
     ·split at h
      ·rename_i b2 hb2;simp only[Option.some.injEq,Prod.mk.injEq]at h;obtain⟨rfl,rfl,rfl⟩:=h;refine key (some b2) _ rfl rfl hq ⟨rfl,λx hx=>?_,λhx=>by cases hx⟩;injection hx with hx;subst hx;exact⟨λh=>absurd h hlv',λh=>big h,λ_ _=>⟨i,rfl,hb2⟩⟩
      ·cases h
     ·rename_i hn;simp only[Option.some.injEq,Prod.mk.injEq]at h;obtain⟨rfl,rfl,rfl⟩:=h;refine key none _ rfl rfl hq ⟨rfl,λx hx=>(by cases hx),λ_=>⟨λh=>absurd h hlv',λh=>big h,λi' hi' _ hm=>?_⟩⟩;injection hi' with hi';subst hi'
      rw[Pe.2 hm]at hn;cases hn
    ·simp only[Option.some.injEq,Prod.mk.injEq]at h;obtain⟨rfl,rfl,rfl⟩:=h;exact key none _ rfl rfl hq ⟨rfl,λx hx=>(by cases hx),λ_=>⟨λh=>absurd h hlv',λh=>big h,λi' hi'=>by cases hi'⟩⟩
  ·cases h
 | [],_::_,_,_,_,_,_,_,_,hl=>by simp at hl
 |_::_,[],_,_,_,_,_,_,_,hl=>by simp at hl
 |_::_,_::_,[],_,_,_,_,h,_,_=>by simp[dWb]at h
end Orr
namespace Orr
open Go
variable{P:Program}{n:Nat}
def YM:Op->Option (Callee×List Operand)
 | .call { callee:=.value x,args:=xs,argTypes:=_ }=>some (.value x,xs.toList)
 | .call { callee:=.invoke r m,args:=xs,argTypes:=_ }=>some (.invoke r m,xs.toList)
 |_=>none
theorem jF{op:Op}{x:Callee}{xs:List Operand}(h:YM op=some (x,xs)):∃as0 ats,op=.call { callee:=x,args:=as0,argTypes:=ats }/\xs=Array.toList as0:=by
 unfold YM at h
 split at h
 ·injection h with h;injection h with e1 e2;subst e1;subst e2;exact⟨_,_,rfl,rfl⟩
 ·injection h with h;injection h with e1 e2;subst e1;subst e2;exact⟨_,_,rfl,rfl⟩
 ·cases h
def Tk:List Prop->List Prop->List Prop
 | [],l=>l
 |x::r,l=>x::Tk r l
theorem KJ:∀{a b:List Prop},Gd (Tk a b)↔Gd a/\Gd b
 | [],_=>by simp[Tk,Gd]
 |x::r,b=>by simp only[Tk];rw[Ea,Ea,KJ,and_assoc]
def st1(T:TT P)(n:Nat)(arr:Array Oper)(L:Sg)(B:Fe)(h:List (H P))(o:Oper):St P:=match YM o.op with
 |
  some (x,xs)=>match gdE arr L o with
  |
   some true=>match o.dst with
   |
    some d=>match Nat.blt d n with
    |
     true=>match Qan T L h x xs with
     |some (g,ys,q0)=>Qao q0 L B h d g ys
     |none=>none
    |false=>none
   |none=>none
  |
   some false=>match Qma n L o.dst with
   |some L'=>some (L',B,h,[],[])
   |none=>none
  |none=>none
 |none=>stE T n arr L B h o
variable{T:TT P}{arr:Array Oper}{o:Oper}
theorem Qzu{N:Kp}{L L':Sg}{B B':Fe}{h h':List (H P)}{q:Dy}{ob:List Prop}(hs:st1 T n arr L B h o=some (L',B',h',q,ob))(hq:EqOk q)(hob:Gd ob)(k:N L' B'):W1 P arr n o N L B:=by
 unfold st1 at hs
 split at hs
 ·rename_i x xs hcall;obtain⟨as0,ats,ho,rfl⟩:=jF hcall
  split at hs
  ·rename_i hg
   split at hs
   ·rename_i d hd
    split at hs
    ·rename_i hdn
     split at hs
     ·rename_i g ys q0 ha;exact W1.on hg (Qap (o:=ung o) ho rfl hd hdn ha hs hq k)
     ·cases hs
    ·cases hs
   ·cases hs
  ·rename_i hg
   split at hs
   ·rename_i L2 hL;obtain⟨rfl,rfl,rfl,rfl,rfl⟩:=Bz hs;exact W1.off hg hL k
   ·cases hs
  ·cases hs
 ·exact Qzv hs hq hob k
def Qs9:Nat->Option Nat->Sg->Fe->List (H P)->Dy->Option (Sg×Fe×List (H P)×Dy)
 | 0,_,L,B,h,q=>some (L,B,h,q)
 |
  f+1,d,L,B,h,q=>match d with
  |none=>some (L,B,h,q)
  |
   some t=>match aK t L B h with
   |some (L',B',h',q')=>Qs9 f d L' B' h' (JM q' q)
   |none=>some (L,B,h,q)
theorem Qco:∀{f:Nat} {d:Option Nat} {L L':Sg} {B B':Fe} {h h':List (H P)} {q q':Dy},Qs9 f d L B h q=some (L',B',h',q')->EqOk q'->EqOk q/\Sub n L B L' B'
 | 0,_,_,_,_,_,_,_,_,_,hp,hq=>by obtain⟨rfl,rfl,rfl,rfl⟩:=Hz hp;exact⟨hq,Sub.refl⟩
 |
  f+1,d,_,_,_,_,_,_,_,_,hp,hq=>by
  simp only[Qs9]at hp
  split at hp
  ·obtain⟨rfl,rfl,rfl,rfl⟩:=Hz hp;exact⟨hq,Sub.refl⟩
  ·split at hp
   ·rename_i hpe;obtain⟨h1,h2⟩:=Qco hp hq;rw[No]at h1;obtain⟨h3,h4⟩:=h1.app;exact⟨h4,(OM hpe h3).trans h2⟩
   ·obtain⟨rfl,rfl,rfl,rfl⟩:=Hz hp;exact⟨hq,Sub.refl⟩
theorem W1.post{L L1 L2:Sg}{B B1 B2:Fe}(h:W1 P arr n o (λL B=>L=L1/\B=B1) L B)(hs:Sub n L1 B1 L2 B2):W1 P arr n o (λL B=>L=L2/\B=B2) L B:=λF E M a w K Q hsa hK =>
 h F E M a w K Q hsa λa' w' L' B' E' M' h1 ⟨e1,e2⟩=>by
  subst e1;subst e2;obtain⟨E2,M2,h2⟩:=hs F E' M' a' w' h1;exact hK _ _ _ _ _ _ h2 ⟨rfl,rfl⟩
def isS{α:Type}:Option α->Bool
 |some _=>true
 |none=>false
def mvI(mv:Option Nat)(B0:Fe)(wb:List (Nat×OB)):Bool:=match mv with
 |none=>true
 |
  some i=>match On B0 i with
  |some b=>b.lv && isS (Bi wb i)
  |none=>false
def wr2(L0:Sg)(mv:Option Nat)(op:Op)(h:List (H P)):U8:=match YM op with
 |
  some _=>match h with
  | .c is _::_=>is
  |_=>[]
 |
  none=>match mv with
  |some i=>i::Q2y L0 mv op
  |none=>Q2y L0 mv op
def rdJ(B:Fe):U8->U8
 | []=>[]
 |
  i::l=>match On B i with
  |some b=>i::(b.ids++rdJ B l)
  |none=>i::rdJ B l
def Ql1(B:Fe):U8->Option Nat
 | []=>none
 |
  i::l=>match On B i with
  |some (.row false _ _ _)=>some i
  |_=>Ql1 B l
def Q2k(B:Fe)(L0:Sg)(y:Operand):Option Nat:=match evT L0 y with
 |
  some (.one (.orow i _ _))=>match On B i with
  |some (.row false _ _ _)=>some i
  |_=>none
 |_=>none
def mvJ(B:Fe)(h:List (H P))(L0:Sg)(op:Op):Option Nat:=match Q4b L0 op with
 |some i=>some i
 |
  none=>match YM op with
  |
   some _=>match h with
   | .c is _::_=>Ql1 B is
   |_=>none
  |
   none=>match op with
   |
    .store _ x y=>match Q2k B L0 y with
    |some i=>some i
    |
     none=>match evT L0 x with
     |
      some (.one (.ow i _))=>match On B i with
      |some b=>Ql1 B b.ids
      |none=>none
     |_=>none
   |_=>none
def rdI(L0:Sg):Op->U8
 | .move _=>[]
 | .assign _=>[]
 | .nilCheck .. => []
 | .fieldAddr .. => []
 | .makeFunc .. => []
 |_=>Q1v L0
def rdK(B:Fe)(L0:Sg)(op:Op):U8:=match YM op with
 |some _=>rdJ B (rdJ B (rdI L0 op))
 |
  none=>match op with
  | .store .. => rdJ B (rdI L0 op)
  |_=>rdI L0 op
def roH(op:Op)(h:List (H P)):Option (List (H P)):=match YM op with
 |
  some _=>match h with
  | .lo::r=>some r
  |_=>none
 |none=>none
def Q2d(o:Option (List (H P)))(h:List (H P)):List (H P):=match o with
 |some r=>r
 |none=>h
def wr3(L0:Sg)(mv:Option Nat)(op:Op)(h:List (H P)):U8:=match roH op h with
 |some _=>[]
 |none=>wr2 L0 mv op h
def ds(
 T:TT P) (
  n:Nat) (arr:Array Oper) (Lg:Sg) (Bg:Fe) (h:List (H P)) (o:Oper) (mv:Option Nat) (L0:Sg):Option (Rc×Sg×Fe×List (H P)×Dy×List Prop):=match Qlu (rdK Bg L0 o.op) mv 0 Bg,lenB Bg with
  |
   some B0,some nb=>match st1 T n arr L0 B0 (Q2d (roH o.op h) h) o with
   |
    some (L1,B1,h1,q1,ob1)=>match Qs9 3 o.dst L1 B1 h1 q1 with
    |
     some (L2,B2,h2,q2)=>match Qbq mv Lg with
     |
      some ks=>match dWs o.dst L2 Lg ks with
      |
       some (ws,Lg')=>match dWb (wr3 L0 mv o.op h) mv 0 Bg B0 B2 with
       |
        some (wb,Bg',q3)=>match (Ax (λp=>Ax (Nat.blt · nb) p.2.ids) L0 && Ax (λb=>Ax (Nat.blt · nb) b.ids) B0 && mvI mv B0 wb)with
        |true=>some (⟨L0,B0,L2,B2,ws,wb,mv⟩,Lg',Bg',h2,JM q3 q2,ob1)
        |false=>none
       |none=>none
      |none=>none
     |none=>none
    |none=>none
   |none=>none
  |_,_=>none
def Qlw{B:Fe}{j:Nat}(h:¬ob B j=.gone):∃b,B[j]? = some b/\ob B j=b:=by
 unfold ob at h ⊢;cases hb:B[j]? with
 |none=>rw[hb]at h;exact absurd rfl h
 |some b=>exact⟨b,rfl,rfl⟩
theorem Q1s{Lg Lg' L0:Sg}{Bg Bg':Fe}{h h':List (H P)}{q:Dy}{obs:List Prop}{mv:Option Nat}{r:Rc}(hL:rsl Lg (gsl arr o)=some L0)(hd:ds T n arr Lg Bg h o mv L0=some (r,Lg',Bg',h',q,obs))(hq:EqOk q)(hob:Gd obs):
 Wf P arr n o r/\Loc r (lk Lg) (ob Bg) (nw Bg)/\lk Lg'=QR (lk Lg) r.ws/\ob Bg'=QR (ob Bg) r.wb/\nw Bg'=λj=>nw Bg j/\¬r.nw_ j:=by
 unfold ds at hd
 split at hd
 ·rename_i B0 nb hm hnb
  split at hd
  ·rename_i L1 B1 h1 q1 ob1 hs
   split at hd
   ·rename_i L2 B2 h2 q2 hp
    split at hd
    ·rename_i ks hk
     split at hd
     ·rename_i ws Lg2 hws
      split at hd
      ·rename_i wb Bg2 q3 hwb
       split at hd
       ·rename_i hc;injection hd with hd;injection hd with e1 hd;injection hd with e2 hd;injection hd with e3 hd;injection hd with e4 hd;injection hd with e5 e6;subst e1;subst e2;subst e3;subst e5;subst e6;rw[No]at hq;obtain⟨hq3,hq2⟩:=hq.app;obtain⟨hq1,hsub⟩:=Qco (n:=n) hp hq2;obtain rfl:=Bp hnb;obtain⟨m1,m2⟩:=pV hm;obtain⟨b1,b2,b3,b4⟩:=dL hwb hq3 m1;obtain⟨w1,w2,w3,w4⟩:=Qxx hws;simp only[Zn]at hc;obtain⟨⟨c1,c2⟩,c3⟩:=hc;have c1:=Py c1;have c2:=Py c2;have hmask:∀j,(ob B0 j).lv=true->j<Bg.length/\ZO (ob Bg j)=ZO (ob B0 j)/\((ob B0 j).mv=true->(ob Bg j).mv=true/\mv=some j):=λj hj=>by
         have hjl:j<Bg.length:=by
          apply Classical.byContradiction;intro hn;rw[Tw Fj]at hj;cases hj
         obtain⟨c,e1,e2⟩:=m2 j _ (Qf hjl);rw[Su e1]at hj ⊢;rw[Su (Qf hjl)];have:=e2 hj;rw[Z9]at this;exact⟨hjl,this⟩
        have b4':∀j,BOk mv Bg.length B2.length j (Bi wb j) (ob Bg j) (ob B0 j) (ob B2 j) (ob Bg2 j):=λj=>by have:=b4 j;rwa[Z9]at this
        refine⟨⟨W1.post (Qzu hs hq1 hob ⟨rfl,rfl⟩) hsub,λt x hx i hi=>?_,λj i hi=>?_,λj hj=>?_,λj hj=>?_,w2,w3,λj b hb ha=>?_,λj ha hn=>?_⟩,⟨aC hL,λj hj=>?_,λj h1 h2=>?_,λi hi=>⟨λt x hx hm=>?_,λj hm=>?_⟩,λj b hb ha=>?_⟩,w1,?_,?_⟩
        ·have:=Py (c1 _ (lO hx)) i hi;rw[Je]at this;show i<B0.length;omega
        ·have hne:¬ob B0 j=.gone:=λe=>by rw[show ob B0 j=.gone from e]at hi;simp[OB.ids]at hi
         obtain⟨b,e1,e2⟩:=Qlw hne;have hi:i∈(ob B0 j).ids:=hi;rw[e2]at hi;have:=Py (c2 b (Qa e1)) i hi;rw[Je]at this;show i<B0.length;omega
        ·have hlv:(ob B0 j).lv=true:=by
          have hj:(ob B0 j).mv=true:=hj;cases hb:ob B0 j <;> rw[hb]at hj <;> first|rfl|cases hj
         exact((hmask j hlv).2.2 hj).2
        ·have hj:mv=some j:=hj;rw[hj]at c3;simp only[mvI]at c3
         split at c3
         ·rename_i b hb;simp only[Zn]at c3;refine⟨by rw[show ob B0 j=b from Su (Mh ▸ hb)];exact c3.1,?_⟩;have:=c3.2;show(Bi wb j).isSome=true;cases e:Bi wb j <;> rw[e]at this <;> first|rfl|cases this
         ·cases c3
        ·obtain⟨_,h3,_⟩:=b4' j;obtain⟨a1,a2,_⟩:=h3 b hb;rcases ha with ha|ha
         ·exact(a1 ha).1
         ·obtain⟨_,e⟩:=a2 (by have:B0.length<=j:=ha.1;omega);exact congrArg ZO e
        ·obtain⟨_,_,h3⟩:=b4' j;obtain⟨a1,a2,_⟩:=h3 hn;rcases ha with ha|ha
         ·exact⟨a1 ha,ha⟩
         ·have:=a2 (by have:B0.length<=j:=ha.1;omega);have h5:j<B2.length:=ha.2;omega
        ·obtain⟨e1,e2,e3⟩:=hmask j hj;exact⟨e2,λh=>(e3 h).1,λb hb hbm=>(((b4' j).2.1 b hb).1 hj).2 hbm⟩
        ·show Bg.length<=j;have:B0.length<=j:=h1;omega
        ·exact w4 t (PL hi hk t x (lO hx) hm)
        ·show(Bi wb j).isSome=true;cases e:Bi wb j with
         |some _=>rfl
         |
          none =>
          have hjl:j<Bg.length:=by
           apply Classical.byContradiction;intro hn;rw[Tw Fj]at hm;simp[OB.ids]at hm
          exact absurd hm (((b4' j).2.2 e).2.2 i hi hjl)
        ·obtain⟨_,h3,_⟩:=b4' j;obtain⟨_,a2,a3⟩:=h3 b hb;have hlv:(ob B0 j).lv=false:=by
          cases e:(ob B0 j).lv with
          |false=>rfl
          |true=>exact absurd (.inl e) ha
         refine a3 hlv ?_;apply Classical.byContradiction;intro hn;have:=(a2 Fj).1;exact ha (.inr ⟨by show B0.length<=j;omega,this⟩)
        ·funext j;rw[(b4' j).1];simp only[QR];cases Bi wb j <;> rfl
        ·funext j;show(Bg2.length<=j)=(Bg.length<=j/\¬(B0.length<=j/\j<B2.length));refine propext ⟨λh=>⟨Fj,Fj⟩,λ⟨h1,h2⟩=>Fj⟩
       ·cases hd
      ·cases hd
     ·cases hd
    ·cases hd
   ·cases hd
  ·cases hd
 ·cases hd
def dr(
 T:TT P) (n:Nat) (arr:Array Oper):List Oper->Sg->Fe->List (H P)->Option (List (Rc×Sg×Fe)×Sg×Fe×List (H P)×Dy×List Prop)
  | [],L,B,h=>some ([],L,B,h,[],[])
  |
   o::l,L,B,h=>match rsl L (gsl arr o)with
   |
    some L0=>match (match mvJ B h L0 o.op with
     |some i=>ds T n arr L B h o (some i) L0
     |none=>ds T n arr L B h o none L0)with
    |
     some (r,L',B',h',q,ob)=>match dr T n arr l L' B' h' with
     |some (rs,L2,B2,h2,q2,ob2)=>some ((r,L,B)::rs,L2,B2,h2,JM q q2,Tk ob ob2)
     |none=>none
    |none=>none
   |none=>none
def ovC(mvs:U8)(x:Rc×Sg×Fe):Bool :=
 Ax (λp=>match lk x.2.1 p.1 with
  |some y=>Ax (λi => !Nt i mvs || isI x.1.mv i) y.ids
  |none=>true) x.1.ws &&
 Ax (λp=>match On x.2.2 p.1 with
  |some b=>Ax (λi => !Nt i mvs || isI x.1.mv i) b.ids
  |none=>true) x.1.wb
def Qrv(p x:Rc):Bool :=
 Ax (λt => !isS (lk x.L0 t.1) && !isS (Bi x.ws t.1)) p.ws &&
 Ax (λj=>(match On x.B0 j.1 with
  |some b => !b.lv
  |none=>true) && !isS (Bi x.wb j.1)) p.wb &&
 (match p.mv with
  |none=>true
  |some i=>Ax (λt=>match t.2 with
   |some y => !Nt i y.ids
   |none=>true) x.ws && Ax (λj => !Nt i j.2.ids) x.wb) &&
 (Nat.ble p.B1.length x.B0.length || Nat.ble x.B1.length p.B0.length)
def BY(o:Oper):U8:=o.after.toList.filterMap λe=>if Region.binds .any e then some e.on else none
def zJ:List U8->Nat->U8
 | [],_=>[]
 |x::_,0=>x
 |_::l,i+1=>zJ l i
def uni:U8->U8->Option U8
 | [],l=>some l
 |
  x::r,l=>match uni r l with
  |
   some q=>match Nt x q with
   |true=>some q
   |false=>some (x::q)
  |none=>none
def Q2x(cs:List U8):U8->U8->Option U8
 | [],l=>some l
 |
  j::r,l=>match uni (j::zJ cs j) l with
  |some q=>Q2x cs r q
  |none=>none
def clo:List Oper->List U8->Option (List U8)
 | [],cs=>some cs
 |
  o::l,cs=>match Q2x cs (BY o) []with
  |
   some u=>match snoc cs u with
   |some c=>clo l c
   |none=>none
  |none=>none
where snoc:List U8->U8->Option (List U8)
 | [],u=>some [u]
 |
  x::l,u=>match snoc l u with
  |some r=>some (x::r)
  |none=>none
def Qrj(cs:List U8):Nat->List Oper->Bool
 |_,[]=>true
 |
  i,o::l=>match Ax (Nat.blt · i) (BY o) && Ax (λp=>Nt p (BY o) || !Ax (λj => !Nt p (zJ cs j)) (BY o)) (zJ cs i)with
  |true=>Qrj cs (i+1) l
  |false=>false
def djC(mvs:U8)(p x:Rc):Bool:=Qrv p x && Qrv x p
def pB(cs:List U8)(mvs:U8)(x:Rc)(i:Nat):Nat->List (Rc×Sg×Fe)->Bool
 |
  k,p::l=>match Nat.blt k i with
  |
   true=>match Nt k (zJ cs i) || djC mvs p.1 x with
   |true=>pB cs mvs x i (k+1) l
   |false=>false
  |false=>true
 |_,[]=>true
def GW(cs:List U8)(mvs:U8)(all:List (Rc×Sg×Fe)):Nat->List (Rc×Sg×Fe)->Bool
 |_,[]=>true
 |
  i,x::l=>match pB cs mvs x.1 i 0 all && ovC mvs x && x.1.mv.all (Nt · mvs)with
  |true=>GW cs mvs all (i+1) l
  |false=>false
def jN:List (Rc×Sg×Fe)->U8
 | []=>[]
 |
  x::l=>match x.1.mv with
  |some i=>i::jN l
  |none=>jN l
def drE(T:TT P)(n:Nat)(l:List Oper)(L:Sg)(B:Fe)(h:List (H P)):St P:=match dr T n l.toArray l L B h with
 |
  some (rs,L',B',h',q,ob)=>match clo l []with
  |
   some cs=>match Qrj cs 0 l && GW cs (jN rs) rs 0 rs with
   |true=>some (L',B',h',q,ob)
   |false=>none
  |none=>none
 |none=>none
end Orr
namespace Orr
open Go
variable{P:Program}{n:Nat}{L L':Sg}{B B':Fe}{Q:Exit->Sg->Fe->Prop}
class Mo (P:Program):Prop where
 mo:P.follows .mixedOrders=true
theorem Q2a{mvs:U8}{x:Rc×Sg×Fe}(h:ovC mvs x=true):Ov mvs x.1 (lk x.2.1) (ob x.2.2):=by
 unfold ovC at h;rw[Zn]at h;obtain⟨h1,h2⟩:=h;have dec:∀(ids:U8),Ax (λi => !Nt i mvs || isI x.1.mv i) ids=true->∀i∈ids,i∈mvs->x.1.mv=some i:=λids ha i hi hm=>by
  have:=Py ha i hi;rw[Pe.2 hm]at this;exact Qle (by simpa using this)
 refine⟨λt y ht hy i hi hm=>?_,λj hj i hi hm=>?_⟩
 ·cases e:Bi x.1.ws t with
  |none=>rw[e]at ht;cases ht
  |
   some v =>
   have:=Py h1 _ (XA e);simp only[hy]at this;exact dec _ this i hi hm
 ·cases e:Bi x.1.wb j with
  |none=>rw[e]at hj;cases hj
  |
   some v =>
   have:=Py h2 _ (XA e);have hne:¬ob x.2.2 j=.gone:=λe=>by rw[e]at hi;simp[OB.ids]at hi
   obtain⟨b,e1,e2⟩:=Qlw hne;rw[e2]at hi;simp only[Mh,e1]at this;exact dec _ this i hi hm
theorem Qvf{T:TT P}{arr:Array Oper}:∀{l:List Oper} {Lg L':Sg} {Bg B':Fe} {h h':List (H P)} {q:Dy} {obs:List Prop} {rs:List (Rc×Sg×Fe)},dr T n arr l Lg Bg h=some (rs,L',B',h',q,obs)->EqOk q->Gd obs ->
 rs.length=l.length/\(∀(i:Nat) (o:Oper) (x:Rc×Sg×Fe),l[i]? = some o->rs[i]? = some x->Wf P arr n o x.1)/\∀(R:Nat->Rc) (mvs:U8) (k:Nat),(∀(i:Nat) (x:Rc×Sg×Fe),rs[i]? = some x->R (k+i)=x.1)->(∀x∈rs,ovC mvs x=true) ->
  DR R mvs (λsl bl U=>sl=lk L'/\bl=ob B'/\U=nw B') (List.range' k l.length) (lk Lg) (ob Bg) (nw Bg)
 |
  [],Lg,L',Bg,B',h,h',q,obs,rs,hd,_,_=>by
  simp only[dr,Option.some.injEq,Prod.mk.injEq]at hd;obtain⟨rfl,rfl,rfl,_⟩:=hd;exact⟨rfl,λi o x h=>by simp at h,λR mvs k _ _=>⟨rfl,rfl,rfl⟩⟩
 |
  o::l,Lg,L',Bg,B',h,h',q,obs,rs,hd,hq,hob=>by
  simp only[dr]at hd
  split at hd
  ·rename_i L0 hL0
   split at hd
   ·rename_i r L1 B1 h1 q1 ob1 hds
    split at hd
    ·rename_i rs2 L2 B2 h2 q2 ob2 hdr;simp only[Option.some.injEq,Prod.mk.injEq]at hd;obtain⟨rfl,rfl,rfl,_,rfl,rfl⟩:=hd;rw[No]at hq;obtain⟨hq1,hq2⟩:=hq.app;obtain⟨ho1,ho2⟩:=KJ.1 hob;have hone:Wf P arr n o r/\Loc r (lk Lg) (ob Bg) (nw Bg)/\lk L1=QR (lk Lg) r.ws/\ob B1=QR (ob Bg) r.wb/\nw B1=λj=>nw Bg j/\¬r.nw_ j:=by
      split at hds <;> exact Q1s hL0 hds hq1 ho1
     obtain⟨w1,w2,w3,w4,w5⟩:=hone;obtain⟨i1,i2,i3⟩:=Qvf hdr hq2 ho2;refine⟨by simp[i1],λi o' x hi hx=>?_,λR mvs k hR hov=>?_⟩
     ·cases i with
      |zero=>simp at hi hx;subst hi;subst hx;exact w1
      |succ i=>exact i2 i o' x (by simpa using hi) (by simpa using hx)
     ·have e0:R k=r:=by simpa using hR 0 (r,Lg,Bg) Fp
      rw[show List.range' k (o::l).length=k::List.range' (k+1) l.length from by simp[List.range'_succ]];refine⟨by rw[e0];exact w2,by rw[e0];exact Q2a (hov _ (.head _)),?_⟩;have:=i3 R mvs (k+1) (λi x hx=>by
       have:=hR (i+1) x (by simpa using hx);rwa[show k+(i+1)=k+1+i from Fj]at this) λx hx=>hov x (.tail _ hx)
      rw[w3,w4,w5]at this;rw[e0];exact this
    ·cases hd
   ·cases hd
  ·cases hd
theorem wU{α:Type}{o:Option α}(h:(!isS o)=true):o=none:=by cases o <;> first|rfl|cases h
theorem Qjy{p x:Rc}(h:Qrv p x=true):Dj1 p x:=by
 unfold Qrv at h;simp only[Zn]at h;obtain⟨⟨⟨h1,h2⟩,h3⟩,h4⟩:=h;have k1:∀t,(Bi p.ws t).isSome=true->lk x.L0 t=none/\Bi x.ws t=none:=λt ht=>by
  cases e:Bi p.ws t with
  |none=>rw[e]at ht;cases ht
  |
   some v =>
   have:=Py h1 _ (XA e);rw[Zn]at this;exact⟨wU this.1,wU this.2⟩
 refine⟨λt ht=>(k1 t ht).1,λt ht=>(k1 t ht).2,λj hj=>?_,λi hi=>?_,λj h5 h6=>?_⟩
 ·cases e:Bi p.wb j with
  |none=>rw[e]at hj;cases hj
  |
   some v =>
   have:=Py h2 _ (XA e);rw[Zn]at this;refine⟨?_,wU this.2⟩;have h7:=this.1;rw[Mh]at h7;unfold ob;cases e:x.B0[j]? with
   |none=>rfl
   |some b=>rw[e]at h7;simpa using h7
 ·rw[hi]at h3;simp only[Zn]at h3;refine⟨λt y hy hm=>?_,λj b hb hm=>?_⟩
  ·have:=Py h3.1 _ (XA hy);simp only[Pe.2 hm]at this;cases this
  ·have:=Py h3.2 _ (XA hb);simp only[Pe.2 hm]at this;cases this
 ·rcases Yw .. ▸ h4 with h|h
  ·have:=Zi h;have a1:=h5.2;have a2:=h6.1;omega
  ·have:=Zi h;have a1:=h5.1;have a2:=h6.2;omega
theorem hQ{α:Type}{f:α->Bool}:∀{l:List α},Ax f l=false->∃x∈l,f x=false
 | [],h=>by cases h
 |
  y::l,h=>by
  simp only[Ax]at h
  split at h
  ·obtain⟨x,h1,h2⟩:=hQ h;exact⟨x,.tail _ h1,h2⟩
  ·rename_i e;exact⟨y,.head _,e⟩
theorem Qas{cs:List U8}:∀{l:List Oper} {k:Nat},Qrj cs k l=true->∀i o,l[i]? = some o->(∀j∈BY o,j<k+i)/\∀p,Nt p (zJ cs (k+i))=true->p∈BY o\/∃j∈BY o,Nt p (zJ cs j)=true
 | [],k,_,i,o,h=>by simp at h
 |
  o::l,k,h,i,o',hi=>by
  simp only[Qrj]at h
  split at h
  ·rename_i hc;cases i with
   |
    zero =>
    simp at hi;subst hi;rw[Zn]at hc;refine⟨λj hj=>by have:=Py hc.1 j hj;rw[Je]at this;omega,λp hp=>?_⟩;have:=Py hc.2 p (Pe.1 hp);rw[Yw]at this;rcases this with h|h
    ·exact .inl (Pe.1 h)
    ·obtain⟨x,h1,h2⟩:=hQ (by simpa using h);exact .inr ⟨x,h1,by simpa using h2⟩
   |
    succ i =>
    rw[show k+(i+1)=k+1+i from Fj];exact Qas h i o' (by simpa using hi)
  ·cases h
theorem pC{cs:List U8}{mvs:U8}{x:Rc}{i:Nat}:∀{ps:List (Rc×Sg×Fe)} {k:Nat},pB cs mvs x i k ps=true->∀(m:Nat) (p:Rc×Sg×Fe),ps[m]? = some p->k+m<i->Nt (k+m) (zJ cs i)=true\/djC mvs p.1 x=true
 | [],_,_,m,p,h,_=>by simp at h
 |
  p::ps,k,h,m,p',hm,hlt=>by
  simp only[pB]at h
  split at h
  ·split at h
   ·rename_i hc;cases m with
    |zero=>simp at hm;subst hm;exact Yw .. ▸ hc
    |
     succ m =>
     rw[show k+(m+1)=k+1+m from Fj];exact pC h m p' (by simpa using hm) Fj
   ·cases h
  ·rename_i hb;have:¬Nat.blt k i=true:=by rw[hb];simp
   rw[Je]at this;omega
theorem NY{cs:List U8}{mvs:U8}{all:List (Rc×Sg×Fe)}:∀{ps:List (Rc×Sg×Fe)} {k:Nat},GW cs mvs all k ps=true->∀(i:Nat) (x:Rc×Sg×Fe),ps[i]? = some x->pB cs mvs x.1 (k+i) 0 all=true/\ovC mvs x=true/\x.1.mv.all (Nt · mvs)=true
 | [],_,_,i,x,h=>by simp at h
 |
  p::ps,k,h,i,x,hi=>by
  simp only[GW]at h
  split at h
  ·rename_i hc;cases i with
   |zero=>simp at hi;subst hi;simp only[Zn]at hc;exact⟨hc.1.1,hc.1.2,hc.2⟩
   |
    succ i =>
    rw[show k+(i+1)=k+1+i from Fj];exact NY h i x (by simpa using hi)
  ·cases h
variable{i:Nat}{o:Oper}
theorem mV{l:List Oper}(h:l[i]? = some o):UJ l i=BY o:=by simp only[UJ,h];rfl
theorem IW(w:World):Grow w { w with drawn:=w.drawn+1 }:=⟨Qm _,λ_ _=>rfl,rfl,rfl⟩
variable{arr:Array Oper}
theorem Qpe[Mo P]{T:TT P}{id:Nat}{hs hs':List (H P)}{q:Dy}{obs:List Prop}{r:List It}(h:drE T n arr.toList L B hs=some (L',B',hs',q,obs))(hq:EqOk q)(hob:Gd obs)(k:AK P n Q r L' B'):AK P n Q (.code (.region id arr true)::r) L B:=by
 unfold drE at h
 split at h
 ·rename_i rs L2 B2 h2 q2 ob2 hdr
  split at h
  ·rename_i cs _
   split at h
   ·rename_i hc;simp only[Option.some.injEq,Prod.mk.injEq]at h;obtain⟨rfl,rfl,_,rfl,rfl⟩:=h;rw[Zn]at hc;obtain⟨hcl,hap⟩:=hc;have hcl:=Qas hcl;have hap:=NY hap;obtain⟨hlen,hwf,hDR⟩:=Qvf hdr hq hob
    let R:Nat->Rc:=λi=>match rs[i]? with
     |some x=>x.1
     |none=>⟨[],[],[],[],[],[],none⟩
    have hR:∀(i:Nat) (x:Rc×Sg×Fe),rs[i]? = some x->R i=x.1:=λi x hx=>by simp only[R,hx]
    have hget:∀i,i<arr.toList.length->∃x,rs[i]? = some x:=λi hi=>⟨rs[i]' Fj,Qf _⟩
    have hDR:=hDR R (jN rs) 0 (λi x hx=>by rw[Z9];exact hR i x hx) λx hx=>by
     obtain⟨i,hi⟩:=Zx hx;exact(hap i x hi).2.1
    have hda:arr.toList.toArray=arr:=Fp;rw[hda]at hwf;have hwf':∀i o,arr.toList[i]? = some o->Wf P arr.toList.toArray n o (R i):=λi o ho=>by
     obtain⟨x,hx⟩:=hget i (Qd.1 ho).1;rw[hR i x hx,hda];exact hwf i o x ho hx
    have hCl:Cl arr.toList λi p=>Nt p (zJ cs i):=⟨λi hi j hj=>by
     have ho:=Qf hi;rw[mV ho]at hj;have:=(hcl i _ ho).1 j hj;omega,λi hi p hp=>by
     have ho:=Qf hi;rw[mV ho];have:=(hcl i _ ho).2 p (by rw[Z9];exact hp);exact this⟩
    have hdj:∀i,i<arr.toList.length->∀p,p<i->(Nt p (zJ cs i))=false->Dj (jN rs) (R p) (R i):=λi hi p hp hn=>by
     obtain⟨x,hx⟩:=hget i hi;obtain⟨y,hy⟩:=hget p Fj;obtain⟨a1,a2,a3⟩:=hap i x hx;rw[Z9]at a1;rcases pC a1 p y hy Fj with h|h
     ·rw[Z9,hn]at h;cases h
     ·unfold djC at h;rw[Zn]at h;rw[hR i x hx,hR p y hy];refine⟨Qjy h.1,Qjy h.2,?_,λj hj=>?_,λj hj=>?_⟩
      ·cases e:x.1.mv with
       |none=>rfl
       |
        some j =>
        rw[e]at a3;have:Nt j (jN rs)=true:=a3;simpa using Pe.1 this
      ·have:=hwf' i _ (Qf hi);rw[hR i x hx]at this;exact(this.mv1 j hj).1
      ·have:=hwf' p _ (Qf Fj);rw[hR p y hy]at this;exact(this.mv1 j hj).2
    intro F E M a w hs;refine wp_region_any Mo.mo ?_;have:=Qjz (Q:=Q12 F n (mkQ Q (BO P n Q r))) (F:=F) hCl hwf' hdj (λa w sl bl U E M hsf ⟨e1,e2,e3⟩=>by
     subst e1;subst e2;subst e3;exact⟨_,_,E,M,⟨hsf.hs,hsf.size,hsf.defers,hsf.slots⟩,k⟩) arr.size (Array.replicate arr.size false) (List.range' 0 arr.toList.length) _ _ _ E M a { w with drawn:=w.drawn+1 } Fp List.pairwise_lt_range' (λj=>by
      rw[List.mem_range'_1];simp only[Array.getD_eq_getD_getElem?,Array.getElem?_replicate];constructor
      ·intro⟨_,h⟩;have h:j<arr.size:=by simpa using h
       exact⟨by simpa using h,by rw[if_pos h];rfl⟩
      ·intro⟨h,_⟩;exact⟨Qg _,Fj⟩) Fp (λi hi h=>by
       have hi:i<arr.size:=by simpa using hi
       rw[Array.getD_eq_getD_getElem?,Array.getElem?_replicate,if_pos hi]at h;cases h) hDR ⟨hs.hs.grow (IW w),hs.size,hs.defers,λt x hx=>by
        obtain⟨v,h1,h2⟩:=hs.slots t x hx;exact⟨v,h1,h2.keep ((IW w).le M) λi _ _=>rfl⟩⟩
    rw[hda]at this;exact this
   ·cases h
  ·cases h
 ·cases h
theorem Qgu{it:List It}(hs:Tz it=true)(h:uP L B i=some (L',B'))(k:AK P n Q it L' B'):AK P n Q it L B:=AK.sub (DG h) hs k
abbrev Rn:=Option (List It×Sg×Fe×Dy×List Prop)
def Q2u:List (H P)->Ff->Option Nat
 | .p i::_,_=>some i
 | .c (Bin:=_::_) _ _::_,_=>none
 |_,ys=>Qsx ys
def unP:List (H P)->List (H P)
 | .p _::h=>h
 |h=>h
def Qz6(arr:Array Oper)(L:Sg)(o:Oper)(h:List (H P)):Option (Sg×List (H P)×(Qv×Qv)):=match o.guard with
 |none=>none
 |
  some (j,_)=>match (arr[j]?).bind (·.dst)with
  |
   some t'=>match lk L t' with
   |
    some (.v (.one (.bool b)))=>match h with
    | .t (b:=b') _::h=>some ((t',.cnd true (.one (.bool true)))::L,h,(.t (.one (.bool b)),.t (.one (.bool b'))))
    | .f (b:=b') _::h=>some ((t',.cnd true (.one (.bool false)))::L,h,(.t (.one (.bool b)),.t (.one (.bool b'))))
    |_=>none
   |_=>none
  |none=>none
theorem Qz7{h h':List (H P)}{e:Qv×Qv}(hu:Qz6 arr L o h=some (L',h',e))(he:e.1=e.2):Sub n L B L' B:=by
 unfold Qz6 at hu
 split at hu
 ·cases hu
 ·split at hu
  ·split at hu
   ·rename_i b hl
    split at hu
    ·rename_i b' hb h2;injection hu with hu;injection hu with e1 hu;injection hu with e2 e3;subst e1;subst e3;injection he with he;injection he with he;injection he with he;subst he;subst hb;exact λF E M a w hs=>⟨E,M,hs.same hl λ_ h=>⟨λ_=>h,λe=>by cases e⟩⟩
    ·rename_i b' hb h2;injection hu with hu;injection hu with e1 hu;injection hu with e2 e3;subst e1;subst e3;injection he with he;injection he with he;injection he with he;subst he;subst hb;exact λF E M a w hs=>⟨E,M,hs.same hl λ_ h=>⟨λ_=>h,λe=>by cases e⟩⟩
    ·cases hu
   ·cases hu
  ·cases hu
def run(T:TT P)(n:Nat):Nat->List It->Sg->Fe->List (H P)->Dy->List Prop->Rn
 | 0,it,L,B,_,q,ob=>some (it,L,B,q,ob)
 |
  f+1,it,L,B,h,q,ob=>match it with
  | .code (.seq x y)::r=>run T n f (.code x::.code y::r) L B h q ob
  | .code .skip::r=>run T n f r L B h q ob
  | .code (.block id c)::r=>run T n f (.code c::.blk id::r) L B h q ob
  |
   .code (.exit id)::r=>match PR id r with
   |some r'=>run T n f r' L B h q ob
   |none=>some (it,L,B,q,ob)
  | .code (.region id arr false)::r=>run T n f (.ops arr arr.toList::r) L B h q ob
  |
   .code (.region id arr true)::r=>match h with
   |
    .p i::h=>match uP L B i with
    |some (L',B')=>run T n f (.code (.region id arr true)::r) L' B' h q ob
    |none=>none
   |
    h=>match drE T n arr.toList L B h with
    |some (L',B',h',q',ob')=>run T n f r L' B' h' (JM q' q) (Tk ob' ob)
    |none=>some (it,L,B,q,ob)
  |
   .code (.cond c x y)::r=>match h with
   |
    .t (b:=b') _::h=>match evT L c with
    |some (.one (.bool b))=>run T n f (.code x::r) L B h ((.t (.one (.bool b)),.t (.one (.bool b')))::q) ob
    |_=>none
   |
    .f (b:=b') _::h=>match evT L c with
    |some (.one (.bool b))=>run T n f (.code y::r) L B h ((.t (.one (.bool b)),.t (.one (.bool b')))::q) ob
    |_=>none
   |_=>some (it,L,B,q,ob)
  | .blk _::r=>run T n f r L B h q ob
  | .ops _ []::r=>run T n f r L B h q ob
  |
   .pst d::r=>match aK d L B h with
   |
    some (L',B',h',q')=>match Tz r with
    |true=>run T n f (.pst d::r) L' B' h' (JM q' q) ob
    |false=>none
   |none=>run T n f r L B h q ob
  |
   .ops arr (o::l)::r=>match gdE arr L o with
   |
    some true=>match YM o.op with
    |
     some (x,xs)=>match o.dst with
     |
      some d=>match Nat.blt d n with
      |
       true=>match Qan T L h x xs with
       |
        some (g,ys,q0)=>match Q2u h ys with
        |
         some i=>match uP L B (dig B 20 i)with
         |some (L',B')=>run T n f (.ops arr (o::l)::r) L' B' (unP h) q ob
         |none=>some (it,L,B,q,ob)
        |
         none=>match Qao q0 L B h d g ys with
         |some (L',B',h',q',ob')=>run T n f (.pst d::.ops arr l::r) L' B' h' (JM q' q) (Tk ob' ob)
         |none=>some (it,L,B,q,ob)
       |none=>some (it,L,B,q,ob)
      |false=>none
     |none=>some (it,L,B,q,ob)
    |
     none=>match efE T n L B h o.dst o.op with
     |
      some (L',B',h',q',ob')=>match o.dst with
      |some d=>run T n f (.pst d::.ops arr l::r) L' B' h' (JM q' q) (Tk ob' ob)
      |none=>run T n f (.ops arr l::r) L' B' h' (JM q' q) (Tk ob' ob)
     |none=>some (it,L,B,q,ob)
   |
    some false=>match Qma n L o.dst with
    |some L'=>run T n f (.ops arr l::r) L' B h q ob
    |none=>some (it,L,B,q,ob)
   |
    none=>match Qz6 arr L o h with
    |some (L',h',e)=>run T n f (.ops arr (o::l)::r) L' B h' (e::q) ob
    |none=>some (it,L,B,q,ob)
  |it=>some (it,L,B,q,ob)
theorem uO[Mo P](T:TT P):∀(f:Nat) (it it':List It) (L L':Sg) (B B':Fe) (h:List (H P)) (q q':Dy) (ob ob':List Prop),run T n f it L B h q ob=some (it',L',B',q',ob')->EqOk q'->Gd ob'->EqOk q/\Gd ob/\(AK P n Q it' L' B'->AK P n Q it L B):=by
 intro f;have stop:∀{it it':List It} {L L':Sg} {B B':Fe} {q q':Dy} {ob ob':List Prop},some (it,L,B,q,ob)=some (it',L',B',q',ob')->EqOk q'->Gd ob'->EqOk q/\Gd ob/\(AK P n Q it' L' B'->AK P n Q it L B):=λh hq hob=>by
  obtain⟨rfl,rfl,rfl,rfl,rfl⟩:=Bz h;exact⟨hq,hob,id⟩
 induction f with
 |zero=>intro it it' L L' B B' h q q' ob ob' hr hq hob;exact stop hr hq hob
 |
  succ f ih =>
  intro it it' L L' B B' h q q' ob ob' hr hq hob;unfold run at hr
  split at hr
  ·obtain⟨h1,h2,h3⟩:=ih _ _ _ _ _ _ _ _ _ _ _ hr hq hob;exact⟨h1,h2,λk=>Qwa (h3 k)⟩
  ·obtain⟨h1,h2,h3⟩:=ih _ _ _ _ _ _ _ _ _ _ _ hr hq hob;exact⟨h1,h2,λk=>Qpi (h3 k)⟩
  ·obtain⟨h1,h2,h3⟩:=ih _ _ _ _ _ _ _ _ _ _ _ hr hq hob;exact⟨h1,h2,λk=>Qgt (h3 k)⟩
  ·split at hr
   ·rename_i r' hx;obtain⟨h1,h2,h3⟩:=ih _ _ _ _ _ _ _ _ _ _ _ hr hq hob;exact⟨h1,h2,λk=>Qpf hx (h3 k)⟩
   ·exact stop hr hq hob
  ·obtain⟨h1,h2,h3⟩:=ih _ _ _ _ _ _ _ _ _ _ _ hr hq hob;exact⟨h1,h2,λk=>Qv9 (h3 k)⟩
  ·split at hr
   ·split at hr
    ·rename_i hp;obtain⟨h1,h2,h3⟩:=ih _ _ _ _ _ _ _ _ _ _ _ hr hq hob;exact⟨h1,h2,λk=>Qgu rfl hp (h3 k)⟩
    ·cases hr
   ·split at hr
    ·rename_i hd;obtain⟨h1,h3,h4⟩:=ih _ _ _ _ _ _ _ _ _ _ _ hr hq hob;rw[No]at h1;obtain⟨h5,h6⟩:=h1.app;obtain⟨h7,h8⟩:=KJ.1 h3;exact⟨h6,h8,λk=>Qpe hd h5 h7 (h4 k)⟩
    ·exact stop hr hq hob
  ·split at hr
   ·rename_i b' hb h2
    split at hr
    ·rename_i b hc;obtain⟨h1,h2,h3⟩:=ih _ _ _ _ _ _ _ _ _ _ _ hr hq hob;have e:=h1.hd;injection e with e;injection e with e;injection e with e;subst e;exact⟨h1.tl,h2,λk=>iE hc (λ_=>h3 k) λe=>by rw[hb]at e;cases e⟩
    ·cases hr
   ·rename_i b' hb h2
    split at hr
    ·rename_i b hc;obtain⟨h1,h2,h3⟩:=ih _ _ _ _ _ _ _ _ _ _ _ hr hq hob;have e:=h1.hd;injection e with e;injection e with e;injection e with e;subst e;exact⟨h1.tl,h2,λk=>iE hc (λe=>by rw[hb]at e;cases e) λ_=>h3 k⟩
    ·cases hr
   ·exact stop hr hq hob
  ·obtain⟨h1,h2,h3⟩:=ih _ _ _ _ _ _ _ _ _ _ _ hr hq hob;exact⟨h1,h2,λk=>h3 k⟩
  ·obtain⟨h1,h2,h3⟩:=ih _ _ _ _ _ _ _ _ _ _ _ hr hq hob;exact⟨h1,h2,λk=>h3 k⟩
  ·rename_i d r
   split at hr
   ·rename_i L2 B2 h2 q2 hp
    split at hr
    ·rename_i hs;obtain⟨h1,h3,h4⟩:=ih _ _ _ _ _ _ _ _ _ _ _ hr hq hob;rw[No]at h1;obtain⟨h5,h6⟩:=h1.app;exact⟨h6,h3,λk=>AK.sub (it:=r) (OM hp h5) hs (h4 k)⟩
    ·cases hr
   ·obtain⟨h1,h2,h3⟩:=ih _ _ _ _ _ _ _ _ _ _ _ hr hq hob;exact⟨h1,h2,λk=>h3 k⟩
  ·rename_i arr o l r
   split at hr
   ·rename_i hgd
    split at hr
    ·rename_i x xs hcall;obtain⟨as0,ats,ho,rfl⟩:=jF hcall
     split at hr
     ·rename_i d hd
      split at hr
      ·rename_i hdn
       split at hr
       ·rename_i g ys q0 ha
        split at hr
        ·rename_i i hown
         split at hr
         ·rename_i L2 B2 hp;obtain⟨h1,h2,h3⟩:=ih _ _ _ _ _ _ _ _ _ _ _ hr hq hob;exact⟨h1,h2,λk=>W1.sub (DG hp) (h3 k)⟩
         ·exact stop hr hq hob
        ·split at hr
         ·rename_i L2 B2 h2 q2 ob2 hc;obtain⟨h1,h3,h4⟩:=ih _ _ _ _ _ _ _ _ _ _ _ hr hq hob;rw[No]at h1;obtain⟨h5,h6⟩:=h1.app;obtain⟨h7,h8⟩:=KJ.1 h3;exact⟨h6,h8,λk=>W1.on hgd (Qap (o:=ung o) (N:=AW P arr n l (BO P n Q r).1) ho rfl hd hdn ha hc h5 (h4 k))⟩
         ·exact stop hr hq hob
       ·exact stop hr hq hob
      ·cases hr
     ·exact stop hr hq hob
    ·split at hr
     ·rename_i L2 B2 h2 q2 ob2 hs
      split at hr
      ·obtain⟨h1,h3,h4⟩:=ih _ _ _ _ _ _ _ _ _ _ _ hr hq hob;rw[No]at h1;obtain⟨h5,h6⟩:=h1.app;obtain⟨h7,h8⟩:=KJ.1 h3;exact⟨h6,h8,λk=>W1.on hgd (lZ (o:=ung o) (N:=AW P arr n l (BO P n Q r).1) rfl rfl rfl hs h5 h7 (h4 k))⟩
      ·obtain⟨h1,h3,h4⟩:=ih _ _ _ _ _ _ _ _ _ _ _ hr hq hob;rw[No]at h1;obtain⟨h5,h6⟩:=h1.app;obtain⟨h7,h8⟩:=KJ.1 h3;exact⟨h6,h8,λk=>W1.on hgd (lZ (o:=ung o) (N:=AW P arr n l (BO P n Q r).1) rfl rfl rfl hs h5 h7 (h4 k))⟩
     ·exact stop hr hq hob
   ·rename_i hgd
    split at hr
    ·rename_i L2 hL;obtain⟨h1,h2,h3⟩:=ih _ _ _ _ _ _ _ _ _ _ _ hr hq hob;exact⟨h1,h2,λk=>W1.off (N:=AW P arr n l (BO P n Q r).1) hgd hL (h3 k)⟩
    ·exact stop hr hq hob
   ·split at hr
    ·rename_i L2 h2 e hu;obtain⟨h1,h2,h3⟩:=ih _ _ _ _ _ _ _ _ _ _ _ hr hq hob;exact⟨h1.tl,h2,λk=>W1.sub (Qz7 hu h1.hd) (h3 k)⟩
    ·exact stop hr hq hob
  ·exact stop hr hq hob
end Orr
namespace Orr
open Go
variable{P:Program}{n:Nat}{L L':Sg}{B B':Fe}{Q:Exit->Sg->Fe->Prop}
def yS(tmps:Array Value):ResultVar->Sem Value
 | .tmp t=>pure (tmps.getD t undef)
 | .cell a t=>do loadVar t (<-asAddr (tmps.getD a undef))
theorem aP(fn:Func)(tmps:Array Value):results fn tmps=(do
 let vs <-fn.results.mapM (yS tmps)
 pure (if h:vs.size=1 then vs[0]else .tuple vs)):=by
 unfold results;congr 1
def mL(
 T:TT P) (
  L:Sg) (B:Fe):List ResultVar->Option Ff
  | []=>some []
  |
   .tmp t::r=>match lk L t with
   |
    some (.v u)=>match mL T L B r with
    |some us=>some (u::us)
    |none=>none
   |_=>none
  |
   .cell t S::r=>match T.find S with
   |
    some ti=>match lk L t with
    |
     some (.v (.one (.ow i 0)))=>match On B i with
     |
      some (.blk _ xs)=>match nT xs 0 ti.sz with
      |
       some l=>match XX ti.ag l with
       |
        some u=>match mL T L B r with
        |some us=>some (u::us)
        |none=>none
       |none=>none
      |none=>none
     |_=>none
    |_=>none
   |none=>none
theorem DD{T:TT P}{F:Fr}{E:Dv}{M:Nat->Prop}{a:Act}{w:World}(h:SA F n L B E M a w):∀{rs:List ResultVar} {us:Ff},mL T L B rs=some us->∃vs:List Value,F2 (TRep w M E) vs us/\(rs.mapM (yS a.tmps)).run P w=.ok vs w
 | [],us,hr=>by simp only[mL,Option.some.injEq]at hr;subst hr;exact⟨[],.nil,rfl⟩
 |
  .tmp t::r,us,hr=>by
  simp only[mL]at hr
  split at hr
  ·rename_i u hu
   split at hr
   ·rename_i us' hr';injection hr with hr;subst hr;obtain⟨vs,h1,h2⟩:=DD h hr';obtain⟨v,h3,h4⟩:=h.slots t _ hu;refine⟨v::vs,.cons h4 h1,?_⟩;simp only[List.mapM_cons,yS,Sem.run_bind,Sem.run_pure,Result.andThen_ok,Array.getD_eq_getD_getElem?,h3,Kk,h2]
   ·cases hr
  ·cases hr
 |
  .cell t S::r,us,hr=>by
  simp only[mL]at hr
  split at hr
  ·rename_i ti hti;have hti:=TT.find_t hti;subst hti
   split at hr
   ·rename_i i hu
    split at hr
    ·rename_i T' xs hb
     split at hr
     ·rename_i l hl
      split at hr
      ·rename_i u hbu
       split at hr
       ·rename_i us' hr';injection hr with hr;subst hr;obtain⟨vs,h1,h2⟩:=DD h hr';obtain⟨v,h3,g,c,m,he,hv⟩:=h.slots t _ hu;obtain⟨g',c',m',he',cs,hg,hc⟩:=h.blk hb;rw[he]at he';injection he' with he';injection he' with e1 _;injection e1 with e1;injection e1 with e1 _;subst e1
        obtain⟨rfl,hle⟩:=WH hl;obtain⟨v2,hv2,hv3⟩:=Eb hbu ((hc.drop 0).take ti.sz);have hl2:=hc.len;have hload:(loadVar ti.t ⟨g,0,none⟩).run P w=.ok v2 w:=BU ti.hag ti.hsz (vs:=(cs.drop 0).take ti.sz) Fo (λj v hj=>by rw[KG hg];exact TM hj) hv2;refine⟨v2::vs,.cons hv3 h1,?_⟩;simp only[List.mapM_cons,yS,Sem.run_bind,Sem.run_pure,Result.andThen_ok,Array.getD_eq_getD_getElem?,h3,Kk,hv,asAddr,hload,h2]
       ·cases hr
      ·cases hr
     ·cases hr
    ·cases hr
   ·cases hr
  ·cases hr
variable{fn:Func}{M:Nat->Prop}
theorem BG{a:Act}{w:World}{vs:List Value}{E:Dv}{us:Ff}(h:(fn.results.toList.mapM (yS a.tmps)).run P w=.ok vs w)(hr:F2 (TRep w M E) vs us):∃r,(results fn a.tmps).run P w=.ok r w/\ARep w M E r (SH us):=by
 have hm:(fn.results.mapM (yS a.tmps)).run P w=.ok vs.toArray w:=by
  have:fn.results=fn.results.toList.toArray:=Fp;rw[this,List.mapM_toArray,map_eq_pure_bind,Sem.run_bind,h];rfl
 refine⟨if h:vs.toArray.size=1 then vs.toArray[0]else .tuple vs.toArray,?_,?_⟩
 ·rw[aP];simp only[Sem.run_bind,hm,Result.andThen_ok,Sem.run_pure]
 ·match vs,us,hr with
  | [v],[t],.cons h0 .nil=>simpa[SH,ARep]using h0
  | [],[],.nil=>exact⟨[],rfl,.nil⟩
  |v::v'::vs,t::t'::us,hr=>exact⟨_,Fp,hr⟩
theorem HS.forget{F:Fr}{bl:Nat->OB}{U:Nat->Prop}{E:Dv}{w:World}(h:HS F bl U E M w)(hJ:∀i,¬F.J i):HS F (ob []) (nw []) (λ_=>none) M w :=
 {size:=h.size,kept:=h.kept,io:=h.io,mlt:=h.mlt,m0:=h.m0
  ids:=λi hi=>absurd hi (hJ i)
  nj:=λi _=>hJ i
  blk:=λi=>by simp[ob];trivial
  nk:=λi g c m hl _=>by simp[ob,OB.lv]at hl
  inj:=λi j g c m c' m' hl=>by simp[ob,OB.lv]at hl
  un:=λi _=>⟨rfl,by simp[ob]⟩
  uj:=λi _=>hJ i }
def Qkm(
 T:TT P):Nat->Sg->Fe->List ResultVar->Option Ff
  | 0,_,_,_=>none
  |
   f+1,L,B,rs=>match mL T L B rs with
   |
    some us=>match Qsx us with
    |
     some i=>match uP L B (dig B 20 i)with
     |some (L',B')=>Qkm T f L' B' rs
     |none=>none
    |
     none=>match I3 us with
     |
      some ys=>match QV ys with
      |true=>some ys
      |false=>none
     |none=>none
   |none=>none
theorem AA{T:TT P}{fn:Func}{e:Exit}(he:e=.ret\/e=.normal):∀{f:Nat} {L:Sg} {B:Fe} {us:Ff},Qkm T f L B fn.results.toList=some us->RQ P fn n 0 (λu B=>u=us/\B=[]) e L B
 | 0,_,_,_,h=>by cases h
 |
  f+1,L,B,us,h=>by
  simp only[Qkm]at h
  split at h
  ·rename_i us0 hr
   split at h
   ·split at h
    ·rename_i L' B' hp;obtain⟨_,h1⟩:=AA he h;refine⟨he,λF E M a w hs hJ=>?_⟩;obtain⟨E',M',h2⟩:=DG hp F E M a w hs;exact h1 F E' M' a w h2 hJ
    ·cases h
   ·split at h
    ·rename_i ys hys
     split at h
     ·rename_i hfr;injection h with h;subst h;refine⟨he,λF E M a w hs hJ=>?_⟩;obtain⟨vs,h1,h2⟩:=DD hs hr;have h3:=QL hys h1;obtain⟨r,h4,h5⟩:=BG h2 h3;refine⟨r,_,[],λ_=>none,M,h4,⟨rfl,rfl⟩,Qg _,hs.hs.forget λi=>hJ i (Qg _),h5.keep (Le.refl _ _) λi hi=>?_⟩;rw[rY hfr]at hi;cases hi
     ·cases h
    ·cases h
  ·cases h
def zX:List Prop->Option (List Prop)
 | []=>some []
 |
  p::l=>match zX l with
  |some r=>some (p::r)
  |none=>none
theorem RG:∀{l r:List Prop},zX l=some r->r=l
 | [],r,h=>by simp only[zX,Option.some.injEq]at h;exact h.symm
 |
  p::l,r,h=>by
  simp only[zX]at h
  split at h
  ·rename_i q hq;injection h with h;rw[<-h,RG hq]
  ·cases h
def xF:List It->Bool
 | .code .ret::_=>true
 | []=>true
 |_=>false
def wE(
 T:TT P) (n:Nat) (c:Code) (rs:List ResultVar) (args:Ff) (hs:List (H P)):Option (Ff×List Qv×List Qv×List Prop):=match run T n 100000 [.code c] (WI 0 args) [] hs [] []with
  |
   some (it,L,B,q,ob)=>match xF it with
   |
    true=>match Qkm T 100 L B rs with
    |
     some us=>match zX ob with
     |some ob=>some (us,q.map (·.1),q.map (·.2),ob)
     |none=>none
    |none=>none
   |false=>none
  |none=>none
theorem EqOk.of:∀{q:Dy},q.map (·.1)=q.map (·.2)->EqOk q
 | [],_=>EqOk.nil
 |
  (a,b)::q,h=>by
  injection h with h1 h2;intro p hp;rcases Qk.1 hp with rfl|hp
  ·exact h1
  ·exact EqOk.of h2 p hp
theorem w[Mo P](T:TT P){f:FuncId}{c:Code}{args res us:Ff}{as0:List Qv}{ob:List Prop}(hf:P.funcs[f]? = some fn)(hh:(fn.body,fn.ntmps,(fn.name == "runtime.NumGoroutine"),Nat.ble args.length n)=(some c,n,false,true))(hs:List (H P))
 (h:wE T n c fn.results.toList args hs=some (us,as0,as0,ob)) (he:us=res) (ho:Gd ob):qM P f args res:=by
 injection hh with hb hh;injection hh with hn hh;injection hh with hnm hl;subst he;refine⟨⟨fn,hf,hnm,by rw[hb];rfl⟩,fn_ hf hb hn hl ?_⟩;unfold wE at h
 split at h
 ·rename_i it L B q ob' hr
  split at h
  ·rename_i hend
   split at h
   ·rename_i us' hfin
    split at h <;> first|(cases h;done)|skip
    rename_i ob2 hnp;obtain rfl:=RG hnp;injection h with h;injection h with e1 h;injection h with e2 h;injection h with e3 e4;subst e1;subst e4;have hq:EqOk q:=EqOk.of (e2.trans e3.symm);obtain⟨_,_,k⟩:=uO (Q:=RQ P fn n 0 λu B=>u=us'/\B=[]) T _ _ _ _ _ _ _ _ _ _ _ _ hr hq ho;refine k ?_;unfold xF at hend
    split at hend
    ·exact bM (AA (.inl rfl) hfin)
    ·exact AA (.inr rfl) hfin
    ·cases hend
   ·cases h
  ·cases h
 ·cases h
theorem go[Mo P](T:TT P){it it':List It}{as0:List Qv}{ob:List Prop}(hs:List (H P))(h:(match run T n 100000 it L B hs [] []with
 |
  some (it,L,B,q,ob)=>(match zX ob with
  |some ob=>some (it,L,B,q.map (·.1),q.map (·.2),ob)
  |none=>none)
 |none=>none)=some (it',L',B',as0,as0,ob)) (ho:Gd ob) (k:AK P n Q it' L' B'):AK P n Q it L B:=by
 split at h
 ·rename_i it L B q ob' hr
  split at h <;> first|(cases h;done)|skip
  rename_i ob2 hnp;obtain rfl:=RG hnp;injection h with h;injection h with e1 h;injection h with e2 h;injection h with e3 h;injection h with e4 h;injection h with e5 e6;subst e1;subst e2;subst e3;subst e6;exact(uO T _ _ _ _ _ _ _ _ _ _ _ _ hr (EqOk.of (e4.trans e5.symm)) ho).2.2 k
 ·cases h
end Orr
namespace Orr
open Go
variable{fs:Array Field}
theorem sQ{P:Program}{S f off T:Nat}{k:Nat}(hu:∀w,(underlying S).run P w=.ok (.struct fs) w)(hf:(fs[f]?).map (λfl=>(fl.type,fl.offset))=some (T,off))(hs:∀w,(Go.sizeOf T).run P w=.ok k w)(hk:k≠0)(b o:Nat)(w:World):
 (Instr.fieldAt S (.pointer (some ⟨b,o,none⟩)) f).run P w=.ok (.pointer (some ⟨b,o+off,none⟩)) w:=by
 cases h:fs[f]? with
 |none=>rw[h]at hf;cases hf
 |
  some fl =>
  rw[h]at hf;simp only[Y7,Option.some.injEq,Prod.mk.injEq]at hf;obtain⟨rfl,rfl⟩:=hf;simp[Instr.fieldAt,hu,h,Instr.sureAddr,fieldPlace,hs,hk,D2]
def ZT(fs:List Field)(sizes:U8):List (Nat×Nat):=(fs.map (·.offset)).zip sizes
def FieldSizes(P:Program):List Field->U8->Prop
 | [],[]=>True
 |f::fs,k::ks=>(∀w,(Go.sizeOf f.type).run P w=.ok k w)/\FieldSizes P fs ks
 |_,_=>False
theorem BF{P:Program}:∀(fs:List Field) (sizes:U8) (w:World),FieldSizes P fs sizes ->
 (fs.mapM λf=>do pure (f.offset,<-Go.sizeOf f.type):Sem (List (Nat×Nat))).run P w=.ok (ZT fs sizes) w
 | [],[],w,_=>rfl
 | [],_::_,w,h=>h.elim
 |_::_,[],w,h=>h.elim
 |
  f::fs,k::sizes,w,⟨h0,h⟩=>by
  have ih:=BF fs sizes w h;simp only[List.mapM_cons,Sem.run_bind,h0,Result.andThen_ok,Sem.run_pure];rw[ih];rfl
variable{z:Value}{vs:List (Nat×Value)}{cs:Array Value}
theorem Qdr{P:Program}{T:Nat}{sizes:U8}(hu:∀w,(underlying T).run P w=.ok (.struct fs) w)(hz:∀w,(zeroValue T).run P w=.ok z w)
 (hs:FieldSizes P fs.toList sizes)
 (hf:Instr.fill ((ZT fs.toList sizes)[·]?) z.cells vs=some cs) (w:World):(Instr.build T vs.toArray).run P w=.ok (.agg cs) w:=by
 have hp:=BF (P:=P) fs.toList sizes w hs;have hm:(fs.mapM λf=>do pure (f.offset,<-Go.sizeOf f.type):Sem (Array (Nat×Nat))).run P w=.ok (ZT fs.toList sizes).toArray w:=by
  cases fs with
  |
   mk l =>
   rw[List.mapM_toArray,map_eq_pure_bind,Sem.run_bind,show(List.mapM (λf:Field=>do pure (f.offset,<-Go.sizeOf f.type):Field->Sem (Nat×Nat)) l).run P w=_ from hp];rfl
 simp only[Instr.build,Sem.run_bind,hz,hu,Result.andThen_ok,hm];have e:(λx:Nat=>(ZT fs.toList sizes).toArray[x]?)=λx=>(ZT fs.toList sizes)[x]? := by funext x;simp
 rw[e,hf];rfl
theorem cD{P:Program}{T E m k:Nat}(hu:∀w,(underlying T).run P w=.ok (.array m E) w)(hz:∀w,(zeroValue T).run P w=.ok z w)
 (hs:∀w,(Go.sizeOf E).run P w=.ok k w)
 (hf:Instr.fill (λi=>some (i*k,k)) z.cells vs=some cs) (w:World):(Instr.build T vs.toArray).run P w=.ok (.agg cs) w:=by
 simp only[Instr.build,Sem.run_bind,hz,hu,Result.andThen_ok,hs,hf];rfl
theorem Qe2{P:Program}{S f off T m:Nat}{ag:Bool}(hu:∀w,(underlying S).run P w=.ok (.struct fs) w)(hf:(fs[f]?).map (λfl=>(fl.type,fl.offset))=some (T,off))(ht:∀w,(isAgg T).run P w=.ok ag w)(hs:∀w,(Go.sizeOf T).run P w=.ok m w)
 (vs:List Value) (v:Value) (hv:if ag=true then v=.agg ((vs.drop off).take m).toArray else vs[off]? = some v) (_:off+m<=vs.length) (w:World):(Instr.field S (.agg vs.toArray) f).run P w=.ok v w:=by
 cases h:fs[f]? with
 |none=>rw[h]at hf;cases hf
 |
  some fl =>
  rw[h]at hf;simp only[Y7,Option.some.injEq,Prod.mk.injEq]at hf;obtain⟨rfl,rfl⟩:=hf;cases ag with
  |
   true =>
   simp only[if_true]at hv;subst hv;simp[Instr.field,hu,h,asAgg,Go.part,ht,hs,List.extract]
   done
  |
   false =>
   simp at hv;simp[Instr.field,hu,h,asAgg,Go.part,ht,hv]
variable{P:Program}
def Aggs(P:Program):List Field->List Bool->Prop
 | [],[]=>True
 |f::fs,k::ks=>(∀w,(isAgg f.type).run P w=.ok k w)/\Aggs P fs ks
 |_,_=>False
theorem FieldSizes.get:∀{fs:List Field} {ks:U8},FieldSizes P fs ks->∀{i:Nat} {f:Field},fs[i]? = some f->∃k,ks[i]? = some k/\∀w,(Go.sizeOf f.type).run P w=.ok k w
 | [],[],_,i,f,h=>by simp at h
 |g::fs,k::ks,h,0,f,hf=>by simp at hf;subst hf;exact⟨k,rfl,h.1⟩
 |g::fs,k::ks,h,i+1,f,hf=>by simpa using h.2.get (i:=i) (by simpa using hf)
 | [],_::_,h,_,_,_=>h.elim
 |_::_,[],h,_,_,_=>h.elim
theorem Aggs.get:∀{fs:List Field} {ks:List Bool},Aggs P fs ks->∀{i:Nat} {f:Field},fs[i]? = some f->∃k,ks[i]? = some k/\∀w,(isAgg f.type).run P w=.ok k w
 | [],[],_,i,f,h=>by simp at h
 |g::fs,k::ks,h,0,f,hf=>by simp at hf;subst hf;exact⟨k,rfl,h.1⟩
 |g::fs,k::ks,h,i+1,f,hf=>by simpa using h.2.get (i:=i) (by simpa using hf)
 | [],_::_,h,_,_,_=>h.elim
 |_::_,[],h,_,_,_=>h.elim
def ZE(t:TypeId){ag:Bool}{sz:Nat}{un:TypeDesc}{z:Value}(hag:∀w,(isAgg t).run P w=.ok ag w)(hsz:∀w,(Go.sizeOf t).run P w=.ok sz w)(hun:P.underlying t=some un)(hz:∀w,(zeroValue t).run P w=.ok z w){info:TypeInfo}(hi:∀w,(typeInfo t).run P w=.ok info w)(by_:Nat)(hby:info.bytes=by_):TI P :=
 {t,ag,sz,un,z,by_,fo:=[],fv:=[],bl:=none,hag,hsz,hun,hz,hi:=⟨info,hi,hby⟩,hfo:=λ_ _ h=>by simp at h,hfv:=λ_ _ _ _ h=>by simp at h,hbl:=λ_ _ h=>by cases h }
def tiA(t:TypeId){sz m E k:Nat}{ag:Bool}{zs:Array Value}(hag:∀w,(isAgg t).run P w=.ok ag w)(hsz:∀w,(Go.sizeOf t).run P w=.ok sz w)(hun:P.underlying t=some (.array m E))(hz:∀w,(zeroValue t).run P w=.ok (.agg zs) w){info:TypeInfo}(hi:∀w,(typeInfo t).run P w=.ok info w)(by_:Nat)(hby:info.bytes=by_)(he:∀w,(Go.sizeOf E).run P w=.ok k w):TI P :=
 {t,ag,sz,un:=.array m E,z:=.agg zs,by_,fo:=[],fv:=[],bl:=some (zs.toList,λi=>some (i*k,k)),hag,hsz,hun,hz,hi:=⟨info,hi,hby⟩,hfo:=λ_ _ h=>by simp at h,hfv:=λ_ _ _ _ h=>by simp at h
  hbl:=λzs' pl h=>by
   injection h with h;injection h with h1 h2;subst h1;subst h2;intro vs cs hf w;exact cD (z:=.agg zs) (NC hun) hz he (by simpa[Value.cells]using hf) w }
def mX:List Field->U8->List Bool->List (Nat×Nat×Bool)
 |f::fs,k::ks,a::as0=>(f.offset,k,a)::mX fs ks as0
 |_,_,_=>[]
theorem mJ:∀{fs:List Field} {ks:U8} {as0:List Bool} {i:Nat} {x:Nat×Nat×Bool},(mX fs ks as0)[i]? = some x->∃f,fs[i]? = some f/\ks[i]? = some x.2.1/\as0[i]? = some x.2.2/\x.1=f.offset
 | [],_,_,i,x,h=>by simp[mX]at h
 |_::_,[],_,i,x,h=>by simp[mX]at h
 |_::_,_::_,[],i,x,h=>by simp[mX]at h
 |f::fs,k::ks,a::as0,0,x,h=>by simp[mX]at h;subst h;exact⟨f,rfl,rfl,rfl,rfl⟩
 |f::fs,k::ks,a::as0,i+1,x,h=>by simpa using mJ (fs:=fs) (i:=i) (by simpa[mX]using h)
def TD(t:TypeId){sz:Nat}{fs:Array Field}{zs:Array Value}{g:Bool}{ks:U8}{ag:List Bool}(hag:∀w,(isAgg t).run P w=.ok g w)(hsz:∀w,(Go.sizeOf t).run P w=.ok sz w)(hun:P.underlying t=some (.struct fs))(hz:∀w,(zeroValue t).run P w=.ok (.agg zs) w){info:TypeInfo}(hi:∀w,(typeInfo t).run P w=.ok info w)(by_:Nat)(hby:info.bytes=by_)
 (hs:FieldSizes P fs.toList ks) (ha:Aggs P fs.toList ag) (h0:(ks.all λk=>Nat.blt 0 k)=true):TI P :=
 {t,ag:=g,sz,un:=.struct fs,z:=.agg zs,by_,fo:=fs.toList.map (·.offset),fv:=mX fs.toList ks ag,bl:=some (zs.toList,((ZT fs.toList ks)[·]?)),hag,hsz,hun,hz,hi:=⟨info,hi,hby⟩
  hfo:=λf off h b o w=>by
   rw[Zb]at h;cases hf:fs.toList[f]? with
   |none=>rw[hf]at h;cases h
   |
    some fl =>
    rw[hf]at h;simp only[Y7,Option.some.injEq]at h;obtain⟨k,hk,hr⟩:=hs.get hf;have hk0:k≠0:=by
     have:=Jc.1 h0 k (Qa hk);rw[Je]at this;omega
    refine sQ (T:=fl.type) (k:=k) (NC hun) ?_ hr hk0 b o w;rw[<-Array.getElem?_toList,hf,<-h];rfl
  hfv:=λf off m ag_ h vs v hv hl w=>by
   obtain⟨fl,hf,h1,h2,h3⟩:=mJ h;obtain⟨k,hk,hr⟩:=hs.get hf;obtain⟨a,ha',hr'⟩:=ha.get hf;rw[hk]at h1;injection h1 with h1;rw[ha']at h2;injection h2 with h2;have h1:k=m:=h1;have h2:a=ag_:=h2;have h3:off=fl.offset:=h3;subst h1;subst h2;subst h3;exact Qe2 (T:=fl.type) (NC hun) (by rw[<-Array.getElem?_toList,hf];rfl) hr' hr vs v hv hl w
  hbl:=λzs' pl h=>by
   injection h with h;injection h with h1 h2;subst h1;subst h2;intro vs cs hf w;exact Qdr (z:=.agg zs) (NC hun) hz hs (by simpa[Value.cells]using hf) w }
end Orr
namespace Orr
open Go
section
variable{F:Fr}{bl bl':Nat->OB}{U U':Nat->Prop}{E E':Dv}{M:Nat->Prop}{w:World}
theorem HS.renum(h:HS F bl U E M w){ρ:Nat->Nat}(hi:∀i j,ρ i=ρ j->i=j)(hb:∀j,(bl' j).lv=true->bl (ρ j)=Og ρ (bl' j))(hU:∀j,U' j->bl' j=.gone)(h1:∀j,U' j->E' j=none)(h2:∀j,¬U' j->E' j=E (ρ j))(hids:∀j,∀i∈(bl' j).ids,¬U' i)(hJ:∀j,F.J j->ρ j=j/\¬U' j):HS F bl' U' E' M w:=by
 have hlu:∀j,(bl' j).lv=true->¬U' j:=λj hj hu=>by rw[hU j hu]at hj;cases hj
 have hlv:∀j,(bl' j).lv=true->(bl (ρ j)).lv=true:=λj hj=>by rw[hb j hj,(Bs _).1];exact hj
 exact {
  size:=h.size
  kept:=h.kept
  io:=h.io
  mlt:=h.mlt
  m0:=h.m0
  ids:=λi hi=>by obtain⟨e,hu⟩:=hJ i hi;rw[h2 i hu,e];exact h.ids i hi
  nj:=λi hi hj=>by
   have hl:(bl' i).lv=true:=by cases e:bl' i <;> rw[e]at hi <;> first|rfl|cases hi
   refine h.nj i ?_ hj;have:=hb i hl;rw[(hJ i hj).1]at this;rw[this,(Bs _).2];exact hi
  blk:=λj=>by
   cases hl:(bl' j).lv with
   |false=>cases hbl:bl' j <;> rw[hbl]at hl <;> first|trivial|cases hl
   |
    true =>
    have:=h.blk (ρ j);rw[hb j hl]at this;exact this.to (λ_=>h2 j (hlu j hl)) λi hi _=>h2 i (hids j i hi)
  nk:=λi g c m hl e=>h.nk (ρ i) g c m (hlv i hl) (by rw[<-h2 i (hlu i hl)];exact e)
  inj:=λi j g c m c' m' hli hlj ei ej=>hi _ _ (h.inj (ρ i) (ρ j) g c m c' m' (hlv i hli) (hlv j hlj) (by rw[<-h2 i (hlu i hli)];exact ei) (by rw[<-h2 j (hlu j hlj)];exact ej))
  un:=λi hi=>⟨h1 i hi,hU i hi⟩
  uj:=λi hi hj=>(hJ i hj).2 hi }
end
variable{P:Program}{n:Nat}{L L':Sg}{B B':Fe}{Q:Exit->Sg->Fe->Prop}
def eqA:AV->AV->Option Dy
 | .v t,.v u=>some [(.t t,.t u)]
 | .tup l,.tup r=>fE l r
 | .cnd b t,.cnd c u=>some [(.t (.one (.bool b)),.t (.one (.bool c))),(.t t,.t u)]
 |_,_=>none
variable{q:Dy}
theorem Qx7{x y:AV}(h:eqA x y=some q)(hq:EqOk q):x=y:=by
 cases x <;> cases y <;> simp only[eqA]at h <;> first|(cases h;done)|skip
 ·injection h with h;subst h;have e:=hq.hd;injection e with e;rw[e]
 ·rw[SJ h hq]
 ·injection h with h;subst h;have e:=hq.hd;injection e with e;injection e with e;injection e with e;have e2:=hq.tl.hd;injection e2 with e2;rw[e,e2]
def Qt6(nb:Nat)(L:Sg):Sg->Option Dy
 | []=>some []
 |
  (t,x)::l=>match lk L t with
  |
   some y=>match eqA y x,Qt6 nb L l with
   |
    some q,some q2=>match Ax (Nat.blt · nb) x.ids with
    |true=>some (JM q q2)
    |false=>none
   |_,_=>none
  |none=>none
theorem Qc4{nb:Nat}:∀{l:Sg} {q:Dy},Qt6 nb L l=some q->EqOk q->∀t x,lk l t=some x->lk L t=some x/\∀i∈x.ids,i<nb
 | [],_,_,_,t,x,h=>by simp[lk]at h
 |
  (s,y)::l,q,h,hq,t,x,hx=>by
  simp only[Qt6]at h
  split at h
  ·rename_i z hz
   split at h
   ·rename_i q1 q2 h1 h2
    split at h
    ·rename_i hi;injection h with h;subst h;rw[No]at hq;obtain⟨ha,hb⟩:=hq.app;simp only[lk]at hx
     split at hx
     ·rename_i e;injection hx with hx;subst hx;obtain rfl:=Qz e;refine⟨by rw[hz,Qx7 h1 ha],λi hm=>?_⟩;have:=Py hi i hm;rwa[Je]at this
     ·exact Qc4 h2 hb t x hx
    ·cases h
   ·cases h
  ·cases h
def PN:OB->Bool
 | .gone=>true
 |_=>false
def Qf7(nb:Nat):Fe->Fe->Option Dy
 |_,[]=>some []
 |
  [],c::l=>match PN c with
  |true=>Qf7 nb [] l
  |false=>none
 |
  b::r,c::l=>match Qf7 nb r l with
  |
   some q=>match PN c with
   |true=>some q
   |
    false=>match Ax (Nat.blt · nb) c.ids with
    |true=>some ((.o b,.o c)::q)
    |false=>none
  |none=>none
theorem LZ{nb:Nat}:∀{r l:Fe} {q:Dy},Qf7 nb r l=some q->EqOk q->∀j,(ob l j).lv=true->ob r j=ob l j/\∀i∈(ob l j).ids,i<nb
 |_,[],_,_,_,j,hj=>by simp[ob,OB.lv]at hj
 |
  [],c::l,q,h,hq,j,hj=>by
  simp only[Qf7]at h
  split at h
  ·rename_i hg;cases j with
   |zero=>cases c <;> simp[PN]at hg;simp[ob,OB.lv]at hj
   |
    succ j =>
    have:=LZ h hq j (by simpa[ob]using hj);simpa[ob]using this
  ·cases h
 |
  b::r,c::l,q,h,hq,j,hj=>by
  simp only[Qf7]at h
  split at h
  ·rename_i q' hq'
   split at h
   ·rename_i hg;injection h with h;subst h;cases j with
    |zero=>cases c <;> simp[PN]at hg;simp[ob,OB.lv]at hj
    |
     succ j =>
     have:=LZ hq' hq j (by simpa[ob]using hj);simpa[ob]using this
   ·split at h
    ·rename_i hi;injection h with h;subst h;have e:=hq.hd;injection e with e;cases j with
     |
      zero =>
      refine⟨by simpa[ob]using e,λi hm=>?_⟩;have:=Py hi i (by simpa[ob]using hm);rwa[Je]at this
     |
      succ j =>
      have:=LZ hq' hq.tl j (by simpa[ob]using hj);simpa[ob]using this
    ·cases h
  ·cases h
def iG(k:Option Nat)(L:Sg)(B:Fe)(L2:Sg)(B2:Fe):Option Dy:=match lenB B,lenB B2 with
 |
  some n1,some n2=>match (match Nat.ble n1 n2 with
   |true=>true
   |
    false=>match k with
    |some k=>Nat.ble k n2
    |none=>false)with
  |
   true=>match Qt6 n2 L L2,Qf7 n2 B B2 with
   |some q,some q2=>some (JM q q2)
   |_,_=>none
  |false=>none
 |_,_=>none
theorem Qtk:∀b:OB,Og id b=b
 |
  .blk T xs=>by
  have e:∀ys:Fb,ys.map (uC id)=ys:=λys=>by
   induction ys with
   |nil=>rfl
   |cons y ys ih=>simp only[Xa,ih];cases y <;> rfl
  have e2:∀ys:Fb,ys.map (FP id)=ys:=λys=>by
   induction ys with
   |nil=>rfl
   |cons y ys ih=>simp only[Xa,ih];cases y <;> simp[FP,e]
  simp only[Og,e2]
 | .gone=>rfl
 | .row .. => rfl
 | .mpb _=>rfl
variable{k:Option Nat}
theorem LX{L2:Sg}{B2:Fe}(h:iG k L B L2 B2=some q)(hq:EqOk q):Q0q k n L B L2 B2:=by
 unfold iG at h
 split at h
 ·rename_i n1 n2 h1 h2;obtain rfl:=Bp h1;obtain rfl:=Bp h2
  split at h
  ·rename_i hk
   split at h
   ·rename_i q1 q2 hs hb;injection h with h;subst h;rw[No]at hq;obtain⟨ha,hbq⟩:=hq.app;have hs:=Qc4 hs ha;have hb:=LZ hb hbq;intro F E M a w hF hsa;have hJ:∀j,F.J j->j<B2.length:=λj hj=>by
     apply Classical.byContradiction;intro hn
     split at hk
     ·rename_i e;have:=Zi e;exact hsa.hs.uj j (by simp only[nw];omega) hj
     ·split at hk
      ·have:=Zi hk;exact hF j Fj hj
      ·cases hk
    refine⟨λi=>if i<B2.length then E i else none,M,hsa.hs.renum (ρ:=id) (λ_ _ e=>e) (λj hj=>?_) (λj hj=>Tw hj) (λj hj=>if_neg (by simpa[nw]using hj)) (λj hj=>if_pos (by simpa[nw]using hj)) (λj i hi=>?_) (λj hj=>⟨rfl,by have:=hJ j hj;simp only[nw];omega⟩),hsa.size,hsa.defers,λt x hx=>?_⟩
    ·rw[Qtk];exact(hb j hj).1
    ·have hl:(ob B2 j).lv=true:=by cases e:ob B2 j <;> rw[e]at hi <;> first|rfl|simp[OB.ids]at hi
     have:=(hb j hl).2 i hi;simp only[nw];omega
    ·obtain⟨h1,h2⟩:=hs t x hx;obtain⟨v,h3,h4⟩:=hsa.slots t x h1;exact⟨v,h3,h4.keep (Le.refl _ _) λi hi _=>if_pos (h2 i hi)⟩
   ·cases h
  ·cases h
 ·cases h
def two:Option Dy->Option (List Qv×List Qv)
 |some q=>some (q.map (·.1),q.map (·.2))
 |none=>none
variable{as0:List Qv}
theorem GX{o:Option Dy}(h:two o=some (as0,as0)):∃q,o=some q/\EqOk q:=by
 cases o with
 |none=>cases h
 |
  some q =>
  injection h with h;injection h with e1 e2;exact⟨q,rfl,EqOk.of (e1.trans e2.symm)⟩
variable{it:List It}
theorem sb(L2:Sg)(B2:Fe)(hs:Tz it=true)(h:two (iG none L B L2 B2)=some (as0,as0))(k:AK P n Q it L2 B2):AK P n Q it L B:=by
 obtain⟨q,h1,h2⟩:=GX h;exact AK.sub (λF E M a w hsa=>LX h1 h2 F E M a w trivial hsa) hs k
theorem pb(i:Nat)(hs:Tz it=true)(h:uP L B i=some (L',B'))(k:AK P n Q it L' B'):AK P n Q it L B:=Qgu hs h k
def RF:LV->LV
 | .nils=>.row []
 |x=>x
variable{v:Value}
theorem Qsl{w:World}{M:Nat->Prop}{x:LV}(h:LRep w M v x):LRep w M v (RF x):=by
 cases x <;> first|exact h|exact VV h
theorem nl(
 i:Nat) {fx:Bool} {T:TypeId} {sz:Nat} {ls:Fc} {it:List It} (hs:Tz it=true) (hb:On B i=some (.row fx T sz ls)) (hB:Oh B i (.row fx T sz (ls.map λc=>c.map RF))=some B') (k:AK P n Q it L B'):AK P n Q it L B:=by
  obtain⟨rfl,hl⟩:=C0 hB;have hbi:B[i]? = some (.row fx T sz ls):=Mh ▸ hb;refine AK.sub (λF E M a w h=>⟨E,M,?_,h.size,h.defers,h.slots⟩) hs k;rw[FK,VU hbi];have hn:(ls.map λc=>c.map RF).length=ls.length:=Fp;refine h.hs.re (λj=>?_) (λj=>?_) (λj=>?_) λj hj=>?_
  ·by_cases e:j=i
   ·subst e;rw[Gt];obtain⟨h0,h1,q,h2,h3⟩:=h.blk hb;refine⟨h0,λc hc=>?_,q,by rw[hn];exact h2,?_⟩
    ·obtain⟨c',hc',rfl⟩:=Q8.1 hc;rw[Ze];exact h1 c' hc'
    ·cases q with
     |none=>have h3:ls=[]:=h3;subst h3;rfl
     |
      some q =>
      obtain⟨vss,ex,h4,h5,h6,h7⟩:=h3;refine⟨vss,ex,?_,h5,h6,by rw[hn];exact h7⟩;refine F2.of (by rw[hn];exact h4.len) λk v x hv hx=>?_
      rw[Zb]at hx;cases hy:ls[k]? with
      |none=>rw[hy]at hx;cases hx
      |
       some y =>
       rw[hy]at hx;injection hx with hx;subst hx;have h8:=h4.get' hv hy;refine F2.of (by rw[Ze];exact h8.len) λm u z hu hz=>?_
       rw[Zb]at hz;cases hy2:y[m]? with
       |none=>rw[hy2]at hz;cases hz
       |some y2=>rw[hy2]at hz;injection hz with hz;subst hz;exact Qsl (h8.get' hu hy2)
   ·rw[Hj _ _ e];exact h.hs.blk j
  ·by_cases e:j=i
   ·subst e;rw[Gt,Su hbi];rfl
   ·rw[Hj _ _ e]
  ·by_cases e:j=i
   ·subst e;rw[Gt,Su hbi];rfl
   ·rw[Hj _ _ e]
  ·by_cases e:j=i
   ·subst e;rw[Su hbi]at hj;cases hj
   ·rw[Hj _ _ e];exact hj
theorem Qb9{w:World}{M:Nat->Prop}{E:Dv}{x:LV}(h:XRep w M E v x):XRep w M E v (RF x):=by
 cases x <;> first|exact h|exact VV h
theorem nlb(i:Nat){T:TypeId}{xs:Fb}(hs:Tz it=true)(hb:On B i=some (.blk T xs))(hB:Oh B i (.blk T (xs.map RF))=some B')(k:AK P n Q it L B'):AK P n Q it L B:=by
 obtain⟨rfl,hl⟩:=C0 hB;have hbi:B[i]? = some (.blk T xs):=Mh ▸ hb;refine AK.sub (λF E M a w h=>⟨E,M,?_,h.size,h.defers,h.slots⟩) hs k;rw[FK,VU hbi];refine h.hs.re (λj=>?_) (λj=>?_) (λj=>?_) λj hj=>?_
 ·by_cases e:j=i
  ·subst e;rw[Gt];obtain⟨g,c,m,h1,cs,h2,h3⟩:=h.blk hb;refine⟨g,c,m,h1,cs,h2,F2.of (by rw[Ze];exact h3.len) λk v x hv hx=>?_⟩;rw[Zb]at hx;cases hy:xs[k]? with
   |none=>rw[hy]at hx;cases hx
   |some y=>rw[hy]at hx;injection hx with hx;subst hx;exact Qb9 (h3.get' hv hy)
  ·rw[Hj _ _ e];exact h.hs.blk j
 ·by_cases e:j=i
  ·subst e;rw[Gt,Su hbi];rfl
  ·rw[Hj _ _ e]
 ·by_cases e:j=i
  ·subst e;rw[Gt,Su hbi];rfl
  ·rw[Hj _ _ e]
 ·by_cases e:j=i
  ·subst e;rw[Su hbi]at hj;cases hj
  ·rw[Hj _ _ e];exact hj
def rO:List It->Bool
 | .code _::_=>true
 | .ops _ (_::_)::_=>true
 | .ops _ []::r=>rO r
 | .blk _::r=>rO r
 | .pst _::r=>rO r
 |_=>false
theorem AK.fact{p:Prop}(hp:∀F E M a w,SA F n L B E M a w->p):∀{it:List It},rO it=true->(p->AK P n Q it L B)->AK P n Q it L B
 | .code _::_,_,k=>λF E M a w hs=>k (hp F E M a w hs) F E M a w hs
 | .ops _ (_::_)::_,_,k=>λF E M a w K Q hs hK=>k (hp F E M a w hs) F E M a w K Q hs hK
 | .ops _ []::r,hs,k=>AK.fact (it:=r) hp hs k
 | .blk _::r,hs,k=>AK.fact (it:=r) hp hs k
 | .pst _::r,hs,k=>AK.fact (it:=r) hp hs k
theorem ln(t:Nat){l:Fc}(hl:lk L t=some (.v (.one (.row l))))(hs:rO it=true)(k:l.length<9223372036854775808->AK P n Q it L B):AK P n Q it L B :=
 AK.fact (λF E M a w h=>by
  obtain⟨v,_,h2⟩:=h.slots t _ hl;have h2:LRep w M v (.row l):=h2;cases h2 with
  |row A c sz b o l f hc hc63=>exact Xe hc hc63) hs k
def Qj0:List Oper->U8->U8
 | [],r=>r
 |
  o::l,r=>match o.dst with
  |some d=>d::Qj0 l r
  |none=>Qj0 l r
def fC:Code->U8->U8
 | .region _ arr _,r=>Qj0 arr.toList r
 | .seq a b,r=>fC a (fC b r)
 | .cond _ a b,r=>fC a (fC b r)
 | .block _ c,r=>fC c r
 | .loop c,r=>fC c r
 | .scope c,r=>fC c r
 |_,r=>r
def prn(ks:U8):Sg->Option Sg
 | []=>some []
 |
  (t,v)::l=>match Nt t ks with
  |true=>prn ks l
  |
   false=>match prn (t::ks) l with
   |some r=>some ((t,v)::r)
   |none=>none
variable{S:Type}{c:Code}{r:List It}
theorem lp{L1:Sg}(k:Nat)(st:Sg->S->Sg)(bs:S->Fe)(μ:S->Nat)(I:S->Prop)(s0:S)(h0:I s0)(hL:prn (fC c []) L=some L1)(hk:∀s,I s->(bs s).length=k)(hs:two (iG none L B (st L1 s0) (bs s0))=some (as0,as0))
 (round:∀s,I s->AK P n Q (.code c::.rnd (some k) (λL B=>∃s',μ s'<μ s/\I s'/\L=st L1 s'/\B=bs s')::r) (st L1 s) (bs s)):AK P n Q (.code (.loop c)::r) L B:=by
 obtain⟨q,h1,h2⟩:=GX hs;refine Qpg (λm L B=>∃s,m=μ s/\I s/\L=st L1 s/\B=bs s) (m:=μ s0) (k:=k) (λm L B ⟨s,_,hI,_,hB⟩=>by rw[hB,hk s hI];exact Qm _) ⟨_,_,λF E M a w hsa=>LX h1 h2 F E M a w trivial hsa,s0,rfl,h0,rfl,rfl⟩ λm L B ⟨s,hm,hI,hL,hB⟩=>?_
 subst hm;subst hL;subst hB;have:=round s hI;have e:(λ(L:Sg) (B:Fe)=>∃m',m'<μ s/\∃s',m'=μ s'/\I s'/\L=st L1 s'/\B=bs s')=λL B=>∃s',μ s'<μ s/\I s'/\L=st L1 s'/\B=bs s':=by
  funext L B;exact propext ⟨λ⟨_,h1,s',e,h2⟩=>⟨s',e ▸ h1,h2⟩,λ⟨s',h1,h2⟩=>⟨_,h1,s',rfl,h2⟩⟩
 rw[e];exact this
theorem rd{st:S->Sg}{bs:S->Fe}{μ:S->Nat}{I:S->Prop}{m:Nat}(s':S)(hμ:μ s'<m)(hI:I s')(hs:two (iG k L B (st s') (bs s'))=some (as0,as0)):AK P n Q (.rnd k (λL B=>∃s',μ s'<m/\I s'/\L=st s'/\B=bs s')::r) L B:=by
 obtain⟨q,h1,h2⟩:=GX hs;exact⟨_,_,LX h1 h2,s',hμ,hI,rfl,rfl⟩
theorem ct(j:Nat)(st:S->Sg)(bs:S->Fe)(I:S->Prop)(hs:Tz (it.drop j)=true)(hx:AK P n Q (it.take j++.rnd none (λL B=>∃s',I s'/\L=st s'/\B=bs s')::it.drop j) L B)(hy:∀s,I s->AK P n Q (it.drop j) (st s) (bs s)):AK P n Q it L B :=
 Q1z j _ hx hs λL B ⟨s,hI,hL,hB⟩=>by subst hL;subst hB;exact hy s hI
theorem rc{st:S->Sg}{bs:S->Fe}{I:S->Prop}(s':S)(hI:I s')(hs:two (iG k L B (st s') (bs s'))=some (as0,as0)):AK P n Q (.rnd k (λL B=>∃s',I s'/\L=st s'/\B=bs s')::r) L B:=by
 obtain⟨q,h1,h2⟩:=GX hs;exact⟨_,_,LX h1 h2,s',hI,rfl,rfl⟩
variable{fn:Func}{res:Ff}{Bout:Fe}
theorem G5{f:FuncId}{args:Ff}{Bin:Fe}(hf:P.funcs[f]? = some fn)(hh:(fn.body,fn.ntmps,(fn.name == "runtime.NumGoroutine"),Nat.ble args.length n)=(some c,n,false,true))(h:AK P n (RQ P fn n Bin.length λu B=>u=res/\B=Bout) [.code c] (WI 0 args) Bin):Ga P f args Bin res Bout:=by
 injection hh with hb hh;injection hh with hn hh;injection hh with hnm hl;exact⟨⟨fn,hf,hnm,by rw[hb];rfl⟩,fn_ hf hb hn hl h⟩
def enE(T:TT P)(n:Nat)(rs:List ResultVar)(it:List It)(L:Sg)(B:Fe)(hs:List (H P)):Option (Ff×List Qv×List Qv×List Prop):=match run T n 100000 it L B hs [] []with
 |
  some (it,L,B,q,ob)=>match xF it with
  |
   true=>match Qkm T 100 L B rs with
   |
    some us=>match zX ob with
    |some ob=>some (us,q.map (·.1),q.map (·.2),ob)
    |none=>none
   |none=>none
  |false=>none
 |none=>none
theorem en[Mo P](T:TT P){us:Ff}{ob:List Prop}(hs:List (H P))(h:enE T n fn.results.toList it L B hs=some (us,as0,as0,ob))(he:us=res)(ho:Gd ob):AK P n (RQ P fn n 0 λu B=>u=res/\B=[]) it L B:=by
 subst he;unfold enE at h
 split at h
 ·rename_i it L B q ob' hr
  split at h
  ·rename_i hend
   split at h
   ·rename_i us' hfin
    split at h <;> first|(cases h;done)|skip
    rename_i ob2 hnp;obtain rfl:=RG hnp;injection h with h;injection h with e1 h;injection h with e2 h;injection h with e3 e4;subst e1;subst e4;have hq:EqOk q:=EqOk.of (e2.trans e3.symm);obtain⟨_,_,k⟩:=uO (Q:=RQ P fn n 0 λu B=>u=us'/\B=[]) T _ _ _ _ _ _ _ _ _ _ _ _ hr hq ho;refine k ?_;unfold xF at hend
    split at hend
    ·exact bM (AA (.inl rfl) hfin)
    ·exact AA (.inr rfl) hfin
    ·cases hend
   ·cases h
  ·cases h
 ·cases h
def finD(T:TT P)(k:Nat)(L:Sg)(B:Fe)(rs:List ResultVar)(res:Ff)(Bout:Fe)(is:U8):Option Dy:=match mL T L B rs,Pv (nL (rnL is)) res,outB is B is Bout with
 |
  some us,some rs',some q2=>match I3 us with
  |
   some us=>match fE us rs' with
   |
    some q=>match seqP k 0 is,ndp is,Nat.beq is.length Bout.length with
    |true,true,true=>some (JM q q2)
    |_,_,_=>none
   |none=>none
  |none=>none
 |_,_,_=>none
where
 outB (
  is0:U8) (B:Fe):U8->Fe->Option Dy
   |
    i::is,c::l=>match outB is0 B is l with
    |
     some q=>match PN c with
     |true=>some q
     |
      false=>match On B i,VW (rnL is0) c with
      |some b,some c'=>some ((.o b,.o c')::q)
      |_,_=>none
    |none=>none
   |_,_=>some []
 seqP:Nat->Nat->U8->Bool
  | 0,_,_=>true
  |
   k+1,j,i::l=>match Nat.beq i j with
   |true=>seqP k (j+1) l
   |false=>false
  |_+1,_,[]=>false
theorem DK{is0:U8}{c0:Nat}:∀{is:U8} {l:Fe} {q:Dy},finD.outB is0 B is l=some q->EqOk q->∀(j:Nat) (i:Nat) (c:OB),is[j]? = some i->l[j]? = some c->c.lv=true->ob B i=Og (SK is0 c0) c/\∀m∈c.ids,m<is0.length
 | [],l,_,_,_,j,i,c,h,_,_=>by simp at h
 |_::_,[],_,_,_,j,i,c,_,h,_=>by simp at h
 |
  x::is,d::l,q,h,hq,j,i,c,hi,hc,hl=>by
  simp only[finD.outB]at h
  split at h
  ·rename_i q' hq'
   split at h
   ·rename_i hg;injection h with h;subst h;cases j with
    |zero=>simp at hc;subst hc;cases d <;> simp[PN,OB.lv]at hg hl
    |succ j=>exact DK hq' hq j i c (by simpa using hi) (by simpa using hc) hl
   ·split at h
    ·rename_i b c' hb hc';injection h with h;subst h;cases j with
     |
      zero =>
      simp at hi hc;subst hi;subst hc;have e:=hq.hd;injection e with e;obtain⟨h1,h2⟩:=aM (c:=c0) (Pre.refl is0) hc';exact⟨by rw[Su (Mh ▸ hb),e,h1],h2⟩
     |succ j=>exact DK hq' hq.tl j i c (by simpa using hi) (by simpa using hc) hl
    ·cases h
  ·cases h
theorem fQ:∀{k j:Nat} {l:U8},finD.seqP k j l=true->∀m,m<k->l[m]? = some (j+m)
 | 0,_,_,_,m,h=>Fj
 |k+1,j,[],h,_,_=>by simp[finD.seqP]at h
 |
  k+1,j,i::l,h,m,hm=>by
  simp only[finD.seqP]at h
  split at h
  ·rename_i e;cases m with
   |zero=>simp[Qz e]
   |
    succ m =>
    have:=fQ h m Fj;rw[show j+(m+1)=j+1+m from Fj];simpa using this
  ·cases h
theorem Qg5:∀is:U8,∃c,∀i∈is,i<c
 | []=>⟨0,λi hi=>by simp at hi⟩
 |
  x::is=>by
  obtain⟨c,hc⟩:=Qg5 is;refine⟨c+x+1,λi hi=>?_⟩;rcases Qk.1 hi with rfl|hi
  ·omega
  ·have:=hc i hi;omega
variable{k:Nat}{e:Exit}
theorem Qbd{T:TT P}(he:e=.ret\/e=.normal){is:U8}(h:finD T k L B fn.results.toList res Bout is=some q)(hq:EqOk q):RQ P fn n k (λu B=>u=res/\B=Bout) e L B:=by
 unfold finD at h
 split at h
 ·rename_i us rs' q2 h1 h2 h3
  split at h
  ·rename_i us2 hf
   split at h
   ·rename_i q1 hz
    split at h
    ·rename_i hsp hnd hlen;injection h with h;subst h;rw[No]at hq;obtain⟨ha,hb⟩:=hq.app;have hlen:=Qz hlen;refine⟨he,λF E M a w hs hJ=>?_⟩;obtain⟨c,hc⟩:=Qg5 is;have hrho:∀i j,SK is c i=SK is c j->i=j:=λi j e=>by
      simp only[SK,A7]at e;cases hi:is[i]? with
      |
       none =>
       cases hj:is[j]? with
       |none=>simp only[hi,hj]at e;omega
       |some b=>simp only[hi,hj]at e;have:=hc b (Qa hj);omega
      |
       some a =>
       cases hj:is[j]? with
       |none=>simp only[hi,hj]at e;have:=hc a (Qa hi);omega
       |some b=>simp only[hi,hj]at e;subst e;exact wI hnd i j a hi hj
     have hof:∀j i,is[j]? = some i->SK is c j=i:=λj i h=>MS (Pre.refl is) (by rw[A7];exact h)
     obtain⟨hr1,hr2⟩:=DI (c:=c) (Pre.refl is) h2;obtain⟨vs,h4,h5⟩:=DD hs h1;have h6:=QL hf h4;rw[SJ hz ha,hr1]at h6
     let E':Dv:=λj=>if j<Bout.length then E (SK is c j)else none
     have hE':∀j,j<Bout.length->E' j=E (SK is c j):=λj hj=>if_pos hj
     have h7:F2 (TRep w M E') vs res:=F2.of (by rw[h6.len];simp) λj v t hv ht=>by
      have:=h6.get' (b:=BE (SK is c) t) hv (by simp[ht]);exact this.to λi hi _=>hE' i (by have:=hr2 t (Qa ht) i hi;omega)
     obtain⟨r,h8,h9⟩:=BG h5 h7;have hkl:k<=Bout.length:=by
      cases k with
      |zero=>omega
      |succ k=>have:=(Qd.1 (fQ hsp k Fj)).1;omega
     refine⟨r,res,Bout,E',M,h8,⟨rfl,rfl⟩,hkl,hs.hs.renum (ρ:=SK is c) hrho (λj hj=>?_) (λj hj=>Tw hj) (λj hj=>if_neg (by simpa[nw]using hj)) (λj hj=>hE' j (by simpa[nw]using hj)) (λj i hi=>?_) (λj hj=>?_),h9⟩
     ·have hjl:j<Bout.length:=by
       apply Classical.byContradiction;intro hn;rw[Tw Fj]at hj;cases hj
      have g1:is[j]? = some is[j]:=Qf Fj;have g2:=Qf hjl;rw[Su g2]at hj ⊢;rw[hof j _ g1];exact(DK (c0:=c) h3 hb j _ _ g1 g2 hj).1
     ·have hl:(ob Bout j).lv=true:=by cases e:ob Bout j <;> rw[e]at hi <;> first|rfl|simp[OB.ids]at hi
      have hjl:j<Bout.length:=by
       apply Classical.byContradiction;intro hn;rw[Tw Fj]at hl;cases hl
      have g1:is[j]? = some is[j]:=Qf Fj;have g2:=Qf hjl;rw[Su g2]at hl hi;have:=(DK (c0:=c) h3 hb j _ _ g1 g2 hl).2 i hi;simp only[nw];omega
     ·have hjk:j<k:=by
       apply Classical.byContradiction;intro hn;exact hJ j Fj hj
      have:=fQ hsp j hjk;rw[Z9]at this;exact⟨hof j j this,by simp only[nw];omega⟩
    ·cases h
   ·cases h
  ·cases h
 ·cases h
def Qfx:U8->Sg->Fe->Option (Sg×Fe)
 | [],L,B=>some (L,B)
 |
  i::l,L,B=>match uP L B i with
  |some (L',B')=>Qfx l L' B'
  |none=>none
theorem TK:∀{l:U8} {L L':Sg} {B B':Fe},Qfx l L B=some (L',B')->Sub n L B L' B'
 | [],_,_,_,_,h=>by injection h with h;injection h with e1 e2;subst e1;subst e2;exact Sub.refl
 |
  i::l,L,L',B,B',h=>by
  simp only[Qfx]at h
  split at h
  ·rename_i hp;exact(DG hp).trans (TK h)
  ·cases h
theorem RQ.sub{Post:Ff->Fe->Prop}(h:Sub n L B L' B')(hr:RQ P fn n k Post e L' B'):RQ P fn n k Post e L B:=⟨hr.1,λF E M a w hs hJ=>by
 obtain⟨E',M',h1⟩:=h F E M a w hs;exact hr.2 F E' M' a w h1 hJ⟩
def edE(T:TT P)(n k:Nat)(rs:List ResultVar)(it:List It)(L:Sg)(B:Fe)(hs:List (H P))(res:Ff)(Bout:Fe)(ps is:U8):Option (List Qv×List Qv×List Prop):=match run T n 100000 it L B hs [] []with
 |
  some (it,L,B,q,ob)=>match xF it with
  |
   true=>match Qfx ps L B with
   |
    some (L,B)=>match finD T k L B rs res Bout is with
    |
     some q2=>(match zX ob with
     |some ob=>some ((JM q q2).map (·.1),(JM q q2).map (·.2),ob)
     |none=>none)
    |none=>none
   |none=>none
  |false=>none
 |none=>none
theorem ed[Mo P](T:TT P){ob:List Prop}(ps is:U8)(hs:List (H P))(h:edE T n k fn.results.toList it L B hs res Bout ps is=some (as0,as0,ob))(ho:Gd ob):AK P n (RQ P fn n k λu B=>u=res/\B=Bout) it L B:=by
 unfold edE at h
 split at h
 ·rename_i it L B q ob' hr
  split at h
  ·rename_i hend
   split at h
   ·rename_i L2 B2 hp
    split at h
    ·rename_i q2 hfin
     split at h <;> first|(cases h;done)|skip
     rename_i ob2 hnp;obtain rfl:=RG hnp;injection h with h;injection h with e2 h;injection h with e3 e4;subst e4;have hq:EqOk (JM q q2):=EqOk.of (e2.trans e3.symm);rw[No]at hq;obtain⟨ha,hb⟩:=hq.app;obtain⟨_,_,k⟩:=uO (Q:=RQ P fn n k λu B=>u=res/\B=Bout) T _ _ _ _ _ _ _ _ _ _ _ _ hr ha ho;refine k ?_;unfold xF at hend
     split at hend
     ·exact bM (RQ.sub (TK hp) (Qbd (.inl rfl) hfin hb))
     ·exact RQ.sub (TK hp) (Qbd (.inr rfl) hfin hb)
     ·cases hend
    ·cases h
   ·cases h
  ·cases h
 ·cases h
end Orr
