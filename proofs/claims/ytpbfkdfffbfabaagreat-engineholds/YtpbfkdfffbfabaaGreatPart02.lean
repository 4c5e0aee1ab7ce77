import Derived.Test.YtpbfkdfffbfabaaGreatPart01
import Derived.Test.YtpbfkdfffbfabaaGreatPart00
set_option linter.all false
namespace Orr
open Go
variable{P:Program}{n:Nat}{L L':Sg}{B B':Fg}
def FY:Fa->Nat->Option Nat
 | [],_=>none
 |i::_,0=>some i
 |_::l,j+1=>FY l j
theorem I0:∀{l:Fa} {j:Nat},FY l j=l[j]?
 | [],_=>by simp[FY]
 |_::_,0=>by simp[FY]
 |_::l,j+1=>by simp[FY,I0]
def PN(is:Fa)(c:Nat)(j:Nat):Nat:=match FY is j with
 |some i=>i
 |none=>c+j
def rnY(is:Fa):LV->Option LV
 |
  .ow i o=>match FY is i with
  |some j=>some (.ow j o)
  |none=>none
 |x=>some x
def rnL(is:Fa):LV->Option LV
 |
  .ow i o=>match FY is i with
  |some j=>some (.ow j o)
  |none=>none
 |
  .orow i s p=>match FY is i with
  |some j=>some (.orow j s p)
  |none=>none
 |
  .oel i s k o=>match FY is i with
  |some j=>some (.oel j s k o)
  |none=>none
 |
  .omap i=>match FY is i with
  |some j=>some (.omap j)
  |none=>none
 |
  .oif t i o=>match FY is i with
  |some j=>some (.oif t j o)
  |none=>none
 |
  .ofn f a b=>match Mb (rnY is) a,Mb (rnY is) b with
  |some a,some b=>some (.ofn f a b)
  |_,_=>none
 |x=>some x
def Pre(is js:Fa):Prop:=∀i j,FY is i=some j->FY js i=some j
theorem Pre.refl(is:Fa):Pre is is:=λ_ _ h=>h
theorem Qeh{is:Fa}{i j:Nat}(h:FY is i=some j):i<is.length:=by
 rw[I0]at h;exact(Qh.1 h).1
section
variable{is js:Fa}{c:Nat}(hp:Pre is js)
include hp
theorem NP{i j:Nat}(h:FY is i=some j):PN js c i=j:=by simp only[PN,hp i j h]
theorem Q1i{x y:LV}(h:rnY is x=some y):y=rD (PN js c) x/\∀i∈VJ [x],i<is.length:=by
 cases x <;> simp only[rnY]at h
 case ow i o =>
  split at h
  .rename_i j a;injection h with h;subst h;exact⟨by simp only[rD,NP hp a],λb hi=>by simp[VJ]at hi;subst hi;exact Qeh a⟩
  .cases h
 all_goals (injection h with h;subst h;exact⟨rfl,λi hi=>by simp[VJ]at hi⟩)
theorem rE:∀{xs a:Fe},Mb (rnY is) xs=some a->a=xs.map (rD (PN js c))/\∀i∈VJ xs,i<is.length
 | [],a,h=>by simp only[Mb,Option.some.injEq]at h;subst h;exact⟨rfl,λi hi=>by simp[VJ]at hi⟩
 |
  x::xs,a,h=>by
  simp only[Mb]at h
  split at h
  .rename_i y b
   split at h
   .rename_i r hr;injection h with h;subst h;obtain⟨h1,h2⟩:=Q1i (c:=c) hp b;obtain⟨h3,h4⟩:=rE hr;refine⟨by rw[Xa,<-h1,<-h3],λi hi=>?_⟩;cases x with
    |
     ow j o =>
     simp only[VJ,Qm]at hi;rcases hi with rfl|hi
     .exact h2 _ (by simp[VJ])
     .exact h4 i hi
    |_=>exact h4 i hi
   .cases h
  .cases h
theorem Qph{x y:LV}(h:rnL is x=some y):y=HK (PN js c) x/\∀i∈x.ids,i<is.length:=by
 cases x <;> simp only[rnL]at h
 case ofn f a b =>
  split at h
  .rename_i g b' ha hb;injection h with h;subst h;obtain⟨h1,h2⟩:=rE (c:=c) hp ha;obtain⟨h3,h4⟩:=rE (c:=c) hp hb;exact⟨by rw[h1,h3];rfl,λi hi=>(Qr.1 hi).elim (h2 i) (h4 i)⟩
  .cases h
 all_goals first
  |(injection h with h;subst h;exact⟨rfl,λi hi=>by simp[LV.ids]at hi⟩)
  |(
   split at h
   .rename_i j d;injection h with h;subst h;exact⟨by simp only[HK,NP hp d],λe hi=>by simp[LV.ids]at hi;subst hi;exact Qeh d⟩
   .cases h)
theorem rL:∀{xs a:Fe},Mb (rnL is) xs=some a->a=xs.map (HK (PN js c))/\∀i∈xs.flatMap LV.ids,i<is.length
 | [],a,h=>by simp only[Mb,Option.some.injEq]at h;subst h;exact⟨rfl,λi hi=>by simp at hi⟩
 |
  x::xs,a,h=>by
  simp only[Mb]at h
  split at h
  .rename_i y b
   split at h
   .rename_i r hr;injection h with h;subst h;obtain⟨h1,h2⟩:=Qph (c:=c) hp b;obtain⟨h3,h4⟩:=rL hr;refine⟨by rw[Xa,<-h1,<-h3],λi hi=>?_⟩;rw[Yn]at hi;exact(Qr.1 hi).elim (h2 i) (h4 i)
   .cases h
  .cases h
theorem Q1h{t u:TV}(h:lJ (rnL is) t=some u):u=DD (PN js c) t/\∀i∈t.ids,i<is.length:=by
 cases t <;> simp only[lJ]at h <;> split at h <;> first|(cases h;done)|skip
 .rename_i a;injection h with h;subst h;obtain⟨h1,h2⟩:=Qph (c:=c) hp a;exact⟨by rw[h1];rfl,h2⟩
 .rename_i a;injection h with h;subst h;obtain⟨h1,h2⟩:=rL (c:=c) hp a;exact⟨by rw[h1];rfl,h2⟩
theorem EG:∀{xs a:Fh},Mb (lJ (rnL is)) xs=some a->a=xs.map (DD (PN js c))/\∀t∈xs,∀i∈t.ids,i<is.length
 | [],a,h=>by simp only[Mb,Option.some.injEq]at h;subst h;exact⟨rfl,λi hi=>by simp at hi⟩
 |
  x::xs,a,h=>by
  simp only[Mb]at h
  split at h
  .rename_i y b
   split at h
   .rename_i r hr;injection h with h;subst h;obtain⟨h1,h2⟩:=Q1h (c:=c) hp b;obtain⟨h3,h4⟩:=EG hr;refine⟨by rw[Xa,<-h1,<-h3],λt ht=>?_⟩;rcases Qm.1 ht with rfl|ht
    .exact h2
    .exact h4 t ht
   .cases h
  .cases h
theorem Qao{b d:OB}(h:KA (rnL is) b=some d):d=QX (PN js c) b/\∀i∈b.ids,i<is.length:=by
 cases b with
 |
  blk T xs =>
  simp only[KA]at h
  split at h
  .rename_i a;injection h with h;subst h;obtain⟨h1,h2⟩:=rL (c:=c) hp a;exact⟨by rw[h1];rfl,h2⟩
  .cases h
 |_=>simp only[KA,Option.some.injEq]at h;subst h;exact⟨rfl,λi hi=>by simp[OB.ids]at hi⟩
end
def Qtr:Fa->Fa->Bool
 | [],_=>true
 |
  i::l,ms=>match Bj i ms with
  |true=>false
  |false=>Qtr l ms
theorem Qc4:∀{l ms:Fa},Qtr l ms=true->∀m∈ms,m∉l
 | [],_,_,m,_=>Ft
 |
  i::l,ms,h,m,hm=>by
  simp only[Qtr]at h
  split at h
  .cases h
  .rename_i hn;intro hi;rcases Qm.1 hi with rfl|hi
   .rw[Pp.2 hm]at hn;cases hn
   .exact Qc4 h m hm hi
def xO(ms:Fa)(x:LV):Option LV:=match Qtr x.ids ms with
 |true=>some x
 |false=>some .any
variable{ms:Fa}
theorem Qdw{w:World}{M:Nat->Prop}{E:Li}:Turn w M E w M E (xO ms):=by
 intro v x y h hr;unfold xO at h
 split at h <;> (injection h with h;subst h)
 .exact hr
 .exact LRep.any v hr.one
theorem nG{i:Nat}(hi:i∈ms)(x y:LV)(h:xO ms x=some y):i∉y.ids:=by
 unfold xO at h
 split at h <;> (injection h with h;subst h)
 .rename_i hd;exact Qc4 hd i hi
 .simp[LV.ids]
def klB(ms is:Fa):Nat->Fg->Option Fg
 |_,[]=>some []
 |
  k,b::l=>match klB ms is (k+1) l with
  |
   some r=>match Bj k is with
   |true=>some (b::r)
   |
    false=>match KA (xO ms) b with
    |some c=>some (c::r)
    |none=>none
  |none=>none
theorem Qnn{ms is:Fa}:∀{l r:Fg} {k:Nat},klB ms is k l=some r->r.length=l.length/\∀(j:Nat) (b:OB),l[j]? = some b->∃c,r[j]? = some c/\(k+j∈is/\c=b\/k+j∉is/\KA (xO ms) b=some c)
 | [],r,k,h=>by simp only[klB,Option.some.injEq]at h;subst h;exact⟨rfl,λj b hb=>by simp at hb⟩
 |
  b::l,r,k,h=>by
  simp only[klB]at h
  split at h
  .rename_i q d;obtain⟨h1,h2⟩:=Qnn d;have a:∀c,r=c::q->(k∈is/\c=b\/k∉is/\KA (xO ms) b=some c)->r.length=(b::l).length/\∀(j:Nat) (b':OB),(b::l)[j]? = some b'->∃c,r[j]? = some c/\(k+j∈is/\c=b'\/k+j∉is/\KA (xO ms) b'=some c):=λc e hc=>by
    subst e;refine⟨by simp[h1],λj b' hb=>?_⟩;cases j with
    |zero=>simp at hb;subst hb;exact⟨c,rfl,hc⟩
    |
     succ j =>
     rw[show k+(j+1)=k+1+j from Fo];simpa using h2 j b' (by simpa using hb)
   split at h
   .rename_i hm;injection h with h;exact a b h.symm (.inl ⟨Pp.1 hm,rfl⟩)
   .rename_i hm
    split at h
    .rename_i c hc;injection h with h;exact a c h.symm (.inr ⟨λh=>(by rw[Pp.2 h]at hm;cases hm),hc⟩)
    .cases h
  .cases h
def kl(ms is:Fa)(L:Sg)(B:Fg):Option (Sg×Fg):=match ms with
 | []=>some (L,B)
 |
  _=>match sF (xO ms) L,klB ms is 0 B with
  |some L',some B'=>some (L',B')
  |_,_=>none
theorem Q30{is:Fa}(h:kl ms is L B=some (L',B')):(∀F E M a w,SA F n L B E M a w->SA F n L' B' E M a w)/\B'.length=B.length/\(∀m∈ms,(∀t x,lk L' t=some x->m∉x.ids)/\∀i,i∉is->m∉(ob B' i).ids):=by
 unfold kl at h
 split at h
 .injection h with h;injection h with e1 e2;subst e1;subst e2;exact⟨λ_ _ _ _ _ h=>h,rfl,λm hm=>(by cases hm)⟩
 .split at h
  .rename_i j d f g;injection h with h;injection h with e1 e2;subst e1;subst e2;obtain⟨h1,h2⟩:=Qnn g;have hn:nw d=nw B:=by funext i;simp only[nw,h1]
   have hg:∀i,(ob d i=.gone/\ob B i=.gone)\/ob d i=ob B i\/i∉is/\KA (xO ms) (ob B i)=some (ob d i):=λi=>by
    rcases Q7 i B.length with hi|hi
    .obtain⟨c,h3,h4⟩:=h2 i _ (Qf hi);rw[Zw]at h4;rw[Pa h3,Pa (Qf hi)];rcases h4 with h4|h4
     .exact .inr (.inl h4.2)
     .exact .inr (.inr h4)
    .exact .inl ⟨Sj Fo,Sj hi⟩
   refine⟨λF E M a w hs=>⟨?_,hs.size,hs.defers,Qye Qdw f hs.slots⟩,h1,λm hm=>⟨λt x hx=>tX (nG hm) f t x hx,λi hi=>?_⟩⟩
   .rw[hn];refine hs.hs.re (λi=>?_) (λi=>?_) (λi=>?_) λi hi=>?_
    .rcases hg i with⟨e,_⟩|e|⟨_,e⟩
     .rw[e];trivial
     .rw[e];exact hs.hs.blk i
     .exact hQ Qdw e (hs.hs.blk i)
    .rcases hg i with⟨e,e'⟩|e|⟨_,e⟩
     .rw[e,e']
     .rw[e]
     .exact(GA e).1
    .rcases hg i with⟨e,e'⟩|e|⟨_,e⟩
     .rw[e,e']
     .rw[e]
     .exact(GA e).2.1
    .rcases hg i with⟨e,e'⟩|e|⟨_,e⟩
     .exact e
     .rw[e];exact hi
     .exact(GA e).2.2 hi
   .rcases Q7 i B.length with hl|hl
    .obtain⟨c,h3,h4⟩:=h2 i _ (Qf hl);rw[Zw]at h4;rw[Pa h3];rcases h4 with⟨h4,_⟩|⟨_,h4⟩
     .exact absurd h4 hi
     .generalize B[i]=b at h4;cases b with
      |
       blk T xs =>
       simp only[KA]at h4
       split at h4
       .rename_i r hr;injection h4 with e;rw[<-e];exact TA (nG hm) hr
       .cases h4
      |_=>simp only[KA,Option.some.injEq]at h4;rw[<-h4];simp[OB.ids]
    .rw[Sj Fo];simp[OB.ids]
  .cases h
def Qup:Fa->Fg->Option Fa
 |
  i::is,b::l=>match Qup is l with
  |
   some r=>match b.mv with
   |true=>some (i::r)
   |false=>some r
  |none=>none
 |_,_=>some []
theorem Qeb:∀{is:Fa} {l:Fg} {r:Fa},Qup is l=some r->∀(j i:Nat) (b:OB),is[j]? = some i->l[j]? = some b->b.mv=true->i∈r
 | [],_,_,_,j,i,b,h,_,_=>by simp at h
 |_::_,[],_,_,j,i,b,_,h,_=>by simp at h
 |
  i0::is,b0::l,r,h,j,i,b,hi,hb,hm=>by
  simp only[Qup]at h
  split at h
  .rename_i q f;have a:(j=0->i0∈r)->(∀x∈q,x∈r)->i∈r:=λk g=>by
    cases j with
    |zero=>simp at hi;subst hi;exact k rfl
    |succ j=>exact g _ (Qeb f j i b (by simpa using hi) (by simpa using hb) hm)
   split at h
   .injection h with h;subst h;exact a (λ_=>.head _) λx hx=>.tail _ hx
   .rename_i d;injection h with h;subst h;refine a (λe=>?_) λx hx=>hx
    subst e;simp at hb;subst hb;rw[hm]at d;cases d
  .cases h
def eqB(is0:Fa)(B1:Fg):Fa->Fg->Option Ll
 | [],[]=>some []
 |
  i::is,c::l=>match QU B1 i,KA (rnL is0) c,eqB is0 B1 is l with
  |
   some b,some c',some q=>match c.lv && (!c.mv || b.mv)with
   |true=>some ((.o c',.o (flO c' b))::q)
   |false=>none
  |_,_,_=>none
 |_,_=>none
theorem Qmg{a js:Fa}{c0:Nat}{B1:Fg}(hp:Pre a js):∀{is:Fa} {l:Fg} {q:Ll},eqB a B1 is l=some q->EqOk q->is.length=l.length/\∀(j:Nat) (c:OB),l[j]? = some c->∃i b,is[j]? = some i/\B1[i]? = some b/\c.lv=true/\(c.mv=true->b.mv=true)/\JW b=JW (QX (PN js c0) c)/\∀k∈c.ids,k<a.length
 | [],[],_,_,_=>⟨rfl,λj c h=>by simp at h⟩
 |
  i::is,c::l,q,h,hq=>by
  simp only[eqB]at h
  split at h
  .rename_i b c' o hb g m
   split at h
   .rename_i f;injection h with h;subst h;obtain⟨h1,h2⟩:=Qmg hp m hq.tl;refine⟨by simp[h1],λj d hd=>?_⟩;cases j with
    |
     zero =>
     simp at hd;subst hd;obtain⟨h3,h4⟩:=Qao (c:=c0) hp g;have e:=hq.hd;injection e with e;rw[Zr]at f;refine⟨i,b,rfl,Mx ▸ hb,f.1,λhm=>by simpa[hm]using f.2,?_,h4⟩;rw[<-h3,e,iW]
    |succ j=>simpa using h2 j d (by simpa using hd)
   .cases h
  .cases h
 | [],_::_,_,h,_=>by cases h
 |_::_,[],_,h,_=>by cases h
def flF:OB->OB->Option OB
 | .row f _ _ _,.row _ T sz ls=>some (.row f T sz ls)
 |_,.gone=>some .gone
 |_,.blk T xs=>some (.blk T xs)
 |_,.mpb es=>some (.mpb es)
 | .gone,.row f T sz ls=>some (.row f T sz ls)
 | .blk ..,.row f T sz ls=>some (.row f T sz ls)
 | .mpb _,.row f T sz ls=>some (.row f T sz ls)
theorem Q0g(b c:OB):flF b c=some (flO b c):=by cases b <;> cases c <;> rfl
def MM:Fa->Fg->Nat->Option OB
 |
  i::is,b::bs,k=>match Nat.beq i k with
  |true=>some b
  |false=>MM is bs k
 |_,_,_=>none
def Qc8:Fa->Fg->Option Fg
 | [],l=>some l
 |_::is,_::l=>Qc8 is l
 |_::_,[]=>none
theorem mG:∀{is:Fa} {l r:Fg},Qc8 is l=some r->is.length<=l.length/\r=l.drop is.length
 | [],l,r,h=>by simp only[Qc8,Option.some.injEq]at h;subst h;exact⟨Qj _,rfl⟩
 |
  _::is,_::l,r,h=>by
  obtain⟨h1,h2⟩:=mG (is:=is) h;exact⟨Fq,by simpa using h2⟩
 |_::_,[],_,h=>by cases h
def Qve(
 is:Fa) (Bo:Fg):Nat->Fg->Option Fg
  |_,[]=>Qc8 is Bo
  |
   k,b::l=>match Qve is Bo (k+1) l with
   |
    some r=>match MM is Bo k with
    |
     some c=>match flF b c with
     |
      some d=>match !d.mv || b.mv with
      |true=>some (d::r)
      |false=>none
     |none=>none
    |none=>some (b::r)
   |none=>none
theorem Qe0{is:Fa}{a:Fg}:∀{l r:Fg} {k:Nat},Qve is a k l=some r->is.length<=a.length/\r.length=l.length+(a.length-is.length)/\(∀j,j<l.length->(ob r j=match MM is a (k+j)with|some c=>flO (ob l j) c|none=>ob l j)/\((ob r j).mv=true->(ob l j).mv=true))/\∀j,ob r (l.length+j)=ob a (is.length+j)
 |
  [],r,k,h=>by
  obtain⟨h1,h2⟩:=mG h;refine⟨h1,by simp[h2],λj g=>by simp at g,λj=>?_⟩;subst h2;simp[ob,Xp]
 |
  b::l,r,k,h=>by
  simp only[Qve]at h
  split at h
  .rename_i q m;obtain⟨h1,h2,h3,h4⟩:=Qe0 m;have f:∀d,r=d::q->(d=match MM is a k with|some c=>flO b c|none=>b)->(d.mv=true->b.mv=true)->is.length<=a.length/\r.length=(b::l).length+(a.length-is.length)/\(∀j,j<(b::l).length->(ob r j=match MM is a (k+j)with|some c=>flO (ob (b::l) j) c|none=>ob (b::l) j)/\((ob r j).mv=true->(ob (b::l) j).mv=true))/\∀j,ob r ((b::l).length+j)=ob a (is.length+j):=λd e hd i=>by
    subst e;refine⟨h1,by simp[h2];omega,λj g=>?_,λj=>?_⟩
    .cases j with
     |zero=>rw[X1];exact⟨by simpa[ob]using hd,by simpa[ob]using i⟩
     |
      succ j =>
      have:=h3 j (by simpa using g);rw[show k+(j+1)=k+1+j from Fo];simpa[ob]using this
    .rw[<-h4 j,show(b::l).length+j=(l.length+j)+1 from Fq];simp[ob]
   split at h
   .rename_i c hc;rw[Q0g]at h;simp only at h
    split at h
    .rename_i o;injection h with h;exact f _ h.symm (by rw[hc]) λhm=>by simpa[hm]using o
    .cases h
   .rename_i hc;injection h with h;exact f _ h.symm (by rw[hc]) id
  .cases h
theorem MN:∀{is:Fa} {a:Fg} {k:Nat} {c:OB},MM is a k=some c->∃j:Nat,is[j]? = some k/\a[j]? = some c
 | [],_,_,_,h=>by simp[MM]at h
 |_::_,[],_,_,h=>by simp[MM]at h
 |
  i::is,b::bs,k,c,h=>by
  simp only[MM]at h
  split at h
  .rename_i e;injection h with h;subst h;exact⟨0,by simp[Nat.eq_of_beq_eq_true e],rfl⟩
  .obtain⟨j,h1,h2⟩:=MN h;exact⟨j+1,by simpa using h1,by simpa using h2⟩
theorem yM:∀{is:Fa} {a:Fg} {k:Nat},is.length<=a.length->MM is a k=none->k∉is
 | [],_,_,_,_=>Ft
 |_::_,[],_,hl,_=>by simp at hl
 |
  i::is,b::bs,k,hl,h=>by
  simp only[MM]at h
  split at h
  .cases h
  .rename_i e;have:=yM (by simpa using hl) h;simp[Ne.symm (V4 e),this]
def Qqa:Fa->Fg->Option (Fa×Fa)
 |is,[]=>some ([],is)
 |
  i::is,_::l=>match Qqa is l with
  |some (a,b)=>some (i::a,b)
  |none=>none
 | [],_::_=>none
theorem Qfd:∀{is:Fa} {l:Fg} {a b:Fa},Qqa is l=some (a,b)->is=a++b/\a.length=l.length
 |is,[],a,b,h=>by simp only[Qqa,Option.some.injEq,Prod.mk.injEq]at h;obtain⟨rfl,rfl⟩:=h;exact⟨rfl,rfl⟩
 |
  i::is,_::l,a,b,h=>by
  simp only[Qqa]at h
  split at h
  .rename_i e b' d;obtain⟨h1,h2⟩:=Qfd d;simp only[Option.some.injEq,Prod.mk.injEq]at h;obtain⟨rfl,rfl⟩:=h;exact⟨by rw[h1];rfl,by simp[h2]⟩
  .cases h
 | [],_::_,_,_,h=>by cases h
def Qvz:Nat->Fa->Bool
 |_,[]=>true
 |
  k,i::l=>match Nat.beq i k with
  |true=>Qvz (k+1) l
  |false=>false
theorem ES:∀{k:Nat} {l:Fa},Qvz k l=true->∀(j i:Nat),l[j]? = some i->i=k+j
 |_,[],_,j,i,h=>by simp at h
 |
  k,x::l,h,j,i,hi=>by
  simp only[Qvz]at h
  split at h
  .rename_i e;cases j with
   |zero=>simp at hi;subst hi;exact Qx e
   |succ j=>have:=ES h j i (by simpa using hi);omega
  .cases h
def ndp:Fa->Bool
 | []=>true
 |
  i::l=>match Bj i l with
  |true=>false
  |false=>ndp l
theorem gA:∀{l:Fa},ndp l=true->∀i j k:Nat,l[i]? = some k->l[j]? = some k->i=j
 | [],_,i,j,k,h,_=>by simp at h
 |
  x::l,h,i,j,k,hi,hj=>by
  simp only[ndp]at h
  split at h
  .cases h
  .rename_i hn;have hx:x∉l:=λh=>by rw[Pp.2 h]at hn;cases hn
   cases i with
   |
    zero =>
    cases j with
    |zero=>rfl
    |succ j=>simp at hi hj;subst hi;exact absurd (Qc hj) hx
   |
    succ i =>
    cases j with
    |zero=>simp at hi hj;subst hj;exact absurd (Qc hi) hx
    |succ j=>rw[gA h i j k (by simpa using hi) (by simpa using hj)]
def Qxe(L:Sg)(B:Fg)(h:List (H P))(d f:Nat)(ys:Fh):St P:=match h with
 |
  .c (f:=f') (args:=args) (Bin:=Bin) (res:=res) (Bout:=Bout) is _::h=>match Nat.beq f f',lenB B,Qqa is Bin with
  |
   true,some nB,some (is1,is2)=>match Mb (lJ (rnL is1)) args,Qup is1 Bin with
   |
    some args',some ms=>match sY ys args',kl ms is1 L B with
    |
     some q,some (L1,B1)=>match eqB is1 B1 is1 Bin,Mb (KA (rnL is)) Bout with
     |
      some q2,some Bo=>match Qve is1 Bo 0 B1,Mb (lJ (rnL is)) res with
      |
       some B2,some res'=>match avF res' with
       |
        some u=>match ndp is,Qvz nB is2,(Ir (Nat.blt · nB) is1 && Nat.beq is.length Bout.length)with
        |true,true,true=>some ((d,u)::L1,B2,h,q++q2,[])
        |_,_,_=>none
       |none=>none
      |_,_=>none
     |_,_=>none
    |_,_=>none
   |_,_=>none
  |_,_,_=>none
 |_=>none
def Qlk(L:Sg)(B:Fg)(h:List (H P))(d f:Nat)(ys:Fh):St P:=match Qxd L B h d f ys with
 |some r=>some r
 |none=>Qxe L B h d f ys
theorem Qnz{α β:Type}{f:α->Option β}{l:List α}{r:List β}(h:Mb f l=some r):r.length=l.length:=(O5 h).1
theorem Qvq{is js:Fa}{c:Nat}(hp:Pre is js){l r:Fg}(h:Mb (KA (rnL is)) l=some r)(j:Nat):ob r j=QX (PN js c) (ob l j):=by
 rcases gZ h j with⟨h1,h2⟩|h1
 .rw[Sj h1,Sj h2];rfl
 .exact(Qao hp h1).1
theorem pC{arr:Array Oper}{o:Oper}{N:Kp}{h h':List (H P)}{q:Ll}{obs:List Prop}{d f:Nat}{us ys:Fh}{xs:Array Operand}{pre post:Fe}(hce:Cee P n o xs.toList f pre post L B)(hg:o.guard=none)(hd:o.dst=some d)(W:Nat.blt d n=true)
 (Y:evTs L xs.toList=some us) (hys:Ox (lI pre us post)=some ys) (hc:Qlk L B h d f ys=some (L',B',h',q,obs)) (hq:EqOk q) (k:N L' B'):W1 P arr n o N L B:=by
 unfold Qlk at hc
 split at hc
 .rename_i r s;injection hc with hc;subst hc;rename_i hc;unfold Qxd at s
  split at s
  .rename_i f' args Bin res Bout is I h2
   split at s
   .rename_i hB J;simp only[Zr]at hB J;obtain rfl:=Qds hB.1;obtain rfl:=Qds hB.2
    split at s
    .rename_i q2 hz
     split at s
     .rename_i u hu;obtain⟨rfl,rfl,rfl,rfl,rfl⟩:=Cm s;have e0:=hq.hd;injection e0 with e0;subst e0;exact W1.call I hce hg hd W Y hys (PP hz hq.tl) J.1 J.2 (by rw[Qi9 hu];exact k)
     .cases s
    .cases s
   .cases s
  .cases s
 .rename_i hne;clear hne;unfold Qxe at hc
  split at hc
  .rename_i f' args Bin res Bout is I h2
   split at hc
   .rename_i nB g p e hnB R;obtain rfl:=Qx e;obtain rfl:=B8 hnB;obtain⟨v,V⟩:=Qfd R
    split at hc
    .rename_i args' ms K hms
     split at hc
     .rename_i q1 L1 B1 hz hkl
      split at hc
      .rename_i q2 Bo hq2 hBo
       split at hc
       .rename_i B2 res' X hres
        split at hc
        .rename_i u hu
         split at hc
         .rename_i S z w;obtain⟨rfl,rfl,rfl,rfl,rfl⟩:=Cm hc;rw[Zr]at w;obtain⟨w,F⟩:=w;have F:=Qx F;have w:∀i∈g,i<B.length:=λi hi=>by have:=Mc w i hi;rwa[Jb]at this
          obtain⟨hqa,hqb⟩:=hq.app;have A:Pre g is:=λi j l=>by
           rw[I0]at l ⊢;rw[v,Zc (Qh.1 l).1];exact l
          let c:=B.length+is.length
          obtain⟨ha1,ha2⟩:=EG (c:=c) A K;obtain⟨hr1,_⟩:=EG (c:=c) (Pre.refl is) hres;obtain⟨hk1,G,hk3⟩:=Q30 (n:=n) hkl;obtain⟨_,he2⟩:=Qmg (c0:=c) A hq2 hqb;have Z:=Qnz hBo;obtain⟨hp1,hp2,U,hp4⟩:=Qe0 X;have hmv:=Qeb hms;have hi1:∀j,j<Bin.length->∃i,g[j]? = some i/\PN is c j=i:=λj l=>by
           have h1:g[j]? = some g[j]:=Qf Fo;exact⟨_,h1,NP A (by rw[I0];exact h1)⟩
          have E:∀j i,is[j]? = some i->i<c:=λj i l=>by
           have O:=(Qh.1 l).1;have hll:is.length=g.length+p.length:=by rw[v];simp
           rcases Q7 j g.length with h|h
           .rw[v,Zc h]at l;have:=w i (Qc l);simp only[c];omega
           .rw[v,Zy h]at l;have:=ES z _ _ l;have:=(Qh.1 l).1;simp only[c];omega
          have T:∀i j,PN is c i=PN is c j->i=j:=λi j e=>by
           simp only[PN,I0]at e;cases hi:is[i]? with
           |
            none =>
            cases l:is[j]? with
            |none=>simp only[hi,l]at e;omega
            |some b=>simp only[hi,l]at e;have:=E j b l;omega
           |
            some a =>
            cases l:is[j]? with
            |none=>simp only[hi,l]at e;have:=E i a hi;omega
            |some b=>simp only[hi,l]at e;subst e;exact gA S i j a hi l
          have y:∀j,j<Bin.length->∃i b,g[j]? = some i/\B1[i]? = some b/\(ob Bin j).lv=true/\((ob Bin j).mv=true->b.mv=true)/\JW b=JW (QX (PN is c) (ob Bin j))/\∀k∈(ob Bin j).ids,k<g.length:=λj l=>by
           have h1:=Qf l;rw[Pa h1];exact he2 j _ h1
          have hbg:∀j,¬j<Bin.length->ob Bin j=.gone:=λj l=>Sj Fo
          have hBoutl:Bo.length=Bout.length:=Z;refine W1.callD (ρ:=PN is c) (B1:=B1) (L1:=L1) I hce hg hd W Y hys ((PP hz hqa).trans ha1) T (λt ht i hi=>by have:=ha2 t ht i hi;omega) (λj i hi=>?_) (λj l=>?_) (λj l=>?_) (λj h1 h2=>?_) Fo hk1 G (λj l=>?_) (λj l=>?_) (λj l=>?_) (λi hi hn=>?_) (by rw[hp2,G];omega) ?_
          .rcases Q7 j Bin.length with l|l
           .obtain⟨_,_,_,_,_,_,_,h9⟩:=y j l;have:=h9 i hi;omega
           .rw[Sj l]at hi;simp[OB.ids]at hi
          .obtain⟨_,_,_,_,h5,_⟩:=y j l;exact h5
          .obtain⟨i,h1,h2⟩:=hi1 j l;rw[h2];exact w i (Qc h1)
          .have hll:is.length=g.length+p.length:=by rw[v];simp
           have h3:is[j]? = p[j-g.length]? := by rw[v,Zy Fo]
           have h4:p[j-g.length]? = some p[j-g.length]:=Qf Fo;have h5:=ES z _ _ h4;rw[h4]at h3;have:PN is c j=p[j-g.length]:=NP (Pre.refl is) (by rw[I0];exact h3);rw[this,h5,V]
          .have O:j<Bin.length:=by
            apply Classical.byContradiction;intro hn;rw[hbg j hn]at l;cases l
           obtain⟨i,h1,h2⟩:=hi1 j O;have hb:=Qf O;rw[Pa hb]at l;have:=hmv j i _ h1 hb l;rw[h2];refine⟨(hk3 i this).1,λm hm=>(hk3 i this).2 m λhmi=>?_⟩;obtain⟨C,hj'⟩:=Zm.1 hmi;have x:C<Bin.length:=by have:=(Qh.1 hj').1;omega
           obtain⟨i',h3,h4⟩:=hi1 C x;rw[hj']at h3;injection h3 with h3;exact hm C x (h4.trans h3.symm)
          .obtain⟨i,b,h1,h3,h5,h6,h7,_⟩:=y j l;obtain⟨i',D,h2⟩:=hi1 j l;rw[h1]at D;injection D with D;subst D
           rw[h2,Pa h3];exact⟨h7,h6⟩
          .have M:=Qvq (c:=c) (Pre.refl is) hBo j;rcases Q7 j Bin.length with h|h
           .obtain⟨i,h1,h2⟩:=hi1 j h;have hil:=w i (Qc h1);rw[h2];obtain⟨h3,h3m⟩:=U i Fo;rw[Zw]at h3;cases Q:MM g Bo i with
            |none=>exact absurd (Qc h1) (yM Fo Q)
            |
             some b =>
             rw[Q]at h3;have h3:ob B2 i=flO (ob B1 i) b:=h3;obtain⟨C,h4,h5⟩:=MN Q;have:C=j:=gA S C j i (by rw[v,Zc (Qh.1 h4).1];exact h4) (by rw[v,Zc (Qh.1 h1).1];exact h1);subst this;rw[Pa h5]at M;exact⟨by rw[h3,iW,M],λ_=>h3m⟩
           .have h1:=hp4 (j-Bin.length);have e1:g.length+(j-Bin.length)=j:=Fo;rw[e1]at h1;have hll:is.length=g.length+p.length:=by rw[v];simp
            have h3:is[j]? = p[j-g.length]? := by rw[v,Zy Fo]
            have h4:p[j-g.length]? = some p[j-g.length]:=Qf Fo;have h5:=ES z _ _ h4;rw[h4]at h3;have e2:PN is c j=p[j-g.length]:=NP (Pre.refl is) (by rw[I0];exact h3);rw[e2,h5,<-G,V,h1,M];exact⟨rfl,λh'=>Fo⟩
          .have h3:=(U i Fo).1;rw[Zw]at h3;cases Q:MM g Bo i with
           |none=>rw[Q]at h3;exact h3
           |
            some b =>
            obtain⟨C,h4,_⟩:=MN Q;have x:C<Bin.length:=by have:=(Qh.1 h4).1;omega
            obtain⟨i',h5,h6⟩:=hi1 C x;rw[h4]at h5;injection h5 with h5;exact absurd (h6.trans h5.symm) (hn C x)
          .rw[<-hr1,Qi9 hu];exact k
         .cases hc
        .cases hc
       .cases hc
      .cases hc
     .cases hc
    .cases hc
   .cases hc
  .cases hc
end Orr
namespace Orr
open Go
variable{P:Program}{n:Nat}{L L':Sg}{B B':Fg}{Q:Exit->Sg->Fg->Prop}
def YL:Ll->Ll->Ll
 | [],l=>l
 |x::r,l=>x::YL r l
theorem Bf:∀{a b:Ll},YL a b=a++b
 | [],_=>rfl
 |_::_,_=>by simp[YL,Bf]
def Qnd:List (H P)->Option Nat
 | @H.c _ f _ _ _ _ _ _::_=>some f
 | .p _::r=>Qnd r
 | .lo::r=>Qnd r
 |_=>none
def msF:List (Nat×Nat×String)->Nat->Option (Nat×String)
 | [],_=>none
 |
  (g,off,nm)::l,f=>match Nat.beq g f with
  |true=>some (off,nm)
  |false=>msF l f
theorem Qn7:∀{l:List (Nat×Nat×String)} {f off:Nat} {a:String},msF l f=some (off,a)->(f,off,a)∈l
 |
  (g,o,s)::l,f,off,a,h=>by
  simp only[msF]at h
  split at h
  .rename_i e;obtain rfl:=Qx e;injection h with h;injection h with h1 h2;subst h1;subst h2;exact Qy ..
  .exact Qi _ (Qn7 h)
def Qcr(T:TT P)(L:Sg)(h:List (H P))(c:Callee)(xs:List Operand):Option (Nat×Fh×Ll):=match c with
 |
  .value x=>match evT L x with
  |
   some (.one fv)=>match Qt2 fv with
   |
    some (f,pre,post)=>match evTs L xs with
    |
     some us=>match Ox (lI pre us post)with
     |some ys=>some (f,ys,[])
     |none=>none
    |none=>none
   |none=>none
  |_=>none
 |
  .invoke r name=>match evT L r,Qnd h with
  |
   some (.one (.oif t i off)),some f=>match T.find t with
   |
    some ti=>match msF ti.ms f with
    |
     some (d,nm)=>match lE off d,evTs L xs with
     |
      some s,some us=>match Ox (lI [.ow i s] us [])with
      |some ys=>some (f,ys,[(.s name,.s nm)])
      |none=>none
     |_,_=>none
    |none=>none
   |none=>none
  |_,_=>none
 | .builtin _=>none
def Qcs(q0:Ll)(L:Sg)(B:Fg)(h:List (H P))(d f:Nat)(ys:Fh):St P:=match Qlk L B h d f ys with
 |some (L',B',h',q,ob)=>some (L',B',h',YL q0 q,ob)
 |none=>none
theorem Qct{T:TT P}{arr:Array Oper}{o:Oper}{N:Kp}{h E:List (H P)}{q q0:Ll}{ob:List Prop}{d f:Nat}{m:Fh}{c:Callee}{xs:Array Operand}{v:Array TypeId}(A:o.op=.call { callee:=c,args:=xs,argTypes:=v })(hg:o.guard=none)(hd:o.dst=some d)(l:Nat.blt d n=true)
 (ha:Qcr T L h c xs.toList=some (f,m,q0)) (hc:Qcs q0 L B h d f m=some (L',B',E,q,ob)) (u:EqOk q) (k:N L' B'):W1 P arr n o N L B:=by
 unfold Qcs at hc
 split at hc
 .rename_i I J h2 q2 C j;obtain⟨rfl,rfl,rfl,rfl,rfl⟩:=Cm hc;rw[Bf]at u;have y:EqOk q0:=λp hp=>u p (Qr.2 (.inl hp))
  have g:EqOk q2:=λp hp=>u p (Qr.2 (.inr hp))
  unfold Qcr at ha
  split at ha
  .rename_i x
   split at ha
   .rename_i fv hx
    split at ha
    .rename_i f pre post hfv
     split at ha
     .rename_i us e
      split at ha
      .rename_i m b;injection ha with ha;injection ha with e1 ha;injection ha with e2 e3;subst e1;subst e2;exact pC (Cee.value A hx hfv) hg hd l e b j g k
      .cases ha
     .cases ha
    .cases ha
   .cases ha
  .rename_i r z
   split at ha
   .rename_i t i off f hr G
    split at ha
    .rename_i D w
     split at ha
     .rename_i dd F hms
      split at ha
      .rename_i s us hs e
       split at ha
       .rename_i m b;injection ha with ha;injection ha with e1 ha;injection ha with e2 e3;subst e1;subst e2;subst e3;have a:=y _ (Qk.2 rfl);injection a with a;subst a;have hm:=D.hms _ (Qn7 hms);rw[TT.find_t w]at hm;exact pC (Cee.invoke A hr hm (wN hs)) hg hd l e b j g k
       .cases ha
      .cases ha
     .cases ha
    .cases ha
   .cases ha
  .cases ha
 .cases hc
end Orr
namespace Orr
open Go
variable{P:Program}{arr:Array Oper}{n:Nat}{o:Oper}{F:Fr}{E:Li}{M:Nat->Prop}{a:Act}{w:World}
theorem Qwm{o:Oper}{a:Act}{w:World}{K1 K2:Act->World->Prop}{k Q2:Exit->Act->World->Prop}(hd:a.defers=[])
 (g:∀i w',K1 i w'->i.defers=[]/\((∃v,i=a.put o.dst v)->K2 i w')) (hp:∀c a w,¬k (.panic c) a w) (l:¬LetsOut k) (h:o.wp P a w K1 k):o.wp P a w K2 Q2:=by
 unfold Oper.wp at *;generalize (execOp a.eval o).run P w=r at *;cases r with
 |
  ok nx w' =>
  cases nx <;> simp only[Oper.upon]at h ⊢
  case value v=>exact(g _ _ h).2 ⟨v,rfl⟩
  case skip=>exact(g _ _ h).2 ⟨_,rfl⟩
  case defer d =>
   have:=(g _ _ h).1;cases b:o.dst <;> simp[Act.put,b]at this
  case enter f args =>
   refine Calls.mono h λe j he=>?_
   cases e with
   |returned v=>exact(g _ _ he).2 ⟨v,rfl⟩
   |panicked c=>exact absurd he (hp _ _ _)
   |outgrown=>exact absurd he l
  case row row args=>exact Rows.mono h λv j he=>(g _ _ he).2 ⟨v,rfl⟩
 |
  halt x w' =>
  cases x <;> simp only[Oper.upon]at h ⊢
  case panic v=>exact absurd h (hp _ _ _)
theorem Qqd{K1 K2:Act->World->Prop}{Q:Exit->Act->World->Prop}(hd:a.defers=[])(e:∀c w',K1 c w'->c.defers=[]/\((∃v,c=a.put o.dst v)->K2 c w'))(h:stp P arr o a w K1 λ_ _ _=>False):stp P arr o a w K2 Q:=by
 have b:¬LetsOut λ(_:Exit) (_:Act) (_:World)=>False:=λ⟨_,_,h⟩=>h
 unfold stp at *
 split
 .rename_i d;rw[if_pos d]at h;exact .inl (Qwm hd e (λ_ _ _ h=>h) b (h.resolve_right λh=>b h.2))
 .rename_i d;rw[if_neg d]at h;exact(e _ _ h).2 ⟨_,rfl⟩
structure SF(F:Fr)(n:Nat)(sl:Nat->Option AV)(bl:Nat->OB)(U:Nat->Prop)(E:Li)(M:Nat->Prop)(a:Act)(w:World):Prop where
 hs:HS F bl U E M w
 size:a.tmps.size=n
 defers:a.defers=[]
 slots:∀t x,sl t=some x->∃v,a.tmps[t]? = some v/\ARep w M E v x
def Bw{α:Type}:List (Nat×α)->Nat->Option α
 | [],_=>none
 |
  (t,v)::l,s=>match Nat.beq s t with
  |true=>some v
  |false=>Bw l s
def ZN{α:Type}(f:Nat->α)(l:List (Nat×α)):Nat->α:=λt=>match Bw l t with
 |some v=>v
 |none=>f t
structure Rc where
 L0:Sg
 B0:List OB
 L1:Sg
 B1:List OB
 ws:List (Nat×Option AV)
 wb:List (Nat×OB)
 mv:Option Nat
def Rc.act(r:Rc)(j:Nat):Prop:=(ob r.B0 j).lv=true\/r.B0.length<=j/\j<r.B1.length
structure Loc(r:Rc)(sl:Nat->Option AV)(bl:Nat->OB)(U:Nat->Prop):Prop where
 l0:∀t x,lk r.L0 t=some x->sl t=some x
 b0:∀j,(ob r.B0 j).lv=true->JW (bl j)=JW (ob r.B0 j)/\((ob r.B0 j).mv=true->(bl j).mv=true)/\∀b,Bw r.wb j=some b->b.mv=true->(bl j).mv=true
 new:∀j,r.B0.length<=j->j<r.B1.length->U j
 mvs:∀i,r.mv=some i->(∀t x,sl t=some x->i∈x.ids->(Bw r.ws t).isSome=true)/\∀j,i∈(bl j).ids->(Bw r.wb j).isSome=true
 kl:∀j b,Bw r.wb j=some b->¬r.act j->∃i,r.mv=some i/\KA (Ap i) (bl j)=some b
structure Wf(P:Program)(arr:Array Oper)(n:Nat)(o:Oper)(r:Rc):Prop where
 w1:W1 P arr n o (λL B=>L=r.L1/\B=r.B1) r.L0 r.B0
 ids0:∀t x,lk r.L0 t=some x->∀i∈x.ids,i<r.B0.length
 idsb:∀j,∀i∈(ob r.B0 j).ids,i<r.B0.length
 mv0:∀j,(ob r.B0 j).mv=true->r.mv=some j
 mv1:∀j,r.mv=some j->(ob r.B0 j).lv=true/\(Bw r.wb j).isSome=true
 ws1:∀t x,Bw r.ws t=some (some x)->lk r.L1 t=some x
 ws2:∀t,o.dst=some t->(Bw r.ws t).isSome=true
 wb1:∀j b,Bw r.wb j=some b->r.act j->JW b=JW (ob r.B1 j)
 wb2:∀j,r.act j->Bw r.wb j=none->JW (ob r.B1 j)=JW (ob r.B0 j)/\(ob r.B0 j).lv=true
theorem Qal:∀b:OB,QX id b=b
 |
  .blk T xs=>by
  have e:∀ys:Fe,ys.map (rD id)=ys:=λys=>by
   induction ys with
   |nil=>rfl
   |cons y ys c=>simp only[Xa,c];cases y <;> rfl
  have d:∀ys:Fe,ys.map (HK id)=ys:=λys=>by
   induction ys with
   |nil=>rfl
   |cons y ys c=>simp only[Xa,c];cases y <;> simp[HK,e]
  simp only[QX,d]
 | .gone=>rfl
 | .row .. => rfl
 | .mpb _=>rfl
theorem Loc.step{r:Rc}{sl:Nat->Option AV}{bl:Nat->OB}{U:Nat->Prop}(hl:Loc r sl bl U)(z:Wf P arr n o r)(h:SF F n sl bl U E M a w){K:Act->World->Prop}{Q:Exit->Act->World->Prop}
 (hK:∀G w' E' M',SF F n (ZN sl r.ws) (ZN bl r.wb) (λj=>U j/\¬(r.B0.length<=j/\j<r.B1.length)) E' M' G w'->K G w'):stp P arr o a w K Q:=by
 have B:∀j,(ob r.B0 j).lv=true->j<r.B0.length:=λj f=>by
  apply Classical.byContradiction;intro hn;rw[Sj Fo]at f;cases f
 have l:∀j,¬r.act j->OBRep w M E j (ZN bl r.wb j)/\(ZN bl r.wb j).lv=(bl j).lv/\(ZN bl r.wb j).mv=(bl j).mv/\(bl j=.gone->ZN bl r.wb j=.gone)/\∀i,r.mv=some i->i∉(ZN bl r.wb j).ids:=λj f=>by
  simp only[ZN]
  split
  .rename_i b hb;obtain⟨i,hi,u⟩:=hl.kl j b hb f;obtain⟨p,A,S⟩:=GA u;refine⟨hQ nH u (h.hs.blk j),p,A,S,λi' hi'=>?_⟩;rw[hi]at hi';injection hi' with hi';subst hi'
   cases W:bl j <;> rw[W]at u <;> simp only[KA,Option.some.injEq]at u <;> first|(rw[<-u];simp[OB.ids];done)|skip
   split at u
   .rename_i r' V;injection u with u;rw[<-u];exact TA (λ_ _=>MA) V
   .cases u
  .rename_i hb;refine⟨h.hs.blk j,rfl,rfl,id,λi hi hm=>?_⟩;have:=(hl.mvs i hi).2 j hm;rw[hb]at this;cases this
 let k:Nat->OB:=λj=>if (ob r.B0 j).lv=true then ob r.B0 j else if r.B0.length<=j/\j<r.B1.length then bl j else ZN bl r.wb j
 have C:∀j,(ob r.B0 j).lv=true->k j=ob r.B0 j:=λj f=>if_pos f
 have H:∀j,¬r.act j->k j=ZN bl r.wb j:=λj f=>by
  simp only[k];rw[if_neg λh=>f (.inl h),if_neg λh=>f (.inr h)]
 have Z:∀j,r.B0.length<=j/\j<r.B1.length->k j=bl j:=λj f=>by
  simp only[k];rw[if_neg λh=>by have:=B j h;omega,if_pos f]
 have q:∀j,(ob r.B0 j).lv=true\/(r.B0.length<=j/\j<r.B1.length)\/¬r.act j:=λj=>by
  by_cases h1:(ob r.B0 j).lv=true
  .exact .inl h1
  .by_cases h2:r.B0.length<=j/\j<r.B1.length
   .exact .inr (.inl h2)
   .exact .inr (.inr λh=>h.elim h1 h2)
 have s:HS F k U E M w:=by
  have h1:∀j,OBRep w M E j (k j)/\(k j).lv=(bl j).lv/\((k j).mv=true->(bl j).mv=true)/\(bl j=.gone->k j=.gone):=λj=>by
   rcases q j with f|f|f
   .rw[C j f];obtain⟨p,A,_⟩:=hl.b0 j f;exact⟨Qdm p (h.hs.blk j),(MB p).symm,A,λe=>by rw[e]at p;have:=MB p;rw[f]at this;cases this⟩
   .rw[Z j f];exact⟨h.hs.blk j,rfl,id,id⟩
   .rw[H j f];obtain⟨p,A,S,e4,_⟩:=l j f;exact⟨p,A,λh=>S ▸ h,e4⟩
  exact { h.hs with
   nj:=λi hi=>h.hs.nj i ((h1 i).2.2.1 hi)
   blk:=λi=>(h1 i).1
   nk:=λi g c m hi=>h.hs.nk i g c m (by rw[<-(h1 i).2.1];exact hi)
   inj:=λi j g c m c' m' hi f=>h.hs.inj i j g c m c' m' (by rw[<-(h1 i).2.1];exact hi) (by rw[<-(h1 j).2.1];exact f)
   un:=λi hi=>⟨(h.hs.un i hi).1,(h1 i).2.2.2 (h.hs.un i hi).2⟩ }
 let E':Li:=λj=>if r.B0.length<=j then none else E j
 have D:∀j,j<r.B0.length->E' j=E j:=λj f=>if_neg Fo
 have J:HS (prt (ob r.B0) (nw r.B0) E' M w) (ob r.B0) (nw r.B0) E' M w:=s.sub (ρ:=id) (λj f=>by rw[Qal];exact C j f)
  (λ_ _ e=>e) (λj f=>Sj f) (λj f=>if_pos f) (λj f=>D j (by simpa[nw]using f)) (λj i hi=>by have:=z.idsb j i hi;simp only[nw];omega)
 have T:SA (prt (ob r.B0) (nw r.B0) E' M w) n r.L0 r.B0 E' M a w:=⟨J,h.size,h.defers,λt x hx=>by
  obtain⟨v,h1,h2⟩:=h.slots t x (hl.l0 t x hx);exact⟨v,h1,h2.keep (Le.refl _ _) λi hi _=>D i (z.ids0 t x hx i hi)⟩⟩
 refine Qqd (K1:=λG w'=>∃E1 I,SA (prt (ob r.B0) (nw r.B0) E' M w) n r.L1 r.B1 E1 I G w') h.defers (λG w' ⟨E1,I,h1⟩=>⟨h1.defers,λ⟨v,ha⟩=>?_⟩) (z.w1 _ _ _ _ _ _ _ T λG w' L' B' E1 I h1 ⟨p,A⟩=>by subst p;subst A;exact⟨E1,I,h1⟩);have R:∀j,r.act j\/¬r.act j:=λj=>Classical.em _
 let E2:Li:=λj=>if (ob r.B0 j).lv=true\/r.B0.length<=j/\j<r.B1.length then E1 j else E j
 let bl2:Nat->OB:=λj=>if (ob r.B0 j).lv=true\/r.B0.length<=j/\j<r.B1.length then ob r.B1 j else k j
 have O:Back k (ob r.B0) (ob r.B1) bl2 U (nw r.B0) (nw r.B1) (λj=>U j/\¬(r.B0.length<=j/\j<r.B1.length)) E E' E1 E2 id r.act:={
  inj:=λ_ _ e=>e
  hb:=λj f=>by rw[Qal];exact C j f
  e':=λj f=>D j (by simpa[nw]using f)
  a0:=λj f=>⟨.inl f,by have:=B j f;simp only[nw];omega⟩
  a1:=λj f=>f.imp id λh=>⟨h.1,hl.new j h.1 h.2⟩
  a2:=λj h1 h2=>.inr ⟨h1,by simpa[nw]using h2⟩
  hit:=λj f=>⟨if_pos f,by rw[Qal];exact if_pos f⟩
  no:=λi hi=>⟨if_neg λh=>hi i h rfl,if_neg λh=>hi i h rfl⟩
  u2:=λi hi=>⟨hi.1,λj f e=>by
   have e:j=i:=e;subst e;rcases f with f|f
   .have h1:=(h.hs.un j hi.1).2;have h2:=(hl.b0 j f).1;rw[h1]at h2;rw[<-MB h2]at f;cases f
   .exact hi.2 f⟩
  mv:=λj f i hi hm=>by
   have hn:¬r.act i:=λh=>hi i h rfl
   rw[H i hn]at hm;exact(l i hn).2.2.2.2 j (z.mv0 j f) hm }
 have hs2:=HS.back O s h1.hs;have X:=LQ O s h1.hs;have hfl:HS F (ZN bl r.wb) (λj=>U j/\¬(r.B0.length<=j/\j<r.B1.length)) E2 I w':=by
  refine hs2.flag (λj=>?_) λj f=>?_
  .rcases R j with f|f
   .rw[show bl2 j=ob r.B1 j from if_pos f];simp only[ZN]
    split
    .rename_i b hb;exact(z.wb1 j b hb f).symm
    .rename_i hb;obtain⟨p,A⟩:=z.wb2 j f hb;exact p.trans (hl.b0 j A).1.symm
   .rw[show bl2 j=k j from if_neg f,H j f]
  .rcases q j with hj'|hj'|hj'
   .simp only[ZN]at f
    split at f
    .rename_i b hb;exact h.hs.nj j ((hl.b0 j hj').2.2 b hb f)
    .exact h.hs.nj j f
   .exact h.hs.uj j (hl.new j hj'.1 hj'.2)
   .rw[(l j hj').2.2.1]at f;exact h.hs.nj j f
 refine hK G w' E2 I ⟨hfl,h1.size,h1.defers,λt x hx=>?_⟩;simp only[ZN]at hx
 split at hx
 .rename_i y N;subst hx;obtain⟨v',h2,h3⟩:=h1.slots t x (z.ws1 t x N);exact⟨v',h2,h3.keep (Le.refl _ _) λi _ hi=>EA O s h1.hs hi⟩
 .rename_i N;have Y:o.dst≠some t:=λe=>by have:=z.ws2 t e;rw[N]at this;cases this
  obtain⟨v',h2,h3⟩:=h.slots t x hx;refine⟨v',?_,h3.keep X λi hi L=>PL O s h1.hs L λj f e=>?_⟩
  .rw[ha];cases hd:o.dst with
   |none=>exact h2
   |
    some d =>
    simp only[Act.put];rw[Array.getElem?_setIfInBounds_ne (λe=>Y (by rw[hd,e]))];exact h2
  .have e:j=i:=e;subst e;have:=(hl.mvs j (z.mv0 j f)).1 t x hx hi;rw[N]at this;cases this
end Orr
namespace Orr
open Go
variable{P:Program}{n:Nat}{Q:Exit->Act->World->Prop}{F:Fr}
def Rc.nw_(r:Rc)(j:Nat):Prop:=r.B0.length<=j/\j<r.B1.length
def Ov(mvs:Fa)(r:Rc)(sl:Nat->Option AV)(bl:Nat->OB):Prop :=
 (∀t y,(Bw r.ws t).isSome=true->sl t=some y->∀i∈y.ids,i∈mvs->r.mv=some i)/\∀j,(Bw r.wb j).isSome=true->∀i∈(bl j).ids,i∈mvs->r.mv=some i
def DR(R:Nat->Rc)(mvs:Fa)(N:(Nat->Option AV)->(Nat->OB)->(Nat->Prop)->Prop):Fa->(Nat->Option AV)->(Nat->OB)->(Nat->Prop)->Prop
 | [],sl,bl,U=>N sl bl U
 |i::l,sl,bl,U=>Loc (R i) sl bl U/\Ov mvs (R i) sl bl/\DR R mvs N l (ZN sl (R i).ws) (ZN bl (R i).wb) (λj=>U j/\¬(R i).nw_ j)
structure Dj1(p x:Rc):Prop where
 rd:∀t,(Bw p.ws t).isSome=true->lk x.L0 t=none
 ws:∀t,(Bw p.ws t).isSome=true->Bw x.ws t=none
 wb:∀j,(Bw p.wb j).isSome=true->(ob x.B0 j).lv=false/\Bw x.wb j=none
 mv:∀i,p.mv=some i->(∀t y,Bw x.ws t=some (some y)->i∉y.ids)/\∀j b,Bw x.wb j=some b->i∉b.ids
 nw:∀j,p.nw_ j->¬x.nw_ j
variable{α:Type}
theorem D9{o:Option α}(h:¬o.isSome=true):o=none:=by cases o <;> first|rfl|(exact absurd rfl h)
theorem Nt{f:Nat->α}{l:List (Nat×α)}{t:Nat}(h:Bw l t=none):ZN f l t=f t:=by simp[ZN,h]
variable{mvs:Fa}{sl:Nat->Option AV}{bl:Nat->OB}{U:Nat->Prop}
theorem Dj1.loc{p x:Rc}(d:Dj1 p x)(d':Dj1 x p)(hx:x.mv.all (mvs.contains ·)=true)(f:∀j,x.mv=some j->(ob x.B0 j).lv=true)(k:∀j,p.mv=some j->(Bw p.wb j).isSome=true)(l:Ov mvs p sl bl)
 (h:Loc x (ZN sl p.ws) (ZN bl p.wb) λj=>U j/\¬p.nw_ j):Loc x sl bl U:=by
 have c:∀i,x.mv=some i->i∈mvs/\p.mv≠some i:=λi hi=>by
  rw[hi]at hx;refine⟨by simpa using hx,λe=>?_⟩;have:=(d.wb i (k i e)).1;rw[f i hi]at this;cases this
 refine⟨λt y a=>?_,λj g=>?_,λj h1 h2=>(h.new j h1 h2).1,λi hi=>⟨λt y a hm=>?_,λj hm=>?_⟩,λj b hb hn=>?_⟩
 .have h1:=h.l0 t y a;rwa[Nt (D9 λe=>by rw[d.rd t e]at a;cases a)]at h1
 .have h1:=h.b0 j g;rwa[Nt (D9 λe=>by rw[(d.wb j e).1]at g;cases g)]at h1
 .by_cases e:(Bw p.ws t).isSome=true
  .obtain⟨h1,h2⟩:=c i hi;exact absurd (l.1 t y e a i hm h1) h2
  .exact(h.mvs i hi).1 t y (by rw[Nt (D9 e)];exact a) hm
 .by_cases e:(Bw p.wb j).isSome=true
  .obtain⟨h1,h2⟩:=c i hi;exact absurd (l.2 j e i hm h1) h2
  .exact(h.mvs i hi).2 j (by rw[Nt (D9 e)];exact hm)
 .have h1:=h.kl j b hb hn;rwa[Nt (d'.wb j (by rw[hb];rfl)).2]at h1
theorem Dj1.loc'{p x:Rc}(d:Dj1 p x)(d':Dj1 x p)(h:Loc p sl bl U):Loc p (ZN sl x.ws) (ZN bl x.wb) λj=>U j/\¬x.nw_ j:=by
 refine⟨λt y a=>?_,λj c=>?_,λj h1 h2=>⟨h.new j h1 h2,λh3=>d.nw j ⟨h1,h2⟩ h3⟩,λi hi=>⟨λt y a hm=>?_,λj hm=>?_⟩,λj b hb hn=>?_⟩
 .rw[Nt (D9 λe=>by rw[d'.rd t e]at a;cases a)];exact h.l0 t y a
 .rw[Nt (D9 λe=>by rw[(d'.wb j e).1]at c;cases c)];exact h.b0 j c
 .simp only[ZN]at a
  split at a
  .rename_i v hv;subst a;exact absurd hm ((d.mv i hi).1 t y hv)
  .exact(h.mvs i hi).1 t y a hm
 .simp only[ZN]at hm
  split at hm
  .rename_i b hb;exact absurd hm ((d.mv i hi).2 j b hb)
  .exact(h.mvs i hi).2 j hm
 .rw[Nt (d.wb j (by rw[hb];rfl)).2];exact h.kl j b hb hn
theorem Ov.of{r a:Rc}(d:Dj1 r a)(h:Ov mvs r sl bl):Ov mvs r (ZN sl a.ws) (ZN bl a.wb) :=
 ⟨λt y ht c=>h.1 t y ht (by rwa[Nt (d.ws t ht)]at c),λj b i hi=>h.2 j b i (by rwa[Nt (d.wb j b).2]at hi)⟩
theorem Ov.to{r a:Rc}(d:Dj1 r a)(h:Ov mvs r (ZN sl a.ws) (ZN bl a.wb)):Ov mvs r sl bl :=
 ⟨λt y ht c=>h.1 t y ht (by rw[Nt (d.ws t ht)];exact c),λj b i hi=>h.2 j b i (by rw[Nt (d.wb j b).2];exact hi)⟩
theorem lW{f:Nat->α}{a b:List (Nat×α)}(h:∀t,(Bw a t).isSome=true->Bw b t=none):ZN (ZN f a) b=ZN (ZN f b) a:=by
 funext t;simp only[ZN];cases ha:Bw a t with
 |none=>cases Bw b t <;> rfl
 |some v=>rw[h t (by rw[ha];rfl)]
section
variable{R:Nat->Rc}{mvs:Fa}{N:(Nat->Option AV)->(Nat->OB)->(Nat->Prop)->Prop}
structure Dj(mvs:List Nat)(p x:Rc):Prop where
 a:Dj1 p x
 b:Dj1 x p
 m:x.mv.all (mvs.contains ·)=true
 x1:∀j,x.mv=some j->(ob x.B0 j).lv=true
 p1:∀j,p.mv=some j->(Bw p.wb j).isSome=true
theorem DR.swap{p x:Nat}{l:Fa}{sl:Nat->Option AV}{bl:Nat->OB}{U:Nat->Prop}(d:Dj mvs (R p) (R x))(h:DR R mvs N (p::x::l) sl bl U):DR R mvs N (x::p::l) sl bl U:=by
 obtain⟨h1,h2,h3,h4,h5⟩:=h;refine⟨d.a.loc d.b d.m d.x1 d.p1 h2 h3,h4.to d.b,d.a.loc' d.b h1,h2.of d.a,?_⟩;rw[lW (a:=(R x).ws) (b:=(R p).ws) d.b.ws,lW (a:=(R x).wb) (b:=(R p).wb) λj f=>(d.b.wb j f).2];have e:(λj=>(U j/\¬(R x).nw_ j)/\¬(R p).nw_ j)=λj=>(U j/\¬(R p).nw_ j)/\¬(R x).nw_ j:=by
  funext j;exact propext ⟨λ⟨⟨a,b⟩,c⟩=>⟨⟨a,c⟩,b⟩,λ⟨⟨a,b⟩,c⟩=>⟨⟨a,c⟩,b⟩⟩
 rw[e];exact h5
theorem DR.front{i:Nat}:∀{l1 l2:Fa} {sl:Nat->Option AV} {bl:Nat->OB} {U:Nat->Prop},(∀p∈l1,Dj mvs (R p) (R i))->DR R mvs N (l1++i::l2) sl bl U->DR R mvs N (i::(l1++l2)) sl bl U
 | [],_,_,_,_,_,h=>h
 |
  p::l1,l2,sl,bl,U,hd,h=>by
  obtain⟨h1,h2,h3⟩:=h;exact DR.swap (hd p (.head _)) ⟨h1,h2,DR.front (l1:=l1) (λq a=>hd q (.tail _ a)) h3⟩
end
def FB(ops:List Oper)(i:Nat):Fa:=match ops[i]? with
 |none=>[]
 |some o=>o.after.toList.filterMap λe=>if Region.binds .any e then some e.on else none
structure Cl(l:List Oper)(cl:Nat->Nat->Bool):Prop where
 down:∀i,i<l.length->∀j∈FB l i,j<i
 closed:∀i,i<l.length->∀p,cl i p=true->p∈FB l i\/∃j∈FB l i,cl j p=true
variable{l:List Oper}{a:Array Bool}
theorem NS{i:Nat}:i∈Region.ready .any l.toArray a↔a.getD i true=false/\i<l.length/\∀j∈FB l i,a.getD j false=true:=by
 constructor
 .intro h;obtain⟨h0,o,g,c⟩:=mem_ready.1 h;have d:l[i]? = some o:=by simpa using g
  refine⟨h0,(Qh.1 d).1,λj f=>?_⟩;simp only[FB,d,Jm]at f;obtain⟨e,he,hb⟩:=f
  split at hb
  .rename_i b;injection hb with hb;subst hb;exact c e (by simpa using he) b
  .cases hb
 .rintro⟨h0,hi,hp⟩
  refine mem_ready.2 ⟨h0,l[i],by simp[hi],λe he hb=>hp _ ?_⟩;simp only[FB,Qf hi,Jm];exact⟨e,by simpa using he,by simp[hb]⟩
theorem fU{j:Nat}(b:j<a.size):a.getD j true=a.getD j false:=by simp[Array.getD,b]
theorem Ql3{R:Nat->Rc}{mvs:Fa}{cl:Nat->Nat->Bool}{N:(Nat->Option AV)->(Nat->OB)->(Nat->Prop)->Prop}(hc:Cl l cl)(hw:∀i o,l[i]? = some o->Wf P l.toArray n o (R i))(hd:∀i,i<l.length->∀p,p<i->cl i p=false->Dj mvs (R p) (R i))
 (y:∀a w sl bl U E M,SF F n sl bl U E M a w->N sl bl U->Q .normal a w) :
 ∀(d:Nat) (listed:Array Bool) (c:Fa) (sl:Nat->Option AV) (bl:Nat->OB) (U:Nat->Prop) (E:Li) (M:Nat->Prop) (a:Act) (w:World),listed.size=l.length->c.Pairwise (· < ·)->(∀j,j∈c↔j<l.length/\listed.getD j true=false)->c.length<=d ->
  (∀i,i<l.length->listed.getD i true=true->∀j∈FB l i,listed.getD j true=true) ->
  DR R mvs N c sl bl U->SF F n sl bl U E M a w->wpAny P .any l.toArray Q d listed a w:=by
 intro d;have G:∀(listed:Array Bool) (c:Fa),listed.size=l.length->c.Pairwise (· < ·)->(∀j,j∈c↔j<l.length/\listed.getD j true=false)->Region.ready .any l.toArray listed=[]->c=[]:=λlisted c hs hp hm hr=>by
  cases c with
  |nil=>rfl
  |
   cons i c =>
   have hi:=(hm i).1 (.head _);have:i∈Region.ready .any l.toArray listed:=NS.2 ⟨hi.2,hi.1,λj r=>by
    have m:=hc.down i hi.1 j r;rw[<-fU Fo];cases e:listed.getD j true with
    |true=>rfl
    |
     false =>
     have v:=(hm j).2 ⟨Fo,e⟩;rcases Qm.1 v with rfl|v
     .omega
     .have:=(Zk.1 hp).1 j v;omega⟩
   rw[hr]at this;cases this
 induction d with
 |
  zero =>
  intro listed c sl bl U E M a w hs hp hm hl x h t;have:c=[]:=Qg Fo;subst this;refine⟨?_,y _ _ _ _ _ _ _ t h⟩;apply List.eq_nil_iff_forall_not_mem.2;intro j r;obtain⟨h0,X,_⟩:=NS.1 r;exact absurd ((hm j).2 ⟨X,h0⟩) Ft
 |
  succ d ih =>
  intro listed c sl bl U E M a w hs hp hm hl x h t;refine⟨λhr=>?_,λi hi=>?_⟩
  .have:=G listed c hs hp hm hr;subst this;exact y _ _ _ _ _ _ _ t h
  .obtain⟨h0,f,J⟩:=NS.1 hi;obtain⟨l1,l2,rfl⟩:=List.append_of_mem ((hm i).2 ⟨f,h0⟩);have g:=Ja.1 hp;have z:∀p∈l1,p<i:=λp s=>g.2.2 p s i (.head _)
   have u:∀j,cl i j=true->listed.getD j true=true:=by
    have W:∀k,k<l.length->(∀j∈FB l k,listed.getD j true=true)->∀j,cl k j=true->listed.getD j true=true:=by
     intro k
     induction k using Nat.strongRecOn with
     |
      _ k ihk =>
      intro K A j r;rcases hc.closed k K j r with h1|⟨q,C,L⟩
      .exact A j h1
      .have S:=hc.down k K q C;exact ihk q S Fo (x q Fo (A q C)) j L
    exact λj r=>W i f (λq y=>by have:=hc.down i f q y;rw[fU Fo];exact J q y) j r
   have O:∀p∈l1,Dj mvs (R p) (R i):=λp s=>hd i f p (z p s) (by
    cases e:cl i p with
    |false=>rfl
    |
     true =>
     have h1:=u p e;have h2:=((hm p).1 (Qr.2 (.inl s))).2;rw[h1]at h2;cases h2)
   obtain⟨h1,_,h3⟩:=DR.front O h;have Y:l[i]? = some l[i]:=Qf f;unfold wpOp;have T:l.toArray[i]? = some l[i]:=by simpa using Y
   simp only[T];refine h1.step (hw i _ Y) t (Q:=Q) λZ w' E' M' B=>?_
   refine ih _ (l1++l2) _ _ _ E' M' Z w' (by simp[hs]) ?_ (λj=>?_) (by simp at hl ⊢;omega) (λk K D j r=>?_) h3 B
   .refine Ja.2 ⟨g.1,(Zk.1 g.2.1).2,λa ha b hb=>g.2.2 a ha b (.tail _ hb)⟩
   .by_cases m:i=j
    .subst m;have:i∉l1++l2:=λV=>by
      rcases Qr.1 V with h|h
      .exact Nat.lt_irrefl _ (z i h)
      .exact Nat.lt_irrefl _ ((Zk.1 g.2.1).1 i h)
     simp[this,hs,f]
    .rw[getD_set_ne true m,<-hm j];simp[Ne.symm m]
   .by_cases H:i=k
    .subst H;have m:=hc.down i f j r;rw[getD_set_ne true Fo,fU Fo];exact J j r
    .rw[getD_set_ne true H]at D;have h2:=x k K D j r;by_cases I:i=j
     .subst I;rw[h0]at h2;cases h2
     .rw[getD_set_ne true I];exact h2
end Orr
namespace Orr
open Go
variable{P:Program}{n:Nat}
theorem oQ:∀{L:Sg} {t:Nat} {x:AV},lk L t=some x->(t,x)∈L
 |
  (s,v)::L,t,x,h=>by
  simp only[lk]at h
  split at h
  .rename_i e;injection h with h;subst h;rw[Nat.eq_of_beq_eq_true e];exact .head _
  .exact .tail _ (oQ h)
theorem YY{α:Type}:∀{L:List (Nat×α)} {t:Nat} {x:α},Bw L t=some x->(t,x)∈L
 |
  (s,v)::L,t,x,h=>by
  simp only[Bw]at h
  split at h
  .rename_i e;injection h with h;subst h;rw[Nat.eq_of_beq_eq_true e];exact .head _
  .exact .tail _ (YY h)
def tsl:List Operand->Fa
 | []=>[]
 | .tmp t::r=>t::tsl r
 |_::r=>tsl r
def gsl(arr:Array Oper)(o:Oper):Fa:=match o.guard with
 |none=>tsl o.op.operands.toList
 |
  some (j,_)=>match (arr[j]?).bind (·.dst)with
  |some t=>t::tsl o.op.operands.toList
  |none=>tsl o.op.operands.toList
def rsl(L:Sg):Fa->Option Sg
 | []=>some []
 |
  t::r=>match rsl L r with
  |
   some q=>match lk L t with
   |some v=>some ((t,v)::q)
   |none=>some q
  |none=>none
theorem Qau{L:Sg}:∀{b:Fa} {L0:Sg},rsl L b=some L0->∀t x,lk L0 t=some x->lk L t=some x
 | [],L0,h,t,x,hx=>by simp only[rsl,Option.some.injEq]at h;subst h;cases hx
 |
  s::r,L0,h,t,x,hx=>by
  simp only[rsl]at h
  split at h
  .rename_i q a
   split at h
   .rename_i v hv;injection h with h;subst h;simp only[lk]at hx
    split at hx
    .rename_i e;injection hx with hx;subst hx;rw[Nat.eq_of_beq_eq_true e];exact hv
    .exact Qau a t x hx
   .injection h with h;subst h;exact Qau a t x hx
  .cases h
def Q3t:Sg->Fa
 | []=>[]
 |(_,v)::l=>v.ids++Q3t l
def fxF:OB->Option OB
 | .row _ T sz ls=>some (.row true T sz ls)
 |b=>some b
theorem Q0i{b c:OB}(h:fxF b=some c):JW b=JW c/\c.mv=false:=by
 cases b <;> simp only[fxF,Option.some.injEq]at h <;> subst h <;> exact⟨rfl,rfl⟩
def isI(mv:Option Nat)(k:Nat):Bool:=match mv with
 |some i=>Nat.beq i k
 |none=>false
variable{k:Nat}
theorem Qnk{mv:Option Nat}(h:isI mv k=true):mv=some k:=by
 cases mv with
 |none=>cases h
 |some i=>rw[Qx h]
def Qn2(
 ids:Fa) (mv:Option Nat):Nat->Fg->Option Fg
  |_,[]=>some []
  |
   k,b::l=>match Qn2 ids mv (k+1) l with
   |
    some r=>match Bj k ids with
    |
     true=>match isI mv k with
     |true=>some (b::r)
     |
      false=>match fxF b with
      |some c=>some (c::r)
      |none=>none
    |false=>some (.gone::r)
   |none=>none
theorem nC{ids:Fa}{mv:Option Nat}:∀{l:Fg} {k:Nat} {r:Fg},Qn2 ids mv k l=some r->r.length=l.length/\∀(j:Nat) (b:OB),l[j]? = some b->∃c,r[j]? = some c/\(c.lv=true->JW b=JW c/\(c.mv=true->b.mv=true/\mv=some (k+j)))
 | [],k,r,h=>by simp only[Qn2,Option.some.injEq]at h;subst h;exact⟨rfl,λj b hb=>by simp at hb⟩
 |
  b::l,k,r,h=>by
  simp only[Qn2]at h
  split at h
  .rename_i q f;obtain⟨h1,h2⟩:=nC f;have a:∀c,(c.lv=true->JW b=JW c/\(c.mv=true->b.mv=true/\mv=some k))->r=c::q->r.length=(b::l).length/\∀(j:Nat) (b':OB),(b::l)[j]? = some b'->∃c,r[j]? = some c/\(c.lv=true->JW b'=JW c/\(c.mv=true->b'.mv=true/\mv=some (k+j))):=λc hc e=>by
    subst e;refine⟨by simp[h1],λj b' hb=>?_⟩;cases j with
    |zero=>simp at hb;subst hb;exact⟨c,rfl,hc⟩
    |
     succ j =>
     obtain⟨c',h3,h4⟩:=h2 j b' (by simpa using hb);exact⟨c',by simpa using h3,by rw[show k+(j+1)=k+1+j from Fo];exact h4⟩
   split at h
   .split at h
    .rename_i e;injection h with h;exact a b (λ_=>⟨rfl,λh=>⟨h,Qnk e⟩⟩) h.symm
    .split at h
     .rename_i c hc;injection h with h;obtain⟨g,d⟩:=Q0i hc;exact a c (λ_=>⟨g,λh=>by rw[d]at h;cases h⟩) h.symm
     .cases h
   .injection h with h;exact a .gone (λh=>by cases h) h.symm
  .cases h
def Q6b(L0:Sg):Op->Option Nat
 |
  .call { callee:=.builtin .append,args:=xs,argTypes:=_ }=>match xs.toList with
  |
   x::_=>match evT L0 x with
   |some (.one (.orow i _ _))=>some i
   |_=>none
  | []=>none
 |_=>none
def Q4y(L0:Sg)(mv:Option Nat):Op->Fa
 |
  .store _ x _=>match evT L0 x with
  |some (.one (.ow i _))=>[i]
  |some (.one (.oel i _ _ _))=>[i]
  |_=>[]
 |
  .call { callee:=.builtin .copy,args:=xs,argTypes:=_ }=>match xs.toList with
  |
   x::_=>match evT L0 x with
   |some (.one (.orow i _ _))=>[i]
   |_=>[]
  | []=>[]
 |
  _=>match mv with
  |some i=>[i]
  |none=>[]
def Qdx(mv:Option Nat):Sg->Option Fa
 | []=>some []
 |
  (t,v)::l=>match Qdx mv l with
  |
   some r=>match mv with
   |
    some i=>match Bj i v.ids with
    |true=>some (t::r)
    |false=>some r
   |none=>some r
  |none=>none
theorem MI{mv:Option Nat}{i:Nat}(hi:mv=some i):∀{L:Sg} {ks:Fa},Qdx mv L=some ks->∀t v,(t,v)∈L->i∈v.ids->t∈ks
 | [],_,_,t,v,h,_=>by cases h
 |
  (s,u)::L,ks,h,t,v,hm,hv=>by
  subst hi;simp only[Qdx]at h
  split at h
  .rename_i r hr
   split at h
   .injection h with h;subst h;rcases Qm.1 hm with e|hm
    .injection e with e1 e2;subst e1;exact .head _
    .exact .tail _ (MI rfl hr t v hm hv)
   .rename_i hn;injection h with h;subst h;rcases Qm.1 hm with e|hm
    .injection e with e1 e2;subst e2;rw[Pp.2 hv]at hn;cases hn
    .exact MI rfl hr t v hm hv
  .cases h
def rmv(ks:Fa):Sg->Option Sg
 | []=>some []
 |
  (t,v)::l=>match rmv ks l with
  |
   some r=>match Bj t ks with
   |true=>some r
   |false=>some ((t,v)::r)
  |none=>none
theorem Qpg{ks:Fa}:∀{L a:Sg},rmv ks L=some a->∀t,lk a t=if Bj t ks=true then none else lk L t
 | [],a,h,t=>by simp only[rmv,Option.some.injEq]at h;subst h;simp[lk]
 |
  (s,v)::L,a,h,t=>by
  simp only[rmv]at h
  split at h
  .rename_i r hr;have b:=Qpg hr t
   split at h
   .rename_i hm;injection h with h;subst h;rw[b];simp only[lk]
    split
    .rfl
    .rename_i hn
     split
     .rename_i e;rw[Nat.eq_of_beq_eq_true e]at hn;exact absurd hm hn
     .rfl
   .rename_i hm;injection h with h;subst h;simp only[lk]
    split
    .rename_i e;rw[Nat.eq_of_beq_eq_true e,hm];rfl
    .exact b
  .cases h
def CU:Fa->List (Nat×Option AV)
 | []=>[]
 |t::l=>(t,none)::CU l
theorem Ob{t:Nat}:∀{ks:Fa},Bw (CU ks) t=if Bj t ks=true then some none else none
 | []=>by simp[CU,Bw,Bj]
 |
  s::ks=>by
  by_cases e:Nat.beq t s=true
  .simp only[CU,Bw,Bj,e,if_true]
  .have e:Nat.beq t s=false:=by cases h:Nat.beq t s <;> first|rfl|exact absurd h e
   simp only[CU,Bw,Bj,e];exact Ob
def dWs(dst:Option Nat)(L1 Lg:Sg)(ks:Fa):Option (List (Nat×Option AV)×Sg):=match rmv ks Lg with
 |
  some L'=>match dst with
  |
   some d=>match lk L1 d with
   |some u=>some ((d,some u)::CU ks,(d,u)::L')
   |none=>none
  |none=>some (CU ks,L')
 |none=>none
theorem Qz2{a:Option Nat}{L1 b c:Sg}{ks:Fa}{ws:List (Nat×Option AV)}(h:dWs a L1 b ks=some (ws,c)):lk c=ZN (lk b) ws/\(∀t x,Bw ws t=some (some x)->lk L1 t=some x)/\(∀t,a=some t->(Bw ws t).isSome=true)/\∀t∈ks,(Bw ws t).isSome=true:=by
 unfold dWs at h
 split at h
 .rename_i f hr;have h2:=Qpg hr;have h3:lk f=ZN (lk b) (CU ks):=by
   funext t;rw[h2 t];simp only[ZN,Ob]
   split <;> rfl
  split at h
  .rename_i d
   split at h
   .rename_i u hu;injection h with h;injection h with e1 e2;subst e1;subst e2;refine⟨?_,λt x hx=>?_,λt ht=>?_,λt ht=>?_⟩
    .funext t;simp only[lk,ZN,Bw];cases e:Nat.beq t d
     .rw[h3];rfl
     .rfl
    .simp only[Bw]at hx
     split at hx
     .rename_i e;injection hx with hx;injection hx with hx;subst hx;rw[Nat.eq_of_beq_eq_true e];exact hu
     .rw[Ob]at hx
      split at hx <;> cases hx
    .injection ht with ht;subst ht;simp[Bw]
    .simp only[Bw]
     split
     .rfl
     .rw[Ob,if_pos (Pp.2 ht)];rfl
   .cases h
  .injection h with h;injection h with e1 e2;subst e1;subst e2;refine⟨h3,λt x hx=>?_,λt ht=>by(cases ht),λt ht=>?_⟩
   .rw[Ob]at hx
    split at hx <;> cases hx
   .rw[Ob,if_pos (Pp.2 ht)];rfl
 .cases h
def dWb(wr:Fa)(mv:Option Nat):Nat->Fg->Fg->Fg->Option (List (Nat×OB)×Fg×Ll)
 |_,[],_,[]=>some ([],[],[])
 |
  k,[],r,b1::l1=>match dWb wr mv (k+1) [] r l1 with
  |some (wb,B',q)=>some ((k,b1)::wb,b1::B',q)
  |none=>none
 |
  k,b::l,b0::l0,b1::l1=>match dWb wr mv (k+1) l l0 l1 with
  |
   some (wb,B',q)=>match b0.lv with
   |
    true=>match Bj k wr with
    |
     true=>match !(flO b b1).mv || b.mv with
     |true=>some ((k,flO b b1)::wb,flO b b1::B',q)
     |false=>none
    |
     false=>match mv with
     |
      some i=>match Bj i b.ids with
      |true=>none
      |false=>some (wb,b::B',(.o b0,.o b1)::q)
     |none=>some (wb,b::B',(.o b0,.o b1)::q)
   |
    false=>match mv with
    |
     some i=>match Bj i b.ids with
     |
      true=>match KA (Ap i) b with
      |some b'=>some ((k,b')::wb,b'::B',q)
      |none=>none
     |false=>some (wb,b::B',q)
    |none=>some (wb,b::B',q)
  |none=>none
 |_,_,_,_=>none
def BOk(mv:Option Nat)(nb n1 j:Nat)(wbj:Option OB)(b b0 b1 b':OB):Prop :=
 b'=wbj.getD b /\
 (∀x,wbj=some x->(b0.lv=true->JW x=JW b1/\(x.mv=true->b.mv=true))/\(nb<=j->j<n1/\x=b1)/\(b0.lv=false->j<nb->∃i,mv=some i/\KA (Ap i) b=some x)) /\
 (wbj=none->(b0.lv=true->JW b1=JW b0)/\(nb<=j->n1<=j)/\∀i,mv=some i->j<nb->i∉b.ids)
variable{α:Type}
theorem KH{l:List (Nat×α)}{j:Nat}{x:α}(h:j≠k):Bw ((k,x)::l) j=Bw l j:=by
 have e:Nat.beq j k=false:=by cases e:Nat.beq j k <;> first|rfl|exact absurd (Qx e) h
 simp only[Bw,e]
theorem TL{l:List (Nat×α)}{x:α}:Bw ((k,x)::l) k=some x:=by simp[Bw]
theorem aD{wr:Fa}{mv:Option Nat}:∀{B B0 B1 f:Fg} {k:Nat} {wb:List (Nat×OB)} {q:Ll},dWb wr mv k B B0 B1=some (wb,f,q)->EqOk q->B0.length=B.length->f.length=B1.length/\B.length<=B1.length/\(∀j,j<k->Bw wb j=none) /\
 ∀j,BOk mv B.length B1.length j (Bw wb (k+j)) (ob B j) (ob B0 j) (ob B1 j) (ob f j)
 |
  [],[],[],f,k,wb,q,h,_,_=>by
  simp only[dWb,Option.some.injEq,Prod.mk.injEq]at h;obtain⟨rfl,rfl,rfl⟩:=h;exact⟨rfl,Ql _,λ_ _=>rfl,λj=>⟨rfl,λx hx=>(by cases hx),λ_=>⟨λ_=>rfl,λh=>h,λi _ h=>(by simp at h)⟩⟩⟩
 |
  [],[],b1::l1,f,k,wb,q,h,hq,hl=>by
  simp only[dWb]at h
  split at h
  .rename_i wb2 A z h2;simp only[Option.some.injEq,Prod.mk.injEq]at h;obtain⟨rfl,rfl,rfl⟩:=h;obtain⟨i1,i2,i3,s⟩:=aD h2 hq rfl;refine⟨by simp[i1],Ft,λj E=>by rw[KH Fo];exact i3 j Fo,λj=>?_⟩;cases j with
   |zero=>exact⟨by simp[TL,ob],λx hx=>(by
    simp only[X1,TL,Option.some.injEq]at hx;subst hx;exact⟨λh=>(by simp[ob,OB.lv]at h),λ_=>⟨Ft,by simp[ob]⟩,λ_ h=>(by simp at h)⟩),λhx=>(by simp[TL]at hx)⟩
   |
    succ j =>
    rw[KH Fo,show k+(j+1)=k+1+j from Fo];obtain⟨r,u,t⟩:=s j;refine⟨by simpa[ob]using r,λx hx=>?_,λhx=>?_⟩
    .obtain⟨a1,a2,m⟩:=u x hx;exact⟨λh=>(by simp[ob,OB.lv]at h),λh=>by simpa[ob]using a2 (Qj _),λ_ h=>(by simp at h)⟩
    .obtain⟨a1,a2,m⟩:=t hx;exact⟨λh=>(by simp[ob,OB.lv]at h),λh=>by simpa using a2 (Qj _),λi _ h=>(by simp at h)⟩
  .cases h
 |
  b::l,b0::l0,b1::l1,f,k,wb,q,h,hq,hl=>by
  simp only[dWb]at h
  split at h
  .rename_i wb2 A z h2;have c:∀(x:Option OB) (b':OB),(f=b'::A)->(wb=match x with|some y=>(k,y)::wb2|none=>wb2)->EqOk z->BOk mv (l.length+1) (l1.length+1) 0 x b b0 b1 b'->f.length=(b1::l1).length/\(b::l).length<=(b1::l1).length/\(∀j,j<k->Bw wb j=none)/\∀j,BOk mv (b::l).length (b1::l1).length j (Bw wb (k+j)) (ob (b::l) j) (ob (b0::l0) j) (ob (b1::l1) j) (ob f j):=λx b' F D o h0=>by
    subst F D;obtain⟨i1,i2,i3,s⟩:=aD h2 o (by simpa using hl);have hx:∀j,Bw (match x with|some y=>(k,y)::wb2|none=>wb2) j=if j=k then x else Bw wb2 j:=λj=>by
     cases x with
     |
      none =>
      show Bw wb2 j=_;by_cases e:j=k
      .rw[if_pos e,e];exact i3 k Fo
      .rw[if_neg e]
     |
      some y =>
      show Bw ((k,y)::wb2) j=_;by_cases e:j=k
      .rw[if_pos e,e];exact TL
      .rw[if_neg e];exact KH e
    refine⟨by simp[i1],by simpa using i2,λj E=>by rw[hx,if_neg Fo];exact i3 j Fo,λj=>?_⟩;cases j with
    |zero=>rw[hx,X1,if_pos rfl];simpa[ob]using h0
    |
     succ j =>
     rw[hx,if_neg Fo,show k+(j+1)=k+1+j from Fo];obtain⟨r,u,t⟩:=s j;refine⟨by simpa[ob]using r,λx hx=>?_,λhx=>?_⟩
     .obtain⟨a1,a2,m⟩:=u x hx;exact⟨λh=>by simpa[ob]using a1 (by simpa[ob]using h),λh=>by simpa[ob]using a2 (by simpa using h),λh G=>by simpa[ob]using m (by simpa[ob]using h) (by simpa using G)⟩
     .obtain⟨a1,a2,m⟩:=t hx;exact⟨λh=>by simpa[ob]using a1 (by simpa[ob]using h),λh=>by simpa using a2 (by simpa using h),λi hi h=>by simpa[ob]using m i hi (by simpa using h)⟩
   have a:∀{p:Prop},l.length+1<=0->p:=λh=>Fo
   split at h
   .rename_i g
    split at h
    .split at h
     .rename_i hm;simp only[Option.some.injEq,Prod.mk.injEq]at h;obtain⟨rfl,rfl,rfl⟩:=h;refine c (some (flO b b1)) _ rfl rfl hq ⟨rfl,λx hx=>?_,λhx=>by cases hx⟩;injection hx with hx;subst hx;refine⟨λ_=>⟨iW _ _,λh=>?_⟩,λh=>a h,λh=>(by rw[g]at h;cases h)⟩;simpa[h]using hm
     .cases h
    .split at h
     .rename_i i
      split at h
      .cases h
      .rename_i hn;simp only[Option.some.injEq,Prod.mk.injEq]at h;obtain⟨rfl,rfl,rfl⟩:=h;have e:=hq.hd;injection e with e;refine c none _ rfl rfl hq.tl ⟨rfl,λx hx=>(by cases hx),λ_=>⟨λ_=>by rw[e],λh=>a h,λv hi' _ hm=>?_⟩⟩;injection hi' with hi';subst hi'
       rw[Pp.2 hm]at hn;cases hn
     .simp only[Option.some.injEq,Prod.mk.injEq]at h;obtain⟨rfl,rfl,rfl⟩:=h;have e:=hq.hd;injection e with e;exact c none _ rfl rfl hq.tl ⟨rfl,λx hx=>(by cases hx),λ_=>⟨λ_=>by rw[e],λh=>a h,λv hi'=>by cases hi'⟩⟩
   .rename_i g;have d:¬b0.lv=true:=by rw[g];simp
    split at h
    .rename_i i
     split at h
     .split at h
      .rename_i C w;simp only[Option.some.injEq,Prod.mk.injEq]at h;obtain⟨rfl,rfl,rfl⟩:=h;refine c (some C) _ rfl rfl hq ⟨rfl,λx hx=>?_,λhx=>by cases hx⟩;injection hx with hx;subst hx;exact⟨λh=>absurd h d,λh=>a h,λ_ _=>⟨i,rfl,w⟩⟩
      .cases h
     .rename_i hn;simp only[Option.some.injEq,Prod.mk.injEq]at h;obtain⟨rfl,rfl,rfl⟩:=h;refine c none _ rfl rfl hq ⟨rfl,λx hx=>(by cases hx),λ_=>⟨λh=>absurd h d,λh=>a h,λv hi' _ hm=>?_⟩⟩;injection hi' with hi';subst hi'
      rw[Pp.2 hm]at hn;cases hn
    .simp only[Option.some.injEq,Prod.mk.injEq]at h;obtain⟨rfl,rfl,rfl⟩:=h;exact c none _ rfl rfl hq ⟨rfl,λx hx=>(by cases hx),λ_=>⟨λh=>absurd h d,λh=>a h,λv hi'=>by cases hi'⟩⟩
  .cases h
 | [],_::_,_,_,_,_,_,_,_,hl=>by simp at hl
 |_::_,[],_,_,_,_,_,_,_,hl=>by simp at hl
 |_::_,_::_,[],_,_,_,_,h,_,_=>by simp[dWb]at h
end Orr
namespace Orr
open Go
variable{P:Program}{n:Nat}
def KX:Op->Option (Callee×List Operand)
 | .call { callee:=.value x,args:=xs,argTypes:=_ }=>some (.value x,xs.toList)
 | .call { callee:=.invoke r m,args:=xs,argTypes:=_ }=>some (.invoke r m,xs.toList)
 |_=>none
theorem vJ{b:Op}{x:Callee}{xs:List Operand}(h:KX b=some (x,xs)):∃as0 a,b=.call { callee:=x,args:=as0,argTypes:=a }/\xs=Array.toList as0:=by
 unfold KX at h
 split at h
 .injection h with h;injection h with e1 e2;subst e1;subst e2;exact⟨_,_,rfl,rfl⟩
 .injection h with h;injection h with e1 e2;subst e1;subst e2;exact⟨_,_,rfl,rfl⟩
 .cases h
def Ts:List Prop->List Prop->List Prop
 | [],l=>l
 |x::r,l=>x::Ts r l
theorem WB:∀{a b:List Prop},Gi (Ts a b)↔Gi a/\Gi b
 | [],_=>by simp[Ts,Gi]
 |x::r,b=>by simp only[Ts];rw[El,El,WB,and_assoc]
def st1(T:TT P)(n:Nat)(arr:Array Oper)(L:Sg)(B:Fg)(h:List (H P))(o:Oper):St P:=match KX o.op with
 |
  some (x,xs)=>match gdE arr L o with
  |
   some true=>match o.dst with
   |
    some d=>match Nat.blt d n with
    |
     true=>match Qcr T L h x xs with
     |some (g,ys,q0)=>Qcs q0 L B h d g ys
     |none=>none
    |false=>none
   |none=>none
  |
   some false=>match Qoj n L o.dst with
   |some L'=>some (L',B,h,[],[])
   |none=>none
  |none=>none
 |none=>stE T n arr L B h o
variable{T:TT P}{arr:Array Oper}{o:Oper}
theorem Q1t{N:Kp}{L f:Sg}{B i:Fg}{h j:List (H P)}{q:Ll}{ob:List Prop}(hs:st1 T n arr L B h o=some (f,i,j,q,ob))(e:EqOk q)(c:Gi ob)(k:N f i):W1 P arr n o N L B:=by
 unfold st1 at hs
 split at hs
 .rename_i x xs a;obtain⟨l,r,p,rfl⟩:=vJ a
  split at hs
  .rename_i hg
   split at hs
   .rename_i d hd
    split at hs
    .rename_i b
     split at hs
     .rename_i g t u ha;exact W1.on hg (Qct (o:=ung o) p rfl hd b ha hs e k)
     .cases hs
    .cases hs
   .cases hs
  .rename_i hg
   split at hs
   .rename_i s m;obtain⟨rfl,rfl,rfl,rfl,rfl⟩:=Cm hs;exact W1.off hg m k
   .cases hs
  .cases hs
 .exact Q1u hs e c k
def Qu9:Nat->Option Nat->Sg->Fg->List (H P)->Ll->Option (Sg×Fg×List (H P)×Ll)
 | 0,_,L,B,h,q=>some (L,B,h,q)
 |
  f+1,d,L,B,h,q=>match d with
  |none=>some (L,B,h,q)
  |
   some t=>match Qae t L B h with
   |some (L',B',h',q')=>Qu9 f d L' B' h' (YL q' q)
   |none=>some (L,B,h,q)
theorem Qey:∀{f:Nat} {d:Option Nat} {L b:Sg} {B c:Fg} {h g:List (H P)} {q e:Ll},Qu9 f d L B h q=some (b,c,g,e)->EqOk e->EqOk q/\Sub n L B b c
 | 0,_,_,_,_,_,_,_,_,_,hp,hq=>by obtain⟨rfl,rfl,rfl,rfl⟩:=H8 hp;exact⟨hq,Sub.refl⟩
 |
  f+1,d,_,_,_,_,_,_,_,_,hp,hq=>by
  simp only[Qu9]at hp
  split at hp
  .obtain⟨rfl,rfl,rfl,rfl⟩:=H8 hp;exact⟨hq,Sub.refl⟩
  .split at hp
   .rename_i a;obtain⟨h1,h2⟩:=Qey hp hq;rw[Bf]at h1;obtain⟨h3,h4⟩:=h1.app;exact⟨h4,(zF a h3).trans h2⟩
   .obtain⟨rfl,rfl,rfl,rfl⟩:=H8 hp;exact⟨hq,Sub.refl⟩
theorem W1.post{L L1 c:Sg}{B B1 d:Fg}(h:W1 P arr n o (λL B=>L=L1/\B=B1) L B)(hs:Sub n L1 B1 c d):W1 P arr n o (λL B=>L=c/\B=d) L B:=λF E M a w K Q b j =>
 h F E M a w K Q b λf w' k m E' g h1 ⟨i,e⟩=>by
  subst i;subst e;obtain⟨E2,l,h2⟩:=hs F E' g f w' h1;exact j _ _ _ _ _ _ h2 ⟨rfl,rfl⟩
def isS{α:Type}:Option α->Bool
 |some _=>true
 |none=>false
def mvI(mv:Option Nat)(B0:Fg)(wb:List (Nat×OB)):Bool:=match mv with
 |none=>true
 |
  some i=>match QU B0 i with
  |some b=>b.lv && isS (Bw wb i)
  |none=>false
def wr2(L0:Sg)(mv:Option Nat)(op:Op)(h:List (H P)):Fa:=match KX op with
 |
  some _=>match h with
  | .c is _::_=>is
  |_=>[]
 |
  none=>match mv with
  |some i=>i::Q4y L0 mv op
  |none=>Q4y L0 mv op
def rdJ(B:Fg):Fa->Fa
 | []=>[]
 |
  i::l=>match QU B i with
  |some b=>i::(b.ids++rdJ B l)
  |none=>i::rdJ B l
def Qoa(B:Fg):Fa->Option Nat
 | []=>none
 |
  i::l=>match QU B i with
  |some (.row false _ _ _)=>some i
  |_=>Qoa B l
def Q4k(B:Fg)(L0:Sg)(y:Operand):Option Nat:=match evT L0 y with
 |
  some (.one (.orow i _ _))=>match QU B i with
  |some (.row false _ _ _)=>some i
  |_=>none
 |_=>none
def mvJ(B:Fg)(h:List (H P))(L0:Sg)(op:Op):Option Nat:=match Q6b L0 op with
 |some i=>some i
 |
  none=>match KX op with
  |
   some _=>match h with
   | .c is _::_=>Qoa B is
   |_=>none
  |
   none=>match op with
   |
    .store _ x y=>match Q4k B L0 y with
    |some i=>some i
    |
     none=>match evT L0 x with
     |
      some (.one (.ow i _))=>match QU B i with
      |some b=>Qoa B b.ids
      |none=>none
     |_=>none
   |_=>none
def rdI(L0:Sg):Op->Fa
 | .move _=>[]
 | .assign _=>[]
 | .nilCheck .. => []
 | .fieldAddr .. => []
 | .makeFunc .. => []
 |_=>Q3t L0
def rdK(B:Fg)(L0:Sg)(op:Op):Fa:=match KX op with
 |some _=>rdJ B (rdJ B (rdI L0 op))
 |
  none=>match op with
  | .store .. => rdJ B (rdI L0 op)
  |_=>rdI L0 op
def roH(op:Op)(h:List (H P)):Option (List (H P)):=match KX op with
 |
  some _=>match h with
  | .lo::r=>some r
  |_=>none
 |none=>none
def Q4c(o:Option (List (H P)))(h:List (H P)):List (H P):=match o with
 |some r=>r
 |none=>h
def wr3(L0:Sg)(mv:Option Nat)(op:Op)(h:List (H P)):Fa:=match roH op h with
 |some _=>[]
 |none=>wr2 L0 mv op h
def ds(
 T:TT P) (
  n:Nat) (arr:Array Oper) (Lg:Sg) (Bg:Fg) (h:List (H P)) (o:Oper) (mv:Option Nat) (L0:Sg):Option (Rc×Sg×Fg×List (H P)×Ll×List Prop):=match Qn2 (rdK Bg L0 o.op) mv 0 Bg,lenB Bg with
  |
   some B0,some nb=>match st1 T n arr L0 B0 (Q4c (roH o.op h) h) o with
   |
    some (L1,B1,h1,q1,ob1)=>match Qu9 3 o.dst L1 B1 h1 q1 with
    |
     some (L2,B2,h2,q2)=>match Qdx mv Lg with
     |
      some ks=>match dWs o.dst L2 Lg ks with
      |
       some (ws,Lg')=>match dWb (wr3 L0 mv o.op h) mv 0 Bg B0 B2 with
       |
        some (wb,Bg',q3)=>match (Ir (λp=>Ir (Nat.blt · nb) p.2.ids) L0 && Ir (λb=>Ir (Nat.blt · nb) b.ids) B0 && mvI mv B0 wb)with
        |true=>some (⟨L0,B0,L2,B2,ws,wb,mv⟩,Lg',Bg',h2,YL q3 q2,ob1)
        |false=>none
       |none=>none
      |none=>none
     |none=>none
    |none=>none
   |none=>none
  |_,_=>none
def Qn4{B:Fg}{j:Nat}(h:¬ob B j=.gone):∃b,B[j]? = some b/\ob B j=b:=by
 unfold ob at h ⊢;cases hb:B[j]? with
 |none=>rw[hb]at h;exact absurd rfl h
 |some b=>exact⟨b,rfl,rfl⟩
theorem Q3q{A z L0:Sg}{d s:Fg}{h h':List (H P)}{q:Ll}{y:List Prop}{mv:Option Nat}{r:Rc}(U:rsl A (gsl arr o)=some L0)(hd:ds T n arr A d h o mv L0=some (r,z,s,h',q,y))(Q:EqOk q)(F:Gi y):
 Wf P arr n o r/\Loc r (lk A) (ob d) (nw d)/\lk z=ZN (lk A) r.ws/\ob s=ZN (ob d) r.wb/\nw s=λj=>nw d j/\¬r.nw_ j:=by
 unfold ds at hd
 split at hd
 .rename_i B0 nb hm G
  split at hd
  .rename_i L1 B1 h1 q1 ob1 hs
   split at hd
   .rename_i L2 B h2 q2 hp
    split at hd
    .rename_i ks Z
     split at hd
     .rename_i ws S J
      split at hd
      .rename_i wb w q3 L
       split at hd
       .rename_i hc;injection hd with hd;injection hd with u hd;injection hd with m hd;injection hd with D hd;injection hd with e4 hd;injection hd with e5 e6;subst u;subst m;subst D;subst e5;subst e6;rw[Bf]at Q;obtain⟨I,C⟩:=Q.app;obtain⟨N,v⟩:=Qey (n:=n) hp C;obtain rfl:=B8 G;obtain⟨W,V⟩:=nC hm;obtain⟨b1,b2,b3,R⟩:=aD L I W;obtain⟨w1,w2,X,Y⟩:=Qz2 J;simp only[Zr]at hc;obtain⟨⟨M,E⟩,l⟩:=hc;have M:=Mc M;have E:=Mc E;have g:∀j,(ob B0 j).lv=true->j<d.length/\JW (ob d j)=JW (ob B0 j)/\((ob B0 j).mv=true->(ob d j).mv=true/\mv=some j):=λj a=>by
         have k:j<d.length:=by
          apply Classical.byContradiction;intro hn;rw[Sj Fo]at a;cases a
         obtain⟨c,u,m⟩:=V j _ (Qf k);rw[Pa u]at a ⊢;rw[Pa (Qf k)];have:=m a;rw[Zw]at this;exact⟨k,this⟩
        have f:∀j,BOk mv d.length B.length j (Bw wb j) (ob d j) (ob B0 j) (ob B j) (ob w j):=λj=>by have:=R j;rwa[Zw]at this
        refine⟨⟨W1.post (Q1t hs N F ⟨rfl,rfl⟩) v,λt x hx i hi=>?_,λj i hi=>?_,λj a=>?_,λj a=>?_,w2,X,λj b hb ha=>?_,λj ha hn=>?_⟩,⟨Qau U,λj a=>?_,λj h1 h2=>?_,λi hi=>⟨λt x hx hm=>?_,λj hm=>?_⟩,λj b hb ha=>?_⟩,w1,?_,?_⟩
        .have:=Mc (M _ (oQ hx)) i hi;rw[Jb]at this;show i<B0.length;omega
        .have O:¬ob B0 j=.gone:=λe=>by rw[show ob B0 j=.gone from e]at hi;simp[OB.ids]at hi
         obtain⟨b,u,m⟩:=Qn4 O;have hi:i∈(ob B0 j).ids:=hi;rw[m]at hi;have:=Mc (E b (Qc u)) i hi;rw[Jb]at this;show i<B0.length;omega
        .have p:(ob B0 j).lv=true:=by
          have a:(ob B0 j).mv=true:=a;cases hb:ob B0 j <;> rw[hb]at a <;> first|rfl|cases a
         exact((g j p).2.2 a).2
        .have a:mv=some j:=a;rw[a]at l;simp only[mvI]at l
         split at l
         .rename_i b hb;simp only[Zr]at l;refine⟨by rw[show ob B0 j=b from Pa (Mx ▸ hb)];exact l.1,?_⟩;have:=l.2;show(Bw wb j).isSome=true;cases e:Bw wb j <;> rw[e]at this <;> first|rfl|cases this
         .cases l
        .obtain⟨_,h3,_⟩:=f j;obtain⟨a1,a2,_⟩:=h3 b hb;rcases ha with ha|ha
         .exact(a1 ha).1
         .obtain⟨_,e⟩:=a2 (by have:B0.length<=j:=ha.1;omega);exact congrArg JW e
        .obtain⟨_,_,h3⟩:=f j;obtain⟨a1,a2,_⟩:=h3 hn;rcases ha with ha|ha
         .exact⟨a1 ha,ha⟩
         .have:=a2 (by have:B0.length<=j:=ha.1;omega);have h5:j<B.length:=ha.2;omega
        .obtain⟨u,m,D⟩:=g j a;exact⟨m,λh=>(D h).1,λb hb K=>(((f j).2.1 b hb).1 a).2 K⟩
        .show d.length<=j;have:B0.length<=j:=h1;omega
        .exact Y t (MI hi Z t x (oQ hx) hm)
        .show(Bw wb j).isSome=true;cases e:Bw wb j with
         |some _=>rfl
         |
          none =>
          have k:j<d.length:=by
           apply Classical.byContradiction;intro hn;rw[Sj Fo]at hm;simp[OB.ids]at hm
          exact absurd hm (((f j).2.2 e).2.2 i hi k)
        .obtain⟨_,h3,_⟩:=f j;obtain⟨_,a2,a3⟩:=h3 b hb;have p:(ob B0 j).lv=false:=by
          cases e:(ob B0 j).lv with
          |false=>rfl
          |true=>exact absurd (.inl e) ha
         refine a3 p ?_;apply Classical.byContradiction;intro hn;have:=(a2 Fo).1;exact ha (.inr ⟨by show B0.length<=j;omega,this⟩)
        .funext j;rw[(f j).1];simp only[ZN];cases Bw wb j <;> rfl
        .funext j;show(w.length<=j)=(d.length<=j/\¬(B0.length<=j/\j<B.length));refine propext ⟨λh=>⟨Fo,Fo⟩,λ⟨h1,h2⟩=>Fo⟩
       .cases hd
      .cases hd
     .cases hd
    .cases hd
   .cases hd
  .cases hd
 .cases hd
def dr(
 T:TT P) (n:Nat) (arr:Array Oper):List Oper->Sg->Fg->List (H P)->Option (List (Rc×Sg×Fg)×Sg×Fg×List (H P)×Ll×List Prop)
  | [],L,B,h=>some ([],L,B,h,[],[])
  |
   o::l,L,B,h=>match rsl L (gsl arr o)with
   |
    some L0=>match (match mvJ B h L0 o.op with
     |some i=>ds T n arr L B h o (some i) L0
     |none=>ds T n arr L B h o none L0)with
    |
     some (r,L',B',h',q,ob)=>match dr T n arr l L' B' h' with
     |some (rs,L2,B2,h2,q2,ob2)=>some ((r,L,B)::rs,L2,B2,h2,YL q q2,Ts ob ob2)
     |none=>none
    |none=>none
   |none=>none
def ovC(mvs:Fa)(x:Rc×Sg×Fg):Bool :=
 Ir (λp=>match lk x.2.1 p.1 with
  |some y=>Ir (λi => !Bj i mvs || isI x.1.mv i) y.ids
  |none=>true) x.1.ws &&
 Ir (λp=>match QU x.2.2 p.1 with
  |some b=>Ir (λi => !Bj i mvs || isI x.1.mv i) b.ids
  |none=>true) x.1.wb
def Qtu(p x:Rc):Bool :=
 Ir (λt => !isS (lk x.L0 t.1) && !isS (Bw x.ws t.1)) p.ws &&
 Ir (λj=>(match QU x.B0 j.1 with
  |some b => !b.lv
  |none=>true) && !isS (Bw x.wb j.1)) p.wb &&
 (match p.mv with
  |none=>true
  |some i=>Ir (λt=>match t.2 with
   |some y => !Bj i y.ids
   |none=>true) x.ws && Ir (λj => !Bj i j.2.ids) x.wb) &&
 (Nat.ble p.B1.length x.B0.length || Nat.ble x.B1.length p.B0.length)
def CH(o:Oper):Fa:=o.after.toList.filterMap λe=>if Region.binds .any e then some e.on else none
def jX:List Fa->Nat->Fa
 | [],_=>[]
 |x::_,0=>x
 |_::l,i+1=>jX l i
def uni:Fa->Fa->Option Fa
 | [],l=>some l
 |
  x::r,l=>match uni r l with
  |
   some q=>match Bj x q with
   |true=>some q
   |false=>some (x::q)
  |none=>none
def Q4w(cs:List Fa):Fa->Fa->Option Fa
 | [],l=>some l
 |
  j::r,l=>match uni (j::jX cs j) l with
  |some q=>Q4w cs r q
  |none=>none
def clo:List Oper->List Fa->Option (List Fa)
 | [],cs=>some cs
 |
  o::l,cs=>match Q4w cs (CH o) []with
  |
   some u=>match snoc cs u with
   |some c=>clo l c
   |none=>none
  |none=>none
where snoc:List Fa->Fa->Option (List Fa)
 | [],u=>some [u]
 |
  x::l,u=>match snoc l u with
  |some r=>some (x::r)
  |none=>none
def Qtg(cs:List Fa):Nat->List Oper->Bool
 |_,[]=>true
 |
  i,o::l=>match Ir (Nat.blt · i) (CH o) && Ir (λp=>Bj p (CH o) || !Ir (λj => !Bj p (jX cs j)) (CH o)) (jX cs i)with
  |true=>Qtg cs (i+1) l
  |false=>false
def djC(mvs:Fa)(p x:Rc):Bool:=Qtu p x && Qtu x p
def bU(cs:List Fa)(mvs:Fa)(x:Rc)(i:Nat):Nat->List (Rc×Sg×Fg)->Bool
 |
  k,p::l=>match Nat.blt k i with
  |
   true=>match Bj k (jX cs i) || djC mvs p.1 x with
   |true=>bU cs mvs x i (k+1) l
   |false=>false
  |false=>true
 |_,[]=>true
def RX(cs:List Fa)(mvs:Fa)(all:List (Rc×Sg×Fg)):Nat->List (Rc×Sg×Fg)->Bool
 |_,[]=>true
 |
  i,x::l=>match bU cs mvs x.1 i 0 all && ovC mvs x && x.1.mv.all (Bj · mvs)with
  |true=>RX cs mvs all (i+1) l
  |false=>false
def vS:List (Rc×Sg×Fg)->Fa
 | []=>[]
 |
  x::l=>match x.1.mv with
  |some i=>i::vS l
  |none=>vS l
def drE(T:TT P)(n:Nat)(l:List Oper)(L:Sg)(B:Fg)(h:List (H P)):St P:=match dr T n l.toArray l L B h with
 |
  some (rs,L',B',h',q,ob)=>match clo l []with
  |
   some cs=>match Qtg cs 0 l && RX cs (vS rs) rs 0 rs with
   |true=>some (L',B',h',q,ob)
   |false=>none
  |none=>none
 |none=>none
end Orr
namespace Orr
open Go
variable{P:Program}{n:Nat}{L L':Sg}{B B':Fg}{Q:Exit->Sg->Fg->Prop}
class Mo (P:Program):Prop where
 mo:P.follows .mixedOrders=true
theorem Q37{mvs:Fa}{x:Rc×Sg×Fg}(h:ovC mvs x=true):Ov mvs x.1 (lk x.2.1) (ob x.2.2):=by
 unfold ovC at h;rw[Zr]at h;obtain⟨h1,h2⟩:=h;have a:∀(ids:Fa),Ir (λi => !Bj i mvs || isI x.1.mv i) ids=true->∀i∈ids,i∈mvs->x.1.mv=some i:=λids ha i hi hm=>by
  have:=Mc ha i hi;rw[Pp.2 hm]at this;exact Qnk (by simpa using this)
 refine⟨λt y ht k i hi hm=>?_,λj d i hi hm=>?_⟩
 .cases e:Bw x.1.ws t with
  |none=>rw[e]at ht;cases ht
  |
   some v =>
   have:=Mc h1 _ (YY e);simp only[k]at this;exact a _ this i hi hm
 .cases e:Bw x.1.wb j with
  |none=>rw[e]at d;cases d
  |
   some v =>
   have:=Mc h2 _ (YY e);have c:¬ob x.2.2 j=.gone:=λe=>by rw[e]at hi;simp[OB.ids]at hi
   obtain⟨b,g,f⟩:=Qn4 c;rw[f]at hi;simp only[Mx,g]at this;exact a _ this i hi hm
theorem Qxk{T:TT P}{arr:Array Oper}:∀{l:List Oper} {d L':Sg} {a B':Fg} {h y:List (H P)} {q:Ll} {b:List Prop} {c:List (Rc×Sg×Fg)},dr T n arr l d a h=some (c,L',B',y,q,b)->EqOk q->Gi b ->
 c.length=l.length/\(∀(i:Nat) (o:Oper) (x:Rc×Sg×Fg),l[i]? = some o->c[i]? = some x->Wf P arr n o x.1)/\∀(R:Nat->Rc) (mvs:Fa) (k:Nat),(∀(i:Nat) (x:Rc×Sg×Fg),c[i]? = some x->R (k+i)=x.1)->(∀x∈c,ovC mvs x=true) ->
  DR R mvs (λsl bl U=>sl=lk L'/\bl=ob B'/\U=nw B') (List.range' k l.length) (lk d) (ob a) (nw a)
 |
  [],d,L',a,B',h,y,q,b,c,hd,_,_=>by
  simp only[dr,Option.some.injEq,Prod.mk.injEq]at hd;obtain⟨rfl,rfl,rfl,_⟩:=hd;exact⟨rfl,λi o x h=>by simp at h,λR mvs k _ _=>⟨rfl,rfl,rfl⟩⟩
 |
  o::l,d,L',a,B',h,y,q,b,c,hd,hq,hob=>by
  simp only[dr]at hd
  split at hd
  .rename_i L0 p
   split at hd
   .rename_i r L1 B1 h1 K G e
    split at hd
    .rename_i D N O h2 M A m;simp only[Option.some.injEq,Prod.mk.injEq]at hd;obtain⟨rfl,rfl,rfl,_,rfl,rfl⟩:=hd;rw[Bf]at hq;obtain⟨t,s⟩:=hq.app;obtain⟨v,u⟩:=WB.1 hob;have f:Wf P arr n o r/\Loc r (lk d) (ob a) (nw a)/\lk L1=ZN (lk d) r.ws/\ob B1=ZN (ob a) r.wb/\nw B1=λj=>nw a j/\¬r.nw_ j:=by
      split at e <;> exact Q3q p e t v
     obtain⟨w1,F,I,J,E⟩:=f;obtain⟨i1,i2,i3⟩:=Qxk m s u;refine⟨by simp[i1],λi C x hi hx=>?_,λR mvs k z g=>?_⟩
     .cases i with
      |zero=>simp at hi hx;subst hi;subst hx;exact w1
      |succ i=>exact i2 i C x (by simpa using hi) (by simpa using hx)
     .have w:R k=r:=by simpa using z 0 (r,d,a) Ft
      rw[show List.range' k (o::l).length=k::List.range' (k+1) l.length from by simp[List.range'_succ]];refine⟨by rw[w];exact F,by rw[w];exact Q37 (g _ (.head _)),?_⟩;have:=i3 R mvs (k+1) (λi x hx=>by
       have:=z (i+1) x (by simpa using hx);rwa[show k+(i+1)=k+1+i from Fo]at this) λx hx=>g x (.tail _ hx)
      rw[I,J,E]at this;rw[w];exact this
    .cases hd
   .cases hd
  .cases hd
theorem fH{α:Type}{o:Option α}(h:(!isS o)=true):o=none:=by cases o <;> first|rfl|cases h
theorem Ql2{p x:Rc}(h:Qtu p x=true):Dj1 p x:=by
 unfold Qtu at h;simp only[Zr]at h;obtain⟨⟨⟨h1,h2⟩,h3⟩,h4⟩:=h;have d:∀t,(Bw p.ws t).isSome=true->lk x.L0 t=none/\Bw x.ws t=none:=λt ht=>by
  cases e:Bw p.ws t with
  |none=>rw[e]at ht;cases ht
  |
   some v =>
   have:=Mc h1 _ (YY e);rw[Zr]at this;exact⟨fH this.1,fH this.2⟩
 refine⟨λt ht=>(d t ht).1,λt ht=>(d t ht).2,λj f=>?_,λi hi=>?_,λj h5 c=>?_⟩
 .cases e:Bw p.wb j with
  |none=>rw[e]at f;cases f
  |
   some v =>
   have:=Mc h2 _ (YY e);rw[Zr]at this;refine⟨?_,fH this.2⟩;have a:=this.1;rw[Mx]at a;unfold ob;cases e:x.B0[j]? with
   |none=>rfl
   |some b=>rw[e]at a;simpa using a
 .rw[hi]at h3;simp only[Zr]at h3;refine⟨λt y g hm=>?_,λj b hb hm=>?_⟩
  .have:=Mc h3.1 _ (YY g);simp only[Pp.2 hm]at this;cases this
  .have:=Mc h3.2 _ (YY hb);simp only[Pp.2 hm]at this;cases this
 .rcases Wn .. ▸ h4 with h|h
  .have:=Zj h;have a1:=h5.2;have a2:=c.1;omega
  .have:=Zj h;have a1:=h5.1;have a2:=c.2;omega
theorem sS{α:Type}{f:α->Bool}:∀{l:List α},Ir f l=false->∃x∈l,f x=false
 | [],h=>by cases h
 |
  y::l,h=>by
  simp only[Ir]at h
  split at h
  .obtain⟨x,h1,h2⟩:=sS h;exact⟨x,.tail _ h1,h2⟩
  .rename_i e;exact⟨y,.head _,e⟩
theorem Qcw{cs:List Fa}:∀{l:List Oper} {k:Nat},Qtg cs k l=true->∀i o,l[i]? = some o->(∀j∈CH o,j<k+i)/\∀p,Bj p (jX cs (k+i))=true->p∈CH o\/∃j∈CH o,Bj p (jX cs j)=true
 | [],k,_,i,o,h=>by simp at h
 |
  o::l,k,h,i,o',hi=>by
  simp only[Qtg]at h
  split at h
  .rename_i hc;cases i with
   |
    zero =>
    simp at hi;subst hi;rw[Zr]at hc;refine⟨λj a=>by have:=Mc hc.1 j a;rw[Jb]at this;omega,λp hp=>?_⟩;have:=Mc hc.2 p (Pp.1 hp);rw[Wn]at this;rcases this with h|h
    .exact .inl (Pp.1 h)
    .obtain⟨x,h1,h2⟩:=sS (by simpa using h);exact .inr ⟨x,h1,by simpa using h2⟩
   |
    succ i =>
    rw[show k+(i+1)=k+1+i from Fo];exact Qcw h i o' (by simpa using hi)
  .cases h
theorem bF{cs:List Fa}{mvs:Fa}{x:Rc}{i:Nat}:∀{ps:List (Rc×Sg×Fg)} {k:Nat},bU cs mvs x i k ps=true->∀(m:Nat) (p:Rc×Sg×Fg),ps[m]? = some p->k+m<i->Bj (k+m) (jX cs i)=true\/djC mvs p.1 x=true
 | [],_,_,m,p,h,_=>by simp at h
 |
  p::ps,k,h,m,p',hm,hlt=>by
  simp only[bU]at h
  split at h
  .split at h
   .rename_i hc;cases m with
    |zero=>simp at hm;subst hm;exact Wn .. ▸ hc
    |
     succ m =>
     rw[show k+(m+1)=k+1+m from Fo];exact bF h m p' (by simpa using hm) Fo
   .cases h
  .rename_i hb;have:¬Nat.blt k i=true:=by rw[hb];simp
   rw[Jb]at this;omega
theorem BU{cs:List Fa}{mvs:Fa}{a:List (Rc×Sg×Fg)}:∀{ps:List (Rc×Sg×Fg)} {k:Nat},RX cs mvs a k ps=true->∀(i:Nat) (x:Rc×Sg×Fg),ps[i]? = some x->bU cs mvs x.1 (k+i) 0 a=true/\ovC mvs x=true/\x.1.mv.all (Bj · mvs)=true
 | [],_,_,i,x,h=>by simp at h
 |
  p::ps,k,h,i,x,hi=>by
  simp only[RX]at h
  split at h
  .rename_i hc;cases i with
   |zero=>simp at hi;subst hi;simp only[Zr]at hc;exact⟨hc.1.1,hc.1.2,hc.2⟩
   |
    succ i =>
    rw[show k+(i+1)=k+1+i from Fo];exact BU h i x (by simpa using hi)
  .cases h
variable{i:Nat}{o:Oper}
theorem cJ{l:List Oper}(h:l[i]? = some o):FB l i=CH o:=by simp only[FB,h];rfl
theorem qQ(w:World):Grow w { w with drawn:=w.drawn+1 }:=⟨Ql _,λ_ _=>rfl,rfl,rfl⟩
variable{arr:Array Oper}
theorem Qri[Mo P]{T:TT P}{id:Nat}{hs O:List (H P)}{q:Ll}{C:List Prop}{r:List It}(h:drE T n arr.toList L B hs=some (L',B',O,q,C))(W:EqOk q)(K:Gi C)(k:AK P n Q r L' B'):AK P n Q (.code (.region id arr true)::r) L B:=by
 unfold drE at h
 split at h
 .rename_i s L2 B2 h2 q2 X G
  split at h
  .rename_i cs _
   split at h
   .rename_i hc;simp only[Option.some.injEq,Prod.mk.injEq]at h;obtain⟨rfl,rfl,_,rfl,rfl⟩:=h;rw[Zr]at hc;obtain⟨g,f⟩:=hc;have g:=Qcw g;have f:=BU f;obtain⟨V,D,m⟩:=Qxk G W K
    let R:Nat->Rc:=λi=>match s[i]? with
     |some x=>x.1
     |none=>⟨[],[],[],[],[],[],none⟩
    have A:∀(i:Nat) (x:Rc×Sg×Fg),s[i]? = some x->R i=x.1:=λi x hx=>by simp only[R,hx]
    have b:∀i,i<arr.toList.length->∃x,s[i]? = some x:=λi hi=>⟨s[i]' Fo,Qf _⟩
    have m:=m R (vS s) 0 (λi x hx=>by rw[Zw];exact A i x hx) λx hx=>by
     obtain⟨i,hi⟩:=Xz hx;exact(f i x hi).2.1
    have u:arr.toList.toArray=arr:=Ft;rw[u]at D;have c:∀i o,arr.toList[i]? = some o->Wf P arr.toList.toArray n o (R i):=λi o l=>by
     obtain⟨x,hx⟩:=b i (Qh.1 l).1;rw[A i x hx,u];exact D i o x l hx
    have N:Cl arr.toList λi p=>Bj p (jX cs i):=⟨λi hi j z=>by
     have l:=Qf hi;rw[cJ l]at z;have:=(g i _ l).1 j z;omega,λi hi p hp=>by
     have l:=Qf hi;rw[cJ l];have:=(g i _ l).2 p (by rw[Zw];exact hp);exact this⟩
    have I:∀i,i<arr.toList.length->∀p,p<i->(Bj p (jX cs i))=false->Dj (vS s) (R p) (R i):=λi hi p hp hn=>by
     obtain⟨x,hx⟩:=b i hi;obtain⟨y,J⟩:=b p Fo;obtain⟨a1,a2,S⟩:=f i x hx;rw[Zw]at a1;rcases bF a1 p y J Fo with h|h
     .rw[Zw,hn]at h;cases h
     .unfold djC at h;rw[Zr]at h;rw[A i x hx,A p y J];refine⟨Ql2 h.1,Ql2 h.2,?_,λj z=>?_,λj z=>?_⟩
      .cases e:x.1.mv with
       |none=>rfl
       |
        some j =>
        rw[e]at S;have:Bj j (vS s)=true:=S;simpa using Pp.1 this
      .have:=c i _ (Qf hi);rw[A i x hx]at this;exact(this.mv1 j z).1
      .have:=c p _ (Qf Fo);rw[A p y J]at this;exact(this.mv1 j z).2
    intro F E M a w hs;refine wp_region_any Mo.mo ?_;have:=Ql3 (Q:=Q31 F n (mkQ Q (DI P n Q r))) (F:=F) N c I (λa w sl bl U E M d ⟨Z,e2,Y⟩=>by
     subst Z;subst e2;subst Y;exact⟨_,_,E,M,⟨d.hs,d.size,d.defers,d.slots⟩,k⟩) arr.size (Array.replicate arr.size false) (List.range' 0 arr.toList.length) _ _ _ E M a { w with drawn:=w.drawn+1 } Ft List.pairwise_lt_range' (λj=>by
      rw[List.mem_range'_1];simp only[Array.getD_eq_getD_getElem?,Array.getElem?_replicate];constructor
      .intro⟨_,h⟩;have h:j<arr.size:=by simpa using h
       exact⟨by simpa using h,by rw[if_pos h];rfl⟩
      .intro⟨h,_⟩;exact⟨Qj _,Fo⟩) Ft (λi hi h=>by
       have hi:i<arr.size:=by simpa using hi
       rw[Array.getD_eq_getD_getElem?,Array.getElem?_replicate,if_pos hi]at h;cases h) m ⟨hs.hs.grow (qQ w),hs.size,hs.defers,λt x hx=>by
        obtain⟨v,h1,h2⟩:=hs.slots t x hx;exact⟨v,h1,h2.keep ((qQ w).le M) λi _ _=>rfl⟩⟩
    rw[u]at this;exact this
   .cases h
  .cases h
 .cases h
theorem Qi1{it:List It}(hs:So it=true)(h:rM L B i=some (L',B'))(k:AK P n Q it L' B'):AK P n Q it L B:=AK.sub (EV h) hs k
abbrev Rn:=Option (List It×Sg×Fg×Ll×List Prop)
def Q4t:List (H P)->Fh->Option Nat
 | .p i::_,_=>some i
 | .c (Bin:=_::_) _ _::_,_=>none
 |_,ys=>Qu0 ys
def unP:List (H P)->List (H P)
 | .p _::h=>h
 |h=>h
def Q15(arr:Array Oper)(L:Sg)(o:Oper)(h:List (H P)):Option (Sg×List (H P)×(Qv×Qv)):=match o.guard with
 |none=>none
 |
  some (j,_)=>match (arr[j]?).bind (·.dst)with
  |
   some t'=>match lk L t' with
   |
    some (.v (.one (.bool b)))=>match h with
    | .t (b:=b') _::h=>some ((t',.cnd true (.one (.bool true)))::L,h,(.t (.one (.bool b)),.t (.one (.bool b'))))
    | .f (b:=b') _::h=>some ((t',.cnd true (.one (.bool false)))::L,h,(.t (.one (.bool b)),.t (.one (.bool b'))))
    |_=>none
   |_=>none
  |none=>none
theorem Q16{h c:List (H P)}{e:Qv×Qv}(hu:Q15 arr L o h=some (L',c,e))(he:e.1=e.2):Sub n L B L' B:=by
 unfold Q15 at hu
 split at hu
 .cases hu
 .split at hu
  .split at hu
   .rename_i b hl
    split at hu
    .rename_i b' hb h2;injection hu with hu;injection hu with e1 hu;injection hu with e2 e3;subst e1;subst e3;injection he with he;injection he with he;injection he with he;subst he;subst hb;exact λF E M a w hs=>⟨E,M,hs.same hl λ_ h=>⟨λ_=>h,λe=>by cases e⟩⟩
    .rename_i b' hb h2;injection hu with hu;injection hu with e1 hu;injection hu with e2 e3;subst e1;subst e3;injection he with he;injection he with he;injection he with he;subst he;subst hb;exact λF E M a w hs=>⟨E,M,hs.same hl λ_ h=>⟨λ_=>h,λe=>by cases e⟩⟩
    .cases hu
   .cases hu
  .cases hu
def run(T:TT P)(n:Nat):Nat->List It->Sg->Fg->List (H P)->Ll->List Prop->Rn
 | 0,it,L,B,_,q,ob=>some (it,L,B,q,ob)
 |
  f+1,it,L,B,h,q,ob=>match it with
  | .code (.seq x y)::r=>run T n f (.code x::.code y::r) L B h q ob
  | .code .skip::r=>run T n f r L B h q ob
  | .code (.block id c)::r=>run T n f (.code c::.blk id::r) L B h q ob
  |
   .code (.exit id)::r=>match MS id r with
   |some r'=>run T n f r' L B h q ob
   |none=>some (it,L,B,q,ob)
  | .code (.region id arr false)::r=>run T n f (.ops arr arr.toList::r) L B h q ob
  |
   .code (.region id arr true)::r=>match h with
   |
    .p i::h=>match rM L B i with
    |some (L',B')=>run T n f (.code (.region id arr true)::r) L' B' h q ob
    |none=>none
   |
    h=>match drE T n arr.toList L B h with
    |some (L',B',h',q',ob')=>run T n f r L' B' h' (YL q' q) (Ts ob' ob)
    |none=>some (it,L,B,q,ob)
  |
   .code (.cond c x y)::r=>match h with
   |
    .t (b:=b') _::h=>match evT L c with
    |some (.one (.bool b))=>run T n f (.code x::r) L B h ((.t (.one (.bool b)),.t (.one (.bool b')))::q) ob
    |_=>none
   |
    .f (b:=b') _::h=>match evT L c with
    |some (.one (.bool b))=>run T n f (.code y::r) L B h ((.t (.one (.bool b)),.t (.one (.bool b')))::q) ob
    |_=>none
   |_=>some (it,L,B,q,ob)
  | .blk _::r=>run T n f r L B h q ob
  | .ops _ []::r=>run T n f r L B h q ob
  |
   .pst d::r=>match Qae d L B h with
   |
    some (L',B',h',q')=>match So r with
    |true=>run T n f (.pst d::r) L' B' h' (YL q' q) ob
    |false=>none
   |none=>run T n f r L B h q ob
  |
   .ops arr (o::l)::r=>match gdE arr L o with
   |
    some true=>match KX o.op with
    |
     some (x,xs)=>match o.dst with
     |
      some d=>match Nat.blt d n with
      |
       true=>match Qcr T L h x xs with
       |
        some (g,ys,q0)=>match Q4t h ys with
        |
         some i=>match rM L B (dig B 20 i)with
         |some (L',B')=>run T n f (.ops arr (o::l)::r) L' B' (unP h) q ob
         |none=>some (it,L,B,q,ob)
        |
         none=>match Qcs q0 L B h d g ys with
         |some (L',B',h',q',ob')=>run T n f (.pst d::.ops arr l::r) L' B' h' (YL q' q) (Ts ob' ob)
         |none=>some (it,L,B,q,ob)
       |none=>some (it,L,B,q,ob)
      |false=>none
     |none=>some (it,L,B,q,ob)
    |
     none=>match efE T n L B h o.dst o.op with
     |
      some (L',B',h',q',ob')=>match o.dst with
      |some d=>run T n f (.pst d::.ops arr l::r) L' B' h' (YL q' q) (Ts ob' ob)
      |none=>run T n f (.ops arr l::r) L' B' h' (YL q' q) (Ts ob' ob)
     |none=>some (it,L,B,q,ob)
   |
    some false=>match Qoj n L o.dst with
    |some L'=>run T n f (.ops arr l::r) L' B h q ob
    |none=>some (it,L,B,q,ob)
   |
    none=>match Q15 arr L o h with
    |some (L',h',e)=>run T n f (.ops arr (o::l)::r) L' B h' (e::q) ob
    |none=>some (it,L,B,q,ob)
  |it=>some (it,L,B,q,ob)
theorem tQ[Mo P](T:TT P):∀(f:Nat) (it m:List It) (L L':Sg) (B B':Fg) (h:List (H P)) (q u:Ll) (ob j:List Prop),run T n f it L B h q ob=some (m,L',B',u,j)->EqOk u->Gi j->EqOk q/\Gi ob/\(AK P n Q m L' B'->AK P n Q it L B):=by
 intro f;have stop:∀{it m:List It} {L L':Sg} {B B':Fg} {q u:Ll} {ob j:List Prop},some (it,L,B,q,ob)=some (m,L',B',u,j)->EqOk u->Gi j->EqOk q/\Gi ob/\(AK P n Q m L' B'->AK P n Q it L B):=λh c a=>by
  obtain⟨rfl,rfl,rfl,rfl,rfl⟩:=Cm h;exact⟨c,a,id⟩
 induction f with
 |zero=>intro it m L L' B B' h q u ob j hr c a;exact stop hr c a
 |
  succ f ih =>
  intro it m L L' B B' h q u ob j hr c a;unfold run at hr
  split at hr
  .obtain⟨h1,h2,h3⟩:=ih _ _ _ _ _ _ _ _ _ _ _ hr c a;exact⟨h1,h2,λk=>Qyl (h3 k)⟩
  .obtain⟨h1,h2,h3⟩:=ih _ _ _ _ _ _ _ _ _ _ _ hr c a;exact⟨h1,h2,λk=>Qrm (h3 k)⟩
  .obtain⟨h1,h2,h3⟩:=ih _ _ _ _ _ _ _ _ _ _ _ hr c a;exact⟨h1,h2,λk=>Qi0 (h3 k)⟩
  .split at hr
   .rename_i K hx;obtain⟨h1,h2,h3⟩:=ih _ _ _ _ _ _ _ _ _ _ _ hr c a;exact⟨h1,h2,λk=>Qrj hx (h3 k)⟩
   .exact stop hr c a
  .obtain⟨h1,h2,h3⟩:=ih _ _ _ _ _ _ _ _ _ _ _ hr c a;exact⟨h1,h2,λk=>Qyk (h3 k)⟩
  .split at hr
   .split at hr
    .rename_i hp;obtain⟨h1,h2,h3⟩:=ih _ _ _ _ _ _ _ _ _ _ _ hr c a;exact⟨h1,h2,λk=>Qi1 rfl hp (h3 k)⟩
    .cases hr
   .split at hr
    .rename_i hd;obtain⟨h1,h3,h4⟩:=ih _ _ _ _ _ _ _ _ _ _ _ hr c a;rw[Bf]at h1;obtain⟨h5,s⟩:=h1.app;obtain⟨w,v⟩:=WB.1 h3;exact⟨s,v,λk=>Qri hd h5 w (h4 k)⟩
    .exact stop hr c a
  .split at hr
   .rename_i b' hb h2
    split at hr
    .rename_i b hc;obtain⟨h1,h2,h3⟩:=ih _ _ _ _ _ _ _ _ _ _ _ hr c a;have e:=h1.hd;injection e with e;injection e with e;injection e with e;subst e;exact⟨h1.tl,h2,λk=>Qbp hc (λ_=>h3 k) λe=>by rw[hb]at e;cases e⟩
    .cases hr
   .rename_i b' hb h2
    split at hr
    .rename_i b hc;obtain⟨h1,h2,h3⟩:=ih _ _ _ _ _ _ _ _ _ _ _ hr c a;have e:=h1.hd;injection e with e;injection e with e;injection e with e;subst e;exact⟨h1.tl,h2,λk=>Qbp hc (λe=>by rw[hb]at e;cases e) λ_=>h3 k⟩
    .cases hr
   .exact stop hr c a
  .obtain⟨h1,h2,h3⟩:=ih _ _ _ _ _ _ _ _ _ _ _ hr c a;exact⟨h1,h2,λk=>h3 k⟩
  .obtain⟨h1,h2,h3⟩:=ih _ _ _ _ _ _ _ _ _ _ _ hr c a;exact⟨h1,h2,λk=>h3 k⟩
  .rename_i d r
   split at hr
   .rename_i y C h2 D hp
    split at hr
    .rename_i hs;obtain⟨h1,h3,h4⟩:=ih _ _ _ _ _ _ _ _ _ _ _ hr c a;rw[Bf]at h1;obtain⟨h5,s⟩:=h1.app;exact⟨s,h3,λk=>AK.sub (it:=r) (zF hp h5) hs (h4 k)⟩
    .cases hr
   .obtain⟨h1,h2,h3⟩:=ih _ _ _ _ _ _ _ _ _ _ _ hr c a;exact⟨h1,h2,λk=>h3 k⟩
  .rename_i arr o l r
   split at hr
   .rename_i p
    split at hr
    .rename_i x xs t;obtain⟨F,J,I,rfl⟩:=vJ t
     split at hr
     .rename_i d hd
      split at hr
      .rename_i A
       split at hr
       .rename_i g M O ha
        split at hr
        .rename_i i E
         split at hr
         .rename_i y C hp;obtain⟨h1,h2,h3⟩:=ih _ _ _ _ _ _ _ _ _ _ _ hr c a;exact⟨h1,h2,λk=>W1.sub (EV hp) (h3 k)⟩
         .exact stop hr c a
        .split at hr
         .rename_i y C h2 D z hc;obtain⟨h1,h3,h4⟩:=ih _ _ _ _ _ _ _ _ _ _ _ hr c a;rw[Bf]at h1;obtain⟨h5,s⟩:=h1.app;obtain⟨w,v⟩:=WB.1 h3;exact⟨s,v,λk=>W1.on p (Qct (o:=ung o) (N:=AW P arr n l (DI P n Q r).1) I rfl hd A ha hc h5 (h4 k))⟩
         .exact stop hr c a
       .exact stop hr c a
      .cases hr
     .exact stop hr c a
    .split at hr
     .rename_i y C h2 D z hs
      split at hr
      .obtain⟨h1,h3,h4⟩:=ih _ _ _ _ _ _ _ _ _ _ _ hr c a;rw[Bf]at h1;obtain⟨h5,s⟩:=h1.app;obtain⟨w,v⟩:=WB.1 h3;exact⟨s,v,λk=>W1.on p (iZ (o:=ung o) (N:=AW P arr n l (DI P n Q r).1) rfl rfl rfl hs h5 w (h4 k))⟩
      .obtain⟨h1,h3,h4⟩:=ih _ _ _ _ _ _ _ _ _ _ _ hr c a;rw[Bf]at h1;obtain⟨h5,s⟩:=h1.app;obtain⟨w,v⟩:=WB.1 h3;exact⟨s,v,λk=>W1.on p (iZ (o:=ung o) (N:=AW P arr n l (DI P n Q r).1) rfl rfl rfl hs h5 w (h4 k))⟩
     .exact stop hr c a
   .rename_i p
    split at hr
    .rename_i y G;obtain⟨h1,h2,h3⟩:=ih _ _ _ _ _ _ _ _ _ _ _ hr c a;exact⟨h1,h2,λk=>W1.off (N:=AW P arr n l (DI P n Q r).1) p G (h3 k)⟩
    .exact stop hr c a
   .split at hr
    .rename_i y h2 e hu;obtain⟨h1,h2,h3⟩:=ih _ _ _ _ _ _ _ _ _ _ _ hr c a;exact⟨h1.tl,h2,λk=>W1.sub (Q16 hu h1.hd) (h3 k)⟩
    .exact stop hr c a
  .exact stop hr c a
end Orr
namespace Orr
open Go
variable{P:Program}{n:Nat}{L L':Sg}{B B':Fg}{Q:Exit->Sg->Fg->Prop}
def kC(tmps:Array Value):ResultVar->Sem Value
 | .tmp t=>pure (tmps.getD t undef)
 | .cell a t=>do loadVar t (<-asAddr (tmps.getD a undef))
theorem Qan(fn:Func)(a:Array Value):results fn a=(do
 let vs <-fn.results.mapM (kC a)
 pure (if h:vs.size=1 then vs[0]else .tuple vs)):=by
 unfold results;congr 1
def cA(
 T:TT P) (
  L:Sg) (B:Fg):List ResultVar->Option Fh
  | []=>some []
  |
   .tmp t::r=>match lk L t with
   |
    some (.v u)=>match cA T L B r with
    |some us=>some (u::us)
    |none=>none
   |_=>none
  |
   .cell t S::r=>match T.find S with
   |
    some ti=>match lk L t with
    |
     some (.v (.one (.ow i 0)))=>match QU B i with
     |
      some (.blk _ xs)=>match dB xs 0 ti.sz with
      |
       some l=>match JG ti.ag l with
       |
        some u=>match cA T L B r with
        |some us=>some (u::us)
        |none=>none
       |none=>none
      |none=>none
     |_=>none
    |_=>none
   |none=>none
theorem EF{T:TT P}{F:Fr}{E:Li}{M:Nat->Prop}{a:Act}{w:World}(h:SA F n L B E M a w):∀{y:List ResultVar} {us:Fh},cA T L B y=some us->∃vs:List Value,F2 (TRep w M E) vs us/\(y.mapM (kC a.tmps)).run P w=.ok vs w
 | [],us,hr=>by simp only[cA,Option.some.injEq]at hr;subst hr;exact⟨[],.nil,rfl⟩
 |
  .tmp t::r,us,hr=>by
  simp only[cA]at hr
  split at hr
  .rename_i u hu
   split at hr
   .rename_i o f;injection hr with hr;subst hr;obtain⟨vs,h1,h2⟩:=EF h f;obtain⟨v,h3,h4⟩:=h.slots t _ hu;refine⟨v::vs,.cons h4 h1,?_⟩;simp only[List.mapM_cons,kC,Sem.run_bind,Sem.run_pure,Result.andThen_ok,Array.getD_eq_getD_getElem?,h3,Km,h2]
   .cases hr
  .cases hr
 |
  .cell t S::r,us,hr=>by
  simp only[cA]at hr
  split at hr
  .rename_i k e;have e:=TT.find_t e;subst e
   split at hr
   .rename_i i hu
    split at hr
    .rename_i G xs hb
     split at hr
     .rename_i l hl
      split at hr
      .rename_i u p
       split at hr
       .rename_i o f;injection hr with hr;subst hr;obtain⟨vs,h1,h2⟩:=EF h f;obtain⟨v,h3,g,c,m,he,hv⟩:=h.slots t _ hu;obtain⟨D,c',m',b,cs,hg,hc⟩:=h.blk hb;rw[he]at b;injection b with b;injection b with e1 _;injection e1 with e1;injection e1 with e1 _;subst e1
        obtain⟨rfl,z⟩:=UE hl;obtain⟨x,q,s⟩:=En p ((hc.drop 0).take k.sz);have C:=hc.len;have d:(loadVar k.t ⟨g,0,none⟩).run P w=.ok x w:=CN k.hag k.hsz (vs:=(cs.drop 0).take k.sz) Fq (λj v A=>by rw[WI hg];exact PQ A) q;refine⟨x::vs,.cons s h1,?_⟩;simp only[List.mapM_cons,kC,Sem.run_bind,Sem.run_pure,Result.andThen_ok,Array.getD_eq_getD_getElem?,h3,Km,hv,asAddr,d,h2]
       .cases hr
      .cases hr
     .cases hr
    .cases hr
   .cases hr
  .cases hr
variable{fn:Func}{M:Nat->Prop}
theorem CC{a:Act}{w:World}{vs:List Value}{E:Li}{us:Fh}(h:(fn.results.toList.mapM (kC a.tmps)).run P w=.ok vs w)(hr:F2 (TRep w M E) vs us):∃r,(results fn a.tmps).run P w=.ok r w/\ARep w M E r (PD us):=by
 have hm:(fn.results.mapM (kC a.tmps)).run P w=.ok vs.toArray w:=by
  have:fn.results=fn.results.toList.toArray:=Ft;rw[this,List.mapM_toArray,map_eq_pure_bind,Sem.run_bind,h];rfl
 refine⟨if h:vs.toArray.size=1 then vs.toArray[0]else .tuple vs.toArray,?_,?_⟩
 .rw[Qan];simp only[Sem.run_bind,hm,Result.andThen_ok,Sem.run_pure]
 .match vs,us,hr with
  | [v],[t],.cons h0 .nil=>simpa[PD,ARep]using h0
  | [],[],.nil=>exact⟨[],rfl,.nil⟩
  |v::v'::vs,t::t'::us,hr=>exact⟨_,Ft,hr⟩
theorem HS.forget{F:Fr}{bl:Nat->OB}{U:Nat->Prop}{E:Li}{w:World}(h:HS F bl U E M w)(a:∀i,¬F.J i):HS F (ob []) (nw []) (λ_=>none) M w :=
 {size:=h.size,kept:=h.kept,io:=h.io,mlt:=h.mlt,m0:=h.m0
  ids:=λi hi=>absurd hi (a i)
  nj:=λi _=>a i
  blk:=λi=>by simp[ob];trivial
  nk:=λi g c m hl _=>by simp[ob,OB.lv]at hl
  inj:=λi j g c m c' m' hl=>by simp[ob,OB.lv]at hl
  un:=λi _=>⟨rfl,by simp[ob]⟩
  uj:=λi _=>a i }
def Qmo(
 T:TT P):Nat->Sg->Fg->List ResultVar->Option Fh
  | 0,_,_,_=>none
  |
   f+1,L,B,rs=>match cA T L B rs with
   |
    some us=>match Qu0 us with
    |
     some i=>match rM L B (dig B 20 i)with
     |some (L',B')=>Qmo T f L' B' rs
     |none=>none
    |
     none=>match Ox us with
     |
      some ys=>match ZW ys with
      |true=>some ys
      |false=>none
     |none=>none
   |none=>none
theorem OP{T:TT P}{fn:Func}{e:Exit}(he:e=.ret\/e=.normal):∀{f:Nat} {L:Sg} {B:Fg} {us:Fh},Qmo T f L B fn.results.toList=some us->RQ P fn n 0 (λu B=>u=us/\B=[]) e L B
 | 0,_,_,_,h=>by cases h
 |
  f+1,L,B,us,h=>by
  simp only[Qmo]at h
  split at h
  .rename_i g hr
   split at h
   .split at h
    .rename_i L' B' hp;obtain⟨_,h1⟩:=OP he h;refine⟨he,λF E M a w hs c=>?_⟩;obtain⟨E',j,h2⟩:=EV hp F E M a w hs;exact h1 F E' j a w h2 c
    .cases h
   .split at h
    .rename_i k b
     split at h
     .rename_i d;injection h with h;subst h;refine⟨he,λF E M a w hs c=>?_⟩;obtain⟨vs,h1,h2⟩:=EF hs hr;have h3:=XK b h1;obtain⟨r,h4,h5⟩:=CC h2 h3;refine⟨r,_,[],λ_=>none,M,h4,⟨rfl,rfl⟩,Qj _,hs.hs.forget λi=>c i (Qj _),h5.keep (Le.refl _ _) λi hi=>?_⟩;rw[sC d]at hi;cases hi
     .cases h
    .cases h
  .cases h
def jZ:List Prop->Option (List Prop)
 | []=>some []
 |
  p::l=>match jZ l with
  |some r=>some (p::r)
  |none=>none
theorem SZ:∀{l r:List Prop},jZ l=some r->r=l
 | [],r,h=>by simp only[jZ,Option.some.injEq]at h;exact h.symm
 |
  p::l,r,h=>by
  simp only[jZ]at h
  split at h
  .rename_i q a;injection h with h;rw[<-h,SZ a]
  .cases h
def yW:List It->Bool
 | .code .ret::_=>true
 | []=>true
 |_=>false
def wE(
 T:TT P) (n:Nat) (c:Code) (rs:List ResultVar) (args:Fh) (hs:List (H P)):Option (Fh×List Qv×List Qv×List Prop):=match run T n 100000 [.code c] (FG 0 args) [] hs [] []with
  |
   some (it,L,B,q,ob)=>match yW it with
   |
    true=>match Qmo T 100 L B rs with
    |
     some us=>match jZ ob with
     |some ob=>some (us,q.map (·.1),q.map (·.2),ob)
     |none=>none
    |none=>none
   |false=>none
  |none=>none
theorem EqOk.of:∀{q:Ll},q.map (·.1)=q.map (·.2)->EqOk q
 | [],_=>EqOk.nil
 |
  (a,b)::q,h=>by
  injection h with h1 h2;intro p hp;rcases Qm.1 hp with rfl|hp
  .exact h1
  .exact EqOk.of h2 p hp
theorem w[Mo P](T:TT P){f:FuncId}{c:Code}{args res us:Fh}{e:List Qv}{ob:List Prop}(j:P.funcs[f]? = some fn)(d:(fn.body,fn.ntmps,(fn.name == "runtime.NumGoroutine"),Nat.ble args.length n)=(some c,n,false,true))(hs:List (H P))
 (h:wE T n c fn.results.toList args hs=some (us,e,e,ob)) (he:us=res) (p:Gi ob):xR P f args res:=by
 injection d with hb d;injection d with hn d;injection d with hnm hl;subst he;refine⟨⟨fn,j,hnm,by rw[hb];rfl⟩,fn_ j hb hn hl ?_⟩;unfold wE at h
 split at h
 .rename_i it L B q o hr
  split at h
  .rename_i a
   split at h
   .rename_i g b
    split at h <;> first|(cases h;done)|skip
    rename_i m i;obtain rfl:=SZ i;injection h with h;injection h with e1 h;injection h with e2 h;injection h with e3 e4;subst e1;subst e4;have l:EqOk q:=EqOk.of (e2.trans e3.symm);obtain⟨_,_,k⟩:=tQ (Q:=RQ P fn n 0 λu B=>u=g/\B=[]) T _ _ _ _ _ _ _ _ _ _ _ _ hr l p;refine k ?_;unfold yW at a
    split at a
    .exact lL (OP (.inl rfl) b)
    .exact OP (.inr rfl) b
    .cases a
   .cases h
  .cases h
 .cases h
theorem go[Mo P](T:TT P){it a:List It}{b:List Qv}{ob:List Prop}(hs:List (H P))(h:(match run T n 100000 it L B hs [] []with
 |
  some (it,L,B,q,ob)=>(match jZ ob with
  |some ob=>some (it,L,B,q.map (·.1),q.map (·.2),ob)
  |none=>none)
 |none=>none)=some (a,L',B',b,b,ob)) (e:Gi ob) (k:AK P n Q a L' B'):AK P n Q it L B:=by
 split at h
 .rename_i it L B q d hr
  split at h <;> first|(cases h;done)|skip
  rename_i f c;obtain rfl:=SZ c;injection h with h;injection h with e1 h;injection h with e2 h;injection h with e3 h;injection h with e4 h;injection h with e5 e6;subst e1;subst e2;subst e3;subst e6;exact(tQ T _ _ _ _ _ _ _ _ _ _ _ _ hr (EqOk.of (e4.trans e5.symm)) e).2.2 k
 .cases h
end Orr
namespace Orr
open Go
variable{fs:Array Field}
theorem mD{P:Program}{S f off T:Nat}{k:Nat}(hu:∀w,(underlying S).run P w=.ok (.struct fs) w)(a:(fs[f]?).map (λfl=>(fl.type,fl.offset))=some (T,off))(hs:∀w,(Go.sizeOf T).run P w=.ok k w)(c:k≠0)(b o:Nat)(w:World):
 (Instr.fieldAt S (.pointer (some ⟨b,o,none⟩)) f).run P w=.ok (.pointer (some ⟨b,o+off,none⟩)) w:=by
 cases h:fs[f]? with
 |none=>rw[h]at a;cases a
 |
  some fl =>
  rw[h]at a;simp only[Y8,Option.some.injEq,Prod.mk.injEq]at a;obtain⟨rfl,rfl⟩:=a;simp[Instr.fieldAt,hu,h,Instr.sureAddr,fieldPlace,hs,c,Lm]
def XD(fs:List Field)(sizes:Fa):List (Nat×Nat):=(fs.map (·.offset)).zip sizes
def FieldSizes(P:Program):List Field->Fa->Prop
 | [],[]=>True
 |f::fs,k::ks=>(∀w,(Go.sizeOf f.type).run P w=.ok k w)/\FieldSizes P fs ks
 |_,_=>False
theorem CB{P:Program}:∀(fs:List Field) (a:Fa) (w:World),FieldSizes P fs a ->
 (fs.mapM λf=>do pure (f.offset,<-Go.sizeOf f.type):Sem (List (Nat×Nat))).run P w=.ok (XD fs a) w
 | [],[],w,_=>rfl
 | [],_::_,w,h=>h.elim
 |_::_,[],w,h=>h.elim
 |
  f::fs,k::a,w,⟨h0,h⟩=>by
  have b:=CB fs a w h;simp only[List.mapM_cons,Sem.run_bind,h0,Result.andThen_ok,Sem.run_pure];rw[b];rfl
variable{z:Value}{vs:List (Nat×Value)}{cs:Array Value}
theorem Qf0{P:Program}{T:Nat}{a:Fa}(hu:∀w,(underlying T).run P w=.ok (.struct fs) w)(hz:∀w,(zeroValue T).run P w=.ok z w)
 (hs:FieldSizes P fs.toList a)
 (b:Instr.fill ((XD fs.toList a)[·]?) z.cells vs=some cs) (w:World):(Instr.build T vs.toArray).run P w=.ok (.agg cs) w:=by
 have hp:=CB (P:=P) fs.toList a w hs;have hm:(fs.mapM λf=>do pure (f.offset,<-Go.sizeOf f.type):Sem (Array (Nat×Nat))).run P w=.ok (XD fs.toList a).toArray w:=by
  cases fs with
  |
   mk l =>
   rw[List.mapM_toArray,map_eq_pure_bind,Sem.run_bind,show(List.mapM (λf:Field=>do pure (f.offset,<-Go.sizeOf f.type):Field->Sem (Nat×Nat)) l).run P w=_ from hp];rfl
 simp only[Instr.build,Sem.run_bind,hz,hu,Result.andThen_ok,hm];have e:(λx:Nat=>(XD fs.toList a).toArray[x]?)=λx=>(XD fs.toList a)[x]? := by funext x;simp
 rw[e,b];rfl
theorem eD{P:Program}{T E m k:Nat}(hu:∀w,(underlying T).run P w=.ok (.array m E) w)(hz:∀w,(zeroValue T).run P w=.ok z w)
 (hs:∀w,(Go.sizeOf E).run P w=.ok k w)
 (a:Instr.fill (λi=>some (i*k,k)) z.cells vs=some cs) (w:World):(Instr.build T vs.toArray).run P w=.ok (.agg cs) w:=by
 simp only[Instr.build,Sem.run_bind,hz,hu,Result.andThen_ok,hs,a];rfl
theorem Qhe{P:Program}{S f off T m:Nat}{ag:Bool}(hu:∀w,(underlying S).run P w=.ok (.struct fs) w)(a:(fs[f]?).map (λfl=>(fl.type,fl.offset))=some (T,off))(ht:∀w,(isAgg T).run P w=.ok ag w)(hs:∀w,(Go.sizeOf T).run P w=.ok m w)
 (vs:List Value) (v:Value) (hv:if ag=true then v=.agg ((vs.drop off).take m).toArray else vs[off]? = some v) (_:off+m<=vs.length) (w:World):(Instr.field S (.agg vs.toArray) f).run P w=.ok v w:=by
 cases h:fs[f]? with
 |none=>rw[h]at a;cases a
 |
  some fl =>
  rw[h]at a;simp only[Y8,Option.some.injEq,Prod.mk.injEq]at a;obtain⟨rfl,rfl⟩:=a;cases ag with
  |
   true =>
   simp only[if_true]at hv;subst hv;simp[Instr.field,hu,h,asAgg,Go.part,ht,hs,List.extract]
   done
  |
   false =>
   simp at hv;simp[Instr.field,hu,h,asAgg,Go.part,ht,hv]
variable{P:Program}
def Aggs(P:Program):List Field->List Bool->Prop
 | [],[]=>True
 |f::fs,k::ks=>(∀w,(isAgg f.type).run P w=.ok k w)/\Aggs P fs ks
 |_,_=>False
theorem FieldSizes.get:∀{fs:List Field} {ks:Fa},FieldSizes P fs ks->∀{i:Nat} {f:Field},fs[i]? = some f->∃k,ks[i]? = some k/\∀w,(Go.sizeOf f.type).run P w=.ok k w
 | [],[],_,i,f,h=>by simp at h
 |g::fs,k::ks,h,0,f,hf=>by simp at hf;subst hf;exact⟨k,rfl,h.1⟩
 |g::fs,k::ks,h,i+1,f,hf=>by simpa using h.2.get (i:=i) (by simpa using hf)
 | [],_::_,h,_,_,_=>h.elim
 |_::_,[],h,_,_,_=>h.elim
theorem Aggs.get:∀{fs:List Field} {ks:List Bool},Aggs P fs ks->∀{i:Nat} {f:Field},fs[i]? = some f->∃k,ks[i]? = some k/\∀w,(isAgg f.type).run P w=.ok k w
 | [],[],_,i,f,h=>by simp at h
 |g::fs,k::ks,h,0,f,hf=>by simp at hf;subst hf;exact⟨k,rfl,h.1⟩
 |g::fs,k::ks,h,i+1,f,hf=>by simpa using h.2.get (i:=i) (by simpa using hf)
 | [],_::_,h,_,_,_=>h.elim
 |_::_,[],h,_,_,_=>h.elim
def JY(t:TypeId){ag:Bool}{sz:Nat}{un:TypeDesc}{z:Value}(hag:∀w,(isAgg t).run P w=.ok ag w)(hsz:∀w,(Go.sizeOf t).run P w=.ok sz w)(hun:P.underlying t=some un)(hz:∀w,(zeroValue t).run P w=.ok z w){info:TypeInfo}(hi:∀w,(typeInfo t).run P w=.ok info w)(by_:Nat)(hby:info.bytes=by_):TI P :=
 {t,ag,sz,un,z,by_,fo:=[],fv:=[],bl:=none,hag,hsz,hun,hz,hi:=⟨info,hi,hby⟩,hfo:=λ_ _ h=>by simp at h,hfv:=λ_ _ _ _ h=>by simp at h,hbl:=λ_ _ h=>by cases h }
def tiA(t:TypeId){sz m E k:Nat}{ag:Bool}{zs:Array Value}(hag:∀w,(isAgg t).run P w=.ok ag w)(hsz:∀w,(Go.sizeOf t).run P w=.ok sz w)(hun:P.underlying t=some (.array m E))(hz:∀w,(zeroValue t).run P w=.ok (.agg zs) w){info:TypeInfo}(hi:∀w,(typeInfo t).run P w=.ok info w)(by_:Nat)(hby:info.bytes=by_)(he:∀w,(Go.sizeOf E).run P w=.ok k w):TI P :=
 {t,ag,sz,un:=.array m E,z:=.agg zs,by_,fo:=[],fv:=[],bl:=some (zs.toList,λi=>some (i*k,k)),hag,hsz,hun,hz,hi:=⟨info,hi,hby⟩,hfo:=λ_ _ h=>by simp at h,hfv:=λ_ _ _ _ h=>by simp at h
  hbl:=λzs' pl h=>by
   injection h with h;injection h with h1 h2;subst h1;subst h2;intro vs cs hf w;exact eD (z:=.agg zs) (CZ hun) hz he (by simpa[Value.cells]using hf) w }
def cQ:List Field->Fa->List Bool->List (Nat×Nat×Bool)
 |f::fs,k::ks,a::as0=>(f.offset,k,a)::cQ fs ks as0
 |_,_,_=>[]
theorem cZ:∀{fs:List Field} {ks:Fa} {b:List Bool} {i:Nat} {x:Nat×Nat×Bool},(cQ fs ks b)[i]? = some x->∃f,fs[i]? = some f/\ks[i]? = some x.2.1/\b[i]? = some x.2.2/\x.1=f.offset
 | [],_,_,i,x,h=>by simp[cQ]at h
 |_::_,[],_,i,x,h=>by simp[cQ]at h
 |_::_,_::_,[],i,x,h=>by simp[cQ]at h
 |f::fs,k::ks,a::b,0,x,h=>by simp[cQ]at h;subst h;exact⟨f,rfl,rfl,rfl,rfl⟩
 |f::fs,k::ks,a::b,i+1,x,h=>by simpa using cZ (fs:=fs) (i:=i) (by simpa[cQ]using h)
def PW(t:TypeId){sz:Nat}{fs:Array Field}{zs:Array Value}{g:Bool}{ks:Fa}{ag:List Bool}(hag:∀w,(isAgg t).run P w=.ok g w)(hsz:∀w,(Go.sizeOf t).run P w=.ok sz w)(hun:P.underlying t=some (.struct fs))(hz:∀w,(zeroValue t).run P w=.ok (.agg zs) w){info:TypeInfo}(hi:∀w,(typeInfo t).run P w=.ok info w)(by_:Nat)(hby:info.bytes=by_)
 (hs:FieldSizes P fs.toList ks) (ha:Aggs P fs.toList ag) (h0:(ks.all λk=>Nat.blt 0 k)=true):TI P :=
 {t,ag:=g,sz,un:=.struct fs,z:=.agg zs,by_,fo:=fs.toList.map (·.offset),fv:=cQ fs.toList ks ag,bl:=some (zs.toList,((XD fs.toList ks)[·]?)),hag,hsz,hun,hz,hi:=⟨info,hi,hby⟩
  hfo:=λf off h b o w=>by
   rw[Q9]at h;cases hf:fs.toList[f]? with
   |none=>rw[hf]at h;cases h
   |
    some fl =>
    rw[hf]at h;simp only[Y8,Option.some.injEq]at h;obtain⟨k,hk,hr⟩:=hs.get hf;have hk0:k≠0:=by
     have:=Ya.1 h0 k (Qc hk);rw[Jb]at this;omega
    refine mD (T:=fl.type) (k:=k) (CZ hun) ?_ hr hk0 b o w;rw[<-Array.getElem?_toList,hf,<-h];rfl
  hfv:=λf off m ag_ h vs v hv hl w=>by
   obtain⟨fl,hf,h1,h2,h3⟩:=cZ h;obtain⟨k,hk,hr⟩:=hs.get hf;obtain⟨a,ha',hr'⟩:=ha.get hf;rw[hk]at h1;injection h1 with h1;rw[ha']at h2;injection h2 with h2;have h1:k=m:=h1;have h2:a=ag_:=h2;have h3:off=fl.offset:=h3;subst h1;subst h2;subst h3;exact Qhe (T:=fl.type) (CZ hun) (by rw[<-Array.getElem?_toList,hf];rfl) hr' hr vs v hv hl w
  hbl:=λzs' pl h=>by
   injection h with h;injection h with h1 h2;subst h1;subst h2;intro vs cs hf w;exact Qf0 (z:=.agg zs) (CZ hun) hz hs (by simpa[Value.cells]using hf) w }
end Orr
namespace Orr
open Go
section
variable{F:Fr}{bl bl':Nat->OB}{U U':Nat->Prop}{E E':Li}{M:Nat->Prop}{w:World}
theorem HS.renum(h:HS F bl U E M w){ρ:Nat->Nat}(hi:∀i j,ρ i=ρ j->i=j)(hb:∀j,(bl' j).lv=true->bl (ρ j)=QX ρ (bl' j))(p:∀j,U' j->bl' j=.gone)(h1:∀j,U' j->E' j=none)(h2:∀j,¬U' j->E' j=E (ρ j))(l:∀j,∀i∈(bl' j).ids,¬U' i)(o:∀j,F.J j->ρ j=j/\¬U' j):HS F bl' U' E' M w:=by
 have b:∀j,(bl' j).lv=true->¬U' j:=λj a hu=>by rw[p j hu]at a;cases a
 have d:∀j,(bl' j).lv=true->(bl (ρ j)).lv=true:=λj a=>by rw[hb j a,(Ca _).1];exact a
 exact {
  size:=h.size
  kept:=h.kept
  io:=h.io
  mlt:=h.mlt
  m0:=h.m0
  ids:=λi hi=>by obtain⟨e,hu⟩:=o i hi;rw[h2 i hu,e];exact h.ids i hi
  nj:=λi hi a=>by
   have hl:(bl' i).lv=true:=by cases e:bl' i <;> rw[e]at hi <;> first|rfl|cases hi
   refine h.nj i ?_ a;have:=hb i hl;rw[(o i a).1]at this;rw[this,(Ca _).2];exact hi
  blk:=λj=>by
   cases hl:(bl' j).lv with
   |false=>cases hbl:bl' j <;> rw[hbl]at hl <;> first|trivial|cases hl
   |
    true =>
    have:=h.blk (ρ j);rw[hb j hl]at this;exact this.to (λ_=>h2 j (b j hl)) λi hi _=>h2 i (l j i hi)
  nk:=λi g c m hl e=>h.nk (ρ i) g c m (d i hl) (by rw[<-h2 i (b i hl)];exact e)
  inj:=λi j g c m c' m' f k r q=>hi _ _ (h.inj (ρ i) (ρ j) g c m c' m' (d i f) (d j k) (by rw[<-h2 i (b i f)];exact r) (by rw[<-h2 j (b j k)];exact q))
  un:=λi hi=>⟨h1 i hi,p i hi⟩
  uj:=λi hi a=>(o i a).2 hi }
end
variable{P:Program}{n:Nat}{L L':Sg}{B B':Fg}{Q:Exit->Sg->Fg->Prop}
def eqA:AV->AV->Option Ll
 | .v t,.v u=>some [(.t t,.t u)]
 | .tup l,.tup r=>sY l r
 | .cnd b t,.cnd c u=>some [(.t (.one (.bool b)),.t (.one (.bool c))),(.t t,.t u)]
 |_,_=>none
variable{q:Ll}
theorem Q0a{x y:AV}(h:eqA x y=some q)(a:EqOk q):x=y:=by
 cases x <;> cases y <;> simp only[eqA]at h <;> first|(cases h;done)|skip
 .injection h with h;subst h;have e:=a.hd;injection e with e;rw[e]
 .rw[PP h a]
 .injection h with h;subst h;have e:=a.hd;injection e with e;injection e with e;injection e with e;have b:=a.tl.hd;injection b with b;rw[e,b]
def Qwc(nb:Nat)(L:Sg):Sg->Option Ll
 | []=>some []
 |
  (t,x)::l=>match lk L t with
  |
   some y=>match eqA y x,Qwc nb L l with
   |
    some q,some q2=>match Ir (Nat.blt · nb) x.ids with
    |true=>some (YL q q2)
    |false=>none
   |_,_=>none
  |none=>none
theorem Qfe{a:Nat}:∀{l:Sg} {q:Ll},Qwc a L l=some q->EqOk q->∀t x,lk l t=some x->lk L t=some x/\∀i∈x.ids,i<a
 | [],_,_,_,t,x,h=>by simp[lk]at h
 |
  (s,y)::l,q,h,hq,t,x,hx=>by
  simp only[Qwc]at h
  split at h
  .rename_i z hz
   split at h
   .rename_i b c h1 h2
    split at h
    .rename_i hi;injection h with h;subst h;rw[Bf]at hq;obtain⟨ha,hb⟩:=hq.app;simp only[lk]at hx
     split at hx
     .rename_i e;injection hx with hx;subst hx;obtain rfl:=Qx e;refine⟨by rw[hz,Q0a h1 ha],λi hm=>?_⟩;have:=Mc hi i hm;rwa[Jb]at this
     .exact Qfe h2 hb t x hx
    .cases h
   .cases h
  .cases h
def ML:OB->Bool
 | .gone=>true
 |_=>false
def Qie(nb:Nat):Fg->Fg->Option Ll
 |_,[]=>some []
 |
  [],c::l=>match ML c with
  |true=>Qie nb [] l
  |false=>none
 |
  b::r,c::l=>match Qie nb r l with
  |
   some q=>match ML c with
   |true=>some q
   |
    false=>match Ir (Nat.blt · nb) c.ids with
    |true=>some ((.o b,.o c)::q)
    |false=>none
  |none=>none
theorem EP{d:Nat}:∀{r l:Fg} {q:Ll},Qie d r l=some q->EqOk q->∀j,(ob l j).lv=true->ob r j=ob l j/\∀i∈(ob l j).ids,i<d
 |_,[],_,_,_,j,hj=>by simp[ob,OB.lv]at hj
 |
  [],c::l,q,h,hq,j,hj=>by
  simp only[Qie]at h
  split at h
  .rename_i hg;cases j with
   |zero=>cases c <;> simp[ML]at hg;simp[ob,OB.lv]at hj
   |
    succ j =>
    have:=EP h hq j (by simpa[ob]using hj);simpa[ob]using this
  .cases h
 |
  b::r,c::l,q,h,hq,j,hj=>by
  simp only[Qie]at h
  split at h
  .rename_i f a
   split at h
   .rename_i hg;injection h with h;subst h;cases j with
    |zero=>cases c <;> simp[ML]at hg;simp[ob,OB.lv]at hj
    |
     succ j =>
     have:=EP a hq j (by simpa[ob]using hj);simpa[ob]using this
   .split at h
    .rename_i hi;injection h with h;subst h;have e:=hq.hd;injection e with e;cases j with
     |
      zero =>
      refine⟨by simpa[ob]using e,λi hm=>?_⟩;have:=Mc hi i (by simpa[ob]using hm);rwa[Jb]at this
     |
      succ j =>
      have:=EP a hq.tl j (by simpa[ob]using hj);simpa[ob]using this
    .cases h
  .cases h
def Qbc(k:Option Nat)(L:Sg)(B:Fg)(L2:Sg)(B2:Fg):Option Ll:=match lenB B,lenB B2 with
 |
  some n1,some n2=>match (match Nat.ble n1 n2 with
   |true=>true
   |
    false=>match k with
    |some k=>Nat.ble k n2
    |none=>false)with
  |
   true=>match Qwc n2 L L2,Qie n2 B B2 with
   |some q,some q2=>some (YL q q2)
   |_,_=>none
  |false=>none
 |_,_=>none
theorem Qvn:∀b:OB,QX id b=b
 |
  .blk T xs=>by
  have e:∀ys:Fe,ys.map (rD id)=ys:=λys=>by
   induction ys with
   |nil=>rfl
   |cons y ys a=>simp only[Xa,a];cases y <;> rfl
  have c:∀ys:Fe,ys.map (HK id)=ys:=λys=>by
   induction ys with
   |nil=>rfl
   |cons y ys a=>simp only[Xa,a];cases y <;> simp[HK,e]
  simp only[QX,c]
 | .gone=>rfl
 | .row .. => rfl
 | .mpb _=>rfl
variable{k:Option Nat}
theorem EM{l:Sg}{B2:Fg}(h:Qbc k L B l B2=some q)(g:EqOk q):Q2t k n L B l B2:=by
 unfold Qbc at h
 split at h
 .rename_i n1 n2 h1 h2;obtain rfl:=B8 h1;obtain rfl:=B8 h2
  split at h
  .rename_i d
   split at h
   .rename_i p r hs hb;injection h with h;subst h;rw[Bf]at g;obtain⟨ha,f⟩:=g.app;have hs:=Qfe hs ha;have hb:=EP hb f;intro F E M a w m c;have o:∀j,F.J j->j<B2.length:=λj b=>by
     apply Classical.byContradiction;intro hn
     split at d
     .rename_i e;have:=Zj e;exact c.hs.uj j (by simp only[nw];omega) b
     .split at d
      .have:=Zj d;exact m j Fo b
      .cases d
    refine⟨λi=>if i<B2.length then E i else none,M,c.hs.renum (ρ:=id) (λ_ _ e=>e) (λj b=>?_) (λj b=>Sj b) (λj b=>if_neg (by simpa[nw]using b)) (λj b=>if_pos (by simpa[nw]using b)) (λj i hi=>?_) (λj b=>⟨rfl,by have:=o j b;simp only[nw];omega⟩),c.size,c.defers,λt x hx=>?_⟩
    .rw[Qvn];exact(hb j b).1
    .have hl:(ob B2 j).lv=true:=by cases e:ob B2 j <;> rw[e]at hi <;> first|rfl|simp[OB.ids]at hi
     have:=(hb j hl).2 i hi;simp only[nw];omega
    .obtain⟨h1,h2⟩:=hs t x hx;obtain⟨v,h3,h4⟩:=c.slots t x h1;exact⟨v,h3,h4.keep (Le.refl _ _) λi hi _=>if_pos (h2 i hi)⟩
   .cases h
  .cases h
 .cases h
def two:Option Ll->Option (List Qv×List Qv)
 |some q=>some (q.map (·.1),q.map (·.2))
 |none=>none
theorem HN{o:Option Ll}{a:List Qv}(h:two o=some (a,a)):∃q,o=some q/\EqOk q:=by
 cases o with
 |none=>cases h
 |
  some q =>
  injection h with h;injection h with e1 e2;exact⟨q,rfl,EqOk.of (e1.trans e2.symm)⟩
variable{it:List It}{b:List Qv}
theorem sb(e:Sg)(d:Fg)(hs:So it=true)(h:two (Qbc none L B e d)=some (b,b))(k:AK P n Q it e d):AK P n Q it L B:=by
 obtain⟨q,h1,h2⟩:=HN h;exact AK.sub (λF E M a w c=>EM h1 h2 F E M a w trivial c) hs k
theorem pb(i:Nat)(hs:So it=true)(h:rM L B i=some (L',B'))(k:AK P n Q it L' B'):AK P n Q it L B:=Qi1 hs h k
def SQ:LV->LV
 | .nils=>.row []
 |x=>x
variable{M:Nat->Prop}{v:Value}
theorem Quq{w:World}{x:LV}(h:LRep w M v x):LRep w M v (SQ x):=by
 cases x <;> first|exact h|exact KD h
theorem nl(
 i:Nat) {fx:Bool} {T:TypeId} {sz:Nat} {ls:Ff} {it:List It} (hs:So it=true) (hb:QU B i=some (.row fx T sz ls)) (r:QY B i (.row fx T sz (ls.map λc=>c.map SQ))=some B') (k:AK P n Q it L B'):AK P n Q it L B:=by
  obtain⟨rfl,hl⟩:=Ds r;have b:B[i]? = some (.row fx T sz ls):=Mx ▸ hb;refine AK.sub (λF E M a w h=>⟨E,M,?_,h.size,h.defers,h.slots⟩) hs k;rw[GE,KI b];have hn:(ls.map λc=>c.map SQ).length=ls.length:=Ft;refine h.hs.re (λj=>?_) (λj=>?_) (λj=>?_) λj g=>?_
  .by_cases e:j=i
   .subst e;rw[Gy];obtain⟨h0,h1,q,h2,h3⟩:=h.blk hb;refine⟨h0,λc hc=>?_,q,by rw[hn];exact h2,?_⟩
    .obtain⟨c',l,rfl⟩:=Q8.1 hc;rw[Ze];exact h1 c' l
    .cases q with
     |none=>have h3:ls=[]:=h3;subst h3;rfl
     |
      some q =>
      obtain⟨vss,ex,h4,h5,p,s⟩:=h3;refine⟨vss,ex,?_,h5,p,by rw[hn];exact s⟩;refine F2.of (by rw[hn];exact h4.len) λk v x hv hx=>?_
      rw[Q9]at hx;cases f:ls[k]? with
      |none=>rw[f]at hx;cases hx
      |
       some y =>
       rw[f]at hx;injection hx with hx;subst hx;have o:=h4.get' hv f;refine F2.of (by rw[Ze];exact o.len) λm u z hu hz=>?_
       rw[Q9]at hz;cases d:y[m]? with
       |none=>rw[d]at hz;cases hz
       |some t=>rw[d]at hz;injection hz with hz;subst hz;exact Quq (o.get' hu d)
   .rw[Hl _ _ e];exact h.hs.blk j
  .by_cases e:j=i
   .subst e;rw[Gy,Pa b];rfl
   .rw[Hl _ _ e]
  .by_cases e:j=i
   .subst e;rw[Gy,Pa b];rfl
   .rw[Hl _ _ e]
  .by_cases e:j=i
   .subst e;rw[Pa b]at g;cases g
   .rw[Hl _ _ e];exact g
theorem Qef{w:World}{E:Li}{x:LV}(h:XRep w M E v x):XRep w M E v (SQ x):=by
 cases x <;> first|exact h|exact KD h
theorem nlb(i:Nat){T:TypeId}{xs:Fe}(hs:So it=true)(hb:QU B i=some (.blk T xs))(l:QY B i (.blk T (xs.map SQ))=some B')(k:AK P n Q it L B'):AK P n Q it L B:=by
 obtain⟨rfl,hl⟩:=Ds l;have b:B[i]? = some (.blk T xs):=Mx ▸ hb;refine AK.sub (λF E M a w h=>⟨E,M,?_,h.size,h.defers,h.slots⟩) hs k;rw[GE,KI b];refine h.hs.re (λj=>?_) (λj=>?_) (λj=>?_) λj d=>?_
 .by_cases e:j=i
  .subst e;rw[Gy];obtain⟨g,c,m,h1,cs,h2,h3⟩:=h.blk hb;refine⟨g,c,m,h1,cs,h2,F2.of (by rw[Ze];exact h3.len) λk v x hv hx=>?_⟩;rw[Q9]at hx;cases f:xs[k]? with
   |none=>rw[f]at hx;cases hx
   |some y=>rw[f]at hx;injection hx with hx;subst hx;exact Qef (h3.get' hv f)
  .rw[Hl _ _ e];exact h.hs.blk j
 .by_cases e:j=i
  .subst e;rw[Gy,Pa b];rfl
  .rw[Hl _ _ e]
 .by_cases e:j=i
  .subst e;rw[Gy,Pa b];rfl
  .rw[Hl _ _ e]
 .by_cases e:j=i
  .subst e;rw[Pa b]at d;cases d
  .rw[Hl _ _ e];exact d
def pA:List It->Bool
 | .code _::_=>true
 | .ops _ (_::_)::_=>true
 | .ops _ []::r=>pA r
 | .blk _::r=>pA r
 | .pst _::r=>pA r
 |_=>false
theorem AK.fact{p:Prop}(hp:∀F E M a w,SA F n L B E M a w->p):∀{it:List It},pA it=true->(p->AK P n Q it L B)->AK P n Q it L B
 | .code _::_,_,k=>λF E M a w hs=>k (hp F E M a w hs) F E M a w hs
 | .ops _ (_::_)::_,_,k=>λF E M a w K Q hs b=>k (hp F E M a w hs) F E M a w K Q hs b
 | .ops _ []::r,hs,k=>AK.fact (it:=r) hp hs k
 | .blk _::r,hs,k=>AK.fact (it:=r) hp hs k
 | .pst _::r,hs,k=>AK.fact (it:=r) hp hs k
theorem ln(t:Nat){l:Ff}(hl:lk L t=some (.v (.one (.row l))))(hs:pA it=true)(k:l.length<9223372036854775808->AK P n Q it L B):AK P n Q it L B :=
 AK.fact (λF E M a w h=>by
  obtain⟨v,_,h2⟩:=h.slots t _ hl;have h2:LRep w M v (.row l):=h2;cases h2 with
  |row A c sz b o l f hc hc63=>exact Xe hc hc63) hs k
def Ql4:List Oper->Fa->Fa
 | [],r=>r
 |
  o::l,r=>match o.dst with
  |some d=>d::Ql4 l r
  |none=>Ql4 l r
def sZ:Code->Fa->Fa
 | .region _ arr _,r=>Ql4 arr.toList r
 | .seq a b,r=>sZ a (sZ b r)
 | .cond _ a b,r=>sZ a (sZ b r)
 | .block _ c,r=>sZ c r
 | .loop c,r=>sZ c r
 | .scope c,r=>sZ c r
 |_,r=>r
def prn(ks:Fa):Sg->Option Sg
 | []=>some []
 |
  (t,v)::l=>match Bj t ks with
  |true=>prn ks l
  |
   false=>match prn (t::ks) l with
   |some r=>some ((t,v)::r)
   |none=>none
variable{S:Type}{c:Code}{r:List It}
theorem lp{L1:Sg}(k:Nat)(st:Sg->S->Sg)(b:S->Fg)(μ:S->Nat)(I:S->Prop)(s0:S)(h0:I s0)(i:prn (sZ c []) L=some L1)(j:∀s,I s->(b s).length=k){d:List Qv}(hs:two (Qbc none L B (st L1 s0) (b s0))=some (d,d))
 (round:∀s,I s->AK P n Q (.code c::.rnd (some k) (λL B=>∃s',μ s'<μ s/\I s'/\L=st L1 s'/\B=b s')::r) (st L1 s) (b s)):AK P n Q (.code (.loop c)::r) L B:=by
 obtain⟨q,h1,h2⟩:=HN hs;refine Qrk (λm L B=>∃s,m=μ s/\I s/\L=st L1 s/\B=b s) (m:=μ s0) (k:=k) (λm L B ⟨s,_,h,_,f⟩=>by rw[f,j s h];exact Ql _) ⟨_,_,λF E M a w g=>EM h1 h2 F E M a w trivial g,s0,rfl,h0,rfl,rfl⟩ λm L B ⟨s,hm,h,i,f⟩=>?_
 subst hm;subst i;subst f;have:=round s h;have e:(λ(L:Sg) (B:Fg)=>∃m',m'<μ s/\∃s',m'=μ s'/\I s'/\L=st L1 s'/\B=b s')=λL B=>∃s',μ s'<μ s/\I s'/\L=st L1 s'/\B=b s':=by
  funext L B;exact propext ⟨λ⟨_,h1,s',e,h2⟩=>⟨s',e ▸ h1,h2⟩,λ⟨s',h1,h2⟩=>⟨_,h1,s',rfl,h2⟩⟩
 rw[e];exact this
theorem rd{st:S->Sg}{c:S->Fg}{μ:S->Nat}{I:S->Prop}{m:Nat}(a:S)(hμ:μ a<m)(d:I a)(hs:two (Qbc k L B (st a) (c a))=some (b,b)):AK P n Q (.rnd k (λL B=>∃a,μ a<m/\I a/\L=st a/\B=c a)::r) L B:=by
 obtain⟨q,h1,h2⟩:=HN hs;exact⟨_,_,EM h1 h2,a,hμ,d,rfl,rfl⟩
theorem ct(j:Nat)(st:S->Sg)(b:S->Fg)(I:S->Prop)(hs:So (it.drop j)=true)(hx:AK P n Q (it.take j++.rnd none (λL B=>∃a,I a/\L=st a/\B=b a)::it.drop j) L B)(e:∀s,I s->AK P n Q (it.drop j) (st s) (b s)):AK P n Q it L B :=
 Q3x j _ hx hs λL B ⟨s,c,d,f⟩=>by subst d;subst f;exact e s c
theorem rc{st:S->Sg}{c:S->Fg}{I:S->Prop}(a:S)(d:I a)(hs:two (Qbc k L B (st a) (c a))=some (b,b)):AK P n Q (.rnd k (λL B=>∃a,I a/\L=st a/\B=c a)::r) L B:=by
 obtain⟨q,h1,h2⟩:=HN hs;exact⟨_,_,EM h1 h2,a,d,rfl,rfl⟩
variable{fn:Func}{res:Fh}{Bout:Fg}
theorem G7{f:FuncId}{args:Fh}{Bin:Fg}(b:P.funcs[f]? = some fn)(a:(fn.body,fn.ntmps,(fn.name == "runtime.NumGoroutine"),Nat.ble args.length n)=(some c,n,false,true))(h:AK P n (RQ P fn n Bin.length λu B=>u=res/\B=Bout) [.code c] (FG 0 args) Bin):Ge P f args Bin res Bout:=by
 injection a with hb a;injection a with hn a;injection a with hnm hl;exact⟨⟨fn,b,hnm,by rw[hb];rfl⟩,fn_ b hb hn hl h⟩
def enE(T:TT P)(n:Nat)(rs:List ResultVar)(it:List It)(L:Sg)(B:Fg)(hs:List (H P)):Option (Fh×List Qv×List Qv×List Prop):=match run T n 100000 it L B hs [] []with
 |
  some (it,L,B,q,ob)=>match yW it with
  |
   true=>match Qmo T 100 L B rs with
   |
    some us=>match jZ ob with
    |some ob=>some (us,q.map (·.1),q.map (·.2),ob)
    |none=>none
   |none=>none
  |false=>none
 |none=>none
variable{c:List Qv}
theorem en[Mo P](T:TT P){us:Fh}{ob:List Prop}(hs:List (H P))(h:enE T n fn.results.toList it L B hs=some (us,c,c,ob))(he:us=res)(j:Gi ob):AK P n (RQ P fn n 0 λu B=>u=res/\B=[]) it L B:=by
 subst he;unfold enE at h
 split at h
 .rename_i it L B q i hr
  split at h
  .rename_i a
   split at h
   .rename_i d b
    split at h <;> first|(cases h;done)|skip
    rename_i g e;obtain rfl:=SZ e;injection h with h;injection h with e1 h;injection h with e2 h;injection h with e3 e4;subst e1;subst e4;have f:EqOk q:=EqOk.of (e2.trans e3.symm);obtain⟨_,_,k⟩:=tQ (Q:=RQ P fn n 0 λu B=>u=d/\B=[]) T _ _ _ _ _ _ _ _ _ _ _ _ hr f j;refine k ?_;unfold yW at a
    split at a
    .exact lL (OP (.inl rfl) b)
    .exact OP (.inr rfl) b
    .cases a
   .cases h
  .cases h
 .cases h
def finD(T:TT P)(k:Nat)(L:Sg)(B:Fg)(rs:List ResultVar)(res:Fh)(Bout:Fg)(is:Fa):Option Ll:=match cA T L B rs,Mb (lJ (rnL is)) res,outB is B is Bout with
 |
  some us,some rs',some q2=>match Ox us with
  |
   some us=>match sY us rs' with
   |
    some q=>match seqP k 0 is,ndp is,Nat.beq is.length Bout.length with
    |true,true,true=>some (YL q q2)
    |_,_,_=>none
   |none=>none
  |none=>none
 |_,_,_=>none
where
 outB (
  is0:Fa) (B:Fg):Fa->Fg->Option Ll
   |
    i::is,c::l=>match outB is0 B is l with
    |
     some q=>match ML c with
     |true=>some q
     |
      false=>match QU B i,KA (rnL is0) c with
      |some b,some c'=>some ((.o b,.o c')::q)
      |_,_=>none
    |none=>none
   |_,_=>some []
 seqP:Nat->Nat->Fa->Bool
  | 0,_,_=>true
  |
   k+1,j,i::l=>match Nat.beq i j with
   |true=>seqP k (j+1) l
   |false=>false
  |_+1,_,[]=>false
theorem EJ{a:Fa}{c0:Nat}:∀{is:Fa} {l:Fg} {q:Ll},finD.outB a B is l=some q->EqOk q->∀(j:Nat) (i:Nat) (c:OB),is[j]? = some i->l[j]? = some c->c.lv=true->ob B i=QX (PN a c0) c/\∀m∈c.ids,m<a.length
 | [],l,_,_,_,j,i,c,h,_,_=>by simp at h
 |_::_,[],_,_,_,j,i,c,_,h,_=>by simp at h
 |
  x::is,d::l,q,h,hq,j,i,c,hi,hc,hl=>by
  simp only[finD.outB]at h
  split at h
  .rename_i k f
   split at h
   .rename_i hg;injection h with h;subst h;cases j with
    |zero=>simp at hc;subst hc;cases d <;> simp[ML,OB.lv]at hg hl
    |succ j=>exact EJ f hq j i c (by simpa using hi) (by simpa using hc) hl
   .split at h
    .rename_i b c' hb g;injection h with h;subst h;cases j with
     |
      zero =>
      simp at hi hc;subst hi;subst hc;have e:=hq.hd;injection e with e;obtain⟨h1,h2⟩:=Qao (c:=c0) (Pre.refl a) g;exact⟨by rw[Pa (Mx ▸ hb),e,h1],h2⟩
     |succ j=>exact EJ f hq.tl j i c (by simpa using hi) (by simpa using hc) hl
    .cases h
  .cases h
theorem tZ:∀{k j:Nat} {l:Fa},finD.seqP k j l=true->∀m,m<k->l[m]? = some (j+m)
 | 0,_,_,_,m,h=>Fo
 |k+1,j,[],h,_,_=>by simp[finD.seqP]at h
 |
  k+1,j,i::l,h,m,hm=>by
  simp only[finD.seqP]at h
  split at h
  .rename_i e;cases m with
   |zero=>simp[Qx e]
   |
    succ m =>
    have:=tZ h m Fo;rw[show j+(m+1)=j+1+m from Fo];simpa using this
  .cases h
theorem Qjb:∀is:Fa,∃c,∀i∈is,i<c
 | []=>⟨0,λi hi=>by simp at hi⟩
 |
  x::is=>by
  obtain⟨c,hc⟩:=Qjb is;refine⟨c+x+1,λi hi=>?_⟩;rcases Qm.1 hi with rfl|hi
  .omega
  .have:=hc i hi;omega
variable{k:Nat}{e:Exit}
theorem Qdj{T:TT P}(he:e=.ret\/e=.normal){is:Fa}(h:finD T k L B fn.results.toList res Bout is=some q)(H:EqOk q):RQ P fn n k (λu B=>u=res/\B=Bout) e L B:=by
 unfold finD at h
 split at h
 .rename_i us I W h1 h2 h3
  split at h
  .rename_i O K
   split at h
   .rename_i V hz
    split at h
    .rename_i p z f;injection h with h;subst h;rw[Bf]at H;obtain⟨ha,hb⟩:=H.app;have f:=Qx f;refine⟨he,λF E M a w hs J=>?_⟩;obtain⟨c,hc⟩:=Qjb is;have m:∀i j,PN is c i=PN is c j->i=j:=λi j e=>by
      simp only[PN,I0]at e;cases hi:is[i]? with
      |
       none =>
       cases d:is[j]? with
       |none=>simp only[hi,d]at e;omega
       |some b=>simp only[hi,d]at e;have:=hc b (Qc d);omega
      |
       some a =>
       cases d:is[j]? with
       |none=>simp only[hi,d]at e;have:=hc a (Qc hi);omega
       |some b=>simp only[hi,d]at e;subst e;exact gA z i j a hi d
     have s:∀j i,is[j]? = some i->PN is c j=i:=λj i h=>NP (Pre.refl is) (by rw[I0];exact h)
     obtain⟨G,C⟩:=EG (c:=c) (Pre.refl is) h2;obtain⟨vs,h4,h5⟩:=EF hs h1;have A:=XK K h4;rw[PP hz ha,G]at A
     let E':Li:=λj=>if j<Bout.length then E (PN is c j)else none
     have o:∀j,j<Bout.length->E' j=E (PN is c j):=λj d=>if_pos d
     have S:F2 (TRep w M E') vs res:=F2.of (by rw[A.len];simp) λj v t hv ht=>by
      have:=A.get' (b:=DD (PN is c) t) hv (by simp[ht]);exact this.to λi hi _=>o i (by have:=C t (Qc ht) i hi;omega)
     obtain⟨r,N,R⟩:=CC h5 S;have D:k<=Bout.length:=by
      cases k with
      |zero=>omega
      |succ k=>have:=(Qh.1 (tZ p k Fo)).1;omega
     refine⟨r,res,Bout,E',M,N,⟨rfl,rfl⟩,D,hs.hs.renum (ρ:=PN is c) m (λj d=>?_) (λj d=>Sj d) (λj d=>if_neg (by simpa[nw]using d)) (λj d=>o j (by simpa[nw]using d)) (λj i hi=>?_) (λj d=>?_),R⟩
     .have g:j<Bout.length:=by
       apply Classical.byContradiction;intro hn;rw[Sj Fo]at d;cases d
      have x:is[j]? = some is[j]:=Qf Fo;have l:=Qf g;rw[Pa l]at d ⊢;rw[s j _ x];exact(EJ (c0:=c) h3 hb j _ _ x l d).1
     .have hl:(ob Bout j).lv=true:=by cases e:ob Bout j <;> rw[e]at hi <;> first|rfl|simp[OB.ids]at hi
      have g:j<Bout.length:=by
       apply Classical.byContradiction;intro hn;rw[Sj Fo]at hl;cases hl
      have x:is[j]? = some is[j]:=Qf Fo;have l:=Qf g;rw[Pa l]at hl hi;have:=(EJ (c0:=c) h3 hb j _ _ x l hl).2 i hi;simp only[nw];omega
     .have y:j<k:=by
       apply Classical.byContradiction;intro hn;exact J j Fo d
      have:=tZ p j y;rw[Zw]at this;exact⟨s j j this,by simp only[nw];omega⟩
    .cases h
   .cases h
  .cases h
 .cases h
def Qh2:Fa->Sg->Fg->Option (Sg×Fg)
 | [],L,B=>some (L,B)
 |
  i::l,L,B=>match rM L B i with
  |some (L',B')=>Qh2 l L' B'
  |none=>none
theorem SN:∀{l:Fa} {L L':Sg} {B B':Fg},Qh2 l L B=some (L',B')->Sub n L B L' B'
 | [],_,_,_,_,h=>by injection h with h;injection h with e1 e2;subst e1;subst e2;exact Sub.refl
 |
  i::l,L,L',B,B',h=>by
  simp only[Qh2]at h
  split at h
  .rename_i hp;exact(EV hp).trans (SN h)
  .cases h
theorem RQ.sub{b:Fh->Fg->Prop}(h:Sub n L B L' B')(hr:RQ P fn n k b e L' B'):RQ P fn n k b e L B:=⟨hr.1,λF E M a w hs d=>by
 obtain⟨E',c,h1⟩:=h F E M a w hs;exact hr.2 F E' c a w h1 d⟩
def edE(T:TT P)(n k:Nat)(rs:List ResultVar)(it:List It)(L:Sg)(B:Fg)(hs:List (H P))(res:Fh)(Bout:Fg)(ps is:Fa):Option (List Qv×List Qv×List Prop):=match run T n 100000 it L B hs [] []with
 |
  some (it,L,B,q,ob)=>match yW it with
  |
   true=>match Qh2 ps L B with
   |
    some (L,B)=>match finD T k L B rs res Bout is with
    |
     some q2=>(match jZ ob with
     |some ob=>some ((YL q q2).map (·.1),(YL q q2).map (·.2),ob)
     |none=>none)
    |none=>none
   |none=>none
  |false=>none
 |none=>none
theorem ed[Mo P](T:TT P){ob:List Prop}(ps is:Fa)(hs:List (H P))(h:edE T n k fn.results.toList it L B hs res Bout ps is=some (c,c,ob))(j:Gi ob):AK P n (RQ P fn n k λu B=>u=res/\B=Bout) it L B:=by
 unfold edE at h
 split at h
 .rename_i it L B q g hr
  split at h
  .rename_i a
   split at h
   .rename_i l m hp
    split at h
    .rename_i i b
     split at h <;> first|(cases h;done)|skip
     rename_i f d;obtain rfl:=SZ d;injection h with h;injection h with e2 h;injection h with e3 e4;subst e4;have e:EqOk (YL q i):=EqOk.of (e2.trans e3.symm);rw[Bf]at e;obtain⟨ha,hb⟩:=e.app;obtain⟨_,_,k⟩:=tQ (Q:=RQ P fn n k λu B=>u=res/\B=Bout) T _ _ _ _ _ _ _ _ _ _ _ _ hr ha j;refine k ?_;unfold yW at a
     split at a
     .exact lL (RQ.sub (SN hp) (Qdj (.inl rfl) b hb))
     .exact RQ.sub (SN hp) (Qdj (.inr rfl) b hb)
     .cases a
    .cases h
   .cases h
  .cases h
 .cases h
end Orr
