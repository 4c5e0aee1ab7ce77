/- N8 N9 N10 N28 N11 N12 N13 N14 N15 N16 N25 -/
import Derived.Test.YtdcbpgmmopdelaaGreatPart00
set_option linter.all false
namespace Orr
open Go
variable{P:Program}{arr:Array Oper}{n:Nat}{o:Oper}{N:Sg->Ga->Prop}{L L':Sg}{B B':Ga}{F:Fr}{E E':Lf}{M M':Nat->Prop}{a:Act}{w w':World}
theorem HS.re{bl bl':Nat->OB}{U:Nat->Prop}(h:HS F bl U E M w)(h1:∀i,OBRep w M E i (bl' i))(h2:∀i,(bl' i).lv=(bl i).lv)(h3:∀i,(bl' i).mv=(bl i).mv)(h4:∀i,bl i=.gone->bl' i=.gone):HS F bl' U E M w :=
 {h with
  nj:=λi hi=>h.nj i (by rw[<-h3];exact hi)
  blk:=h1
  nk:=λi g c m hi=>h.nk i g c m (by rw[<-h2];exact hi)
  inj:=λi j g c m c' m' hi hj=>h.inj i j g c m c' m' (by rw[<-h2];exact hi) (by rw[<-h2];exact hj)
  un:=λi hi=>⟨(h.un i hi).1,h4 i (h.un i hi).2⟩ }
theorem Iy{α β:Type}{f:α->Option β}:∀{l:List α} {r:List β},Mg f l=some r->r.length=l.length/\∀(i:Nat) (y:β),r[i]? = some y->∃x,l[i]? = some x/\f x=some y
 | [],r,h=>by simp[Mg]at h;subst h;exact⟨rfl,λi y h=>by simp at h⟩
 |
  x::l,r,h=>by
  simp only[Mg]at h
  split at h
  ·rename_i y hy
   split at h
   ·rename_i q hq;injection h with h;subst h;obtain⟨h1,h2⟩:=Iy hq;refine⟨by simp[h1],λi z hz=>?_⟩;cases i with
    |zero=>simp at hz;subst hz;exact⟨x,rfl,hy⟩
    |succ i=>simpa using h2 i z (by simpa using hz)
   ·cases h
  ·cases h
theorem UE{f:LV->Option LV}{b b':OB}(h:VF f b=some b'):b'.lv=b.lv/\b'.mv=b.mv/\(b=.gone->b'=.gone):=by
 cases b with
 |
  blk T xs =>
  simp only[VF]at h
  split at h
  ·injection h with h;subst h;exact⟨rfl,rfl,λh=>by cases h⟩
  ·cases h
 |_=>simp only[VF,Option.some.injEq]at h;subst h;exact⟨rfl,rfl,id⟩
theorem wZ{f:LV->Option LV}{b b':OB}{i:Nat}(ht:nN w M E w M E f)(h:VF f b=some b')(hr:OBRep w M E i b):OBRep w M E i b':=by
 cases b with
 |
  blk T xs =>
  simp only[VF]at h
  split at h
  ·rename_i r hr';injection h with h;subst h;obtain⟨g,c,m,e,cs,h1,h2⟩:=hr;exact⟨g,c,m,e,cs,h1,Qmu ht hr' h2⟩
  ·cases h
 |_=>simp only[VF,Option.some.injEq]at h;subst h;exact hr
theorem kN{f:OB->Option OB}(h:Mg f B=some B')(i:Nat):(B'.length<=i/\B.length<=i)\/f (ob B i)=some (ob B' i):=by
 obtain⟨h1,h2⟩:=Iy h;rcases Q8 i B'.length with hi|hi
 ·obtain⟨x,h3,h4⟩:=h2 i _ (Qg hi);exact .inr (by rw[P5 h3,h4,P5 (Qg hi)])
 ·exact .inl ⟨hi,by omega⟩
theorem SA.turn{f:LV->Option LV}(h:SA F n L B E M a w)(ht:nN w M E w M E f)(hL:fN f L=some L')(hB:Mg (VF f) B=some B'):SA F n L' B' E M a w:=by
 have hlen:=(Iy hB).1;have hg:∀i,ob B' i=.gone/\ob B i=.gone\/VF f (ob B i)=some (ob B' i):=λi=>(kN hB i).imp (λ⟨h1,h2⟩=>⟨Sx h1,Sx h2⟩) id
 have hn:nw B'=nw B:=by funext i;simp only[nw,hlen]
 refine⟨?_,h.size,h.defers,Qs4 ht hL h.slots⟩;rw[hn];refine h.hs.re (λi=>?_) (λi=>?_) (λi=>?_) λi hi=>?_
 ·rcases hg i with⟨e,_⟩|e
  ·rw[e];trivial
  ·exact wZ ht e (h.hs.blk i)
 ·rcases hg i with⟨e,e'⟩|e
  ·rw[e,e']
  ·exact(UE e).1
 ·rcases hg i with⟨e,e'⟩|e
  ·rw[e,e']
  ·exact(UE e).2.1
 ·rcases hg i with⟨e,e'⟩|e
  ·exact e
  ·exact(UE e).2.2 hi
theorem sF{i:Nat}:nN w M E w M E (E4 i):=by
 intro v x y h hr;have hany:XRep w M E v .any:=LRep.any v hr.one;cases x <;> simp only[E4]at h
 case ow j p=>split at h <;> (injection h with h;subst h) <;> assumption
 case orow j p=>split at h <;> (injection h with h;subst h) <;> assumption
 case oel j p=>split at h <;> (injection h with h;subst h) <;> assumption
 case omap j=>split at h <;> (injection h with h;subst h) <;> assumption
 case oif t j p=>split at h <;> (injection h with h;subst h) <;> assumption
 case ofn f p q=>split at h <;> (injection h with h;subst h) <;> assumption
 all_goals (injection h with h;subst h;exact hr)
theorem PT{i:Nat}{x y:LV}(h:E4 i x=some y):i∉y.ids:=by
 cases x <;> simp only[E4]at h
 case ow j p=>split at h <;> (injection h with h;subst h) <;> rename_i e <;> simp[LV.ids];exact Nat.ne_of_beq_eq_false e
 case orow j p=>split at h <;> (injection h with h;subst h) <;> rename_i e <;> simp[LV.ids];exact Nat.ne_of_beq_eq_false e
 case oel j p=>split at h <;> (injection h with h;subst h) <;> rename_i e <;> simp[LV.ids];exact Nat.ne_of_beq_eq_false e
 case omap j=>split at h <;> (injection h with h;subst h) <;> rename_i e <;> simp[LV.ids];exact Nat.ne_of_beq_eq_false e
 case oif t j p=>split at h <;> (injection h with h;subst h) <;> rename_i e <;> simp[LV.ids];exact Nat.ne_of_beq_eq_false e
 case ofn f p q =>
  split at h <;> (injection h with h;subst h) <;> rename_i e <;> simp[LV.ids]
  simpa using e
 all_goals (injection h with h;subst h;simp[LV.ids])
theorem HN{f:LV->Option LV}{i:Nat}(hf:∀x y,f x=some y->i∉y.ids):∀{xs r:Fy},Mg f xs=some r->i∉r.flatMap LV.ids:=λh hm=>by
 obtain⟨y,hy,hi⟩:=Xb.1 hm;obtain⟨j,hj⟩:=Zp.1 hy;obtain⟨x,_,h2⟩:=(Iy h).2 j y hj;exact hf _ _ h2 hi
theorem uA{f:LV->Option LV}{i:Nat}(hf:∀x y,f x=some y->i∉y.ids){t u:TV}(h:nV f t=some u):i∉u.ids:=by
 cases t <;> simp only[nV]at h <;> split at h <;> first|(cases h;done)|skip
 ·rename_i y hy;injection h with h;subst h;exact hf _ _ hy
 ·rename_i y hy;injection h with h;subst h;exact HN hf hy
theorem Qn2{f:LV->Option LV}{i:Nat}(hf:∀x y,f x=some y->i∉y.ids){t u:AV}(h:avO f t=some u):i∉u.ids:=by
 cases t <;> simp only[avO]at h <;> split at h <;> first|(cases h;done)|skip
 ·rename_i y hy;injection h with h;subst h;exact uA hf hy
 ·rename_i y hy;injection h with h;subst h;intro hm;obtain⟨z,hz,hi⟩:=Xb.1 hm;obtain⟨j,hj⟩:=Zp.1 hz;obtain⟨x,_,h2⟩:=(Iy hy).2 j z hj;exact uA hf h2 hi
 ·rename_i y hy;injection h with h;subst h;exact uA hf hy
theorem uH{f:LV->Option LV}{i:Nat}(hf:∀x y,f x=some y->i∉y.ids):∀{L L':Sg},fN f L=some L'->∀t x,lk L' t=some x->i∉x.ids
 | [],L',h,t,x,hx=>by simp[fN]at h;subst h;simp[lk]at hx
 |
  (s,u)::L,L',h,t,x,hx=>by
  simp only[fN]at h
  split at h
  ·rename_i y hy
   split at h
   ·rename_i q hq;injection h with h;subst h;simp only[lk]at hx
    split at hx
    ·injection hx with hx;subst hx;exact Qn2 hf hy
    ·exact uH hf hq t x hx
   ·cases h
  ·cases h
theorem Qp7{f:LV->Option LV}{i:Nat}(hf:∀x y,f x=some y->i∉y.ids)(h:Mg (VF f) B=some B')(j:Nat):i∉(ob B' j).ids:=by
 rcases kN h j with⟨e,_⟩|e
 ·rw[Sx e];simp[OB.ids]
 ·generalize ob B j=b at e;cases b with
  |
   blk T xs =>
   simp only[VF]at e
   split at e
   ·rename_i r hr;injection e with e;rw[<-e];exact HN hf hr
   ·cases e
  |_=>simp only[VF,Option.some.injEq]at e;rw[<-e];simp[OB.ids]
def pubV(
 i:Nat) (b:OB):LV->Option LV
  |
   .ow j p=>match Nat.beq i j with
   |
    true=>match b with
    |
     .blk _ xs=>match YS p xs with
     |some r=>some (.sh r)
     |none=>some .any
    |_=>some .any
   |false=>some (.ow j p)
  |
   .orow j s p=>match Nat.beq i j with
   |
    true=>match b with
    |
     .row _ _ sz ls=>match Nat.beq s sz with
     |
      true=>match p with
      |none=>some (.row ls)
      |some (0,len)=>some (.row (ls.take len))
      |some (lo,len)=>some (.row ((ls.drop lo).take len))
     |false=>some .any
    |_=>some .any
   |false=>some (.orow j s p)
  |
   .oel j s k p=>match Nat.beq i j with
   |true=>some .any
   |false=>some (.oel j s k p)
  |
   .oif t j p=>match Nat.beq i j with
   |true=>some .any
   |false=>some (.oif t j p)
  |
   .ofn f x y=>match b with
   |
    .blk _ xs=>match Mg (pubY i xs) x with
    |
     some x'=>match Mg (pubY i xs) y with
     |
      some y'=>match Eg x' && Eg y' with
      |true=>some (.fn f x' y')
      |false=>some (.ofn f x' y')
     |none=>none
    |none=>none
   |_=>some (.ofn f x y)
  |x=>some x
where pubY (i:Nat) (xs:Fy):LV->Option LV
 |
  .ow j p=>match Nat.beq i j with
  |
   true=>match YS p xs with
   |some r=>some (.sh r)
   |none=>some .any
  |false=>some (.ow j p)
 |x=>some x
theorem Qcp{g c sz lo len ad:Nat}{T:TypeId}{vss:List (List Value)}{ex:List Value}{ls:Fz}(hM:¬M g)(hg:g<w.heap.size)(h3:F2 (F2 (LRep w M)) vss ls)(h4:w.heap[g]? = some (.cells (vss.flatten++ex).toArray T (0,0)))(h2:∀c∈ls,c.length=sz)
 (h6:lo+len<=c) (h7:c<2^63) (hl:lo+len<=ls.length) (ha:lo=0\/lo<c->ad=lo*sz):LRep w M (.slice (some ⟨g,ad,none⟩) len (c-lo)) (.row ((ls.drop lo).take len)):=by
 have hlen:((ls.drop lo).take len).length=len:=by simp;omega
 have hget:∀(i:Nat) (cs:Fy),((ls.drop lo).take len)[i]? = some cs->i<len/\ls[lo+i]? = some cs:=λi cs hi=>by
  rw[Jv]at hi
  split at hi
  ·rw[Xi]at hi;exact⟨by assumption,hi⟩
  ·cases hi
 have hall:∀c∈vss,c.length=sz:=λc hc=>by
  obtain⟨j,hj⟩:=Zp.1 hc;have hl:j<ls.length:=by rw[<-h3.len];exact(Qd.1 hj).1
  rw[(h3.get' hj (Qg hl)).len];exact h2 _ (Jf hl)
 have key:=LRep.row (w:=w) (M:=M) (some ⟨g,ad,none⟩) (c-lo) sz g ad ((ls.drop lo).take len) (λi j=>((vss[lo+i]?).bind (·[j]?)).getD undef) (by omega) (by omega) (λcs hm=>h2 cs (Q9 (Qq hm)))
  (λ_=>⟨rfl,hg,hM⟩)
  (λi cs hi j hj=>by
   obtain⟨h1,h8⟩:=hget i cs hi;obtain⟨vs,h9,h10⟩:=h3.get h8;have hvl:=h10.len;have hcs:=h2 cs (Qa h8);have hj2:j<vs.length:=by omega
   have e2:vss.flatten[(lo+i)*sz+j]? = vs[j]? := by rw[GE hall (by omega),h9];rfl
   have hlt:(lo+i)*sz+j<vss.flatten.length:=by
    have:=Qg hj2;rw[this]at e2;exact(Qd.1 e2).1
   rw[ha (.inr (by omega)),KJ h4,show lo*sz+i*sz+j=(lo+i)*sz+j from by rw[Yf],Q3 hlt,e2,h9];simp[Qg hj2])
  (λi cs hi j x hx=>by
   obtain⟨h1,h8⟩:=hget i cs hi;obtain⟨vs,h9,h10⟩:=h3.get h8;obtain⟨v,hv,hvr⟩:=h10.get hx;rw[h9];simp only[Y6,hv,V3];exact hvr)
 rw[hlen]at key;exact key
theorem Qp3{v:Value}(h:v=.slice none 0 0):LRep w M v (.row []):=VU (h ▸ .nils)
theorem Qqi{i:Nat}{b:OB}(hb:OBRep w M E i b)(hfree:∀T xs,b=.blk T xs->Eg xs=true)(hM:∀g c m,E i=some (some (g,c),m)->¬M g/\g<w.heap.size):nN w M E w M E (pubV i b):=by
 have hsh:∀T xs p r v,b=.blk T xs->YS p xs=some r->XRep w M E v (.ow i p)->LRep w M v (.sh r):=λT xs p r v e hr ⟨g,c,m,he,hv⟩=>by
  subst e;obtain⟨g',c',m',he',cs,h1,h2⟩:=hb;rw[he]at he';injection he' with he';injection he' with e1 _;injection e1 with e1;injection e1 with e1 _;subst e1
  obtain⟨h3,h4⟩:=hM _ _ _ he;obtain⟨rfl,hl⟩:=YP hr;rw[hv];refine Qs0 h4 h3 ((ZX (hfree _ _ rfl) h2).drop p) λj v hj=>?_
  rw[Xi]at hj;rw[KJ h1];exact hj
 intro v x y h hr;have hany:XRep w M E v .any:=LRep.any v hr.one;cases x <;> simp only[pubV]at h
 case ow j p =>
  split at h
  ·rename_i e;obtain rfl:=Qu e
   split at h
   ·split at h
    ·rename_i r hr';injection h with h;subst h;exact hsh _ _ _ _ _ rfl hr' hr
    ·injection h with h;subst h;exact hany
   ·injection h with h;subst h;exact hany
  ·injection h with h;subst h;exact hr
 case orow j s p =>
  split at h
  ·rename_i e;obtain rfl:=Qu e
   split at h
   ·rename_i fx T sz ls
    split at h
    ·rename_i hs;obtain rfl:=Qu hs;obtain⟨h0,h1,q,he,h2⟩:=hb;obtain⟨q',m,he',hle,hv⟩:=hr;rw[he]at he';injection he' with he';injection he' with e1 e2;subst e1;subst e2
     have key:∀lo len,lo+len<=ls.length->mF v s lo len q->LRep w M v (.row ((ls.drop lo).take len)):=λlo len hl hv=>by
      rcases q with _|⟨g,c⟩
      ·have h2:ls=[]:=h2;subst h2;simpa using Qp3 hv.1
      ·obtain⟨vss,ex,h3,h4,h5,h6,h7⟩:=h2;obtain⟨hc,ad,rfl,ha⟩:=hv;obtain⟨h8,h9⟩:=hM _ _ _ he;exact Qcp h8 h9 h3 h4 h1 hc h7 hl ha
     split at h
     ·injection h with h;subst h;have:=key 0 ls.length (by omega) hv;show LRep w M v _;simpa using this
     ·injection h with h;subst h;have:=key 0 _ hle hv;show LRep w M v _;simpa using this
     ·injection h with h;subst h;exact key _ _ hle hv
    ·injection h with h;subst h;exact hany
   ·injection h with h;subst h;exact hany
  ·injection h with h;subst h;exact hr
 case oel j s k p=>split at h <;> (injection h with h;subst h) <;> assumption
 case oif t j p=>split at h <;> (injection h with h;subst h) <;> assumption
 case ofn f x y =>
  split at h
  ·rename_i T xs;obtain⟨vs,us,rfl,h1,h2⟩:=hr;have ht:∀v x y,pubV.pubY i xs x=some y->YRep w M E v x->YRep w M E v y:=λv x y h hr=>by
    cases x <;> simp only[pubV.pubY]at h <;> first|(injection h with h;subst h;exact hr)|skip
    split at h
    ·rename_i e;obtain rfl:=Qu e
     split at h
     ·rename_i r hr';injection h with h;subst h;exact hsh _ _ _ _ _ rfl hr' hr
     ·injection h with h;subst h;obtain⟨g,c,m,he,hv⟩:=hr;rw[hv];exact LRep.any _ rfl
    ·injection h with h;subst h;exact hr
   have hl:∀{xs' r:Fy} {vs:List Value},Mg (pubV.pubY i xs) xs'=some r->F2 (YRep w M E) vs xs'->F2 (YRep w M E) vs r:=by
    intro xs'
    induction xs' with
    |nil=>intro r vs h hr;simp[Mg]at h;subst h;cases hr;exact .nil
    |
     cons x xs' ih =>
     intro r vs h hr;cases hr with
     |
      cons h0 hr =>
      simp only[Mg]at h
      split at h
      ·rename_i y hy
       split at h
       ·rename_i q hq;injection h with h;subst h;exact .cons (ht _ _ _ hy h0) (ih hq hr)
       ·cases h
      ·cases h
   split at h
   ·rename_i x' hx
    split at h
    ·rename_i y' hy
     split at h
     ·rename_i hf;simp only[Zn]at hf;injection h with h;subst h;have hy2:∀{xs:Fy} {vs:List Value},Eg xs=true->F2 (YRep w M E) vs xs->F2 (LRep w M) vs xs:=by
       intro xs
       induction xs with
       |nil=>intro vs _ h;cases h;exact .nil
       |
        cons x xs ih =>
        intro vs hf h;cases h with
        |
         cons h0 h =>
         simp only[Eg]at hf
         split at hf
         ·rename_i hx;exact .cons (by cases x <;> first|exact h0|cases hx) (ih hf h)
         ·cases hf
      have h3:=hy2 hf.1 (hl hx h1);have h4:=hy2 hf.2 (hl hy h2);exact LRep.fn _ _ _ _ _ h3.len h4.len (λ_ _ _ ha hb=>h3.get' ha hb) λ_ _ _ ha hb=>h4.get' ha hb
     ·injection h with h;subst h;exact⟨vs,us,rfl,hl hx h1,hl hy h2⟩
    ·cases h
   ·cases h
  ·injection h with h;subst h;exact hr
 all_goals (injection h with h;subst h;exact hr)
def I8:Ga->Nat->OB->Option Ga
 | [],_,_=>none
 |_::l,0,b=>some (b::l)
 |
  x::l,i+1,b=>match I8 l i b with
  |some r=>some (x::r)
  |none=>none
theorem Ea:∀{B B':Ga} {i:Nat} {b:OB},I8 B i b=some B'->B'=B.set i b/\i<B.length
 | [],_,_,_,h=>by cases h
 |_::l,_,0,b,h=>by simp only[I8,Option.some.injEq]at h;subst h;simp
 |
  x::l,_,i+1,b,h=>by
  simp only[I8]at h
  split at h
  ·rename_i r hr;injection h with h;subst h;obtain⟨rfl,h2⟩:=Ea hr;exact⟨rfl,by simp;exact h2⟩
  ·cases h
def Qxx:OB->Bool
 | .row .. => true
 | .blk _ xs=>Eg xs
 |_=>false
def wL(
 L:Sg) (
  B:Ga) (i:Nat):Option (Sg×Ga):=match Ou B i with
  |
   some b=>match Qxx b with
   |
    true=>match I8 B i .gone with
    |
     some B1=>match fN (pubV i b) L with
     |
      some L'=>match Mg (VF (pubV i b)) B1 with
      |some B'=>some (L',B')
      |none=>none
     |none=>none
    |none=>none
   |false=>none
  |none=>none
theorem SA.pub(
 h:SA F n L B E M a w) {i:Nat} (hp:wL L B i=some (L',B')):∃M',SA F n L' B' E M' a w:=by
  unfold wL at hp
  split at hp
  ·rename_i b hb
   split at hp
   ·rename_i hok
    split at hp
    ·rename_i B1 hB1
     split at hp
     ·rename_i L2 hL
      split at hp
      ·rename_i B2 hB2;injection hp with hp;injection hp with e1 e2;subst e1;subst e2;have hbi:B[i]? = some b:=Nc ▸ hb;have hrep:=h.blk hb;obtain⟨rfl,hil⟩:=Ea hB1;have hlv:(ob B i).lv=true:=by rw[P5 hbi];cases b <;> first|rfl|cases hok
       have hn:nw (B.set i .gone)=nw B:=by funext j;simp[nw]
       have hfree:∀T xs,b=.blk T xs->Eg xs=true:=λT xs e=>by subst e;exact hok
       have key:∀M',Le w M w M'->HS F (L6 (ob B) i .gone) (nw B) E M' w->(∀g c m,E i=some (some (g,c),m)->¬M' g/\g<w.heap.size)->SA F n L2 B2 E M' a w:=λM' hle hs hM=>by
        have h1:SA F n L (B.set i .gone) E M' a w:=⟨by rw[UA hbi,hn];exact hs,h.size,h.defers,λt x hx=>by
         obtain⟨v,h1,h2⟩:=h.slots t x hx;exact⟨v,h1,h2.keep hle λ_ _ _=>rfl⟩⟩
        exact h1.turn (Qqi (hrep.keep hle (λ_ _ _ _ _=>rfl) (λ_=>rfl) λ_ _ _=>rfl) hfree hM) hL hB2
       cases he:E i with
       |none=>exact⟨M,key M (Le.refl _ _) (h.hs.gone i) λg c m e=>by rw[he]at e;cases e⟩
       |
        some q =>
        obtain⟨_|⟨g,c⟩,m⟩:=q
        ·exact⟨M,key M (Le.refl _ _) (h.hs.gone i) λg c m e=>by rw[he]at e;injection e with e;injection e with e _;cases e⟩
        ·refine⟨_,key _ ⟨Qn _,λ_ _ _=>rfl,λ_ _ h=>h.1⟩ (h.hs.pub hlv he) λg' c' m' e=>?_⟩;rw[he]at e;injection e with e;injection e with e _;injection e with e;injection e with e _;subst e;exact⟨λh=>h.2 rfl,h.hs.mlt _ (h.hs.nk _ _ _ _ hlv he).2⟩
      ·cases hp
     ·cases hp
    ·cases hp
   ·cases hp
  ·cases hp
end Orr
namespace Orr
open Go
variable{P:Program}{arr:Array Oper}{n:Nat}{o:Oper}{N:Sg->Ga->Prop}{L L':Sg}{B B':Ga}{F:Fr}{E E':Lf}{M M':Nat->Prop}{a:Act}{w w':World}
theorem VN{T E size len:Nat}{z:Value}{zs:List Value}{vs:List (Nat×Value)}{cs:List Value}(hu:∀w,(underlying T).run P w=.ok (.slice E) w)(hs:∀w,(Go.sizeOf E).run P w=.ok size w)(hz:∀w,(zeroValue E).run P w=.ok z w)(hz1:z.cells=zs.toArray)(hz0:zs.length=size)(hsz:0<size)
 (hl:len*size<=16777216) (hf:Instr.fill (λi=>some (i*size,size)) (QZ len zs).toArray vs=some cs.toArray) (w:World) :
 (Instr.buildSlice T len vs.toArray).run P w=.ok (.slice (some ⟨w.heap.size,0,none⟩) len len) (w.alloc (.cells cs.toArray E)):=by
 rcases Qx len with rfl|hl0
 ·have h2:0*size=0:=Yc _;have hf':Instr.fill (λi=>some (i*size,size)) #[] vs=some cs.toArray:=hf;simp only[Instr.buildSlice,Sem.run_bind,hu,hs,Result.andThen_ok,h2,if_true,Sem.run_pure,show ¬(0>2^24) by omega,if_false,show Array.range 0 = #[] from rfl,Array.map_empty,hf',Sem.run_bind,newRow,By,Result.andThen_ok]
 have h1:¬(len*size>2^24):=by
  have:(2:Nat)^24=16777216:=by decide
  omega
 have h2:¬(len*size=0):=by
  have:=Y3 hl0 hsz;omega
 have h3:=FX len zs (by omega);rw[hz0]at h3;simp only[Instr.buildSlice,Sem.run_bind,hu,hs,Result.andThen_ok,h1,h2,if_false,hz,Sem.run_pure,hz1];simp only[Ur,hz0,h3,hf,Sem.run_bind,newRow,By,Result.andThen_ok,Sem.run_pure]
theorem TS{T len:Nat}{ps:Array (Nat×Operand)}{e:Operand->Value}{r:Value}(ho:o.op=.buildSlice T len ps)(hrun:(Instr.buildSlice T len (ps.toList.map λp=>(p.1,e p.2)).toArray).run P w=.ok r w'):(execOp e o).run P w=.ok (.value r) w':=by
 have e1:(ps.map λx=>match x with|(i,x)=>(i,e x))=(ps.toList.map λp=>(p.1,e p.2)).toArray:=by cases ps;simp
 simp only[execOp,ho];rw[e1,Sem.run_bind,hrun];rfl
def UT(sz:Nat):Nat->Fy->Option Fz
 | 0,[]=>some []
 | 0,_::_=>none
 |
  k+1,l=>match BQ sz l with
  |none=>none
  |
   some a=>match YS sz l with
   |none=>none
   |
    some b=>match UT sz k b with
    |none=>none
    |some r=>some (a::r)
def AZ:Fz->Bool
 | []=>true
 |
  x::l=>match Eg x with
  |true=>AZ l
  |false=>false
theorem EQ{sz:Nat}:∀{k:Nat} {cs:List Value} {l:Fy} {ls:Fz},F2 (XRep w M E) cs l->UT sz k l=some ls->AZ ls=true->∃vss:List (List Value),cs=vss.flatten/\F2 (F2 (LRep w M)) vss ls/\(∀c∈ls,c.length=sz)/\ls.length=k
 |
  0,cs,[],ls,h,hc,_=>by
  simp[UT]at hc;subst hc;cases h;exact⟨[],rfl,.nil,by simp,rfl⟩
 | 0,cs,_::_,ls,h,hc,_=>by simp[UT]at hc
 |
  k+1,cs,l,ls,h,hc,hf=>by
  simp only[UT]at hc
  split at hc
  ·cases hc
  ·rename_i x hx
   split at hc
   ·cases hc
   ·rename_i y hy
    split at hc
    ·cases hc
    ·rename_i r hr;injection hc with hc;subst hc;simp only[AZ]at hf
     split at hf
     ·rename_i hfx;obtain⟨rfl,h1⟩:=TZ hx;obtain⟨rfl,h2⟩:=YP hy;obtain⟨vss,h3,h4,h5,h6⟩:=EQ (h.drop sz) hr hf;refine⟨cs.take sz::vss,by rw[Vv,<-h3,Zh],.cons (ZX hfx (h.take sz)) h4,?_,by simp[h6]⟩;intro c hm;rcases Qj.1 hm with rfl|hm
      ·simp;omega
      ·exact h5 c hm
     ·cases hf
def zrep:Nat->Fy->Fy
 | 0,_=>[]
 |m+1,zs=>go zs (zrep m zs)
where go:Fy->Fy->Fy
 | [],r=>r
 |x::l,r=>x::go l r
theorem Qru(l r:Fy):zrep.go l r=l++r:=by induction l <;> simp[zrep.go, *]
theorem fR{vs:List Value}{zs:Fy}(h:F2 (LRep w M) vs zs):∀m,F2 (LRep w M) (QZ m vs) (zrep m zs)
 | 0=>.nil
 |
  m+1=>by
  simp only[zrep,QZ,Qru];exact h.append (fR h m)
def Quw(
 T:TT P) (
  L:Sg) (t len:Nat) (ps:List (Nat×Operand)):Option TV:=match T.find t with
  |
   some ti=>match ti.un with
   |
    .slice E=>match T.find E with
    |
     some te=>match zl te.z with
     |
      some zs=>match (Nat.beq zs.length te.sz && Nat.blt 0 te.sz && Nat.ble (len*te.sz) 16777216 && Nat.blt 0 len)with
      |
       true=>match evTp L ps with
       |
        some us=>match ED (λi=>some (i*te.sz,te.sz)) (zrep len zs) us with
        |
         some r=>match UT te.sz len r with
         |
          some ls=>match AZ ls with
          |true=>some (.one (.row ls))
          |false=>none
         |none=>none
        |none=>none
       |none=>none
      |false=>none
     |none=>none
    |none=>none
   |_=>none
  |none=>none
theorem W1.lit{T:TT P}{t len d:Nat}{ps:Array (Nat×Operand)}{u:TV}(ho:o.op=.buildSlice t len ps)(hl:Quw T L t len ps.toList=some u)(hg:o.guard=none)(hd:o.dst=some d)(hdn:Nat.blt d n=true)(k:N ((d,.v u)::L) B):W1 P arr n o N L B:=by
 intro F E M a w K Q h hK;unfold Quw at hl
 split at hl
 ·rename_i ti hti;have hti:=TT.find_t hti;subst hti
  split at hl
  ·rename_i E' hu
   split at hl
   ·rename_i te hte;have hte:=TT.find_t hte;subst hte
    split at hl
    ·rename_i zs hz
     split at hl
     ·rename_i hc;simp only[Zn]at hc;obtain⟨⟨⟨c1,c2⟩,c3⟩,c4⟩:=hc;have c1:=Qu c1;rw[Jp]at c2 c4;have c3:=Zm c3
      split at hl
      ·rename_i us hus
       split at hl
       ·rename_i r hr
        split at hl
        ·rename_i ls hls
         split at hl
         ·rename_i hf;injection hl with hl;subst hl;have hzr:=MB (w:=w) (M:=M) hz;have hzl:=hzr.len;obtain⟨cells,h4,h5⟩:=CZ hr (fR hzr len).x (h.evTp hus);obtain⟨vss,rfl,h7,h8,h9⟩:=EQ h5 hls hf;have hrun:=VN (P:=P) (TI.hu' hu) te.hsz te.hz (zs:=te.z.cells.toList) (by simp) (by omega) c2 c3 h4 w;have hg2:=Bn (.cells vss.flatten.toArray te.t) w;have hs:=h.hs.grow hg2;have hsz:=Dz (.cells vss.flatten.toArray te.t) w;refine Ce hg (TS ho hrun) (hd ▸ hK _ _ _ _ _ _ ((h.mem hs (hg2.le M) λ_ _=>rfl).put (u:=.v (.one (.row ls))) hdn ?_) k);have hll:len<=16777216:=Qe (Ya len c2) c3;have h63:(2:Nat)^63=9223372036854775808:=by decide
          have key:=Qcp (w:=w.alloc (.cells vss.flatten.toArray te.t)) (M:=M) (g:=w.heap.size) (c:=len) (lo:=0) (len:=len) (ad:=0) (ex:=[]) (λhm=>Nat.lt_irrefl _ (h.hs.mlt _ hm)) (by omega) (h7.imp λ_ _ _ h=>h.imp λ_ _ _ h=>h.keep (hg2.le M)) (by rw[Xg];exact A6 _ _) h8 (by omega) (by omega) (by omega) λ_=>by simp
          rw[Je,Qp (by omega)]at key;exact key
         ·cases hl
        ·cases hl
       ·cases hl
      ·cases hl
     ·cases hl
    ·cases hl
   ·cases hl
  ·cases hl
 ·cases hl
theorem W1.mkMap{t d:Nat}(ho:o.op=.makeMap t none)(hg:o.guard=none)(hd:o.dst=some d)(hdn:Nat.blt d n=true)(k:N ((d,.v (.one (.omap B.length)))::L) (B++[.mpb []])):W1 P arr n o N L B:=by
 intro F E M a w K Q h hK;have hr:(execOp a.eval o).run P w=.ok (.value (.map (some w.heap.size))) (w.alloc (.map #[] 0)):=by simp[execOp,ho,Instr.makeMap,By]
 have hsz:=Dz (.map #[] 0) w;have h2:=h.fresh (Bn (.map #[] 0) w) (m:=0) (b:=.mpb []) (q:=some (w.heap.size,0)) (λg c e=>by injection e with e;injection e with e1 e2;subst e1;omega)
  (λhle hE=>⟨by simp,w.heap.size,0,0,G7 ..,#[],0,A6 ..,rfl⟩)
 refine Ce hg hr (hd ▸ hK _ _ _ _ _ _ (h2.put hdn (u:=.v (.one (.omap B.length))) ?_) k);exact⟨w.heap.size,0,0,G7 ..,rfl⟩
theorem W1.make{T:TT P}{t d k m:Nat}{x y:Operand}{kd:IntKind}{z1 z2:Int}{ti te:TI P}{zs:Fy}(ho:o.op=.makeSlice t x y)(hg:o.guard=none)(hd:o.dst=some d)(hdn:Nat.blt d n=true)(ht:ti.t=t)(hu:ti.un=.slice te.t)(hz:zl te.z=some zs)(hc:(Nat.beq zs.length te.sz && Nat.blt 0 te.sz && Nat.ble te.by_ 256)=true)
 (hx:evT L x=some (.one (.int .i64 z1))) (hy:evT L y=some (.one (.int .i64 z2))) (e1:z1=(m:Int)) (e2:z2=(k:Int)) (hmk:m<=k) (hk:k<274877906944)
 (kk:N ((d,.v (.one (.orow B.length te.sz none)))::L) (B++[.row false te.t te.sz (List.replicate m zs)])):W1 P arr n o N L B:=by
 intro F E M a w K Q h hK;subst ht e1 e2;simp only[Zn]at hc;obtain⟨⟨c1,c2⟩,c3⟩:=hc;have c1:=Qu c1;rw[Jp]at c2;have c3:=Zm c3;have hzr:=MB (w:=w) (M:=M) hz;have hzl:=hzr.len;obtain⟨info,hinf,hby⟩:=te.hi;rw[<-hby]at c3;have hrun:=Qwe (w:=w) (P:=P) (E:=te.t) (zs:=te.z.cells.toList) ho (Tj (h.evT hx)) (Tj (h.evT hy)) (TI.hu' hu) hinf c3 (by rw[hzl,c1];exact te.hsz) te.hz (by simp) (by omega) hmk hk;have e63:(2:Nat)^63=9223372036854775808:=by decide
 have hsz:=Dz (.cells (QZ k te.z.cells.toList).toArray te.t) w;have hall:∀(m:Nat) (c:List Value),c∈List.replicate m te.z.cells.toList->c.length=te.sz:=λm c hc=>by rw[Zz hc];omega
 have h2:=h.fresh (Bn (.cells (QZ k te.z.cells.toList).toArray te.t) w) (m:=m) (b:=.row false te.t te.sz (List.replicate m zs)) (q:=some (w.heap.size,k)) (λg c e=>by injection e with e;injection e with e1 e2;subst e1;omega)
  (λhle hE=>by
   refine⟨c2,λc hc=>by rw[Zz hc];exact c1,some (w.heap.size,k),by rw[G7];simp,List.replicate m te.z.cells.toList,(List.replicate (k-m) te.z.cells.toList).flatten,?_,?_,?_,by simpa using hmk,by omega⟩
   ·refine F2.of (by simp) λj v x hv hx=>?_
    have hv:=Zz (Qa hv);have hx:=Zz (Qa hx);rw[hv,hx];exact hzr.imp λ_ _ _ h=>h.keep hle
   ·rw[A6,<-Jm,W0,show m+(k-m)=k from by omega,Qez]
   ·rw[<-Jm,W0,show m+(k-m)=k from by omega,Pq (hall k)];simp)
 refine Ce hg hrun (hd ▸ hK _ _ _ _ _ _ (h2.put (u:=.v (.one (.orow B.length te.sz none))) hdn ?_) kk);exact⟨some (w.heap.size,k),m,G7 ..,by simp,by simp[hmk],0,by simp,λ_=>by simp⟩
end Orr
namespace Orr
open Go
variable{P:Program}{arr:Array Oper}{n:Nat}{o:Oper}{N:Sg->Ga->Prop}{L L':Sg}{B B':Ga}{F:Fr}{E E':Lf}{M M':Nat->Prop}{a:Act}{w w':World}
theorem PD{B:Ga}{i:Nat}{b:OB}:nw (B.set i b)=nw B:=by funext j;simp[nw]
theorem SA.wr{i g c m T:Nat}{b b':OB}{cs:List Value}(h:SA F n L B E M a w)(hb:Ou B i=some b)(hl:b.lv=true)(hm:b'.mv=b.mv)(he:E i=some (some (g,c),m))(hw:Wr g T cs w w')(hr:Le w M w' M->OBRep w' M E i b'):SA F n L (B.set i b') E M a w':=by
 have hbi:B[i]? = some b:=Nc ▸ hb;have hl':(ob B i).lv=true:=by rw[P5 hbi];exact hl
 have hk:=h.hs.nk i g c m hl' he;have hle:Le w M w' M:=⟨by rw[hw.size];exact Qn _,λb _ hb=>hw.rest b λe=>hb (e ▸ hk.2),λ_ _ h=>h⟩;have eE:L6 E i (some (some (g,c),m))=E:=by
  funext j;by_cases e:j=i
  ·subst e;rw[G7,he]
  ·exact H6 _ _ e
 have hs:=h.hs.set hl' he hw.size hw.rest hw.io (b:=b') (by rw[P5 hbi];exact hm) (.inl rfl) (by rw[eE];exact hr);rw[eE]at hs;refine⟨by rw[UA hbi,PD];exact hs,h.size,h.defers,λt x hx=>?_⟩;obtain⟨v,h1,h2⟩:=h.slots t x hx;exact⟨v,h1,h2.keep hle λ_ _ _=>rfl⟩
theorem W1.store{ti:TI P}{x y:Operand}{i off T':Nat}{xs ys r:Fy}{u:TV}(ho:o.op=.store ti.t x y)(hg:o.guard=none)(hd:o.dst=none)(hx:evT L x=some (.one (.ow i off)))(hb:Ou B i=some (.blk T' xs))(hy:evT L y=some u)(hl:VX u=some ys)(hs:ys.length=ti.sz)(hr:TW xs off ys=some r)(hB:I8 B i (.blk T' r)=some B')(k:N L B'):W1 P arr n o N L B:=by
 intro F E M a w K Q h hK;obtain⟨g,c,m,he,hv⟩:=h.evT hx;obtain⟨g',c',m',he',cs,hg',hc⟩:=h.blk hb;rw[he]at he';injection he' with he';injection he' with e1 _;injection e1 with e1;injection e1 with e1 _;subst e1
 obtain⟨rfl,hle⟩:=JG hr;obtain⟨rfl,_⟩:=Ea hB;have hyl:=XI (h.evT hy) hl;have hl1:=hyl.len;have hl2:=hc.len;obtain⟨w',hrun,hw⟩:=Qc2 ho hv rfl ti.hsz rfl (by omega) hg' (by omega) hyl.xone;refine OS hg hd hrun (hK _ _ _ _ _ _ (h.wr (b':=.blk T' (upd xs off ys)) hb rfl rfl he hw λhle=>⟨g,c,m,he,_,hw.at_,(hc.upd off hyl).xkeep hle λ_ _ _=>rfl⟩) k)
theorem SA.wrM{i g c m ck:Nat}{es es':List (Ft×LV)}{ents:List MapEntry}(h:SA F n L B E M a w)(hb:Ou B i=some (.mpb es))(he:E i=some (some (g,c),m))(hw:w'={ w with heap:=w.heap.setIfInBounds g (.map ents.toArray ck) })(hlt:g<w.heap.size)(h0:∀e∈es',e.1.length=3)(h1:ents.map (λe=>(e.key,e.val))=Du es'):SA F n L (B.set i (.mpb es')) E M a w':=by
 have hbi:B[i]? = some (.mpb es):=Nc ▸ hb;have hl':(ob B i).lv=true:=by rw[P5 hbi];rfl
 have hk:=h.hs.nk i g c m hl' he;subst hw;have hsz:(w.heap.setIfInBounds g (.map ents.toArray ck)).size=w.heap.size:=Array.size_setIfInBounds;have hrest:∀b,b≠g->(w.heap.setIfInBounds g (.map ents.toArray ck))[b]? = w.heap[b]? := λb e=>by rw[Array.getElem?_setIfInBounds,if_neg (λe2=>e e2.symm)]
 have hat:(w.heap.setIfInBounds g (.map ents.toArray ck))[g]? = some (.map ents.toArray ck):=by rw[Array.getElem?_setIfInBounds,if_pos rfl,if_pos hlt]
 have hle:Le w M { w with heap:=w.heap.setIfInBounds g (.map ents.toArray ck) } M:=⟨by rw[hsz];exact Qn _,λb _ hb=>hrest b λe=>hb (e ▸ hk.2),λ_ _ h=>h⟩;have eE:L6 E i (some (some (g,c),m))=E:=by
  funext j;by_cases e:j=i
  ·subst e;rw[G7,he]
  ·exact H6 _ _ e
 have hs:=h.hs.set (w':={ w with heap:=w.heap.setIfInBounds g (.map ents.toArray ck) }) hl' he hsz hrest ⟨rfl,rfl⟩ (b:=.mpb es') (by rw[P5 hbi];rfl) (.inl rfl) (by
  rw[eE];exact λ_=>⟨h0,g,c,m,he,ents.toArray,ck,hat,by simpa using h1⟩)
 rw[eE]at hs;refine⟨by rw[UA hbi,PD];exact hs,h.size,h.defers,λt x hx=>?_⟩;obtain⟨v,h1,h2⟩:=h.slots t x hx;exact⟨v,h1,h2.keep hle λ_ _ _=>rfl⟩
theorem W1.mapUp{T:TT P}{ti:TI P}{x y z:Operand}{i:Nat}{es:List (Ft×LV)}{ys:Fy}{ks:Ft}{v:LV}{d:LV}(ho:o.op=.mapUpdate ti.t x y z)(hg:o.guard=none)(hd:o.dst=none)(hmd:ti.md=some d)(hx:evT L x=some (.one (.omap i)))(hb:Ou B i=some (.mpb es))(hy:evT L y=some (.agg ys))(hks:UQ ys=some ks)(hk:ks.length=3)(hz:evT L z=some (.one v))(hl:Qa9 v=true)(hB:I8 B i (.mpb (BH es ks v))=some B')(k:N L B'):W1 P arr n o N L B:=by
 intro F E M a w K Q h hK;obtain⟨KT,ET,hM⟩:=ti.hmd d hmd;obtain⟨hl0,g,c,m,he,ents,ck,hg0,hen⟩:=h.blk hb;obtain⟨g',c',m',he',hv⟩:=h.evT hx;rw[he]at he';injection he' with he';injection he' with e1 _;injection e1 with e1;injection e1 with e1 _;subst e1
 have hky:=KR hks (h.evT hy);have hzv:=Quy hl (h.evT hz);obtain⟨rfl,_⟩:=Ea hB;obtain⟨ents',ck',hrun,hen'⟩:=aQ hM hk (ents:=ents.toList) hl0 hen (by simpa using hg0) v;have hlt:g<w.heap.size:=h.hs.mlt g (h.hs.nk i g c m (by rw[P5 (Nc ▸ hb)];rfl) he).2;have hex:(execOp a.eval o).run P w=.ok .skip { w with heap:=w.heap.setIfInBounds g (.map ents'.toArray ck') }:=by
  simp only[execOp,ho,hv,hky,hzv];rw[show(Value.agg (ks.map (Value.int .i64)).toArray)=Iw ks from rfl];simp[hrun]
 exact OS hg hd hex (hK _ _ _ _ _ _ (h.wrM hb he rfl hlt (mQ hl0 hk) hen') k)
theorem tC{sz:Nat}:∀{vss:List (List Value)} {k off:Nat} {us vs:List Value},(∀c∈vss,c.length=sz)->vss[k]? = some us->off+vs.length≤sz->upd vss.flatten (k*sz+off) vs=(vss.set k (upd us off vs)).flatten
 | [],k,off,us,vs,_,h,_=>by simp at h
 |
  v::vss,0,off,us,vs,hs,h,hl=>by
  simp at h;subst h;have e:=hs v (.head _);have key:∀(pre post:List Value) (k:Nat) (ys:List Value),k+ys.length<=pre.length->upd (pre++post) k ys=upd pre k ys++post:=by
   intro pre
   induction pre with
   |nil=>intro post k ys hk;cases ys <;> simp at hk;simp[A3]
   |
    cons p pre ih =>
    intro post k ys hk;cases ys with
    |nil=>simp[A3]
    |
     cons y ys=>cases k with
     |zero=>simp only[Xa,upd];rw[ih post 0 ys (by simp at hk ⊢;omega)]
     |succ k=>simp only[Xa,upd];rw[ih post k (y::ys) (by simp at hk ⊢;omega)]
  simp only[Vv,List.set_cons_zero,Yc,Xd];exact key v vss.flatten off vs (by omega)
 |
  v::vss,k+1,off,us,vs,hs,h,hl=>by
  have e:=hs v (.head _);have ih:=tC (vss:=vss) (k:=k) (off:=off) (us:=us) (vs:=vs) (λc hc=>hs c (.tail _ hc)) (by simpa using h) hl;simp only[Vv,Wi];rw[<-ih,show(k+1)*sz+off=v.length+(k*sz+off) from by rw[Xq];omega];have key:∀(pre post:List Value) (j:Nat) (ys:List Value),upd (pre++post) (pre.length+j) ys=pre++upd post j ys:=by
   intro pre
   induction pre with
   |nil=>intro post j ys;simp
   |
    cons p pre ih =>
    intro post j ys;cases ys with
    |nil=>simp[A3]
    |cons y ys=>rw[Xa,Zf,show pre.length+1+j=(pre.length+j)+1 from by omega];simp only[upd];rw[ih];rfl
  exact key v vss.flatten _ vs
theorem fQ:∀(pre post:List Value) (k:Nat) (ys:List Value),k+ys.length<=pre.length->upd (pre++post) k ys=upd pre k ys++post
 | [],post,k,[],_=>by simp[A3]
 | [],post,k,y::ys,hk=>by simp at hk
 |p::pre,post,k,[],_=>by simp[A3]
 |p::pre,post,0,y::ys,hk=>by simp only[Xa,upd];rw[fQ pre post 0 ys (by simp at hk ⊢;omega)]
 |p::pre,post,k+1,y::ys,hk=>by simp only[Xa,upd];rw[fQ pre post k (y::ys) (by simp at hk ⊢;omega)]
theorem Qc0:∀(us vs:List Value),us.length=vs.length->upd us 0 vs=vs
 | [],[],_=>rfl
 | [],_::_,h=>by simp at h
 |_::_,[],h=>by simp at h
 |u::us,v::vs,h=>by simp only[upd];rw[Qc0 us vs (by simpa using h)]
theorem W1.storeE{ti:TI P}{x y:Operand}{i sz k off T':Nat}{fx:Bool}{ls:Fz}{ys r:Fy}{u:TV}(ho:o.op=.store ti.t x y)(hg:o.guard=none)(hd:o.dst=none)(hx:evT L x=some (.one (.oel i sz k off)))(hb:Ou B i=some (.row fx T' sz ls))(hy:evT L y=some u)(hl:VX u=some ys)(hs:ys.length=ti.sz)(hf:Eg ys=true)(hk:k<ls.length)
 (hr:(off=0/\ys.length=sz/\r=ys)\/∃xs,ls[k]? = some xs/\TW xs off ys=some r) (hB:I8 B i (.row fx T' sz (ls.set k r))=some B') (kk:N L B'):W1 P arr n o N L B:=by
 intro F E M a w K Q h hK;obtain⟨g,c,m,he,hv⟩:=h.evT hx;obtain⟨h0,h1,q,he',h2⟩:=h.blk hb;rw[he]at he';injection he' with he';injection he' with e1 e2;subst e1;subst e2
 obtain⟨vss,ex,h3,h4,h5,h6,h7⟩:=h2;obtain⟨rfl,_⟩:=Ea hB;have hyl:=XI (h.evT hy) hl;have hyf:=ZX hf hyl;have hl1:=hyl.len;obtain⟨us,hus,husr⟩:=h3.get (Qg hk);have hall:∀c∈vss,c.length=sz:=λc hc=>by
  obtain⟨j,hj⟩:=Zp.1 hc;have hl:j<ls.length:=by rw[<-h3.len];exact(Qd.1 hj).1
  rw[(h3.get' hj (Qg hl)).len];exact h1 _ (Jf hl)
 have hosz:off+ys.length<=sz:=by
  rcases hr with⟨rfl,e,_⟩|⟨xs,hxs,hu⟩
  ·omega
  ·have:=(JG hu).2;rw[h1 _ (Qa hxs)]at this;exact this
 have hul:=hall us (Qa hus);have hksz:k*sz+sz<=vss.flatten.length:=by
  rw[Pq hall,h3.len,<-Xq];exact Qy _ hk
 have hrr:F2 (LRep w M) (upd us off (a.eval y).cells.toList) r:=by
  rcases hr with⟨rfl,e,rfl⟩|⟨xs,hxs,hu⟩
  ·rw[Qc0 us _ (by omega)];exact hyf
  ·rw[Qg hk]at hxs;injection hxs with hxs;subst hxs;rw[(JG hu).1];exact husr.upd off hyf
 have hrl:=hrr.len;rw[UD,hul]at hrl;obtain⟨w',hrun,hw⟩:=Qc2 ho hv rfl ti.hsz rfl (by omega) h4 (by simp only[Q6];omega) hyl.xone;have eu:upd (vss.flatten++ex) (k*sz+off) (a.eval y).cells.toList=(vss.set k (upd us off (a.eval y).cells.toList)).flatten++ex:=by
  rw[fQ _ _ _ _ (by omega),tC hall hus (by omega)]
 rw[eu]at hw;refine OS hg hd hrun (hK _ _ _ _ _ _ (h.wr (b':=.row fx T' sz (ls.set k r)) hb rfl rfl he hw λhle=>⟨h0,λz hz=>?_,some (g,c),by simpa using he,_,ex,((h3.set hrr k).imp λ_ _ _ h=>h.imp λ_ _ _ h=>h.keep hle),hw.at_,?_,by simpa using h6,h7⟩) kk)
 ·rcases Y8 hz with hz|rfl
  ·exact h1 z hz
  ·exact hrl.symm
 ·have e3:=Pq hall;have hall2:∀c∈vss.set k (upd us off (a.eval y).cells.toList),c.length=sz:=λz hz=>by
   rcases Y8 hz with hz|rfl
   ·exact hall z hz
   ·rw[UD];exact hul
  rw[Q6,Pq hall2,Jk,<-e3,<-Q6];exact h5
def OT(
 B:Ga) (sz:Nat):TV->Option Fz
  | .one (.row l)=>some l
  | .one .nils=>some []
  |
   .one (.orow i s p)=>match Nat.beq s sz with
   |
    true=>match Ou B i with
    |
     some (.row _ _ s' ls)=>match Nat.beq s s' with
     |
      true=>match p with
      |none=>some ls
      |some (0,len)=>some (ls.take len)
      |some (lo,len)=>some ((ls.drop lo).take len)
     |false=>none
    |_=>none
   |false=>none
  |_=>none
theorem uP{v:Value}{l:Fz}{sz:Nat}(h:LRep w M v (.row l))(hs:∀c∈l,c.length=sz):∃vss:List (List Value),F2 (F2 (LRep w M)) vss l/\Src w v sz l.length vss.flatten:=by
 cases h with
 |
  row A c sz' b o l f hc hc63 hs' hA hcell hrep =>
  have hg:∀(i:Nat) (vs:List Value),((List.range l.length).map λi=>(List.range sz).map (f i))[i]? = some vs->i<l.length/\vs=(List.range sz).map (f i):=λi vs hi=>by
   simp only[Zb]at hi;rcases Q8 i l.length with h1|h1
   ·rw[Jn h1]at hi;exact⟨h1,by simpa using hi.symm⟩
   ·rw[Qt (by simpa using h1)]at hi;cases hi
  have hall:∀c∈(List.range l.length).map (λi=>(List.range sz).map (f i)),c.length=sz:=λc hm=>by
   obtain⟨i,hi⟩:=Zp.1 hm;rw[(hg i c hi).2];simp
  refine⟨_,F2.of (l:=(List.range l.length).map λi=>(List.range sz).map (f i)) (by simp) λi vs xs hv hx=>?_,by rw[Pq hall];simp,A,c,rfl,λh0=>?_⟩
  ·obtain⟨h1,rfl⟩:=hg i vs hv;have hxl:=hs xs (Qa hx);refine F2.of (by simp[hxl]) λj u x hu hx2=>?_
   have hj:j<sz:=by have:=(Qd.1 hx2).1;omega
   simp[hj]at hu;subst hu;exact hrep i xs hx j x hx2
  ·obtain⟨e,_,_⟩:=hA h0;refine⟨b,o,e,λj v hj=>?_⟩;rcases Qx sz with hz|hz
   ·have:=(Qd.1 hj).1;rw[Pq hall,hz,Vo]at this;omega
   ·have ej:j=j / sz*sz+j % sz:=by rw[Zo];exact(Xx j sz).symm
    have hm:=Xp j hz;rw[ej,GE hall hm]at hj;cases hq:((List.range l.length).map λi=>(List.range sz).map (f i))[j / sz]? with
    |none=>rw[hq]at hj;simp at hj
    |
     some ds =>
     rw[hq]at hj;obtain⟨h1,rfl⟩:=hg _ _ hq;have hx:=Qg h1;have e3:sz'=sz:=by rw[<-hs' _ (Jf h1),hs _ (Jf h1)]
     have h2:=hcell _ _ hx (j % sz) (by rw[hs _ (Qa hx)];exact hm);have hj:f (j / sz) (j % sz)=v:=by simpa[hm]using hj
     subst e3 hj;rw[show o+j=o+j / sz'*sz'+j % sz' from by rw[Vg,<-ej]];exact h2
theorem SA.rowM(h:SA F n L B E M a w){i sz T:Nat}{fx:Bool}{ls:Fz}(hb:Ou B i=some (.row fx T sz ls)){g c m:Nat}(he:E i=some (some (g,c),m)) :
 ∃(vss:List (List Value)) (ex:List Value),F2 (F2 (LRep w M)) vss ls/\(∀c∈vss,c.length=sz)/\w.heap[g]? = some (.cells (vss.flatten++ex).toArray T (0,0))/\(vss.flatten++ex).length=c*sz/\ls.length≤c/\c<2^63:=by
 obtain⟨h0,h1,q,he',h2⟩:=h.blk hb;rw[he]at he';injection he' with he';injection he' with e1 e2;subst e1;subst e2
 obtain⟨vss,ex,h3,h4,h5,h6,h7⟩:=h2;refine⟨vss,ex,h3,λc hc=>?_,h4,h5,h6,h7⟩;obtain⟨j,hj⟩:=Zp.1 hc;have hl:j<ls.length:=by rw[<-h3.len];exact(Qd.1 hj).1
 rw[(h3.get' hj (Qg hl)).len];exact h1 _ (Jf hl)
theorem SA.src(
 h:SA F n L B E M a w) {v:Value} {u:TV} {sz:Nat} {l:Fz} (hr:TRep w M E v u) (hl:OT B sz u=some l) (hs:∀c∈l,c.length=sz):∃vss:List (List Value),F2 (F2 (LRep w M)) vss l/\Src w v sz l.length vss.flatten:=by
  unfold OT at hl
  split at hl
  ·injection hl with hl;subst hl;exact uP hr hs
  ·injection hl with hl;subst hl;exact uP (VU hr) hs
  ·rename_i i s p
   split at hl
   ·rename_i e;obtain rfl:=Qu e
    split at hl
    ·rename_i fx T s' ls hb
     split at hl
     ·rename_i e;obtain rfl:=Qu e;obtain⟨q,m,he,hle,hv⟩:=hr;obtain⟨_,_,q',he',_⟩:=h.blk hb;rw[he]at he';injection he' with he';injection he' with _ em;subst em
      have key:∀lo len,lo+len<=ls.length->mF v s lo len q->∃vss:List (List Value),F2 (F2 (LRep w M)) vss ((ls.drop lo).take len)/\Src w v s ((ls.drop lo).take len).length vss.flatten:=λlo len hl hv=>by
       rcases q with _|⟨g,c⟩
       ·obtain⟨rfl,rfl,rfl⟩:=hv;exact⟨[],by simp;exact .nil,by simp[Src]⟩
       ·obtain⟨vss,ex,h3,hall,h4,h5,h6,h7⟩:=h.rowM hb he;obtain⟨hc,ad,rfl,ha⟩:=hv;refine⟨(vss.drop lo).take len,(h3.drop lo).take len,?_⟩;have hall2:∀c∈(vss.drop lo).take len,c.length=s:=λc hc=>hall c (Q9 (Qq hc))
        have hvl:=h3.len;have hlen:((ls.drop lo).take len).length=len:=by simp;omega
        refine⟨by rw[Pq hall2,hlen,Qz,Xz,Z8 (by omega)],_,c-lo,by rw[hlen],λh0=>⟨g,ad,rfl,λj v hj=>?_⟩⟩;have e1:vss.flatten=(vss.take lo).flatten++((vss.drop lo).take len).flatten++((vss.drop lo).drop len).flatten:=by
         rw[Zj,<-Jm,Zh,<-Jm,Zh]
        have e2:(vss.take lo).flatten.length=lo*s:=by rw[Pq λc hc=>hall c (Qq hc),Qz,Z8 (by omega)]
        rw[ha (.inr (by omega)),KJ h4,e1,Zj,Zj,<-e2,Zk (by omega),J9,Q3 (Qd.1 hj).1];exact hj
      split at hl
      ·injection hl with hl;subst hl;have:=key 0 ls.length (by omega) hv;simpa using this
      ·injection hl with hl;subst hl;have:=key 0 _ hle hv;simpa using this
      ·injection hl with hl;subst hl;exact key _ _ hle hv
     ·cases hl
    ·cases hl
   ·cases hl
  ·cases hl
theorem SA.ren{i:Nat}{b:OB}{E':Lf}{M':Nat->Prop}(h:SA F n L B E M a w)(hid:∀t x,lk L t=some x->i∉x.ids)(hs:HS F (L6 (ob B) i b) (nw B) E' M' w')(hi:i<B.length)(hle:Le w M w' M')(hE:∀j,j≠i->E' j=E j):SA F n L (B.set i b) E' M' a w':=by
 refine⟨?_,h.size,h.defers,λt x hx=>?_⟩
 ·rw[UA (Qg hi),PD];exact hs
 ·obtain⟨v,h1,h2⟩:=h.slots t x hx;exact⟨v,h1,h2.keep hle λj hj _=>hE j λe=>hid t x hx (e ▸ hj)⟩
theorem MD{te ti tj:TI P}{E2:TypeId}{x y:Operand}{ats:Array TypeId}{i d len:Nat}{p:Option (Nat×Nat)}{ls l2 new:Fz}{u:TV}{zs:Fy}{L1:Sg}{B1 B2:Ga}(ho:o.op=.call { callee:=.builtin .append,args := #[x,y],argTypes:=ats })(hg:o.guard=none)(hd:o.dst=some d)(hdn:Nat.blt d n=true)(hat:ats[0]? = some ti.t/\ats[1]? = some tj.t)(hu:ti.un=.slice te.t)(hu2:tj.un=.slice E2)
 (hz:zl te.z=some zs) (hc:(Nat.beq zs.length te.sz && Nat.ble te.by_ 4096 && Nat.blt 0 te.by_)=true) (h:SA F n L B E M a w) (hx:TRep w M E (a.eval x) (.one (.orow i te.sz p))) (hrow:Am B i te.sz p=some (0,len)) (hb:Ou B i=some (.row false te.t te.sz ls)) (hy:evT L y=some u) (hsrc:OT B te.sz u=some l2) (hs2:∀c∈l2,c.length=te.sz)
 (hnew:new=ls.take len++l2) (hm:len+l2.length<8589934592) (hL:fN (E4 i) L=some L1) (hB:Mg (VF (E4 i)) B=some B1) (hB2:I8 B1 i (.row false te.t te.sz new)=some B2) (k:N ((d,.v (.one (.orow i te.sz none)))::L1) B2) {K:Act->World->Prop} {Q:Exit->Act->World->Prop} (hK:∀(a':Act) (w':World) (L':Sg) (B':Ga) (E':Lf) (M':Nat->Prop),SA F n L' B' E' M' a' w'->N L' B'->K a' w'):aT P arr o a w K Q:=by
 simp only[Zn]at hc;obtain⟨⟨c1,c2⟩,c3⟩:=hc;have c1:=Qu c1;have c2:=Zm c2;rw[Jp]at c3;obtain⟨info,hinf,hby⟩:=te.hi;rw[<-hby]at c2 c3;have hzl:=(MB (w:=w) (M:=M) hz).len;obtain⟨nss,hn,hsr⟩:=h.src (h.evT hy) hsrc hs2;have hone:∀u∈nss.flatten,one u=true:=λq hq=>by
  obtain⟨c,hc,hqc⟩:=List.mem_flatten.1 hq;obtain⟨j,hj⟩:=Zp.1 hc;have hjl:j<l2.length:=by rw[<-hn.len];exact(Qd.1 hj).1
  exact((hn.get' hj (Qg hjl)).x (E:=E)).xone q hqc
 have h1:=h.turn sF hL hB;have hid:=uH (λ_ _=>PT) hL;have hib:=Qp7 (i:=i) (λ_ _=>PT) hB;have hb1:Ou B1 i=some (.row false te.t te.sz ls):=by
  rw[Nc]at hb ⊢;obtain⟨e1,e2⟩:=Iy hB;have hil:i<B1.length:=by rw[e1];exact(Qd.1 hb).1
  obtain⟨x,e3,e4⟩:=e2 i _ (Qg hil);rw[hb]at e3;injection e3 with e3;subst e3;rw[Qg hil,<-e4];rfl
 have hob:ob B1 i=.row false te.t te.sz ls:=P5 (Nc ▸ hb1);have hJ:¬F.J i:=h1.hs.nj i (by rw[hob];rfl);obtain⟨rfl,hil⟩:=Ea hB2;obtain⟨h0,hrs,q0,he,hrow2⟩:=h.blk hb;obtain⟨m',q,he',hml,hv⟩:=h.orow hrow hx;rw[he]at he';injection he' with he';injection he' with e1 e2;subst e1;subst e2
 have hnl:new.length=len+l2.length:=by rw[hnew,Q6,Qz,Z8 (by omega)]
 have hns:∀c∈new,c.length=te.sz:=λc hc=>by
  rw[hnew]at hc;rcases Qr.1 hc with hc|hc
  ·exact hrs c (Qq hc)
  ·exact hs2 c hc
 have hold:∃oss:List (List Value),F2 (F2 (LRep w M)) oss (ls.take len)/\oss.flatten.length=len*te.sz/\(match (generalizing:=false) q0 with
  |none=>a.eval x=.slice none 0 0/\len=0
  |some (g,c)=>a.eval x=.slice (some ⟨g,0,none⟩) len c/\(len<=c/\c<2^63)/\∃ex,w.heap[g]? = some (.cells (oss.flatten++ex).toArray te.t (0,0))/\(oss.flatten++ex).length=c*te.sz):=by
  rcases q0 with _|⟨g,c⟩
  ·obtain⟨e1,_,e3⟩:=hv;subst e3;exact⟨[],by simp;exact .nil,by simp,e1,rfl⟩
  ·obtain⟨vss,ex,h3,hall,h4,h5,h6,h7⟩:=h.rowM hb he;obtain⟨hcl,ad,hval,ha⟩:=hv;have hall2:∀c∈vss.take len,c.length=te.sz:=λc hc=>hall c (Qq hc)
   have hvl:=h3.len;refine⟨vss.take len,h3.take len,by rw[Pq hall2,Qz,Z8 (by omega)],?_,⟨by omega,h7⟩,(vss.drop len).flatten++ex,?_,?_⟩
   ·rw[hval,ha (.inl rfl)];simp
   ·rw[<-Zj,<-Jm,Zh];exact h4
   ·rw[<-Zj,<-Jm,Zh];exact h5
 obtain⟨oss,ho1,ho2,ho3⟩:=hold;have hcat:∀{w':World} {M':Nat->Prop},Le w M w' M'->F2 (F2 (LRep w' M')) (oss++nss) new:=λhle=>by
  rw[hnew];exact(ho1.append hn).imp λ_ _ _ h=>h.imp λ_ _ _ h=>h.keep hle
 have hxa:=Qm6 (P:=P) (w:=w) (e:=a.eval) (E':=te.t) (q:=q0) (size:=te.sz) (m:=len) (k:=l2.length) (cs:=oss.flatten) (news:=nss.flatten) (zs:=te.z.cells.toList) ho hat rfl rfl (TI.hu' hu) (TI.hu' hu2) hinf c2 c3 te.hsz te.hz (by simp) (by omega) ho2 ho3 hsr hone hm;rw[<-Jm]at hxa;rcases hxa with⟨w',hrun,hin⟩|⟨w',g,c,ex,hrun,hgr,hg1,hg2,hmc,hc63,hcell,hlen⟩
 ·rcases q0 with _|⟨g,c⟩
  ·obtain⟨rfl,hk0⟩:=hin;have hl20:l2=[]:=Qf hk0;have hn0:new=[]:=Qf (by rw[hnl,hk0,ho3.2]);have hs:=h1.hs.new (w':=w') ⟨Qn _,λ_ _=>rfl,rfl,rfl⟩ (k:=i) (m:=0) (b:=.row false te.t te.sz new) (q:=none) hJ (λg c e=>by cases e) (λj _ hj=>absurd hj (hib j)) λhle=>⟨h0,hns,none,by rw[G7,hn0];rfl,hn0⟩
   have e1:(λj=>nw B1 j/\j≠i)=nw B1:=by funext j;exact propext ⟨λh=>h.1,λh=>⟨h,λe=>by subst e;exact absurd hil (by simpa[nw]using h)⟩⟩
   rw[e1]at hs;have h2:=h1.ren hid hs hil ⟨Qn _,λ_ _ _=>rfl,λb _ hm=>hm.resolve_right λ⟨c,e⟩=>by cases e⟩ λj e=>H6 _ _ e
   exact Ce hg hrun (hd ▸ hK _ _ _ _ _ _ (h2.put (u:=.v (.one (.orow i te.sz none))) hdn ⟨none,0,G7 ..,by simp,rfl,rfl,rfl⟩) k)
  ·obtain⟨hmc,ex,hw,hlen⟩:=hin;have hlv:(ob B1 i).lv=true:=by rw[hob];rfl
   have hs:=h1.hs.set (b:=.row false te.t te.sz new) (m':=new.length) hlv he hw.size hw.rest hw.io (by rw[hob];rfl) (.inr ⟨hJ,λj _=>hib j⟩) λhle=>⟨h0,hns,some (g,c),G7 ..,_,ex,hcat hle,hw.at_,hlen,by omega,ho3.2.1.2⟩
   have hk:=h1.hs.nk i g c _ hlv he;have hle:Le w M w' M:=⟨by rw[hw.size];exact Qn _,λb _ hb=>hw.rest b λe=>hb (e ▸ hk.2),λ_ _ h=>h⟩;have h2:=h1.ren hid hs hil hle λj e=>H6 _ _ e
   refine Ce hg hrun (hd ▸ hK _ _ _ _ _ _ (h2.put (u:=.v (.one (.orow i te.sz none))) hdn ⟨some (g,c),new.length,G7 ..,by simp,?_⟩) k);simp only[Ww,mF,Xd,Ua];exact⟨by omega,0,by rw[hnl],λ_=>by simp⟩
 ·have hs:=h1.hs.new hgr (k:=i) (m:=new.length) (b:=.row false te.t te.sz new) (q:=some (g,c)) hJ (λg' c' e=>by injection e with e;injection e with e1 e2;subst e1;exact⟨hg1,hg2⟩) (λj _ hj=>absurd hj (hib j)) λhle=>⟨h0,hns,some (g,c),by rw[G7],_,ex,hcat hle,hcell,hlen,by omega,hc63⟩
  have e1:(λj=>nw B1 j/\j≠i)=nw B1:=by funext j;exact propext ⟨λh=>h.1,λh=>⟨h,λe=>by subst e;exact absurd hil (by simpa[nw]using h)⟩⟩
  rw[e1]at hs;have h2:=h1.ren hid hs hil ⟨hgr.1,λb hb _=>hgr.2 b hb,λb hb hm=>hm.resolve_right λ⟨c',e⟩=>by injection e with e;injection e with e1 e2;subst e1;omega⟩ λj e=>H6 _ _ e
  refine Ce hg hrun (hd ▸ hK _ _ _ _ _ _ (h2.put (u:=.v (.one (.orow i te.sz none))) hdn ⟨some (g,c),new.length,G7 ..,by simp,?_⟩) k);simp only[Ww,mF,Xd,Ua];exact⟨by omega,0,by rw[hnl],λ_=>by simp⟩
theorem W1.append{te ti tj:TI P}{E2:TypeId}{x y:Operand}{ats:Array TypeId}{i d len:Nat}{p:Option (Nat×Nat)}{ls l2 new:Fz}{u:TV}{zs:Fy}{L1:Sg}{B1 B2:Ga}(ho:o.op=.call { callee:=.builtin .append,args := #[x,y],argTypes:=ats })(hg:o.guard=none)(hd:o.dst=some d)(hdn:Nat.blt d n=true)(hat:ats[0]? = some ti.t/\ats[1]? = some tj.t)(hu:ti.un=.slice te.t)(hu2:tj.un=.slice E2)
 (hz:zl te.z=some zs) (hc:(Nat.beq zs.length te.sz && Nat.ble te.by_ 4096 && Nat.blt 0 te.by_)=true) (hx:evT L x=some (.one (.orow i te.sz p))) (hrow:Am B i te.sz p=some (0,len)) (hb:Ou B i=some (.row false te.t te.sz ls)) (hy:evT L y=some u) (hsrc:OT B te.sz u=some l2) (hs2:∀c∈l2,c.length=te.sz)
 (hnew:new=ls.take len++l2) (hm:len+l2.length<8589934592) (hL:fN (E4 i) L=some L1) (hB:Mg (VF (E4 i)) B=some B1) (hB2:I8 B1 i (.row false te.t te.sz new)=some B2) (k:N ((d,.v (.one (.orow i te.sz none)))::L1) B2):W1 P arr n o N L B:=λ_ _ _ _ _ _ _ h hK =>
 MD ho hg hd hdn hat hu hu2 hz hc h (h.evT hx) hrow hb hy hsrc hs2 hnew hm hL hB hB2 k hK
theorem SA.ownNil(h:SA F n L B E M a w){T sz:Nat}(h0:0<sz):∃E' M',SA F n L (B++[.row false T sz []]) E' M' a w/\E' B.length=some (none,0) :=
 ⟨_,_,h.fresh (w':=w) ⟨Qn _,λ_ _=>rfl,rfl,rfl⟩ (m:=0) (q:=none) (λg c e=>by cases e) λ_ _=>⟨h0,by simp,none,G7 ..,rfl⟩,G7 ..⟩
theorem gX{B:Ga}{b:OB}:Ou (B++[b]) B.length=some b:=by rw[Nc];simp
theorem nO{te ti tj:TI P}{E2:TypeId}{x y:Operand}{ats:Array TypeId}{d:Nat}{l2:Fz}{u:TV}{zs:Fy}(ho:o.op=.call { callee:=.builtin .append,args := #[x,y],argTypes:=ats })(hg:o.guard=none)(hd:o.dst=some d)(hdn:Nat.blt d n=true)(hat:ats[0]? = some ti.t/\ats[1]? = some tj.t)(hu:ti.un=.slice te.t)(hu2:tj.un=.slice E2)
 (hz:zl te.z=some zs) (hc:(Nat.beq zs.length te.sz && Nat.ble te.by_ 4096 && Nat.blt 0 te.by_)=true) (h0:0<te.sz) (hx:evT L x=some (.one .nils)) (hy:evT L y=some u) (hsrc:OT B te.sz u=some l2) (hs2:∀c∈l2,c.length=te.sz)
 (hm:l2.length<8589934592) (hsrc':OT (B++[.row false te.t te.sz []]) te.sz u=some l2) {L1:Sg} {B1 B2:Ga} (hL:fN (E4 B.length) L=some L1) (hB:Mg (VF (E4 B.length)) (B++[.row false te.t te.sz []])=some B1) (hB2:I8 B1 B.length (.row false te.t te.sz l2)=some B2) (k:N ((d,.v (.one (.orow B.length te.sz none)))::L1) B2):W1 P arr n o N L B:=by
 intro F E M a w K Q h hK;have hnil:a.eval x=.slice none 0 0:=by
  have key:∀v,LRep w M v .nils->v=.slice none 0 0:=λv h=>by cases h;rfl
  exact key _ (h.evT hx)
 obtain⟨E',M',h',hE⟩:=h.ownNil (T:=te.t) (sz:=te.sz) h0;refine MD (i:=B.length) (p:=none) (len:=0) (ls:=[]) (new:=l2) ho hg hd hdn hat hu hu2 hz hc h' ⟨none,0,hE,by simp,?_⟩ (by unfold Am;simp only[gX];rw[show Nat.beq te.sz te.sz=true from Nat.beq_refl _];rfl) gX hy hsrc' hs2 (by simp) (by simpa using hm) hL hB hB2 k hK;exact⟨hnil,rfl,rfl⟩
theorem W1.appendF{te ti tj:TI P}{E2:TypeId}{x y:Operand}{ats:Array TypeId}{d:Nat}{l1 l2:Fz}{u:TV}{zs:Fy}(ho:o.op=.call { callee:=.builtin .append,args := #[x,y],argTypes:=ats })(hg:o.guard=none)(hd:o.dst=some d)(hdn:Nat.blt d n=true)(hat:ats[0]? = some ti.t/\ats[1]? = some tj.t)(hu:ti.un=.slice te.t)(hu2:tj.un=.slice E2)
 (hz:zl te.z=some zs) (hc:(Nat.beq zs.length te.sz && Nat.ble te.by_ 4096 && Nat.blt 0 te.by_)=true) (h0:0<te.sz) (hx:evT L x=some (.one (.frow l1))) (hs1:∀c∈l1,c.length=te.sz) (hy:evT L y=some u) (hsrc:OT B te.sz u=some l2) (hs2:∀c∈l2,c.length=te.sz)
 (hk0:0<l2.length) (hm:l1.length+l2.length<8589934592) (k:N ((d,.v (.one (.orow B.length te.sz none)))::L) (B++[.row false te.t te.sz (l1++l2)])):W1 P arr n o N L B:=by
 intro F E M a w K Q h hK;simp only[Zn]at hc;obtain⟨⟨c1,c2⟩,c3⟩:=hc;have c1:=Qu c1;have c2:=Zm c2;rw[Jp]at c3;obtain⟨info,hinf,hby⟩:=te.hi;rw[<-hby]at c2 c3;have hzl:=(MB (w:=w) (M:=M) hz).len;obtain⟨nss,hn,hsr⟩:=h.src (h.evT hy) hsrc hs2;have hfr:∃A,a.eval x=.slice A l1.length l1.length/\LRep w M (.slice A l1.length l1.length) (.row l1):=by
  have key:∀v,LRep w M v (.frow l1)->∃A,v=.slice A l1.length l1.length/\LRep w M (.slice A l1.length l1.length) (.row l1):=λv h=>by
   cases h with
   |frow A _ h=>exact⟨A,rfl,h⟩
  exact key _ (h.evT hx)
 obtain⟨A,hv,hr1⟩:=hfr;obtain⟨oss,ho1,CY⟩:=uP hr1 hs1;obtain⟨w',g,c,ex,hrun,hgr,hg1,hg2,hmc,hc63,hcell,hlen⟩:=Qfo (P:=P) (w:=w) (e:=a.eval) (size:=te.sz) (m:=l1.length) (k:=l2.length) (cs:=oss.flatten) (news:=nss.flatten) (zs:=te.z.cells.toList) ho hat hv rfl (TI.hu' hu) (TI.hu' hu2) hinf c2 c3 te.hsz te.hz (by simp) (by omega) CY hsr hk0 hm;rw[<-Jm]at hcell hlen;have hnl:(l1++l2).length=l1.length+l2.length:=Q6;have h2:=h.fresh hgr (m:=(l1++l2).length) (b:=.row false te.t te.sz (l1++l2)) (q:=some (g,c)) (λg' c' e=>by injection e with e;injection e with e1 e2;subst e1;exact⟨hg1,hg2⟩) λhle _=>⟨h0,λz hz=>(Qr.1 hz).elim (hs1 z) (hs2 z),some (g,c),by rw[G7],_,ex,(ho1.append hn).imp λ_ _ _ h=>h.imp λ_ _ _ h=>h.keep hle,hcell,hlen,by omega,hc63⟩
 refine Ce hg hrun (hd ▸ hK _ _ _ _ _ _ (h2.put (u:=.v (.one (.orow B.length te.sz none))) hdn ⟨some (g,c),(l1++l2).length,G7 ..,by simp,?_⟩) k);simp only[Ww,mF,Xd,Ua];exact⟨by omega,0,by rw[hnl],λ_=>by simp⟩
end Orr
namespace Orr
open Go
variable{P:Program}{arr:Array Oper}{n:Nat}{o:Oper}{N:Sg->Ga->Prop}{L L':Sg}{B B':Ga}{F:Fr}{E E':Lf}{M M':Nat->Prop}{a:Act}{w w':World}
theorem Src.take{v:Value}{size k m:Nat}{news:List Value}(h:Src w v size k news)(hm:m<=k):(Builtin.firstCells size m v).run P w=.ok (news.take (m*size)).toArray w:=by
 obtain⟨hl,A,c,rfl,hA⟩:=h;have h2:Src w (.slice A m c) size m (news.take (m*size)):=⟨by rw[Qz,hl,Z8 (Qy _ hm)],A,c,rfl,λh0=>by
  obtain⟨b,o,e,hc⟩:=hA (by omega);refine⟨b,o,e,λj v hj=>hc j v ?_⟩;rw[Jv]at hj
  split at hj
  ·exact hj
  ·cases hj⟩
 have:=Bw (P:=P) h2;cases A <;> exact this
theorem Qwd{T E0 g o' m c k size m' T':Nat}{x y:Operand}{v:Value}{cs news:List Value}{e:Operand->Value}{ats:Array TypeId}(ho:o.op=.call { callee:=.builtin .copy,args := #[x,y],argTypes:=ats })(hat:ats[0]? = some T)(hx:e x=.slice (some ⟨g,o',none⟩) m c)(hy:e y=v)(hu:∀w,(underlying T).run P w=.ok (.slice E0) w)(hs:∀w,(Go.sizeOf E0).run P w=.ok size w)
 (hsrc:Src w v size k news) (hm:m'=min m k) (hg:w.heap[g]? = some (.cells cs.toArray T' (0,0))) (hl:o'+m'*size≤cs.length) (h1:∀u∈news,one u=true) :
 ∃w',(execOp e o).run P w=.ok (.value (.int .i64 (m':Int))) w'/\Wr g T' (upd cs o' (news.take (m'*size))) w w':=by
 have hf:=hsrc.take (P:=P) (m:=m') (by omega);have hlen:(news.take (m'*size)).length=m'*size:=by
  rw[Qz,hsrc.1,Z8 (Qy _ (by omega))]
 obtain⟨w',hr,hw⟩:=L9 (P:=P) (news.take (m'*size)) cs o' 0 w hg (by omega) λu hu=>h1 u (Qq hu)
 refine⟨w',?_,hw⟩;obtain⟨_,A,c',rfl,_⟩:=hsrc;have hlo:(Builtin.lenOf (.slice A k c')).run P w=.ok k w:=rfl;have hmin:Nat.min k m=m':=by rw[hm];show min k m=min m k;omega
 simp[execOp,ho,resolve,invoke,builtin,Builtin.copy_,hx,hy,hat,hu,hs,hlo,hmin,hf,hr,goInt,Sem.run_bind]
theorem Qrs{T E0 c k size:Nat}{A:Option Addr}{x y:Operand}{v:Value}{news:List Value}{e:Operand->Value}{ats:Array TypeId}(ho:o.op=.call { callee:=.builtin .copy,args := #[x,y],argTypes:=ats })(hat:ats[0]? = some T)(hx:e x=.slice A 0 c)(hy:e y=v)(hu:∀w,(underlying T).run P w=.ok (.slice E0) w)(hs:∀w,(Go.sizeOf E0).run P w=.ok size w)
 (hsrc:Src w v size k news):(execOp e o).run P w=.ok (.value (.int .i64 (0:Int))) w:=by
 have hf:=hsrc.take (P:=P) (m:=0) (by omega);rw[Yc,Vy]at hf;obtain⟨_,A',c',rfl,_⟩:=hsrc;have hlo:(Builtin.lenOf (.slice A' k c')).run P w=.ok k w:=rfl;have hmin:Nat.min k 0=0:=Nat.min_zero k;cases A <;> simp[execOp,ho,resolve,invoke,builtin,Builtin.copy_,hx,hy,hat,hu,hs,hlo,hmin,hf,goInt,Sem.run_bind,Go.storeCells]
theorem zF{sz:Nat}{vss:List (List Value)}(h:∀c∈vss,c.length=sz)(lo:Nat):vss.flatten=(vss.take lo).flatten++(vss.drop lo).flatten/\(lo≤vss.length->(vss.take lo).flatten.length=lo*sz) :=
 ⟨by rw[<-Jm,Zh],λhl=>by rw[Pq λc hc=>h c (Qq hc),Qz,Z8 hl]⟩
theorem Qff{sz:Nat}{vss:List (List Value)}(h:∀c∈vss,c.length=sz){m:Nat}(hm:m≤vss.length):vss.flatten.take (m*sz)=(vss.take m).flatten:=by
 obtain⟨h1,h2⟩:=zF h m;rw[h1,Kf (by rw[h2 hm];exact Qn _),Qp (by rw[h2 hm];exact Qn _)]
theorem uO:∀(p q r s:List Value),q.length=s.length->upd (p++(q++r)) p.length s=p++(s++r)
 | [],[],r,[],_=>by simp[A3]
 |
  [],x::q,r,y::s,h=>by
  have:=uO [] q r s (by simpa using h);simp only[J5,Vb]at this;simp only[J5,Vb,Xa,upd,this]
 | [],[],r,y::s,h=>by simp at h
 | [],x::q,r,[],h=>by simp at h
 |
  x::p,q,r,[],h=>by
  have:q=[]:=Qf (by simpa using h);subst this;simp[A3]
 |x::p,q,r,y::s,h=>by simp only[Xa,Zf,upd];rw[uO p q r (y::s) h];rfl
theorem W1.copy{ti te:TI P}{x y:Operand}{ats:Array TypeId}{i d lo len m T':Nat}{fx:Bool}{p:Option (Nat×Nat)}{ls l2:Fz}{u:TV}(ho:o.op=.call { callee:=.builtin .copy,args := #[x,y],argTypes:=ats })(hg:o.guard=none)(hd:o.dst=some d)(hdn:Nat.blt d n=true)(hat:ats[0]? = some ti.t)(hu:ti.un=.slice te.t)
 (hx:evT L x=some (.one (.orow i te.sz p))) (hrow:Am B i te.sz p=some (lo,len)) (hb:Ou B i=some (.row fx T' te.sz ls)) (hy:evT L y=some u) (hsrc:OT B te.sz u=some l2) (hs2:∀c∈l2,c.length=te.sz) (hm:m=min len l2.length)
 (hB:I8 B i (.row fx T' te.sz (ls.take lo++(l2.take m++ls.drop (lo+m))))=some B') (k:N ((d,.v (.one (.int .i64 (m:Int))))::L) B'):W1 P arr n o N L B:=by
 intro F E M a w K Q h hK;obtain⟨m0,q,he,hle,hv⟩:=h.orow hrow (h.evT hx);have hpos:0<te.sz/\(∀c∈ls,c.length=te.sz)/\m0=ls.length:=by
  obtain⟨g0,g1,q',g2,_⟩:=h.blk hb;rw[he]at g2;injection g2 with g2;injection g2 with _ e2;exact⟨g0,g1,e2⟩
 obtain⟨hz0,hls,rfl⟩:=hpos;by_cases h0:0<len
 case neg =>
  obtain rfl:len=0:=by omega
  obtain rfl:m=0:=by omega
  obtain⟨nss,hn,hsr⟩:=h.src (h.evT hy) hsrc hs2;obtain⟨rfl,hi⟩:=Ea hB;have hBi:B[i]? = some (.row fx T' te.sz ls):=by rw[<-Nc];exact hb
  have eB:B.set i (.row fx T' te.sz (ls.take lo++(l2.take 0++ls.drop (lo+0))))=B:=by
   rw[Vy,J5,Jh,Zh];obtain⟨h1,h2⟩:=Qd.1 hBi;rw[<-h2];exact List.set_getElem_self h1
  rw[eB]at k;have hA:∃A c,a.eval x=.slice A 0 c:=by
   rcases q with _|⟨g,c⟩
   ·exact⟨_,_,hv.1⟩
   ·obtain⟨_,ad,hva,_⟩:=hv;exact⟨_,_,hva⟩
  obtain⟨A,c,hva⟩:=hA;exact Ce hg (Qrs ho hat hva rfl (TI.hu' hu) te.hsz hsr) (hd ▸ hK _ _ _ _ _ _ (h.put hdn (show ARep w M E _ (.v (.one (.int .i64 (0:Int)))) from LRep.int _ _)) k)
 rcases q with _|⟨g,c⟩
 ·obtain⟨_,_,e⟩:=hv;omega
 obtain⟨hlc,ad,hva,had⟩:=hv;have had:=had (.inr (by omega));subst had;obtain⟨vss,ex,h3,hall,h4,h5,h6,h7⟩:=h.rowM hb he;obtain⟨nss,hn,hsr⟩:=h.src (h.evT hy) hsrc hs2;obtain⟨rfl,_⟩:=Ea hB;have hvl:=h3.len;have hnl:=hn.len;have hall2:∀c∈nss,c.length=te.sz:=λc hc=>by
  obtain⟨j,hj⟩:=Zp.1 hc;have hl:j<l2.length:=by rw[<-hn.len];exact(Qd.1 hj).1
  rw[(hn.get' hj (Qg hl)).len];exact hs2 _ (Jf hl)
 have hone:∀u∈nss.flatten,one u=true:=λq hq=>by
  obtain⟨c,hc,hqc⟩:=List.mem_flatten.1 hq;obtain⟨j,hj⟩:=Zp.1 hc;have hjl:j<l2.length:=by rw[<-hn.len];exact(Qd.1 hj).1
  exact((hn.get' hj (Qg hjl)).x (E:=E)).xone q hqc
 have hfl:=Pq hall;have hroom:lo*te.sz+m*te.sz<=(vss.flatten++ex).length:=by
  rw[Q6,hfl,<-Yf];exact Qe (Qy _ (by omega)) (V2 _ _)
 obtain⟨w',hrun,hw⟩:=Qwd ho hat hva rfl (TI.hu' hu) te.hsz hsr hm h4 hroom hone;rw[Qff hall2 (by omega)]at hw;have e1:vss.flatten++ex=(vss.take lo).flatten++(((vss.drop lo).take m).flatten++((vss.drop (lo+m)).flatten++ex)):=by
  rw[<-Zj,<-Zj,<-Jm,<-Jm,Zj,<-Kl,Zh,Zh]
 have l1:=(zF hall lo).2 (by omega);have l3:((vss.drop lo).take m).flatten.length=(nss.take m).flatten.length:=by
  rw[Pq λc hc=>hall c (Q9 (Qq hc)),Pq λc hc=>hall2 c (Qq hc)];simp only[Qz,Xz];congr 1;omega
 have e2:upd (vss.flatten++ex) (lo*te.sz) (nss.take m).flatten=(vss.take lo++(nss.take m++vss.drop (lo+m))).flatten++ex:=by
  rw[e1,<-l1,uO _ _ _ _ l3];simp
 rw[e2]at hw;have hnew:∀c∈ls.take lo++(l2.take m++ls.drop (lo+m)),c.length=te.sz:=λc hc=>by
  rcases Qr.1 hc with hc|hc
  ·exact hls c (Qq hc)
  ·rcases Qr.1 hc with hc|hc
   ·exact hs2 c (Qq hc)
   ·exact hls c (Q9 hc)
 have hnl2:(ls.take lo++(l2.take m++ls.drop (lo+m))).length=ls.length:=by simp;omega
 have hsa:=h.wr (b':=.row fx T' te.sz (ls.take lo++(l2.take m++ls.drop (lo+m)))) hb rfl rfl he hw λhle=>⟨hz0,hnew,some (g,c),by rw[hnl2];exact he,vss.take lo++(nss.take m++vss.drop (lo+m)),ex,?_,hw.at_,?_,by rw[hnl2];exact h6,h7⟩
 ·exact Ce hg hrun (hd ▸ hK _ _ _ _ _ _ (hsa.put hdn (show ARep w' M E _ (.v (.one (.int .i64 (m:Int)))) from LRep.int _ _)) k)
 ·have:=(h3.take lo).append ((hn.take m).append (h3.drop (lo+m)));exact this.imp λ_ _ _ h=>h.imp λ_ _ _ h=>h.keep hle
 ·have e3:(vss.take lo++(nss.take m++vss.drop (lo+m))).flatten.length=vss.flatten.length:=by
   rw[hfl,Pq λc hc=>?_]
   ·congr 1;simp;omega
   ·rcases Qr.1 hc with hc|hc
    ·exact hall c (Qq hc)
    ·rcases Qr.1 hc with hc|hc
     ·exact hall2 c (Qq hc)
     ·exact hall c (Q9 hc)
  rw[Q6,e3,<-Q6];exact h5
def Qux(
 T:TT P) (
  L:Sg) (t len:Nat) (ps:List (Nat×Operand)):Option (Nat×Nat×Fz):=match T.find t with
  |
   some ti=>match ti.un with
   |
    .slice E=>match T.find E with
    |
     some te=>match zl te.z with
     |
      some zs=>match (Nat.beq zs.length te.sz && Nat.blt 0 te.sz && Nat.ble (len*te.sz) 16777216)with
      |
       true=>match evTp L ps with
       |
        some us=>match ED (λi=>some (i*te.sz,te.sz)) (zrep len zs) us with
        |
         some r=>match UT te.sz len r with
         |
          some ls=>match AZ ls with
          |true=>some (te.t,te.sz,ls)
          |false=>none
         |none=>none
        |none=>none
       |none=>none
      |false=>none
     |none=>none
    |none=>none
   |_=>none
  |none=>none
theorem W1.litO{T:TT P}{t len d E0 sz:Nat}{ls:Fz}{ps:Array (Nat×Operand)}(ho:o.op=.buildSlice t len ps)(hl:Qux T L t len ps.toList=some (E0,sz,ls))(hg:o.guard=none)(hd:o.dst=some d)(hdn:Nat.blt d n=true)(k:N ((d,.v (.one (.orow B.length sz none)))::L) (B++[.row false E0 sz ls])):W1 P arr n o N L B:=by
 intro F E M a w K Q h hK;unfold Qux at hl
 split at hl
 ·rename_i ti hti;have hti:=TT.find_t hti;subst hti
  split at hl
  ·rename_i E' hu
   split at hl
   ·rename_i te hte;have hte:=TT.find_t hte;subst hte
    split at hl
    ·rename_i zs hz
     split at hl
     ·rename_i hc;simp only[Zn]at hc;obtain⟨⟨c1,c2⟩,c3⟩:=hc;have c1:=Qu c1;rw[Jp]at c2;have c3:=Zm c3
      split at hl
      ·rename_i us hus
       split at hl
       ·rename_i r hr
        split at hl
        ·rename_i ls' hls
         split at hl
         ·rename_i hf;simp only[Option.some.injEq,Prod.mk.injEq]at hl;obtain⟨rfl,rfl,rfl⟩:=hl;have hzr:=MB (w:=w) (M:=M) hz;have hzl:=hzr.len;obtain⟨cells,h4,h5⟩:=CZ hr (fR hzr len).x (h.evTp hus);obtain⟨vss,rfl,h7,h8,h9⟩:=EQ h5 hls hf;have hrun:=VN (P:=P) (TI.hu' hu) te.hsz te.hz (zs:=te.z.cells.toList) (by simp) (by omega) c2 c3 h4 w;have hvl:=h7.len;have hall:∀c∈vss,c.length=te.sz:=λc hc=>by
           obtain⟨j,hj⟩:=Zp.1 hc;have hl:j<ls'.length:=by rw[<-hvl];exact(Qd.1 hj).1
           rw[(h7.get' hj (Qg hl)).len];exact h8 _ (Jf hl)
          have hlen:len<2^63:=by
           have:(2:Nat)^63=9223372036854775808:=by decide
           have:=Ya len c2;omega
          have hsz:=Dz (.cells vss.flatten.toArray te.t) w;have h2:=h.fresh (Bn (.cells vss.flatten.toArray te.t) w) (m:=ls'.length) (b:=.row false te.t te.sz ls') (q:=some (w.heap.size,len)) (λg c e=>by injection e with e;injection e with e1 e2;subst e1;omega)
           (λhle hE=>⟨c2,h8,some (w.heap.size,len),by rw[G7],vss,[],h7.imp λ_ _ _ h=>h.imp λ_ _ _ h=>h.keep hle,by rw[A6,Xg],by rw[Xg,Pq hall,hvl,h9],by omega,hlen⟩)
          refine Ce hg (TS ho hrun) (hd ▸ hK _ _ _ _ _ _ (h2.put (u:=.v (.one (.orow B.length te.sz none))) hdn ?_) k);exact⟨some (w.heap.size,len),ls'.length,G7 ..,by simp,by simp[h9],0,by simp[h9],λ_=>by simp⟩
         ·cases hl
        ·cases hl
       ·cases hl
      ·cases hl
     ·cases hl
    ·cases hl
   ·cases hl
  ·cases hl
 ·cases hl
end Orr
namespace Orr
open Go
variable{P:Program}
def lenB:Ga->Option Nat
 | []=>some 0
 | [_]=>some 1
 | [_,_]=>some 2
 | [_,_,_]=>some 3
 | [_,_,_,_]=>some 4
 | [_,_,_,_,_]=>some 5
 | [_,_,_,_,_,_]=>some 6
 | [_,_,_,_,_,_,_]=>some 7
 | [_,_,_,_,_,_,_,_]=>some 8
 | [_,_,_,_,_,_,_,_,_]=>some 9
 | [_,_,_,_,_,_,_,_,_,_]=>some 10
 | [_,_,_,_,_,_,_,_,_,_,_]=>some 11
 | [_,_,_,_,_,_,_,_,_,_,_,_]=>some 12
 |
  _::_::_::_::_::_::_::_::_::_::_::_::_::l=>match lenC l with
  |some k=>some k
  |none=>none
where lenC:Ga->Option Nat
 | []=>some 13
 | [_]=>some 14
 | [_,_]=>some 15
 | [_,_,_]=>some 16
 | [_,_,_,_]=>some 17
 | [_,_,_,_,_]=>some 18
 | [_,_,_,_,_,_]=>some 19
 | [_,_,_,_,_,_,_]=>some 20
 | [_,_,_,_,_,_,_,_]=>some 21
 | [_,_,_,_,_,_,_,_,_]=>some 22
 | [_,_,_,_,_,_,_,_,_,_]=>some 23
 | [_,_,_,_,_,_,_,_,_,_,_]=>some 24
 | [_,_,_,_,_,_,_,_,_,_,_,_]=>some 25
 | [_,_,_,_,_,_,_,_,_,_,_,_,_]=>some 26
 | [_,_,_,_,_,_,_,_,_,_,_,_,_,_]=>some 27
 | [_,_,_,_,_,_,_,_,_,_,_,_,_,_,_]=>some 28
 |_=>none
theorem Ca{B:Ga}{k:Nat}(h:lenB B=some k):k=B.length:=by
 unfold lenB at h
 split at h <;> first|(injection h with h;subst h;rfl)|skip
 split at h <;> first|(cases h;done)|skip
 injection h with h;subst h;rename_i h;unfold lenB.lenC at h
 split at h <;> first|(injection h with h;subst h;rfl)|(cases h;done)
def XJ:Ga->OB->Option Ga
 | [],b=>some [b]
 |
  x::l,b=>match XJ l b with
  |some r=>some (x::r)
  |none=>none
theorem Db:∀{B B':Ga} {b:OB},XJ B b=some B'->B'=B++[b]
 | [],_,_,h=>by simp only[XJ,Option.some.injEq]at h;subst h;rfl
 |
  x::l,_,b,h=>by
  simp only[XJ]at h
  split at h
  ·rename_i r hr;injection h with h;subst h;rw[Db hr];rfl
  ·cases h
def Qbm:Fy->Nat->Bool
 | [],0=>true
 |_::l,k+1=>Qbm l k
 |_,_=>false
theorem AE:∀{l:Fy} {k:Nat},Qbm l k=true->l.length=k
 | [],0,_=>rfl
 |_::l,k+1,h=>by simpa using AE (l:=l) (k:=k) h
 | [],_+1,h=>by cases h
 |_::_,0,h=>by cases h
def PM(sz:Nat):Fz->Option Nat
 | []=>some 0
 |
  [c]=>match Qbm c sz with
  |true=>some 1
  |false=>none
 |
  c::l=>match Qbm c sz with
  |
   true=>match PM sz l with
   |some k=>some (k+1)
   |none=>none
  |false=>none
theorem xW{sz:Nat}:∀{l:Fz} {k:Nat},PM sz l=some k->k=l.length/\∀c∈l,c.length=sz
 | [],k,h=>by simp only[PM,Option.some.injEq]at h;subst h;simp
 |
  [c],k,h=>by
  simp only[PM]at h
  split at h
  ·rename_i hc;injection h with h;subst h;exact⟨rfl,λx hx=>by rw[List.mem_singleton.1 hx];exact AE hc⟩
  ·cases h
 |
  c::d::l,k,h=>by
  simp only[PM]at h
  split at h
  ·rename_i hc
   split at h
   ·rename_i k' hk;injection h with h;subst h;obtain⟨h1,h2⟩:=xW hk;refine⟨by simp[h1],λx hx=>?_⟩;rcases Qj.1 hx with rfl|hx
    ·exact AE hc
    ·exact h2 x hx
   ·cases h
  ·cases h
abbrev St(P:Program):=Option (Sg×Ga×List (H P)×Li×List Prop)
def Qte(sz:Nat)(l2:Fz):List (H P)->Option (Nat×List (H P)×Li)
 |
  .s (l:=l) (sz:=s) _::h=>match Nat.beq s sz with
  |true=>some (l2.length,h,[(.l l2,.l l)])
  |false=>none
 |
  h=>match PM sz l2 with
  |some k=>some (k,h,[])
  |none=>none
theorem yM{sz k:Nat}{l2:Fz}{h h':List (H P)}{q:Li}(ha:Qte sz l2 h=some (k,h',q))(hq:EqOk q):k=l2.length/\∀c∈l2,c.length=sz:=by
 unfold Qte at ha
 split at ha
 ·rename_i l s hs h2
  split at ha
  ·rename_i e;obtain rfl:=Qu e;injection ha with ha;injection ha with h1 ha;injection ha with _ h3;subst h1;subst h3;have e1:=hq.hd;injection e1 with e1;subst e1;exact⟨rfl,hs⟩
  ·cases ha
 ·split at ha
  ·rename_i k' hk;injection ha with ha;injection ha with h1 ha;subst h1;exact xW hk
  ·cases ha
def Qr1(p:Option (Nat×Nat))(ls l2:Fz):Option Fz:=match p with
 |none=>some (ls++l2)
 |some (_,len)=>some (ls.take len++l2)
def apE(T:TT P)(
 L:Sg) (
  B:Ga) (h:List (H P)) (d:Nat) (xs:List Operand) (ts:Array TypeId):St P:=match xs with
  |
   [x,y]=>match ts[0]?,ts[1]? with
   |
    some t,some t2=>match T.find t,T.find t2 with
    |
     some ti,some tj=>match ti.un,tj.un with
     |
      .slice E,.slice _=>match T.find E with
      |
       some te=>match zl te.z with
       |
        some zs=>match (Nat.beq zs.length te.sz && Nat.ble te.by_ 4096 && Nat.blt 0 te.by_)with
        |
         true=>match evT L y with
         |
          some u=>match OT B te.sz u with
          |
           some l2=>match Qte te.sz l2 h with
           |
            some (k,h,q)=>match evT L x with
            |
             some (.one (.orow i sz p))=>match Nat.beq sz te.sz with
             |
              true=>match Am B i sz p with
              |
               some (0,len)=>match Ou B i with
               |
                some (.row false T' sz' ls)=>match (Nat.beq T' te.t && Nat.beq sz' te.sz)with
                |
                 true=>match Qr1 p ls l2 with
                 |
                  some new=>match fN (E4 i) L with
                  |
                   some L1=>match Mg (VF (E4 i)) B with
                   |
                    some B1=>match I8 B1 i (.row false T' sz' new)with
                    |some B2=>some ((d,.v (.one (.orow i sz none)))::L1,B2,h,q,[len+k<8589934592])
                    |none=>none
                   |none=>none
                  |none=>none
                 |none=>none
                |false=>none
               |_=>none
              |_=>none
             |false=>none
            |
             some (.one .nils)=>match Nat.blt 0 te.sz,lenB B,XJ B (.row false te.t te.sz [])with
             |
              true,some i,some B0=>match OT B0 te.sz u with
              |
               some l3=>match fN (E4 i) L with
               |
                some L1=>match Mg (VF (E4 i)) B0 with
                |
                 some B1=>match I8 B1 i (.row false te.t te.sz l3)with
                 |some B2=>some ((d,.v (.one (.orow i te.sz none)))::L1,B2,h,(.l l2,.l l3)::q,[k<8589934592])
                 |none=>none
                |none=>none
               |none=>none
              |none=>none
             |_,_,_=>none
            |
             some (.one (.frow l1))=>match Nat.blt 0 te.sz,lenB B,XJ B (.row false te.t te.sz (l1++l2))with
             |true,some i,some B1=>some ((d,.v (.one (.orow i te.sz none)))::L,B1,h,q,[0<k,(∀z∈l1,z.length=te.sz),l1.length+k<8589934592])
             |_,_,_=>none
            |_=>none
           |none=>none
          |none=>none
         |none=>none
        |false=>none
       |none=>none
      |none=>none
     |_,_=>none
    |_,_=>none
   |_,_=>none
  |_=>none
def Qvy(
 T:TT P) (
  L:Sg) (B:Ga) (h:List (H P)) (t:TypeId) (x y:Operand):St P:=match T.find t with
  |
   some ti=>match evT L y with
   |
    some u=>match VX u with
    |
     some ys=>match Nat.beq ys.length ti.sz with
     |
      true=>match evT L x with
      |
       some (.one (.ow i off))=>match Ou B i with
       |
        some (.blk T' xs)=>match TW xs off ys with
        |
         some r=>match I8 B i (.blk T' r)with
         |some B'=>some (L,B',h,[],[])
         |none=>none
        |none=>none
       |_=>none
      |
       some (.one (.oel i sz k off))=>match Ou B i with
       |
        some (.row fx T' sz' ls)=>match Nat.beq sz sz',Eg ys with
        |
         true,true=>match off,Nat.beq ti.sz sz with
         |
          0,true=>match I8 B i (.row fx T' sz' (ls.set k ys))with
          |some B'=>some (L,B',h,[],[k<ls.length])
          |none=>none
         |
          _,_=>match h with
          |
           .x (l:=l') (i:=k') (xs:=xs) _::h=>match TW xs off ys with
           |
            some r=>match I8 B i (.row fx T' sz' (ls.set k r))with
            |some B'=>some (L,B',h,[(.l ls,.l l'),(.n k,.n k')],[])
            |none=>none
           |none=>none
          |_=>none
        |_,_=>none
       |_=>none
      |_=>none
     |false=>none
    |none=>none
   |none=>none
  |none=>none
def coE(T:TT P)(
 L:Sg) (
  B:Ga) (h:List (H P)) (d:Nat) (xs:List Operand) (ts:Array TypeId):St P:=match xs with
  |
   [x,y]=>match ts[0]? with
   |
    some t=>match T.find t with
    |
     some ti=>match ti.un with
     |
      .slice E=>match T.find E with
      |
       some te=>match evT L x,evT L y with
       |
        some (.one (.orow i sz p)),some u=>match Nat.beq sz te.sz with
        |
         true=>match Am B i sz p,Ou B i,OT B te.sz u with
         |
          some (lo,len),some (.row fx T' sz' ls),some l2=>match h with
          |
           .s (l:=l) (sz:=s) _::.i m::h=>match Nat.beq sz' te.sz && Nat.beq s te.sz with
           |
            true=>match I8 B i (.row fx T' sz' (ls.take lo++(l2.take m++ls.drop (lo+m))))with
            |some B'=>some ((d,.v (.one (.int .i64 (m:Int))))::L,B',h,[(.l l2,.l l)],[m=min len l2.length])
            |none=>none
           |false=>none
          |_=>none
         |_,_,_=>none
        |false=>none
       |_,_=>none
      |none=>none
     |_=>none
    |none=>none
   |none=>none
  |_=>none
def efE(T:TT P)(
 n:Nat) (L:Sg) (
  B:Ga) (h:List (H P)) (dst:Option Nat) (op:Op):St P:=match dst with
  |
   some d=>match Nat.blt d n with
   |
    true=>match op with
    |
     .alloc t=>match T.find t with
     |
      some ti=>match zl ti.z with
      |
       some zs=>match lenB B,XJ B (.blk ti.t zs)with
       |some i,some B'=>some ((d,.v (.one (.ow i 0)))::L,B',h,[],[])
       |_,_=>none
      |none=>none
     |none=>none
    |
     .box t x=>match evT L x with
     |
      some u=>match VX u with
      |
       some xs=>match lenB B,XJ B (.blk t xs)with
       |some i,some B'=>some ((d,.v (.one (.ow i 0)))::L,B',h,[],[])
       |_,_=>none
      |none=>none
     |none=>none
    |
     .buildSlice t len ps=>match h with
     |
      .lo::h=>match Qux T L t len ps.toList,lenB B with
      |
       some (E0,sz,ls),some i=>match XJ B (.row false E0 sz ls)with
       |some B'=>some ((d,.v (.one (.orow i sz none)))::L,B',h,[],[])
       |none=>none
      |_,_=>none
     |
      h=>match Quw T L t len ps.toList with
      |some u=>some ((d,.v u)::L,B,h,[],[])
      |none=>none
    |
     .makeSlice t x y=>match T.find t with
     |
      some ti=>match ti.un with
      |
       .slice E=>match T.find E with
       |
        some te=>match zl te.z with
        |
         some zs=>match (Nat.beq zs.length te.sz && Nat.blt 0 te.sz && Nat.ble te.by_ 256)with
         |
          true=>match evT L x,evT L y with
          |
           some (.one (.int .i64 z1)),some (.one (.int .i64 z2))=>match h with
           |
            .i m::.i k::h=>match lenB B,XJ B (.row false te.t te.sz (List.replicate m zs))with
            |some i,some B'=>some ((d,.v (.one (.orow i te.sz none)))::L,B',h,[(.z z1,.z (m:Int)),(.z z2,.z (k:Int))],[m<=k,k<274877906944])
            |_,_=>none
           |_=>none
          |_,_=>none
         |false=>none
        |none=>none
       |none=>none
      |_=>none
     |none=>none
    |
     .makeMap _ none=>match lenB B,XJ B (.mpb [])with
     |some i,some B'=>some ((d,.v (.one (.omap i)))::L,B',h,[],[])
     |_,_=>none
    | .call { callee:=.builtin .append,args:=xs,argTypes:=ts }=>apE T L B h d xs.toList ts
    | .call { callee:=.builtin .copy,args:=xs,argTypes:=ts }=>coE T L B h d xs.toList ts
    |
     .move x=>match evA L x with
     |some u=>some ((d,u)::L,B,h,[],[])
     |none=>none
    |
     op=>match pv T L B h op with
     |some (t,h,q,ob)=>some ((d,.v t)::L,B,h,q,ob)
     |none=>none
   |false=>none
  |
   none=>match op with
   | .store t x y=>Qvy T L B h t x y
   |
    .mapUpdate t x y z=>match T.find t with
    |
     some ti=>match ti.md with
     |
      some _=>match evT L x,evT L y,evT L z with
      |
       some (.one (.omap i)),some (.agg ys),some (.one v)=>match Ou B i,UQ ys with
       |
        some (.mpb es),some ks=>match Nat.beq ks.length 3 && Qa9 v with
        |
         true=>match I8 B i (.mpb (BH es ks v))with
         |some B'=>some (L,B',h,[],[])
         |none=>none
        |false=>none
       |_,_=>none
      |_,_,_=>none
     |none=>none
    |none=>none
   |_=>none
end Orr
namespace Orr
open Go
variable{P:Program}{arr:Array Oper}{n:Nat}{o:Oper}{N:Sg->Ga->Prop}{L L':Sg}{B B':Ga}{hs h':List (H P)}{q:Li}{ob:List Prop}
theorem Cn{α β γ δ ε:Type}{a a':α}{b b':β}{c c':γ}{d d':δ}{x x':ε}(h:some (a,b,c,d,x)=some (a',b',c',d',x')):a=a'/\b=b'/\c=c'/\d=d'/\x=x':=by
 injection h with h;injection h with h1 h;injection h with h2 h;injection h with h3 h;injection h with h4 h5;exact⟨h1,h2,h3,h4,h5⟩
theorem Qtd{T:TT P}{d:Nat}{xs ts:_}(ho:o.op=.call { callee:=.builtin .append,args:=xs,argTypes:=ts })(hg:o.guard=none)(hd:o.dst=some d)(hdn:Nat.blt d n=true)(h:apE T L B hs d xs.toList ts=some (L',B',h',q,ob))(hq:EqOk q)(hob:Ge ob)(k:N L' B'):W1 P arr n o N L B:=by
 unfold apE at h
 split at h
 ·rename_i x y hxs;have exs:xs = #[x,y]:=by cases xs;simpa using hxs
  subst exs
  split at h
  ·rename_i t t2 ht ht2
   split at h
   ·rename_i ti tj hti htj;have hti:=TT.find_t hti;subst hti;have htj:=TT.find_t htj;subst htj
    split at h
    ·rename_i E' E2 hu hu2
     split at h
     ·rename_i te hte;have hte:=TT.find_t hte;subst hte
      split at h
      ·rename_i zs hz
       split at h
       ·rename_i hc
        split at h
        ·rename_i u hy
         split at h
         ·rename_i l2 hsrc
          split at h
          ·rename_i kk h2 q2 hsz
           split at h
           ·rename_i i sz p hx
            split at h
            ·rename_i e;obtain rfl:=Qu e
             split at h
             ·rename_i len hrow
              split at h
              ·rename_i T' sz' ls hb
               split at h
               ·rename_i e;simp only[Zn]at e;obtain rfl:=Qu e.1;obtain rfl:=Qu e.2
                split at h
                ·rename_i new hnew
                 split at h
                 ·rename_i L1 hL
                  split at h
                  ·rename_i B1 hB
                   split at h
                   ·rename_i B2 hB2;obtain⟨rfl,rfl,rfl,rfl,rfl⟩:=Cn h;obtain⟨rfl,hs2⟩:=yM hsz hq;refine W1.append ho hg hd hdn ⟨ht,ht2⟩ hu hu2 hz hc hx hrow hb hy hsrc hs2 ?_ hob hL hB hB2 k;unfold Qr1 at hnew
                    split at hnew
                    ·injection hnew with hnew;simp only[Am,hb]at hrow
                     split at hrow
                     ·injection hrow with hrow;injection hrow with _ e2;rw[<-hnew,<-e2,Za]
                     ·cases hrow
                    ·injection hnew with hnew;simp only[Am]at hrow;injection hrow with hrow;injection hrow with _ e2;rw[<-hnew,e2]
                   ·cases h
                  ·cases h
                 ·cases h
                ·cases h
               ·cases h
              ·cases h
             ·cases h
            ·cases h
           ·rename_i hx
            split at h
            ·rename_i i B0 h0 hi hB0
             split at h
             ·rename_i l3 hsrc'
              split at h
              ·rename_i L1 hL
               split at h
               ·rename_i B1 hB
                split at h
                ·rename_i B2 hB2;obtain⟨rfl,rfl,rfl,rfl,rfl⟩:=Cn h;have e1:=hq.hd;injection e1 with e1;subst e1;obtain⟨rfl,hs2⟩:=yM hsz hq.tl;obtain rfl:=Ca hi;obtain rfl:=Db hB0;rw[Jp]at h0;exact nO ho hg hd hdn ⟨ht,ht2⟩ hu hu2 hz hc h0 hx hy hsrc hs2 hob hsrc' hL hB hB2 k
                ·cases h
               ·cases h
              ·cases h
             ·cases h
            ·cases h
           ·rename_i l1 hx
            split at h
            ·rename_i i B0 h0 hi hB0;obtain⟨rfl,rfl,rfl,rfl,rfl⟩:=Cn h;obtain⟨rfl,hs2⟩:=yM hsz hq;obtain rfl:=Ca hi;obtain rfl:=Db hB0;rw[Jp]at h0;rw[Ej,Ej]at hob;exact W1.appendF ho hg hd hdn ⟨ht,ht2⟩ hu hu2 hz hc h0 hx hob.2.1 hy hsrc hs2 hob.1 hob.2.2 k
            ·cases h
           ·cases h
          ·cases h
         ·cases h
        ·cases h
       ·cases h
      ·cases h
     ·cases h
    ·cases h
   ·cases h
  ·cases h
 ·cases h
theorem Qrd{T:TT P}{t:TypeId}{x y:Operand}(ho:o.op=.store t x y)(hg:o.guard=none)(hd:o.dst=none)(h:Qvy T L B hs t x y=some (L',B',h',q,ob))(hq:EqOk q)(hob:Ge ob)(k:N L' B'):W1 P arr n o N L B:=by
 unfold Qvy at h
 split at h
 ·rename_i ti hti;have hti:=TT.find_t hti;subst hti
  split at h
  ·rename_i u hy
   split at h
   ·rename_i ys hl
    split at h
    ·rename_i e;have hsz:=Qu e
     split at h
     ·rename_i i off hx
      split at h
      ·rename_i T' xs hb
       split at h
       ·rename_i r hr
        split at h
        ·rename_i B2 hB;obtain⟨rfl,rfl,rfl,rfl,rfl⟩:=Cn h;exact W1.store ho hg hd hx hb hy hl hsz hr hB k
        ·cases h
       ·cases h
      ·cases h
     ·rename_i i sz kk off hx
      split at h
      ·rename_i fx T' sz' ls hb
       split at h
       ·rename_i e hf;obtain rfl:=Qu e
        split at h
        ·rename_i e2;have e2:=Qu e2
         split at h
         ·rename_i B2 hB;obtain⟨rfl,rfl,rfl,rfl,rfl⟩:=Cn h;exact W1.storeE ho hg hd hx hb hy hl hsz hf hob (.inl ⟨rfl,by omega,rfl⟩) hB k
         ·cases h
        ·split at h
         ·rename_i l' k' xs hk h2
          split at h
          ·rename_i r hr
           split at h
           ·rename_i B2 hB;obtain⟨rfl,rfl,rfl,rfl,rfl⟩:=Cn h;have e1:=hq.hd;injection e1 with e1;subst e1;have e2:=hq.tl.hd;injection e2 with e2;subst e2;exact W1.storeE ho hg hd hx hb hy hl hsz hf (Qd.1 hk).1 (.inr ⟨xs,hk,hr⟩) hB k
           ·cases h
          ·cases h
         ·cases h
       ·cases h
      ·cases h
     ·cases h
    ·cases h
   ·cases h
  ·cases h
 ·cases h
theorem Qt5{T:TT P}{d:Nat}{xs ts:_}(ho:o.op=.call { callee:=.builtin .copy,args:=xs,argTypes:=ts })(hg:o.guard=none)(hd:o.dst=some d)(hdn:Nat.blt d n=true)(h:coE T L B hs d xs.toList ts=some (L',B',h',q,ob))(hq:EqOk q)(hob:Ge ob)(k:N L' B'):W1 P arr n o N L B:=by
 unfold coE at h
 split at h
 ·rename_i x y hxs;have exs:xs = #[x,y]:=by cases xs;simpa using hxs
  subst exs
  split at h
  ·rename_i t hat
   split at h
   ·rename_i ti hti;have hti:=TT.find_t hti;subst hti
    split at h
    ·rename_i E' hu
     split at h
     ·rename_i te hte;have hte:=TT.find_t hte;subst hte
      split at h
      ·rename_i i sz p u hx hy
       split at h
       ·rename_i e;obtain rfl:=Qu e
        split at h
        ·rename_i lo len fx T' sz' ls l2 hrow hb hsrc
         split at h
         ·rename_i l s hsz m h2
          split at h
          ·rename_i hc;rw[Zn]at hc;obtain⟨c1,c2⟩:=hc;obtain rfl:=Qu c1;obtain rfl:=Qu c2
           split at h
           ·rename_i B2 hB;obtain⟨rfl,rfl,rfl,rfl,rfl⟩:=Cn h;have e1:=hq.hd;injection e1 with e1;subst e1;exact W1.copy ho hg hd hdn hat hu hx hrow hb hy hsrc hsz hob hB k
           ·cases h
          ·cases h
         ·cases h
        ·cases h
       ·cases h
      ·cases h
     ·cases h
    ·cases h
   ·cases h
  ·cases h
 ·cases h
theorem dQ{T:TT P}{dst:Option Nat}{op:Op}(ho:o.op=op)(hd:o.dst=dst)(hg:o.guard=none)(h:efE T n L B hs dst op=some (L',B',h',q,ob))(hq:EqOk q)(hob:Ge ob)(k:N L' B'):W1 P arr n o N L B:=by
 unfold efE at h
 split at h
 ·rename_i d
  split at h
  ·rename_i hdn
   split at h
   ·split at h
    ·rename_i ti hti;have hti:=TT.find_t hti;subst hti
     split at h
     ·rename_i zs hz
      split at h
      ·rename_i i B2 hi hB;obtain⟨rfl,rfl,rfl,rfl,rfl⟩:=Cn h;obtain rfl:=Ca hi;obtain rfl:=Db hB;exact W1.new hg hd hdn (λF E M a w h=>⟨_,by simpa using Qrq (w:=w) (e:=a.eval) ho ti.hz,(MB hz).x⟩) k
      ·cases h
     ·cases h
    ·cases h
   ·split at h
    ·rename_i u hx
     split at h
     ·rename_i xs hl
      split at h
      ·rename_i i B2 hi hB;obtain⟨rfl,rfl,rfl,rfl,rfl⟩:=Cn h;obtain rfl:=Ca hi;obtain rfl:=Db hB;exact W1.new hg hd hdn (λF E M a w h=>⟨_,by simpa using Qyt (w:=w) (e:=a.eval) ho rfl,XI (h.evT hx) hl⟩) k
      ·cases h
     ·cases h
    ·cases h
   ·split at h
    ·split at h
     ·rename_i E0 sz ls i hl hi
      split at h
      ·rename_i B2 hB;obtain⟨rfl,rfl,rfl,rfl,rfl⟩:=Cn h;obtain rfl:=Ca hi;obtain rfl:=Db hB;exact W1.litO ho hl hg hd hdn k
      ·cases h
     ·cases h
    ·split at h
     ·rename_i u hu;obtain⟨rfl,rfl,rfl,rfl,rfl⟩:=Cn h;exact W1.lit ho hu hg hd hdn k
     ·cases h
   ·split at h
    ·rename_i ti hti;have hti:=TT.find_t hti
     split at h
     ·rename_i E' hu
      split at h
      ·rename_i te hte;have hte:=TT.find_t hte;subst hte
       split at h
       ·rename_i zs hz
        split at h
        ·rename_i hc
         split at h
         ·rename_i z1 z2 hx hy
          split at h
          ·rename_i m kk h2
           split at h
           ·rename_i i B2 hi hB;obtain⟨rfl,rfl,rfl,rfl,rfl⟩:=Cn h;obtain rfl:=Ca hi;obtain rfl:=Db hB;have e1:=hq.hd;injection e1 with e1;have e2:=hq.tl.hd;injection e2 with e2;exact W1.make (kd:=.i64) (T:=T) ho hg hd hdn hti hu hz hc hx hy e1 e2 hob.1 hob.2 k
           ·cases h
          ·cases h
         ·cases h
        ·cases h
       ·cases h
      ·cases h
     ·cases h
    ·cases h
   ·split at h
    ·rename_i i B2 hi hB;obtain⟨rfl,rfl,rfl,rfl,rfl⟩:=Cn h;obtain rfl:=Ca hi;obtain rfl:=Db hB;exact W1.mkMap ho hg hd hdn k
    ·cases h
   ·exact Qtd ho hg hd hdn h hq hob k
   ·exact Qt5 ho hg hd hdn h hq hob k
   ·split at h
    ·rename_i u hu;obtain⟨rfl,rfl,rfl,rfl,rfl⟩:=Cn h;intro F E M a w K Q hs hK;exact Ce hg (aO (.inl ho) rfl) (hd ▸ hK _ _ _ _ _ _ (hs.put hdn (hs.ev hu)) k)
    ·cases h
   ·split at h
    ·rename_i t h2 q2 ob2 hp;obtain⟨rfl,rfl,rfl,rfl,rfl⟩:=Cn h;exact W1.val (ho ▸ Qx7 hp hq hob) hg hd hdn k
    ·cases h
  ·cases h
 ·split at h
  ·exact Qrd ho hg hd h hq hob k
  ·split at h
   ·rename_i ti hti;have hti:=TT.find_t hti;subst hti
    split at h
    ·rename_i d hmd
     split at h
     ·rename_i i ys v hx hy hz
      split at h
      ·rename_i es ks hb hks
       split at h
       ·rename_i hc;rw[Zn]at hc
        split at h
        ·rename_i B2 hB;obtain⟨rfl,rfl,rfl,rfl,rfl⟩:=Cn h;exact W1.mapUp (T:=T) ho hg hd hmd hx hb hy hks (Qu hc.1) hz hc.2 hB k
        ·cases h
       ·cases h
      ·cases h
     ·cases h
    ·cases h
   ·cases h
  ·cases h
def gdE(arr:Array Oper)(L:Sg)(o:Oper):Option Bool:=match o.guard with
 |none=>some true
 |
  some (j,want)=>match (arr[j]?).bind (·.dst)with
  |
   some t'=>match lk L t' with
   |some (.cnd true (.one (.bool true)))=>some want
   |
    some (.cnd true (.one (.bool false)))=>match want with
    |true=>some false
    |false=>some true
   |some (.cnd false _)=>some false
   |_=>none
  |none=>none
def ung(o:Oper):Oper:={ o with guard:=none }
theorem Qi7{b:Bool}(h:gdE arr L o=some b){F:Fr}{E:Lf}{M:Nat->Prop}{a:Act}{w:World}(hs:SA F n L B E M a w):Region.wanted o (yielded arr a.tmps)=b:=by
 unfold gdE at h
 split at h
 ·rename_i hg;injection h with h;subst h;simp[Region.wanted,hg]
 ·rename_i j want hg
  split at h
  ·rename_i t' hj
   split at h
   ·rename_i hl;injection h with h;subst h;obtain⟨vb,h1,h2⟩:=hs.slots t' _ hl;have h2:=Lb (E:=E) (h2.1 rfl);subst h2;simp[Region.wanted,yielded,hg,hj,h1]
   ·rename_i hl;obtain⟨vb,h1,h2⟩:=hs.slots t' _ hl;have h2:=Lb (E:=E) (h2.1 rfl);subst h2
    split at h <;> (injection h with h;subst h;simp[Region.wanted,yielded,hg,hj,h1])
   ·rename_i hl;injection h with h;subst h;obtain⟨vb,h1,h2⟩:=hs.slots t' _ hl;obtain rfl:=h2.2 rfl;simp[Region.wanted,yielded,hg,hj,h1,undef]
   ·cases h
  ·cases h
theorem W1.on(hg:gdE arr L o=some true)(h:W1 P arr n (ung o) N L B):W1 P arr n o N L B:=λF E M a w K Q hs hK=>by
 have:=h F E M a w K Q hs hK;unfold aT at this ⊢;rw[if_pos (Qi7 hg hs)];rw[if_pos (by simp[Region.wanted,ung])]at this;exact this
def Qke(n:Nat)(L:Sg):Option Nat->Option Sg
 |
  some d=>match Nat.blt d n with
  |true=>some ((d,.cnd false (.one (.bool false)))::L)
  |false=>none
 |none=>some L
theorem W1.off{L':Sg}(hg:gdE arr L o=some false)(hd:Qke n L o.dst=some L')(k:N L' B):W1 P arr n o N L B:=λF E M a w K Q hs hK=>by
 unfold aT;rw[if_neg (by rw[Qi7 hg hs];simp)];unfold Qke at hd
 split at hd
 ·rename_i d he
  split at hd
  ·rename_i hdn;injection hd with hd;subst hd;rw[he];exact hK _ _ _ _ _ _ (hs.put hdn (show ARep w M E undef (.cnd false _) from⟨λh=>(by cases h),λ_=>rfl⟩)) k
  ·cases hd
 ·rename_i he;injection hd with hd;subst hd;rw[he];exact hK _ _ _ _ _ _ hs k
def stE(T:TT P)(n:Nat)(arr:Array Oper)(L:Sg)(B:Ga)(h:List (H P))(o:Oper):St P:=match gdE arr L o with
 |some true=>efE T n L B h o.dst o.op
 |
  some false=>match Qke n L o.dst with
  |some L'=>some (L',B,h,[],[])
  |none=>none
 |none=>none
theorem Qvx{T:TT P}(h:stE T n arr L B hs o=some (L',B',h',q,ob))(hq:EqOk q)(hob:Ge ob)(k:N L' B'):W1 P arr n o N L B:=by
 unfold stE at h
 split at h
 ·rename_i hg;exact W1.on hg (dQ (o:=ung o) rfl rfl rfl h hq hob k)
 ·rename_i hg
  split at h
  ·rename_i L2 hL;obtain⟨rfl,rfl,rfl,rfl,rfl⟩:=Cn h;exact W1.off hg hL k
  ·cases h
 ·cases h
end Orr
namespace Orr
open Go
variable{F:Fr}{bl bl' bl1 bl2:Nat->OB}{U U' U1 U2:Nat->Prop}{E E' E1 E2:Lf}{M M1:Nat->Prop}{w w1:World}
def uZ(ρ:Nat->Nat):LV->LV
 | .ow i o=>.ow (ρ i) o
 |x=>x
def FV(ρ:Nat->Nat):LV->LV
 | .ow i o=>.ow (ρ i) o
 | .orow i s p=>.orow (ρ i) s p
 | .oel i s k o=>.oel (ρ i) s k o
 | .omap i=>.omap (ρ i)
 | .oif t i o=>.oif t (ρ i) o
 | .ofn f a b=>.ofn f (a.map (uZ ρ)) (b.map (uZ ρ))
 |x=>x
def BR(ρ:Nat->Nat):TV->TV
 | .one x=>.one (FV ρ x)
 | .agg xs=>.agg (xs.map (FV ρ))
def I6(ρ:Nat->Nat):OB->OB
 | .blk T xs=>.blk T (xs.map (FV ρ))
 |b=>b
theorem Cd{ρ:Nat->Nat}(b:OB):(I6 ρ b).lv=b.lv/\(I6 ρ b).mv=b.mv:=by cases b <;> exact⟨rfl,rfl⟩
section
variable{ρ:Nat->Nat}
theorem YRep.to{vs:List Value}:∀{xs:Fy},F2 (YRep w M E) vs (xs.map (uZ ρ))->(∀i∈YQ xs,E (ρ i)≠none->E' i=E (ρ i))->F2 (YRep w M E') vs xs:=by
 intro xs
 induction xs generalizing vs with
 |nil=>intro h _;cases h;exact .nil
 |
  cons x xs ih =>
  intro h hE;cases h with
  |
   cons h0 h =>
   refine .cons ?_ (ih h λi hi=>hE i (by cases x <;> first|exact hi|exact .tail _ hi));cases x <;> first|exact h0|skip
   obtain⟨g,c,m,e,rfl⟩:=h0;exact⟨g,c,m,(hE _ (.head _) (by simp[e])).trans e,rfl⟩
theorem YRep.un{vs:List Value}:∀{xs:Fy},F2 (YRep w M E') vs xs->(∀i∈YQ xs,E' i≠none->E (ρ i)=E' i)->F2 (YRep w M E) vs (xs.map (uZ ρ)):=by
 intro xs
 induction xs generalizing vs with
 |nil=>intro h _;cases h;exact .nil
 |
  cons x xs ih =>
  intro h hE;cases h with
  |
   cons h0 h =>
   refine .cons ?_ (ih h λi hi=>hE i (by cases x <;> first|exact hi|exact .tail _ hi));cases x <;> first|exact h0|skip
   obtain⟨g,c,m,e,rfl⟩:=h0;exact⟨g,c,m,(hE _ (.head _) (by simp[e])).trans e,rfl⟩
theorem XRep.to{v:Value}{x:LV}(h:XRep w M E v (FV ρ x))(hE:∀i∈x.ids,E (ρ i)≠none->E' i=E (ρ i)):XRep w M E' v x:=by
 cases x <;> first|exact h|skip
 ·obtain⟨g,c,m,e,rfl⟩:=h;exact⟨g,c,m,(hE _ (.head _) (by simp[e])).trans e,rfl⟩
 ·obtain⟨q,m,e,h⟩:=h;exact⟨q,m,(hE _ (.head _) (by simp[e])).trans e,h⟩
 ·obtain⟨g,c,m,e,rfl⟩:=h;exact⟨g,c,m,(hE _ (.head _) (by simp[e])).trans e,rfl⟩
 ·obtain⟨vs,us,rfl,h1,h2⟩:=h;exact⟨vs,us,rfl,YRep.to h1 λi hi=>hE i (Qr.2 (.inl hi)),YRep.to h2 λi hi=>hE i (Qr.2 (.inr hi))⟩
 ·obtain⟨g,c,m,e,rfl⟩:=h;exact⟨g,c,m,(hE _ (.head _) (by simp[e])).trans e,rfl⟩
 ·obtain⟨g,c,m,e,rfl⟩:=h;exact⟨g,c,m,(hE _ (.head _) (by simp[e])).trans e,rfl⟩
theorem XRep.un{v:Value}{x:LV}(h:XRep w M E' v x)(hE:∀i∈x.ids,E' i≠none->E (ρ i)=E' i):XRep w M E v (FV ρ x):=by
 cases x <;> first|exact h|skip
 ·obtain⟨g,c,m,e,rfl⟩:=h;exact⟨g,c,m,(hE _ (.head _) (by simp[e])).trans e,rfl⟩
 ·obtain⟨q,m,e,h⟩:=h;exact⟨q,m,(hE _ (.head _) (by simp[e])).trans e,h⟩
 ·obtain⟨g,c,m,e,rfl⟩:=h;exact⟨g,c,m,(hE _ (.head _) (by simp[e])).trans e,rfl⟩
 ·obtain⟨vs,us,rfl,h1,h2⟩:=h;exact⟨vs,us,rfl,YRep.un h1 λi hi=>hE i (Qr.2 (.inl hi)),YRep.un h2 λi hi=>hE i (Qr.2 (.inr hi))⟩
 ·obtain⟨g,c,m,e,rfl⟩:=h;exact⟨g,c,m,(hE _ (.head _) (by simp[e])).trans e,rfl⟩
 ·obtain⟨g,c,m,e,rfl⟩:=h;exact⟨g,c,m,(hE _ (.head _) (by simp[e])).trans e,rfl⟩
theorem F2.xto{xs:Fy}{vs:List Value}(h:F2 (XRep w M E) vs (xs.map (FV ρ)))(hE:∀i∈xs.flatMap LV.ids,E (ρ i)≠none->E' i=E (ρ i)):F2 (XRep w M E') vs xs:=by
 refine F2.of (by rw[h.len];simp) λj v x hv hx=>?_
 obtain⟨u,hu,hr⟩:=h.get (j:=j) (b:=FV ρ x) (by simp[hx]);rw[hv]at hu;injection hu with hu;subst hu;exact hr.to λi hi=>hE i (Xb.2 ⟨x,Qa hx,hi⟩)
theorem F2.xun{xs:Fy}{vs:List Value}(h:F2 (XRep w M E') vs xs)(hE:∀i∈xs.flatMap LV.ids,E' i≠none->E (ρ i)=E' i):F2 (XRep w M E) vs (xs.map (FV ρ)):=by
 refine F2.of (by rw[h.len];simp) λj v x hv hx=>?_
 rw[Zb]at hx;cases hy:xs[j]? with
 |none=>rw[hy]at hx;cases hx
 |
  some y =>
  rw[hy]at hx;injection hx with hx;subst hx;exact(h.get' hv hy).un λi hi=>hE i (Xb.2 ⟨y,Qa hy,hi⟩)
theorem TRep.to{v:Value}{t:TV}(h:TRep w M E v (BR ρ t))(hE:∀i∈t.ids,E (ρ i)≠none->E' i=E (ρ i)):TRep w M E' v t:=by
 cases t with
 |one x=>exact XRep.to h hE
 |agg xs=>obtain⟨vs,e,h⟩:=h;exact⟨vs,e,h.xto hE⟩
theorem TRep.un{v:Value}{t:TV}(h:TRep w M E' v t)(hE:∀i∈t.ids,E' i≠none->E (ρ i)=E' i):TRep w M E v (BR ρ t):=by
 cases t with
 |one x=>exact XRep.un h hE
 |agg xs=>obtain⟨vs,e,h⟩:=h;exact⟨vs,e,h.xun hE⟩
theorem OBRep.to{b:OB}{j:Nat}(h:OBRep w M E (ρ j) (I6 ρ b))(hj:b.lv=true->E' j=E (ρ j))(hE:∀i∈b.ids,E (ρ i)≠none->E' i=E (ρ i)):OBRep w M E' j b:=by
 cases b with
 |gone=>trivial
 |blk T xs=>obtain⟨g,c,m,e,cs,h1,h2⟩:=h;exact⟨g,c,m,(hj rfl).trans e,cs,h1,h2.xto hE⟩
 |row fx T sz ls=>obtain⟨h0,h1,q,e,h2⟩:=h;exact⟨h0,h1,q,(hj rfl).trans e,h2⟩
 |mpb es=>obtain⟨h0,g,c,m,e,h2⟩:=h;exact⟨h0,g,c,m,(hj rfl).trans e,h2⟩
theorem OBRep.un{b:OB}{j:Nat}(h:OBRep w M E' j b)(hj:b.lv=true->E (ρ j)=E' j)(hE:∀i∈b.ids,E' i≠none->E (ρ i)=E' i):OBRep w M E (ρ j) (I6 ρ b):=by
 cases b with
 |gone=>trivial
 |blk T xs=>obtain⟨g,c,m,e,cs,h1,h2⟩:=h;exact⟨g,c,m,(hj rfl).trans e,cs,h1,h2.xun hE⟩
 |row fx T sz ls=>obtain⟨h0,h1,q,e,h2⟩:=h;exact⟨h0,h1,q,(hj rfl).trans e,h2⟩
 |mpb es=>obtain⟨h0,g,c,m,e,h2⟩:=h;exact⟨h0,g,c,m,(hj rfl).trans e,h2⟩
end
def prt(bl':Nat->OB)(U':Nat->Prop)(E':Lf)(M:Nat->Prop)(w:World):Fr where
 K b:=b<w.heap.size/\∀j c m,(bl' j).lv=true->E' j≠some (some (b,c),m)
 J j:=¬U' j/\(bl' j).mv=false
 w:=w
 M:=M
 E:=E'
theorem HS.sub(h:HS F bl U E M w){ρ:Nat->Nat}(hb:∀j,(bl' j).lv=true->bl (ρ j)=I6 ρ (bl' j))(hi:∀i j,ρ i=ρ j->i=j)(hU:∀j,U' j->bl' j=.gone)(h1:∀j,U' j->E' j=none)(h2:∀j,¬U' j->E' j=E (ρ j))(hids:∀j,∀i∈(bl' j).ids,¬U' i) :
 HS (prt bl' U' E' M w) bl' U' E' M w:=by
 have hlu:∀j,(bl' j).lv=true->¬U' j:=λj hj hu=>by rw[hU j hu]at hj;cases hj
 have hlv:∀j,(bl' j).lv=true->(bl (ρ j)).lv=true:=λj hj=>by rw[hb j hj,(Cd _).1];exact hj
 exact {
  size:=Qn _
  kept:=λb hb=>⟨hb.1,rfl,Iff.rfl⟩
  ids:=λ_ _=>rfl
  nj:=λi hi hj=>by rw[hj.2]at hi;cases hi
  io:=⟨rfl,rfl⟩
  blk:=λj=>by
   cases hl:(bl' j).lv with
   |false=>cases hbl:bl' j <;> rw[hbl]at hl <;> first|trivial|cases hl
   |
    true =>
    have:=h.blk (ρ j);rw[hb j hl]at this;exact this.to (λ_=>h2 j (hlu j hl)) λi hi _=>h2 i (hids j i hi)
  nk:=λi g c m hl e=>⟨λhk=>hk.2 i c m hl e,(h.nk (ρ i) g c m (hlv i hl) (by rw[<-h2 i (hlu i hl)];exact e)).2⟩
  inj:=λi j g c m c' m' hli hlj ei ej=>hi _ _ (h.inj (ρ i) (ρ j) g c m c' m' (hlv i hli) (hlv j hlj) (by rw[<-h2 i (hlu i hli)];exact ei) (by rw[<-h2 j (hlu j hlj)];exact ej))
  mlt:=h.mlt
  m0:=λ_ _ h=>h
  un:=λi hi=>⟨h1 i hi,hU i hi⟩
  uj:=λi hi hj=>hj.1 hi }
structure Back(bl bl' bl1 bl2:Nat->OB)(U U' U1 U2:Nat->Prop)(E E' E1 E2:Lf)(ρ:Nat->Nat)(A:Nat->Prop):Prop where
 inj:∀i j,ρ i=ρ j->i=j
 hb:∀j,(bl' j).lv=true->bl (ρ j)=I6 ρ (bl' j)
 e':∀j,¬U' j->E' j=E (ρ j)
 a0:∀j,(bl' j).lv=true->A j/\¬U' j
 a1:∀j,A j->(bl' j).lv=true\/U' j/\U (ρ j)
 a2:∀j,U' j->¬U1 j->A j
 hit:∀j,A j->E2 (ρ j)=E1 j/\bl2 (ρ j)=I6 ρ (bl1 j)
 no:∀i,(∀j,A j->ρ j≠i)->E2 i=E i/\bl2 i=bl i
 u2:∀i,U2 i->U i/\∀j,A j->ρ j≠i
 mv:∀j,(bl' j).mv=true->∀i,(∀k,A k->ρ k≠i)->ρ j∉(bl i).ids
section
variable{ρ:Nat->Nat}{A:Nat->Prop}(k:Back bl bl' bl1 bl2 U U' U1 U2 E E' E1 E2 ρ A)(h:HS F bl U E M w)(h':HS (prt bl' U' E' M w) bl1 U1 E1 M1 w1)
include k h h'
theorem TE{i:Nat}(hi:E i≠none)(hm:∀j,(bl' j).mv=true->ρ j≠i):E2 i=E i:=by
 by_cases hh:∃j,A j/\ρ j=i
 ·obtain⟨j,hA,rfl⟩:=hh;rw[(k.hit j hA).1];rcases k.a1 j hA with hl|⟨_,hu⟩
  ·have hu:=(k.a0 j hl).2;cases hv:(bl' j).mv with
   |true=>exact absurd rfl (hm j hv)
   |false=>exact(h'.ids j ⟨hu,hv⟩).trans (k.e' j hu)
  ·exact absurd (h.un _ hu).1 hi
 ·exact(k.no i λj hA e=>hh ⟨j,hA,e⟩).1
theorem DT{i:Nat}(hi:E1 i≠none):E2 (ρ i)=E1 i:=by
 by_cases hA:A i
 ·exact(k.hit i hA).1
 ·have hU1:¬U1 i:=λhu=>hi (h'.un i hu).1
  have hU':¬U' i:=λhu=>hA (k.a2 i hu hU1)
  have hl:(bl' i).lv=false:=by
   cases hl:(bl' i).lv with
   |true=>exact absurd (k.a0 i hl).1 hA
   |false=>rfl
  have hv:(bl' i).mv=false:=by cases hb:bl' i <;> rw[hb]at hl <;> first|rfl|cases hl
  rw[(k.no (ρ i) λj hj e=>hA (k.inj _ _ e ▸ hj)).1,<-k.e' i hU',h'.ids i ⟨hU',hv⟩];rfl
theorem bQ{b:Nat}(hb:b<w.heap.size)(hn:∀i c m,(bl i).lv=true->E i=some (some (b,c),m)->∀j,A j->ρ j≠i):(prt bl' U' E' M w).K b :=
 ⟨hb,λj c m hl e=>by
  have hu:=(k.a0 j hl).2;exact hn (ρ j) c m (by rw[k.hb j hl,(Cd _).1];exact hl) (by rw[<-k.e' j hu];exact e) j (k.a0 j hl).1 rfl⟩
theorem iU{b:Nat}(hb:F.K b):(prt bl' U' E' M w).K b :=
 bQ k h h' (X7 (h.kept b hb).1 h.size) λi c m hl e=>absurd hb (h.nk i b c m hl e).1
theorem BN{i g c m:Nat}(hl:(bl i).lv=true)(e:E i=some (some (g,c),m))(hi:∀j,A j->ρ j≠i):(prt bl' U' E' M w).K g :=
 bQ k h h' (h.mlt g (h.nk i g c m hl e).2) λi' c' m' hl' e'=>h.inj i i' g c m c' m' hl hl' e e' ▸ hi
theorem BM:Le w M w1 M1:=by
 refine⟨h'.size,λb hb hM=>?_,h'.m0⟩;exact(h'.kept b (bQ k h h' hb λi c m hl e=>absurd (h.nk i b c m hl e).2 hM)).2.1
theorem HS.back:HS F bl2 U2 E2 M1 w1:=by
 have hitd:∀i,(∃j,A j/\ρ j=i)\/∀j,A j->ρ j≠i:=λi=>by
  by_cases hh:∃j,A j/\ρ j=i
  ·exact .inl hh
  ·exact .inr λj hA e=>hh ⟨j,hA,e⟩
 refine⟨?_,?_,?_,?_,?_,?_,?_,?_,?_,?_,?_,?_⟩
 ·exact Qe h.size h'.size
 ·intro b hb;obtain⟨h1,h2,h3⟩:=h.kept b hb;obtain⟨_,h4,h5⟩:=h'.kept b (iU k h h' hb);exact⟨h1,h4.trans h2,h5.trans h3⟩
 ·intro i hJ;rw[<-h.ids i hJ];rcases hitd i with⟨j,hA,rfl⟩|hn
  ·rw[(k.hit j hA).1];rcases k.a1 j hA with hl|⟨_,hu⟩
   ·have hu:=(k.a0 j hl).2;have hv:(bl' j).mv=false:=by
     cases hv:(bl' j).mv with
     |false=>rfl
     |true=>exact absurd hJ (h.nj _ (by rw[k.hb j hl,(Cd _).2];exact hv))
    exact(h'.ids j ⟨hu,hv⟩).trans (k.e' j hu)
   ·exact absurd hJ (h.uj _ hu)
  ·exact(k.no i hn).1
 ·intro i hv hJ;rcases hitd i with⟨j,hA,rfl⟩|hn
  ·rw[(k.hit j hA).2,(Cd _).2]at hv;rcases k.a1 j hA with hl|⟨_,hu⟩
   ·have hu:=(k.a0 j hl).2;have hv':(bl' j).mv=false:=by
     cases hv2:(bl' j).mv with
     |false=>rfl
     |true=>exact absurd hJ (h.nj _ (by rw[k.hb j hl,(Cd _).2];exact hv2))
    exact h'.nj j hv ⟨hu,hv'⟩
   ·exact h.uj _ hu hJ
  ·rw[(k.no i hn).2]at hv;exact h.nj i hv hJ
 ·exact⟨h'.io.1.trans h.io.1,h'.io.2.trans h.io.2⟩
 ·intro i;rcases hitd i with⟨j,hA,rfl⟩|hn
  ·rw[(k.hit j hA).2];exact(h'.blk j).un (λ_=>(k.hit j hA).1) λi _ hi=>DT k h h' hi
  ·obtain⟨e1,e2⟩:=k.no i hn;rw[e2];exact(h.blk i).keep (BM k h h') (λhl g c m e=>(h'.kept g (BN k h h' hl e hn)).2.1) (λ_=>e1) λj hj hne=>TE k h h' hne λl hl e=>k.mv l hl i hn (e ▸ hj)
 ·intro i g c m hl e;rcases hitd i with⟨j,hA,rfl⟩|hn
  ·rw[(k.hit j hA).2,(Cd _).1]at hl;rw[(k.hit j hA).1]at e;obtain⟨h1,h2⟩:=h'.nk j g c m hl e;exact⟨λhK=>h1 (iU k h h' hK),h2⟩
  ·rw[(k.no i hn).2]at hl;rw[(k.no i hn).1]at e;obtain⟨h1,h2⟩:=h.nk i g c m hl e;exact⟨h1,(h'.kept g (BN k h h' hl e hn)).2.2.2 h2⟩
 ·intro i j g c m c' m' hli hlj ei ej;rcases hitd i with⟨i',hA,rfl⟩|hn <;> rcases hitd j with⟨j',hA',rfl⟩|hn'
  ·rw[(k.hit i' hA).2,(Cd _).1]at hli;rw[(k.hit j' hA').2,(Cd _).1]at hlj;rw[(k.hit i' hA).1]at ei;rw[(k.hit j' hA').1]at ej;exact congrArg ρ (h'.inj i' j' g c m c' m' hli hlj ei ej)
  ·rw[(k.hit i' hA).2,(Cd _).1]at hli;rw[(k.hit i' hA).1]at ei;rw[(k.no j hn').2]at hlj;rw[(k.no j hn').1]at ej;exact absurd (BN k h h' hlj ej hn') (h'.nk i' g c m hli ei).1
  ·rw[(k.hit j' hA').2,(Cd _).1]at hlj;rw[(k.hit j' hA').1]at ej;rw[(k.no i hn).2]at hli;rw[(k.no i hn).1]at ei;exact absurd (BN k h h' hli ei hn) (h'.nk j' g c' m' hlj ej).1
  ·rw[(k.no i hn).2]at hli;rw[(k.no i hn).1]at ei;rw[(k.no j hn').2]at hlj;rw[(k.no j hn').1]at ej;exact h.inj i j g c m c' m' hli hlj ei ej
 ·exact h'.mlt
 ·exact λb hb hm=>h.m0 b hb (h'.m0 b (X7 hb h.size) hm)
 ·intro i hi;obtain⟨h1,h2⟩:=k.u2 i hi;rw[(k.no i h2).1,(k.no i h2).2];exact h.un i h1
 ·exact λi hi=>h.uj i (k.u2 i hi).1
end
end Orr
namespace Orr
open Go
variable{P:Program}{arr:Array Oper}{n:Nat}{o:Oper}{N:Sg->Ga->Prop}{L L':Sg}{B B':Ga}{F:Fr}{E E':Lf}{M M':Nat->Prop}{a:Act}{w w':World}{hs h':List (H P)}{q:Li}
theorem RN {f:FuncId} {fn:Func} {args:Array Value} (w:World) (hf:P.funcs[f]? = some fn) (hn:(fn.name == "runtime.NumGoroutine")=false) (hb:fn.body.isNone=false):(callFunc f args).run P w=.ok (.enter f args) w:=by
 simp only[callFunc,Sem.run_bind,run_program,Result.andThen_ok,hf,hn,hb,J6,if_false,Sem.run_pure]
theorem Qwb{f:Nat}{x:Operand}{xs:Array Operand}{ats:Array TypeId}{pre post:List Value}{e:Operand->Value}(hf:Qnl P f)(ho:o.op=.call { callee:=.value x,args:=xs,argTypes:=ats })(hx:e x=.func (.func f) pre.toArray post.toArray) :
 (execOp e o).run P w=.ok (.enter f (pre++xs.toList.map e++post).toArray) w:=by
 obtain⟨fn,h1,h2,h3⟩:=hf;have e1:pre.toArray++xs.map e++post.toArray=(pre++xs.toList.map e++post).toArray:=by cases xs;simp
 simp only[execOp,ho,resolve,hx,Deferred.ofValue,Sem.run_bind,Sem.run_pure,Result.andThen_ok,invoke,e1];exact RN w h1 h2 h3
theorem mL{f:Nat}{vs:List Value}{K:Act->World->Prop}{Q:Exit->Act->World->Prop}{R:Value->World->Prop}(hg:o.guard=none)(hr:(execOp a.eval o).run P w=.ok (.enter f vs.toArray) w)(hc:Calls P f vs.toArray w λe w'=>∃r,e=.returned r/\R r w')(k:∀r w',R r w'->K (a.put o.dst r) w'):aT P arr o a w K Q:=by
 unfold aT;rw[if_pos (by simp[Region.wanted,hg])];refine .inl ?_;unfold Oper.wp;rw[hr];simp only[Oper.upon];refine hc.mono λe' w' hr=>?_
 obtain⟨r,rfl,hR⟩:=hr;exact k r w' hR
def Qo7:LV->Option (Nat×Fy×Fy)
 | .fn f a b=>some (f,a,b)
 | .ofn f a b=>some (f,a,b)
 |_=>none
theorem YRep.x:∀{xs:Fy} {vs:List Value},F2 (YRep w M E) vs xs->F2 (XRep w M E) vs xs
 | [],_,.nil=>.nil
 |x::xs,_,.cons h0 h=>.cons (by cases x <;> first|exact h0|exact LRep.x h0) (YRep.x h)
theorem Qo8{v:Value}{x:LV}{f:Nat}{pre post:Fy}(h:XRep w M E v x)(hx:Qo7 x=some (f,pre,post)):∃vs us:List Value,v=.func (.func f) vs.toArray us.toArray/\F2 (XRep w M E) vs pre/\F2 (XRep w M E) us post:=by
 unfold Qo7 at hx
 split at hx
 ·injection hx with hx;injection hx with e1 hx;injection hx with e2 e3;subst e1;subst e2;subst e3;have h:LRep w M v _:=h;cases h with
  |fn f pre post vs us h1 h2 h3 h4=>exact⟨vs,us,rfl,F2.of h1 λj v x hv hx=>(h3 j v x hv hx).x,F2.of h2 λj v x hv hx=>(h4 j v x hv hx).x⟩
 ·injection hx with hx;injection hx with e1 hx;injection hx with e2 e3;subst e1;subst e2;subst e3;obtain⟨vs,us,e,h1,h2⟩:=h;exact⟨vs,us,e,YRep.x h1,YRep.x h2⟩
 ·cases hx
def pZ:Fy->Gb->Gb
 | [],r=>r
 |x::l,r=>.one x::pZ l r
def Qn1:Gb->Gb->Gb
 | [],r=>r
 |x::l,r=>x::Qn1 l r
def nI(pre:Fy)(us:Gb)(post:Fy):Gb:=pZ pre (Qn1 us (pZ post []))
theorem pX:∀(l:Fy) (r:Gb),pZ l r=l.map .one++r
 | [],_=>rfl
 |x::l,r=>by simp[pZ,pX l r]
theorem iV:∀(l r:Gb),Qn1 l r=l++r
 | [],_=>rfl
 |x::l,r=>by simp[Qn1,iV l r]
theorem iY(pre:Fy)(us:Gb)(post:Fy):nI pre us post=pre.map .one++us++post.map .one:=by simp[nI,pX,iV]
theorem F2.ones{vs:List Value}{xs:Fy}(h:F2 (XRep w M E) vs xs):F2 (TRep w M E) vs (xs.map .one):=by
 induction h with
 |nil=>exact .nil
 |cons h0 _ ih=>exact .cons h0 ih
def Qp1:LV->Option LV
 | .nils=>some (.row [])
 |x=>some x
theorem Qby:nN w M E w M E Qp1:=λv x y h hr=>by
 cases x <;> simp only[Qp1,Option.some.injEq]at h <;> subst h <;> first|exact hr|exact VU hr
def Ir:Gb->Option Gb
 | []=>some []
 |
  x::l=>match nV Qp1 x with
  |
   some y=>match Ir l with
   |some r=>some (y::r)
   |none=>none
  |none=>none
theorem ZZ:∀{us ys:Gb} {vs:List Value},Ir us=some ys->F2 (TRep w M E) vs us->F2 (TRep w M E) vs ys
 | [],_,_,h,.nil=>by simp only[Ir,Option.some.injEq]at h;subst h;exact .nil
 |
  u::us,_,_,h,.cons h0 hr=>by
  simp only[Ir]at h
  split at h
  ·rename_i y hy
   split at h
   ·rename_i r hr';injection h with h;subst h;exact .cons (nJ Qby hy h0) (ZZ hr' hr)
   ·cases h
  ·cases h
def fF:Gb->Gb->Option Li
 | [],[]=>some []
 |
  x::l,y::r=>match fF l r with
  |some q=>some ((.t x,.t y)::q)
  |none=>none
 |_,_=>none
theorem TP:∀{l r:Gb} {q:Li},fF l r=some q->EqOk q->l=r
 | [],[],_,_,_=>rfl
 |
  x::l,y::r,q,h,hq=>by
  simp only[fF]at h
  split at h
  ·rename_i q' hq';injection h with h;subst h;have e:=hq.hd;injection e with e;subst e;rw[TP hq' hq.tl]
  ·cases h
 | [],_::_,_,h,_=>by simp[fF]at h
 |_::_,[],_,h,_=>by simp[fF]at h
def O2:Gb->Bool
 | []=>true
 |
  .one x::l=>match x.free with
  |true=>O2 l
  |false=>false
 |
  .agg xs::l=>match Eg xs with
  |true=>O2 l
  |false=>false
theorem tD{x:LV}(h:x.free=true):x.ids=[]:=by cases x <;> first|rfl|cases h
theorem xQ:∀{xs:Fy},Eg xs=true->xs.flatMap LV.ids=[]
 | [],_=>rfl
 |
  x::xs,h=>by
  simp only[Eg]at h
  split at h
  ·rename_i hx;simp[tD hx,xQ h]
  ·cases h
theorem UB:∀{ts:Gb},O2 ts=true->∀t∈ts,t.ids=[]
 | [],_,_,h=>by cases h
 |
  t::ts,h,u,hu=>by
  cases t <;> simp only[O2]at h <;> split at h <;> first|(cases h;done)|skip
  all_goals
   rename_i hx;rcases Qj.1 hu with rfl|hu
   ·first|exact tD hx|exact xQ hx
   ·exact UB h u hu
theorem gZ{res:Gb}(h:O2 res=true):(TL res).ids=[]:=by
 have:=UB h
 match res with
 | [t]=>exact this t (by simp)
 | []=>rfl
 |_::_::_=>exact List.flatMap_eq_nil_iff.2 this
theorem wX:ob []=λ_=>.gone:=by funext i;simp[ob]
def Cee(P:Program)(n:Nat)(o:Oper)(xs:List Operand)(f:Nat)(pre post:Fy)(L:Sg)(B:Ga):Prop:=∀F E M a w,SA F n L B E M a w->∃vs us:List Value,(Qnl P f->(execOp a.eval o).run P w=.ok (.enter f (vs++xs.map a.eval++us).toArray) w)/\F2 (XRep w M E) vs pre/\F2 (XRep w M E) us post
theorem Cee.value{f:Nat}{x:Operand}{xs:Array Operand}{ats:Array TypeId}{fv:LV}{pre post:Fy}(ho:o.op=.call { callee:=.value x,args:=xs,argTypes:=ats })(hx:evT L x=some (.one fv))(hfv:Qo7 fv=some (f,pre,post)):Cee P n o xs.toList f pre post L B:=λF E M a w h=>by
 obtain⟨vs,us,hv,h1,h2⟩:=Qo8 (h.evT hx) hfv;exact⟨vs,us,λhf=>Qwb hf ho hv,h1,h2⟩
theorem Qnb{f t b p d:Nat}{r:Operand}{name:String}{xs:Array Operand}{ats:Array TypeId}{e:Operand->Value}(hf:Qnl P f)(ho:o.op=.call { callee:=.invoke r name,args:=xs,argTypes:=ats })(hr:e r=.iface t (.pointer (some ⟨b,p,none⟩)))(hm:∀b o w,(method (P.types.size+Made.depth) t (.pointer (some ⟨b,o,none⟩)) name).run P w=.ok (f,.pointer (some ⟨b,o+d,none⟩)) w) :
 (execOp e o).run P w=.ok (.enter f ([Value.pointer (some ⟨b,p+d,none⟩)]++xs.toList.map e++[]).toArray) w:=by
 obtain⟨fn,h1,h2,h3⟩:=hf;have e1 : #[Value.pointer (some ⟨b,p+d,none⟩)]++(#[Value.iface t (.pointer (some ⟨b,p,none⟩))]++xs.map e).extract 1 (#[Value.iface t (.pointer (some ⟨b,p,none⟩))]++xs.map e).size=([Value.pointer (some ⟨b,p+d,none⟩)]++xs.toList.map e++[]).toArray:=by
  cases xs;simp[List.extract,Qp]
 have e0:(#[Value.iface t (.pointer (some ⟨b,p,none⟩))]++xs.map e)[0]? = some (Value.iface t (.pointer (some ⟨b,p,none⟩))):=by cases xs;simp
 simp only[execOp,ho,resolve,hr,Sem.run_bind,Sem.run_pure,Result.andThen_ok,invoke,e0,callMethod,run_program,hm,e1];exact RN w h1 h2 h3
theorem Cee.invoke{f t i off d s:Nat}{r:Operand}{name:String}{xs:Array Operand}{ats:Array TypeId}(ho:o.op=.call { callee:=.invoke r name,args:=xs,argTypes:=ats })(hr:evT L r=some (.one (.oif t i off)))(hm:∀b o w,(method (P.types.size+Made.depth) t (.pointer (some ⟨b,o,none⟩)) name).run P w=.ok (f,.pointer (some ⟨b,o+d,none⟩)) w)(hs:s=off+d):Cee P n o xs.toList f [.ow i s] [] L B:=λF E M a w h=>by
 obtain⟨g,c,m,he,hv⟩:=(show XRep w M E (a.eval r) (.oif t i off) from h.evT hr);exact⟨[.pointer (some ⟨g,off+d,none⟩)],[],λhf=>Qnb hf ho hv hm,.cons ⟨g,c,m,he,by rw[hs]⟩ .nil,.nil⟩
theorem W1.call{f d:Nat}{xs:Array Operand}{pre post:Fy}{us ys args res:Gb}(hc:Cf P f args [] res [])(hce:Cee P n o xs.toList f pre post L B)(hg:o.guard=none)(hd:o.dst=some d)(hdn:Nat.blt d n=true)(hxs:evTs L xs.toList=some us)
 (hys:Ir (nI pre us post)=some ys) (he:ys=args) (hfr:O2 ys=true) (hres:O2 res=true) (k:N ((d,TL res)::L) B):W1 P arr n o N L B:=by
 intro F E M a w K Q h hK;subst he;obtain⟨vs,us',hv,h1,h2⟩:=hce F E M a w h;have hargs:F2 (TRep w M E) (vs++xs.toList.map a.eval++us') ys:=ZZ hys (by rw[iY];exact(h1.ones.append (h.evTs hxs)).append h2.ones)
 let E0:Lf:=λ_=>none
 have CY:HS (prt (ob []) (nw []) E0 M w) (ob []) (nw []) E0 M w:=by
  refine h.hs.sub (ρ:=λj=>B.length+j) (λj hj=>by simp[ob,OB.lv]at hj) (λi j e=>by simpa using e) (λj _=>by simp[ob]) (λ_ _=>rfl) (λj hj=>absurd (Qh j) (by simpa[nw]using hj)) λj i hi=>by simp[ob,OB.ids]at hi
 have hargs0:F2 (TRep w M E0) (vs++xs.toList.map a.eval++us') ys:=hargs.imp λ_ t ht h=>h.keep (Le.refl _ _) λi hi=>by rw[UB hfr t ht]at hi;cases hi
 refine mL hg (hv hc.1) (R:=λr w'=>∃E' M',HS (prt (ob []) (nw []) E0 M w) (ob []) (nw []) E' M' w'/\ARep w' M' E' r (TL res)) ((hc.2 _ _ _ _ _ CY hargs0).mono λe w' hr=>?_) λr w' ⟨E',M',hs1,hr⟩=>?_
 ·obtain⟨r,u,Bo,E',M',e1,⟨rfl,rfl⟩,_,hs1,hr⟩:=hr;exact⟨r,e1,E',M',hs1,hr⟩
 ·have kb:Back (ob B) (ob []) (ob []) (ob B) (nw B) (nw []) (nw []) (nw B) E E0 E' E (λj=>B.length+j) λ_=>False:={
   inj:=λi j e=>by simpa using e
   hb:=λj hj=>by simp[ob,OB.lv]at hj
   e':=λj hj=>absurd (Qh j) (by simpa[nw]using hj)
   a0:=λj hj=>by simp[ob,OB.lv]at hj
   a1:=λ_ h=>h.elim
   a2:=λj h1 h2=>absurd h1 h2
   hit:=λ_ h=>h.elim
   no:=λ_ _=>⟨rfl,rfl⟩
   u2:=λ_ h=>⟨h,λ_ h=>h.elim⟩
   mv:=λj hj=>by simp[ob,OB.mv]at hj }
  have hs2:=HS.back kb h.hs hs1;have hle:=BM kb h.hs hs1;have hr2:ARep w' M' E r (TL res):=hr.keep (Le.refl _ _) λi hi=>by
   rw[gZ hres]at hi;cases hi
  exact hd ▸ hK _ _ _ _ _ _ ((h.mem hs2 hle λ_ _=>rfl).put hdn hr2) k
end Orr
namespace Orr
open Go
variable{P:Program}{n:Nat}{L L':Sg}{B B':Ga}{Q:Exit->Sg->Ga->Prop}
abbrev Kp:=Sg->Ga->Prop
def Qxq(F:Fr)(n:Nat)(Q:Exit->Sg->Ga->Prop):Exit->Act->World->Prop:=λe a w=>∃L B E M,SA F n L B E M a w/\Q e L B
def AC(P:Program)(n:Nat)(c:Code)(Q:Exit->Sg->Ga->Prop)(L:Sg)(B:Ga):Prop:=∀F E M a w,SA F n L B E M a w->c.wp P (Qxq F n Q) a w
def AW(P:Program)(arr:Array Oper)(n:Nat):List Oper->Kp->Kp
 | [],N=>N
 |o::l,N=>λL B=>W1 P arr n o (AW P arr n l N) L B
theorem W1.mono{arr:Array Oper}{o:Oper}{N N':Kp}(h:W1 P arr n o N L B)(hn:∀L B,N L B->N' L B):W1 P arr n o N' L B:=λF E M a w K Q hs hK=>h F E M a w K Q hs λa' w' L' B' E' M' h1 h2=>hK a' w' L' B' E' M' h1 (hn _ _ h2)
theorem AW.mono{arr:Array Oper}{N N':Kp}(hn:∀L B,N L B->N' L B):∀{l:List Oper} {L:Sg} {B:Ga},AW P arr n l N L B->AW P arr n l N' L B
 | [],_,_,h=>hn _ _ h
 |_::_,_,_,h=>W1.mono h λ_ _ h=>AW.mono hn h
theorem iW{arr:Array Oper}{N:Kp}{Q:Exit->Act->World->Prop}{F:Fr}(hq:∀a w L B E M,SA F n L B E M a w->N L B->Q .normal a w):∀{l:List Oper} {L:Sg} {B:Ga} {E:Lf} {M:Nat->Prop} {a:Act} {w:World},AW P arr n l N L B->SA F n L B E M a w->wpList P arr Q l a w
 | [],_,_,_,_,_,_,h,hs=>hq _ _ _ _ _ _ hs h
 |
  o::l,_,_,_,_,_,_,h,hs=>by
  unfold wpList;exact h F _ _ _ _ (wpList P arr Q l) Q hs λa' w' L' B' E' M' h1 h2=>iW hq h2 h1
def Sub(n:Nat)(L:Sg)(B:Ga)(L2:Sg)(B2:Ga):Prop:=∀F E M a w,SA F n L B E M a w->∃E' M',SA F n L2 B2 E' M' a w
def Fk(k:Option Nat)(F:Fr):Prop:=match k with
 |none=>True
 |some k=>∀i,k<=i->¬F.J i
def Qwr(k:Option Nat)(n:Nat)(L:Sg)(B:Ga)(L2:Sg)(B2:Ga):Prop:=∀F E M a w,Fk k F->SA F n L B E M a w->∃E' M',SA F n L2 B2 E' M' a w
def Wk(n:Nat)(k:Option Nat)(N:Kp):Kp:=λL B=>∃L2 B2,Qwr k n L B L2 B2/\N L2 B2
theorem Sub.refl:Sub n L B L B:=λ_ E M _ _ h=>⟨E,M,h⟩
theorem Sub.trans{L2 L3:Sg}{B2 B3:Ga}(h:Sub n L B L2 B2)(h':Sub n L2 B2 L3 B3):Sub n L B L3 B3:=λF E M a w hs=>by
 obtain⟨E',M',h1⟩:=h F E M a w hs;exact h' F E' M' a w h1
inductive It where
 |code (c:Code)
 |ops (arr:Array Oper) (l:List Oper)
 |pst (d:Nat)
 |blk (id:Nat)
 |rnd (k:Option Nat) (N:Kp)
def mkQ(Q:Exit->Sg->Ga->Prop)(p:Kp×(Nat->Kp)):Exit->Sg->Ga->Prop
 | .normal,L,B=>p.1 L B
 | .exit id,L,B=>p.2 id L B
 |e,L,B=>Q e L B
def BP(P:Program)(n:Nat)(Q:Exit->Sg->Ga->Prop):List It->Kp×(Nat->Kp)
 | []=>(Q .normal,λid=>Q (.exit id))
 | .code c::r=>(λL B=>AC P n c (mkQ Q (BP P n Q r)) L B,(BP P n Q r).2)
 | .ops arr l::r=>(λL B=>AW P arr n l (BP P n Q r).1 L B,(BP P n Q r).2)
 | .pst _::r=>BP P n Q r
 | .blk i::r=>((BP P n Q r).1,λid L B=>if i=id then(BP P n Q r).1 L B else(BP P n Q r).2 id L B)
 | .rnd k N::r=>(Wk n k N,(BP P n Q r).2)
def AK(P:Program)(n:Nat)(Q:Exit->Sg->Ga->Prop)(it:List It):Kp:=(BP P n Q it).1
def SB(id:Nat):List It->Option (List It)
 | []=>none
 |
  .blk i::r=>match Nat.beq i id with
  |true=>some r
  |false=>SB id r
 |_::r=>SB id r
theorem A5{id:Nat}:∀{it r:List It},SB id it=some r->(BP P n Q it).2 id=AK P n Q r
 | [],r,h=>by cases h
 |
  .blk i::q,r,h=>by
  simp only[SB]at h
  split at h
  ·rename_i e;have e:=Qu e;injection h with h;subst h;funext L B;simp only[BP];rw[if_pos e];rfl
  ·rename_i e;have e:=Kc e;rw[<-A5 h];funext L B;simp only[BP];rw[if_neg e]
 | .code c::q,r,h=>A5 (it:=q) h
 | .ops _ _::q,r,h=>A5 (it:=q) h
 | .pst _::q,r,h=>A5 (it:=q) h
 | .rnd _ _::q,r,h=>A5 (it:=q) h
theorem Qns{c:Code}{Q':Exit->Sg->Ga->Prop}(h:AC P n c Q' L B)(hq:∀e L B,Q' e L B->Q e L B):AC P n c Q L B:=λF E M a w hs =>
 wp_mono (h F E M a w hs) λe a w ⟨L,B,E,M,h1,h2⟩=>⟨L,B,E,M,h1,hq _ _ _ h2⟩
theorem Qtb{x y:Code}{r:List It}(h:AK P n Q (.code x::.code y::r) L B):AK P n Q (.code (.seq x y)::r) L B:=λF E M a w hs =>
 wp_seq (wp_mono (h F E M a w hs) λe a w ⟨L,B,E,M,h1,h2⟩=>by cases e <;> first|exact h2 F E M a w h1|exact⟨L,B,E,M,h1,h2⟩)
theorem Qnt{r:List It}(h:AK P n Q r L B):AK P n Q (.code .skip::r) L B:=λF E M a w hs=>wp_skip ⟨L,B,E,M,hs,h⟩
theorem Qnq{id:Nat}{r r':List It}(hr:SB id r=some r')(h:AK P n Q r' L B):AK P n Q (.code (.exit id)::r) L B:=λF E M a w hs=>wp_exit ⟨L,B,E,M,hs,by
 show(BP P n Q r).2 id L B;rw[A5 hr];exact h⟩
theorem nC{r:List It}(h:Q .ret L B):AK P n Q (.code .ret::r) L B:=λF E M a w hs=>wp_ret ⟨L,B,E,M,hs,h⟩
theorem Qfu{id:Nat}{c:Code}{r:List It}(h:AK P n Q (.code c::.blk id::r) L B):AK P n Q (.code (.block id c)::r) L B:=λF E M a w hs =>
 wp_block (wp_mono (h F E M a w hs) λe a w ⟨L,B,E,M,h1,h2⟩=>by
  cases e with
  |
   exit id' =>
   have h2:if id=id' then(BP P n Q r).1 L B else(BP P n Q r).2 id' L B:=h2
   simp only[Exit.inBlock]
   split
   ·rename_i e;rw[if_pos e.symm]at h2;exact⟨L,B,E,M,h1,h2⟩
   ·rename_i e;rw[if_neg (λe'=>e e'.symm)]at h2;exact⟨L,B,E,M,h1,h2⟩
  |_=>exact⟨L,B,E,M,h1,h2⟩)
theorem Qta{id:Nat}{arr:Array Oper}{r:List It}(h:AK P n Q (.ops arr arr.toList::r) L B):AK P n Q (.code (.region id arr false)::r) L B:=λF E M a w hs =>
 wp_region_list (iW (λa w L B E M h1 h2=>⟨L,B,E,M,h1,h2⟩) h hs)
theorem iZ{c:Operand}{x y:Code}{b:Bool}{r:List It}(hc:evT L c=some (.one (.bool b)))(ht:b=true->AK P n Q (.code x::r) L B)(hf:b=false->AK P n Q (.code y::r) L B):AK P n Q (.code (.cond c x y)::r) L B:=λF E M a w hs =>
 wp_cond_split (Lb (hs.evT hc)) (λe=>ht e F E M a w hs) λe=>hf e F E M a w hs
theorem AC.sub{c:Code}{L2:Sg}{B2:Ga}(h:Sub n L B L2 B2)(k:AC P n c Q L2 B2):AC P n c Q L B:=λF E M a w hs=>by
 obtain⟨E',M',h1⟩:=h F E M a w hs;exact k F E' M' a w h1
theorem W1.sub{arr:Array Oper}{o:Oper}{N:Kp}{L2:Sg}{B2:Ga}(h:Sub n L B L2 B2)(k:W1 P arr n o N L2 B2):W1 P arr n o N L B:=λF E M a w K Q hs hK=>by
 obtain⟨E',M',h1⟩:=h F E M a w hs;exact k F E' M' a w K Q h1 hK
def Mb:List It->Bool
 | .code _::_=>true
 | .ops _ (_::_)::_=>true
 | .ops _ []::r=>Mb r
 | .rnd _ _::_=>true
 | .blk _::r=>Mb r
 | .pst _::r=>Mb r
 | []=>false
theorem AK.sub{L2:Sg}{B2:Ga}(h:Sub n L B L2 B2):∀{it:List It},Mb it=true->AK P n Q it L2 B2->AK P n Q it L B
 | .code _::_,_,k=>AC.sub h k
 | .ops _ (_::_)::_,_,k=>W1.sub h k
 | .ops _ []::r,hs,k=>AK.sub (it:=r) h hs k
 |
  .rnd _ _::_,_,⟨L3,B3,h3,h4⟩=>⟨L3,B3,λF E M a w hk hs=>by
  obtain⟨E',M',h1⟩:=h F E M a w hs;exact h3 F E' M' a w hk h1,h4⟩
 | .blk _::r,hs,k=>AK.sub (it:=r) h hs k
 | .pst _::r,hs,k=>AK.sub (it:=r) h hs k
theorem Qxr{c:Code}{a:Act}{w:World}{Q:Exit->Act->World->Prop}(I:Nat->Act->World->Prop){m:Nat}(h0:I m a w)
 (round:∀m a w,I m a w->c.wp P (Exit.then (λa' w'=>∃m',m'<m/\I m' a' w') Q) a w):(Code.loop c).wp P Q a w:=by
 have key:∀m a w,I m a w->∀(b:Frame) (k:List Item) (cs:List Frame),
  ∃e a' w',Q e a' w'/\Arrives P (lone (b.at a (.code c::.inLoop c::k)) cs w) b k cs e a' w':=by
  intro m
  induction m using Nat.strongRecOn with
  |
   _ m ih =>
   intro a w hI b k cs;obtain⟨e,a₁,w₁,hq,harr⟩:=round m a w hI b (.inLoop c::k) cs;have past:∀e':Exit,e'≠.normal->Q e' a₁ w₁->Arrives P (lone (b.at a (.code c::.inLoop c::k)) cs w) b (.inLoop c::k) cs e' a₁ w₁ ->
    ∃e a' w',Q e a' w'/\Arrives P (lone (b.at a (.code c::.inLoop c::k)) cs w) b k cs e a' w':=λe' hne hq harr =>
    ⟨e',a₁,w₁,hq,.pass (x:=.inLoop c) rfl (λ_ _=>.inl hne) harr⟩
   cases e with
   |
    normal =>
    obtain⟨m',hlt,hI'⟩:=hq;obtain⟨e₂,a₂,w₂,hq₂,harr₂⟩:=ih m' hlt a₁ w₁ hI' b k cs;exact⟨e₂,a₂,w₂,hq₂,.of_steps (Steps.trans harr (.one step_inLoop)) harr₂⟩
   |exit id=>exact past _ (by simp) hq harr
   |goto l=>exact past _ (by simp) hq harr
   |ret=>exact past _ (by simp) hq harr
   |panic ch=>exact past _ (by simp) hq harr
   |outgrown=>exact past _ (by simp) hq harr
 intro b k cs;obtain⟨e,a',w',hq,harr⟩:=key m a w h0 b k cs;exact⟨e,a',w',hq,.of_steps (.one step_loop) harr⟩
theorem Qnr{c:Code}{r:List It}(I:Nat->Kp){m k:Nat}(hk:∀m L B,I m L B->B.length<=k)(h0:∃L2 B2,Sub n L B L2 B2/\I m L2 B2)(round:∀m L B,I m L B->AK P n Q (.code c::.rnd (some k) (λL B=>∃m',m'<m/\I m' L B)::r) L B):AK P n Q (.code (.loop c)::r) L B:=λF E M a w hs=>by
 obtain⟨L2,B2,h1,h2⟩:=h0;obtain⟨E',M',h3⟩:=h1 F E M a w hs;refine Qxr (λm a w=>∃L B E M,SA F n L B E M a w/\I m L B) (m:=m) ⟨L2,B2,E',M',h3,h2⟩ λm a w ⟨L,B,E,M,h1,h2⟩=>?_
 have hF:Fk (some k) F:=λi hi=>h1.hs.uj i (Qe (hk _ _ _ h2) hi)
 refine wp_mono (round m L B h2 F E M a w h1) λe a w ⟨L,B,E,M,h1,h2⟩=>?_
 cases e with
 |
  normal =>
  obtain⟨L3,B3,h3,m',h4,h5⟩:=h2;obtain⟨E',M',h6⟩:=h3 F E M a w hF h1;exact⟨m',h4,L3,B3,E',M',h6,h5⟩
 |_=>exact⟨L,B,E,M,h1,h2⟩
def Imp(p q:Kp×(Nat->Kp)):Prop:=(∀L B,p.1 L B->q.1 L B)/\∀i L B,p.2 i L B->q.2 i L B
theorem Qpu{p q:Kp×(Nat->Kp)}(h:Imp p q):∀e L B,mkQ Q p e L B->mkQ Q q e L B:=λe L B hq=>by
 cases e with
 |normal=>exact h.1 _ _ hq
 |exit id=>exact h.2 _ _ _ hq
 |_=>exact hq
theorem KH{I:Kp}{r:List It}(hy:∀L B,Wk n none I L B->AK P n Q r L B):∀pre:List It,Imp (BP P n Q (pre++.rnd none I::r)) (BP P n Q (pre++r))
 | []=>⟨hy,λ_ _ _ h=>h⟩
 |
  .code c::q=>by
  have ih:=KH hy q;exact⟨λL B h=>Qns h (Qpu ih),ih.2⟩
 |
  .ops a l::q=>by
  have ih:=KH hy q;exact⟨λL B h=>AW.mono ih.1 h,ih.2⟩
 | .pst _::q=>KH hy q
 |
  .blk i::q=>by
  have ih:=KH hy q;refine⟨ih.1,λid L B h=>?_⟩;simp only[Xa,BP]at h ⊢
  split at h
  ·rename_i e;rw[if_pos e];exact ih.1 _ _ h
  ·rename_i e;rw[if_neg e];exact ih.2 _ _ _ h
 |
  .rnd k N::q=>by
  have ih:=KH hy q;exact⟨λL B h=>h,ih.2⟩
theorem Qxm(j:Nat){it:List It}(I:Kp)(hx:AK P n Q (it.take j++.rnd none I::it.drop j) L B)(hs:Mb (it.drop j)=true)(hy:∀L B,I L B->AK P n Q (it.drop j) L B):AK P n Q it L B:=by
 have:=(KH (P:=P) (n:=n) (Q:=Q) (I:=I) (r:=it.drop j) (λL B ⟨L2,B2,h1,h2⟩=>AK.sub (λF E M a w hs=>h1 F E M a w trivial hs) hs (hy _ _ h2)) (it.take j)).1 L B hx;rw[Zh]at this;exact this
def WL:Nat->Gb->Sg
 |_,[]=>[]
 |i,x::xs=>(i,.v x)::WL (i+1) xs
theorem iK{w:World}{M:Nat->Prop}{E:Lf}:∀{vs:List Value} {us:Gb} (i:Nat),F2 (TRep w M E) vs us->∀t x,lk (WL i us) t=some x->i<=t/\∃v,vs[t-i]? = some v/\ARep w M E v x
 |_,_,i,.nil,t,x,h=>by simp[WL,lk]at h
 |
  v::vs,u::us,i,.cons h0 hr,t,x,h=>by
  simp only[WL,lk]at h
  split at h
  ·rename_i e;obtain rfl:=Qu e;injection h with h;subst h;exact⟨Qn _,v,by simp,h0⟩
  ·rename_i e;have e:=Kc e;obtain⟨h1,v',h2,h3⟩:=iK (i+1) hr t x h;refine⟨by omega,v',?_,h3⟩;rw[show t-i=(t-(i+1))+1 from by omega,Yt];exact h2
def RQ(P:Program)(fn:Func)(n k:Nat)(Post:Gb->Ga->Prop)(e:Exit)(L:Sg)(B:Ga):Prop :=
 (e=.ret\/e=.normal)/\∀F E M a w,SA F n L B E M a w->(∀i,k<=i->¬F.J i)->∃r u Bo E' M',(results fn a.tmps).run P w=.ok r w/\Post u Bo/\k<=Bo.length/\HS F (ob Bo) (nw Bo) E' M' w/\ARep w M' E' r (TL u)
theorem fn_{f:FuncId}{fn:Func}{c:Code}{args:Gb}{Bin:Ga}{Post:Gb->Ga->Prop}(hf:P.funcs[f]? = some fn)(hb:fn.body=some c)(hn:fn.ntmps=n)(hl:Nat.ble args.length n=true)
 (h:AK P n (RQ P fn n Bin.length Post) [.code c] (WL 0 args) Bin):Qrx P f args Bin Post:=by
 intro F E M w vs hs hargs;have hl:=Zm hl;have hvl:=hargs.len;refine calls_of_wp hf hb ?_;have hsa:SA F n (WL 0 args) Bin E M ⟨vs.toArray++Array.replicate (fn.ntmps-vs.toArray.size) undef,[]⟩ w:=by
  refine⟨hs,by simp[hn];omega,rfl,λt x hx=>?_⟩;obtain⟨_,v,h1,h2⟩:=iK 0 hargs t x hx;refine⟨v,?_,h2⟩;have ht:t<vs.length:=by have:=(Qd.1 h1).1;simpa using this
  rw[Array.getElem?_append_left (by simpa using ht)];simpa using h1
 have huj:∀i,Bin.length<=i->¬F.J i:=λi hi=>hs.uj i hi
 refine wp_mono (h F E M _ w hsa) λe a w ⟨L,B,E,M,h1,h2⟩=>?_
 have key:RQ P fn n Bin.length Post e L B:=by cases e <;> exact h2
 obtain⟨he,h3⟩:=key;obtain⟨r,u,Bo,E',M',h4,h5,h6,h7,h8⟩:=h3 F E M a w h1 huj;have:bodyPost P fn (λe w'=>∃r u Bo E' M',e=.returned r/\Post u Bo/\Bin.length<=Bo.length/\HS F (ob Bo) (nw Bo) E' M' w'/\ARep w' M' E' r (TL u)) .ret a w:=⟨h1.defers,r,h4,r,u,Bo,E',M',rfl,h5,h6,h7,h8⟩;rcases he with rfl|rfl <;> exact this
end Orr
namespace Orr
open Go
variable{P:Program}{n:Nat}{L L':Sg}{B B':Ga}{Q:Exit->Sg->Ga->Prop}
def Qup:Ga->Bool
 | []=>true
 |_=>false
theorem Qba{B:Ga}(h:Qup B=true):B=[]:=by cases B <;> first|rfl|cases h
def avF:Gb->Option AV
 | [t]=>some (.v t)
 |l=>some (.tup l)
theorem Qga{l:Gb}{u:AV}(h:avF l=some u):TL l=u:=by
 match l with
 | [t]=>injection h
 | []=>injection h
 |_::_::_=>injection h
def Qsd(L:Sg)(B:Ga)(h:List (H P))(d f:Nat)(ys:Gb):St P:=match h with
 |
  .c (f:=f') (args:=args) (Bin:=Bin) (res:=res) (Bout:=Bout) _ _::h=>match Qup Bin && Qup Bout,O2 ys && O2 res with
  |
   true,true=>match fF ys args with
   |
    some q=>match avF res with
    |some u=>some ((d,u)::L,B,h,(.n f,.n f')::q,[])
    |none=>none
   |none=>none
  |_,_=>none
 |_=>none
def Qkj:Fy->Option Nat
 | []=>none
 | .ow i _::_=>some i
 | .orow i _ _::_=>some i
 |
  .ofn _ a b::l=>match YQ a,YQ b with
  |i::_,_=>some i
  | [],i::_=>some i
  | [],[]=>Qkj l
 |_::l=>Qkj l
def Qqa:Gb->Option Nat
 | []=>none
 |
  .one x::l=>match Qkj [x]with
  |some i=>some i
  |none=>Qqa l
 |
  .agg xs::l=>match Qkj xs with
  |some i=>some i
  |none=>Qqa l
def dig(B:Ga):Nat->Nat->Nat
 | 0,i=>i
 |
  f+1,i=>match Ou B i with
  |
   some (.blk _ xs)=>match Qkj xs with
   |some j=>dig B f j
   |none=>i
  |_=>i
theorem CM{i:Nat}(h:wL L B i=some (L',B')):Sub n L B L' B':=λ_ E _ _ _ hs=>by
 obtain⟨M',h1⟩:=hs.pub h;exact⟨E,M',h1⟩
def Qk2(
 d:Nat) (L:Sg) (B:Ga):List (H P)->Option (Sg×Ga×List (H P)×Li)
  |
   .r d' (u:=u) (v:=v) _::h=>match Nat.beq d d' with
   |
    true=>match lk L d with
    |some (.v t)=>some ((d,.v v)::L,B,h,[(.t t,.t u)])
    |_=>none
   |false=>none
  |
   .z d'::h=>match Nat.beq d d' with
   |
    true=>match lk L d with
    |
     some (.v t)=>match nV Qp1 t with
     |some u=>some ((d,.v u)::L,B,h,[])
     |none=>none
    |_=>none
   |false=>none
  |
   .g d' v (b:=b') _::h=>match Nat.beq d d' with
   |
    true=>match lk L d with
    |some (.v (.one (.bool b)))=>some ((d,.cnd true (.one (.bool v)))::L,B,h,[(.t (.one (.bool b)),.t (.one (.bool b')))])
    |_=>none
   |false=>none
  |
   .o d' T sz::h=>match Nat.beq d d',Nat.blt 0 sz with
   |
    true,true=>match lk L d with
    |
     some (.v (.one .nils))=>match lenB B,XJ B (.row false T sz [])with
     |some i,some B'=>some ((d,.v (.one (.orow i sz none)))::L,B',h,[])
     |_,_=>none
    |_=>none
   |_,_=>none
  |
   .oc d' off T sz::h=>match Nat.beq d d',Nat.blt 0 sz with
   |
    true,true=>match lk L d with
    |
     some (.v (.one (.ow j 0)))=>match Ou B j with
     |
      some (.blk T' xs)=>match mE xs off 1 with
      |
       some [.nils]=>match lenB B with
       |
        some i=>match TW xs off [.orow i sz none]with
        |
         some r=>match I8 B j (.blk T' r)with
         |
          some B1=>match XJ B1 (.row false T sz [])with
          |some B'=>some (L,B',h,[])
          |none=>none
         |none=>none
        |none=>none
       |none=>none
      |_=>none
     |_=>none
    |_=>none
   |_,_=>none
  |_=>none
theorem SA.same{F:Fr}{E:Lf}{M:Nat->Prop}{a:Act}{w:World}(h:SA F n L B E M a w){d:Nat}{u v:AV}(hd:lk L d=some u)(hv:∀x,ARep w M E x u->ARep w M E x v):SA F n ((d,v)::L) B E M a w :=
 ⟨h.hs,h.size,h.defers,λt x hx=>by
  simp only[lk]at hx
  split at hx
  ·rename_i e;obtain rfl:=Qu e;injection hx with hx;subst hx;obtain⟨y,h1,h2⟩:=h.slots t u hd;exact⟨y,h1,hv y h2⟩
  ·exact h.slots t x hx⟩
theorem eQ{d:Nat}{h h':List (H P)}{q:Li}(hp:Qk2 d L B h=some (L',B',h',q))(hq:EqOk q):Sub n L B L' B':=by
 unfold Qk2 at hp
 split at hp
 ·rename_i d' u v huv h2
  split at hp
  ·split at hp
   ·rename_i t ht;obtain⟨rfl,rfl,rfl,rfl⟩:=Re hp;have e:=hq.hd;injection e with e;subst e;subst huv;exact λF E M a w hs=>⟨E,M,hs.same ht λ_ h=>h⟩
   ·cases hp
  ·cases hp
 ·rename_i d' h2
  split at hp
  ·split at hp
   ·rename_i ht
    split at hp
    ·rename_i hu;obtain⟨rfl,rfl,rfl,rfl⟩:=Re hp;exact λF E M a w hs=>⟨E,M,hs.same ht λ_ h=>nJ Qby hu h⟩
    ·cases hp
   ·cases hp
  ·cases hp
 ·rename_i d' v b' hb h2
  split at hp
  ·split at hp
   ·rename_i b ht;obtain⟨rfl,rfl,rfl,rfl⟩:=Re hp;have e:=hq.hd;injection e with e;injection e with e;injection e with e;subst e;subst hb;exact λF E M a w hs=>⟨E,M,hs.same ht λ_ h=>⟨λ_=>h,λe=>by cases e⟩⟩
   ·cases hp
  ·cases hp
 ·rename_i d' T sz h2
  split at hp
  ·rename_i e h0;rw[Jp]at h0
   split at hp
   ·rename_i ht
    split at hp
    ·rename_i i B2 hi hB;obtain⟨rfl,rfl,rfl,rfl⟩:=Re hp;obtain rfl:=Ca hi;obtain rfl:=Db hB;intro F E M a w hs;obtain⟨E',M',h1,h3⟩:=hs.ownNil (T:=T) h0;exact⟨E',M',h1.same ht λx hx=>⟨none,0,h3,by simp,by cases (show LRep _ _ _ .nils from hx);exact⟨rfl,rfl,rfl⟩⟩⟩
    ·cases hp
   ·cases hp
  ·cases hp
 ·rename_i d' off T sz h2
  split at hp
  ·rename_i e h0;rw[Jp]at h0
   split at hp
   ·rename_i j ht
    split at hp
    ·rename_i T' xs hb
     split at hp
     ·rename_i hnil
      split at hp
      ·rename_i i hi
       split at hp
       ·rename_i r hr
        split at hp
        ·rename_i B1 hB1
         split at hp
         ·rename_i B2 hB;obtain⟨rfl,rfl,rfl,rfl⟩:=Re hp;obtain rfl:=Ca hi;obtain rfl:=Db hB;obtain⟨rfl,hjl⟩:=Ea hB1;intro F E M a w hs;obtain⟨E',M',h1,h3⟩:=hs.ownNil (T:=T) h0;refine⟨E',M',?_⟩;have hbj:(B++[OB.row false T sz []])[j]? = some (.blk T' xs):=by rw[Q3 hjl,<-Nc];exact hb
          have e1:B.set j (.blk T' r)++[OB.row false T sz []]=(B++[OB.row false T sz []]).set j (.blk T' r):=by rw[List.set_append_left _ _ hjl]
          obtain⟨g,c,m,e2,cs,h4,h5⟩:=h1.blk (Nc ▸ hbj);obtain⟨rfl,hle⟩:=JG hr;obtain⟨h6,h7⟩:=WV hnil;rw[e1];refine⟨?_,h1.size,h1.defers,h1.slots⟩;have hn:nw ((B++[OB.row false T sz []]).set j (.blk T' (upd xs off [.orow B.length sz none])))=nw (B++[OB.row false T sz []]):=PD;rw[hn,UA hbj];refine h1.hs.re (λi=>?_) (λi=>?_) (λi=>?_) λi hi=>?_
          ·by_cases ei:i=j
           ·subst ei;rw[G7];refine⟨g,c,m,e2,cs,h4,F2.of (by rw[UD];exact h5.len) λk v x hv hx=>?_⟩;have hol:off<xs.length:=by omega
            have hx0:xs[off]? = some .nils:=by
             have:((xs.drop off).take 1)[0]? = some .nils:=by rw[<-h6];rfl
             rw[Jv]at this;simpa using this
            rw[upd_one]at hx;rw[Jz]at hx
            split at hx
            ·rename_i ek;subst ek;simp[hol]at hx;subst hx;have:=h5.get' hv hx0;exact⟨none,0,h3,by simp,by cases (show LRep _ _ _ .nils from this);exact⟨rfl,rfl,rfl⟩⟩
            ·exact h5.get' hv hx
           ·rw[H6 _ _ ei];exact h1.hs.blk i
          ·by_cases ei:i=j
           ·subst ei;rw[G7,P5 hbj];rfl
           ·rw[H6 _ _ ei]
          ·by_cases ei:i=j
           ·subst ei;rw[G7,P5 hbj];rfl
           ·rw[H6 _ _ ei]
          ·by_cases ei:i=j
           ·subst ei;rw[P5 hbj]at hi;cases hi
           ·rw[H6 _ _ ei];exact hi
         ·cases hp
        ·cases hp
       ·cases hp
      ·cases hp
     ·cases hp
    ·cases hp
   ·cases hp
  ·cases hp
 ·cases hp
where upd_one {α:Type}:∀{xs:List α} {k:Nat} {x:α},upd xs k [x]=xs.set k x
 | [],k,x=>by cases k <;> rfl
 |y::xs,0,x=>by simp[upd,A3]
 |y::xs,k+1,x=>by simp only[upd,Wi];rw[upd_one]
end Orr
namespace Orr
open Go
def Bf(i:Nat):Fv->Bool
 | []=>false
 |
  j::l=>match Nat.beq i j with
  |true=>true
  |false=>Bf i l
theorem Px{i:Nat}:∀{l:Fv},Bf i l=true↔i∈l
 | []=>by simp[Bf]
 |
  j::l=>by
  simp only[Bf]
  split
  ·rename_i e;simp[Nat.eq_of_beq_eq_true e]
  ·rename_i e;rw[Px];simp[Nat.ne_of_beq_eq_false e]
def An{α:Type}(f:α->Bool):List α->Bool
 | []=>true
 |
  x::l=>match f x with
  |true=>An f l
  |false=>false
theorem Mk{α:Type}{f:α->Bool}:∀{l:List α},An f l=true->∀x∈l,f x=true
 | [],_,_,h=>by cases h
 |
  y::l,h,x,hx=>by
  simp only[An]at h
  split at h
  ·rename_i e;rcases Qj.1 hx with rfl|hx
   ·exact e
   ·exact Mk h x hx
  ·cases h
section
variable{F:Fr}{E:Lf}{M:Nat->Prop}{w:World}
def XU:OB->OB
 | .row _ T sz ls=>.row true T sz ls
 |b=>b
def flO:OB->OB->OB
 | .row f _ _ _,.row _ T sz ls=>.row f T sz ls
 |_,b=>b
theorem Qa5{i:Nat}{b c:OB}(h:XU b=XU c)(hr:OBRep w M E i b):OBRep w M E i c:=by
 cases b <;> cases c <;> simp only[XU,OB.row.injEq,OB.blk.injEq,OB.mpb.injEq,reduceCtorEq]at h
 ·trivial
 ·obtain⟨rfl,rfl⟩:=h;exact hr
 ·obtain⟨_,rfl,rfl,rfl⟩:=h;exact hr
 ·subst h;exact hr
theorem PQ{b c:OB}(h:XU b=XU c):b.lv=c.lv:=by
 cases b <;> cases c <;> simp only[XU,reduceCtorEq]at h <;> rfl
theorem dK(b c:OB):XU (flO b c)=XU c:=by cases b <;> cases c <;> rfl
theorem HS.flag{bl bl':Nat->OB}{U:Nat->Prop}(h:HS F bl U E M w)(h1:∀i,XU (bl i)=XU (bl' i))(h2:∀i,(bl' i).mv=true->¬F.J i):HS F bl' U E M w :=
 {h with
  nj:=h2
  blk:=λi=>Qa5 (h1 i) (h.blk i)
  nk:=λi g c m hi=>h.nk i g c m (by rw[PQ (h1 i)];exact hi)
  inj:=λi j g c m c' m' hi hj=>h.inj i j g c m c' m' (by rw[PQ (h1 i)];exact hi) (by rw[PQ (h1 j)];exact hj)
  un:=λi hi=>⟨(h.un i hi).1,by
   have:=h1 i;rw[(h.un i hi).2]at this;cases hb:bl' i <;> rw[hb]at this <;> simp only[XU,reduceCtorEq]at this⟩ }
end
variable{P:Program}{n:Nat}{L L':Sg}{B B':Ga}{Q:Exit->Sg->Ga->Prop}
theorem W1.callD{arr:Array Oper}{o:Oper}{N:Kp}{f d:Nat}{xs:Array Operand}{pre post:Fy}{us ys args res:Gb}{Bin Bout B1 B2:Ga}{L1:Sg}{ρ:Nat->Nat}
 (hc:Cf P f args Bin res Bout) (hce:Cee P n o xs.toList f pre post L B) (hg:o.guard=none) (hd:o.dst=some d) (hdn:Nat.blt d n=true) (hxs:evTs L xs.toList=some us)
 (hys:Ir (nI pre us post)=some ys) (he:ys=args.map (BR ρ)) (hrho:∀i j,ρ i=ρ j->i=j) (hai:∀t∈args,∀i∈t.ids,i<Bin.length) (hbi:∀j,∀i∈(ob Bin j).ids,i<Bin.length) (hlv:∀j,j<Bin.length->(ob Bin j).lv=true)
 (hlt:∀j,j<Bin.length->ρ j<B.length) (hnw:∀j,Bin.length<=j->j<Bout.length->ρ j=B.length+(j-Bin.length)) (hio:Bin.length<=Bout.length)
 (hk1:∀F E M a w,SA F n L B E M a w->SA F n L1 B1 E M a w) (hB1:B1.length=B.length)
 (hks:∀j,(ob Bin j).mv=true->(∀t x,lk L1 t=some x->ρ j∉x.ids)/\∀i,(∀k,k<Bin.length->ρ k≠i)->ρ j∉(ob B1 i).ids)
 (hfx:∀j,j<Bin.length->XU (ob B1 (ρ j))=XU (I6 ρ (ob Bin j))/\((ob Bin j).mv=true->(ob B1 (ρ j)).mv=true))
 (hB2a:∀j,j<Bout.length->XU (ob B2 (ρ j))=XU (I6 ρ (ob Bout j))/\(j<Bin.length->(ob B2 (ρ j)).mv=true->(ob B1 (ρ j)).mv=true))
 (hB2b:∀i,i<B.length->(∀j,j<Bin.length->ρ j≠i)->ob B2 i=ob B1 i) (hB2l:B2.length=B.length+(Bout.length-Bin.length))
 (k:N ((d,TL (res.map (BR ρ)))::L1) B2):W1 P arr n o N L B:=by
 intro F E M a w K Q h0 hK;subst he;obtain⟨vs,us',hv,h1,h2⟩:=hce F E M a w h0;have hargs:F2 (TRep w M E) (vs++xs.toList.map a.eval++us') (args.map (BR ρ)):=ZZ hys (by rw[iY];exact(h1.ones.append (h0.evTs hxs)).append h2.ones);have h:=hk1 _ _ _ _ _ h0;have hnwB:nw B1=nw B:=by funext i;simp only[nw,hB1]
 let E0:Lf:=λj=>if j<Bin.length then E (ρ j)else none
 have hE0:∀j,j<Bin.length->E0 j=E (ρ j):=λj hj=>if_pos hj
 let blx:Nat->OB:=λi=>open Classical in if hh:∃j,j<Bin.length/\ρ j=i then I6 ρ (ob Bin hh.choose)else ob B1 i
 have hx1:∀j,j<Bin.length->blx (ρ j)=I6 ρ (ob Bin j):=λj hj=>by
  have hh:∃j',j'<Bin.length/\ρ j'=ρ j:=⟨j,hj,rfl⟩;simp only[blx];rw[dif_pos hh,hrho _ _ hh.choose_spec.2]
 have hx2:∀i,(∀j,j<Bin.length->ρ j≠i)->blx i=ob B1 i:=λi hi=>by
  simp only[blx];rw[dif_neg λ⟨j,h1,h2⟩=>hi j h1 h2]
 have hcase:∀i,(∃j,j<Bin.length/\ρ j=i)\/∀j,j<Bin.length->ρ j≠i:=λi=>by
  by_cases hh:∃j,j<Bin.length/\ρ j=i
  ·exact .inl hh
  ·exact .inr λj h1 h2=>hh ⟨j,h1,h2⟩
 have hsx:HS F blx (nw B1) E M w:=by
  refine h.hs.flag (λi=>?_) λi hi=>?_
  ·rcases hcase i with⟨j,hj,rfl⟩|hn
   ·rw[hx1 j hj];exact(hfx j hj).1
   ·rw[hx2 i hn]
  ·rcases hcase i with⟨j,hj,rfl⟩|hn
   ·rw[hx1 j hj,(Cd _).2]at hi;exact h.hs.nj _ ((hfx j hj).2 hi)
   ·rw[hx2 i hn]at hi;exact h.hs.nj i hi
 have hlv':∀j,(ob Bin j).lv=true->j<Bin.length:=λj hj=>by
  apply Classical.byContradiction;intro hn;rw[Sx (by omega)]at hj;cases hj
 have CY:HS (prt (ob Bin) (nw Bin) E0 M w) (ob Bin) (nw Bin) E0 M w:=hsx.sub (ρ:=ρ) (λj hj=>hx1 j (hlv' j hj)) hrho (λj hj=>Sx hj) (λj hj=>if_neg (by simpa[nw]using hj)) (λj hj=>hE0 j (by simpa[nw]using hj)) λj i hi=>by have:=hbi j i hi;simp only[nw];omega
 have hargs0:F2 (TRep w M E0) (vs++xs.toList.map a.eval++us') args:=F2.of (by rw[hargs.len];simp) λj v t hv ht=>by
  have:=hargs.get' (b:=BR ρ t) hv (by simp[ht]);exact this.to λi hi _=>hE0 i (hai t (Qa ht) i hi)
 refine mL hg (hv hc.1) (R:=λr w'=>∃E' M',HS (prt (ob Bin) (nw Bin) E0 M w) (ob Bout) (nw Bout) E' M' w'/\ARep w' M' E' r (TL res)) ((hc.2 _ _ _ _ _ CY hargs0).mono λe w' hr=>?_) λr w' ⟨E',M',hs1,hr⟩=>?_
 ·obtain⟨r,u,Bo,E',M',e1,⟨rfl,rfl⟩,_,hs1,hr⟩:=hr;exact⟨r,e1,E',M',hs1,hr⟩
 ·have hcas2:∀i,(∃j,j<Bout.length/\ρ j=i)\/∀j,j<Bout.length->ρ j≠i:=λi=>by
   by_cases hh:∃j,j<Bout.length/\ρ j=i
   ·exact .inl hh
   ·exact .inr λj h1 h2=>hh ⟨j,h1,h2⟩
  let E2:Lf:=λi=>open Classical in if hh:∃j,j<Bout.length/\ρ j=i then E' hh.choose else E i
  let bl2:Nat->OB:=λi=>open Classical in if hh:∃j,j<Bout.length/\ρ j=i then I6 ρ (ob Bout hh.choose)else blx i
  have hE2:∀j,j<Bout.length->E2 (ρ j)=E' j/\bl2 (ρ j)=I6 ρ (ob Bout j):=λj hj=>by
   have hh:∃j',j'<Bout.length/\ρ j'=ρ j:=⟨j,hj,rfl⟩;have:=hrho _ _ hh.choose_spec.2;simp only[E2,bl2];rw[dif_pos hh,dif_pos hh,this];exact⟨rfl,rfl⟩
  have hE2n:∀i,(∀j,j<Bout.length->ρ j≠i)->E2 i=E i/\bl2 i=blx i:=λi hi=>by
   simp only[E2,bl2];rw[dif_neg λ⟨j,h1,h2⟩=>hi j h1 h2,dif_neg λ⟨j,h1,h2⟩=>hi j h1 h2];exact⟨rfl,rfl⟩
  have kb:Back blx (ob Bin) (ob Bout) bl2 (nw B1) (nw Bin) (nw Bout) (nw B2) E E0 E' E2 ρ λj=>j<Bout.length:={
   inj:=hrho
   hb:=λj hj=>hx1 j (hlv' j hj)
   e':=λj hj=>hE0 j (by simpa[nw]using hj)
   a0:=λj hj=>by have:=hlv' j hj;exact⟨X7 this hio,by simp only[nw];omega⟩
   a1:=λj hj=>by
    rcases Q8 j Bin.length with h|h
    ·exact .inl (hlv j h)
    ·refine .inr ⟨h,?_⟩;rw[hnw j h hj,hnwB];simp only[nw];omega
   a2:=λj h1 h2=>by simpa[nw]using h2
   hit:=hE2
   no:=hE2n
   u2:=λi hi=>by
    simp only[nw,hB2l]at hi;refine⟨by rw[hnwB];simp only[nw];omega,λj hj e=>?_⟩;rcases Q8 j Bin.length with h|h
    ·have:=hlt j h;omega
    ·have:=hnw j h hj;omega
   mv:=λj hj i hi hm=>by
    have hi':∀k,k<Bin.length->ρ k≠i:=λk hk=>hi k (X7 hk hio)
    rw[hx2 i hi']at hm;exact(hks j hj).2 i hi' hm }
  have hs2:=HS.back kb hsx hs1;have hle:=BM kb hsx hs1;have hs3:HS F (ob B2) (nw B2) E2 M' w':=by
   refine hs2.flag (λi=>?_) λi hi=>?_
   ·rcases hcas2 i with⟨j,hj,rfl⟩|hn
    ·rw[(hE2 j hj).2];exact(hB2a j hj).1.symm
    ·have hn':∀k,k<Bin.length->ρ k≠i:=λk hk=>hn k (X7 hk hio)
     rw[(hE2n i hn).2,hx2 i hn'];rcases Q8 i B.length with h|h
     ·rw[hB2b i h hn']
     ·have:B2.length<=i:=by
       apply Classical.byContradiction;intro h3;refine hn (Bin.length+(i-B.length)) (by omega) ?_;rw[hnw _ (by omega) (by omega)];omega
      rw[Sx this,Sx (by omega)]
   ·rcases hcas2 i with⟨j,hj,rfl⟩|hn
    ·rcases Q8 j Bin.length with h3|h3
     ·exact h.hs.nj _ ((hB2a j hj).2 h3 hi)
     ·exact h0.hs.uj _ (by rw[hnw j h3 hj];simp only[nw];omega)
    ·have hn':∀k,k<Bin.length->ρ k≠i:=λk hk=>hn k (X7 hk hio)
     rcases Q8 i B.length with h3|h3
     ·rw[hB2b i h3 hn']at hi;exact h.hs.nj i hi
     ·exact h0.hs.uj i h3
  have hr2:ARep w' M' E2 r (TL (res.map (BR ρ))):=by
   have one:∀v t,TRep w' M' E' v t->TRep w' M' E2 v (BR ρ t):=λv t h=>h.un λi _ hi=>DT kb hsx hs1 hi
   match res,hr with
   | [t],hr=>exact one r t hr
   | [],⟨vs,e,hr⟩=>exact⟨vs,e,by cases hr;exact .nil⟩
   |
    t::t'::l,⟨vs,e,hr⟩ =>
    have key:∀(l:Gb) (vs:List Value),F2 (TRep w' M' E') vs l->F2 (TRep w' M' E2) vs (l.map (BR ρ)):=λl vs hr=>by
     induction hr with
     |nil=>exact .nil
     |cons h0 _ ih=>exact .cons (one _ _ h0) ih
    exact⟨vs,e,key _ _ hr⟩
  exact hd ▸ hK _ _ _ _ _ _ (SA.put ⟨hs3,h.size,h.defers,λt x hx=>by
   obtain⟨v,h3,h4⟩:=h.slots t x hx;refine⟨v,h3,h4.keep hle λi hi hne=>TE kb hsx hs1 hne λj hj e=>?_⟩;subst e;exact(hks j hj).1 t x hx hi⟩ hdn hr2) k
end Orr
