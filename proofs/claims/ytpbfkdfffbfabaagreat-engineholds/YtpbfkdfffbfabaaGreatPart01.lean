import Derived.Test.YtpbfkdfffbfabaaGreatPart00
set_option linter.all false
namespace Orr
open Go
variable{P:Program}{arr:Array Oper}{n:Nat}{o:Oper}{N:Sg->Fg->Prop}{L L':Sg}{B B':Fg}{F:Fr}{E E':Li}{M M':Nat->Prop}{a:Act}{w w':World}
theorem HS.re{bl bl':Nat->OB}{U:Nat->Prop}(h:HS F bl U E M w)(h1:∀i,OBRep w M E i (bl' i))(h2:∀i,(bl' i).lv=(bl i).lv)(h3:∀i,(bl' i).mv=(bl i).mv)(h4:∀i,bl i=.gone->bl' i=.gone):HS F bl' U E M w :=
 {h with
  nj:=λi hi=>h.nj i (by rw[<-h3];exact hi)
  blk:=h1
  nk:=λi g c m hi=>h.nk i g c m (by rw[<-h2];exact hi)
  inj:=λi j g c m c' m' hi b=>h.inj i j g c m c' m' (by rw[<-h2];exact hi) (by rw[<-h2];exact b)
  un:=λi hi=>⟨(h.un i hi).1,h4 i (h.un i hi).2⟩ }
theorem O5{α β:Type}{f:α->Option β}:∀{l:List α} {r:List β},Mb f l=some r->r.length=l.length/\∀(i:Nat) (y:β),r[i]? = some y->∃x,l[i]? = some x/\f x=some y
 | [],r,h=>by simp[Mb]at h;subst h;exact⟨rfl,λi y h=>by simp at h⟩
 |
  x::l,r,h=>by
  simp only[Mb]at h
  split at h
  .rename_i y c
   split at h
   .rename_i q b;injection h with h;subst h;obtain⟨h1,h2⟩:=O5 b;refine⟨by simp[h1],λi z hz=>?_⟩;cases i with
    |zero=>simp at hz;subst hz;exact⟨x,rfl,c⟩
    |succ i=>simpa using h2 i z (by simpa using hz)
   .cases h
  .cases h
variable{f:LV->Option LV}
theorem GA{b b':OB}(h:KA f b=some b'):b'.lv=b.lv/\b'.mv=b.mv/\(b=.gone->b'=.gone):=by
 cases b with
 |
  blk T xs =>
  simp only[KA]at h
  split at h
  .injection h with h;subst h;exact⟨rfl,rfl,λh=>by cases h⟩
  .cases h
 |_=>simp only[KA,Option.some.injEq]at h;subst h;exact⟨rfl,rfl,id⟩
variable{i:Nat}
theorem hQ{b b':OB}(ht:Turn w M E w M E f)(h:KA f b=some b')(hr:OBRep w M E i b):OBRep w M E i b':=by
 cases b with
 |
  blk T xs =>
  simp only[KA]at h
  split at h
  .rename_i r d;injection h with h;subst h;obtain⟨g,c,m,e,cs,h1,h2⟩:=hr;exact⟨g,c,m,e,cs,h1,Qqm ht d h2⟩
  .cases h
 |_=>simp only[KA,Option.some.injEq]at h;subst h;exact hr
theorem gZ{f:OB->Option OB}(h:Mb f B=some B')(i:Nat):(B'.length<=i/\B.length<=i)\/f (ob B i)=some (ob B' i):=by
 obtain⟨h1,h2⟩:=O5 h;rcases Q7 i B'.length with hi|hi
 .obtain⟨x,h3,h4⟩:=h2 i _ (Qf hi);exact .inr (by rw[Pa h3,h4,Pa (Qf hi)])
 .exact .inl ⟨hi,Fo⟩
theorem SA.turn(h:SA F n L B E M a w)(ht:Turn w M E w M E f)(d:sF f L=some L')(c:Mb (KA f) B=some B'):SA F n L' B' E M a w:=by
 have b:=(O5 c).1;have hg:∀i,ob B' i=.gone/\ob B i=.gone\/KA f (ob B i)=some (ob B' i):=λi=>(gZ c i).imp (λ⟨h1,h2⟩=>⟨Sj h1,Sj h2⟩) id
 have hn:nw B'=nw B:=by funext i;simp only[nw,b]
 refine⟨?_,h.size,h.defers,Qye ht d h.slots⟩;rw[hn];refine h.hs.re (λi=>?_) (λi=>?_) (λi=>?_) λi hi=>?_
 .rcases hg i with⟨e,_⟩|e
  .rw[e];trivial
  .exact hQ ht e (h.hs.blk i)
 .rcases hg i with⟨e,e'⟩|e
  .rw[e,e']
  .exact(GA e).1
 .rcases hg i with⟨e,e'⟩|e
  .rw[e,e']
  .exact(GA e).2.1
 .rcases hg i with⟨e,e'⟩|e
  .exact e
  .exact(GA e).2.2 hi
theorem nH:Turn w M E w M E (Ap i):=by
 intro v x y h hr;have b:XRep w M E v .any:=LRep.any v hr.one;cases x <;> simp only[Ap]at h
 case ow j p=>split at h <;> (injection h with h;subst h) <;> assumption
 case orow j p=>split at h <;> (injection h with h;subst h) <;> assumption
 case oel j p=>split at h <;> (injection h with h;subst h) <;> assumption
 case omap j=>split at h <;> (injection h with h;subst h) <;> assumption
 case oif t j p=>split at h <;> (injection h with h;subst h) <;> assumption
 case ofn f p q=>split at h <;> (injection h with h;subst h) <;> assumption
 all_goals (injection h with h;subst h;exact hr)
theorem MA{x y:LV}(h:Ap i x=some y):i∉y.ids:=by
 cases x <;> simp only[Ap]at h
 case ow j p=>split at h <;> (injection h with h;subst h) <;> rename_i e <;> simp[LV.ids];exact Nat.ne_of_beq_eq_false e
 case orow j p=>split at h <;> (injection h with h;subst h) <;> rename_i e <;> simp[LV.ids];exact Nat.ne_of_beq_eq_false e
 case oel j p=>split at h <;> (injection h with h;subst h) <;> rename_i e <;> simp[LV.ids];exact Nat.ne_of_beq_eq_false e
 case omap j=>split at h <;> (injection h with h;subst h) <;> rename_i e <;> simp[LV.ids];exact Nat.ne_of_beq_eq_false e
 case oif t j p=>split at h <;> (injection h with h;subst h) <;> rename_i e <;> simp[LV.ids];exact Nat.ne_of_beq_eq_false e
 case ofn f p q =>
  split at h <;> (injection h with h;subst h) <;> rename_i e <;> simp[LV.ids]
  simpa using e
 all_goals (injection h with h;subst h;simp[LV.ids])
theorem TA(c:∀x y,f x=some y->i∉y.ids):∀{xs r:Fe},Mb f xs=some r->i∉r.flatMap LV.ids:=λh hm=>by
 obtain⟨y,d,hi⟩:=Zs.1 hm;obtain⟨j,b⟩:=Zm.1 d;obtain⟨x,_,h2⟩:=(O5 h).2 j y b;exact c _ _ h2 hi
theorem tN(c:∀x y,f x=some y->i∉y.ids){t u:TV}(h:lJ f t=some u):i∉u.ids:=by
 cases t <;> simp only[lJ]at h <;> split at h <;> first|(cases h;done)|skip
 .rename_i y b;injection h with h;subst h;exact c _ _ b
 .rename_i y b;injection h with h;subst h;exact TA c b
theorem Qrt(c:∀x y,f x=some y->i∉y.ids){t u:AV}(h:avO f t=some u):i∉u.ids:=by
 cases t <;> simp only[avO]at h <;> split at h <;> first|(cases h;done)|skip
 .rename_i y b;injection h with h;subst h;exact tN c b
 .rename_i y b;injection h with h;subst h;intro hm;obtain⟨z,hz,hi⟩:=Zs.1 hm;obtain⟨j,d⟩:=Zm.1 hz;obtain⟨x,_,h2⟩:=(O5 b).2 j z d;exact tN c h2 hi
 .rename_i y b;injection h with h;subst h;exact tN c b
theorem tX{f:LV->Option LV}{i:Nat}(b:∀x y,f x=some y->i∉y.ids):∀{L L':Sg},sF f L=some L'->∀t x,lk L' t=some x->i∉x.ids
 | [],L',h,t,x,hx=>by simp[sF]at h;subst h;simp[lk]at hx
 |
  (s,u)::L,L',h,t,x,hx=>by
  simp only[sF]at h
  split at h
  .rename_i y d
   split at h
   .rename_i q c;injection h with h;subst h;simp only[lk]at hx
    split at hx
    .injection hx with hx;subst hx;exact Qrt b d
    .exact tX b c t x hx
   .cases h
  .cases h
theorem Quw(c:∀x y,f x=some y->i∉y.ids)(h:Mb (KA f) B=some B')(j:Nat):i∉(ob B' j).ids:=by
 rcases gZ h j with⟨e,_⟩|e
 .rw[Sj e];simp[OB.ids]
 .generalize ob B j=b at e;cases b with
  |
   blk T xs =>
   simp only[KA]at e
   split at e
   .rename_i r hr;injection e with e;rw[<-e];exact TA c hr
   .cases e
  |_=>simp only[KA,Option.some.injEq]at e;rw[<-e];simp[OB.ids]
def pubV(
 i:Nat) (b:OB):LV->Option LV
  |
   .ow j p=>match Nat.beq i j with
   |
    true=>match b with
    |
     .blk _ xs=>match VB p xs with
     |some r=>some (.sh r)
     |none=>some .any
    |_=>some .any
   |false=>some (.ow j p)
  |
   .orow j s p=>match Nat.beq i j with
   |
    true=>match b with
    |
     .row _ _ sz ls=>match Nat.beq s sz with
     |
      true=>match p with
      |none=>some (.row ls)
      |some (0,len)=>some (.row (ls.take len))
      |some (lo,len)=>some (.row ((ls.drop lo).take len))
     |false=>some .any
    |_=>some .any
   |false=>some (.orow j s p)
  |
   .oel j s k p=>match Nat.beq i j with
   |true=>some .any
   |false=>some (.oel j s k p)
  |
   .oif t j p=>match Nat.beq i j with
   |true=>some .any
   |false=>some (.oif t j p)
  |
   .ofn f x y=>match b with
   |
    .blk _ xs=>match Mb (pubY i xs) x with
    |
     some x'=>match Mb (pubY i xs) y with
     |
      some y'=>match Eg x' && Eg y' with
      |true=>some (.fn f x' y')
      |false=>some (.ofn f x' y')
     |none=>none
    |none=>none
   |_=>some (.ofn f x y)
  |x=>some x
where pubY (i:Nat) (xs:Fe):LV->Option LV
 |
  .ow j p=>match Nat.beq i j with
  |
   true=>match VB p xs with
   |some r=>some (.sh r)
   |none=>some .any
  |false=>some (.ow j p)
 |x=>some x
theorem Qe9{g c sz lo len ad:Nat}{T:TypeId}{vss:List (List Value)}{ex:List Value}{ls:Ff}(hM:¬M g)(hg:g<w.heap.size)(h3:F2 (F2 (LRep w M)) vss ls)(h4:w.heap[g]? = some (.cells (vss.flatten++ex).toArray T (0,0)))(h2:∀c∈ls,c.length=sz)
 (y:lo+len<=c) (z:c<2^63) (hl:lo+len<=ls.length) (ha:lo=0\/lo<c->ad=lo*sz):LRep w M (.slice (some ⟨g,ad,none⟩) len (c-lo)) (.row ((ls.drop lo).take len)):=by
 have h:((ls.drop lo).take len).length=len:=Fq;have b:∀(i:Nat) (cs:Fe),((ls.drop lo).take len)[i]? = some cs->i<len/\ls[lo+i]? = some cs:=λi cs hi=>by
  rw[Jl]at hi
  split at hi
  .rw[Xp]at hi;exact⟨by assumption,hi⟩
  .cases hi
 have e:∀c∈vss,c.length=sz:=λc hc=>by
  obtain⟨j,s⟩:=Zm.1 hc;have hl:j<ls.length:=by rw[<-h3.len];exact(Qh.1 s).1
  rw[(h3.get' s (Qf hl)).len];exact h2 _ (Xs hl)
 have k:=LRep.row (w:=w) (M:=M) (some ⟨g,ad,none⟩) (c-lo) sz g ad ((ls.drop lo).take len) (λi j=>((vss[lo+i]?).bind (·[j]?)).getD undef) Fo Fo (λcs hm=>h2 cs (Q3 (Qn hm)))
  (λ_=>⟨rfl,hg,hM⟩)
  (λi cs hi j s=>by
   obtain⟨h1,l⟩:=b i cs hi;obtain⟨vs,m,d⟩:=h3.get l;have t:=d.len;have u:=h2 cs (Qc l);have f:j<vs.length:=Fo;have r:vss.flatten[(lo+i)*sz+j]? = vs[j]? := by rw[TK e Fo,m];rfl
   have q:(lo+i)*sz+j<vss.flatten.length:=by
    have:=Qf f;rw[this]at r;exact(Qh.1 r).1
   rw[ha (.inr Fo),WI h4,show lo*sz+i*sz+j=(lo+i)*sz+j from by rw[Jj],Zc q,r,m];simp[Qf f])
  (λi cs hi j x hx=>by
   obtain⟨h1,l⟩:=b i cs hi;obtain⟨vs,m,d⟩:=h3.get l;obtain⟨v,hv,p⟩:=d.get hx;rw[m];simp only[Xl,hv,Km];exact p)
 rw[h]at k;exact k
theorem Qus{v:Value}(h:v=.slice none 0 0):LRep w M v (.row []):=KD (h ▸ .nils)
theorem Qva{b:OB}(hb:OBRep w M E i b)(C:∀T xs,b=.blk T xs->Eg xs=true)(hM:∀g c m,E i=some (some (g,c),m)->¬M g/\g<w.heap.size):Turn w M E w M E (pubV i b):=by
 have G:∀T xs p r v,b=.blk T xs->VB p xs=some r->XRep w M E v (.ow i p)->LRep w M v (.sh r):=λT xs p r v e hr ⟨g,c,m,he,hv⟩=>by
  subst e;obtain⟨Y,c',m',d,cs,h1,h2⟩:=hb;rw[he]at d;injection d with d;injection d with e1 _;injection e1 with e1;injection e1 with e1 _;subst e1
  obtain⟨h3,h4⟩:=hM _ _ _ he;obtain⟨rfl,hl⟩:=VC hr;rw[hv];refine Qx8 h4 h3 ((XW (C _ _ rfl) h2).drop p) λj v K=>?_
  rw[Xp]at K;rw[WI h1];exact K
 intro v x y h hr;have l:XRep w M E v .any:=LRep.any v hr.one;cases x <;> simp only[pubV]at h
 case ow j p =>
  split at h
  .rename_i e;obtain rfl:=Qx e
   split at h
   .split at h
    .rename_i r A;injection h with h;subst h;exact G _ _ _ _ _ rfl A hr
    .injection h with h;subst h;exact l
   .injection h with h;subst h;exact l
  .injection h with h;subst h;exact hr
 case orow j s p =>
  split at h
  .rename_i e;obtain rfl:=Qx e
   split at h
   .rename_i fx T sz ls
    split at h
    .rename_i hs;obtain rfl:=Qx hs;obtain⟨h0,h1,q,he,h2⟩:=hb;obtain⟨W,m,d,H,hv⟩:=hr;rw[he]at d;injection d with d;injection d with e1 e2;subst e1;subst e2
     have D:∀lo len,lo+len<=ls.length->dZ v s lo len q->LRep w M v (.row ((ls.drop lo).take len)):=λlo len hl hv=>by
      rcases q with _|⟨g,c⟩
      .have h2:ls=[]:=h2;subst h2;simpa using Qus hv.1
      .obtain⟨vss,ex,h3,h4,h5,V,S⟩:=h2;obtain⟨hc,ad,rfl,ha⟩:=hv;obtain⟨Q,R⟩:=hM _ _ _ he;exact Qe9 Q R h3 h4 h1 hc S hl ha
     split at h
     .injection h with h;subst h;have:=D 0 ls.length Fo hv;show LRep w M v _;simpa using this
     .injection h with h;subst h;have:=D 0 _ H hv;show LRep w M v _;simpa using this
     .injection h with h;subst h;exact D _ _ H hv
    .injection h with h;subst h;exact l
   .injection h with h;subst h;exact l
  .injection h with h;subst h;exact hr
 case oel j s k p=>split at h <;> (injection h with h;subst h) <;> assumption
 case oif t j p=>split at h <;> (injection h with h;subst h) <;> assumption
 case ofn f x y =>
  split at h
  .rename_i T xs;obtain⟨vs,us,rfl,h1,h2⟩:=hr;have ht:∀v x y,pubV.pubY i xs x=some y->YRep w M E v x->YRep w M E v y:=λv x y h hr=>by
    cases x <;> simp only[pubV.pubY]at h <;> first|(injection h with h;subst h;exact hr)|skip
    split at h
    .rename_i e;obtain rfl:=Qx e
     split at h
     .rename_i r A;injection h with h;subst h;exact G _ _ _ _ _ rfl A hr
     .injection h with h;subst h;obtain⟨g,c,m,he,hv⟩:=hr;rw[hv];exact LRep.any _ rfl
    .injection h with h;subst h;exact hr
   have hl:∀{u r:Fe} {vs:List Value},Mb (pubV.pubY i xs) u=some r->F2 (YRep w M E) vs u->F2 (YRep w M E) vs r:=by
    intro u
    induction u with
    |nil=>intro r vs h hr;simp[Mb]at h;subst h;cases hr;exact .nil
    |
     cons x u ih =>
     intro r vs h hr;cases hr with
     |
      cons h0 hr =>
      simp only[Mb]at h
      split at h
      .rename_i y J
       split at h
       .rename_i q O;injection h with h;subst h;exact .cons (ht _ _ _ J h0) (ih O hr)
       .cases h
      .cases h
   split at h
   .rename_i X hx
    split at h
    .rename_i U J
     split at h
     .rename_i z;simp only[Zr]at z;injection h with h;subst h;have I:∀{xs:Fe} {vs:List Value},Eg xs=true->F2 (YRep w M E) vs xs->F2 (LRep w M) vs xs:=by
       intro xs
       induction xs with
       |nil=>intro vs _ h;cases h;exact .nil
       |
        cons x xs ih =>
        intro vs z h;cases h with
        |
         cons h0 h =>
         simp only[Eg]at z
         split at z
         .rename_i hx;exact .cons (by cases x <;> first|exact h0|cases hx) (ih z h)
         .cases z
      have h3:=I z.1 (hl hx h1);have h4:=I z.2 (hl J h2);exact LRep.fn _ _ _ _ _ h3.len h4.len (λ_ _ _ ha hb=>h3.get' ha hb) λ_ _ _ ha hb=>h4.get' ha hb
     .injection h with h;subst h;exact⟨vs,us,rfl,hl hx h1,hl J h2⟩
    .cases h
   .cases h
  .injection h with h;subst h;exact hr
 all_goals (injection h with h;subst h;exact hr)
def QY:Fg->Nat->OB->Option Fg
 | [],_,_=>none
 |_::l,0,b=>some (b::l)
 |
  x::l,i+1,b=>match QY l i b with
  |some r=>some (x::r)
  |none=>none
theorem Ds:∀{B B':Fg} {i:Nat} {b:OB},QY B i b=some B'->B'=B.set i b/\i<B.length
 | [],_,_,_,h=>by cases h
 |_::l,_,0,b,h=>by simp only[QY,Option.some.injEq]at h;subst h;simp
 |
  x::l,_,i+1,b,h=>by
  simp only[QY]at h
  split at h
  .rename_i r hr;injection h with h;subst h;obtain⟨rfl,h2⟩:=Ds hr;exact⟨rfl,by simp;exact h2⟩
  .cases h
def Q35:OB->Bool
 | .row .. => true
 | .blk _ xs=>Eg xs
 |_=>false
def rM(
 L:Sg) (
  B:Fg) (i:Nat):Option (Sg×Fg):=match QU B i with
  |
   some b=>match Q35 b with
   |
    true=>match QY B i .gone with
    |
     some B1=>match sF (pubV i b) L with
     |
      some L'=>match Mb (KA (pubV i b)) B1 with
      |some B'=>some (L',B')
      |none=>none
     |none=>none
    |none=>none
   |false=>none
  |none=>none
theorem SA.pub(
 h:SA F n L B E M a w) {i:Nat} (hp:rM L B i=some (L',B')):∃M',SA F n L' B' E M' a w:=by
  unfold rM at hp
  split at hp
  .rename_i b hb
   split at hp
   .rename_i k
    split at hp
    .rename_i B1 u
     split at hp
     .rename_i z y
      split at hp
      .rename_i C s;injection hp with hp;injection hp with e1 e2;subst e1;subst e2;have l:B[i]? = some b:=Mx ▸ hb;have hrep:=h.blk hb;obtain⟨rfl,A⟩:=Ds u;have r:(ob B i).lv=true:=by rw[Pa l];cases b <;> first|rfl|cases k
       have hn:nw (B.set i .gone)=nw B:=by funext j;simp[nw]
       have d:∀T xs,b=.blk T xs->Eg xs=true:=λT xs e=>by subst e;exact k
       have f:∀M',Le w M w M'->HS F (L6 (ob B) i .gone) (nw B) E M' w->(∀g c m,E i=some (some (g,c),m)->¬M' g/\g<w.heap.size)->SA F n z C E M' a w:=λM' p hs hM=>by
        have h1:SA F n L (B.set i .gone) E M' a w:=⟨by rw[KI l,hn];exact hs,h.size,h.defers,λt x hx=>by
         obtain⟨v,h1,h2⟩:=h.slots t x hx;exact⟨v,h1,h2.keep p λ_ _ _=>rfl⟩⟩
        exact h1.turn (Qva (hrep.keep p (λ_ _ _ _ _=>rfl) (λ_=>rfl) λ_ _ _=>rfl) d hM) y s
       cases he:E i with
       |none=>exact⟨M,f M (Le.refl _ _) (h.hs.gone i) λg c m e=>by rw[he]at e;cases e⟩
       |
        some q =>
        obtain⟨_|⟨g,c⟩,m⟩:=q
        .exact⟨M,f M (Le.refl _ _) (h.hs.gone i) λg c m e=>by rw[he]at e;injection e with e;injection e with e _;cases e⟩
        .refine⟨_,f _ ⟨Ql _,λ_ _ _=>rfl,λ_ _ h=>h.1⟩ (h.hs.pub r he) λD c' m' e=>?_⟩;rw[he]at e;injection e with e;injection e with e _;injection e with e;injection e with e _;subst e;exact⟨λh=>h.2 rfl,h.hs.mlt _ (h.hs.nk _ _ _ _ r he).2⟩
      .cases hp
     .cases hp
    .cases hp
   .cases hp
  .cases hp
end Orr
namespace Orr
open Go
variable{P:Program}{arr:Array Oper}{n:Nat}{o:Oper}{N:Sg->Fg->Prop}{L L':Sg}{B B':Fg}{F:Fr}{E E':Li}{M M':Nat->Prop}{a:Act}{w w':World}
theorem WF{T E size len:Nat}{z:Value}{zs:List Value}{vs:List (Nat×Value)}{cs:List Value}(hu:∀w,(underlying T).run P w=.ok (.slice E) w)(hs:∀w,(Go.sizeOf E).run P w=.ok size w)(hz:∀w,(zeroValue E).run P w=.ok z w)(d:z.cells=zs.toArray)(b:zs.length=size)(hsz:0<size)
 (hl:len*size<=16777216) (c:0<len) (e:Instr.fill (λi=>some (i*size,size)) (ZP len zs).toArray vs=some cs.toArray) (w:World) :
 (Instr.buildSlice T len vs.toArray).run P w=.ok (.slice (some ⟨w.heap.size,0,none⟩) len len) (w.alloc (.cells cs.toArray E)):=by
 have h1:¬(len*size>2^24):=by
  have:(2:Nat)^24=16777216:=Fp;omega
 have h2:¬(len*size=0):=by
  have:=Yt c hsz;omega
 have h3:=HV len zs Fo;rw[b]at h3;simp only[Instr.buildSlice,Sem.run_bind,hu,hs,Result.andThen_ok,h1,h2,if_false,hz,Sem.run_pure,d];simp only[Uf,b,h3,e,Sem.run_bind,newRow,D3,Result.andThen_ok,Sem.run_pure]
variable{ps:Array (Nat×Operand)}
theorem PS{T len:Nat}{e:Operand->Value}{r:Value}(d:o.op=.buildSlice T len ps)(b:(Instr.buildSlice T len (ps.toList.map λp=>(p.1,e p.2)).toArray).run P w=.ok r w'):(execOp e o).run P w=.ok (.value r) w':=by
 have c:(ps.map λx=>match x with|(i,x)=>(i,e x))=(ps.toList.map λp=>(p.1,e p.2)).toArray:=by cases ps;simp
 simp only[execOp,d];rw[c,Sem.run_bind,b];rfl
def GF(sz:Nat):Nat->Fe->Option Ff
 | 0,[]=>some []
 | 0,_::_=>none
 |
  k+1,l=>match CL sz l with
  |none=>none
  |
   some a=>match VB sz l with
   |none=>none
   |
    some b=>match GF sz k b with
    |none=>none
    |some r=>some (a::r)
def OE:Ff->Bool
 | []=>true
 |
  x::l=>match Eg x with
  |true=>OE l
  |false=>false
theorem IB{sz:Nat}:∀{k:Nat} {cs:List Value} {l:Fe} {ls:Ff},F2 (XRep w M E) cs l->GF sz k l=some ls->OE ls=true->∃vss:List (List Value),cs=vss.flatten/\F2 (F2 (LRep w M)) vss ls/\(∀c∈ls,c.length=sz)/\ls.length=k
 |
  0,cs,[],ls,h,hc,_=>by
  simp[GF]at hc;subst hc;cases h;exact⟨[],rfl,.nil,Ft,rfl⟩
 | 0,cs,_::_,ls,h,hc,_=>by simp[GF]at hc
 |
  k+1,cs,l,ls,h,hc,hf=>by
  simp only[GF]at hc
  split at hc
  .cases hc
  .rename_i x hx
   split at hc
   .cases hc
   .rename_i y e
    split at hc
    .cases hc
    .rename_i r hr;injection hc with hc;subst hc;simp only[OE]at hf
     split at hf
     .rename_i b;obtain⟨rfl,h1⟩:=PY hx;obtain⟨rfl,h2⟩:=VC e;obtain⟨vss,h3,h4,h5,d⟩:=IB (h.drop sz) hr hf;refine⟨cs.take sz::vss,by rw[Vk,<-h3,Zi],.cons (XW b (h.take sz)) h4,?_,by simp[d]⟩;intro c hm;rcases Qm.1 hm with rfl|hm
      .simp;omega
      .exact h5 c hm
     .cases hf
def zrep:Nat->Fe->Fe
 | 0,_=>[]
 |m+1,zs=>go zs (zrep m zs)
where go:Fe->Fe->Fe
 | [],r=>r
 |x::l,r=>x::go l r
theorem Qwy(l r:Fe):zrep.go l r=l++r:=by induction l <;> simp[zrep.go, *]
theorem sK{vs:List Value}{zs:Fe}(h:F2 (LRep w M) vs zs):∀m,F2 (LRep w M) (ZP m vs) (zrep m zs)
 | 0=>.nil
 |
  m+1=>by
  simp only[zrep,ZP,Qwy];exact h.append (sK h m)
def Q0t(
 T:TT P) (
  L:Sg) (t len:Nat) (ps:List (Nat×Operand)):Option TV:=match T.find t with
  |
   some ti=>match ti.un with
   |
    .slice E=>match T.find E with
    |
     some te=>match zl te.z with
     |
      some zs=>match (Nat.beq zs.length te.sz && Nat.blt 0 te.sz && Nat.ble (len*te.sz) 16777216 && Nat.blt 0 len)with
      |
       true=>match evTp L ps with
       |
        some us=>match OT (λi=>some (i*te.sz,te.sz)) (zrep len zs) us with
        |
         some r=>match GF te.sz len r with
         |
          some ls=>match OE ls with
          |true=>some (.one (.row ls))
          |false=>none
         |none=>none
        |none=>none
       |none=>none
      |false=>none
     |none=>none
    |none=>none
   |_=>none
  |none=>none
theorem W1.lit{T:TT P}{t len d:Nat}{u:TV}(I:o.op=.buildSlice t len ps)(hl:Q0t T L t len ps.toList=some u)(hg:o.guard=none)(hd:o.dst=some d)(A:Nat.blt d n=true)(k:N ((d,.v u)::L) B):W1 P arr n o N L B:=by
 intro F E M a w K Q h H;unfold Q0t at hl
 split at hl
 .rename_i W b;have b:=TT.find_t b;subst b
  split at hl
  .rename_i E' hu
   split at hl
   .rename_i i e;have e:=TT.find_t e;subst e
    split at hl
    .rename_i zs hz
     split at hl
     .rename_i hc;simp only[Zr]at hc;obtain⟨⟨⟨D,q⟩,p⟩,G⟩:=hc;have D:=Qx D;rw[Jb]at q G;have p:=Zj p
      split at hl
      .rename_i us C
       split at hl
       .rename_i r hr
        split at hl
        .rename_i ls y
         split at hl
         .rename_i J;injection hl with hl;subst hl;have j:=BW (w:=w) (M:=M) hz;have S:=j.len;obtain⟨s,h4,h5⟩:=LC hr (sK j len).x (h.evTp C);obtain⟨vss,rfl,V,O,X⟩:=IB h5 y J;have l:=WF (P:=P) (TI.hu' hu) i.hsz i.hz (zs:=i.z.cells.toList) Ft Fo q p G h4 w;have f:=Bn (.cells vss.flatten.toArray i.t) w;have hs:=h.hs.grow f;have hsz:=D5 (.cells vss.flatten.toArray i.t) w;refine Cd hg (PS I l) (hd ▸ H _ _ _ _ _ _ ((h.mem hs (f.le M) λ_ _=>rfl).put (u:=.v (.one (.row ls))) A ?_) k);have R:len<=16777216:=Qa (Yl len q) p;have U:(2:Nat)^63=9223372036854775808:=Fp;have m:=Qe9 (w:=w.alloc (.cells vss.flatten.toArray i.t)) (M:=M) (g:=w.heap.size) (c:=len) (lo:=0) (len:=len) (ad:=0) (ex:=[]) (λhm=>Nat.lt_irrefl _ (h.hs.mlt _ hm)) Fo (V.imp λ_ _ _ h=>h.imp λ_ _ _ h=>h.keep (f.le M)) (by rw[Zx];exact I9 _ _) O Fo Fo Fo λ_=>Ft
          rw[Jd,Qo Fo]at m;exact m
         .cases hl
        .cases hl
       .cases hl
      .cases hl
     .cases hl
    .cases hl
   .cases hl
  .cases hl
 .cases hl
theorem W1.mkMap{t d:Nat}(j:o.op=.makeMap t none)(hg:o.guard=none)(hd:o.dst=some d)(f:Nat.blt d n=true)(k:N ((d,.v (.one (.omap B.length)))::L) (B++[.mpb []])):W1 P arr n o N L B:=by
 intro F E M a w K Q h i;have hr:(execOp a.eval o).run P w=.ok (.value (.map (some w.heap.size))) (w.alloc (.map #[] 0)):=by simp[execOp,j,Instr.makeMap,D3]
 have hsz:=D5 (.map #[] 0) w;have h2:=h.fresh (Bn (.map #[] 0) w) (m:=0) (b:=.mpb []) (q:=some (w.heap.size,0)) (λg c e=>by injection e with e;injection e with e1 e2;subst e1;omega)
  (λl p=>⟨Ft,w.heap.size,0,0,Gy ..,#[],0,I9 ..,rfl⟩)
 refine Cd hg hr (hd ▸ i _ _ _ _ _ _ (h2.put f (u:=.v (.one (.omap B.length))) ?_) k);exact⟨w.heap.size,0,0,Gy ..,rfl⟩
theorem W1.make{T:TT P}{t d k m:Nat}{x y:Operand}{kd:IntKind}{V S:Int}{U f:TI P}{zs:Fe}(Y:o.op=.makeSlice t x y)(hg:o.guard=none)(hd:o.dst=some d)(I:Nat.blt d n=true)(ht:U.t=t)(hu:U.un=.slice f.t)(hz:zl f.z=some zs)(hc:(Nat.beq zs.length f.sz && Nat.blt 0 f.sz && Nat.ble f.by_ 256)=true)
 (hx:evT L x=some (.one (.int .i64 V))) (Z:evT L y=some (.one (.int .i64 S))) (G:V=(m:Int)) (R:S=(k:Int)) (i:m<=k) (W:k<274877906944)
 (kk:N ((d,.v (.one (.orow B.length f.sz none)))::L) (B++[.row false f.t f.sz (List.replicate m zs)])):W1 P arr n o N L B:=by
 intro F E M a w K Q h X;subst ht G R;simp only[Zr]at hc;obtain⟨⟨A,O⟩,C⟩:=hc;have A:=Qx A;rw[Jb]at O;have C:=Zj C;have r:=BW (w:=w) (M:=M) hz;have J:=r.len;obtain⟨info,p,D⟩:=f.hi;rw[<-D]at C;have s:=Q2i (w:=w) (P:=P) (E:=f.t) (zs:=f.z.cells.toList) Y (Td (h.evT hx)) (Td (h.evT Z)) (TI.hu' hu) p C (by rw[J,A];exact f.hsz) f.hz Ft Fo i W;have e63:(2:Nat)^63=9223372036854775808:=Fp;have hsz:=D5 (.cells (ZP k f.z.cells.toList).toArray f.t) w;have l:∀(m:Nat) (c:List Value),c∈List.replicate m f.z.cells.toList->c.length=f.sz:=λm c hc=>by rw[Z0 hc];omega
 have h2:=h.fresh (Bn (.cells (ZP k f.z.cells.toList).toArray f.t) w) (m:=m) (b:=.row false f.t f.sz (List.replicate m zs)) (q:=some (w.heap.size,k)) (λg c e=>by injection e with e;injection e with G R;subst G;omega)
  (λH hE=>by
   refine⟨O,λc hc=>by rw[Z0 hc];exact A,some (w.heap.size,k),by rw[Gy];simp,List.replicate m f.z.cells.toList,(List.replicate (k-m) f.z.cells.toList).flatten,?_,?_,?_,by simpa using i,Fo⟩
   .refine F2.of Ft λj v x hv hx=>?_
    have hv:=Z0 (Qc hv);have hx:=Z0 (Qc hx);rw[hv,hx];exact r.imp λ_ _ _ h=>h.keep H
   .rw[I9,<-X3,Wm,show m+(k-m)=k from Fo,Qh7]
   .rw[<-X3,Wm,show m+(k-m)=k from Fo,Pm (l k)];simp)
 refine Cd hg s (hd ▸ X _ _ _ _ _ _ (h2.put (u:=.v (.one (.orow B.length f.sz none))) I ?_) kk);exact⟨some (w.heap.size,k),m,Gy ..,Ft,by simp[i],0,Ft,λ_=>Ft⟩
end Orr
namespace Orr
open Go
variable{P:Program}{arr:Array Oper}{n:Nat}{o:Oper}{N:Sg->Fg->Prop}{L L':Sg}{B B':Fg}{F:Fr}{E E':Li}{M M':Nat->Prop}{a:Act}{w w':World}
variable{i:Nat}{b:OB}
theorem GE{B:Fg}:nw (B.set i b)=nw B:=by funext j;simp[nw]
theorem SA.wr{g c m T:Nat}{b':OB}{cs:List Value}(h:SA F n L B E M a w)(hb:QU B i=some b)(hl:b.lv=true)(hm:b'.mv=b.mv)(he:E i=some (some (g,c),m))(f:Wr g T cs w w')(hr:Le w M w' M->OBRep w' M E i b'):SA F n L (B.set i b') E M a w':=by
 have d:B[i]? = some b:=Mx ▸ hb;have k:(ob B i).lv=true:=by rw[Pa d];exact hl
 have q:=h.hs.nk i g c m k he;have l:Le w M w' M:=⟨by rw[f.size];exact Ql _,λb _ hb=>f.rest b λe=>hb (e ▸ q.2),λ_ _ h=>h⟩;have p:L6 E i (some (some (g,c),m))=E:=by
  funext j;by_cases e:j=i
  .subst e;rw[Gy,he]
  .exact Hl _ _ e
 have hs:=h.hs.set k he f.size f.rest f.io (b:=b') (by rw[Pa d];exact hm) (.inl rfl) (by rw[p];exact hr);rw[p]at hs;refine⟨by rw[KI d,GE];exact hs,h.size,h.defers,λt x hx=>?_⟩;obtain⟨v,h1,h2⟩:=h.slots t x hx;exact⟨v,h1,h2.keep l λ_ _ _=>rfl⟩
variable{u:TV}
theorem W1.store{l:TI P}{x y:Operand}{off q:Nat}{xs j r:Fe}(z:o.op=.store l.t x y)(hg:o.guard=none)(hd:o.dst=none)(hx:evT L x=some (.one (.ow i off)))(hb:QU B i=some (.blk q xs))(A:evT L y=some u)(hl:KU u=some j)(hs:j.length=l.sz)(hr:PH xs off j=some r)(D:QY B i (.blk q r)=some B')(k:N L B'):W1 P arr n o N L B:=by
 intro F E M a w K Q h v;obtain⟨g,c,m,he,hv⟩:=h.evT hx;obtain⟨H,c',m',b,cs,p,hc⟩:=h.blk hb;rw[he]at b;injection b with b;injection b with e1 _;injection e1 with e1;injection e1 with e1 _;subst e1
 obtain⟨rfl,e⟩:=YT hr;obtain⟨rfl,_⟩:=Ds D;have d:=YX (h.evT A) hl;have C:=d.len;have G:=hc.len;obtain⟨w',f,s⟩:=Qfq z hv rfl l.hsz rfl Fo p Fo d.xone;refine zE hg hd f (v _ _ _ _ _ _ (h.wr (b':=.blk q (upd xs off j)) hb rfl rfl he s λe=>⟨g,c,m,he,_,s.at_,(hc.upd off d).xkeep e λ_ _ _=>rfl⟩) k)
theorem SA.wrM{g c m ck:Nat}{es f:List (U8×LV)}{ents:List MapEntry}(h:SA F n L B E M a w)(hb:QU B i=some (.mpb es))(he:E i=some (some (g,c),m))(u:w'={ w with heap:=w.heap.setIfInBounds g (.map ents.toArray ck) })(q:g<w.heap.size)(h0:∀e∈f,e.1.length=3)(h1:ents.map (λe=>(e.key,e.val))=Dw f):SA F n L (B.set i (.mpb f)) E M a w':=by
 have k:B[i]? = some (.mpb es):=Mx ▸ hb;have l:(ob B i).lv=true:=by rw[Pa k];rfl
 have z:=h.hs.nk i g c m l he;subst u;have hsz:(w.heap.setIfInBounds g (.map ents.toArray ck)).size=w.heap.size:=Array.size_setIfInBounds;have d:∀b,b≠g->(w.heap.setIfInBounds g (.map ents.toArray ck))[b]? = w.heap[b]? := λb e=>by rw[Array.getElem?_setIfInBounds,if_neg (λy=>e y.symm)]
 have p:(w.heap.setIfInBounds g (.map ents.toArray ck))[g]? = some (.map ents.toArray ck):=by rw[Array.getElem?_setIfInBounds,if_pos rfl,if_pos q]
 have r:Le w M { w with heap:=w.heap.setIfInBounds g (.map ents.toArray ck) } M:=⟨by rw[hsz];exact Ql _,λb _ hb=>d b λe=>hb (e ▸ z.2),λ_ _ h=>h⟩;have s:L6 E i (some (some (g,c),m))=E:=by
  funext j;by_cases e:j=i
  .subst e;rw[Gy,he]
  .exact Hl _ _ e
 have hs:=h.hs.set (w':={ w with heap:=w.heap.setIfInBounds g (.map ents.toArray ck) }) l he hsz d ⟨rfl,rfl⟩ (b:=.mpb f) (by rw[Pa k];rfl) (.inl rfl) (by
  rw[s];exact λ_=>⟨h0,g,c,m,he,ents.toArray,ck,p,by simpa using h1⟩)
 rw[s]at hs;refine⟨by rw[KI k,GE];exact hs,h.size,h.defers,λt x hx=>?_⟩;obtain⟨v,h1,h2⟩:=h.slots t x hx;exact⟨v,h1,h2.keep r λ_ _ _=>rfl⟩
theorem W1.mapUp{T:TT P}{A:TI P}{x y z:Operand}{es:List (U8×LV)}{I:Fe}{ks:U8}{v:LV}{d:LV}(O:o.op=.mapUpdate A.t x y z)(hg:o.guard=none)(hd:o.dst=none)(hmd:A.md=some d)(hx:evT L x=some (.one (.omap i)))(hb:QU B i=some (.mpb es))(R:evT L y=some (.agg I))(C:FM I=some ks)(H:ks.length=3)(hz:evT L z=some (.one v))(hl:Qdr v=true)(S:QY B i (.mpb (Ig es ks v))=some B')(k:N L B'):W1 P arr n o N L B:=by
 intro F E M a w K Q h J;obtain⟨KT,ET,hM⟩:=A.hmd d hmd;obtain⟨f,g,c,m,he,ents,ck,q,u⟩:=h.blk hb;obtain⟨U,c',m',b,hv⟩:=h.evT hx;rw[he]at b;injection b with b;injection b with e1 _;injection e1 with e1;injection e1 with e1 _;subst e1
 have D:=UK C (h.evT R);have s:=Q0v hl (h.evT hz);obtain⟨rfl,_⟩:=Ds S;obtain⟨e,p,j,l⟩:=Qaw hM H (ents:=ents.toList) f u (by simpa using q) v;have r:g<w.heap.size:=h.hs.mlt g (h.hs.nk i g c m (by rw[Pa (Mx ▸ hb)];rfl) he).2;have G:(execOp a.eval o).run P w=.ok .skip { w with heap:=w.heap.setIfInBounds g (.map e.toArray p) }:=by
  simp only[execOp,O,hv,D,s];rw[show(Value.agg (ks.map (Value.int .i64)).toArray)=Oz ks from rfl];simp[j]
 exact zE hg hd G (J _ _ _ _ _ _ (h.wrM hb he rfl r (cS f H) l) k)
theorem mA{sz:Nat}:∀{vss:List (List Value)} {k off:Nat} {us vs:List Value},(∀c∈vss,c.length=sz)->vss[k]? = some us->off+vs.length≤sz->upd vss.flatten (k*sz+off) vs=(vss.set k (upd us off vs)).flatten
 | [],k,off,us,vs,_,h,_=>by simp at h
 |
  v::vss,0,off,us,vs,hs,h,hl=>by
  simp at h;subst h;have e:=hs v (.head _);have b:∀(pre post:List Value) (k:Nat) (ys:List Value),k+ys.length<=pre.length->upd (pre++post) k ys=upd pre k ys++post:=by
   intro pre
   induction pre with
   |nil=>intro post k ys f;cases ys <;> simp at f;simp[I5]
   |
    cons p pre d =>
    intro post k ys f;cases ys with
    |nil=>simp[I5]
    |
     cons y ys=>cases k with
     |zero=>simp only[Xg,upd];rw[d post 0 ys (by simp at f ⊢;omega)]
     |succ k=>simp only[Xg,upd];rw[d post k (y::ys) (by simp at f ⊢;omega)]
  simp only[Vk,List.set_cons_zero,Yv,Zw];exact b v vss.flatten off vs Fo
 |
  v::vss,k+1,off,us,vs,hs,h,hl=>by
  have e:=hs v (.head _);have d:=mA (vss:=vss) (k:=k) (off:=off) (us:=us) (vs:=vs) (λc hc=>hs c (.tail _ hc)) (by simpa using h) hl;simp only[Vk,Ky];rw[<-d,show(k+1)*sz+off=v.length+(k*sz+off) from by rw[Xh];omega];have b:∀(pre post:List Value) (j:Nat) (ys:List Value),upd (pre++post) (pre.length+j) ys=pre++upd post j ys:=by
   intro pre
   induction pre with
   |nil=>intro post j ys;simp
   |
    cons p pre d =>
    intro post j ys;cases ys with
    |nil=>simp[I5]
    |cons y ys=>rw[Xg,Q5,show pre.length+1+j=(pre.length+j)+1 from Fo];simp only[upd];rw[d];rfl
  exact b v vss.flatten _ vs
theorem tL:∀(pre post:List Value) (k:Nat) (b:List Value),k+b.length<=pre.length->upd (pre++post) k b=upd pre k b++post
 | [],post,k,[],_=>by simp[I5]
 | [],post,k,y::b,hk=>by simp at hk
 |p::pre,post,k,[],_=>by simp[I5]
 |p::pre,post,0,y::b,hk=>by simp only[Xg,upd];rw[tL pre post 0 b (by simp at hk ⊢;omega)]
 |p::pre,post,k+1,y::b,hk=>by simp only[Xg,upd];rw[tL pre post k (y::b) (by simp at hk ⊢;omega)]
theorem Qfm:∀(us vs:List Value),us.length=vs.length->upd us 0 vs=vs
 | [],[],_=>rfl
 | [],_::_,h=>by simp at h
 |_::_,[],h=>by simp at h
 |u::us,v::vs,h=>by simp only[upd];rw[Qfm us vs (by simpa using h)]
variable{fx:Bool}{ls:Ff}
theorem W1.storeE{O:TI P}{x y:Operand}{sz k off R:Nat}{s r:Fe}(ho:o.op=.store O.t x y)(hg:o.guard=none)(hd:o.dst=none)(hx:evT L x=some (.one (.oel i sz k off)))(hb:QU B i=some (.row fx R sz ls))(hy:evT L y=some u)(hl:KU u=some s)(hs:s.length=O.sz)(hf:Eg s=true)(S:k<ls.length)
 (hr:(off=0/\s.length=sz/\r=s)\/∃xs,ls[k]? = some xs/\PH xs off s=some r) (hB:QY B i (.row fx R sz (ls.set k r))=some B') (kk:N L B'):W1 P arr n o N L B:=by
 intro F E M a w K Q h Z;obtain⟨g,c,m,he,hv⟩:=h.evT hx;obtain⟨h0,h1,q,f,h2⟩:=h.blk hb;rw[he]at f;injection f with f;injection f with e1 e2;subst e1;subst e2
 obtain⟨vss,ex,h3,h4,h5,h6,h7⟩:=h2;obtain⟨rfl,_⟩:=Ds hB;have p:=YX (h.evT hy) hl;have G:=XW hf p;have hl1:=p.len;obtain⟨us,C,A⟩:=h3.get (Qf S);have b:∀c∈vss,c.length=sz:=λc hc=>by
  obtain⟨j,U⟩:=Zm.1 hc;have hl:j<ls.length:=by rw[<-h3.len];exact(Qh.1 U).1
  rw[(h3.get' U (Qf hl)).len];exact h1 _ (Xs hl)
 have W:off+s.length<=sz:=by
  rcases hr with⟨rfl,e,_⟩|⟨xs,d,hu⟩
  .omega
  .have:=(YT hu).2;rw[h1 _ (Qc d)]at this;exact this
 have v:=b us (Qc C);have V:k*sz+sz<=vss.flatten.length:=by
  rw[Pm b,h3.len,<-Xh];exact Qz _ S
 have H:F2 (LRep w M) (upd us off (a.eval y).cells.toList) r:=by
  rcases hr with⟨rfl,e,rfl⟩|⟨xs,d,hu⟩
  .rw[Qfm us _ Fo];exact G
  .rw[Qf S]at d;injection d with d;subst d;rw[(YT hu).1];exact A.upd off G
 have D:=H.len;rw[GB,v]at D;obtain⟨w',I,J⟩:=Qfq ho hv rfl O.hsz rfl Fo h4 (by simp only[Qw];omega) p.xone;have X:upd (vss.flatten++ex) (k*sz+off) (a.eval y).cells.toList=(vss.set k (upd us off (a.eval y).cells.toList)).flatten++ex:=by
  rw[tL _ _ _ _ Fo,mA b C Fo]
 rw[X]at J;refine zE hg hd I (Z _ _ _ _ _ _ (h.wr (b':=.row fx R sz (ls.set k r)) hb rfl rfl he J λT=>⟨h0,λz hz=>?_,some (g,c),by simpa using he,_,ex,((h3.set H k).imp λ_ _ _ h=>h.imp λ_ _ _ h=>h.keep T),J.at_,?_,by simpa using h6,h7⟩) kk)
 .rcases J7 hz with hz|rfl
  .exact h1 z hz
  .exact D.symm
 .have Y:=Pm b;have l:∀c∈vss.set k (upd us off (a.eval y).cells.toList),c.length=sz:=λz hz=>by
   rcases J7 hz with hz|rfl
   .exact b z hz
   .rw[GB];exact v
  rw[Qw,Pm l,Xd,<-Y,<-Qw];exact h5
def zL(
 B:Fg) (sz:Nat):TV->Option Ff
  | .one (.row l)=>some l
  | .one .nils=>some []
  |
   .one (.orow i s p)=>match Nat.beq s sz with
   |
    true=>match QU B i with
    |
     some (.row _ _ s' ls)=>match Nat.beq s s' with
     |
      true=>match p with
      |none=>some ls
      |some (0,len)=>some (ls.take len)
      |some (lo,len)=>some ((ls.drop lo).take len)
     |false=>none
    |_=>none
   |false=>none
  |_=>none
theorem tV{v:Value}{l:Ff}{sz:Nat}(h:LRep w M v (.row l))(hs:∀c∈l,c.length=sz):∃vss:List (List Value),F2 (F2 (LRep w M)) vss l/\Src w v sz l.length vss.flatten:=by
 cases h with
 |
  row A c sz' b o l f hc hc63 hs' hA hcell hrep =>
  have hg:∀(i:Nat) (vs:List Value),((List.range l.length).map λi=>(List.range sz).map (f i))[i]? = some vs->i<l.length/\vs=(List.range sz).map (f i):=λi vs hi=>by
   simp only[Q9]at hi;rcases Q7 i l.length with h1|h1
   .rw[Jh h1]at hi;exact⟨h1,by simpa using hi.symm⟩
   .rw[Qu (by simpa using h1)]at hi;cases hi
  have d:∀c∈(List.range l.length).map (λi=>(List.range sz).map (f i)),c.length=sz:=λc hm=>by
   obtain⟨i,hi⟩:=Zm.1 hm;rw[(hg i c hi).2];simp
  refine⟨_,F2.of (l:=(List.range l.length).map λi=>(List.range sz).map (f i)) Ft λi vs xs hv hx=>?_,by rw[Pm d];simp,A,c,rfl,λh0=>?_⟩
  .obtain⟨h1,rfl⟩:=hg i vs hv;have p:=hs xs (Qc hx);refine F2.of (by simp[p]) λj u x hu k=>?_
   have g:j<sz:=by have:=(Qh.1 k).1;omega
   simp[g]at hu;subst hu;exact hrep i xs hx j x k
  .obtain⟨e,_,_⟩:=hA h0;refine⟨b,o,e,λj v g=>?_⟩;rcases Q0 sz with hz|hz
   .have:=(Qh.1 g).1;rw[Pm d,hz,Vg]at this;omega
   .have q:j=j / sz*sz+j % sz:=by rw[Zt];exact(Xq j sz).symm
    have hm:=Xf j hz;rw[q,TK d hm]at g;cases m:((List.range l.length).map λi=>(List.range sz).map (f i))[j / sz]? with
    |none=>rw[m]at g;simp at g
    |
     some ds =>
     rw[m]at g;obtain⟨h1,rfl⟩:=hg _ _ m;have hx:=Qf h1;have r:sz'=sz:=by rw[<-hs' _ (Xs h1),hs _ (Xs h1)]
     have h2:=hcell _ _ hx (j % sz) (by rw[hs _ (Qc hx)];exact hm);have g:f (j / sz) (j % sz)=v:=by simpa[hm]using g
     subst r g;rw[show o+j=o+j / sz'*sz'+j % sz' from by rw[Vd,<-q]];exact h2
theorem SA.rowM(h:SA F n L B E M a w){sz T:Nat}(hb:QU B i=some (.row fx T sz ls)){g c m:Nat}(he:E i=some (some (g,c),m)):
 ∃(vss:List (List Value)) (ex:List Value),F2 (F2 (LRep w M)) vss ls/\(∀c∈vss,c.length=sz)/\w.heap[g]? = some (.cells (vss.flatten++ex).toArray T (0,0))/\(vss.flatten++ex).length=c*sz/\ls.length≤c/\c<2^63:=by
 obtain⟨h0,h1,q,b,h2⟩:=h.blk hb;rw[he]at b;injection b with b;injection b with e1 e2;subst e1;subst e2
 obtain⟨vss,ex,h3,h4,h5,e,f⟩:=h2;refine⟨vss,ex,h3,λc hc=>?_,h4,h5,e,f⟩;obtain⟨j,d⟩:=Zm.1 hc;have hl:j<ls.length:=by rw[<-h3.len];exact(Qh.1 d).1
 rw[(h3.get' d (Qf hl)).len];exact h1 _ (Xs hl)
theorem SA.src(
 h:SA F n L B E M a w) {v:Value} {u:TV} {sz:Nat} {l:Ff} (hr:TRep w M E v u) (hl:zL B sz u=some l) (hs:∀c∈l,c.length=sz):∃vss:List (List Value),F2 (F2 (LRep w M)) vss l/\Src w v sz l.length vss.flatten:=by
  unfold zL at hl
  split at hl
  .injection hl with hl;subst hl;exact tV hr hs
  .injection hl with hl;subst hl;exact tV (KD hr) hs
  .rename_i i s p
   split at hl
   .rename_i e;obtain rfl:=Qx e
    split at hl
    .rename_i fx T C ls hb
     split at hl
     .rename_i e;obtain rfl:=Qx e;obtain⟨q,m,he,t,hv⟩:=hr;obtain⟨_,_,G,b,_⟩:=h.blk hb;rw[he]at b;injection b with b;injection b with _ em;subst em
      have r:∀lo len,lo+len<=ls.length->dZ v s lo len q->∃vss:List (List Value),F2 (F2 (LRep w M)) vss ((ls.drop lo).take len)/\Src w v s ((ls.drop lo).take len).length vss.flatten:=λlo len hl hv=>by
       rcases q with _|⟨g,c⟩
       .obtain⟨rfl,rfl,rfl⟩:=hv;exact⟨[],by simp;exact .nil,by simp[Src]⟩
       .obtain⟨vss,ex,h3,d,h4,h5,D,H⟩:=h.rowM hb he;obtain⟨hc,ad,rfl,ha⟩:=hv;refine⟨(vss.drop lo).take len,(h3.drop lo).take len,?_⟩;have k:∀c∈(vss.drop lo).take len,c.length=s:=λc hc=>d c (Q3 (Qn hc))
        have y:=h3.len;have f:((ls.drop lo).take len).length=len:=Fq;refine⟨by rw[Pm k,f,Qt,Za,Z8 Fo],_,c-lo,by rw[f],λh0=>⟨g,ad,rfl,λj v x=>?_⟩⟩;have z:vss.flatten=(vss.take lo).flatten++((vss.drop lo).take len).flatten++((vss.drop lo).drop len).flatten:=by
         rw[Zh,<-X3,Zi,<-X3,Zi]
        have A:(vss.take lo).flatten.length=lo*s:=by rw[Pm λc hc=>d c (Qn hc),Qt,Z8 Fo]
        rw[ha (.inr Fo),WI h4,z,Zh,Zh,<-A,Zy Fo,J1,Zc (Qh.1 x).1];exact x
      split at hl
      .injection hl with hl;subst hl;have:=r 0 ls.length Fo hv;simpa using this
      .injection hl with hl;subst hl;have:=r 0 _ t hv;simpa using this
      .injection hl with hl;subst hl;exact r _ _ t hv
     .cases hl
    .cases hl
   .cases hl
  .cases hl
theorem SA.ren{E':Li}{M':Nat->Prop}(h:SA F n L B E M a w)(c:∀t x,lk L t=some x->i∉x.ids)(hs:HS F (L6 (ob B) i b) (nw B) E' M' w')(hi:i<B.length)(d:Le w M w' M')(g:∀j,j≠i->E' j=E j):SA F n L (B.set i b) E' M' a w':=by
 refine⟨?_,h.size,h.defers,λt x hx=>?_⟩
 .rw[KI (Qf hi),GE];exact hs
 .obtain⟨v,h1,h2⟩:=h.slots t x hx;exact⟨v,h1,h2.keep d λj f _=>g j λe=>c t x hx (e ▸ f)⟩
variable{d:Nat}{p:Option (Nat×Nat)}{l2:Ff}{zs:Fe}{L1:Sg}
theorem BF{f ti tj:TI P}{E2:TypeId}{x y:Operand}{R:Array TypeId}{len:Nat}{new:Ff}{B1 B2:Fg}(ho:o.op=.call { callee:=.builtin .append,args := #[x,y],argTypes:=R })(hg:o.guard=none)(hd:o.dst=some d)(W:Nat.blt d n=true)(hat:R[0]? = some ti.t/\R[1]? = some tj.t)(hu:ti.un=.slice f.t)(hu2:tj.un=.slice E2)
 (hz:zl f.z=some zs) (hc:(Nat.beq zs.length f.sz && Nat.ble f.by_ 4096 && Nat.blt 0 f.by_)=true) (h:SA F n L B E M a w) (hx:TRep w M E (a.eval x) (.one (.orow i f.sz p))) (hrow:Io B i f.sz p=some (0,len)) (hb:QU B i=some (.row false f.t f.sz ls)) (hy:evT L y=some u) (hsrc:zL B f.sz u=some l2) (hs2:∀c∈l2,c.length=f.sz)
 (D:new=ls.take len++l2) (hm:len+l2.length<8589934592) (hL:sF (Ap i) L=some L1) (hB:Mb (KA (Ap i)) B=some B1) (hB2:QY B1 i (.row false f.t f.sz new)=some B2) (k:N ((d,.v (.one (.orow i f.sz none)))::L1) B2) {K:Act->World->Prop} {Q:Exit->Act->World->Prop} (hK:∀(a':Act) (w':World) (L':Sg) (B':Fg) (E':Li) (M':Nat->Prop),SA F n L' B' E' M' a' w'->N L' B'->K a' w'):stp P arr o a w K Q:=by
 simp only[Zr]at hc;obtain⟨⟨c1,c2⟩,c3⟩:=hc;have c1:=Qx c1;have c2:=Zj c2;rw[Jb]at c3;obtain⟨info,hinf,hby⟩:=f.hi;rw[<-hby]at c2 c3;have hzl:=(BW (w:=w) (M:=M) hz).len;obtain⟨V,hn,hsr⟩:=h.src (h.evT hy) hsrc hs2;have hone:∀u∈V.flatten,one u=true:=λq hq=>by
  obtain⟨c,hc,hqc⟩:=List.mem_flatten.1 hq;obtain⟨j,hj⟩:=Zm.1 hc;have hjl:j<l2.length:=by rw[<-hn.len];exact(Qh.1 hj).1
  exact((hn.get' hj (Qf hjl)).x (E:=E)).xone q hqc
 have h1:=h.turn nH hL hB;have T:=tX (λ_ _=>MA) hL;have hib:=Quw (i:=i) (λ_ _=>MA) hB;have hb1:QU B1 i=some (.row false f.t f.sz ls):=by
  rw[Mx]at hb ⊢;obtain⟨C,e2⟩:=O5 hB;have l:i<B1.length:=by rw[C];exact(Qh.1 hb).1
  obtain⟨x,e3,e4⟩:=e2 i _ (Qf l);rw[hb]at e3;injection e3 with e3;subst e3;rw[Qf l,<-e4];rfl
 have O:ob B1 i=.row false f.t f.sz ls:=Pa (Mx ▸ hb1);have hJ:¬F.J i:=h1.hs.nj i (by rw[O];rfl);obtain⟨rfl,l⟩:=Ds hB2;obtain⟨h0,hrs,q0,he,hrow2⟩:=h.blk hb;obtain⟨m',q,H,hml,hv⟩:=h.orow hrow hx;rw[he]at H;injection H with H;injection H with C e2;subst C;subst e2
 have S:new.length=len+l2.length:=by rw[D,Qw,Qt,Z8 Fo]
 have X:∀c∈new,c.length=f.sz:=λc hc=>by
  rw[D]at hc;rcases Qr.1 hc with hc|hc
  .exact hrs c (Qn hc)
  .exact hs2 c hc
 have hold:∃s:List (List Value),F2 (F2 (LRep w M)) s (ls.take len)/\s.flatten.length=len*f.sz/\(match (generalizing:=false) q0 with
  |none=>a.eval x=.slice none 0 0/\len=0
  |some (g,c)=>a.eval x=.slice (some ⟨g,0,none⟩) len c/\(len<=c/\c<2^63)/\∃ex,w.heap[g]? = some (.cells (s.flatten++ex).toArray f.t (0,0))/\(s.flatten++ex).length=c*f.sz):=by
  rcases q0 with _|⟨g,c⟩
  .obtain⟨C,_,e3⟩:=hv;subst e3;exact⟨[],by simp;exact .nil,Ft,C,rfl⟩
  .obtain⟨vss,ex,h3,hall,h4,h5,h6,h7⟩:=h.rowM hb he;obtain⟨hcl,ad,hval,ha⟩:=hv;have Y:∀c∈vss.take len,c.length=f.sz:=λc hc=>hall c (Qn hc)
   have hvl:=h3.len;refine⟨vss.take len,h3.take len,by rw[Pm Y,Qt,Z8 Fo],?_,⟨Fo,h7⟩,(vss.drop len).flatten++ex,?_,?_⟩
   .rw[hval,ha (.inl rfl)];simp
   .rw[<-Zh,<-X3,Zi];exact h4
   .rw[<-Zh,<-X3,Zi];exact h5
 obtain⟨s,ho1,ho2,Z⟩:=hold;have I:∀{w':World} {M':Nat->Prop},Le w M w' M'->F2 (F2 (LRep w' M')) (s++V) new:=λr=>by
  rw[D];exact(ho1.append hn).imp λ_ _ _ h=>h.imp λ_ _ _ h=>h.keep r
 have hxa:=Qqv (P:=P) (w:=w) (e:=a.eval) (E':=f.t) (q:=q0) (size:=f.sz) (m:=len) (k:=l2.length) (cs:=s.flatten) (news:=V.flatten) (zs:=f.z.cells.toList) ho hat rfl rfl (TI.hu' hu) (TI.hu' hu2) hinf c2 c3 f.hsz f.hz Ft Fo ho2 Z hsr hone hm;rw[<-X3]at hxa;rcases hxa with⟨w',A,hin⟩|⟨w',g,c,ex,A,U,hg1,hg2,hmc,hc63,hcell,G⟩
 .rcases q0 with _|⟨g,c⟩
  .obtain⟨rfl,hk0⟩:=hin;have hl20:l2=[]:=Qg hk0;have hn0:new=[]:=Qg (by rw[S,hk0,Z.2]);have hs:=h1.hs.new (w':=w') ⟨Ql _,λ_ _=>rfl,rfl,rfl⟩ (k:=i) (m:=0) (b:=.row false f.t f.sz new) (q:=none) hJ (λg c e=>by cases e) (λj _ hj=>absurd hj (hib j)) λr=>⟨h0,X,none,by rw[Gy,hn0];rfl,hn0⟩
   have C:(λj=>nw B1 j/\j≠i)=nw B1:=by funext j;exact propext ⟨λh=>h.1,λh=>⟨h,λe=>by subst e;exact absurd l (by simpa[nw]using h)⟩⟩
   rw[C]at hs;have h2:=h1.ren T hs l ⟨Ql _,λ_ _ _=>rfl,λb _ hm=>hm.resolve_right λ⟨c,e⟩=>by cases e⟩ λj e=>Hl _ _ e
   exact Cd hg A (hd ▸ hK _ _ _ _ _ _ (h2.put (u:=.v (.one (.orow i f.sz none))) W ⟨none,0,Gy ..,Ft,rfl,rfl,rfl⟩) k)
  .obtain⟨hmc,ex,hw,G⟩:=hin;have hlv:(ob B1 i).lv=true:=by rw[O];rfl
   have hs:=h1.hs.set (b:=.row false f.t f.sz new) (m':=new.length) hlv he hw.size hw.rest hw.io (by rw[O];rfl) (.inr ⟨hJ,λj _=>hib j⟩) λr=>⟨h0,X,some (g,c),Gy ..,_,ex,I r,hw.at_,G,Fo,Z.2.1.2⟩
   have hk:=h1.hs.nk i g c _ hlv he;have r:Le w M w' M:=⟨by rw[hw.size];exact Ql _,λb _ hb=>hw.rest b λe=>hb (e ▸ hk.2),λ_ _ h=>h⟩;have h2:=h1.ren T hs l r λj e=>Hl _ _ e
   refine Cd hg A (hd ▸ hK _ _ _ _ _ _ (h2.put (u:=.v (.one (.orow i f.sz none))) W ⟨some (g,c),new.length,Gy ..,Ft,?_⟩) k);simp only[Wh,dZ,Zw,Ww];exact⟨Fo,0,by rw[S],λ_=>Ft⟩
 .have hs:=h1.hs.new U (k:=i) (m:=new.length) (b:=.row false f.t f.sz new) (q:=some (g,c)) hJ (λg' c' e=>by injection e with e;injection e with C e2;subst C;exact⟨hg1,hg2⟩) (λj _ hj=>absurd hj (hib j)) λr=>⟨h0,X,some (g,c),by rw[Gy],_,ex,I r,hcell,G,Fo,hc63⟩
  have C:(λj=>nw B1 j/\j≠i)=nw B1:=by funext j;exact propext ⟨λh=>h.1,λh=>⟨h,λe=>by subst e;exact absurd l (by simpa[nw]using h)⟩⟩
  rw[C]at hs;have h2:=h1.ren T hs l ⟨U.1,λb hb _=>U.2 b hb,λb hb hm=>hm.resolve_right λ⟨c',e⟩=>by injection e with e;injection e with C e2;subst C;omega⟩ λj e=>Hl _ _ e
  refine Cd hg A (hd ▸ hK _ _ _ _ _ _ (h2.put (u:=.v (.one (.orow i f.sz none))) W ⟨some (g,c),new.length,Gy ..,Ft,?_⟩) k);simp only[Wh,dZ,Zw,Ww];exact⟨Fo,0,by rw[S],λ_=>Ft⟩
theorem W1.append{b A D:TI P}{E2:TypeId}{x y:Operand}{e:Array TypeId}{len:Nat}{new:Ff}{B1 C:Fg}(H:o.op=.call { callee:=.builtin .append,args := #[x,y],argTypes:=e })(hg:o.guard=none)(hd:o.dst=some d)(q:Nat.blt d n=true)(l:e[0]? = some A.t/\e[1]? = some D.t)(hu:A.un=.slice b.t)(m:D.un=.slice E2)
 (hz:zl b.z=some zs) (hc:(Nat.beq zs.length b.sz && Nat.ble b.by_ 4096 && Nat.blt 0 b.by_)=true) (hx:evT L x=some (.one (.orow i b.sz p))) (f:Io B i b.sz p=some (0,len)) (hb:QU B i=some (.row false b.t b.sz ls)) (I:evT L y=some u) (j:zL B b.sz u=some l2) (s:∀c∈l2,c.length=b.sz)
 (g:new=ls.take len++l2) (hm:len+l2.length<8589934592) (G:sF (Ap i) L=some L1) (J:Mb (KA (Ap i)) B=some B1) (r:QY B1 i (.row false b.t b.sz new)=some C) (k:N ((d,.v (.one (.orow i b.sz none)))::L1) C):W1 P arr n o N L B:=λ_ _ _ _ _ _ _ h hK =>
 BF H hg hd q l hu m hz hc h (h.evT hx) f hb I j s g hm G J r k hK
theorem SA.ownNil(h:SA F n L B E M a w){T sz:Nat}(h0:0<sz):∃E' M',SA F n L (B++[.row false T sz []]) E' M' a w/\E' B.length=some (none,0) :=
 ⟨_,_,h.fresh (w':=w) ⟨Ql _,λ_ _=>rfl,rfl,rfl⟩ (m:=0) (q:=none) (λg c e=>by cases e) λ_ _=>⟨h0,Ft,none,Gy ..,rfl⟩,Gy ..⟩
theorem sD{B:Fg}:QU (B++[b]) B.length=some b:=by rw[Mx];simp
theorem lO{b A D:TI P}{E2:TypeId}{x y:Operand}{f:Array TypeId}(J:o.op=.call { callee:=.builtin .append,args := #[x,y],argTypes:=f })(hg:o.guard=none)(hd:o.dst=some d)(m:Nat.blt d n=true)(j:f[0]? = some A.t/\f[1]? = some D.t)(hu:A.un=.slice b.t)(l:D.un=.slice E2)
 (hz:zl b.z=some zs) (hc:(Nat.beq zs.length b.sz && Nat.ble b.by_ 4096 && Nat.blt 0 b.by_)=true) (h0:0<b.sz) (hx:evT L x=some (.one .nils)) (O:evT L y=some u) (G:zL B b.sz u=some l2) (s:∀c∈l2,c.length=b.sz)
 (hm:l2.length<8589934592) (e:zL (B++[.row false b.t b.sz []]) b.sz u=some l2) {L1:Sg} {B1 C:Fg} (H:sF (Ap B.length) L=some L1) (R:Mb (KA (Ap B.length)) (B++[.row false b.t b.sz []])=some B1) (q:QY B1 B.length (.row false b.t b.sz l2)=some C) (k:N ((d,.v (.one (.orow B.length b.sz none)))::L1) C):W1 P arr n o N L B:=by
 intro F E M a w K Q h I;have g:a.eval x=.slice none 0 0:=by
  have r:∀v,LRep w M v .nils->v=.slice none 0 0:=λv h=>by cases h;rfl
  exact r _ (h.evT hx)
 obtain⟨E',M',S,U⟩:=h.ownNil (T:=b.t) (sz:=b.sz) h0;refine BF (i:=B.length) (p:=none) (len:=0) (ls:=[]) (new:=l2) J hg hd m j hu l hz hc S ⟨none,0,U,Ft,?_⟩ (by unfold Io;simp only[sD];rw[show Nat.beq b.sz b.sz=true from Nat.beq_refl _];rfl) sD O e s Ft (by simpa using hm) H R q k I;exact⟨g,rfl,rfl⟩
theorem W1.appendF{f ti tj:TI P}{E2:TypeId}{x y:Operand}{j:Array TypeId}{l1:Ff}(ho:o.op=.call { callee:=.builtin .append,args := #[x,y],argTypes:=j })(hg:o.guard=none)(hd:o.dst=some d)(R:Nat.blt d n=true)(hat:j[0]? = some ti.t/\j[1]? = some tj.t)(hu:ti.un=.slice f.t)(hu2:tj.un=.slice E2)
 (hz:zl f.z=some zs) (hc:(Nat.beq zs.length f.sz && Nat.ble f.by_ 4096 && Nat.blt 0 f.by_)=true) (h0:0<f.sz) (hx:evT L x=some (.one (.frow l1))) (r:∀c∈l1,c.length=f.sz) (hy:evT L y=some u) (s:zL B f.sz u=some l2) (C:∀c∈l2,c.length=f.sz)
 (hk0:0<l2.length) (hm:l1.length+l2.length<8589934592) (k:N ((d,.v (.one (.orow B.length f.sz none)))::L) (B++[.row false f.t f.sz (l1++l2)])):W1 P arr n o N L B:=by
 intro F E M a w K Q h hK;simp only[Zr]at hc;obtain⟨⟨c1,D⟩,O⟩:=hc;have c1:=Qx c1;have D:=Zj D;rw[Jb]at O;obtain⟨info,l,G⟩:=f.hi;rw[<-G]at D O;have hzl:=(BW (w:=w) (M:=M) hz).len;obtain⟨J,hn,U⟩:=h.src (h.evT hy) s C;have X:∃A,a.eval x=.slice A l1.length l1.length/\LRep w M (.slice A l1.length l1.length) (.row l1):=by
  have T:∀v,LRep w M v (.frow l1)->∃A,v=.slice A l1.length l1.length/\LRep w M (.slice A l1.length l1.length) (.row l1):=λv h=>by
   cases h with
   |frow A _ h=>exact⟨A,rfl,h⟩
  exact T _ (h.evT hx)
 obtain⟨A,hv,hr1⟩:=X;obtain⟨H,Z,xH⟩:=tV hr1 r;obtain⟨w',g,c,ex,p,I,W,S,hmc,hc63,hcell,i⟩:=Qip (P:=P) (w:=w) (e:=a.eval) (size:=f.sz) (m:=l1.length) (k:=l2.length) (cs:=H.flatten) (news:=J.flatten) (zs:=f.z.cells.toList) ho hat hv rfl (TI.hu' hu) (TI.hu' hu2) l D O f.hsz f.hz Ft Fo xH U hk0 hm;rw[<-X3]at hcell i;have V:(l1++l2).length=l1.length+l2.length:=Qw;have h2:=h.fresh I (m:=(l1++l2).length) (b:=.row false f.t f.sz (l1++l2)) (q:=some (g,c)) (λg' c' e=>by injection e with e;injection e with e1 e2;subst e1;exact⟨W,S⟩) λY _=>⟨h0,λz hz=>(Qr.1 hz).elim (r z) (C z),some (g,c),by rw[Gy],_,ex,(Z.append hn).imp λ_ _ _ h=>h.imp λ_ _ _ h=>h.keep Y,hcell,i,Fo,hc63⟩
 refine Cd hg p (hd ▸ hK _ _ _ _ _ _ (h2.put (u:=.v (.one (.orow B.length f.sz none))) R ⟨some (g,c),(l1++l2).length,Gy ..,Ft,?_⟩) k);simp only[Wh,dZ,Zw,Ww];exact⟨Fo,0,by rw[V],λ_=>Ft⟩
end Orr
namespace Orr
open Go
variable{P:Program}{arr:Array Oper}{n:Nat}{o:Oper}{N:Sg->Fg->Prop}{L L':Sg}{B B':Fg}{F:Fr}{E E':Li}{M M':Nat->Prop}{a:Act}{w w':World}
variable{v:Value}{news:List Value}
theorem Src.take{size k m:Nat}(h:Src w v size k news)(hm:m<=k):(Builtin.firstCells size m v).run P w=.ok (news.take (m*size)).toArray w:=by
 obtain⟨hl,A,c,rfl,hA⟩:=h;have h2:Src w (.slice A m c) size m (news.take (m*size)):=⟨by rw[Qt,hl,Z8 (Qz _ hm)],A,c,rfl,λh0=>by
  obtain⟨b,o,e,hc⟩:=hA Fo;refine⟨b,o,e,λj v d=>hc j v ?_⟩;rw[Jl]at d
  split at d
  .exact d
  .cases d⟩
 have:=Bv (P:=P) h2;cases A <;> exact this
variable{e:Operand->Value}
theorem Q2h{T l g h m c k size m' q:Nat}{x y:Operand}{cs:List Value}{d:Array TypeId}(r:o.op=.call { callee:=.builtin .copy,args := #[x,y],argTypes:=d })(j:d[0]? = some T)(hx:e x=.slice (some ⟨g,h,none⟩) m c)(s:e y=v)(hu:∀w,(underlying T).run P w=.ok (.slice l) w)(hs:∀w,(Go.sizeOf l).run P w=.ok size w)
 (b:Src w v size k news) (hm:m'=min m k) (hg:w.heap[g]? = some (.cells cs.toArray q (0,0))) (hl:h+m'*size≤cs.length) (h1:∀u∈news,one u=true) :
 ∃w',(execOp e o).run P w=.ok (.value (.int .i64 (m':Int))) w'/\Wr g q (upd cs h (news.take (m'*size))) w w':=by
 have z:=b.take (P:=P) (m:=m') Fo;have p:(news.take (m'*size)).length=m'*size:=by
  rw[Qt,b.1,Z8 (Qz _ Fo)]
 obtain⟨w',hr,t⟩:=Ea (P:=P) (news.take (m'*size)) cs h 0 w hg Fo λu hu=>h1 u (Qn hu)
 refine⟨w',?_,t⟩;obtain⟨_,A,c',rfl,_⟩:=b;have i:(Builtin.lenOf (.slice A k c')).run P w=.ok k w:=rfl;have f:Nat.min k m=m':=by rw[hm];show min k m=min m k;omega
 simp[execOp,r,resolve,invoke,builtin,Builtin.copy_,hx,s,j,hu,hs,i,f,z,hr,goInt,Sem.run_bind]
theorem Qwp{T j c k size:Nat}{A:Option Addr}{x y:Operand}{f:Array TypeId}(p:o.op=.call { callee:=.builtin .copy,args := #[x,y],argTypes:=f })(g:f[0]? = some T)(hx:e x=.slice A 0 c)(q:e y=v)(hu:∀w,(underlying T).run P w=.ok (.slice j) w)(hs:∀w,(Go.sizeOf j).run P w=.ok size w)
 (b:Src w v size k news):(execOp e o).run P w=.ok (.value (.int .i64 (0:Int))) w:=by
 have i:=b.take (P:=P) (m:=0) Fo;rw[Yv,Ke]at i;obtain⟨_,l,c',rfl,_⟩:=b;have h:(Builtin.lenOf (.slice l k c')).run P w=.ok k w:=rfl;have d:Nat.min k 0=0:=Nat.min_zero k;cases A <;> simp[execOp,p,resolve,invoke,builtin,Builtin.copy_,hx,q,g,hu,hs,h,d,i,goInt,Sem.run_bind,Go.storeCells]
variable{vss:List (List Value)}
theorem yY{sz:Nat}(h:∀c∈vss,c.length=sz)(lo:Nat):vss.flatten=(vss.take lo).flatten++(vss.drop lo).flatten/\(lo≤vss.length->(vss.take lo).flatten.length=lo*sz) :=
 ⟨by rw[<-X3,Zi],λhl=>by rw[Pm λc hc=>h c (Qn hc),Qt,Z8 hl]⟩
theorem Qih{sz:Nat}(h:∀c∈vss,c.length=sz){m:Nat}(hm:m≤vss.length):vss.flatten.take (m*sz)=(vss.take m).flatten:=by
 obtain⟨h1,h2⟩:=yY h m;rw[h1,V6 (by rw[h2 hm];exact Ql _),Qo (by rw[h2 hm];exact Ql _)]
theorem tD:∀(p q r s:List Value),q.length=s.length->upd (p++(q++r)) p.length s=p++(s++r)
 | [],[],r,[],_=>by simp[I5]
 |
  [],x::q,r,y::s,h=>by
  have:=tD [] q r s (by simpa using h);simp only[Jn,Xt]at this;simp only[Jn,Xt,Xg,upd,this]
 | [],[],r,y::s,h=>by simp at h
 | [],x::q,r,[],h=>by simp at h
 |
  x::p,q,r,[],h=>by
  have:q=[]:=Qg (by simpa using h);subst this;simp[I5]
 |x::p,q,r,y::s,h=>by simp only[Xg,Q5,upd];rw[tD p q r (y::s) h];rfl
theorem W1.copy{ti b:TI P}{x y:Operand}{J:Array TypeId}{i d lo len m S:Nat}{fx:Bool}{p:Option (Nat×Nat)}{ls l2:Ff}{u:TV}(ho:o.op=.call { callee:=.builtin .copy,args := #[x,y],argTypes:=J })(hg:o.guard=none)(hd:o.dst=some d)(R:Nat.blt d n=true)(Y:J[0]? = some ti.t)(hu:ti.un=.slice b.t)
 (hx:evT L x=some (.one (.orow i b.sz p))) (V:Io B i b.sz p=some (lo,len)) (hb:QU B i=some (.row fx S b.sz ls)) (hy:evT L y=some u) (D:zL B b.sz u=some l2) (z:∀c∈l2,c.length=b.sz) (hm:m=min len l2.length)
 (hB:QY B i (.row fx S b.sz (ls.take lo++(l2.take m++ls.drop (lo+m))))=some B') (k:N ((d,.v (.one (.int .i64 (m:Int))))::L) B'):W1 P arr n o N L B:=by
 intro F E M a w K Q h hK;obtain⟨m0,q,he,U,hv⟩:=h.orow V (h.evT hx);have X:0<b.sz/\(∀c∈ls,c.length=b.sz)/\m0=ls.length:=by
  obtain⟨g0,g1,q',g2,_⟩:=h.blk hb;rw[he]at g2;injection g2 with g2;injection g2 with _ e2;exact⟨g0,g1,e2⟩
 obtain⟨hz0,hls,rfl⟩:=X;by_cases h0:0<len
 case neg =>
  obtain rfl:len=0:=Fo;obtain rfl:m=0:=Fo;obtain⟨l,hn,G⟩:=h.src (h.evT hy) D z;obtain⟨rfl,hi⟩:=Ds hB;have hBi:B[i]? = some (.row fx S b.sz ls):=by rw[<-Mx];exact hb
  have eB:B.set i (.row fx S b.sz (ls.take lo++(l2.take 0++ls.drop (lo+0))))=B:=by
   rw[Ke,Jn,X1,Zi];obtain⟨h1,h2⟩:=Qh.1 hBi;rw[<-h2];exact List.set_getElem_self h1
  rw[eB]at k;have hA:∃A c,a.eval x=.slice A 0 c:=by
   rcases q with _|⟨g,c⟩
   .exact⟨_,_,hv.1⟩
   .obtain⟨_,ad,s,_⟩:=hv;exact⟨_,_,s⟩
  obtain⟨A,c,s⟩:=hA;exact Cd hg (Qwp ho Y s rfl (TI.hu' hu) b.hsz G) (hd ▸ hK _ _ _ _ _ _ (h.put R (show ARep w M E _ (.v (.one (.int .i64 (0:Int)))) from LRep.int _ _)) k)
 rcases q with _|⟨g,c⟩
 .obtain⟨_,_,e⟩:=hv;omega
 obtain⟨hlc,ad,s,H⟩:=hv;have H:=H (.inr Fo);subst H;obtain⟨vss,ex,h3,f,h4,h5,h6,h7⟩:=h.rowM hb he;obtain⟨l,hn,G⟩:=h.src (h.evT hy) D z;obtain⟨rfl,_⟩:=Ds hB;have hvl:=h3.len;have hnl:=hn.len;have r:∀c∈l,c.length=b.sz:=λc hc=>by
  obtain⟨j,O⟩:=Zm.1 hc;have hl:j<l2.length:=by rw[<-hn.len];exact(Qh.1 O).1
  rw[(hn.get' O (Qf hl)).len];exact z _ (Xs hl)
 have T:∀u∈l.flatten,one u=true:=λq hq=>by
  obtain⟨c,hc,hqc⟩:=List.mem_flatten.1 hq;obtain⟨j,O⟩:=Zm.1 hc;have hjl:j<l2.length:=by rw[<-hn.len];exact(Qh.1 O).1
  exact((hn.get' O (Qf hjl)).x (E:=E)).xone q hqc
 have hfl:=Pm f;have I:lo*b.sz+m*b.sz<=(vss.flatten++ex).length:=by
  rw[Qw,hfl,<-Jj];exact Qa (Qz _ Fo) (Wg _ _)
 obtain⟨w',Z,hw⟩:=Q2h ho Y s rfl (TI.hu' hu) b.hsz G hm h4 I T;rw[Qih r Fo]at hw;have e1:vss.flatten++ex=(vss.take lo).flatten++(((vss.drop lo).take m).flatten++((vss.drop (lo+m)).flatten++ex)):=by
  rw[<-Zh,<-Zh,<-X3,<-X3,Zh,<-Yg,Zi,Zi]
 have l1:=(yY f lo).2 Fo;have l3:((vss.drop lo).take m).flatten.length=(l.take m).flatten.length:=by
  rw[Pm λc hc=>f c (Q3 (Qn hc)),Pm λc hc=>r c (Qn hc)];simp only[Qt,Za];congr 1;omega
 have e2:upd (vss.flatten++ex) (lo*b.sz) (l.take m).flatten=(vss.take lo++(l.take m++vss.drop (lo+m))).flatten++ex:=by
  rw[e1,<-l1,tD _ _ _ _ l3];simp
 rw[e2]at hw;have W:∀c∈ls.take lo++(l2.take m++ls.drop (lo+m)),c.length=b.sz:=λc hc=>by
  rcases Qr.1 hc with hc|hc
  .exact hls c (Qn hc)
  .rcases Qr.1 hc with hc|hc
   .exact z c (Qn hc)
   .exact hls c (Q3 hc)
 have C:(ls.take lo++(l2.take m++ls.drop (lo+m))).length=ls.length:=Fq;have hsa:=h.wr (b':=.row fx S b.sz (ls.take lo++(l2.take m++ls.drop (lo+m)))) hb rfl rfl he hw λU=>⟨hz0,W,some (g,c),by rw[C];exact he,vss.take lo++(l.take m++vss.drop (lo+m)),ex,?_,hw.at_,?_,by rw[C];exact h6,h7⟩
 .exact Cd hg Z (hd ▸ hK _ _ _ _ _ _ (hsa.put R (show ARep w' M E _ (.v (.one (.int .i64 (m:Int)))) from LRep.int _ _)) k)
 .have:=(h3.take lo).append ((hn.take m).append (h3.drop (lo+m)));exact this.imp λ_ _ _ h=>h.imp λ_ _ _ h=>h.keep U
 .have e3:(vss.take lo++(l.take m++vss.drop (lo+m))).flatten.length=vss.flatten.length:=by
   rw[hfl,Pm λc hc=>?_]
   .congr 1;simp;omega
   .rcases Qr.1 hc with hc|hc
    .exact f c (Qn hc)
    .rcases Qr.1 hc with hc|hc
     .exact r c (Qn hc)
     .exact f c (Q3 hc)
  rw[Qw,e3,<-Qw];exact h5
def Q0u(
 T:TT P) (
  L:Sg) (t len:Nat) (ps:List (Nat×Operand)):Option (Nat×Nat×Ff):=match T.find t with
  |
   some ti=>match ti.un with
   |
    .slice E=>match T.find E with
    |
     some te=>match zl te.z with
     |
      some zs=>match (Nat.beq zs.length te.sz && Nat.blt 0 te.sz && Nat.ble (len*te.sz) 16777216 && Nat.blt 0 len)with
      |
       true=>match evTp L ps with
       |
        some us=>match OT (λi=>some (i*te.sz,te.sz)) (zrep len zs) us with
        |
         some r=>match GF te.sz len r with
         |
          some ls=>match OE ls with
          |true=>some (te.t,te.sz,ls)
          |false=>none
         |none=>none
        |none=>none
       |none=>none
      |false=>none
     |none=>none
    |none=>none
   |_=>none
  |none=>none
theorem W1.litO{T:TT P}{t len d X sz:Nat}{ls:Ff}{ps:Array (Nat×Operand)}(ho:o.op=.buildSlice t len ps)(hl:Q0u T L t len ps.toList=some (X,sz,ls))(hg:o.guard=none)(hd:o.dst=some d)(R:Nat.blt d n=true)(k:N ((d,.v (.one (.orow B.length sz none)))::L) (B++[.row false X sz ls])):W1 P arr n o N L B:=by
 intro F E M a w K Q h hK;unfold Q0u at hl
 split at hl
 .rename_i ti l;have l:=TT.find_t l;subst l
  split at hl
  .rename_i E' hu
   split at hl
   .rename_i i p;have p:=TT.find_t p;subst p
    split at hl
    .rename_i zs hz
     split at hl
     .rename_i hc;simp only[Zr]at hc;obtain⟨⟨⟨W,G⟩,H⟩,Y⟩:=hc;have W:=Qx W;rw[Jb]at G Y;have H:=Zj H
      split at hl
      .rename_i us S
       split at hl
       .rename_i r hr
        split at hl
        .rename_i f O
         split at hl
         .rename_i hf;simp only[Option.some.injEq,Prod.mk.injEq]at hl;obtain⟨rfl,rfl,rfl⟩:=hl;have A:=BW (w:=w) (M:=M) hz;have hzl:=A.len;obtain⟨I,h4,h5⟩:=LC hr (sK A len).x (h.evTp S);obtain⟨vss,rfl,V,h8,U⟩:=IB h5 O hf;have C:=WF (P:=P) (TI.hu' hu) i.hsz i.hz (zs:=i.z.cells.toList) Ft Fo G H Y h4 w;have s:=V.len;have y:∀c∈vss,c.length=i.sz:=λc hc=>by
           obtain⟨j,Z⟩:=Zm.1 hc;have hl:j<f.length:=by rw[<-s];exact(Qh.1 Z).1
           rw[(V.get' Z (Qf hl)).len];exact h8 _ (Xs hl)
          have D:len<2^63:=by
           have:(2:Nat)^63=9223372036854775808:=Fp;have:=Yl len G;omega
          have hsz:=D5 (.cells vss.flatten.toArray i.t) w;have h2:=h.fresh (Bn (.cells vss.flatten.toArray i.t) w) (m:=f.length) (b:=.row false i.t i.sz f) (q:=some (w.heap.size,len)) (λg c e=>by injection e with e;injection e with e1 e2;subst e1;omega)
           (λJ hE=>⟨G,h8,some (w.heap.size,len),by rw[Gy],vss,[],V.imp λ_ _ _ h=>h.imp λ_ _ _ h=>h.keep J,by rw[I9,Zx],by rw[Zx,Pm y,s,U],Fo,D⟩)
          refine Cd hg (PS ho C) (hd ▸ hK _ _ _ _ _ _ (h2.put (u:=.v (.one (.orow B.length i.sz none))) R ?_) k);exact⟨some (w.heap.size,len),f.length,Gy ..,Ft,by simp[U],0,by simp[U],λ_=>Ft⟩
         .cases hl
        .cases hl
       .cases hl
      .cases hl
     .cases hl
    .cases hl
   .cases hl
  .cases hl
 .cases hl
end Orr
namespace Orr
open Go
variable{P:Program}
def lenB:Fg->Option Nat
 | []=>some 0
 | [_]=>some 1
 | [_,_]=>some 2
 | [_,_,_]=>some 3
 | [_,_,_,_]=>some 4
 | [_,_,_,_,_]=>some 5
 | [_,_,_,_,_,_]=>some 6
 | [_,_,_,_,_,_,_]=>some 7
 | [_,_,_,_,_,_,_,_]=>some 8
 | [_,_,_,_,_,_,_,_,_]=>some 9
 | [_,_,_,_,_,_,_,_,_,_]=>some 10
 | [_,_,_,_,_,_,_,_,_,_,_]=>some 11
 | [_,_,_,_,_,_,_,_,_,_,_,_]=>some 12
 |
  _::_::_::_::_::_::_::_::_::_::_::_::_::l=>match lenC l with
  |some k=>some k
  |none=>none
where lenC:Fg->Option Nat
 | []=>some 13
 | [_]=>some 14
 | [_,_]=>some 15
 | [_,_,_]=>some 16
 | [_,_,_,_]=>some 17
 | [_,_,_,_,_]=>some 18
 | [_,_,_,_,_,_]=>some 19
 | [_,_,_,_,_,_,_]=>some 20
 | [_,_,_,_,_,_,_,_]=>some 21
 | [_,_,_,_,_,_,_,_,_]=>some 22
 | [_,_,_,_,_,_,_,_,_,_]=>some 23
 | [_,_,_,_,_,_,_,_,_,_,_]=>some 24
 | [_,_,_,_,_,_,_,_,_,_,_,_]=>some 25
 | [_,_,_,_,_,_,_,_,_,_,_,_,_]=>some 26
 | [_,_,_,_,_,_,_,_,_,_,_,_,_,_]=>some 27
 | [_,_,_,_,_,_,_,_,_,_,_,_,_,_,_]=>some 28
 |_=>none
theorem B8{B:Fg}{k:Nat}(h:lenB B=some k):k=B.length:=by
 unfold lenB at h
 split at h <;> first|(injection h with h;subst h;rfl)|skip
 split at h <;> first|(cases h;done)|skip
 injection h with h;subst h;rename_i h;unfold lenB.lenC at h
 split at h <;> first|(injection h with h;subst h;rfl)|(cases h;done)
def XO:Fg->OB->Option Fg
 | [],b=>some [b]
 |
  x::l,b=>match XO l b with
  |some r=>some (x::r)
  |none=>none
theorem Da:∀{B a:Fg} {b:OB},XO B b=some a->a=B++[b]
 | [],_,_,h=>by simp only[XO,Option.some.injEq]at h;subst h;rfl
 |
  x::l,_,b,h=>by
  simp only[XO]at h
  split at h
  .rename_i r hr;injection h with h;subst h;rw[Da hr];rfl
  .cases h
def Qd3:Fe->Nat->Bool
 | [],0=>true
 |_::l,k+1=>Qd3 l k
 |_,_=>false
theorem qW:∀{l:Fe} {k:Nat},Qd3 l k=true->l.length=k
 | [],0,_=>rfl
 |_::l,k+1,h=>by simpa using qW (l:=l) (k:=k) h
 | [],_+1,h=>by cases h
 |_::_,0,h=>by cases h
def NX(sz:Nat):Ff->Option Nat
 | []=>some 0
 |
  [c]=>match Qd3 c sz with
  |true=>some 1
  |false=>none
 |
  c::l=>match Qd3 c sz with
  |
   true=>match NX sz l with
   |some k=>some (k+1)
   |none=>none
  |false=>none
theorem vK{sz:Nat}:∀{l:Ff} {k:Nat},NX sz l=some k->k=l.length/\∀c∈l,c.length=sz
 | [],k,h=>by simp only[NX,Option.some.injEq]at h;subst h;simp
 |
  [c],k,h=>by
  simp only[NX]at h
  split at h
  .rename_i hc;injection h with h;subst h;exact⟨rfl,λx hx=>by rw[List.mem_singleton.1 hx];exact qW hc⟩
  .cases h
 |
  c::d::l,k,h=>by
  simp only[NX]at h
  split at h
  .rename_i hc
   split at h
   .rename_i k' a;injection h with h;subst h;obtain⟨h1,h2⟩:=vK a;refine⟨by simp[h1],λx hx=>?_⟩;rcases Qm.1 hx with rfl|hx
    .exact qW hc
    .exact h2 x hx
   .cases h
  .cases h
abbrev St(P:Program):=Option (Sg×Fg×List (H P)×Ll×List Prop)
def Qyn(sz:Nat)(l2:Ff):List (H P)->Option (Nat×List (H P)×Ll)
 |
  .s (l:=l) (sz:=s) _::h=>match Nat.beq s sz with
  |true=>some (l2.length,h,[(.l l2,.l l)])
  |false=>none
 |
  h=>match NX sz l2 with
  |some k=>some (k,h,[])
  |none=>none
theorem wC{sz k:Nat}{l2:Ff}{h f:List (H P)}{q:Ll}(ha:Qyn sz l2 h=some (k,f,q))(b:EqOk q):k=l2.length/\∀c∈l2,c.length=sz:=by
 unfold Qyn at ha
 split at ha
 .rename_i l s hs h2
  split at ha
  .rename_i e;obtain rfl:=Qx e;injection ha with ha;injection ha with h1 ha;injection ha with _ h3;subst h1;subst h3;have a:=b.hd;injection a with a;subst a;exact⟨rfl,hs⟩
  .cases ha
 .split at ha
  .rename_i k' d;injection ha with ha;injection ha with h1 ha;subst h1;exact vK d
  .cases ha
def Qw1(p:Option (Nat×Nat))(ls l2:Ff):Option Ff:=match p with
 |none=>some (ls++l2)
 |some (_,len)=>some (ls.take len++l2)
def apE(T:TT P)(
 L:Sg) (
  B:Fg) (h:List (H P)) (d:Nat) (xs:List Operand) (ts:Array TypeId):St P:=match xs with
  |
   [x,y]=>match ts[0]?,ts[1]? with
   |
    some t,some t2=>match T.find t,T.find t2 with
    |
     some ti,some tj=>match ti.un,tj.un with
     |
      .slice E,.slice _=>match T.find E with
      |
       some te=>match zl te.z with
       |
        some zs=>match (Nat.beq zs.length te.sz && Nat.ble te.by_ 4096 && Nat.blt 0 te.by_)with
        |
         true=>match evT L y with
         |
          some u=>match zL B te.sz u with
          |
           some l2=>match Qyn te.sz l2 h with
           |
            some (k,h,q)=>match evT L x with
            |
             some (.one (.orow i sz p))=>match Nat.beq sz te.sz with
             |
              true=>match Io B i sz p with
              |
               some (0,len)=>match QU B i with
               |
                some (.row false T' sz' ls)=>match (Nat.beq T' te.t && Nat.beq sz' te.sz)with
                |
                 true=>match Qw1 p ls l2 with
                 |
                  some new=>match sF (Ap i) L with
                  |
                   some L1=>match Mb (KA (Ap i)) B with
                   |
                    some B1=>match QY B1 i (.row false T' sz' new)with
                    |some B2=>some ((d,.v (.one (.orow i sz none)))::L1,B2,h,q,[len+k<8589934592])
                    |none=>none
                   |none=>none
                  |none=>none
                 |none=>none
                |false=>none
               |_=>none
              |_=>none
             |false=>none
            |
             some (.one .nils)=>match Nat.blt 0 te.sz,lenB B,XO B (.row false te.t te.sz [])with
             |
              true,some i,some B0=>match zL B0 te.sz u with
              |
               some l3=>match sF (Ap i) L with
               |
                some L1=>match Mb (KA (Ap i)) B0 with
                |
                 some B1=>match QY B1 i (.row false te.t te.sz l3)with
                 |some B2=>some ((d,.v (.one (.orow i te.sz none)))::L1,B2,h,(.l l2,.l l3)::q,[k<8589934592])
                 |none=>none
                |none=>none
               |none=>none
              |none=>none
             |_,_,_=>none
            |
             some (.one (.frow l1))=>match Nat.blt 0 te.sz,lenB B,XO B (.row false te.t te.sz (l1++l2))with
             |true,some i,some B1=>some ((d,.v (.one (.orow i te.sz none)))::L,B1,h,q,[0<k,(∀z∈l1,z.length=te.sz),l1.length+k<8589934592])
             |_,_,_=>none
            |_=>none
           |none=>none
          |none=>none
         |none=>none
        |false=>none
       |none=>none
      |none=>none
     |_,_=>none
    |_,_=>none
   |_,_=>none
  |_=>none
def Q1v(
 T:TT P) (
  L:Sg) (B:Fg) (h:List (H P)) (t:TypeId) (x y:Operand):St P:=match T.find t with
  |
   some ti=>match evT L y with
   |
    some u=>match KU u with
    |
     some ys=>match Nat.beq ys.length ti.sz with
     |
      true=>match evT L x with
      |
       some (.one (.ow i off))=>match QU B i with
       |
        some (.blk T' xs)=>match PH xs off ys with
        |
         some r=>match QY B i (.blk T' r)with
         |some B'=>some (L,B',h,[],[])
         |none=>none
        |none=>none
       |_=>none
      |
       some (.one (.oel i sz k off))=>match QU B i with
       |
        some (.row fx T' sz' ls)=>match Nat.beq sz sz',Eg ys with
        |
         true,true=>match off,Nat.beq ti.sz sz with
         |
          0,true=>match QY B i (.row fx T' sz' (ls.set k ys))with
          |some B'=>some (L,B',h,[],[k<ls.length])
          |none=>none
         |
          _,_=>match h with
          |
           .x (l:=l') (i:=k') (xs:=xs) _::h=>match PH xs off ys with
           |
            some r=>match QY B i (.row fx T' sz' (ls.set k r))with
            |some B'=>some (L,B',h,[(.l ls,.l l'),(.n k,.n k')],[])
            |none=>none
           |none=>none
          |_=>none
        |_,_=>none
       |_=>none
      |_=>none
     |false=>none
    |none=>none
   |none=>none
  |none=>none
def coE(T:TT P)(
 L:Sg) (
  B:Fg) (h:List (H P)) (d:Nat) (xs:List Operand) (ts:Array TypeId):St P:=match xs with
  |
   [x,y]=>match ts[0]? with
   |
    some t=>match T.find t with
    |
     some ti=>match ti.un with
     |
      .slice E=>match T.find E with
      |
       some te=>match evT L x,evT L y with
       |
        some (.one (.orow i sz p)),some u=>match Nat.beq sz te.sz with
        |
         true=>match Io B i sz p,QU B i,zL B te.sz u with
         |
          some (lo,len),some (.row fx T' sz' ls),some l2=>match h with
          |
           .s (l:=l) (sz:=s) _::.i m::h=>match Nat.beq sz' te.sz && Nat.beq s te.sz with
           |
            true=>match QY B i (.row fx T' sz' (ls.take lo++(l2.take m++ls.drop (lo+m))))with
            |some B'=>some ((d,.v (.one (.int .i64 (m:Int))))::L,B',h,[(.l l2,.l l)],[m=min len l2.length])
            |none=>none
           |false=>none
          |_=>none
         |_,_,_=>none
        |false=>none
       |_,_=>none
      |none=>none
     |_=>none
    |none=>none
   |none=>none
  |_=>none
def efE(T:TT P)(
 n:Nat) (L:Sg) (
  B:Fg) (h:List (H P)) (dst:Option Nat) (op:Op):St P:=match dst with
  |
   some d=>match Nat.blt d n with
   |
    true=>match op with
    |
     .alloc t=>match T.find t with
     |
      some ti=>match zl ti.z with
      |
       some zs=>match lenB B,XO B (.blk ti.t zs)with
       |some i,some B'=>some ((d,.v (.one (.ow i 0)))::L,B',h,[],[])
       |_,_=>none
      |none=>none
     |none=>none
    |
     .box t x=>match evT L x with
     |
      some u=>match KU u with
      |
       some xs=>match lenB B,XO B (.blk t xs)with
       |some i,some B'=>some ((d,.v (.one (.ow i 0)))::L,B',h,[],[])
       |_,_=>none
      |none=>none
     |none=>none
    |
     .buildSlice t len ps=>match h with
     |
      .lo::h=>match Q0u T L t len ps.toList,lenB B with
      |
       some (E0,sz,ls),some i=>match XO B (.row false E0 sz ls)with
       |some B'=>some ((d,.v (.one (.orow i sz none)))::L,B',h,[],[])
       |none=>none
      |_,_=>none
     |
      h=>match Q0t T L t len ps.toList with
      |some u=>some ((d,.v u)::L,B,h,[],[])
      |none=>none
    |
     .makeSlice t x y=>match T.find t with
     |
      some ti=>match ti.un with
      |
       .slice E=>match T.find E with
       |
        some te=>match zl te.z with
        |
         some zs=>match (Nat.beq zs.length te.sz && Nat.blt 0 te.sz && Nat.ble te.by_ 256)with
         |
          true=>match evT L x,evT L y with
          |
           some (.one (.int .i64 z1)),some (.one (.int .i64 z2))=>match h with
           |
            .i m::.i k::h=>match lenB B,XO B (.row false te.t te.sz (List.replicate m zs))with
            |some i,some B'=>some ((d,.v (.one (.orow i te.sz none)))::L,B',h,[(.z z1,.z (m:Int)),(.z z2,.z (k:Int))],[m<=k,k<274877906944])
            |_,_=>none
           |_=>none
          |_,_=>none
         |false=>none
        |none=>none
       |none=>none
      |_=>none
     |none=>none
    |
     .makeMap _ none=>match lenB B,XO B (.mpb [])with
     |some i,some B'=>some ((d,.v (.one (.omap i)))::L,B',h,[],[])
     |_,_=>none
    | .call { callee:=.builtin .append,args:=xs,argTypes:=ts }=>apE T L B h d xs.toList ts
    | .call { callee:=.builtin .copy,args:=xs,argTypes:=ts }=>coE T L B h d xs.toList ts
    |
     .move x=>match evA L x with
     |some u=>some ((d,u)::L,B,h,[],[])
     |none=>none
    |
     op=>match pv T L B h op with
     |some (t,h,q,ob)=>some ((d,.v t)::L,B,h,q,ob)
     |none=>none
   |false=>none
  |
   none=>match op with
   | .store t x y=>Q1v T L B h t x y
   |
    .mapUpdate t x y z=>match T.find t with
    |
     some ti=>match ti.md with
     |
      some _=>match evT L x,evT L y,evT L z with
      |
       some (.one (.omap i)),some (.agg ys),some (.one v)=>match QU B i,FM ys with
       |
        some (.mpb es),some ks=>match Nat.beq ks.length 3 && Qdr v with
        |
         true=>match QY B i (.mpb (Ig es ks v))with
         |some B'=>some (L,B',h,[],[])
         |none=>none
        |false=>none
       |_,_=>none
      |_,_,_=>none
     |none=>none
    |none=>none
   |_=>none
end Orr
namespace Orr
open Go
variable{P:Program}{arr:Array Oper}{n:Nat}{o:Oper}{N:Sg->Fg->Prop}{L L':Sg}{B B':Fg}{hs h':List (H P)}{q:Ll}{ob:List Prop}
theorem Cm{α β γ δ ε:Type}{a e:α}{b b':β}{c c':γ}{d d':δ}{x x':ε}(h:some (a,b,c,d,x)=some (e,b',c',d',x')):a=e/\b=b'/\c=c'/\d=d'/\x=x':=by
 injection h with h;injection h with h1 h;injection h with h2 h;injection h with h3 h;injection h with h4 h5;exact⟨h1,h2,h3,h4,h5⟩
variable{T:TT P}{d:Nat}
theorem Qym{xs M:_}(F:o.op=.call { callee:=.builtin .append,args:=xs,argTypes:=M })(hg:o.guard=none)(hd:o.dst=some d)(s:Nat.blt d n=true)(h:apE T L B hs d xs.toList M=some (L',B',h',q,ob))(C:EqOk q)(c:Gi ob)(k:N L' B'):W1 P arr n o N L B:=by
 unfold apE at h
 split at h
 .rename_i x y E;have I:xs = #[x,y]:=by cases xs;simpa using E
  subst I
  split at h
  .rename_i t S ht A
   split at h
   .rename_i V Y l z;have l:=TT.find_t l;subst l;have z:=TT.find_t z;subst z
    split at h
    .rename_i E' E2 hu m
     split at h
     .rename_i U v;have v:=TT.find_t v;subst v
      split at h
      .rename_i zs hz
       split at h
       .rename_i hc
        split at h
        .rename_i u G
         split at h
         .rename_i l2 f
          split at h
          .rename_i W h2 R hsz
           split at h
           .rename_i i sz p hx
            split at h
            .rename_i e;obtain rfl:=Qx e
             split at h
             .rename_i len a
              split at h
              .rename_i X Q ls hb
               split at h
               .rename_i e;simp only[Zr]at e;obtain rfl:=Qx e.1;obtain rfl:=Qx e.2
                split at h
                .rename_i new b
                 split at h
                 .rename_i L1 D
                  split at h
                  .rename_i B1 K
                   split at h
                   .rename_i O r;obtain⟨rfl,rfl,rfl,rfl,rfl⟩:=Cm h;obtain⟨rfl,g⟩:=wC hsz C;refine W1.append F hg hd s ⟨ht,A⟩ hu m hz hc hx a hb G f g ?_ c D K r k;unfold Qw1 at b
                    split at b
                    .injection b with b;simp only[Io,hb]at a
                     split at a
                     .injection a with a;injection a with _ e2;rw[<-b,<-e2,Q6]
                     .cases a
                    .injection b with b;simp only[Io]at a;injection a with a;injection a with _ e2;rw[<-b,e2]
                   .cases h
                  .cases h
                 .cases h
                .cases h
               .cases h
              .cases h
             .cases h
            .cases h
           .rename_i hx
            split at h
            .rename_i i B0 h0 hi w
             split at h
             .rename_i l3 j
              split at h
              .rename_i L1 D
               split at h
               .rename_i B1 K
                split at h
                .rename_i O r;obtain⟨rfl,rfl,rfl,rfl,rfl⟩:=Cm h;have J:=C.hd;injection J with J;subst J;obtain⟨rfl,g⟩:=wC hsz C.tl;obtain rfl:=B8 hi;obtain rfl:=Da w;rw[Jb]at h0;exact lO F hg hd s ⟨ht,A⟩ hu m hz hc h0 hx G f g c j D K r k
                .cases h
               .cases h
              .cases h
             .cases h
            .cases h
           .rename_i l1 hx
            split at h
            .rename_i i B0 h0 hi w;obtain⟨rfl,rfl,rfl,rfl,rfl⟩:=Cm h;obtain⟨rfl,g⟩:=wC hsz C;obtain rfl:=B8 hi;obtain rfl:=Da w;rw[Jb]at h0;rw[El,El]at c;exact W1.appendF F hg hd s ⟨ht,A⟩ hu m hz hc h0 hx c.2.1 G f g c.1 c.2.2 k
            .cases h
           .cases h
          .cases h
         .cases h
        .cases h
       .cases h
      .cases h
     .cases h
    .cases h
   .cases h
  .cases h
 .cases h
theorem Qwa{t:TypeId}{x y:Operand}(f:o.op=.store t x y)(hg:o.guard=none)(hd:o.dst=none)(h:Q1v T L B hs t x y=some (L',B',h',q,ob))(l:EqOk q)(j:Gi ob)(k:N L' B'):W1 P arr n o N L B:=by
 unfold Q1v at h
 split at h
 .rename_i z a;have a:=TT.find_t a;subst a
  split at h
  .rename_i u g
   split at h
   .rename_i A hl
    split at h
    .rename_i e;have hsz:=Qx e
     split at h
     .rename_i i off hx
      split at h
      .rename_i v xs hb
       split at h
       .rename_i r hr
        split at h
        .rename_i s c;obtain⟨rfl,rfl,rfl,rfl,rfl⟩:=Cm h;exact W1.store f hg hd hx hb g hl hsz hr c k
        .cases h
       .cases h
      .cases h
     .rename_i i sz C off hx
      split at h
      .rename_i fx v w ls hb
       split at h
       .rename_i e p;obtain rfl:=Qx e
        split at h
        .rename_i b;have b:=Qx b
         split at h
         .rename_i s c;obtain⟨rfl,rfl,rfl,rfl,rfl⟩:=Cm h;exact W1.storeE f hg hd hx hb g hl hsz p j (.inl ⟨rfl,Fo,rfl⟩) c k
         .cases h
        .split at h
         .rename_i l' k' xs m h2
          split at h
          .rename_i r hr
           split at h
           .rename_i s c;obtain⟨rfl,rfl,rfl,rfl,rfl⟩:=Cm h;have d:=l.hd;injection d with d;subst d;have b:=l.tl.hd;injection b with b;subst b;exact W1.storeE f hg hd hx hb g hl hsz p (Qh.1 m).1 (.inr ⟨xs,m,hr⟩) c k
           .cases h
          .cases h
         .cases h
       .cases h
      .cases h
     .cases h
    .cases h
   .cases h
  .cases h
 .cases h
theorem Qzt{xs A:_}(F:o.op=.call { callee:=.builtin .copy,args:=xs,argTypes:=A })(hg:o.guard=none)(hd:o.dst=some d)(z:Nat.blt d n=true)(h:coE T L B hs d xs.toList A=some (L',B',h',q,ob))(C:EqOk q)(v:Gi ob)(k:N L' B'):W1 P arr n o N L B:=by
 unfold coE at h
 split at h
 .rename_i x y j;have r:xs = #[x,y]:=by cases xs;simpa using j
  subst r
  split at h
  .rename_i t w
   split at h
   .rename_i M a;have a:=TT.find_t a;subst a
    split at h
    .rename_i E' hu
     split at h
     .rename_i K b;have b:=TT.find_t b;subst b
      split at h
      .rename_i i sz p u hx G
       split at h
       .rename_i e;obtain rfl:=Qx e
        split at h
        .rename_i lo len fx Q J ls l2 c hb f
         split at h
         .rename_i l s hsz m h2
          split at h
          .rename_i hc;rw[Zr]at hc;obtain⟨D,E⟩:=hc;obtain rfl:=Qx D;obtain rfl:=Qx E
           split at h
           .rename_i O I;obtain⟨rfl,rfl,rfl,rfl,rfl⟩:=Cm h;have g:=C.hd;injection g with g;subst g;exact W1.copy F hg hd z w hu hx c hb G f hsz v I k
           .cases h
          .cases h
         .cases h
        .cases h
       .cases h
      .cases h
     .cases h
    .cases h
   .cases h
  .cases h
 .cases h
theorem iZ{s:Option Nat}{G:Op}(g:o.op=G)(hd:o.dst=s)(hg:o.guard=none)(h:efE T n L B hs s G=some (L',B',h',q,ob))(p:EqOk q)(f:Gi ob)(k:N L' B'):W1 P arr n o N L B:=by
 unfold efE at h
 split at h
 .rename_i d
  split at h
  .rename_i c
   split at h
   .split at h
    .rename_i C b;have b:=TT.find_t b;subst b
     split at h
     .rename_i zs hz
      split at h
      .rename_i i r hi j;obtain⟨rfl,rfl,rfl,rfl,rfl⟩:=Cm h;obtain rfl:=B8 hi;obtain rfl:=Da j;exact W1.new hg hd c (λF E M a w h=>⟨_,by simpa using Qwn (w:=w) (e:=a.eval) g C.hz,(BW hz).x⟩) k
      .cases h
     .cases h
    .cases h
   .split at h
    .rename_i u hx
     split at h
     .rename_i xs hl
      split at h
      .rename_i i r hi j;obtain⟨rfl,rfl,rfl,rfl,rfl⟩:=Cm h;obtain rfl:=B8 hi;obtain rfl:=Da j;exact W1.new hg hd c (λF E M a w h=>⟨_,by simpa using Q40 (w:=w) (e:=a.eval) g rfl,YX (h.evT hx) hl⟩) k
      .cases h
     .cases h
    .cases h
   .split at h
    .split at h
     .rename_i O sz ls i hl hi
      split at h
      .rename_i r j;obtain⟨rfl,rfl,rfl,rfl,rfl⟩:=Cm h;obtain rfl:=B8 hi;obtain rfl:=Da j;exact W1.litO g hl hg hd c k
      .cases h
     .cases h
    .split at h
     .rename_i u hu;obtain⟨rfl,rfl,rfl,rfl,rfl⟩:=Cm h;exact W1.lit g hu hg hd c k
     .cases h
   .split at h
    .rename_i C b;have b:=TT.find_t b
     split at h
     .rename_i E' hu
      split at h
      .rename_i U l;have l:=TT.find_t l;subst l
       split at h
       .rename_i zs hz
        split at h
        .rename_i hc
         split at h
         .rename_i X S hx z
          split at h
          .rename_i m W h2
           split at h
           .rename_i i r hi j;obtain⟨rfl,rfl,rfl,rfl,rfl⟩:=Cm h;obtain rfl:=B8 hi;obtain rfl:=Da j;have y:=p.hd;injection y with y;have A:=p.tl.hd;injection A with A;exact W1.make (kd:=.i64) (T:=T) g hg hd c b hu hz hc hx z y A f.1 f.2 k
           .cases h
          .cases h
         .cases h
        .cases h
       .cases h
      .cases h
     .cases h
    .cases h
   .split at h
    .rename_i i r hi j;obtain⟨rfl,rfl,rfl,rfl,rfl⟩:=Cm h;obtain rfl:=B8 hi;obtain rfl:=Da j;exact W1.mkMap g hg hd c k
    .cases h
   .exact Qym g hg hd c h p f k
   .exact Qzt g hg hd c h p f k
   .split at h
    .rename_i u hu;obtain⟨rfl,rfl,rfl,rfl,rfl⟩:=Cm h;intro F E M a w K Q hs J;exact Cd hg (Qbl (.inl g) rfl) (hd ▸ J _ _ _ _ _ _ (hs.put c (hs.ev hu)) k)
    .cases h
   .split at h
    .rename_i t h2 R I hp;obtain⟨rfl,rfl,rfl,rfl,rfl⟩:=Cm h;exact W1.val (g ▸ Q39 hp p f) hg hd c k
    .cases h
  .cases h
 .split at h
  .exact Qwa g hg hd h p f k
  .split at h
   .rename_i C b;have b:=TT.find_t b;subst b
    split at h
    .rename_i d hmd
     split at h
     .rename_i i V v hx z hz
      split at h
      .rename_i es ks hb D
       split at h
       .rename_i hc;rw[Zr]at hc
        split at h
        .rename_i r j;obtain⟨rfl,rfl,rfl,rfl,rfl⟩:=Cm h;exact W1.mapUp (T:=T) g hg hd hmd hx hb z D (Qx hc.1) hz hc.2 j k
        .cases h
       .cases h
      .cases h
     .cases h
    .cases h
   .cases h
  .cases h
def gdE(arr:Array Oper)(L:Sg)(o:Oper):Option Bool:=match o.guard with
 |none=>some true
 |
  some (j,want)=>match (arr[j]?).bind (·.dst)with
  |
   some t'=>match lk L t' with
   |some (.cnd true (.one (.bool true)))=>some want
   |
    some (.cnd true (.one (.bool false)))=>match want with
    |true=>some false
    |false=>some true
   |some (.cnd false _)=>some false
   |_=>none
  |none=>none
def ung(o:Oper):Oper:={ o with guard:=none }
theorem Qmz{b:Bool}(h:gdE arr L o=some b){F:Fr}{E:Li}{M:Nat->Prop}{a:Act}{w:World}(hs:SA F n L B E M a w):Region.wanted o (yielded arr a.tmps)=b:=by
 unfold gdE at h
 split at h
 .rename_i hg;injection h with h;subst h;simp[Region.wanted,hg]
 .rename_i j want hg
  split at h
  .rename_i c d
   split at h
   .rename_i hl;injection h with h;subst h;obtain⟨vb,h1,h2⟩:=hs.slots c _ hl;have h2:=Ld (E:=E) (h2.1 rfl);subst h2;simp[Region.wanted,yielded,hg,d,h1]
   .rename_i hl;obtain⟨vb,h1,h2⟩:=hs.slots c _ hl;have h2:=Ld (E:=E) (h2.1 rfl);subst h2
    split at h <;> (injection h with h;subst h;simp[Region.wanted,yielded,hg,d,h1])
   .rename_i hl;injection h with h;subst h;obtain⟨vb,h1,h2⟩:=hs.slots c _ hl;obtain rfl:=h2.2 rfl;simp[Region.wanted,yielded,hg,d,h1,undef]
   .cases h
  .cases h
theorem W1.on(hg:gdE arr L o=some true)(h:W1 P arr n (ung o) N L B):W1 P arr n o N L B:=λF E M a w K Q hs b=>by
 have:=h F E M a w K Q hs b;unfold stp at this ⊢;rw[if_pos (Qmz hg hs)];rw[if_pos (by simp[Region.wanted,ung])]at this;exact this
def Qoj(n:Nat)(L:Sg):Option Nat->Option Sg
 |
  some d=>match Nat.blt d n with
  |true=>some ((d,.cnd false (.one (.bool false)))::L)
  |false=>none
 |none=>some L
theorem W1.off{L':Sg}(hg:gdE arr L o=some false)(hd:Qoj n L o.dst=some L')(k:N L' B):W1 P arr n o N L B:=λF E M a w K Q hs c=>by
 unfold stp;rw[if_neg (by rw[Qmz hg hs];simp)];unfold Qoj at hd
 split at hd
 .rename_i d he
  split at hd
  .rename_i b;injection hd with hd;subst hd;rw[he];exact c _ _ _ _ _ _ (hs.put b (show ARep w M E undef (.cnd false _) from⟨λh=>(by cases h),λ_=>rfl⟩)) k
  .cases hd
 .rename_i he;injection hd with hd;subst hd;rw[he];exact c _ _ _ _ _ _ hs k
def stE(T:TT P)(n:Nat)(arr:Array Oper)(L:Sg)(B:Fg)(h:List (H P))(o:Oper):St P:=match gdE arr L o with
 |some true=>efE T n L B h o.dst o.op
 |
  some false=>match Qoj n L o.dst with
  |some L'=>some (L',B,h,[],[])
  |none=>none
 |none=>none
theorem Q1u(h:stE T n arr L B hs o=some (L',B',h',q,ob))(c:EqOk q)(a:Gi ob)(k:N L' B'):W1 P arr n o N L B:=by
 unfold stE at h
 split at h
 .rename_i hg;exact W1.on hg (iZ (o:=ung o) rfl rfl rfl h c a k)
 .rename_i hg
  split at h
  .rename_i d b;obtain⟨rfl,rfl,rfl,rfl,rfl⟩:=Cm h;exact W1.off hg b k
  .cases h
 .cases h
end Orr
namespace Orr
open Go
variable{F:Fr}{bl bl' bl1 bl2:Nat->OB}{U U' U1 U2:Nat->Prop}{E E' E1 E2:Li}{M M1:Nat->Prop}{w w1:World}
def rD(ρ:Nat->Nat):LV->LV
 | .ow i o=>.ow (ρ i) o
 |x=>x
def HK(ρ:Nat->Nat):LV->LV
 | .ow i o=>.ow (ρ i) o
 | .orow i s p=>.orow (ρ i) s p
 | .oel i s k o=>.oel (ρ i) s k o
 | .omap i=>.omap (ρ i)
 | .oif t i o=>.oif t (ρ i) o
 | .ofn f a b=>.ofn f (a.map (rD ρ)) (b.map (rD ρ))
 |x=>x
def DD(ρ:Nat->Nat):TV->TV
 | .one x=>.one (HK ρ x)
 | .agg xs=>.agg (xs.map (HK ρ))
def QX(ρ:Nat->Nat):OB->OB
 | .blk T xs=>.blk T (xs.map (HK ρ))
 |b=>b
theorem Ca{ρ:Nat->Nat}(b:OB):(QX ρ b).lv=b.lv/\(QX ρ b).mv=b.mv:=by cases b <;> exact⟨rfl,rfl⟩
section
variable{ρ:Nat->Nat}
variable{vs:List Value}
theorem YRep.to:∀{xs:Fe},F2 (YRep w M E) vs (xs.map (rD ρ))->(∀i∈VJ xs,E (ρ i)≠none->E' i=E (ρ i))->F2 (YRep w M E') vs xs:=by
 intro xs
 induction xs generalizing vs with
 |nil=>intro h _;cases h;exact .nil
 |
  cons x xs ih =>
  intro h a;cases h with
  |
   cons h0 h =>
   refine .cons ?_ (ih h λi hi=>a i (by cases x <;> first|exact hi|exact .tail _ hi));cases x <;> first|exact h0|skip
   obtain⟨g,c,m,e,rfl⟩:=h0;exact⟨g,c,m,(a _ (.head _) (by simp[e])).trans e,rfl⟩
theorem YRep.un:∀{xs:Fe},F2 (YRep w M E') vs xs->(∀i∈VJ xs,E' i≠none->E (ρ i)=E' i)->F2 (YRep w M E) vs (xs.map (rD ρ)):=by
 intro xs
 induction xs generalizing vs with
 |nil=>intro h _;cases h;exact .nil
 |
  cons x xs ih =>
  intro h a;cases h with
  |
   cons h0 h =>
   refine .cons ?_ (ih h λi hi=>a i (by cases x <;> first|exact hi|exact .tail _ hi));cases x <;> first|exact h0|skip
   obtain⟨g,c,m,e,rfl⟩:=h0;exact⟨g,c,m,(a _ (.head _) (by simp[e])).trans e,rfl⟩
variable{v:Value}
theorem XRep.to{x:LV}(h:XRep w M E v (HK ρ x))(a:∀i∈x.ids,E (ρ i)≠none->E' i=E (ρ i)):XRep w M E' v x:=by
 cases x <;> first|exact h|skip
 .obtain⟨g,c,m,e,rfl⟩:=h;exact⟨g,c,m,(a _ (.head _) (by simp[e])).trans e,rfl⟩
 .obtain⟨q,m,e,h⟩:=h;exact⟨q,m,(a _ (.head _) (by simp[e])).trans e,h⟩
 .obtain⟨g,c,m,e,rfl⟩:=h;exact⟨g,c,m,(a _ (.head _) (by simp[e])).trans e,rfl⟩
 .obtain⟨vs,us,rfl,h1,h2⟩:=h;exact⟨vs,us,rfl,YRep.to h1 λi hi=>a i (Qr.2 (.inl hi)),YRep.to h2 λi hi=>a i (Qr.2 (.inr hi))⟩
 .obtain⟨g,c,m,e,rfl⟩:=h;exact⟨g,c,m,(a _ (.head _) (by simp[e])).trans e,rfl⟩
 .obtain⟨g,c,m,e,rfl⟩:=h;exact⟨g,c,m,(a _ (.head _) (by simp[e])).trans e,rfl⟩
theorem XRep.un{x:LV}(h:XRep w M E' v x)(a:∀i∈x.ids,E' i≠none->E (ρ i)=E' i):XRep w M E v (HK ρ x):=by
 cases x <;> first|exact h|skip
 .obtain⟨g,c,m,e,rfl⟩:=h;exact⟨g,c,m,(a _ (.head _) (by simp[e])).trans e,rfl⟩
 .obtain⟨q,m,e,h⟩:=h;exact⟨q,m,(a _ (.head _) (by simp[e])).trans e,h⟩
 .obtain⟨g,c,m,e,rfl⟩:=h;exact⟨g,c,m,(a _ (.head _) (by simp[e])).trans e,rfl⟩
 .obtain⟨vs,us,rfl,h1,h2⟩:=h;exact⟨vs,us,rfl,YRep.un h1 λi hi=>a i (Qr.2 (.inl hi)),YRep.un h2 λi hi=>a i (Qr.2 (.inr hi))⟩
 .obtain⟨g,c,m,e,rfl⟩:=h;exact⟨g,c,m,(a _ (.head _) (by simp[e])).trans e,rfl⟩
 .obtain⟨g,c,m,e,rfl⟩:=h;exact⟨g,c,m,(a _ (.head _) (by simp[e])).trans e,rfl⟩
variable{xs:Fe}
theorem F2.xto(h:F2 (XRep w M E) vs (xs.map (HK ρ)))(a:∀i∈xs.flatMap LV.ids,E (ρ i)≠none->E' i=E (ρ i)):F2 (XRep w M E') vs xs:=by
 refine F2.of (by rw[h.len];simp) λj v x hv hx=>?_
 obtain⟨u,hu,hr⟩:=h.get (j:=j) (b:=HK ρ x) (by simp[hx]);rw[hv]at hu;injection hu with hu;subst hu;exact hr.to λi hi=>a i (Zs.2 ⟨x,Qc hx,hi⟩)
theorem F2.xun(h:F2 (XRep w M E') vs xs)(b:∀i∈xs.flatMap LV.ids,E' i≠none->E (ρ i)=E' i):F2 (XRep w M E) vs (xs.map (HK ρ)):=by
 refine F2.of (by rw[h.len];simp) λj v x hv hx=>?_
 rw[Q9]at hx;cases a:xs[j]? with
 |none=>rw[a]at hx;cases hx
 |
  some y =>
  rw[a]at hx;injection hx with hx;subst hx;exact(h.get' hv a).un λi hi=>b i (Zs.2 ⟨y,Qc a,hi⟩)
theorem TRep.to{t:TV}(h:TRep w M E v (DD ρ t))(a:∀i∈t.ids,E (ρ i)≠none->E' i=E (ρ i)):TRep w M E' v t:=by
 cases t with
 |one x=>exact XRep.to h a
 |agg xs=>obtain⟨vs,e,h⟩:=h;exact⟨vs,e,h.xto a⟩
theorem TRep.un{t:TV}(h:TRep w M E' v t)(a:∀i∈t.ids,E' i≠none->E (ρ i)=E' i):TRep w M E v (DD ρ t):=by
 cases t with
 |one x=>exact XRep.un h a
 |agg xs=>obtain⟨vs,e,h⟩:=h;exact⟨vs,e,h.xun a⟩
variable{j:Nat}
theorem OBRep.to{b:OB}(h:OBRep w M E (ρ j) (QX ρ b))(a:b.lv=true->E' j=E (ρ j))(d:∀i∈b.ids,E (ρ i)≠none->E' i=E (ρ i)):OBRep w M E' j b:=by
 cases b with
 |gone=>trivial
 |blk T xs=>obtain⟨g,c,m,e,cs,h1,h2⟩:=h;exact⟨g,c,m,(a rfl).trans e,cs,h1,h2.xto d⟩
 |row fx T sz ls=>obtain⟨h0,h1,q,e,h2⟩:=h;exact⟨h0,h1,q,(a rfl).trans e,h2⟩
 |mpb es=>obtain⟨h0,g,c,m,e,h2⟩:=h;exact⟨h0,g,c,m,(a rfl).trans e,h2⟩
theorem OBRep.un{b:OB}(h:OBRep w M E' j b)(a:b.lv=true->E (ρ j)=E' j)(d:∀i∈b.ids,E' i≠none->E (ρ i)=E' i):OBRep w M E (ρ j) (QX ρ b):=by
 cases b with
 |gone=>trivial
 |blk T xs=>obtain⟨g,c,m,e,cs,h1,h2⟩:=h;exact⟨g,c,m,(a rfl).trans e,cs,h1,h2.xun d⟩
 |row fx T sz ls=>obtain⟨h0,h1,q,e,h2⟩:=h;exact⟨h0,h1,q,(a rfl).trans e,h2⟩
 |mpb es=>obtain⟨h0,g,c,m,e,h2⟩:=h;exact⟨h0,g,c,m,(a rfl).trans e,h2⟩
end
def prt(bl':Nat->OB)(U':Nat->Prop)(E':Li)(M:Nat->Prop)(w:World):Fr where
 K b:=b<w.heap.size/\∀j c m,(bl' j).lv=true->E' j≠some (some (b,c),m)
 J j:=¬U' j/\(bl' j).mv=false
 w:=w
 M:=M
 E:=E'
theorem HS.sub(h:HS F bl U E M w){ρ:Nat->Nat}(hb:∀j,(bl' j).lv=true->bl (ρ j)=QX ρ (bl' j))(hi:∀i j,ρ i=ρ j->i=j)(p:∀j,U' j->bl' j=.gone)(h1:∀j,U' j->E' j=none)(h2:∀j,¬U' j->E' j=E (ρ j))(o:∀j,∀i∈(bl' j).ids,¬U' i) :
 HS (prt bl' U' E' M w) bl' U' E' M w:=by
 have d:∀j,(bl' j).lv=true->¬U' j:=λj a hu=>by rw[p j hu]at a;cases a
 have f:∀j,(bl' j).lv=true->(bl (ρ j)).lv=true:=λj a=>by rw[hb j a,(Ca _).1];exact a
 exact {
  size:=Ql _
  kept:=λb hb=>⟨hb.1,rfl,Iff.rfl⟩
  ids:=λ_ _=>rfl
  nj:=λi hi a=>by rw[a.2]at hi;cases hi
  io:=⟨rfl,rfl⟩
  blk:=λj=>by
   cases hl:(bl' j).lv with
   |false=>cases hbl:bl' j <;> rw[hbl]at hl <;> first|trivial|cases hl
   |
    true =>
    have:=h.blk (ρ j);rw[hb j hl]at this;exact this.to (λ_=>h2 j (d j hl)) λi hi _=>h2 i (o j i hi)
  nk:=λi g c m hl e=>⟨λq=>q.2 i c m hl e,(h.nk (ρ i) g c m (f i hl) (by rw[<-h2 i (d i hl)];exact e)).2⟩
  inj:=λi j g c m c' m' l n s r=>hi _ _ (h.inj (ρ i) (ρ j) g c m c' m' (f i l) (f j n) (by rw[<-h2 i (d i l)];exact s) (by rw[<-h2 j (d j n)];exact r))
  mlt:=h.mlt
  m0:=λ_ _ h=>h
  un:=λi hi=>⟨h1 i hi,p i hi⟩
  uj:=λi hi a=>a.1 hi }
structure Back(bl bl' bl1 bl2:Nat->OB)(U U' U1 U2:Nat->Prop)(E E' E1 E2:Li)(ρ:Nat->Nat)(A:Nat->Prop):Prop where
 inj:∀i j,ρ i=ρ j->i=j
 hb:∀j,(bl' j).lv=true->bl (ρ j)=QX ρ (bl' j)
 e':∀j,¬U' j->E' j=E (ρ j)
 a0:∀j,(bl' j).lv=true->A j/\¬U' j
 a1:∀j,A j->(bl' j).lv=true\/U' j/\U (ρ j)
 a2:∀j,U' j->¬U1 j->A j
 hit:∀j,A j->E2 (ρ j)=E1 j/\bl2 (ρ j)=QX ρ (bl1 j)
 no:∀i,(∀j,A j->ρ j≠i)->E2 i=E i/\bl2 i=bl i
 u2:∀i,U2 i->U i/\∀j,A j->ρ j≠i
 mv:∀j,(bl' j).mv=true->∀i,(∀k,A k->ρ k≠i)->ρ j∉(bl i).ids
section
variable{ρ:Nat->Nat}{A:Nat->Prop}(k:Back bl bl' bl1 bl2 U U' U1 U2 E E' E1 E2 ρ A)(h:HS F bl U E M w)(h':HS (prt bl' U' E' M w) bl1 U1 E1 M1 w1)
include k h h'
variable{i:Nat}
theorem PL(hi:E i≠none)(hm:∀j,(bl' j).mv=true->ρ j≠i):E2 i=E i:=by
 by_cases a:∃j,A j/\ρ j=i
 .obtain⟨j,hA,rfl⟩:=a;rw[(k.hit j hA).1];rcases k.a1 j hA with hl|⟨_,hu⟩
  .have hu:=(k.a0 j hl).2;cases hv:(bl' j).mv with
   |true=>exact absurd rfl (hm j hv)
   |false=>exact(h'.ids j ⟨hu,hv⟩).trans (k.e' j hu)
  .exact absurd (h.un _ hu).1 hi
 .exact(k.no i λj hA e=>a ⟨j,hA,e⟩).1
theorem EA(hi:E1 i≠none):E2 (ρ i)=E1 i:=by
 by_cases hA:A i
 .exact(k.hit i hA).1
 .have b:¬U1 i:=λhu=>hi (h'.un i hu).1
  have a:¬U' i:=λhu=>hA (k.a2 i hu b)
  have hl:(bl' i).lv=false:=by
   cases hl:(bl' i).lv with
   |true=>exact absurd (k.a0 i hl).1 hA
   |false=>rfl
  have hv:(bl' i).mv=false:=by cases hb:bl' i <;> rw[hb]at hl <;> first|rfl|cases hl
  rw[(k.no (ρ i) λj c e=>hA (k.inj _ _ e ▸ c)).1,<-k.e' i a,h'.ids i ⟨a,hv⟩];rfl
variable{b:Nat}
theorem eQ(hb:b<w.heap.size)(hn:∀i c m,(bl i).lv=true->E i=some (some (b,c),m)->∀j,A j->ρ j≠i):(prt bl' U' E' M w).K b :=
 ⟨hb,λj c m hl e=>by
  have hu:=(k.a0 j hl).2;exact hn (ρ j) c m (by rw[k.hb j hl,(Ca _).1];exact hl) (by rw[<-k.e' j hu];exact e) j (k.a0 j hl).1 rfl⟩
theorem Qbu(hb:F.K b):(prt bl' U' E' M w).K b :=
 eQ k h h' (Xk (h.kept b hb).1 h.size) λi c m hl e=>absurd hb (h.nk i b c m hl e).1
theorem LZ{g c m:Nat}(hl:(bl i).lv=true)(e:E i=some (some (g,c),m))(hi:∀j,A j->ρ j≠i):(prt bl' U' E' M w).K g :=
 eQ k h h' (h.mlt g (h.nk i g c m hl e).2) λb c' m' a e'=>h.inj i b g c m c' m' hl a e e' ▸ hi
theorem LQ:Le w M w1 M1:=by
 refine⟨h'.size,λb hb hM=>?_,h'.m0⟩;exact(h'.kept b (eQ k h h' hb λi c m hl e=>absurd (h.nk i b c m hl e).2 hM)).2.1
theorem HS.back:HS F bl2 U2 E2 M1 w1:=by
 have a:∀i,(∃j,A j/\ρ j=i)\/∀j,A j->ρ j≠i:=λi=>by
  by_cases t:∃j,A j/\ρ j=i
  .exact .inl t
  .exact .inr λj hA e=>t ⟨j,hA,e⟩
 refine⟨?_,?_,?_,?_,?_,?_,?_,?_,?_,?_,?_,?_⟩
 .exact Qa h.size h'.size
 .intro b hb;obtain⟨h1,h2,h3⟩:=h.kept b hb;obtain⟨_,h4,h5⟩:=h'.kept b (Qbu k h h' hb);exact⟨h1,h4.trans h2,h5.trans h3⟩
 .intro i p;rw[<-h.ids i p];rcases a i with⟨j,hA,rfl⟩|hn
  .rw[(k.hit j hA).1];rcases k.a1 j hA with hl|⟨_,hu⟩
   .have hu:=(k.a0 j hl).2;have hv:(bl' j).mv=false:=by
     cases hv:(bl' j).mv with
     |false=>rfl
     |true=>exact absurd p (h.nj _ (by rw[k.hb j hl,(Ca _).2];exact hv))
    exact(h'.ids j ⟨hu,hv⟩).trans (k.e' j hu)
   .exact absurd p (h.uj _ hu)
  .exact(k.no i hn).1
 .intro i hv p;rcases a i with⟨j,hA,rfl⟩|hn
  .rw[(k.hit j hA).2,(Ca _).2]at hv;rcases k.a1 j hA with hl|⟨_,hu⟩
   .have hu:=(k.a0 j hl).2;have q:(bl' j).mv=false:=by
     cases s:(bl' j).mv with
     |false=>rfl
     |true=>exact absurd p (h.nj _ (by rw[k.hb j hl,(Ca _).2];exact s))
    exact h'.nj j hv ⟨hu,q⟩
   .exact h.uj _ hu p
  .rw[(k.no i hn).2]at hv;exact h.nj i hv p
 .exact⟨h'.io.1.trans h.io.1,h'.io.2.trans h.io.2⟩
 .intro i;rcases a i with⟨j,hA,rfl⟩|hn
  .rw[(k.hit j hA).2];exact(h'.blk j).un (λ_=>(k.hit j hA).1) λi _ hi=>EA k h h' hi
  .obtain⟨u,x⟩:=k.no i hn;rw[x];exact(h.blk i).keep (LQ k h h') (λhl g c m e=>(h'.kept g (LZ k h h' hl e hn)).2.1) (λ_=>u) λj y r=>PL k h h' r λl hl e=>k.mv l hl i hn (e ▸ y)
 .intro i g c m hl e;rcases a i with⟨j,hA,rfl⟩|hn
  .rw[(k.hit j hA).2,(Ca _).1]at hl;rw[(k.hit j hA).1]at e;obtain⟨h1,h2⟩:=h'.nk j g c m hl e;exact⟨λv=>h1 (Qbu k h h' v),h2⟩
  .rw[(k.no i hn).2]at hl;rw[(k.no i hn).1]at e;obtain⟨h1,h2⟩:=h.nk i g c m hl e;exact⟨h1,(h'.kept g (LZ k h h' hl e hn)).2.2.2 h2⟩
 .intro i j g c m c' m' d f n o;rcases a i with⟨i',hA,rfl⟩|hn <;> rcases a j with⟨j',hA',rfl⟩|hn'
  .rw[(k.hit i' hA).2,(Ca _).1]at d;rw[(k.hit j' hA').2,(Ca _).1]at f;rw[(k.hit i' hA).1]at n;rw[(k.hit j' hA').1]at o;exact congrArg ρ (h'.inj i' j' g c m c' m' d f n o)
  .rw[(k.hit i' hA).2,(Ca _).1]at d;rw[(k.hit i' hA).1]at n;rw[(k.no j hn').2]at f;rw[(k.no j hn').1]at o;exact absurd (LZ k h h' f o hn') (h'.nk i' g c m d n).1
  .rw[(k.hit j' hA').2,(Ca _).1]at f;rw[(k.hit j' hA').1]at o;rw[(k.no i hn).2]at d;rw[(k.no i hn).1]at n;exact absurd (LZ k h h' d n hn) (h'.nk j' g c' m' f o).1
  .rw[(k.no i hn).2]at d;rw[(k.no i hn).1]at n;rw[(k.no j hn').2]at f;rw[(k.no j hn').1]at o;exact h.inj i j g c m c' m' d f n o
 .exact h'.mlt
 .exact λb hb hm=>h.m0 b hb (h'.m0 b (Xk hb h.size) hm)
 .intro i hi;obtain⟨h1,h2⟩:=k.u2 i hi;rw[(k.no i h2).1,(k.no i h2).2];exact h.un i h1
 .exact λi hi=>h.uj i (k.u2 i hi).1
end
end Orr
namespace Orr
open Go
variable{P:Program}{arr:Array Oper}{n:Nat}{o:Oper}{N:Sg->Fg->Prop}{L L':Sg}{B B':Fg}{F:Fr}{E E':Li}{M M':Nat->Prop}{a:Act}{w w':World}{hs h':List (H P)}{q:Ll}
theorem SI {f:FuncId} {fn:Func} {args:Array Value} (w:World) (b:P.funcs[f]? = some fn) (hn:(fn.name == "runtime.NumGoroutine")=false) (hb:fn.body.isNone=false):(callFunc f args).run P w=.ok (.enter f args) w:=by
 simp only[callFunc,Sem.run_bind,run_program,Result.andThen_ok,b,hn,hb,Jy,if_false,Sem.run_pure]
variable{f:Nat}{xs:Array Operand}{b:Array TypeId}{e:Operand->Value}
theorem Q2f{x:Operand}{pre post:List Value}(g:Qre P f)(d:o.op=.call { callee:=.value x,args:=xs,argTypes:=b })(hx:e x=.func (.func f) pre.toArray post.toArray):
 (execOp e o).run P w=.ok (.enter f (pre++xs.toList.map e++post).toArray) w:=by
 obtain⟨fn,h1,h2,h3⟩:=g;have c:pre.toArray++xs.map e++post.toArray=(pre++xs.toList.map e++post).toArray:=by cases xs;simp
 simp only[execOp,d,resolve,hx,Deferred.ofValue,Sem.run_bind,Sem.run_pure,Result.andThen_ok,invoke,c];exact SI w h1 h2 h3
variable{vs:List Value}
theorem dN{K:Act->World->Prop}{Q:Exit->Act->World->Prop}{R:Value->World->Prop}(hg:o.guard=none)(hr:(execOp a.eval o).run P w=.ok (.enter f vs.toArray) w)(hc:Calls P f vs.toArray w λe w'=>∃r,e=.returned r/\R r w')(k:∀r w',R r w'->K (a.put o.dst r) w'):stp P arr o a w K Q:=by
 unfold stp;rw[if_pos (by simp[Region.wanted,hg])];refine .inl ?_;unfold Oper.wp;rw[hr];simp only[Oper.upon];refine hc.mono λe' w' hr=>?_
 obtain⟨r,rfl,b⟩:=hr;exact k r w' b
def Qt2:LV->Option (Nat×Fe×Fe)
 | .fn f a b=>some (f,a,b)
 | .ofn f a b=>some (f,a,b)
 |_=>none
theorem YRep.x:∀{xs:Fe} {vs:List Value},F2 (YRep w M E) vs xs->F2 (XRep w M E) vs xs
 | [],_,.nil=>.nil
 |x::xs,_,.cons h0 h=>.cons (by cases x <;> first|exact h0|exact LRep.x h0) (YRep.x h)
theorem Qt3{v:Value}{x:LV}{pre post:Fe}(h:XRep w M E v x)(hx:Qt2 x=some (f,pre,post)):∃vs us:List Value,v=.func (.func f) vs.toArray us.toArray/\F2 (XRep w M E) vs pre/\F2 (XRep w M E) us post:=by
 unfold Qt2 at hx
 split at hx
 .injection hx with hx;injection hx with e1 hx;injection hx with e2 e3;subst e1;subst e2;subst e3;have h:LRep w M v _:=h;cases h with
  |fn f pre post vs us h1 h2 h3 h4=>exact⟨vs,us,rfl,F2.of h1 λj v x hv hx=>(h3 j v x hv hx).x,F2.of h2 λj v x hv hx=>(h4 j v x hv hx).x⟩
 .injection hx with hx;injection hx with e1 hx;injection hx with e2 e3;subst e1;subst e2;subst e3;obtain⟨vs,us,e,h1,h2⟩:=h;exact⟨vs,us,e,YRep.x h1,YRep.x h2⟩
 .cases hx
def bY:Fe->Fh->Fh
 | [],r=>r
 |x::l,r=>.one x::bY l r
def Qrs:Fh->Fh->Fh
 | [],r=>r
 |x::l,r=>x::Qrs l r
def lI(pre:Fe)(us:Fh)(post:Fe):Fh:=bY pre (Qrs us (bY post []))
theorem bV:∀(l:Fe) (r:Fh),bY l r=l.map .one++r
 | [],_=>rfl
 |x::l,r=>by simp[bY,bV l r]
theorem Qbr:∀(l r:Fh),Qrs l r=l++r
 | [],_=>rfl
 |x::l,r=>by simp[Qrs,Qbr l r]
theorem Qbq(pre:Fe)(us:Fh)(post:Fe):lI pre us post=pre.map .one++us++post.map .one:=by simp[lI,bV,Qbr]
theorem F2.ones{xs:Fe}(h:F2 (XRep w M E) vs xs):F2 (TRep w M E) vs (xs.map .one):=by
 induction h with
 |nil=>exact .nil
 |cons h0 _ b=>exact .cons h0 b
def Qur:LV->Option LV
 | .nils=>some (.row [])
 |x=>some x
theorem Qee:Turn w M E w M E Qur:=λv x y h hr=>by
 cases x <;> simp only[Qur,Option.some.injEq]at h <;> subst h <;> first|exact hr|exact KD hr
def Ox:Fh->Option Fh
 | []=>some []
 |
  x::l=>match lJ Qur x with
  |
   some y=>match Ox l with
   |some r=>some (y::r)
   |none=>none
  |none=>none
theorem XK:∀{us c:Fh} {vs:List Value},Ox us=some c->F2 (TRep w M E) vs us->F2 (TRep w M E) vs c
 | [],_,_,h,.nil=>by simp only[Ox,Option.some.injEq]at h;subst h;exact .nil
 |
  u::us,_,_,h,.cons h0 hr=>by
  simp only[Ox]at h
  split at h
  .rename_i y d
   split at h
   .rename_i r b;injection h with h;subst h;exact .cons (lZ Qee d h0) (XK b hr)
   .cases h
  .cases h
def sY:Fh->Fh->Option Ll
 | [],[]=>some []
 |
  x::l,y::r=>match sY l r with
  |some q=>some ((.t x,.t y)::q)
  |none=>none
 |_,_=>none
theorem PP:∀{l r:Fh} {q:Ll},sY l r=some q->EqOk q->l=r
 | [],[],_,_,_=>rfl
 |
  x::l,y::r,q,h,hq=>by
  simp only[sY]at h
  split at h
  .rename_i c b;injection h with h;subst h;have e:=hq.hd;injection e with e;subst e;rw[PP b hq.tl]
  .cases h
 | [],_::_,_,h,_=>by simp[sY]at h
 |_::_,[],_,h,_=>by simp[sY]at h
def ZW:Fh->Bool
 | []=>true
 |
  .one x::l=>match x.free with
  |true=>ZW l
  |false=>false
 |
  .agg xs::l=>match Eg xs with
  |true=>ZW l
  |false=>false
theorem mI{x:LV}(h:x.free=true):x.ids=[]:=by cases x <;> first|rfl|cases h
theorem yL:∀{xs:Fe},Eg xs=true->xs.flatMap LV.ids=[]
 | [],_=>rfl
 |
  x::xs,h=>by
  simp only[Eg]at h
  split at h
  .rename_i hx;simp[mI hx,yL h]
  .cases h
theorem GP:∀{b:Fh},ZW b=true->∀t∈b,t.ids=[]
 | [],_,_,h=>by cases h
 |
  t::b,h,u,hu=>by
  cases t <;> simp only[ZW]at h <;> split at h <;> first|(cases h;done)|skip
  all_goals
   rename_i hx;rcases Qm.1 hu with rfl|hu
   .first|exact mI hx|exact yL hx
   .exact GP h u hu
theorem sC{res:Fh}(h:ZW res=true):(PD res).ids=[]:=by
 have:=GP h
 match res with
 | [t]=>exact this t Ft
 | []=>rfl
 |_::_::_=>exact List.flatMap_eq_nil_iff.2 this
theorem hZ:ob []=λ_=>.gone:=by funext i;simp[ob]
def Cee(P:Program)(n:Nat)(o:Oper)(xs:List Operand)(f:Nat)(pre post:Fe)(L:Sg)(B:Fg):Prop:=∀F E M a w,SA F n L B E M a w->∃vs us:List Value,(Qre P f->(execOp a.eval o).run P w=.ok (.enter f (vs++xs.map a.eval++us).toArray) w)/\F2 (XRep w M E) vs pre/\F2 (XRep w M E) us post
theorem Cee.value{x:Operand}{fv:LV}{pre post:Fe}(d:o.op=.call { callee:=.value x,args:=xs,argTypes:=b })(hx:evT L x=some (.one fv))(hfv:Qt2 fv=some (f,pre,post)):Cee P n o xs.toList f pre post L B:=λF E M a w h=>by
 obtain⟨vs,us,hv,h1,h2⟩:=Qt3 (h.evT hx) hfv;exact⟨vs,us,λc=>Q2f c d hv,h1,h2⟩
variable{r:Operand}
theorem Qq0{t b p d:Nat}{c:String}{g:Array TypeId}(i:Qre P f)(k:o.op=.call { callee:=.invoke r c,args:=xs,argTypes:=g })(hr:e r=.iface t (.pointer (some ⟨b,p,none⟩)))(hm:∀b o w,(method (P.types.size+Made.depth) t (.pointer (some ⟨b,o,none⟩)) c).run P w=.ok (f,.pointer (some ⟨b,o+d,none⟩)) w):
 (execOp e o).run P w=.ok (.enter f ([Value.pointer (some ⟨b,p+d,none⟩)]++xs.toList.map e++[]).toArray) w:=by
 obtain⟨fn,h1,h2,h3⟩:=i;have j : #[Value.pointer (some ⟨b,p+d,none⟩)]++(#[Value.iface t (.pointer (some ⟨b,p,none⟩))]++xs.map e).extract 1 (#[Value.iface t (.pointer (some ⟨b,p,none⟩))]++xs.map e).size=([Value.pointer (some ⟨b,p+d,none⟩)]++xs.toList.map e++[]).toArray:=by
  cases xs;simp[List.extract,Qo]
 have h:(#[Value.iface t (.pointer (some ⟨b,p,none⟩))]++xs.map e)[0]? = some (Value.iface t (.pointer (some ⟨b,p,none⟩))):=by cases xs;simp
 simp only[execOp,k,resolve,hr,Sem.run_bind,Sem.run_pure,Result.andThen_ok,invoke,h,callMethod,run_program,hm,j];exact SI w h1 h2 h3
theorem Cee.invoke{t i off d s:Nat}{e:String}{j:Array TypeId}(l:o.op=.call { callee:=.invoke r e,args:=xs,argTypes:=j })(hr:evT L r=some (.one (.oif t i off)))(hm:∀b o w,(method (P.types.size+Made.depth) t (.pointer (some ⟨b,o,none⟩)) e).run P w=.ok (f,.pointer (some ⟨b,o+d,none⟩)) w)(hs:s=off+d):Cee P n o xs.toList f [.ow i s] [] L B:=λF E M a w h=>by
 obtain⟨g,c,m,he,hv⟩:=(show XRep w M E (a.eval r) (.oif t i off) from h.evT hr);exact⟨[.pointer (some ⟨g,off+d,none⟩)],[],λk=>Qq0 k l hv hm,.cons ⟨g,c,m,he,by rw[hs]⟩ .nil,.nil⟩
theorem W1.call{d:Nat}{pre post:Fe}{us ys args res:Fh}(hc:Ge P f args [] res [])(y:Cee P n o xs.toList f pre post L B)(hg:o.guard=none)(hd:o.dst=some d)(D:Nat.blt d n=true)(x:evTs L xs.toList=some us)
 (C:Ox (lI pre us post)=some ys) (he:ys=args) (v:ZW ys=true) (s:ZW res=true) (k:N ((d,PD res)::L) B):W1 P arr n o N L B:=by
 intro F E M a w K Q h O;subst he;obtain⟨vs,m,hv,h1,h2⟩:=y F E M a w h;have l:F2 (TRep w M E) (vs++xs.toList.map a.eval++m) ys:=XK C (by rw[Qbq];exact(h1.ones.append (h.evTs x)).append h2.ones)
 let p:Li:=λ_=>none
 have xH:HS (prt (ob []) (nw []) p M w) (ob []) (nw []) p M w:=by
  refine h.hs.sub (ρ:=λj=>B.length+j) (λj b=>by simp[ob,OB.lv]at b) (λi j e=>by simpa using e) (λj _=>by simp[ob]) (λ_ _=>rfl) (λj b=>absurd (Qj j) (by simpa[nw]using b)) λj i hi=>by simp[ob,OB.ids]at hi
 have c:F2 (TRep w M p) (vs++xs.toList.map a.eval++m) ys:=l.imp λ_ t ht h=>h.keep (Le.refl _ _) λi hi=>by rw[GP v t ht]at hi;cases hi
 refine dN hg (hv hc.1) (R:=λr w'=>∃E' M',HS (prt (ob []) (nw []) p M w) (ob []) (nw []) E' M' w'/\ARep w' M' E' r (PD res)) ((hc.2 _ _ _ _ _ xH c).mono λe w' hr=>?_) λr w' ⟨E',M',g,hr⟩=>?_
 .obtain⟨r,u,S,E',M',J,⟨rfl,rfl⟩,_,g,hr⟩:=hr;exact⟨r,J,E',M',g,hr⟩
 .have I:Back (ob B) (ob []) (ob []) (ob B) (nw B) (nw []) (nw []) (nw B) E p E' E (λj=>B.length+j) λ_=>False:={
   inj:=λi j e=>by simpa using e
   hb:=λj b=>by simp[ob,OB.lv]at b
   e':=λj b=>absurd (Qj j) (by simpa[nw]using b)
   a0:=λj b=>by simp[ob,OB.lv]at b
   a1:=λ_ h=>h.elim
   a2:=λj h1 h2=>absurd h1 h2
   hit:=λ_ h=>h.elim
   no:=λ_ _=>⟨rfl,rfl⟩
   u2:=λ_ h=>⟨h,λ_ h=>h.elim⟩
   mv:=λj b=>by simp[ob,OB.mv]at b }
  have G:=HS.back I h.hs g;have z:=LQ I h.hs g;have A:ARep w' M' E r (PD res):=hr.keep (Le.refl _ _) λi hi=>by
   rw[sC s]at hi;cases hi
  exact hd ▸ O _ _ _ _ _ _ ((h.mem G z λ_ _=>rfl).put D A) k
end Orr
namespace Orr
open Go
variable{P:Program}{n:Nat}{L L':Sg}{B B':Fg}{Q:Exit->Sg->Fg->Prop}
abbrev Kp:=Sg->Fg->Prop
def Q31(F:Fr)(n:Nat)(Q:Exit->Sg->Fg->Prop):Exit->Act->World->Prop:=λe a w=>∃L B E M,SA F n L B E M a w/\Q e L B
def AC(P:Program)(n:Nat)(c:Code)(Q:Exit->Sg->Fg->Prop)(L:Sg)(B:Fg):Prop:=∀F E M a w,SA F n L B E M a w->c.wp P (Q31 F n Q) a w
def AW(P:Program)(arr:Array Oper)(n:Nat):List Oper->Kp->Kp
 | [],N=>N
 |o::l,N=>λL B=>W1 P arr n o (AW P arr n l N) L B
variable{arr:Array Oper}{o:Oper}
theorem W1.mono{N b:Kp}(h:W1 P arr n o N L B)(hn:∀L B,N L B->b L B):W1 P arr n o b L B:=λF E M a w K Q hs e=>h F E M a w K Q hs λc w' L' B' E' d h1 h2=>e c w' L' B' E' d h1 (hn _ _ h2)
theorem AW.mono{arr:Array Oper}{N a:Kp}(hn:∀L B,N L B->a L B):∀{l:List Oper} {L:Sg} {B:Fg},AW P arr n l N L B->AW P arr n l a L B
 | [],_,_,h=>hn _ _ h
 |_::_,_,_,h=>W1.mono h λ_ _ h=>AW.mono hn h
theorem Qbt{arr:Array Oper}{N:Kp}{Q:Exit->Act->World->Prop}{F:Fr}(b:∀a w L B E M,SA F n L B E M a w->N L B->Q .normal a w):∀{l:List Oper} {L:Sg} {B:Fg} {E:Li} {M:Nat->Prop} {a:Act} {w:World},AW P arr n l N L B->SA F n L B E M a w->wpList P arr Q l a w
 | [],_,_,_,_,_,_,h,hs=>b _ _ _ _ _ _ hs h
 |
  o::l,_,_,_,_,_,_,h,hs=>by
  unfold wpList;exact h F _ _ _ _ (wpList P arr Q l) Q hs λc w' L' B' E' d h1 h2=>Qbt b h2 h1
def Sub(n:Nat)(L:Sg)(B:Fg)(L2:Sg)(B2:Fg):Prop:=∀F E M a w,SA F n L B E M a w->∃E' M',SA F n L2 B2 E' M' a w
def Fk(k:Option Nat)(F:Fr):Prop:=match k with
 |none=>True
 |some k=>∀i,k<=i->¬F.J i
def Q2t(k:Option Nat)(n:Nat)(L:Sg)(B:Fg)(L2:Sg)(B2:Fg):Prop:=∀F E M a w,Fk k F->SA F n L B E M a w->∃E' M',SA F n L2 B2 E' M' a w
def Wk(n:Nat)(k:Option Nat)(N:Kp):Kp:=λL B=>∃L2 B2,Q2t k n L B L2 B2/\N L2 B2
theorem Sub.refl:Sub n L B L B:=λ_ E M _ _ h=>⟨E,M,h⟩
theorem Sub.trans{d c:Sg}{b B3:Fg}(h:Sub n L B d b)(f:Sub n d b c B3):Sub n L B c B3:=λF E M a w hs=>by
 obtain⟨E',e,h1⟩:=h F E M a w hs;exact f F E' e a w h1
inductive It where
 |code (c:Code)
 |ops (arr:Array Oper) (l:List Oper)
 |pst (d:Nat)
 |blk (id:Nat)
 |rnd (k:Option Nat) (N:Kp)
def mkQ(Q:Exit->Sg->Fg->Prop)(p:Kp×(Nat->Kp)):Exit->Sg->Fg->Prop
 | .normal,L,B=>p.1 L B
 | .exit id,L,B=>p.2 id L B
 |e,L,B=>Q e L B
def DI(P:Program)(n:Nat)(Q:Exit->Sg->Fg->Prop):List It->Kp×(Nat->Kp)
 | []=>(Q .normal,λid=>Q (.exit id))
 | .code c::r=>(λL B=>AC P n c (mkQ Q (DI P n Q r)) L B,(DI P n Q r).2)
 | .ops arr l::r=>(λL B=>AW P arr n l (DI P n Q r).1 L B,(DI P n Q r).2)
 | .pst _::r=>DI P n Q r
 | .blk i::r=>((DI P n Q r).1,λid L B=>if i=id then(DI P n Q r).1 L B else(DI P n Q r).2 id L B)
 | .rnd k N::r=>(Wk n k N,(DI P n Q r).2)
def AK(P:Program)(n:Nat)(Q:Exit->Sg->Fg->Prop)(it:List It):Kp:=(DI P n Q it).1
def MS(id:Nat):List It->Option (List It)
 | []=>none
 |
  .blk i::r=>match Nat.beq i id with
  |true=>some r
  |false=>MS id r
 |_::r=>MS id r
theorem I8{id:Nat}:∀{it r:List It},MS id it=some r->(DI P n Q it).2 id=AK P n Q r
 | [],r,h=>by cases h
 |
  .blk i::q,r,h=>by
  simp only[MS]at h
  split at h
  .rename_i e;have e:=Qx e;injection h with h;subst h;funext L B;simp only[DI];rw[if_pos e];rfl
  .rename_i e;have e:=V4 e;rw[<-I8 h];funext L B;simp only[DI];rw[if_neg e]
 | .code c::q,r,h=>I8 (it:=q) h
 | .ops _ _::q,r,h=>I8 (it:=q) h
 | .pst _::q,r,h=>I8 (it:=q) h
 | .rnd _ _::q,r,h=>I8 (it:=q) h
variable{c:Code}
theorem Qrl{b:Exit->Sg->Fg->Prop}(h:AC P n c b L B)(d:∀e L B,b e L B->Q e L B):AC P n c Q L B:=λF E M a w hs =>
 wp_mono (h F E M a w hs) λe a w ⟨L,B,E,M,h1,h2⟩=>⟨L,B,E,M,h1,d _ _ _ h2⟩
variable{r:List It}
theorem Qyl{x y:Code}(h:AK P n Q (.code x::.code y::r) L B):AK P n Q (.code (.seq x y)::r) L B:=λF E M a w hs =>
 wp_seq (wp_mono (h F E M a w hs) λe a w ⟨L,B,E,M,h1,h2⟩=>by cases e <;> first|exact h2 F E M a w h1|exact⟨L,B,E,M,h1,h2⟩)
theorem Qrm(h:AK P n Q r L B):AK P n Q (.code .skip::r) L B:=λF E M a w hs=>wp_skip ⟨L,B,E,M,hs,h⟩
variable{id:Nat}
theorem Qrj{b:List It}(hr:MS id r=some b)(h:AK P n Q b L B):AK P n Q (.code (.exit id)::r) L B:=λF E M a w hs=>wp_exit ⟨L,B,E,M,hs,by
 show(DI P n Q r).2 id L B;rw[I8 hr];exact h⟩
theorem lL(h:Q .ret L B):AK P n Q (.code .ret::r) L B:=λF E M a w hs=>wp_ret ⟨L,B,E,M,hs,h⟩
theorem Qi0(h:AK P n Q (.code c::.blk id::r) L B):AK P n Q (.code (.block id c)::r) L B:=λF E M a w hs =>
 wp_block (wp_mono (h F E M a w hs) λe a w ⟨L,B,E,M,h1,h2⟩=>by
  cases e with
  |
   exit id' =>
   have h2:if id=id' then(DI P n Q r).1 L B else(DI P n Q r).2 id' L B:=h2
   simp only[Exit.inBlock]
   split
   .rename_i e;rw[if_pos e.symm]at h2;exact⟨L,B,E,M,h1,h2⟩
   .rename_i e;rw[if_neg (λe'=>e e'.symm)]at h2;exact⟨L,B,E,M,h1,h2⟩
  |_=>exact⟨L,B,E,M,h1,h2⟩)
theorem Qyk(h:AK P n Q (.ops arr arr.toList::r) L B):AK P n Q (.code (.region id arr false)::r) L B:=λF E M a w hs =>
 wp_region_list (Qbt (λa w L B E M h1 h2=>⟨L,B,E,M,h1,h2⟩) h hs)
theorem Qbp{c:Operand}{x y:Code}{b:Bool}(hc:evT L c=some (.one (.bool b)))(ht:b=true->AK P n Q (.code x::r) L B)(d:b=false->AK P n Q (.code y::r) L B):AK P n Q (.code (.cond c x y)::r) L B:=λF E M a w hs =>
 wp_cond_split (Ld (hs.evT hc)) (λe=>ht e F E M a w hs) λe=>d e F E M a w hs
theorem AC.sub{d:Sg}{b:Fg}(h:Sub n L B d b)(k:AC P n c Q d b):AC P n c Q L B:=λF E M a w hs=>by
 obtain⟨E',e,h1⟩:=h F E M a w hs;exact k F E' e a w h1
theorem W1.sub{N:Kp}{b:Sg}{c:Fg}(h:Sub n L B b c)(k:W1 P arr n o N b c):W1 P arr n o N L B:=λF E M a w K Q hs e=>by
 obtain⟨E',d,h1⟩:=h F E M a w hs;exact k F E' d a w K Q h1 e
def So:List It->Bool
 | .code _::_=>true
 | .ops _ (_::_)::_=>true
 | .ops _ []::r=>So r
 | .rnd _ _::_=>true
 | .blk _::r=>So r
 | .pst _::r=>So r
 | []=>false
theorem AK.sub{c:Sg}{b:Fg}(h:Sub n L B c b):∀{it:List It},So it=true->AK P n Q it c b->AK P n Q it L B
 | .code _::_,_,k=>AC.sub h k
 | .ops _ (_::_)::_,_,k=>W1.sub h k
 | .ops _ []::r,hs,k=>AK.sub (it:=r) h hs k
 |
  .rnd _ _::_,_,⟨f,e,h3,h4⟩=>⟨f,e,λF E M a w g hs=>by
  obtain⟨E',d,h1⟩:=h F E M a w hs;exact h3 F E' d a w g h1,h4⟩
 | .blk _::r,hs,k=>AK.sub (it:=r) h hs k
 | .pst _::r,hs,k=>AK.sub (it:=r) h hs k
theorem Q32{a:Act}{w:World}{Q:Exit->Act->World->Prop}(I:Nat->Act->World->Prop){m:Nat}(h0:I m a w)
 (round:∀m a w,I m a w->c.wp P (Exit.then (λh w'=>∃m',m'<m/\I m' h w') Q) a w):(Code.loop c).wp P Q a w:=by
 have p:∀m a w,I m a w->∀(b:Frame) (k:List Item) (cs:List Frame),
  ∃e h w',Q e h w'/\Arrives P (lone (b.at a (.code c::.inLoop c::k)) cs w) b k cs e h w':=by
  intro m
  induction m using Nat.strongRecOn with
  |
   _ m ih =>
   intro a w q b k cs;obtain⟨e,a₁,w₁,g,d⟩:=round m a w q b (.inLoop c::k) cs;have f:∀e':Exit,e'≠.normal->Q e' a₁ w₁->Arrives P (lone (b.at a (.code c::.inLoop c::k)) cs w) b (.inLoop c::k) cs e' a₁ w₁ ->
    ∃e h w',Q e h w'/\Arrives P (lone (b.at a (.code c::.inLoop c::k)) cs w) b k cs e h w':=λe' o g d =>
    ⟨e',a₁,w₁,g,.pass (x:=.inLoop c) rfl (λ_ _=>.inl o) d⟩
   cases e with
   |
    normal =>
    obtain⟨m',i,j⟩:=g;obtain⟨e₂,a₂,w₂,hq₂,harr₂⟩:=ih m' i a₁ w₁ j b k cs;exact⟨e₂,a₂,w₂,hq₂,.of_steps (Steps.trans d (.one step_inLoop)) harr₂⟩
   |exit id=>exact f _ Ft g d
   |goto l=>exact f _ Ft g d
   |ret=>exact f _ Ft g d
   |panic ch=>exact f _ Ft g d
   |outgrown=>exact f _ Ft g d
 intro b k cs;obtain⟨e,h,w',g,d⟩:=p m a w h0 b k cs;exact⟨e,h,w',g,.of_steps (.one step_loop) d⟩
theorem Qrk(I:Nat->Kp){m k:Nat}(l:∀m L B,I m L B->B.length<=k)(h0:∃b d,Sub n L B b d/\I m b d)(round:∀m L B,I m L B->AK P n Q (.code c::.rnd (some k) (λL B=>∃m',m'<m/\I m' L B)::r) L B):AK P n Q (.code (.loop c)::r) L B:=λF E M a w hs=>by
 obtain⟨b,d,h1,h2⟩:=h0;obtain⟨E',f,h3⟩:=h1 F E M a w hs;refine Q32 (λm a w=>∃L B E M,SA F n L B E M a w/\I m L B) (m:=m) ⟨b,d,E',f,h3,h2⟩ λm a w ⟨L,B,E,M,h1,h2⟩=>?_
 have g:Fk (some k) F:=λi hi=>h1.hs.uj i (Qa (l _ _ _ h2) hi)
 refine wp_mono (round m L B h2 F E M a w h1) λe a w ⟨L,B,E,M,h1,h2⟩=>?_
 cases e with
 |
  normal =>
  obtain⟨j,h,h3,m',h4,h5⟩:=h2;obtain⟨E',f,o⟩:=h3 F E M a w g h1;exact⟨m',h4,j,h,E',f,o,h5⟩
 |_=>exact⟨L,B,E,M,h1,h2⟩
def Imp(p q:Kp×(Nat->Kp)):Prop:=(∀L B,p.1 L B->q.1 L B)/\∀i L B,p.2 i L B->q.2 i L B
theorem Qui{p q:Kp×(Nat->Kp)}(h:Imp p q):∀e L B,mkQ Q p e L B->mkQ Q q e L B:=λe L B a=>by
 cases e with
 |normal=>exact h.1 _ _ a
 |exit id=>exact h.2 _ _ _ a
 |_=>exact a
theorem UV{I:Kp}{r:List It}(d:∀L B,Wk n none I L B->AK P n Q r L B):∀pre:List It,Imp (DI P n Q (pre++.rnd none I::r)) (DI P n Q (pre++r))
 | []=>⟨d,λ_ _ _ h=>h⟩
 |
  .code c::q=>by
  have b:=UV d q;exact⟨λL B h=>Qrl h (Qui b),b.2⟩
 |
  .ops a l::q=>by
  have b:=UV d q;exact⟨λL B h=>AW.mono b.1 h,b.2⟩
 | .pst _::q=>UV d q
 |
  .blk i::q=>by
  have b:=UV d q;refine⟨b.1,λid L B h=>?_⟩;simp only[Xg,DI]at h ⊢
  split at h
  .rename_i e;rw[if_pos e];exact b.1 _ _ h
  .rename_i e;rw[if_neg e];exact b.2 _ _ _ h
 |
  .rnd k N::q=>by
  have b:=UV d q;exact⟨λL B h=>h,b.2⟩
theorem Q3x(j:Nat){it:List It}(I:Kp)(hx:AK P n Q (it.take j++.rnd none I::it.drop j) L B)(hs:So (it.drop j)=true)(b:∀L B,I L B->AK P n Q (it.drop j) L B):AK P n Q it L B:=by
 have:=(UV (P:=P) (n:=n) (Q:=Q) (I:=I) (r:=it.drop j) (λL B ⟨d,c,h1,h2⟩=>AK.sub (λF E M a w hs=>h1 F E M a w trivial hs) hs (b _ _ h2)) (it.take j)).1 L B hx;rw[Zi]at this;exact this
def FG:Nat->Fh->Sg
 |_,[]=>[]
 |i,x::xs=>(i,.v x)::FG (i+1) xs
theorem Qbs{w:World}{M:Nat->Prop}{E:Li}:∀{vs:List Value} {us:Fh} (i:Nat),F2 (TRep w M E) vs us->∀t x,lk (FG i us) t=some x->i<=t/\∃v,vs[t-i]? = some v/\ARep w M E v x
 |_,_,i,.nil,t,x,h=>by simp[FG,lk]at h
 |
  v::vs,u::us,i,.cons h0 hr,t,x,h=>by
  simp only[FG,lk]at h
  split at h
  .rename_i e;obtain rfl:=Qx e;injection h with h;subst h;exact⟨Ql _,v,Ft,h0⟩
  .rename_i e;have e:=V4 e;obtain⟨h1,a,h2,h3⟩:=Qbs (i+1) hr t x h;refine⟨Fo,a,?_,h3⟩;rw[show t-i=(t-(i+1))+1 from Fo,J0];exact h2
def RQ(P:Program)(fn:Func)(n k:Nat)(Post:Fh->Fg->Prop)(e:Exit)(L:Sg)(B:Fg):Prop :=
 (e=.ret\/e=.normal)/\∀F E M a w,SA F n L B E M a w->(∀i,k<=i->¬F.J i)->∃r u Bo E' M',(results fn a.tmps).run P w=.ok r w/\Post u Bo/\k<=Bo.length/\HS F (ob Bo) (nw Bo) E' M' w/\ARep w M' E' r (PD u)
theorem fn_{f:FuncId}{fn:Func}{args:Fh}{Bin:Fg}{Post:Fh->Fg->Prop}(p:P.funcs[f]? = some fn)(hb:fn.body=some c)(hn:fn.ntmps=n)(hl:Nat.ble args.length n=true)
 (h:AK P n (RQ P fn n Bin.length Post) [.code c] (FG 0 args) Bin):Qw0 P f args Bin Post:=by
 intro F E M w vs hs b;have hl:=Zj hl;have m:=b.len;refine calls_of_wp p hb ?_;have k:SA F n (FG 0 args) Bin E M ⟨vs.toArray++Array.replicate (fn.ntmps-vs.toArray.size) undef,[]⟩ w:=by
  refine⟨hs,by simp[hn];omega,rfl,λt x hx=>?_⟩;obtain⟨_,v,h1,h2⟩:=Qbs 0 b t x hx;refine⟨v,?_,h2⟩;have ht:t<vs.length:=by have:=(Qh.1 h1).1;simpa using this
  rw[Array.getElem?_append_left (by simpa using ht)];simpa using h1
 have j:∀i,Bin.length<=i->¬F.J i:=λi hi=>hs.uj i hi
 refine wp_mono (h F E M _ w k) λe a w ⟨L,B,E,M,h1,h2⟩=>?_
 have l:RQ P fn n Bin.length Post e L B:=by cases e <;> exact h2
 obtain⟨he,h3⟩:=l;obtain⟨r,u,d,E',g,h4,h5,o,s,q⟩:=h3 F E M a w h1 j;have:bodyPost P fn (λe w'=>∃r u d E' g,e=.returned r/\Post u d/\Bin.length<=d.length/\HS F (ob d) (nw d) E' g w'/\ARep w' g E' r (PD u)) .ret a w:=⟨h1.defers,r,h4,r,u,d,E',g,rfl,h5,o,s,q⟩;rcases he with rfl|rfl <;> exact this
end Orr
namespace Orr
open Go
variable{P:Program}{n:Nat}{L L':Sg}{B B':Fg}{Q:Exit->Sg->Fg->Prop}
def Q0n:Fg->Bool
 | []=>true
 |_=>false
theorem Qds{B:Fg}(h:Q0n B=true):B=[]:=by cases B <;> first|rfl|cases h
def avF:Fh->Option AV
 | [t]=>some (.v t)
 |l=>some (.tup l)
theorem Qi9{l:Fh}{u:AV}(h:avF l=some u):PD l=u:=by
 match l with
 | [t]=>injection h
 | []=>injection h
 |_::_::_=>injection h
def Qxd(L:Sg)(B:Fg)(h:List (H P))(d f:Nat)(ys:Fh):St P:=match h with
 |
  .c (f:=f') (args:=args) (Bin:=Bin) (res:=res) (Bout:=Bout) _ _::h=>match Q0n Bin && Q0n Bout,ZW ys && ZW res with
  |
   true,true=>match sY ys args with
   |
    some q=>match avF res with
    |some u=>some ((d,u)::L,B,h,(.n f,.n f')::q,[])
    |none=>none
   |none=>none
  |_,_=>none
 |_=>none
def Qol:Fe->Option Nat
 | []=>none
 | .ow i _::_=>some i
 | .orow i _ _::_=>some i
 |
  .ofn _ a b::l=>match VJ a,VJ b with
  |i::_,_=>some i
  | [],i::_=>some i
  | [],[]=>Qol l
 |_::l=>Qol l
def Qu0:Fh->Option Nat
 | []=>none
 |
  .one x::l=>match Qol [x]with
  |some i=>some i
  |none=>Qu0 l
 |
  .agg xs::l=>match Qol xs with
  |some i=>some i
  |none=>Qu0 l
def dig(B:Fg):Nat->Nat->Nat
 | 0,i=>i
 |
  f+1,i=>match QU B i with
  |
   some (.blk _ xs)=>match Qol xs with
   |some j=>dig B f j
   |none=>i
  |_=>i
theorem EV{i:Nat}(h:rM L B i=some (L',B')):Sub n L B L' B':=λ_ E _ _ _ hs=>by
 obtain⟨a,h1⟩:=hs.pub h;exact⟨E,a,h1⟩
def Qae(
 d:Nat) (L:Sg) (B:Fg):List (H P)->Option (Sg×Fg×List (H P)×Ll)
  |
   .r d' (u:=u) (v:=v) _::h=>match Nat.beq d d' with
   |
    true=>match lk L d with
    |some (.v t)=>some ((d,.v v)::L,B,h,[(.t t,.t u)])
    |_=>none
   |false=>none
  |
   .z d'::h=>match Nat.beq d d' with
   |
    true=>match lk L d with
    |
     some (.v t)=>match lJ Qur t with
     |some u=>some ((d,.v u)::L,B,h,[])
     |none=>none
    |_=>none
   |false=>none
  |
   .g d' v (b:=b') _::h=>match Nat.beq d d' with
   |
    true=>match lk L d with
    |some (.v (.one (.bool b)))=>some ((d,.cnd true (.one (.bool v)))::L,B,h,[(.t (.one (.bool b)),.t (.one (.bool b')))])
    |_=>none
   |false=>none
  |
   .o d' T sz::h=>match Nat.beq d d',Nat.blt 0 sz with
   |
    true,true=>match lk L d with
    |
     some (.v (.one .nils))=>match lenB B,XO B (.row false T sz [])with
     |some i,some B'=>some ((d,.v (.one (.orow i sz none)))::L,B',h,[])
     |_,_=>none
    |_=>none
   |_,_=>none
  |
   .oc d' off T sz::h=>match Nat.beq d d',Nat.blt 0 sz with
   |
    true,true=>match lk L d with
    |
     some (.v (.one (.ow j 0)))=>match QU B j with
     |
      some (.blk T' xs)=>match dB xs off 1 with
      |
       some [.nils]=>match lenB B with
       |
        some i=>match PH xs off [.orow i sz none]with
        |
         some r=>match QY B j (.blk T' r)with
         |
          some B1=>match XO B1 (.row false T sz [])with
          |some B'=>some (L,B',h,[])
          |none=>none
         |none=>none
        |none=>none
       |none=>none
      |_=>none
     |_=>none
    |_=>none
   |_,_=>none
  |_=>none
variable{d:Nat}
theorem SA.same{F:Fr}{E:Li}{M:Nat->Prop}{a:Act}{w:World}(h:SA F n L B E M a w){u v:AV}(hd:lk L d=some u)(hv:∀x,ARep w M E x u->ARep w M E x v):SA F n ((d,v)::L) B E M a w :=
 ⟨h.hs,h.size,h.defers,λt x hx=>by
  simp only[lk]at hx
  split at hx
  .rename_i e;obtain rfl:=Qx e;injection hx with hx;subst hx;obtain⟨y,h1,h2⟩:=h.slots t u hd;exact⟨y,h1,hv y h2⟩
  .exact h.slots t x hx⟩
theorem zF{h S:List (H P)}{q:Ll}(hp:Qae d L B h=some (L',B',S,q))(I:EqOk q):Sub n L B L' B':=by
 unfold Qae at hp
 split at hp
 .rename_i d' u v y h2
  split at hp
  .split at hp
   .rename_i t ht;obtain⟨rfl,rfl,rfl,rfl⟩:=H8 hp;have e:=I.hd;injection e with e;subst e;subst y;exact λF E M a w hs=>⟨E,M,hs.same ht λ_ h=>h⟩
   .cases hp
  .cases hp
 .rename_i d' h2
  split at hp
  .split at hp
   .rename_i ht
    split at hp
    .rename_i hu;obtain⟨rfl,rfl,rfl,rfl⟩:=H8 hp;exact λF E M a w hs=>⟨E,M,hs.same ht λ_ h=>lZ Qee hu h⟩
    .cases hp
   .cases hp
  .cases hp
 .rename_i d' v b' hb h2
  split at hp
  .split at hp
   .rename_i b ht;obtain⟨rfl,rfl,rfl,rfl⟩:=H8 hp;have e:=I.hd;injection e with e;injection e with e;injection e with e;subst e;subst hb;exact λF E M a w hs=>⟨E,M,hs.same ht λ_ h=>⟨λ_=>h,λe=>by cases e⟩⟩
   .cases hp
  .cases hp
 .rename_i d' T sz h2
  split at hp
  .rename_i e h0;rw[Jb]at h0
   split at hp
   .rename_i ht
    split at hp
    .rename_i i U hi C;obtain⟨rfl,rfl,rfl,rfl⟩:=H8 hp;obtain rfl:=B8 hi;obtain rfl:=Da C;intro F E M a w hs;obtain⟨E',z,h1,h3⟩:=hs.ownNil (T:=T) h0;exact⟨E',z,h1.same ht λx hx=>⟨none,0,h3,Ft,by cases (show LRep _ _ _ .nils from hx);exact⟨rfl,rfl,rfl⟩⟩⟩
    .cases hp
   .cases hp
  .cases hp
 .rename_i d' off T sz h2
  split at hp
  .rename_i e h0;rw[Jb]at h0
   split at hp
   .rename_i j ht
    split at hp
    .rename_i s xs hb
     split at hp
     .rename_i o
      split at hp
      .rename_i i hi
       split at hp
       .rename_i r hr
        split at hp
        .rename_i B1 A
         split at hp
         .rename_i U C;obtain⟨rfl,rfl,rfl,rfl⟩:=H8 hp;obtain rfl:=B8 hi;obtain rfl:=Da C;obtain⟨rfl,p⟩:=Ds A;intro F E M a w hs;obtain⟨E',z,h1,h3⟩:=hs.ownNil (T:=T) h0;refine⟨E',z,?_⟩;have f:(B++[OB.row false T sz []])[j]? = some (.blk s xs):=by rw[Zc p,<-Mx];exact hb
          have K:B.set j (.blk s r)++[OB.row false T sz []]=(B++[OB.row false T sz []]).set j (.blk s r):=by rw[List.set_append_left _ _ p]
          obtain⟨g,c,m,R,cs,h4,h5⟩:=h1.blk (Mx ▸ f);obtain⟨rfl,N⟩:=YT hr;obtain⟨O,V⟩:=UE o;rw[K];refine⟨?_,h1.size,h1.defers,h1.slots⟩;have hn:nw ((B++[OB.row false T sz []]).set j (.blk s (upd xs off [.orow B.length sz none])))=nw (B++[OB.row false T sz []]):=GE;rw[hn,KI f];refine h1.hs.re (λi=>?_) (λi=>?_) (λi=>?_) λi hi=>?_
          .by_cases l:i=j
           .subst l;rw[Gy];refine⟨g,c,m,R,cs,h4,F2.of (by rw[GB];exact h5.len) λk v x hv hx=>?_⟩;have G:off<xs.length:=Fo;have D:xs[off]? = some .nils:=by
             have:((xs.drop off).take 1)[0]? = some .nils:=by rw[<-O];rfl
             rw[Jl]at this;simpa using this
            rw[upd_one]at hx;rw[Ju]at hx
            split at hx
            .rename_i J;subst J;simp[G]at hx;subst hx;have:=h5.get' hv D;exact⟨none,0,h3,Ft,by cases (show LRep _ _ _ .nils from this);exact⟨rfl,rfl,rfl⟩⟩
            .exact h5.get' hv hx
           .rw[Hl _ _ l];exact h1.hs.blk i
          .by_cases l:i=j
           .subst l;rw[Gy,Pa f];rfl
           .rw[Hl _ _ l]
          .by_cases l:i=j
           .subst l;rw[Gy,Pa f];rfl
           .rw[Hl _ _ l]
          .by_cases l:i=j
           .subst l;rw[Pa f]at hi;cases hi
           .rw[Hl _ _ l];exact hi
         .cases hp
        .cases hp
       .cases hp
      .cases hp
     .cases hp
    .cases hp
   .cases hp
  .cases hp
 .cases hp
where upd_one {α:Type}:∀{xs:List α} {k:Nat} {x:α},upd xs k [x]=xs.set k x
 | [],k,x=>by cases k <;> rfl
 |y::xs,0,x=>by simp[upd,I5]
 |y::xs,k+1,x=>by simp only[upd,Ky];rw[upd_one]
end Orr
namespace Orr
open Go
def Bj(i:Nat):Fa->Bool
 | []=>false
 |
  j::l=>match Nat.beq i j with
  |true=>true
  |false=>Bj i l
theorem Pp{i:Nat}:∀{l:Fa},Bj i l=true↔i∈l
 | []=>by simp[Bj]
 |
  j::l=>by
  simp only[Bj]
  split
  .rename_i e;simp[Nat.eq_of_beq_eq_true e]
  .rename_i e;rw[Pp];simp[Nat.ne_of_beq_eq_false e]
def Ir{α:Type}(f:α->Bool):List α->Bool
 | []=>true
 |
  x::l=>match f x with
  |true=>Ir f l
  |false=>false
theorem Mc{α:Type}{f:α->Bool}:∀{l:List α},Ir f l=true->∀x∈l,f x=true
 | [],_,_,h=>by cases h
 |
  y::l,h,x,hx=>by
  simp only[Ir]at h
  split at h
  .rename_i e;rcases Qm.1 hx with rfl|hx
   .exact e
   .exact Mc h x hx
  .cases h
section
variable{F:Fr}{E:Li}{M:Nat->Prop}{w:World}
def JW:OB->OB
 | .row _ T sz ls=>.row true T sz ls
 |b=>b
def flO:OB->OB->OB
 | .row f _ _ _,.row _ T sz ls=>.row f T sz ls
 |_,b=>b
theorem Qdm{i:Nat}{b c:OB}(h:JW b=JW c)(hr:OBRep w M E i b):OBRep w M E i c:=by
 cases b <;> cases c <;> simp only[JW,OB.row.injEq,OB.blk.injEq,OB.mpb.injEq,reduceCtorEq]at h
 .trivial
 .obtain⟨rfl,rfl⟩:=h;exact hr
 .obtain⟨_,rfl,rfl,rfl⟩:=h;exact hr
 .subst h;exact hr
theorem MB{b c:OB}(h:JW b=JW c):b.lv=c.lv:=by
 cases b <;> cases c <;> simp only[JW,reduceCtorEq]at h <;> rfl
theorem iW(b c:OB):JW (flO b c)=JW c:=by cases b <;> cases c <;> rfl
theorem HS.flag{bl bl':Nat->OB}{U:Nat->Prop}(h:HS F bl U E M w)(h1:∀i,JW (bl i)=JW (bl' i))(h2:∀i,(bl' i).mv=true->¬F.J i):HS F bl' U E M w :=
 {h with
  nj:=h2
  blk:=λi=>Qdm (h1 i) (h.blk i)
  nk:=λi g c m hi=>h.nk i g c m (by rw[MB (h1 i)];exact hi)
  inj:=λi j g c m c' m' hi a=>h.inj i j g c m c' m' (by rw[MB (h1 i)];exact hi) (by rw[MB (h1 j)];exact a)
  un:=λi hi=>⟨(h.un i hi).1,by
   have:=h1 i;rw[(h.un i hi).2]at this;cases hb:bl' i <;> rw[hb]at this <;> simp only[JW,reduceCtorEq]at this⟩ }
end
variable{P:Program}{n:Nat}{L L':Sg}{B B':Fg}{Q:Exit->Sg->Fg->Prop}
theorem W1.callD{arr:Array Oper}{o:Oper}{N:Kp}{f d:Nat}{xs:Array Operand}{pre post:Fe}{us ys args res:Fh}{Bin Bout B1 S:Fg}{L1:Sg}{ρ:Nat->Nat}
 (hc:Ge P f args Bin res Bout) (hce:Cee P n o xs.toList f pre post L B) (hg:o.guard=none) (hd:o.dst=some d) (hdn:Nat.blt d n=true) (hxs:evTs L xs.toList=some us)
 (hys:Ox (lI pre us post)=some ys) (he:ys=args.map (DD ρ)) (p:∀i j,ρ i=ρ j->i=j) (hai:∀t∈args,∀i∈t.ids,i<Bin.length) (hbi:∀j,∀i∈(ob Bin j).ids,i<Bin.length) (hlv:∀j,j<Bin.length->(ob Bin j).lv=true)
 (hlt:∀j,j<Bin.length->ρ j<B.length) (H:∀j,Bin.length<=j->j<Bout.length->ρ j=B.length+(j-Bin.length)) (O:Bin.length<=Bout.length)
 (hk1:∀F E M a w,SA F n L B E M a w->SA F n L1 B1 E M a w) (hB1:B1.length=B.length)
 (hks:∀j,(ob Bin j).mv=true->(∀t x,lk L1 t=some x->ρ j∉x.ids)/\∀i,(∀k,k<Bin.length->ρ k≠i)->ρ j∉(ob B1 i).ids)
 (hfx:∀j,j<Bin.length->JW (ob B1 (ρ j))=JW (QX ρ (ob Bin j))/\((ob Bin j).mv=true->(ob B1 (ρ j)).mv=true))
 (X:∀j,j<Bout.length->JW (ob S (ρ j))=JW (QX ρ (ob Bout j))/\(j<Bin.length->(ob S (ρ j)).mv=true->(ob B1 (ρ j)).mv=true))
 (W:∀i,i<B.length->(∀j,j<Bin.length->ρ j≠i)->ob S i=ob B1 i) (hB2l:S.length=B.length+(Bout.length-Bin.length))
 (k:N ((d,PD (res.map (DD ρ)))::L1) S):W1 P arr n o N L B:=by
 intro F E M a w K Q h0 hK;subst he;obtain⟨vs,us',hv,h1,h2⟩:=hce F E M a w h0;have C:F2 (TRep w M E) (vs++xs.toList.map a.eval++us') (args.map (DD ρ)):=XK hys (by rw[Qbq];exact(h1.ones.append (h0.evTs hxs)).append h2.ones);have h:=hk1 _ _ _ _ _ h0;have V:nw B1=nw B:=by funext i;simp only[nw,hB1]
 let Z:Li:=λj=>if j<Bin.length then E (ρ j)else none
 have Y:∀j,j<Bin.length->Z j=E (ρ j):=λj c=>if_pos c
 let m:Nat->OB:=λi=>open Classical in if g:∃j,j<Bin.length/\ρ j=i then QX ρ (ob Bin g.choose)else ob B1 i
 have G:∀j,j<Bin.length->m (ρ j)=QX ρ (ob Bin j):=λj c=>by
  have g:∃j',j'<Bin.length/\ρ j'=ρ j:=⟨j,c,rfl⟩;simp only[m];rw[dif_pos g,p _ _ g.choose_spec.2]
 have T:∀i,(∀j,j<Bin.length->ρ j≠i)->m i=ob B1 i:=λi hi=>by
  simp only[m];rw[dif_neg λ⟨j,h1,h2⟩=>hi j h1 h2]
 have y:∀i,(∃j,j<Bin.length/\ρ j=i)\/∀j,j<Bin.length->ρ j≠i:=λi=>by
  by_cases g:∃j,j<Bin.length/\ρ j=i
  .exact .inl g
  .exact .inr λj h1 h2=>g ⟨j,h1,h2⟩
 have D:HS F m (nw B1) E M w:=by
  refine h.hs.flag (λi=>?_) λi hi=>?_
  .rcases y i with⟨j,c,rfl⟩|hn
   .rw[G j c];exact(hfx j c).1
   .rw[T i hn]
  .rcases y i with⟨j,c,rfl⟩|hn
   .rw[G j c,(Ca _).2]at hi;exact h.hs.nj _ ((hfx j c).2 hi)
   .rw[T i hn]at hi;exact h.hs.nj i hi
 have z:∀j,(ob Bin j).lv=true->j<Bin.length:=λj c=>by
  apply Classical.byContradiction;intro hn;rw[Sj Fo]at c;cases c
 have xH:HS (prt (ob Bin) (nw Bin) Z M w) (ob Bin) (nw Bin) Z M w:=D.sub (ρ:=ρ) (λj c=>G j (z j c)) p (λj c=>Sj c) (λj c=>if_neg (by simpa[nw]using c)) (λj c=>Y j (by simpa[nw]using c)) λj i hi=>by have:=hbi j i hi;simp only[nw];omega
 have I:F2 (TRep w M Z) (vs++xs.toList.map a.eval++us') args:=F2.of (by rw[C.len];simp) λj v t hv ht=>by
  have:=C.get' (b:=DD ρ t) hv (by simp[ht]);exact this.to λi hi _=>Y i (hai t (Qc ht) i hi)
 refine dN hg (hv hc.1) (R:=λr w'=>∃E' s,HS (prt (ob Bin) (nw Bin) Z M w) (ob Bout) (nw Bout) E' s w'/\ARep w' s E' r (PD res)) ((hc.2 _ _ _ _ _ xH I).mono λe w' hr=>?_) λr w' ⟨E',s,q,hr⟩=>?_
 .obtain⟨r,u,Bo,E',s,e1,⟨rfl,rfl⟩,_,q,hr⟩:=hr;exact⟨r,e1,E',s,q,hr⟩
 .have A:∀i,(∃j,j<Bout.length/\ρ j=i)\/∀j,j<Bout.length->ρ j≠i:=λi=>by
   by_cases g:∃j,j<Bout.length/\ρ j=i
   .exact .inl g
   .exact .inr λj h1 h2=>g ⟨j,h1,h2⟩
  let E2:Li:=λi=>open Classical in if g:∃j,j<Bout.length/\ρ j=i then E' g.choose else E i
  let bl2:Nat->OB:=λi=>open Classical in if g:∃j,j<Bout.length/\ρ j=i then QX ρ (ob Bout g.choose)else m i
  have hE2:∀j,j<Bout.length->E2 (ρ j)=E' j/\bl2 (ρ j)=QX ρ (ob Bout j):=λj c=>by
   have g:∃j',j'<Bout.length/\ρ j'=ρ j:=⟨j,c,rfl⟩;have:=p _ _ g.choose_spec.2;simp only[E2,bl2];rw[dif_pos g,dif_pos g,this];exact⟨rfl,rfl⟩
  have U:∀i,(∀j,j<Bout.length->ρ j≠i)->E2 i=E i/\bl2 i=m i:=λi hi=>by
   simp only[E2,bl2];rw[dif_neg λ⟨j,h1,h2⟩=>hi j h1 h2,dif_neg λ⟨j,h1,h2⟩=>hi j h1 h2];exact⟨rfl,rfl⟩
  have kb:Back m (ob Bin) (ob Bout) bl2 (nw B1) (nw Bin) (nw Bout) (nw S) E Z E' E2 ρ λj=>j<Bout.length:={
   inj:=p
   hb:=λj c=>G j (z j c)
   e':=λj c=>Y j (by simpa[nw]using c)
   a0:=λj c=>by have:=z j c;exact⟨Xk this O,by simp only[nw];omega⟩
   a1:=λj c=>by
    rcases Q7 j Bin.length with h|h
    .exact .inl (hlv j h)
    .refine .inr ⟨h,?_⟩;rw[H j h c,V];simp only[nw];omega
   a2:=λj h1 h2=>by simpa[nw]using h2
   hit:=hE2
   no:=U
   u2:=λi hi=>by
    simp only[nw,hB2l]at hi;refine⟨by rw[V];simp only[nw];omega,λj c e=>?_⟩;rcases Q7 j Bin.length with h|h
    .have:=hlt j h;omega
    .have:=H j h c;omega
   mv:=λj c i hi hm=>by
    have hi':∀k,k<Bin.length->ρ k≠i:=λk hk=>hi k (Xk hk O)
    rw[T i hi']at hm;exact(hks j c).2 i hi' hm }
  have hs2:=HS.back kb D q;have hle:=LQ kb D q;have hs3:HS F (ob S) (nw S) E2 s w':=by
   refine hs2.flag (λi=>?_) λi hi=>?_
   .rcases A i with⟨j,c,rfl⟩|hn
    .rw[(hE2 j c).2];exact(X j c).1.symm
    .have J:∀k,k<Bin.length->ρ k≠i:=λk hk=>hn k (Xk hk O)
     rw[(U i hn).2,T i J];rcases Q7 i B.length with h|h
     .rw[W i h J]
     .have:S.length<=i:=by
       apply Classical.byContradiction;intro h3;refine hn (Bin.length+(i-B.length)) Fo ?_;rw[H _ Fo Fo];omega
      rw[Sj this,Sj Fo]
   .rcases A i with⟨j,c,rfl⟩|hn
    .rcases Q7 j Bin.length with h3|h3
     .exact h.hs.nj _ ((X j c).2 h3 hi)
     .exact h0.hs.uj _ (by rw[H j h3 c];simp only[nw];omega)
    .have J:∀k,k<Bin.length->ρ k≠i:=λk hk=>hn k (Xk hk O)
     rcases Q7 i B.length with h3|h3
     .rw[W i h3 J]at hi;exact h.hs.nj i hi
     .exact h0.hs.uj i h3
  have hr2:ARep w' s E2 r (PD (res.map (DD ρ))):=by
   have one:∀v t,TRep w' s E' v t->TRep w' s E2 v (DD ρ t):=λv t h=>h.un λi _ hi=>EA kb D q hi
   match res,hr with
   | [t],hr=>exact one r t hr
   | [],⟨vs,e,hr⟩=>exact⟨vs,e,by cases hr;exact .nil⟩
   |
    t::t'::l,⟨vs,e,hr⟩ =>
    have key:∀(l:Fh) (vs:List Value),F2 (TRep w' s E') vs l->F2 (TRep w' s E2) vs (l.map (DD ρ)):=λl vs hr=>by
     induction hr with
     |nil=>exact .nil
     |cons h0 _ ih=>exact .cons (one _ _ h0) ih
    exact⟨vs,e,key _ _ hr⟩
  exact hd ▸ hK _ _ _ _ _ _ (SA.put ⟨hs3,h.size,h.defers,λt x hx=>by
   obtain⟨v,h3,h4⟩:=h.slots t x hx;refine⟨v,h3,h4.keep hle λi hi hne=>PL kb D q hne λj c e=>?_⟩;subst e;exact(hks j c).1 t x hx hi⟩ hdn hr2) k
end Orr
