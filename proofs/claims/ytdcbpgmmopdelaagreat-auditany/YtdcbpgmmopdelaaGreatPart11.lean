/- QS WR26 WY26 ReadN LastN LastR LastS ArgR RawO ArgO ArgT -/
import Derived.Test.YtdcbpgmmopdelaaGreatPart10
import Derived.Test.YtdcbpgmmopdelaaGreatPart00
import Derived.Test.YtdcbpgmmopdelaaGreatPart09
import Derived.Deep.Slices
import Derived.ProofKit
import Derived.OpenShut
import Derived.WideKeyArgs
import Derived.SizedLaws
import Derived.Test.YtdcbpgmmopdelaaGreatPart07
set_option linter.all false
namespace Orr
open Go Go.Proofs Tryz Orq
set_option maxRecDepth 10000
theorem Qif{α:Type}{a b:List α}(hl:a.length=b.length)(h:∀(j:Nat) (x y:α),j<a.length->a[j]? = some x->b[j]? = some y->x=y):a=b:=by
 refine Xv λi=>?_
 by_cases hi:i<a.length
 ·have h1:=Qf hi;have h2:=Qf (show i<b.length by omega);rw[h1,h2,h i _ _ hi h1 h2]
 ·rw[Qt (by omega),Qt (by omega)]
theorem Qr1{a b:Ft}(ha:a.length<=1000000)(hb:b.length<=1000000):Fo 29 [.one (.row (Cq a)),.one (.row (Cq b))] [.one (.bool (decide (a=b)))]:=by
 have h1:(Cq a).length=a.length:=by simp[Cq]
 have h2:(Cq b).length=b.length:=by simp[Cq]
 by_cases hl:a.length=b.length
 case neg =>
  rw[decide_eq_false λe=>hl (by rw[e])];exact Fi func29 rfl [.T] rfl
 refine Sp func29 rfl ?_;refine Ff [.F] rfl ?_;refine Fl (S:=Nat) 0 (λL1 i=>(5,.v (.oi i))::L1) (λ_=>[]) (λi=>a.length-i) (λi=>i<=a.length/\∀(j:Nat) (x y:Int),j<i->a[j]? = some x->b[j]? = some y->x=y) 0 ⟨Qh _,λj _ _ h=>absurd h (Xo j)⟩ rfl rfl λi ⟨hi,hg⟩=>?_
 by_cases h:i<a.length
 ·obtain⟨x,hx⟩:=gxE (l:=a) (i:=i) h;obtain⟨y,hy⟩:=gxE (l:=b) (i:=i) (by omega);by_cases e:x=y
  ·refine go tt [.T,.x (O3 hx),.x (O3 hy),.f (by simpa using e)] rfl (by simp[Ge] <;> omega) ?_;refine rd (i+1) (by omega) ⟨h,λj x' y' hj hx' hy'=>?_⟩ rfl;by_cases ej:j=i
   ·subst ej;rw[hx]at hx';rw[hy]at hy';rw[<-Option.some.inj hx',<-Option.some.inj hy'];exact e
   ·exact hg j x' y' (by omega) hx' hy'
  ·rw[decide_eq_false λe'=>e (by subst e';rw[hx]at hy;exact Option.some.inj hy)];exact Fh [.T,.x (O3 hx),.x (O3 hy),.t (by simpa using e)] rfl rfl (by simp[Ge] <;> omega)
 ·rw[decide_eq_true (Qif hl λj x y hj=>hg j x y (by omega))];exact Fh [.F] rfl
theorem Qw2{a b:List T3}(ha:a.length<=1000000)(hb:b.length<=1000000):Fo 30 [.one (.row (E5 a)),.one (.row (E5 b))] [.one (.bool (decide (a=b)))]:=by
 have h1:=VB a;have h2:=VB b;by_cases hl:a.length=b.length
 case neg =>
  rw[decide_eq_false λe=>hl (by rw[e])];exact Fi func30 rfl [.T] rfl
 refine Sp func30 rfl ?_;refine Ff [.F] rfl ?_;refine Fl (S:=Nat) 0 (λL1 i=>(5,.v (.oi i))::L1) (λ_=>[]) (λi=>a.length-i) (λi=>i<=a.length/\∀(j:Nat) (x y:T3),j<i->a[j]? = some x->b[j]? = some y->x=y) 0 ⟨Qh _,λj _ _ h=>absurd h (Xo j)⟩ rfl rfl λi ⟨hi,hg⟩=>?_
 by_cases h:i<a.length
 ·obtain⟨x,hx⟩:=gxE (l:=a) (i:=i) h;obtain⟨y,hy⟩:=gxE (l:=b) (i:=i) (by omega);by_cases e:x=y
  ·refine go tt [.T,.x (XV hx),.x (XV hy),.f (by simp[e])] rfl (by simp[Ge] <;> omega) ?_;refine rd (i+1) (by omega) ⟨h,λj x' y' hj hx' hy'=>?_⟩ rfl;by_cases ej:j=i
   ·subst ej;rw[hx]at hx';rw[hy]at hy';rw[<-Option.some.inj hx',<-Option.some.inj hy'];exact e
   ·exact hg j x' y' (by omega) hx' hy'
  ·rw[decide_eq_false λe'=>e (by subst e';rw[hx]at hy;exact Option.some.inj hy)];obtain⟨x1,x2,x3⟩:=x;obtain⟨y1,y2,y3⟩:=y;exact Fh [.T,.x (XV hx),.x (XV hy),.t (by simpa using Qml e)] rfl rfl (by simp[Ge] <;> omega)
 ·rw[decide_eq_true (Qif hl λj x y hj=>hg j x y (by omega))];exact Fh [.F] rfl
theorem SG{n:Nat}:∀(l out:List Pt),Ic out->Ic (Nf n out l)
 | [],out,h=>by simpa[Nf]using h
 |
  p::l,out,h=>by
  unfold Nf
  split
  ·split
   ·exact SG l out h
   ·rename_i hn;refine SG l _ (Zv.2 ⟨h,V3 _ _,λx hx y hy=>?_⟩);rw[Qp.1 hy];intro e;exact hn (Kr.2 ⟨x,hx,by simpa using e⟩)
  ·exact h
theorem Qvs{zs:List RawPt}:Rt (IC 4 20 zs):=⟨λp hp=>(Qec (by decide) p hp:Cs 10 3 p.c).mono (by decide) (by decide),SG _ [] List.Pairwise.nil,GM _ _ (Qh _)⟩
theorem Qi9(l:Ft)(n:Nat):(Cq l).take n=Cq (l.take n):=by simp[Cq,Vs]
theorem Qe9(l:List T3)(n:Nat):(E5 l).take n=E5 (l.take n):=by simp[E5,Vs]
abbrev Qtd(O:List Pt)(x:Tm)(C:Fu)(L W H P:Ft)(M:List T3):Ga:=[.row false 76 5 (Ra O),.gone,.blk 36 (ax x.p C x.lo x.hi),.blk 59 (ta x),.blk 65 [ids L,ids W,ids H,ids P,.row (E5 M)]]
set_option maxHeartbeats 8000000 in
theorem rN{zs:List RawPt}{c:Ft}{k:Int}{is:Ft}{ts:List T3}(hz:∀z∈zs,z.Ok)(hc:∀z∈c,-9223372036854775808≤z/\z≤9223372036854775807)(hk:-9223372036854775808≤k/\k≤9223372036854775807):Fo 6 [.one (.row (jS zs)),.one (.row (Cq c)),.oi k,.one (.row (Cq is)),.one (.row (E5 ts))] [.one (.bool true)]:=by
 have cp:=Qc5 hz;have rt:=Qvs (zs:=zs);obtain⟨O,hO⟩:=nmE (IC 4 20 zs);rw[<-hO]at cp rt;have ho4:=rt.n;have Ei:=P8 O;have hil:(Cq c).length=c.length:=by simp[Cq]
 have hisl:(Cq is).length=is.length:=by simp[Cq]
 have htsl:=VB ts;refine Sp func6 rfl (ln 1 rfl rfl λh1=>ln 3 rfl rfl λh3=>ln 4 rfl rfl λh4=>?_);obtain⟨x,C,pk,cx⟩:=Qtu hc hk (by omega);obtain⟨L,W,H,P,M,an,ca⟩:=Qtb rt pk;refine Ff [.c [0,1] cp,.k cx,.k pk.to,.p 1,.k ca] rfl ?_ (by simp[Ge]);obtain⟨js,hjs⟩:=nmE (is.take 6);obtain⟨us,hus⟩:=nmE (ts.take 5);have hjl:js.length<=6:=by rw[hjs,Qz];omega
 have hul:us.length<=5:=by rw[hus,Qz];omega
 have hjl2:(Cq js).length=js.length:=by simp[Cq]
 refine ct 1 (S:=Unit) (λ_=>[(3,.v (.one (.row (Cq js)))),(4,.v (.one (.row (E5 ts)))),(11,.v (.one (.orow 0 5 none))),(14,.v (.one (.ow 3 0))),(15,.v (.one (.ow 4 0)))]) (λ_=>Qtd O x C L W H P M) (λ_=>True) rfl ?_ λ_ _=>?_
 ·by_cases h6:6<is.length
  ·exact go tt [.T,.i 6] rfl (by simp[Ge,hisl];omega) (rc () trivial (by rw[hjs,<-Qi9];rfl))
  ·exact go tt [.F] rfl trivial (rc () trivial (by rw[hjs,Qo (by omega)];rfl))
 refine Ff [] rfl ?_;refine ct 1 (S:=Unit) (λ_=>[(3,.v (.one (.row (Cq js)))),(4,.v (.one (.row (E5 us)))),(11,.v (.one (.orow 0 5 none))),(14,.v (.one (.ow 3 0))),(15,.v (.one (.ow 4 0)))]) (λ_=>Qtd O x C L W H P M) (λ_=>True) rfl ?_ λ_ _=>?_
 ·by_cases h5:5<ts.length
  ·exact go tt [.T,.i 5] rfl (by simp[Ge,htsl];omega) (rc () trivial (by rw[hus,<-Qe9];rfl))
  ·exact go tt [.F] rfl trivial (rc () trivial (by rw[hus,Qo (by omega)];rfl))
 refine Ff [] rfl ?_;obtain⟨one,hone⟩:∃one:Int,one=if 1<js.length then js.getD 0 0 else -1:=⟨_,rfl⟩
 obtain⟨two,htwo⟩:∃two:Int,two=if 1<js.length then js.getD 1 0 else -1:=⟨_,rfl⟩
 refine ct 1 (S:=Unit) (λ_=>[(3,.v (.one (.row (Cq js)))),(4,.v (.one (.row (E5 us)))),(11,.v (.one (.orow 0 5 none))),(14,.v (.one (.ow 3 0))),(15,.v (.one (.ow 4 0))),(16,.v (.oi one)),(17,.v (.oi two))]) (λ_=>Qtd O x C L W H P M) (λ_=>True) rfl ?_ λ_ _=>?_
 ·by_cases h2:1<js.length
  ·rw[if_pos h2]at hone htwo;have g0:js[0]? = some one:=by rw[hone,Qc,Qf (by omega)];rfl
   have g1:js[1]? = some two:=by rw[htwo,Qc,Qf (by omega)];rfl
   exact go tt [.T,.x (i:=0) (O3 g0),.x (i:=1) (O3 g1)] rfl (by simp[Ge] <;> omega) (rc () trivial rfl)
  ·rw[if_neg h2]at hone htwo;rw[hone,htwo];exact go tt [.F] rfl trivial (rc () trivial rfl)
 have aL:=an.aL js (by omega);have aH:=an.aH js (by omega);have aM:=an.aM us (by omega);have aW:=an.aW one;have aP:=an.aP one two;have sL:=Qr1 (a:=js) (b:=L) (by omega) (by have:=an.ln;omega);have sH:=Qr1 (a:=js) (b:=H) (by omega) (by have:=an.hn;omega);have sM:=Qw2 (a:=us) (b:=M) (by omega) (by have:=an.mn;omega);by_cases h0:O.length=0
 ·have eW:=an.w0 h0;have eP:=an.p0 (by omega);subst eW eP;exact Fh [.g 56 false rfl,.g 68 false rfl,.g 76 false rfl,.p 0,.k aL,.k sL,.g 93 true (by simp),.k aH,.k sH,.g 104 true (by simp),.k aM,.k sM,.g 115 true (by simp),.k aW,.g 123 true (by simp),.k aP,.g 132 true (by simp),.k KZ] rfl rfl (by simp[Ge])
 obtain⟨w_,eW⟩:=an.w1 (by omega);subst eW;have g1:(Cq [w_])[0]? = some [.int .i64 w_]:=rfl;by_cases h2:O.length<2
 ·have eP:=an.p0 h2;subst eP;exact Fh [.g 56 true rfl,.x g1,.g 68 false rfl,.g 76 false rfl,.p 0,.k aL,.k sL,.g 93 true (by simp),.k aH,.k sH,.g 104 true (by simp),.k aM,.k sM,.g 115 true (by simp),.k aW,.g 123 true (by simp),.k aP,.g 132 true (by simp),.k KZ] rfl rfl (by simp[Ge])
 ·obtain⟨a,b,eP⟩:=an.p1 (by omega);subst eP;have g2:(Cq [a,b])[0]? = some [.int .i64 a]:=rfl;have g3:(Cq [a,b])[1]? = some [.int .i64 b]:=rfl;by_cases ea:a=one
  ·exact Fh [.g 56 true rfl,.x g1,.g 68 true rfl,.x g2,.g 76 true (decide_eq_true ea),.x g3,.p 0,.k aL,.k sL,.g 93 true (by simp),.k aH,.k sH,.g 104 true (by simp),.k aM,.k sM,.g 115 true (by simp),.k aW,.g 123 true (by simp),.k aP,.g 132 true (by simp[ea]),.k KZ] rfl rfl (by simp[Ge])
  ·exact Fh [.g 56 true rfl,.x g1,.g 68 true rfl,.x g2,.g 76 false (decide_eq_false ea),.p 0,.k aL,.k sL,.g 93 true (by simp),.k aH,.k sH,.g 104 true (by simp),.k aM,.k sM,.g 115 true (by simp),.k aW,.g 123 true (by simp),.k aP,.g 132 true (by simp[ea]),.k KZ] rfl rfl (by simp[Ge])
end Orr
namespace Orr
open Go Go.Proofs Tryz
variable{H:Type}{enc:TypeId×Value->H}{w:World}{base:Nat}{spare:Nat->Bool}{held:Bool}
theorem C0{α:Type}{l:List α}{n i:Nat}(h:l.length=n)(hi:i<n):∃x,l[i]? = some x:=⟨l[i]'(by omega),Qf (by omega)⟩
end Orr
namespace Orr
open Go Go.Proofs Tryz Go.ChangeShapes Go.WideShapes Go.ChangeAt Go.RowKit Go.WideElems
theorem Qoc{w:World}{a:Addr}{v:Value}(h:w.cell? a=some v):a.spot=none/\a.block<w.heap.size:=by
 simp only[World.cell?]at h
 split at h
 ·rename_i c t fr hc
  split at h
  ·cases h
  ·rename_i hs;refine⟨by cases e:a.spot with|none=>rfl|some _=>simp[e]at hs,?_⟩;exact(Array.getElem?_eq_some_iff.1 hc).1
 ·cases h
theorem Qnn{a:Addr}(h:a.spot=none)(n m:Nat):(a.add n).add m=⟨a.block,a.off+n+m,none⟩:=by
 obtain⟨b,o,s⟩:=a;simp only at h;subst h;simp only[Addr.add]
 split
 ·rename_i h;subst h
  split
  ·rename_i h;subst h;simp
  ·simp
 ·split
  ·rename_i h;subst h;simp
  ·simp
def fr0(w:World):Fr:=⟨λb=>b<w.heap.size,λ_=>False,w,λ_=>False,λ_=>none⟩
theorem BD(w:World):HS (fr0 w) (ob []) (nw []) (λ_=>none) (λ_=>False) w where
 size:=Qn _
 kept:=λb hb=>⟨hb,rfl,Iff.rfl⟩
 ids:=λi h=>h.elim
 nj:=λi h=>by rw[kA]at h;cases h
 io:=⟨rfl,rfl⟩
 blk:=λi=>by rw[kA];trivial
 nk:=λi g c m h _=>by rw[kA]at h;cases h
 inj:=λi j g c m c' m' h _ _ _=>by rw[kA]at h;cases h
 mlt:=λb h=>h.elim
 m0:=λb _ h=>h.elim
 un:=λi _=>⟨rfl,rfl⟩
 uj:=λi _ h=>h.elim
theorem Qqu{w w':World}{bl:Nat->OB}{U:Nat->Prop}{E:Lb}{M:Nat->Prop}(h:HS (fr0 w) bl U E M w'){p:MemPlace}(hp:p.block<w.heap.size):w.sameAt w' p:=by
 cases p with
 |cell b off=>simp only[World.sameAt,World.cell?];rw[(h.kept b hp).2.1];rfl
 |map b=>exact(h.kept b hp).2.1
theorem Qpa{w w':World}{bl:Nat->OB}{U:Nat->Prop}{E:Lb}{M:Nat->Prop}(h:HS (fr0 w) bl U E M w')(may:MemPlace->Prop):w.keptBut w' may:=by
 refine⟨h.io.1,h.io.2,λi hi=>?_⟩;have e:w'.heap[i]? = w.heap[i]? := (h.kept i hi).2.1;rw[e];cases w.heap[i]? with
 |none=>rfl
 |some o=>cases o <;> simp
theorem VL{H:Type}{P:Program}{e:TypeId}:∀{l:List (DataW H)} {i:Nat} {d:DataW H},l[i]? = some d->∀n∈d.weights P e,n∈DataW.weightsAll P e l
 | [],i,d,h,_,_=>by simp at h
 |
  x::l,0,d,h,n,hn=>by
  simp at h;subst h;simp only[DataW.weightsAll,Qr];exact .inl hn
 |
  x::l,i+1,d,h,n,hn=>by
  simp only[DataW.weightsAll,Qr];exact .inr (VL (i:=i) (by simpa using h) n hn)
theorem QU{H:Type}{P:Program}{t:TypeId}{fs:Array Field}{parts:List (DataW H)}(hu:P.underlying t=some (.struct fs))(hz:((DataW.agg parts).weights P t).all (· <= reachBytes)=true){i:Nat}{f:Field}{d:DataW H}(hf:fs[i]? = some f)(hd:parts[i]? = some d) :
 (d.weights P f.type).all (· <= reachBytes)=true:=by
 rw[X9]at hz ⊢;intro n hn;refine hz n ?_;simp only[DataW.weights,hu];exact DataW.weights_mem_each (j:=i) (by rw[Q8];simp[hf]) hd n hn
variable{H:Type}{enc:TypeId×Value->H}{w:World}
abbrev O0:Nat->Prop:=λ_=>False
def nW(w:World)(cs:List Value)(ls:Fy):Prop:=cs.length=ls.length/\∀(j:Nat) (u:LV),ls[j]? = some u->∃v,cs[j]? = some v/\LRep w O0 v u
theorem RX{α:Type}{rw_:α->Fy}{Ok:α->Prop}{t e sz:Nat}(hu:prog.underlying t=some (.slice e))(hc:prog.cellsOf e=sz)(hsz:0<sz)(hb:1<=prog.bytesOf e)(hw:∀z,(rw_ z).length=sz)
 (elem:∀fuel cs x,DataW.trod enc prog w 0 (λ_=>true) true fuel e cs=some x->(x.1.weights prog e).all (· <= reachBytes)=true->∃z,Ok z/\nW w cs (rw_ z))
 {fuel:Nat} {cs:List Value} {x:DataW H×List MemPlace} (h:DataW.trod enc prog w 0 (λ_=>true) true fuel t cs=some x) (hz:(x.1.weights prog t).all (· <= reachBytes)=true) :
 ∃(v:Value) (l:List α),cs=[v]/\(∀z∈l,Ok z)/\l.length<2^47/\LRep w O0 v (.row (l.map rw_)):=by
 rcases Go.Deep.open_slice hu h with⟨rfl,_⟩|⟨a',len,cap,m,n,D,Pl,rfl,_,hlc,hcap,hm,rfl,hr⟩
 ·refine⟨_,[],rfl,by simp,Nat.two_pow_pos 47,?_⟩;exact LRep.row none 0 0 0 0 [] (λ_ _=>.bool true) (Qn _) (by decide) (by simp) (by simp) (by simp) (by simp)
 ·simp only[if_true]at hm;subst hm;rw[X9]at hz;have hlen:len<2^47:=by
   have h0:=hz ((len+(m-len))*prog.bytesOf e) (by simp[DataW.weights,hu]);have h1:len<=(len+(m-len))*prog.bytesOf e:=by
    have:=Xi (V0 len (m-len)) hb;omega
   have h2:(len+(m-len))*prog.bytesOf e<=reachBytes:=by simpa using h0
   exact Xg (Qe h1 h2) reachBytes_lt
  have hel:∀i,i<len->((D i).weights prog e).all (· <= reachBytes)=true:=λi hi=>by
   rw[X9];intro k hk;refine hz k ?_;simp only[DataW.weights,hu];refine Qi _ (Qr.2 (.inl (VL (i:=i) ?_ k hk)));rw[Q8,Ji hi];rfl
  have hone:∀i,i<len->∃z cs',Ok z/\nW w cs' (rw_ z)/\∀j,j<sz->w.cell? ((a'.add (i*sz)).add j)=cs'[j]? := λi hi=>by
   obtain⟨cs',hcs,htr⟩:=hr i (by omega);rw[hc]at hcs;obtain⟨_,hl,hcell⟩:=World.cells?_some hcs;obtain⟨z,hz1,hz2⟩:=elem _ _ _ htr (hel i hi);refine⟨z,cs',hz1,hz2,λj hj=>?_⟩;rw[hcell j (by omega)]
  have hspot:0<len->a'.spot=none/\a'.block<w.heap.size:=λh0=>by
   obtain⟨z,cs',_,⟨hl,_⟩,h3⟩:=hone 0 h0;have h4:=h3 0 hsz;have:(a'.add (0*sz)).add 0=a':=by simp[Addr.add]
   rw[this,Qf (by rw[hl,hw];exact hsz)]at h4;exact Qoc h4
  obtain⟨l,hll,hl⟩:∃l:List α,l.length=len/\∀i z,l[i]? = some z->Ok z/\∃cs',nW w cs' (rw_ z)/\∀j,j<sz->w.cell? ((a'.add (i*sz)).add j)=cs'[j]? := by
   have:∀k,k<=len->∃l:List α,l.length=k/\∀i z,l[i]? = some z->Ok z/\∃cs',nW w cs' (rw_ z)/\∀j,j<sz->w.cell? ((a'.add (i*sz)).add j)=cs'[j]? := by
    intro k
    induction k with
    |zero=>intro _;exact⟨[],rfl,λi z h=>by simp at h⟩
    |
     succ k ih =>
     intro hk;obtain⟨l,h1,h2⟩:=ih (by omega);obtain⟨z,cs',h3,h4,h5⟩:=hone k (by omega);refine⟨l++[z],by simp[h1],λi y hy=>?_⟩;rcases Q7 i l.length with hi|hi
     ·rw[Q3 hi]at hy;exact h2 i y hy
     ·rw[Zj hi]at hy;have:i-l.length=0:=by
       rcases Qy (i-l.length)with h|h
       ·exact h
       ·rw[Qt (by rw[Jr];exact h)]at hy;cases hy
      rw[this]at hy;simp at hy;subst hy;have:i=k:=by omega
      subst this;exact⟨h3,cs',h4,h5⟩
   exact this len (Qn _)
  refine⟨_,l,rfl,λz hz=>?_,by rw[hll];exact hlen,?_⟩
  ·obtain⟨i,hi⟩:=Zp.1 hz;exact(hl i z hi).1
  ·have key:LRep w O0 (.slice (some a') (l.map rw_).length m) (.row (l.map rw_)):=by
    have hgl:∀i c,(l.map rw_)[i]? = some c->∃z,l[i]? = some z/\c=rw_ z/\i<len:=λi c h=>by
     rw[Q8]at h;cases e:l[i]? with
     |none=>rw[e]at h;cases h
     |some z=>rw[e]at h;simp at h;exact⟨z,rfl,h.symm,by have:=(Qd.1 e).1;omega⟩
    have hcl:∀i c,(l.map rw_)[i]? = some c->∃cs':List Value,nW w cs' c/\∀j,j<sz->w.cell? ⟨a'.block,a'.off+i*sz+j,none⟩=cs'[j]? := λi c h=>by
     obtain⟨z,hz,rfl,hi⟩:=hgl i c h;obtain⟨_,cs',h1,h2⟩:=hl i z hz;refine⟨cs',h1,λj hj=>?_⟩;rw[<-h2 j hj,Qnn (hspot (by omega)).1]
    refine LRep.row (some a') m sz a'.block a'.off (l.map rw_) (λi j=>(w.cell? ⟨a'.block,a'.off+i*sz+j,none⟩).getD (.bool true)) (by rw[Q5];omega) ?_ ?_ ?_ ?_ ?_
    ·have:maxLen=2^63-1:=by rfl
     omega
    ·intro c hc2;obtain⟨z,_,rfl⟩:=Zc.1 hc2;exact hw z
    ·intro h0;rw[Q5,hll]at h0;obtain⟨hs,hb⟩:=hspot h0;refine⟨?_,hb,by simp[O0]⟩;obtain⟨b,o,s⟩:=a';simp only at hs;rw[hs]
    ·intro i c hi j hj;obtain⟨z,_,rfl,_⟩:=hgl i c hi;obtain⟨cs',⟨h1,_⟩,h2⟩:=hcl i _ hi;have hjs:j<sz:=by rw[<-hw z];exact hj
     rw[h2 j hjs,Qf (by rw[h1];exact hj)];rfl
    ·intro i c hi j u hu2;obtain⟨z,_,rfl,_⟩:=hgl i c hi;obtain⟨cs',⟨h1,h3⟩,h2⟩:=hcl i _ hi;obtain⟨v,hv,hr2⟩:=h3 j u hu2;have hjs:j<sz:=by rw[<-hw z];exact(Qd.1 hu2).1
     show LRep w O0 ((w.cell? ⟨a'.block,a'.off+i*sz+j,none⟩).getD (.bool true)) u;rw[h2 j hjs,hv];exact hr2
   rw[Q5,hll]at key;exact key
abbrev Qyp(x:Nat):Fy:=[.int .u32 (x:Int)]
theorem Qmr:∀fuel cs x,DataW.trod enc prog w 0 (λ_=>true) true fuel 222 cs=some x->(x.1.weights prog 222).all (· <= reachBytes)=true->∃z:Nat,z<4294967296/\nW w cs (Qyp z):=by
 intro fuel cs x h _;obtain⟨n,rfl,_,hwf⟩:=DataW.trod_int underlying222 h;have hn:0<=n/\n<4294967296:=by
  have:0<=n/\n<=4294967295:=by simpa[Lit.wf,IntKind.min,IntKind.max,IntKind.signed,IntKind.bits]using hwf
  omega
 refine⟨n.toNat,by omega,rfl,λj u hu=>?_⟩
 match j,hu with
 |
  0,hu =>
  simp at hu;subst hu;refine⟨_,rfl,?_⟩;rw[show max n 0=n by omega];exact .int _ _
 |j+1,hu=>simp at hu
set_option maxRecDepth 20000 in
theorem EO:∀fuel cs x,DataW.trod enc prog w 0 (λ_=>true) true fuel 55 cs=some x->(x.1.weights prog 55).all (· <= reachBytes)=true->∃z:RawInt,z.Ok/\nW w cs (PM z):=by
 intro fuel cs x h hz;obtain⟨xs,n,_,rfl,hl,hxs,hf⟩:=DataW.trod_struct underlying55 h;have hl:cs.length=2:=hl
 match cs,hl with
 |
  [v0,v1],_ =>
  obtain⟨z0,hz0⟩:=C0 (i:=0) hxs (by decide);obtain⟨z1,hz1⟩:=C0 (i:=1) hxs (by decide);have h0:=hf 0 _ rfl;have h1:=hf 1 _ rfl;rw[hz0]at h0;rw[hz1]at h1;obtain⟨b,e0,_⟩:=DataW.trod_bool underlying4 h0;have f0:v0=.bool b:=(List.cons.inj (show [v0]=[Value.bool b] from e0)).1;have hw1:=QU underlying55 hz (i:=1) rfl (d:=z1.1) (by rw[Q8,hz1];rfl);obtain⟨v,l,e1,hlo,_,hrep⟩:=RX (sz:=1) (Ok:=λu:Nat=>u<4294967296) (rw_:=Qyp) underlying53 (by kernel_rfl) (by decide) (of_decide_eq_true (by kernel_rfl)) (λ_=>rfl) Qmr h1 hw1;have f1:v1=v:=(List.cons.inj (show [v1]=[v] from e1)).1;subst f0 f1;refine⟨⟨b,l⟩,⟨hlo⟩,rfl,λj u hu=>?_⟩
  match j,hu with
  | 0,hu=>simp at hu;subst hu;exact⟨_,rfl,.bool _⟩
  | 1,hu=>simp at hu;subst hu;exact⟨_,rfl,hrep⟩
  |j+2,hu=>simp at hu
set_option maxRecDepth 20000 in
theorem lF:∀fuel cs x,DataW.trod enc prog w 0 (λ_=>true) true fuel 76 cs=some x->(x.1.weights prog 76).all (· <= reachBytes)=true->∃z:RawPt,z.Ok/\nW w cs (rwq z):=by
 intro fuel cs x h hz;obtain⟨xs,n,_,rfl,hl,hxs,hf⟩:=DataW.trod_struct underlying76 h;have hl:cs.length=5:=hl
 match cs,hl with
 |
  [v0,v1,v2,v3,v4],_ =>
  obtain⟨z0,hz0⟩:=C0 (i:=0) hxs (by decide);obtain⟨z1,hz1⟩:=C0 (i:=1) hxs (by decide);have h0:=hf 0 _ rfl;have h1:=hf 1 _ rfl;rw[hz0]at h0;rw[hz1]at h1;obtain⟨id,e4,_,hwf⟩:=DataW.trod_int underlying3 h1;have f4:v4=.int .i64 id:=(List.cons.inj (show [v4]=[Value.int .i64 id] from e4)).1;have hw0:=QU underlying76 hz (i:=0) rfl (d:=z0.1) (by rw[Q8,hz0];rfl);obtain⟨ys,n2,_,e5,_,hys,hg⟩:=DataW.trod_struct underlying74 h0;rw[e5]at hw0;obtain⟨y0,hy0⟩:=C0 (i:=0) hys (by decide);obtain⟨y1,hy1⟩:=C0 (i:=1) hys (by decide);obtain⟨y2,hy2⟩:=C0 (i:=2) hys (by decide);have g0:=hg 0 _ rfl;have g1:=hg 1 _ rfl;have g2:=hg 2 _ rfl;rw[hy0]at g0;rw[hy1]at g1;rw[hy2]at g2;have w0:=QU underlying74 hw0 (i:=0) rfl (d:=y0.1) (by rw[Q8,hy0];rfl);have w1:=QU underlying74 hw0 (i:=1) rfl (d:=y1.1) (by rw[Q8,hy1];rfl);have w2:=QU underlying74 hw0 (i:=2) rfl (d:=y2.1) (by rw[Q8,hy2];rfl);obtain⟨u0,lx,e0,hx,_,rx⟩:=RX (sz:=2) (Ok:=RawInt.Ok) (rw_:=PM) underlying52 (by kernel_rfl) (by decide) (of_decide_eq_true (by kernel_rfl)) (λ_=>rfl) EO g0 w0;obtain⟨u1,ly,e1,hy,_,ry⟩:=RX (sz:=2) (Ok:=RawInt.Ok) (rw_:=PM) underlying52 (by kernel_rfl) (by decide) (of_decide_eq_true (by kernel_rfl)) (λ_=>rfl) EO g1 w1;obtain⟨d,hd,hde⟩:=EO _ _ _ g2 w2;have f0:v0=u0:=(List.cons.inj (show [v0]=[u0] from e0)).1;have f1:v1=u1:=(List.cons.inj (show [v1]=[u1] from e1)).1;have hde2:nW w [v2,v3] (PM d):=hde;subst f0 f1 f4;obtain⟨q2,hq2,r2⟩:=hde2.2 0 _ rfl;obtain⟨q3,hq3,r3⟩:=hde2.2 1 _ rfl;simp at hq2 hq3;subst hq2 hq3;refine⟨⟨lx,ly,d,id⟩,⟨hx,hy,hd,by simpa[Lit.wf,IntKind.min,IntKind.max,IntKind.signed,IntKind.bits]using hwf⟩,rfl,λj u hu=>?_⟩
  match j,hu with
  | 0,hu=>simp[rwq]at hu;subst hu;exact⟨_,rfl,rx⟩
  | 1,hu=>simp[rwq]at hu;subst hu;exact⟨_,rfl,ry⟩
  | 2,hu=>simp[rwq]at hu;subst hu;exact⟨_,rfl,r2⟩
  | 3,hu=>simp[rwq]at hu;subst hu;exact⟨_,rfl,r3⟩
  | 4,hu=>simp[rwq]at hu;subst hu;exact⟨_,rfl,.int _ _⟩
  |j+5,hu=>simp[rwq]at hu
end Orr
namespace Orr
open Go Go.Proofs Tryz Go.ChangeShapes Go.WideShapes Go.ChangeAt Go.RowKit Go.WideElems
variable{H:Type}{enc:TypeId×Value->H}{w:World}
theorem Qi8:∀fuel cs x,DataW.trod enc prog w 0 (λ_=>true) true fuel 3 cs=some x->(x.1.weights prog 3).all (· <= reachBytes)=true->∃z:Int,(-9223372036854775808<=z/\z<=9223372036854775807)/\nW w cs [LV.int .i64 z]:=by
 intro fuel cs x h _;obtain⟨n,rfl,_,hwf⟩:=DataW.trod_int underlying3 h;refine⟨n,by simpa[Lit.wf,IntKind.min,IntKind.max,IntKind.signed,IntKind.bits]using hwf,rfl,λj u hu=>?_⟩
 match j,hu with
 |
  0,hu =>
  simp at hu;subst hu;exact⟨_,rfl,.int _ _⟩
 |j+1,hu=>simp at hu
end Orr
namespace Orr
open Go Go.Proofs Tryz Go.ChangeShapes Go.WideShapes Go.ChangeAt Go.RowKit Go.WideElems
set_option maxRecDepth 10000
def MK(t:TypeId)(R:TV->Prop):Prop:=∀{H:Type} {enc:TypeId×Value->H} {W:World} {base:Nat} {v:Value} {d:DataW H} {p:List MemPlace},Value.okWide prog W .any base t v->DataW.Trod enc prog W 0 (λ_=>true) true t v d p->(d.weights prog t).all (· <= reachBytes)=true->∃u,R u/\TRep W (λ_=>False) (λ_=>none) v u
section
variable{H:Type}{enc:TypeId×Value->H}{W W':World}{base:Nat}
theorem pD:∀{ps:List (TypeId×(TV->Prop))} {args:List Value} {ds:List (DataW H)} {p:List MemPlace},DataW.TrodAll enc prog W 0 (λ_=>true) true (ps.map (·.1)) args ds p ->
 (∀(j:Nat) t v,(ps.map (·.1))[j]? = some t->args[j]? = some v->Value.okWide prog W .any base t v)->(∀(j:Nat) t d,(ps.map (·.1))[j]? = some t->ds[j]? = some d->(d.weights prog t).all (· ≤ reachBytes)=true)->(∀q∈ps,MK q.1 q.2) ->
 ∃us,F2 (λu (q:TypeId×(TV->Prop))=>q.2 u) us ps/\F2 (TRep W (λ_=>False) (λ_=>none)) args us/\ds.length=ps.length
 |
  [],args,ds,p,h,_,_,_=>by
  obtain⟨rfl,rfl,rfl⟩:=trodAll_nil h;exact⟨[],.nil,.nil,rfl⟩
 |
  q::ps,args,ds,p,h,hv,hw,hr=>by
  obtain⟨v,vs,d,ds',p1,p2,rfl,rfl,rfl,h1,h2⟩:=trodAll_cons h;obtain⟨u,r1,r2⟩:=hr q (Qw ..) (hv 0 q.1 v rfl rfl) h1 (hw 0 q.1 d rfl rfl);obtain⟨us,s1,s2,s3⟩:=pD h2 (λj t v h h'=>hv (j+1) t v (by simpa using h) (by simpa using h')) (λj t d h h'=>hw (j+1) t d (by simpa using h) (by simpa using h')) λq hq=>hr q (Qi _ hq)
  exact⟨u::us,.cons r1 s1,.cons r2 s2,by simp[s3]⟩
theorem mG{sp':Nat->Bool}(hl:laidOutB prog=true):∀{ps:List (TypeId×(TV->Prop))} {args:List Value} {ds:List (DataW H)} {p:List MemPlace},DataW.TrodAll enc prog W 0 (λ_=>true) true (ps.map (·.1)) args ds p ->
 (∀q∈ps,prog.readableRec q.1=true/\q.1<prog.types.size)->(∀x∈p,W.sameAt W' x)->(∀x∈p,sp' x.block=true)->DataW.TrodAll enc prog W' 0 sp' true (ps.map (·.1)) args ds p
 |
  [],args,ds,p,h,_,_,_=>by
  obtain⟨rfl,rfl,rfl⟩:=trodAll_nil h;exact trodAll_mk0
 |
  q::ps,args,ds,p,h,hr,hs,hb=>by
  obtain⟨v,vs,d,ds',p1,p2,rfl,rfl,rfl,h1,h2⟩:=trodAll_cons h;obtain⟨r1,r2⟩:=hr q (Qw ..);exact trodAll_cons_mk (Trod_stays hl r1 r2 h1 (λx hx=>hs x (Qr.2 (.inl hx))) λx hx=>hb x (Qr.2 (.inl hx))) (mG hl h2 (λq hq=>hr q (Qi _ hq)) (λx hx=>hs x (Qr.2 (.inr hx))) λx hx=>hb x (Qr.2 (.inr hx)))
end
theorem Qjj{ps:List (TypeId×(TV->Prop))}{f:FuncId}{fn:Func}{s:ChangeSpec}(hp:fn.params=(ps.map (·.1)).toArray)(hr:fn.resultTypes = #[4])(hv:s.vars=[])
 (hs:∀(H:Type) (ds:List (DataW H)),ds.length=ps.length->s.fn H ds={ results:=[.lit (.bool true)],args:=ds })
 (hlaid:laidOutB prog=true) (hrec:∀q∈ps,prog.readableRec q.1=true/\q.1<prog.types.size) (hrd:∀q∈ps,MK q.1 q.2)
 (law:∀us:Gb,F2 (λu (q:TypeId×(TV->Prop))=>q.2 u) us ps->yK prog f us [.one (.bool true)])
 {H:Type} {enc:TypeId×Value->H} {W:World} {base:Nat} {args:Array Value} {ds gs:List (DataW H)} {Rk:List MemPlace} {fresh handsOn:Bool}
 (hval:∀(j:Nat) t v,fn.params[j]? = some t->args[j]? = some v->Value.okWide prog W .any base t v)
 (hW:DataW.Whole enc prog fn.params.toList s.vars false W args.toList ds gs Rk)
 (hz:(DataW.weightsEach prog (fn.params.toList++s.plain.varTypes prog) (ds++gs)).all (· <= reachBytes)=true) :
 Calls prog f args W λe W'=>∃v,e=.returned v/\s.post enc prog fn false fresh handsOn false W args v W':=by
 have hW':=hW;obtain⟨p,q,hA0,hV,rfl,hfz,hnd⟩:=hW;have hA:DataW.TrodAll enc prog W 0 (λ_=>true) true fn.params.toList args.toList ds p:=hA0;rw[hv]at hV;obtain⟨rfl,rfl⟩:=trodVars_none hV;have hlt:=hW'.lt;rw[hp]at hA hval hz;have hA:DataW.TrodAll enc prog W 0 (λ_=>true) true (ps.map (·.1)) args.toList ds p:=by simpa using hA
 obtain⟨us,r1,r2,r3⟩:=pD (base:=base) hA (λj t v h h'=>hval j t v (by simpa using h) (by simpa using h')) (λj t d h h'=>by
  rw[X9]at hz ⊢;intro k hk;have hj:j<(ps.map (·.1)).length:=(Qd.1 h).1;have hj2:j<ds.length:=(Qd.1 h').1;exact hz k (DataW.weights_mem_each (j:=j) (by rw[Q3 (by simpa using hj)];simpa using h) (by rw[Q3 hj2];exact h') k hk)) hrd
 have hcall:=(law us r1).2 (fr0 W) (λ_=>none) (λ_=>False) W args.toList (BD W) r2;have ea:args.toList.toArray=args:=by simp
 rw[ea]at hcall;refine hcall.mono λe W' ⟨v,u,Bo,E',M',he,⟨hu,hBo⟩,_,hm,har⟩=>?_
 subst hu;obtain rfl:v=.bool true:=by
  have h:LRep _ _ v (.bool true):=har;cases h;rfl
 refine⟨_,he,?_⟩;refine⟨ds,[],_,[],p,[],hW',?_,?_,?_,Qpa hm _,λh=>by cases h⟩
 ·rw[hr,Xk,hs H ds r3];exact trodAll_cons_mk (shut_bool underlying4 true) trodAll_mk0
 ·rw[hp,Xk,hs H ds r3];have hb:∀x∈p,x.block<W.heap.size:=λx hx=>hlt x (by simp[hx])
  have:=mG (sp':=λb=>decide (b<W.heap.size)) hlaid hA hrec (λx hx=>Qqu hm (hb x hx)) λx hx=>by simpa using hb x hx
  simpa using this
 ·rw[hv,Xk,hs H ds r3];rfl
abbrev Qwp(u:TV):Prop:=∃n:Int,(-9223372036854775808<=n/\n<=9223372036854775807)/\u=.oi n
abbrev Qws(u:TV):Prop:=∃zs:List RawPt,(∀z∈zs,z.Ok)/\u=.one (.row (jS zs))
abbrev Qfl(u:TV):Prop:=∃zs:Ft,(∀z∈zs,-9223372036854775808≤z/\z≤9223372036854775807)/\u=.one (.row (Cq zs))
theorem Qeq:MK 3 Qwp:=λ{H enc W base v d p} hv h _=>by
 obtain⟨n,rfl,rfl,rfl,w1⟩:=open_int underlying3 hv h;exact⟨_,⟨n,by simpa[Lit.wf,IntKind.min,IntKind.max,IntKind.signed,IntKind.bits]using w1,rfl⟩,show XRep W (λ_=>False) (λ_=>none) (.int .i64 n) (.int .i64 n) from(LRep.int .i64 n).x⟩
theorem PT{α:Type}{rw_:α->Fy}{Ok:α->Prop}{t e sz:Nat}(hu:prog.underlying t=some (.slice e))(hc:prog.cellsOf e=sz)(hsz:0<sz)(hb:1<=prog.bytesOf e)(hw:∀z,(rw_ z).length=sz)
 (elem:∀{H:Type} {enc:TypeId×Value->H} {w:World} fuel cs x,DataW.trod enc prog w 0 (λ_=>true) true fuel e cs=some x->(x.1.weights prog e).all (· ≤ reachBytes)=true->∃z,Ok z/\nW w cs (rw_ z)):MK t λu=>∃l:List α,(∀z∈l,Ok z)/\u=.one (.row (l.map rw_)):=λ{H enc W base v d p} hv h hz=>by
 obtain⟨a,len,cap,rfl⟩:=okWide_slice hu hv;obtain⟨fu,h⟩:=h;obtain⟨v,l,e0,hok,_,hrep⟩:=RX hu hc hsz hb hw (λfuel cs x h h'=>elem fuel cs x h h') h hz;have f0:Value.slice a len cap=v:=(List.cons.inj (show [Value.slice a len cap]=[v] from e0)).1;subst f0;exact⟨_,⟨l,hok,rfl⟩,show XRep W (λ_=>False) (λ_=>none) _ (.row (l.map rw_)) from hrep.x⟩
theorem Qer:MK 22 Qws:=PT (sz:=5) (Ok:=RawPt.Ok) (rw_:=rwq) underlying22 (by kernel_rfl) (by decide) (of_decide_eq_true (by kernel_rfl)) (λ_=>rfl) λfuel cs x=>lF fuel cs x
theorem IE:MK 23 Qfl:=PT (sz:=1) (Ok:=λz:Int=>-9223372036854775808<=z/\z<=9223372036854775807) (rw_:=λz:Int=>[LV.int .i64 z]) underlying23 (by kernel_rfl) (by decide) (of_decide_eq_true (by kernel_rfl)) (λ_=>rfl) λfuel cs x=>Qi8 fuel cs x
end Orr
namespace Orr
open Go
structure RawOp where
 k:Int
 n:Int
 d:Int
 p:RawPt
 t:RawInt
 u:RawInt
structure RawOp.Ok(o:RawOp):Prop where
 k:-9223372036854775808<=o.k/\o.k<=9223372036854775807
 n:-9223372036854775808<=o.n/\o.n<=9223372036854775807
 d:-9223372036854775808<=o.d/\o.d<=9223372036854775807
 p:o.p.Ok
 t:o.t.Ok
 u:o.u.Ok
end Orr
namespace Orr
open Go Go.Proofs Tryz Go.ChangeShapes Go.WideShapes Go.ChangeAt Go.RowKit Go.WideElems
set_option maxRecDepth 10000
theorem Qai{w:World}{cs cs':List Value}{ls ls':Fy}(h:nW w cs ls)(h':nW w cs' ls'):nW w (cs++cs') (ls++ls'):=by
 refine⟨by simp[h.1,h'.1],λj u hu=>?_⟩;by_cases hj:j<ls.length
 ·rw[Q3 hj]at hu;obtain⟨v,hv,hr⟩:=h.2 j u hu;exact⟨v,by rw[Q3 (by rw[h.1];exact hj)];exact hv,hr⟩
 ·rw[Zj (by omega)]at hu;obtain⟨v,hv,hr⟩:=h'.2 _ u hu;exact⟨v,by rw[Zj (by rw[h.1];omega),h.1];exact hv,hr⟩
theorem vH{w:World}{n:Int}:nW w [.int .i64 n] [.int .i64 n]:=⟨rfl,λj u hu=>by
 match j,hu with
 | 0,hu=>simp at hu;subst hu;exact⟨_,rfl,.int _ _⟩
 |j+1,hu=>simp at hu⟩
section
variable{H:Type}{enc:TypeId×Value->H}{w:World}
end
end Orr
namespace Orr
open Go Go.Proofs Tryz Go.ChangeShapes Go.WideShapes Go.ChangeAt Go.RowKit Go.WideElems
variable{H:Type}{enc:TypeId×Value->H}{w:World}
set_option maxRecDepth 20000 in
theorem Qmm:∀fuel cs x,DataW.trod enc prog w 0 (λ_=>true) true fuel 79 cs=some x->(x.1.weights prog 79).all (· <= reachBytes)=true->∃z:T3,True/\nW w cs [LV.int .i64 z.1,.int .i64 z.2.1,.int .i64 z.2.2]:=by
 intro fuel cs x h hz;obtain⟨xs,n,_,rfl,hl,hxs,hf⟩:=DataW.trod_array underlying79 h;have hc:prog.cellsOf 3=1:=by kernel_rfl
 have hl:cs.length=3:=hl;rw[hc]at hf
 match cs,hl with
 |
  [v0,v1,v2],_ =>
  obtain⟨z0,hz0⟩:=C0 (i:=0) hxs (by decide);obtain⟨z1,hz1⟩:=C0 (i:=1) hxs (by decide);obtain⟨z2,hz2⟩:=C0 (i:=2) hxs (by decide);have h0:=hf 0 (by decide);have h1:=hf 1 (by decide);have h2:=hf 2 (by decide);rw[hz0]at h0;rw[hz1]at h1;rw[hz2]at h2;obtain⟨k,e0,_,w0⟩:=DataW.trod_int underlying3 h0;obtain⟨m,e1,_,w1⟩:=DataW.trod_int underlying3 h1;obtain⟨d,e2,_,w2⟩:=DataW.trod_int underlying3 h2;have f0:v0=.int .i64 k:=(List.cons.inj (show [v0]=[Value.int .i64 k] from e0)).1;have f1:v1=.int .i64 m:=(List.cons.inj (show [v1]=[Value.int .i64 m] from e1)).1;have f2:v2=.int .i64 d:=(List.cons.inj (show [v2]=[Value.int .i64 d] from e2)).1;subst f0 f1 f2;exact⟨(k,m,d),trivial,Qai (Qai vH vH) vH⟩
abbrev Qru(u:TV):Prop:=∃l:List T3,(∀z∈l,True)/\u=.one (.row (E5 l))
theorem lO:MK 63 Qru:=PT (sz:=3) (Ok:=λ_:T3=>True) (rw_:=λm:T3=>[LV.int .i64 m.1,.int .i64 m.2.1,.int .i64 m.2.2]) underlying63 (by kernel_rfl) (by decide) (of_decide_eq_true (by kernel_rfl)) (λ_=>rfl) λfuel cs x=>Qmm fuel cs x
end Orr
