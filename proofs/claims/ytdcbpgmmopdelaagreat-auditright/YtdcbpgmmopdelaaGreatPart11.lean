/- WR26 ReadN LastN LastR LastS ArgR -/
import Derived.Test.YtdcbpgmmopdelaaGreatPart10
import Derived.Test.YtdcbpgmmopdelaaGreatPart09
import Derived.Test.YtdcbpgmmopdelaaGreatPart00
import Derived.Deep.Slices
import Derived.ProofKit
import Derived.OpenShut
import Derived.WideKeyArgs
import Derived.SizedLaws
import Derived.Test.YtdcbpgmmopdelaaGreatPart07
set_option linter.all false
namespace Orr
open Go Go.Proofs Tryz Orq
set_option maxRecDepth 10000
theorem SY{n:Nat}:∀(l out:List Pt),Ia out->Ia (Nf n out l)
 | [],out,h=>by simpa[Nf]using h
 |
  p::l,out,h=>by
  unfold Nf
  split
  ·split
   ·exact SY l out h
   ·rename_i hn;refine SY l _ (Zv.2 ⟨h,V2 _ _,λx hx y hy=>?_⟩);rw[Qo.1 hy];intro e;exact hn (Kq.2 ⟨x,hx,by simpa using e⟩)
  ·exact h
theorem Qu9{zs:List RawPt}:Rt (IS 4 20 zs):=⟨λp hp=>(Qd0 (by decide) p hp:Cs 10 3 p.c).mono (by decide) (by decide),SY _ [] List.Pairwise.nil,GG _ _ (Qh _)⟩
set_option maxHeartbeats 4000000 in
theorem OS{zs:List RawPt}{c:Ft}{k:Int}(hz:∀z∈zs,z.Ok)(hc:∀z∈c,-9223372036854775808≤z/\z≤9223372036854775807)(hk:-9223372036854775808≤k/\k≤9223372036854775807):Fo 4 [.one (.row (jG zs)),.one (.row (Am c)),.oi k] [.one (.bool true)]:=by
 have cp:=Qct hz;have rt:=Qu9 (zs:=zs);obtain⟨O,hO⟩:=nmE (IS 4 20 zs);rw[<-hO]at cp rt;have ho4:=rt.n;have Eg:=P8 O;have hil:(Am c).length=c.length:=by simp[Am]
 refine Sp func4 rfl (ln 1 rfl rfl λh1=>?_);obtain⟨x,C,pk,cx⟩:=Qtb hc hk (by omega);obtain⟨L,W,H,P,M,an,ca⟩:=Qst rt pk;have e:O.map Pv=Ra O:=rfl;have a1:=an.aL L (by have:=an.ln;omega);have a2:=an.aH H (by have:=an.hn;omega);have a3:=an.aM M (by have:=an.mn;omega);rw[decide_eq_true rfl]at a1 a2 a3;by_cases h0:O.length=0
 ·rw[an.w0 h0,an.p0 (by omega)]at ca;exact Fh [.c [0,1] cp,.k cx,.k pk.to,.p 1,.k ca,.p 0,.k a1,.g 31 false rfl,.k a2,.g 39 false rfl,.k a3,.f rfl,.g 50 false Fp,.f rfl,.g 63 true Fq,.g 76 true rfl,.k TB] rfl rfl (by simp[Ge])
 obtain⟨w_,hw⟩:=an.w1 (by omega);have a4:=an.aW w_;rw[hw,decide_eq_true rfl]at a4;rw[hw]at ca;have g1:(Am [w_])[0]? = some [.int .i64 w_]:=rfl;by_cases h2:O.length<2
 ·rw[an.p0 h2]at ca;exact Fh [.c [0,1] cp,.k cx,.k pk.to,.p 1,.k ca,.p 0,.k a1,.g 31 false rfl,.k a2,.g 39 false rfl,.k a3,.f rfl,.g 50 true Fq,.x g1,.k a4,.f rfl,.g 63 true Fq,.g 76 true rfl,.k TB] rfl rfl (by simp[Ge])
 ·obtain⟨a,b,hp⟩:=an.p1 (by omega);have a5:=an.aP a b;rw[hp,decide_eq_true rfl]at a5;rw[hp]at ca;have g2:(Am [a,b])[0]? = some [.int .i64 a]:=rfl;have g3:(Am [a,b])[1]? = some [.int .i64 b]:=rfl;exact Fh [.c [0,1] cp,.k cx,.k pk.to,.p 1,.k ca,.p 0,.k a1,.g 31 false rfl,.k a2,.g 39 false rfl,.k a3,.f rfl,.g 50 true Fq,.x g1,.k a4,.f rfl,.g 63 false Fp,.x g2,.x g3,.k a5,.g 76 true rfl,.k TB] rfl rfl (by simp[Ge])
end Orr
namespace Orr
open Go Go.Proofs Tryz
variable{H:Type}{enc:TypeId×Value->H}{w:World}{base:Nat}{spare:Nat->Bool}{held:Bool}
theorem Ir{α:Type}{l:List α}{n i:Nat}(h:l.length=n)(hi:i<n):∃x,l[i]? = some x:=⟨l[i]'(by omega),Qg (by omega)⟩
end Orr
namespace Orr
open Go Go.Proofs Tryz Go.ChangeShapes Go.WideShapes Go.ChangeAt Go.RowKit Go.WideElems
theorem Qnv{w:World}{a:Addr}{v:Value}(h:w.cell? a=some v):a.spot=none/\a.block<w.heap.size:=by
 simp only[World.cell?]at h
 split at h
 ·rename_i c t fr hc
  split at h
  ·cases h
  ·rename_i hs;refine⟨by cases e:a.spot with|none=>rfl|some _=>simp[e]at hs,?_⟩;exact(Array.getElem?_eq_some_iff.1 hc).1
 ·cases h
theorem Qm6{a:Addr}(h:a.spot=none)(n m:Nat):(a.add n).add m=⟨a.block,a.off+n+m,none⟩:=by
 obtain⟨b,o,s⟩:=a;simp only at h;subst h;simp only[Addr.add]
 split
 ·rename_i h;subst h
  split
  ·rename_i h;subst h;simp
  ·simp
 ·split
  ·rename_i h;subst h;simp
  ·simp
def fr0(w:World):Fr:=⟨λb=>b<w.heap.size,λ_=>False,w,λ_=>False,λ_=>none⟩
theorem BS(w:World):HS (fr0 w) (ob []) (nw []) (λ_=>none) (λ_=>False) w where
 size:=Qn _
 kept:=λb hb=>⟨hb,rfl,Iff.rfl⟩
 ids:=λi h=>h.elim
 nj:=λi h=>by rw[kB]at h;cases h
 io:=⟨rfl,rfl⟩
 blk:=λi=>by rw[kB];trivial
 nk:=λi g c m h _=>by rw[kB]at h;cases h
 inj:=λi j g c m c' m' h _ _ _=>by rw[kB]at h;cases h
 mlt:=λb h=>h.elim
 m0:=λb _ h=>h.elim
 un:=λi _=>⟨rfl,rfl⟩
 uj:=λi _ h=>h.elim
theorem Qqd{w w':World}{bl:Nat->OB}{U:Nat->Prop}{E:D9}{M:Nat->Prop}(h:HS (fr0 w) bl U E M w'){p:MemPlace}(hp:p.block<w.heap.size):w.sameAt w' p:=by
 cases p with
 |cell b off=>simp only[World.sameAt,World.cell?];rw[(h.kept b hp).2.1];rfl
 |map b=>exact(h.kept b hp).2.1
theorem Qot{w w':World}{bl:Nat->OB}{U:Nat->Prop}{E:D9}{M:Nat->Prop}(h:HS (fr0 w) bl U E M w')(may:MemPlace->Prop):w.keptBut w' may:=by
 refine⟨h.io.1,h.io.2,λi hi=>?_⟩;have e:w'.heap[i]? = w.heap[i]? := (h.kept i hi).2.1;rw[e];cases w.heap[i]? with
 |none=>rfl
 |some o=>cases o <;> simp
theorem VM{H:Type}{P:Program}{e:TypeId}:∀{l:List (DataW H)} {i:Nat} {d:DataW H},l[i]? = some d->∀n∈d.weights P e,n∈DataW.weightsAll P e l
 | [],i,d,h,_,_=>by simp at h
 |
  x::l,0,d,h,n,hn=>by
  simp at h;subst h;simp only[DataW.weightsAll,Qr];exact .inl hn
 |
  x::l,i+1,d,h,n,hn=>by
  simp only[DataW.weightsAll,Qr];exact .inr (VM (i:=i) (by simpa using h) n hn)
theorem QK{H:Type}{P:Program}{t:TypeId}{fs:Array Field}{parts:List (DataW H)}(hu:P.underlying t=some (.struct fs))(hz:((DataW.agg parts).weights P t).all (· <= reachBytes)=true){i:Nat}{f:Field}{d:DataW H}(hf:fs[i]? = some f)(hd:parts[i]? = some d) :
 (d.weights P f.type).all (· <= reachBytes)=true:=by
 rw[X9]at hz ⊢;intro n hn;refine hz n ?_;simp only[DataW.weights,hu];exact DataW.weights_mem_each (j:=i) (by rw[Q8];simp[hf]) hd n hn
variable{H:Type}{enc:TypeId×Value->H}{w:World}
abbrev O0:Nat->Prop:=λ_=>False
def Els(w:World)(cs:List Value)(ls:Fy):Prop:=cs.length=ls.length/\∀(j:Nat) (u:LV),ls[j]? = some u->∃v,cs[j]? = some v/\LRep w O0 v u
theorem HC{α:Type}{rw_:α->Fy}{Ok:α->Prop}{t e sz:Nat}(hu:prog.underlying t=some (.slice e))(hc:prog.cellsOf e=sz)(hsz:0<sz)(hb:1<=prog.bytesOf e)(hw:∀z,(rw_ z).length=sz)
 (elem:∀fuel cs x,DataW.trod enc prog w 0 (λ_=>true) true fuel e cs=some x->(x.1.weights prog e).all (· <= reachBytes)=true->∃z,Ok z/\Els w cs (rw_ z))
 {fuel:Nat} {cs:List Value} {x:DataW H×List MemPlace} (h:DataW.trod enc prog w 0 (λ_=>true) true fuel t cs=some x) (hz:(x.1.weights prog t).all (· <= reachBytes)=true) :
 ∃(v:Value) (l:List α),cs=[v]/\(∀z∈l,Ok z)/\l.length<2^47/\LRep w O0 v (.row (l.map rw_)):=by
 rcases Go.Deep.open_slice hu h with⟨rfl,_⟩|⟨a',len,cap,m,n,D,Pl,rfl,_,hlc,hcap,hm,rfl,hr⟩
 ·refine⟨_,[],rfl,by simp,Nat.two_pow_pos 47,?_⟩;exact LRep.row none 0 0 0 0 [] (λ_ _=>.bool true) (Qn _) (by decide) (by simp) (by simp) (by simp) (by simp)
 ·simp only[if_true]at hm;subst hm;rw[X9]at hz;have hlen:len<2^47:=by
   have h0:=hz ((len+(m-len))*prog.bytesOf e) (by simp[DataW.weights,hu]);have h1:len<=(len+(m-len))*prog.bytesOf e:=by
    have:=Xi (Vz len (m-len)) hb;omega
   have h2:(len+(m-len))*prog.bytesOf e<=reachBytes:=by simpa using h0
   exact Xg (Qe h1 h2) reachBytes_lt
  have hel:∀i,i<len->((D i).weights prog e).all (· <= reachBytes)=true:=λi hi=>by
   rw[X9];intro k hk;refine hz k ?_;simp only[DataW.weights,hu];refine Qi _ (Qr.2 (.inl (VM (i:=i) ?_ k hk)));rw[Q8,Ji hi];rfl
  have hone:∀i,i<len->∃z cs',Ok z/\Els w cs' (rw_ z)/\∀j,j<sz->w.cell? ((a'.add (i*sz)).add j)=cs'[j]? := λi hi=>by
   obtain⟨cs',hcs,htr⟩:=hr i (by omega);rw[hc]at hcs;obtain⟨_,hl,hcell⟩:=World.cells?_some hcs;obtain⟨z,hz1,hz2⟩:=elem _ _ _ htr (hel i hi);refine⟨z,cs',hz1,hz2,λj hj=>?_⟩;rw[hcell j (by omega)]
  have hspot:0<len->a'.spot=none/\a'.block<w.heap.size:=λh0=>by
   obtain⟨z,cs',_,⟨hl,_⟩,h3⟩:=hone 0 h0;have h4:=h3 0 hsz;have:(a'.add (0*sz)).add 0=a':=by simp[Addr.add]
   rw[this,Qg (by rw[hl,hw];exact hsz)]at h4;exact Qnv h4
  obtain⟨l,hll,hl⟩:∃l:List α,l.length=len/\∀i z,l[i]? = some z->Ok z/\∃cs',Els w cs' (rw_ z)/\∀j,j<sz->w.cell? ((a'.add (i*sz)).add j)=cs'[j]? := by
   have:∀k,k<=len->∃l:List α,l.length=k/\∀i z,l[i]? = some z->Ok z/\∃cs',Els w cs' (rw_ z)/\∀j,j<sz->w.cell? ((a'.add (i*sz)).add j)=cs'[j]? := by
    intro k
    induction k with
    |zero=>intro _;exact⟨[],rfl,λi z h=>by simp at h⟩
    |
     succ k ih =>
     intro hk;obtain⟨l,h1,h2⟩:=ih (by omega);obtain⟨z,cs',h3,h4,h5⟩:=hone k (by omega);refine⟨l++[z],by simp[h1],λi y hy=>?_⟩;rcases Q7 i l.length with hi|hi
     ·rw[Q3 hi]at hy;exact h2 i y hy
     ·rw[Zn hi]at hy;have:i-l.length=0:=by
       rcases Qy (i-l.length)with h|h
       ·exact h
       ·rw[Qt (by rw[Jr];exact h)]at hy;cases hy
      rw[this]at hy;simp at hy;subst hy;have:i=k:=by omega
      subst this;exact⟨h3,cs',h4,h5⟩
   exact this len (Qn _)
  refine⟨_,l,rfl,λz hz=>?_,by rw[hll];exact hlen,?_⟩
  ·obtain⟨i,hi⟩:=Zp.1 hz;exact(hl i z hi).1
  ·have key:LRep w O0 (.slice (some a') (l.map rw_).length m) (.row (l.map rw_)):=by
    have hgl:∀i c,(l.map rw_)[i]? = some c->∃z,l[i]? = some z/\c=rw_ z/\i<len:=λi c h=>by
     rw[Q8]at h;cases e:l[i]? with
     |none=>rw[e]at h;cases h
     |some z=>rw[e]at h;simp at h;exact⟨z,rfl,h.symm,by have:=(Qc.1 e).1;omega⟩
    have hcl:∀i c,(l.map rw_)[i]? = some c->∃cs':List Value,Els w cs' c/\∀j,j<sz->w.cell? ⟨a'.block,a'.off+i*sz+j,none⟩=cs'[j]? := λi c h=>by
     obtain⟨z,hz,rfl,hi⟩:=hgl i c h;obtain⟨_,cs',h1,h2⟩:=hl i z hz;refine⟨cs',h1,λj hj=>?_⟩;rw[<-h2 j hj,Qm6 (hspot (by omega)).1]
    refine LRep.row (some a') m sz a'.block a'.off (l.map rw_) (λi j=>(w.cell? ⟨a'.block,a'.off+i*sz+j,none⟩).getD (.bool true)) (by rw[Q5];omega) ?_ ?_ ?_ ?_ ?_
    ·have:maxLen=2^63-1:=by rfl
     omega
    ·intro c hc2;obtain⟨z,_,rfl⟩:=Zc.1 hc2;exact hw z
    ·intro h0;rw[Q5,hll]at h0;obtain⟨hs,hb⟩:=hspot h0;refine⟨?_,hb,by simp[O0]⟩;obtain⟨b,o,s⟩:=a';simp only at hs;rw[hs]
    ·intro i c hi j hj;obtain⟨z,_,rfl,_⟩:=hgl i c hi;obtain⟨cs',⟨h1,_⟩,h2⟩:=hcl i _ hi;have hjs:j<sz:=by rw[<-hw z];exact hj
     rw[h2 j hjs,Qg (by rw[h1];exact hj)];rfl
    ·intro i c hi j u hu2;obtain⟨z,_,rfl,_⟩:=hgl i c hi;obtain⟨cs',⟨h1,h3⟩,h2⟩:=hcl i _ hi;obtain⟨v,hv,hr2⟩:=h3 j u hu2;have hjs:j<sz:=by rw[<-hw z];exact(Qc.1 hu2).1
     show LRep w O0 ((w.cell? ⟨a'.block,a'.off+i*sz+j,none⟩).getD (.bool true)) u;rw[h2 j hjs,hv];exact hr2
   rw[Q5,hll]at key;exact key
abbrev Qx6(x:Nat):Fy:=[.int .u32 (x:Int)]
theorem Qma:∀fuel cs x,DataW.trod enc prog w 0 (λ_=>true) true fuel 222 cs=some x->(x.1.weights prog 222).all (· <= reachBytes)=true->∃z:Nat,z<4294967296/\Els w cs (Qx6 z):=by
 intro fuel cs x h _;obtain⟨n,rfl,_,hwf⟩:=DataW.trod_int underlying222 h;have hn:0<=n/\n<4294967296:=by
  have:0<=n/\n<=4294967295:=by simpa[Lit.wf,IntKind.min,IntKind.max,IntKind.signed,IntKind.bits]using hwf
  omega
 refine⟨n.toNat,by omega,rfl,λj u hu=>?_⟩
 match j,hu with
 |
  0,hu =>
  simp at hu;subst hu;refine⟨_,rfl,?_⟩;rw[show max n 0=n by omega];exact .int _ _
 |j+1,hu=>simp at hu
set_option maxRecDepth 20000 in
theorem ED:∀fuel cs x,DataW.trod enc prog w 0 (λ_=>true) true fuel 55 cs=some x->(x.1.weights prog 55).all (· <= reachBytes)=true->∃z:RawInt,z.Ok/\Els w cs (PH z):=by
 intro fuel cs x h hz;obtain⟨xs,n,_,rfl,hl,hxs,hf⟩:=DataW.trod_struct underlying55 h;have hl:cs.length=2:=hl
 match cs,hl with
 |
  [v0,v1],_ =>
  obtain⟨z0,hz0⟩:=Ir (i:=0) hxs (by decide);obtain⟨z1,hz1⟩:=Ir (i:=1) hxs (by decide);have h0:=hf 0 _ rfl;have h1:=hf 1 _ rfl;rw[hz0]at h0;rw[hz1]at h1;obtain⟨b,e0,_⟩:=DataW.trod_bool underlying4 h0;have f0:v0=.bool b:=(List.cons.inj (show [v0]=[Value.bool b] from e0)).1;have hw1:=QK underlying55 hz (i:=1) rfl (d:=z1.1) (by rw[Q8,hz1];rfl);obtain⟨v,l,e1,hlo,_,hrep⟩:=HC (sz:=1) (Ok:=λu:Nat=>u<4294967296) (rw_:=Qx6) underlying53 (by kernel_rfl) (by decide) (of_decide_eq_true (by kernel_rfl)) (λ_=>rfl) Qma h1 hw1;have f1:v1=v:=(List.cons.inj (show [v1]=[v] from e1)).1;subst f0 f1;refine⟨⟨b,l⟩,⟨hlo⟩,rfl,λj u hu=>?_⟩
  match j,hu with
  | 0,hu=>simp at hu;subst hu;exact⟨_,rfl,.bool _⟩
  | 1,hu=>simp at hu;subst hu;exact⟨_,rfl,hrep⟩
  |j+2,hu=>simp at hu
set_option maxRecDepth 20000 in
theorem lQ:∀fuel cs x,DataW.trod enc prog w 0 (λ_=>true) true fuel 76 cs=some x->(x.1.weights prog 76).all (· <= reachBytes)=true->∃z:RawPt,z.Ok/\Els w cs (rwq z):=by
 intro fuel cs x h hz;obtain⟨xs,n,_,rfl,hl,hxs,hf⟩:=DataW.trod_struct underlying76 h;have hl:cs.length=5:=hl
 match cs,hl with
 |
  [v0,v1,v2,v3,v4],_ =>
  obtain⟨z0,hz0⟩:=Ir (i:=0) hxs (by decide);obtain⟨z1,hz1⟩:=Ir (i:=1) hxs (by decide);have h0:=hf 0 _ rfl;have h1:=hf 1 _ rfl;rw[hz0]at h0;rw[hz1]at h1;obtain⟨id,e4,_,hwf⟩:=DataW.trod_int underlying3 h1;have f4:v4=.int .i64 id:=(List.cons.inj (show [v4]=[Value.int .i64 id] from e4)).1;have hw0:=QK underlying76 hz (i:=0) rfl (d:=z0.1) (by rw[Q8,hz0];rfl);obtain⟨ys,n2,_,e5,_,hys,hg⟩:=DataW.trod_struct underlying74 h0;rw[e5]at hw0;obtain⟨y0,hy0⟩:=Ir (i:=0) hys (by decide);obtain⟨y1,hy1⟩:=Ir (i:=1) hys (by decide);obtain⟨y2,hy2⟩:=Ir (i:=2) hys (by decide);have g0:=hg 0 _ rfl;have g1:=hg 1 _ rfl;have g2:=hg 2 _ rfl;rw[hy0]at g0;rw[hy1]at g1;rw[hy2]at g2;have w0:=QK underlying74 hw0 (i:=0) rfl (d:=y0.1) (by rw[Q8,hy0];rfl);have w1:=QK underlying74 hw0 (i:=1) rfl (d:=y1.1) (by rw[Q8,hy1];rfl);have w2:=QK underlying74 hw0 (i:=2) rfl (d:=y2.1) (by rw[Q8,hy2];rfl);obtain⟨u0,lx,e0,hx,_,rx⟩:=HC (sz:=2) (Ok:=RawInt.Ok) (rw_:=PH) underlying52 (by kernel_rfl) (by decide) (of_decide_eq_true (by kernel_rfl)) (λ_=>rfl) ED g0 w0;obtain⟨u1,ly,e1,hy,_,ry⟩:=HC (sz:=2) (Ok:=RawInt.Ok) (rw_:=PH) underlying52 (by kernel_rfl) (by decide) (of_decide_eq_true (by kernel_rfl)) (λ_=>rfl) ED g1 w1;obtain⟨d,hd,hde⟩:=ED _ _ _ g2 w2;have f0:v0=u0:=(List.cons.inj (show [v0]=[u0] from e0)).1;have f1:v1=u1:=(List.cons.inj (show [v1]=[u1] from e1)).1;have hde2:Els w [v2,v3] (PH d):=hde;subst f0 f1 f4;obtain⟨q2,hq2,r2⟩:=hde2.2 0 _ rfl;obtain⟨q3,hq3,r3⟩:=hde2.2 1 _ rfl;simp at hq2 hq3;subst hq2 hq3;refine⟨⟨lx,ly,d,id⟩,⟨hx,hy,hd,by simpa[Lit.wf,IntKind.min,IntKind.max,IntKind.signed,IntKind.bits]using hwf⟩,rfl,λj u hu=>?_⟩
  match j,hu with
  | 0,hu=>simp[rwq]at hu;subst hu;exact⟨_,rfl,rx⟩
  | 1,hu=>simp[rwq]at hu;subst hu;exact⟨_,rfl,ry⟩
  | 2,hu=>simp[rwq]at hu;subst hu;exact⟨_,rfl,r2⟩
  | 3,hu=>simp[rwq]at hu;subst hu;exact⟨_,rfl,r3⟩
  | 4,hu=>simp[rwq]at hu;subst hu;exact⟨_,rfl,.int _ _⟩
  |j+5,hu=>simp[rwq]at hu
end Orr
namespace Orr
open Go Go.Proofs Tryz Go.ChangeShapes Go.WideShapes Go.ChangeAt Go.RowKit Go.WideElems
variable{H:Type}{enc:TypeId×Value->H}{w:World}
theorem Qiu:∀fuel cs x,DataW.trod enc prog w 0 (λ_=>true) true fuel 3 cs=some x->(x.1.weights prog 3).all (· <= reachBytes)=true->∃z:Int,(-9223372036854775808<=z/\z<=9223372036854775807)/\Els w cs [LV.int .i64 z]:=by
 intro fuel cs x h _;obtain⟨n,rfl,_,hwf⟩:=DataW.trod_int underlying3 h;refine⟨n,by simpa[Lit.wf,IntKind.min,IntKind.max,IntKind.signed,IntKind.bits]using hwf,rfl,λj u hu=>?_⟩
 match j,hu with
 |
  0,hu =>
  simp at hu;subst hu;exact⟨_,rfl,.int _ _⟩
 |j+1,hu=>simp at hu
end Orr
namespace Orr
open Go Go.Proofs Tryz Go.ChangeShapes Go.WideShapes Go.ChangeAt Go.RowKit Go.WideElems
set_option maxRecDepth 10000
def CN(t:TypeId)(R:TV->Prop):Prop:=∀{H:Type} {enc:TypeId×Value->H} {W:World} {base:Nat} {v:Value} {d:DataW H} {p:List MemPlace},Value.okWide prog W .any base t v->DataW.Trod enc prog W 0 (λ_=>true) true t v d p->(d.weights prog t).all (· <= reachBytes)=true->∃u,R u/\TRep W (λ_=>False) (λ_=>none) v u
section
variable{H:Type}{enc:TypeId×Value->H}{W W':World}{base:Nat}
theorem pH:∀{ps:List (TypeId×(TV->Prop))} {args:List Value} {ds:List (DataW H)} {p:List MemPlace},DataW.TrodAll enc prog W 0 (λ_=>true) true (ps.map (·.1)) args ds p ->
 (∀(j:Nat) t v,(ps.map (·.1))[j]? = some t->args[j]? = some v->Value.okWide prog W .any base t v)->(∀(j:Nat) t d,(ps.map (·.1))[j]? = some t->ds[j]? = some d->(d.weights prog t).all (· ≤ reachBytes)=true)->(∀q∈ps,CN q.1 q.2) ->
 ∃us,F2 (λu (q:TypeId×(TV->Prop))=>q.2 u) us ps/\F2 (TRep W (λ_=>False) (λ_=>none)) args us/\ds.length=ps.length
 |
  [],args,ds,p,h,_,_,_=>by
  obtain⟨rfl,rfl,rfl⟩:=trodAll_nil h;exact⟨[],.nil,.nil,rfl⟩
 |
  q::ps,args,ds,p,h,hv,hw,hr=>by
  obtain⟨v,vs,d,ds',p1,p2,rfl,rfl,rfl,h1,h2⟩:=trodAll_cons h;obtain⟨u,r1,r2⟩:=hr q (Qw ..) (hv 0 q.1 v rfl rfl) h1 (hw 0 q.1 d rfl rfl);obtain⟨us,s1,s2,s3⟩:=pH h2 (λj t v h h'=>hv (j+1) t v (by simpa using h) (by simpa using h')) (λj t d h h'=>hw (j+1) t d (by simpa using h) (by simpa using h')) λq hq=>hr q (Qi _ hq)
  exact⟨u::us,.cons r1 s1,.cons r2 s2,by simp[s3]⟩
theorem pO{sp':Nat->Bool}(hl:laidOutB prog=true):∀{ps:List (TypeId×(TV->Prop))} {args:List Value} {ds:List (DataW H)} {p:List MemPlace},DataW.TrodAll enc prog W 0 (λ_=>true) true (ps.map (·.1)) args ds p ->
 (∀q∈ps,prog.readableRec q.1=true/\q.1<prog.types.size)->(∀x∈p,W.sameAt W' x)->(∀x∈p,sp' x.block=true)->DataW.TrodAll enc prog W' 0 sp' true (ps.map (·.1)) args ds p
 |
  [],args,ds,p,h,_,_,_=>by
  obtain⟨rfl,rfl,rfl⟩:=trodAll_nil h;exact trodAll_mk0
 |
  q::ps,args,ds,p,h,hr,hs,hb=>by
  obtain⟨v,vs,d,ds',p1,p2,rfl,rfl,rfl,h1,h2⟩:=trodAll_cons h;obtain⟨r1,r2⟩:=hr q (Qw ..);exact trodAll_cons_mk (Trod_stays hl r1 r2 h1 (λx hx=>hs x (Qr.2 (.inl hx))) λx hx=>hb x (Qr.2 (.inl hx))) (pO hl h2 (λq hq=>hr q (Qi _ hq)) (λx hx=>hs x (Qr.2 (.inr hx))) λx hx=>hb x (Qr.2 (.inr hx)))
end
theorem Qi4{ps:List (TypeId×(TV->Prop))}{f:FuncId}{fn:Func}{s:ChangeSpec}(hp:fn.params=(ps.map (·.1)).toArray)(hr:fn.resultTypes = #[4])(hv:s.vars=[])
 (hs:∀(H:Type) (ds:List (DataW H)),ds.length=ps.length->s.fn H ds={ results:=[.lit (.bool true)],args:=ds })
 (hlaid:laidOutB prog=true) (hrec:∀q∈ps,prog.readableRec q.1=true/\q.1<prog.types.size) (hrd:∀q∈ps,CN q.1 q.2)
 (law:∀us:Gb,F2 (λu (q:TypeId×(TV->Prop))=>q.2 u) us ps->yZ prog f us [.one (.bool true)])
 {H:Type} {enc:TypeId×Value->H} {W:World} {base:Nat} {args:Array Value} {ds gs:List (DataW H)} {Rk:List MemPlace} {fresh handsOn:Bool}
 (hval:∀(j:Nat) t v,fn.params[j]? = some t->args[j]? = some v->Value.okWide prog W .any base t v)
 (hW:DataW.Whole enc prog fn.params.toList s.vars false W args.toList ds gs Rk)
 (hz:(DataW.weightsEach prog (fn.params.toList++s.plain.varTypes prog) (ds++gs)).all (· <= reachBytes)=true) :
 Calls prog f args W λe W'=>∃v,e=.returned v/\s.post enc prog fn false fresh handsOn false W args v W':=by
 have hW':=hW;obtain⟨p,q,hA0,hV,rfl,hfz,hnd⟩:=hW;have hA:DataW.TrodAll enc prog W 0 (λ_=>true) true fn.params.toList args.toList ds p:=hA0;rw[hv]at hV;obtain⟨rfl,rfl⟩:=trodVars_none hV;have hlt:=hW'.lt;rw[hp]at hA hval hz;have hA:DataW.TrodAll enc prog W 0 (λ_=>true) true (ps.map (·.1)) args.toList ds p:=by simpa using hA
 obtain⟨us,r1,r2,r3⟩:=pH (base:=base) hA (λj t v h h'=>hval j t v (by simpa using h) (by simpa using h')) (λj t d h h'=>by
  rw[X9]at hz ⊢;intro k hk;have hj:j<(ps.map (·.1)).length:=(Qc.1 h).1;have hj2:j<ds.length:=(Qc.1 h').1;exact hz k (DataW.weights_mem_each (j:=j) (by rw[Q3 (by simpa using hj)];simpa using h) (by rw[Q3 hj2];exact h') k hk)) hrd
 have hcall:=(law us r1).2 (fr0 W) (λ_=>none) (λ_=>False) W args.toList (BS W) r2;have ea:args.toList.toArray=args:=by simp
 rw[ea]at hcall;refine hcall.mono λe W' ⟨v,u,Bo,E',M',he,⟨hu,hBo⟩,_,hm,har⟩=>?_
 subst hu;obtain rfl:v=.bool true:=by
  have h:LRep _ _ v (.bool true):=har;cases h;rfl
 refine⟨_,he,?_⟩;refine⟨ds,[],_,[],p,[],hW',?_,?_,?_,Qot hm _,λh=>by cases h⟩
 ·rw[hr,Xk,hs H ds r3];exact trodAll_cons_mk (shut_bool underlying4 true) trodAll_mk0
 ·rw[hp,Xk,hs H ds r3];have hb:∀x∈p,x.block<W.heap.size:=λx hx=>hlt x (by simp[hx])
  have:=pO (sp':=λb=>decide (b<W.heap.size)) hlaid hA hrec (λx hx=>Qqd hm (hb x hx)) λx hx=>by simpa using hb x hx
  simpa using this
 ·rw[hv,Xk,hs H ds r3];rfl
abbrev Qv7(u:TV):Prop:=∃n:Int,(-9223372036854775808<=n/\n<=9223372036854775807)/\u=.oi n
abbrev Qwa(u:TV):Prop:=∃zs:List RawPt,(∀z∈zs,z.Ok)/\u=.one (.row (jG zs))
abbrev Qrb(u:TV):Prop:=∃zs:Ft,(∀z∈zs,-9223372036854775808≤z/\z≤9223372036854775807)/\u=.one (.row (Am zs))
theorem Qee:CN 3 Qv7:=λ{H enc W base v d p} hv h _=>by
 obtain⟨n,rfl,rfl,rfl,w1⟩:=open_int underlying3 hv h;exact⟨_,⟨n,by simpa[Lit.wf,IntKind.min,IntKind.max,IntKind.signed,IntKind.bits]using w1,rfl⟩,show XRep W (λ_=>False) (λ_=>none) (.int .i64 n) (.int .i64 n) from(LRep.int .i64 n).x⟩
theorem jZ{α:Type}{rw_:α->Fy}{Ok:α->Prop}{t e sz:Nat}(hu:prog.underlying t=some (.slice e))(hc:prog.cellsOf e=sz)(hsz:0<sz)(hb:1<=prog.bytesOf e)(hw:∀z,(rw_ z).length=sz)
 (elem:∀{H:Type} {enc:TypeId×Value->H} {w:World} fuel cs x,DataW.trod enc prog w 0 (λ_=>true) true fuel e cs=some x->(x.1.weights prog e).all (· ≤ reachBytes)=true->∃z,Ok z/\Els w cs (rw_ z)):CN t λu=>∃l:List α,(∀z∈l,Ok z)/\u=.one (.row (l.map rw_)):=λ{H enc W base v d p} hv h hz=>by
 obtain⟨a,len,cap,rfl⟩:=okWide_slice hu hv;obtain⟨fu,h⟩:=h;obtain⟨v,l,e0,hok,_,hrep⟩:=HC hu hc hsz hb hw (λfuel cs x h h'=>elem fuel cs x h h') h hz;have f0:Value.slice a len cap=v:=(List.cons.inj (show [Value.slice a len cap]=[v] from e0)).1;subst f0;exact⟨_,⟨l,hok,rfl⟩,show XRep W (λ_=>False) (λ_=>none) _ (.row (l.map rw_)) from hrep.x⟩
theorem Qef:CN 22 Qwa:=jZ (sz:=5) (Ok:=RawPt.Ok) (rw_:=rwq) underlying22 (by kernel_rfl) (by decide) (of_decide_eq_true (by kernel_rfl)) (λ_=>rfl) λfuel cs x=>lQ fuel cs x
theorem lT:CN 23 Qrb:=jZ (sz:=1) (Ok:=λz:Int=>-9223372036854775808<=z/\z<=9223372036854775807) (rw_:=λz:Int=>[LV.int .i64 z]) underlying23 (by kernel_rfl) (by decide) (of_decide_eq_true (by kernel_rfl)) (λ_=>rfl) λfuel cs x=>Qiu fuel cs x
end Orr
