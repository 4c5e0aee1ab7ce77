/- TW2 R3 R4 RefPL R5 R6 RefGL R7 RatOkL R8 R9 RefCL R10 R11 R12 R13 R14 R15 R16 R17 R18 SC1 W1 W2 WR18 WS18 X19 MeshK H2 H3 MD1 MD2 MD3 MD4 MD5 MD6 X22 SD2 H4 En2 X20 X21 En3 EnZ En4 EnO EnK AscL RoomL W24 EnP EnR RawO EnA WR24 ReadN LastN LastR LastS ArgR ArgO -/
import Derived.Test.YtbhhcpcpionelaaGreatPart08
import Derived.Test.YtbhhcpcpionelaaGreatPart07
import Derived.Test.YtbhhcpcpionelaaGreatPart00
import Derived.Test.YtbhhcpcpionelaaGreatPart04
import Derived.Test.YtbhhcpcpionelaaGreatPart05
import Derived.Deep.Slices
import Derived.ProofKit
import Derived.OpenShut
import Derived.WideKeyArgs
import Derived.SizedLaws
set_option linter.all false
namespace Orr
open Go Go.Proofs Tryz Orq
set_option maxRecDepth 10000
def Qow (l:List Pt) (a:Tm):Cr:=⟨a,(U6 (OA l a)).map fresh,0⟩
theorem Qf6 {t:Rat} {l:List Pt} {K:Nat} {c c':Cr} {r1 r1':Uf×Uf} {n:Int} (ht:Qs 1640000 t) (hl:∀ p∈l,Sc p.c) (hn:l.length≤1000) (hc:CrOk c) (hev:0≤c.ev/\c.ev+K≤1000000000000000000) (h:Uz c.now t≤0) (hg:YQ (OA l) (kE l) t K c r1 0=some (c',r1',n)) :
 Uo prog 393 [.one (.ow 0 0),.agg (rl t)] [.blk 199 (Rj c (Uj l) r1)] [.oi n,.oi 0] [.blk 199 (Rj c' (Uj l) r1')]:=by
 have cg:=Qo7 (T:=199) (r0:=Uj l) ht (kF hl hn) (λa c r1 ha _=>BK (c:=c) (r1:=r1) hl hn ha) hc hev h hg;refine Fl func393 rfl ?_;exact W4 [] [0] [.k (M5 (ht.mono (by decide))),.c [0] cg] rfl
theorem Qf8 {c:Cr} {r0 r2:Uf} {w:Pt}:Uo prog 91 [.one (.ow 0 0)] [.blk 199 (Rj c r0 ([Ur w],r2))] [.oi w.id,.one (.bool true)] [.blk 199 (Rj c r0 ([Ur w],r2))]:=by
 refine Fl func91 rfl ?_;exact W4 [] [0] [.f rfl,.x (i:=0) (xs:=Ur w) rfl] rfl
theorem aE {c:Cr} {r0 r2:Uf}:Uo prog 91 [.one (.ow 0 0)] [.blk 199 (Rj c r0 ([],r2))] [.oi 0,.one (.bool false)] [.blk 199 (Rj c r0 ([],r2))]:=by
 refine Fl func91 rfl ?_;exact W4 [] [0] [.t rfl] rfl
end Orr
namespace Orr
open Go Go.Proofs Tryz
set_option maxRecDepth 10000
structure AddI (x y:Nat) (s:Nat×Nat×List Nat):Prop where
 d:Dg s.2.2
 l:s.2.2.length=s.1
 v:A5 s.2.2+s.2.1*10000^s.1=A5 ((Di x).take s.1)+A5 ((Di y).take s.1)
 c:s.2.1<=1
 b:s.1<=max (Di x).length (Di y).length\/s.1=max (Di x).length (Di y).length+1/\10000^(max (Di x).length (Di y).length)<=x+y/\s.2.1=0
structure MulI (x y i d:Nat) (s:Nat×Nat×List Nat):Prop where
 l:s.2.2.length=(Di x).length+(Di y).length
 dg:Dg s.2.2
 v:A5 s.2.2+s.2.1*10000^(i+s.1)=A5 ((Di x).take i)*y+10000^i*d*A5 ((Di y).take s.1)
 c:s.2.1<10000
 b:s.1<=(Di y).length/\(∀ j v,i+(Di y).length<=j->s.2.2[j]? = some v->v=0)\/s.1=(Di y).length+1/\s.2.1=0/\∀ j v,i+(Di y).length+1<=j->s.2.2[j]? = some v->v=0
end Orr
namespace Orr
def nX:Uc->Uc
 | []=>[]
 |
  x::l=>match nX l with
  | []=>if x=0 then [] else [x]
  | y::k=>x::y::k
theorem DO:∀ (l:Uc),∀ z∈nX l,z∈l
 | [],z,h=>h
 |
  x::l,z,h=>by
  simp only [nX] at h;have ih:=DO l
  split at h
  ·split at h
   ·cases h
   ·simp at h; simp [h]
  ·rename_i y k e;rw [e] at ih;rcases Qk.1 h with h | h
   ·simp [h]
   ·exact Qf _ (ih z h)
def zp (p:W9):Uc:=p.map λ(z:Int)=>(z:Rat)
def Rb (s:Nat) (p:Uc):Prop:=∀ q∈p,Qs s q
theorem Rb.mono {s t:Nat} {p:Uc} (h:Rb s p) (ht:s<=t):Rb t p:=λq hq=>(h q hq).mono ht
theorem Rb.get {s:Nat} {p:Uc} (h:Rb s p) {i:Nat} {q:Rat} (hq:p[i]? = some q):Qs s q:=h q (Qa hq)
theorem Qnl {s:Nat} {z:Int} (h:U0 z<=s) (h1:1<=s):Qs s (z:Rat):=⟨by simpa using h,Qd (show U0 ((1:Nat):Int)<=1 by decide) h1⟩
theorem Qih {s:Nat} (h1:1<=s):Qs s 0:=Qnl (z:=0) (by simp [Ce]) h1
theorem Rb.getD {s:Nat} {p:Uc} (h:Rb s p) (h1:1<=s) (i:Nat):Qs s (p.getD i 0):=by
 rw [Qj];cases e:p[i]? with
 | none=>exact Qih h1
 | some q=>exact h.get e
theorem Rb.trim {s:Nat} {p:Uc} (h:Rb s p):Rb s (nX p):=λq hq=>h q (DO p q hq)
end Orr
namespace Orr
open Go Go.Proofs Tryz
set_option maxRecDepth 10000
def frow (p:Uc):Uf:=p.map fr
abbrev rp (p:Uc):LV:=.row (frow p)
end Orr
namespace Orr
def Mn (p:W9):Int:=p.getD (p.length-1) 0
def Qr5 (a b:W9):Int:=if Mn b<0 then -(Mn a) else Mn a
def Qnp (a b:W9) (i:Nat):Int:=a.getD i 0*((Mn b).natAbs:Int)-(if a.length-b.length<=i then Qr5 a b*b.getD (i-(a.length-b.length)) 0 else 0)
def Qkr (a b:W9):W9:=YB a.length (Qnp a b)
inductive RRun (b:List Int):Nat->List Int->List Int->Prop
 | stop {a:List Int}:a.length<b.length->RRun b 0 a a
 | step {k:Nat} {a r:List Int}:b.length<=a.length->a.length<=1000->Bd 9000000 a->Bd 9000000 b->RRun b k (Qkr a b) r->RRun b (k+1) a r
def Qj3 (p:W9):Nat->Nat
 | 0=>0
 | i+1=>Int.gcd (Qj3 p i:Nat) (p.getD i 0)
def cF (p:W9):Nat:=Qj3 p p.length
def Qpi (p:W9):Int:=if Mn p<0 then -((cF p:Nat):Int) else ((cF p:Nat):Int)
def I1 (p:W9):W9:=YB p.length λi=>p.getD i 0 / Qpi p
def fV (p:W9):W9:=if Mn p<0 then Db (I1 p) else I1 p
inductive GRun:Nat->List Int->List Int->List Int->Prop
 | stop (a:List Int):GRun 0 a [] a
 | step {k m:Nat} {a b r g:List Int}:0<b.length->b.length<=1000->Bd 9000000 b->RRun b m a r->r.length<=1000->Bd 9000000 r->Uu r->GRun k b (I1 r) g->GRun (k+1) a b g
theorem GRun.inv {k:Nat} {a b g:W9} (h:GRun k a b g):(k=0/\b.length=0/\a=g)\/∃ j m r,k=j+1/\0<b.length/\b.length<=1000/\Bd 9000000 b/\RRun b m a r/\r.length<=1000/\Bd 9000000 r/\Uu r/\GRun j b (I1 r) g:=by
 cases h with
 | stop=>exact .inl ⟨rfl,rfl,rfl⟩
 | step h1 h2 h3 h4 h5 h6 h7 h8=>exact .inr ⟨_,_,_,rfl,h1,h2,h3,h4,h5,h6,h7,h8⟩
def Qds (k:Nat) (p:W9):W9:=List.replicate k 0++p
inductive DRun (b:List Int):Nat->List Int->List Int->List Int->List Int->Prop
 | stop {a q:List Int}:a.length<b.length->DRun b 0 a q q a
 | step {k:Nat} {a q qf r:List Int}:b.length<=a.length->a.length<=1000->Bd 9000000 a->Mn b≠0->Mn b∣Mn a->a.length-b.length<q.length ->
  DRun b k (Nt a (Qds (a.length-b.length) (Fh b (Mn a / Mn b)))) (q.set (a.length-b.length) (Mn a / Mn b)) qf r->DRun b (k+1) a q qf r
theorem DRun.inv {b a q qf r:W9} {k:Nat} (h:DRun b k a q qf r):(k=0/\q=qf/\a=r/\a.length<b.length)\/∃ j,k=j+1/\b.length<=a.length/\a.length<=1000/\Bd 9000000 a/\Mn b≠0/\Mn b∣Mn a/\a.length-b.length<q.length /\
 DRun b j (Nt a (Qds (a.length-b.length) (Fh b (Mn a / Mn b)))) (q.set (a.length-b.length) (Mn a / Mn b)) qf r:=by
 cases h with
 | stop h=>exact .inl ⟨rfl,rfl,rfl,h⟩
 | step h1 h2 h3 h4 h5 h6 h7=>exact .inr ⟨_,rfl,h1,h2,h3,h4,h5,h6,h7⟩
def Nw (l:Ua):W9:=l.getD (l.length-1) []
inductive LRun:Nat->List (List Int)->List (List Int)->Prop
 | stop {l:List (List Int)}:(Nw l).length<=1->LRun 0 l l
 | step {k m:Nat} {l f:List (List Int)} {g:List Int}:1<(Nw l).length->(Nw l).length<=1000->Uu (Nw l)->Bd 9000000 (Nw l)->Bd 9000000 (Gj (Nw l))->GRun m (I1 (Nw l)) (I1 (Gj (Nw l))) g->l.length<=1000->LRun k (l++[g]) f->LRun (k+1) l f
theorem LRun.inv {k:Nat} {l f:Ua} (h:LRun k l f):(k=0/\l=f/\(Nw l).length<=1)\/∃ j m g,k=j+1/\1<(Nw l).length/\(Nw l).length<=1000/\Uu (Nw l)/\Bd 9000000 (Nw l)/\Bd 9000000 (Gj (Nw l))/\GRun m (I1 (Nw l)) (I1 (Gj (Nw l))) g/\l.length<=1000/\LRun j (l++[g]) f:=by
 cases h with
 | stop h=>exact .inl ⟨rfl,rfl,h⟩
 | step h1 h2 h3 h4 h5 h6 h7 h8=>exact .inr ⟨_,_,_,rfl,h1,h2,h3,h4,h5,h6,h7,h8⟩
def DOk (a b q:W9):Prop:=0<b.length/\b.length<=1000/\a.length<=1000/\Bd 9000000 b/\∃ qf r n,Bd 9000000 qf/\qf.length<=1000/\DRun b n a (List.replicate (a.length+1-b.length) 0) qf r/\q=trim qf
theorem DOk.bd {a b q:W9} (h:DOk a b q):Bd 9000000 q:=by
 obtain ⟨_,_,_,_,qf,r,n,h1,_,_,rfl⟩:=h;exact Ti h1
theorem DOk.len {a b q:W9} (h:DOk a b q):q.length<=1000:=by
 obtain ⟨_,_,_,_,qf,r,n,_,h1,_,rfl⟩:=h;exact Qd (Hp _) h1
theorem DOk.trim {a b q:W9} (h:DOk a b q):Uu q:=by
 obtain ⟨_,_,_,_,qf,r,n,_,_,_,rfl⟩:=h;exact Rf _
def Qop (a b c f:W9):Prop:=∃ x y z,DOk a b x/\DOk b c y/\DOk (I1 x) (I1 y) z/\f=I1 z
structure FRun (a:List Int) (m:Nat) (f:Nat->List Int):Prop where
 run:∃ n l,LRun n [I1 a] l/\l.length=m+1/\∀ k,k<m->Qop ((l++[[1]]).getD k []) ((l++[[1]]).getD (k+1) []) ((l++[[1]]).getD (k+2) []) (f k)
 small:m<=1000
def mM (f:Nat->W9):Nat->W9
 | 0=>[1]
 | i+1=>Fv (mM f i) (f i)
def Qrl (m:Nat) (f:Nat->W9):Prop:=∀ i,i<m->Bd 9000000 (mM f i)/\(mM f i).length<=1000/\Bd 9000000 (f i)/\(f i).length<=1000
inductive CRun:Nat->List (List Int)->List Int->List (List Int)->Prop
 | stop {l:List (List Int)} {g:List Int}:g.length=0->CRun 0 l g l
 | step {k m:Nat} {l f:List (List Int)} {g r:List Int}:0<g.length->g.length<=1000->Bd 9000000 g->RRun g m (Nw l) r->Uu r->Bd 9000000 r->r.length<=1000->0<l.length->l.length<=1000->CRun k (l++[g]) (Db (fV r)) f->CRun (k+1) l g f
theorem CRun.inv {k:Nat} {l f:Ua} {g:W9} (h:CRun k l g f):(k=0/\l=f/\g.length=0)\/∃ j m r,k=j+1/\0<g.length/\g.length<=1000/\Bd 9000000 g/\RRun g m (Nw l) r/\Uu r/\Bd 9000000 r/\r.length<=1000/\0<l.length/\l.length<=1000/\CRun j (l++[g]) (Db (fV r)) f:=by
 cases h with
 | stop h=>exact .inl ⟨rfl,rfl,h⟩
 | step h1 h2 h3 h4 h5 h6 h7 h8 h9 h10=>exact .inr ⟨_,_,_,rfl,h1,h2,h3,h4,h5,h6,h7,h8,h9,h10⟩
structure ChRun (a:List Int) (sq:List Int) (c:List (List Int)):Prop where
 fac:∃ m f,FRun a m f/\Qrl m f/\sq=mM f m
 Dh:∃ n,CRun n [sq] (fV (Gj sq)) c
 bd:Bd 8000000 sq
 len:sq.length<=1000
 small:c.length<=1000
end Orr
namespace Orr
open Go Go.Proofs Tryz
set_option maxRecDepth 10000
theorem RRun.inv {b a r:W9} {k:Nat} (h:RRun b k a r):(k=0/\a=r/\a.length<b.length)\/(∃ j,k=j+1/\b.length<=a.length/\a.length<=1000/\Bd 9000000 a/\Bd 9000000 b/\RRun b j (Qkr a b) r):=by
 cases h with
 | stop h=>exact .inl ⟨rfl,rfl,h⟩
 | step h1 h2 h3 h4 h5=>exact .inr ⟨_,rfl,h1,h2,h3,h4,h5⟩
end Orr
namespace Orr
section
variable {x d:Int} (hd:0<d) (hg:Int.gcd x d=1) (hx:U0 x<=2000000) (hs:U0 d<=2000000)
include hd in
include hd in
include hd in
include hd hx hs in
include hd hx hs in
include hd hx hs in
include hd hg hx hs in
include hd hg hx hs in
end
end Orr
namespace Orr
open Go Go.Proofs Tryz
set_option maxRecDepth 10000
def zls (l:Ua):Uf:=l.map λp=>[rp (zp p)]
abbrev aq (q:Rat) (c:Ua):Ue:=[rp (zp [-q.num,(q.den:Int)]),.row (zls c)]++fr q++fr q
end Orr
namespace Orr
end Orr
namespace Orr
open Go Go.Proofs Tryz
set_option maxRecDepth 10000
structure Rs (k:Crv):Prop where
 n:I2 k
 c:Cs 100000 16 k




theorem pz {P:Program} [Mo P] {n:Nat} {Q:Exit->Sg->Ug->Prop} {L L':Sg} {B B':Ug} (i:Nat) {it:List It} (hs:Ho it=true) (h:dM [i] L B=some (L',B')) (k:AK P n Q it L' B'):AK P n Q it L B:=AK.sub (VE h) hs k

end Orr
namespace Orr
open Go Go.Proofs Tryz Orq
set_option maxRecDepth 10000
end Orr
namespace Orr
open Go Go.Proofs Tryz
set_option maxRecDepth 10000
abbrev run1:Crv:=⟨[0,1],[],1⟩
theorem PS:I2 run1:=⟨rfl,rfl,by decide,by decide⟩
theorem cs_run1:Cs 3 3 run1:=by
 refine ⟨λz hz=>?_,λz hz=>(by cases hz),by decide,by decide,by decide⟩;rcases Qk.1 hz with rfl | hz
 ·decide
 ·rw [Ql.1 hz]; decide
theorem Cs.up {s n s' n':Nat} {k:Crv} (h:Cs s n k) (hs:s<=s') (hn:n<=n'):Cs s' n' k:=⟨Uk h.x hs,Uk h.y hs,Qd h.d hs,Qd h.lx hn,Qd h.ly hn⟩
end Orr
namespace Orr
open Go Go.Proofs Tryz Orq
set_option maxRecDepth 10000
abbrev GZ:List Pt:=[⟨run1,1⟩,⟨Tg 1 0,2⟩]
theorem Qof:(Rv (tq 0) GZ).map (·.id)=[1,2]:=by decide +kernel
theorem sc_run1:Sc run1:=⟨PS,cs_run1.up (by decide) (by decide)⟩
theorem Qqp:∀ p∈GZ,Sc p.c:=λp hp=>by
 rcases Qk.1 hp with rfl | hp
 ·exact sc_run1
 ·rw [Ql.1 hp]; exact QU (by decide) (by decide)


theorem TX {c:Cr} {l l':List Pt} {r1:Uf×Uf} {ws:List Wt} (hc:CrOk c) (hl:∀ p∈l',Sc p.c) (hn:l'.length≤1000) (h:H5 c.l c.now (U6 (OA l' c.now))=some ws) :
 Uo prog 397 [.one (.ow 0 0),.agg [pts l'],.oi 0] [.blk 199 (Rj c (Uj l) r1)] [.oi 0] [.blk 199 (Rj ⟨c.now,ws,c.ev⟩ (Uj l') (kE l' c.now))]:=by
 have hB:=kF hl hn;have cn:=wX (T:=199) (c:=c) (r0:=Uj l') (r1:=r1) hc.n;have cb:=BK (c:=c) (r1:=r1) hl hn hc.n;have cg:=bI (T:=199) (r0:=Uj l') (r1:=kE l' c.now) hc hc.n (Aa hc.n) (Ju 0) (hB.p _ hc.n) (hB.n _ hc.n) h;refine Fl func397 rfl ?_;exact W4 [] [0] [.f rfl,.c [0] cn,.c [0] cb,.c [0] cg] rfl
theorem Qf7 {lx ly:Uf} {px py:W9} {x y:LV} {d id:Int} {c:Cr} {l:List Pt} {r1:Uf×Uf} {ws:List Wt} (hx:IsInts lx px) (hy:IsInts ly py) (hd:Fu x y d) (hk:Cs 4294967294 1073741824 (Crv.mk px py d)) (hll:l.length<=900)
 (he:JH l ⟨Crv.norm (Crv.mk px py d),id⟩=0) (hc:CrOk c) (hl:∀ p∈put l ⟨Crv.norm (Crv.mk px py d),id⟩,Sc p.c) (hn:(put l ⟨Crv.norm (Crv.mk px py d),id⟩).length≤1000) (h:H5 c.l c.now (U6 (OA (put l ⟨Crv.norm (Crv.mk px py d),id⟩) c.now))=some ws) :
 Uo prog 395 [.one (.ow 0 0),.agg [.row lx,.row ly,x,y,.int .i64 id]] [.blk 199 (Rj c (Uj l) r1)] [.oi 0] [.blk 199 (Rj ⟨c.now,ws,c.ev⟩ (Uj (put l ⟨Crv.norm (Crv.mk px py d),id⟩)) (kE (put l ⟨Crv.norm (Crv.mk px py d),id⟩) c.now))]:=by
 have cp:=qP (l:=l) (id:=id) hx hy hd hk (by omega);rw [if_pos he,he] at cp;have cw:=TX (l:=l) (r1:=r1) hc hl hn h;refine Fl func395 rfl ?_;obtain ⟨b,l',rfl,rfl,_⟩:=hd;exact W4 [] [0] [.k cp,.c [0] cw] rfl
theorem aL {lx ly:Uf} {px py:W9} {x y:LV} {d id:Int} {c:Cr} {l l':List Pt} {r1:Uf×Uf} {ws:List Wt} (hx:IsInts lx px) (hy:IsInts ly py) (hd:Fu x y d) (hk:Cs 4294967294 1073741824 (Crv.mk px py d)) (hll:l.length<=1000) (h:has l id=true) (hc:CrOk c)
 (hl':l'=l.set (Hb l id) (Pt.mk (Crv.norm (Crv.mk px py d)) id)) (hs:∀ p∈l',Sc p.c) (hw:H5 c.l c.now (U6 (OA l' c.now))=some ws) :
 Uo prog 396 [.one (.ow 0 0),.agg [.row lx,.row ly,x,y,.int .i64 id]] [.blk 199 (Rj c (Uj l) r1)] [.oi 0] [.blk 199 (Rj ⟨c.now,ws,c.ev⟩ (Uj l') (kE l' c.now))]:=by
 have ct1:=YR (l:=l) hx hy hd hk (by omega) h;rw [<-hl'] at ct1;have cw:=TX (c:=c) (l:=l) (l':=l') (r1:=r1) hc hs (by rw [hl',Xd]; omega) hw;obtain ⟨b,r,rfl,rfl,_⟩:=hd;refine Fl func396 rfl ?_;exact W4 [] [0] [.k ct1,.c [0] cw] rfl
theorem aD {id:Int} {c:Cr} {l l':List Pt} {r1:Uf×Uf} {ws:List Wt} (hll:l.length<=1000) (h:has l id=true) (hc:CrOk c)
 (hl':l'=l.take (Hb l id)++l.drop (Hb l id+1)) (hs:∀ p∈l',Sc p.c) (hw:H5 c.l c.now (U6 (OA l' c.now))=some ws) :
 Uo prog 394 [.one (.ow 0 0),.oi id] [.blk 199 (Rj c (Uj l) r1)] [.oi 0] [.blk 199 (Rj ⟨c.now,ws,c.ev⟩ (Uj l') (kE l' c.now))]:=by
 have ct1:=YG (l:=l) (id:=id) (by omega) h;rw [<-hl'] at ct1;have cw:=TX (c:=c) (l:=l) (l':=l') (r1:=r1) hc hs (by rw [hl',Qu,Qp,Q4]; omega) hw;refine Fl func394 rfl ?_;exact W4 [] [0] [.k ct1,.c [0] cw] rfl
end Orr
namespace Orq
open Orr Go
def lH (W:List Pt) (x:Pt) (i j:Nat):List P3:=Cx i W++(G8 j (W.drop (i+1))).map (λm=>(x,m))
def DJ (W:List Pt) (x y:Pt) (i j k:Nat):List P3:=Cx i W++(G8 j (W.drop (i+1))++(((W.drop (i+1)).drop (j+1)).take k).map (λz=>(y,z))).map (λm=>(x,m))
theorem PN (W:List Pt) (x:Pt) (i:Nat):lH W x i 0=Cx i W:=by simp [lH,G8]
theorem PD (W:List Pt) (x y:Pt) (i j:Nat):DJ W x y i j 0=lH W x i j:=by simp [DJ,lH]
theorem PC {W:List Pt} {x y z:Pt} {i j k:Nat} (h:((W.drop (i+1)).drop (j+1))[k]? = some z):DJ W x y i j (k+1)=DJ W x y i j k++[(x,y,z)]:=by
 unfold DJ;rw [Z5,h]; simp
theorem IY {W:List Pt} {x y:Pt} {i j k:Nat} (hy:(W.drop (i+1))[j]? = some y) (hk:((W.drop (i+1)).drop (j+1)).length<=k):DJ W x y i j k=lH W x i (j+1):=by
 unfold DJ lH;rw [Qw hk,Cn _ j y hy]
theorem IJ {W:List Pt} {x:Pt} {i j:Nat} (hx:W[i]? = some x) (hj:j=(W.drop (i+1)).length):lH W x i j=Cx (i+1) W:=by
 unfold lH;rw [hj,ZS W i x hx]; rfl
theorem nM {W:List Pt} {i:Nat} (h:i=W.length):Cx i W=Hl W:=by rw [h]; rfl
def p4j (W:List Pt) (x:Pt) (i j:Nat):List P4:=Dz i W++(Cx j (W.drop (i+1))).map (λm=>(x,m))
def p4k (W:List Pt) (x y:Pt) (i j k:Nat):List P4:=Dz i W++(lH (W.drop (i+1)) y j k).map (λm=>(x,m))
def dG (W:List Pt) (x y z:Pt) (i j k m:Nat):List P4:=Dz i W++(DJ (W.drop (i+1)) y z j k m).map (λm=>(x,m))
theorem Qck (W:List Pt) (x:Pt) (i:Nat):p4j W x i 0=Dz i W:=by simp [p4j,Cx]
theorem Qcl (W:List Pt) (x y:Pt) (i j:Nat):p4k W x y i j 0=p4j W x i j:=by unfold p4k p4j; rw [PN]
theorem Qcn (W:List Pt) (x y z:Pt) (i j k:Nat):dG W x y z i j k 0=p4k W x y i j k:=by unfold dG p4k; rw [PD]
theorem Qcm {W:List Pt} {x y z u:Pt} {i j k m:Nat} (h:(((W.drop (i+1)).drop (j+1)).drop (k+1))[m]? = some u):dG W x y z i j k (m+1)=dG W x y z i j k m++[(x,y,z,u)]:=by
 unfold dG;rw [PC h]; simp
theorem Qh2 {W:List Pt} {x y z:Pt} {i j k m:Nat} (hz:((W.drop (i+1)).drop (j+1))[k]? = some z) (hm:(((W.drop (i+1)).drop (j+1)).drop (k+1)).length<=m):dG W x y z i j k m=p4k W x y i j (k+1):=by
 unfold dG p4k;rw [IY hz hm]
theorem Qh1 {W:List Pt} {x y:Pt} {i j k:Nat} (hy:(W.drop (i+1))[j]? = some y) (hk:k=((W.drop (i+1)).drop (j+1)).length):p4k W x y i j k=p4j W x i (j+1):=by
 unfold p4k p4j;rw [IJ hy hk]
theorem Qh0 {W:List Pt} {x:Pt} {i j:Nat} (hx:W[i]? = some x) (hj:j=(W.drop (i+1)).length):p4j W x i j=Dz (i+1) W:=by
 unfold p4j;rw [hj,UF W i x hx]; rfl
theorem Qii {W:List Pt} {i:Nat} (h:i=W.length):Dz i W=Ay W:=by rw [h]; rfl
theorem JW:∀ (k:Nat) (l:List Pt),∃ r,Fo l=G8 k l++r
 | 0,l=>⟨Fo l,rfl⟩
 | k+1,[]=>⟨[],rfl⟩
 |
  k+1,x::l=>by
  obtain ⟨r,h⟩:=JW k l;exact ⟨r,by show l.map _++G8 l.length l=l.map _++G8 k l++r; rw [show G8 l.length l=Fo l from rfl,h,Za]⟩
theorem ME:∀ (k:Nat) (l:List Pt),∃ r,Hl l=Cx k l++r
 | 0,l=>⟨Hl l,rfl⟩
 | k+1,[]=>⟨[],rfl⟩
 |
  k+1,x::l=>by
  obtain ⟨r,h⟩:=ME k l;exact ⟨r,by show (Fo l).map _++Cx l.length l=(Fo l).map _++Cx k l++r; rw [show Cx l.length l=Hl l from rfl,h,Za]⟩
theorem yF:∀ (k:Nat) (l:List Pt),∃ r,Ay l=Dz k l++r
 | 0,l=>⟨Ay l,rfl⟩
 | k+1,[]=>⟨[],rfl⟩
 |
  k+1,x::l=>by
  obtain ⟨r,h⟩:=yF k l;exact ⟨r,by show (Hl l).map _++Dz l.length l=(Hl l).map _++Dz k l++r; rw [show Dz l.length l=Ay l from rfl,h,Za]⟩
theorem mV {W:List Pt} (h6:W.length<=6) {x y:Pt} {i j k:Nat} (hx:W[i]? = some x) (hy:(W.drop (i+1))[j]? = some y):(DJ W x y i j k).length<=20:=by
 have h0:=(ZF h6).1;obtain ⟨r,hr⟩:=ME (i+1) W;rw [ZS W i x hx] at hr;obtain ⟨r2,hr2⟩:=JW (j+1) (W.drop (i+1));rw [Cn _ j y hy] at hr2;have e1:=congrArg List.length hr;have e2:=congrArg List.length hr2;have e3:(((W.drop (i+1)).drop (j+1)).take k).length<=((W.drop (i+1)).drop (j+1)).length:=by rw [Qp]; exact Nat.min_le_right _ _
 unfold DJ;simp only [Qu,Zp] at e1 e2 ⊢;omega
theorem Qh3 {W:List Pt} (h6:W.length<=6) {x y z:Pt} {i j k m:Nat} (hx:W[i]? = some x) (hy:(W.drop (i+1))[j]? = some y) (hz:((W.drop (i+1)).drop (j+1))[k]? = some z):(dG W x y z i j k m).length<=15:=by
 have h0:=(ZF h6).2;obtain ⟨r,hr⟩:=yF (i+1) W;rw [UF W i x hx] at hr;obtain ⟨r1,hr1⟩:=ME (j+1) (W.drop (i+1));rw [ZS _ j y hy] at hr1;obtain ⟨r2,hr2⟩:=JW (k+1) ((W.drop (i+1)).drop (j+1));rw [Cn _ k z hz] at hr2;have e1:=congrArg List.length hr;have e2:=congrArg List.length hr1;have e4:=congrArg List.length hr2;have e3:((((W.drop (i+1)).drop (j+1)).drop (k+1)).take m).length<=(((W.drop (i+1)).drop (j+1)).drop (k+1)).length:=by rw [Qp]; exact Nat.min_le_right _ _
 unfold dG DJ;simp only [Qu,Zp] at e1 e2 e4 ⊢;omega
theorem cA {sg:W9->Int} (hg:∀ p,-1<=Gn sg p/\Gn sg p<=1) (ps:List P3):OO (L6 (I7 sg ps)):=by
 have key:∀ (ps:List P3) (M:P7),OO M->OO ((I7 sg ps).foldl (λM e=>Dd M e.1 (.int .i64 e.2)) M):=by
  intro ps
  induction ps with
  | nil=>intro M h; exact h
  | cons m ps ih=>intro M h; exact ih _ (Qbj h (hg _))
 exact key ps [] Qbi
theorem kC (sg:W9->Int) (T:P7) (ps:List P4):ZO (Af T (ZA sg ps)):=by
 have key:∀ (ps:List P4) (F:P7),ZO F->ZO ((ZA sg ps).foldl (λF e=>BE T e.2 e.1 F) F):=by
  intro ps
  induction ps with
  | nil=>intro M h; exact h
  | cons m ps ih=>intro M h; exact ih _ (kB h)
 exact key ps [] bY
theorem DN (p:W9) (q:Rat):-1<=Ha p q/\Ha p q<=1:=by
 rw [Pv]; unfold Us
 split
 ·exact ⟨by decide,by decide⟩
 ·split <;> exact ⟨by decide,by decide⟩
theorem Qdv {p:W9} {a:Tm} {s:Int} (h:KX p a=some s):-1<=s/\s<=1:=by
 unfold KX at h
 split at h
 ·injection h with h; subst h; exact ⟨by decide,by decide⟩
 ·split at h
  ·injection h with h; subst h; exact DN _ _
  ·obtain ⟨g,_,h⟩:=Qc.1 h
   split at h
   ·injection h with h; subst h; exact ⟨by decide,by decide⟩
   ·obtain ⟨c,_,h⟩:=Qc.1 h;obtain ⟨x,_,h⟩:=Qc.1 h;injection h with h; subst h; exact DN _ _
theorem Qa6 (a:Tm) (p:W9):-1<=Gn (U4 a) p/\Gn (U4 a) p<=1:=by
 have hs:∀ p,-1<=U4 a p/\U4 a p<=1:=λp=>by
  unfold U4;cases h:KX p a with
  | none=>exact ⟨by decide,by decide⟩
  | some s=>exact Qdv h
 have key:∀ (k:Nat) (p:W9),-1<=Ri (U4 a) k p/\Ri (U4 a) k p<=1:=by
  intro k
  induction k with
  | zero=>intro p; exact ⟨by simp [Ri],by simp [Ri]⟩
  |
   succ k ih =>
   intro p;simp only [Ri]
   split
   ·exact ⟨by decide,by decide⟩
   ·split
    ·exact ih _
    ·exact hs p
 exact key _ p
end Orq
namespace Orr
open Go Go.Proofs Tryz Orq
set_option maxRecDepth 10000
theorem rE {a b c:Pt} {t:Tm} (ha:Sc a.c) (hb:Sc b.c) (hc:Sc c.c) (ht:Va t):W6 167 [.oi 3,.agg (ta t),.one (.row [Ur a,Ur b,Ur c])] [.agg (C9 (Ci (U4 t) a b c)),.oi 0]:=by
 have hp:=(QD ha hb hc).dp;have e:C9 (Ci (U4 t) a b c)=[.int .i64 3,.int .i64 a.id,.int .i64 b.id,.int .i64 c.id,.int .i64 0,pl (Gk a.c b.c c.c),.int .i64 (Gn (U4 t) (Gk a.c b.c c.c))]:=by rw [Ci]
 rw [e];have cg:=FX hp ht;have cf:=qT ha hb hc;generalize Gk a.c b.c c.c=F at *;refine Fl func167 rfl ?_;refine Wy [.k cJ,.f rfl] rfl ?_;refine W5 (S:=Nat) 3 (λL1 i=>(22,.v (.oi i))::L1) (λi=>[.blk 189 (ta t),.blk 126 lF,.blk 126 [.int .i64 3,.int .i64 (if 1<=i then a.id else 0),.int .i64 (if 2<=i then b.id else 0),.int .i64 (if 3<=i then c.id else 0),.int .i64 0,.nils,.int .i64 0]]) (λi=>3-i) (λi=>i<=3) 0 (Qi _) rfl rfl λi hi=>?_
 rcases (show i=0\/i=1\/i=2\/i=3 by omega) with rfl | rfl | rfl | rfl
 ·refine Wy [.t rfl,.x (i:=0) (xs:=Ur a) rfl,.i 0] rfl ?_ (by simp [Ul]);exact rd 1 (by omega) (by omega) rfl
 ·refine Wy [.t rfl,.x (i:=1) (xs:=Ur b) rfl,.i 1] rfl ?_ (by simp [Ul]);exact rd 2 (by omega) (by omega) rfl
 ·refine Wy [.t rfl,.x (i:=2) (xs:=Ur c) rfl,.i 2] rfl ?_ (by simp [Ul]);exact rd 3 (by omega) (by omega) rfl
 ·exact W0 [.f rfl,.f rfl,.f rfl,.t rfl,.x (i:=0) (xs:=Ur a) rfl,.x (i:=1) (xs:=Ur b) rfl,.x (i:=2) (xs:=Ur c) rfl,.k cf,.k cg] rfl
theorem Ed {α:Type} (s:α->α->α->Bool):∀ (l acc:List α) (c:α),Se s acc (l++[c])=c::Cu s c (Se s acc l)
 | [],_,_=>rfl
 | _::l,_,c=>Ed s l _ c
theorem tX {R:List Pt} {t:Tm} (hR:∀ p∈R,Sc p.c) (hn:R.length≤1000000) (ht:Va t):W6 211 [.agg (ta t),.one (pts R)] [.one (pts (Tr (U4 t) R))]:=by
 have hcl:=Ga R;show W6 211 [.agg (ta t),.one (.row (Uj R))] [.one (.row (Uj (Se (VY (U4 t)) [] R).reverse))];obtain ⟨s,hs⟩:=nmE (VY (U4 t));have hs':∀ a b c,s a b c=decide (0<Gn (U4 t) (Gk a.c b.c c.c)):=λa b c=>by rw [hs]; rfl
 rw [<-hs];refine Fl func211 rfl ?_;refine Wy [.o 5 41 5] rfl ?_;refine W5 (S:=Nat) 2 (λL1 i=>(10,.v (.oi i))::(5,.v (.one (.orow 1 5 none)))::L1) (λi=>[.blk 189 (ta t),.row false 41 5 (Uj (Se s [] (R.take i)).reverse)]) (λi=>R.length-i) (λi=>i<=R.length) 0 (Qi _) rfl rfl λi hi=>?_
 by_cases hlt:i<R.length
 ·obtain ⟨c,hc⟩:=gxE (l:=R) (i:=i) hlt;have hcp:=hR c (Qa hc);have hst:Se s [] (R.take (i+1))=c::Cu s c (Se s [] (R.take i)):=by rw [Z5,hc]; exact Ed s _ _ c
  obtain ⟨O,hO⟩:=nmE (Se s [] (R.take i));have hOl:O.length<=1000000:=by
   have:=XM s (R.take i) [];rw [<-hO,Qp] at this; simp at this; omega
  have hOm:∀ x∈O,Sc x.c:=λx hx=>by
   rw [hO] at hx;rcases XN hx with h | h
   ·cases h
   ·exact hR x (Qm h)
  rw [<-hO] at hst ⊢;have hrl:(Uj O.reverse).length=O.length:=by rw [Ga,Xn]
  have hm:∀ y∈[Ur c],y.length=5:=λy hy=>by rw [Ql.1 hy]; rfl
  have hget:∀ {pre r:List Pt} {x:Pt},O=pre++x::r->∀ j,j=r.length->(Uj O.reverse)[j]? = some (Ur x):=λ{pre r x} e j hj=>by
   refine Td ?_;rw [e,hj]; simp
  have hfin:∀ {pre st:List Pt},O=pre++st->Uj (c::st).reverse=(Uj O.reverse).take st.length++[Ur c]:=λ{pre st} e=>by
   rw [e]; simp [Uj,Yb,List.take_append]
  have hfull:Uj (c::O).reverse=Uj O.reverse++[Ur c]:=by simp [Uj]
  refine Wy [.t (by simp [hcl]; omega),.x (Td hc)] rfl ?_;refine W5 (S:=Bool×List Pt) 3 (λL1 s=>(5,.v (.one (.orow 1 5 (cond s.1 (some (0,s.2.length)) none))))::L1) (λ_=>[.blk 189 (ta t),.row false 41 5 (Uj O.reverse),.blk 41 (Ur c)]) (λs=>s.2.length) (λst=>(∃ pre,O=pre++st.2/\(st.1=false->pre=[]))/\Cu s c st.2=Cu s c O) (false,O) ⟨⟨[],rfl,λ_=>rfl⟩,rfl⟩ rfl rfl λ⟨b,st⟩ ⟨⟨pre,h1,h2⟩,h3⟩=>?_
  have h1:O=pre++st:=h1;have h3:Cu s c st=Cu s c O:=h3;have hl1:O.length=pre.length+st.length:=by rw [h1,Qu]
  have fin:∀ {st:List Pt},O=pre++st->Cu s c st=Cu s c O->Cu s c st=st->Uj (Se s [] (R.take (i+1))).reverse=(Uj O.reverse).take st.length++[Ur c]/\(pre=[]->Uj (Se s [] (R.take (i+1))).reverse=Uj O.reverse++[Ur c]):=λ{st} e1 e2 e3=>by
   rw [hst,<-e2,e3];refine ⟨hfin e1,λhp=>?_⟩;rw [hp] at e1;rw [<-hfull,e1]; rfl
  rcases st with _ | ⟨z,_ | ⟨y,r⟩⟩
  ·obtain ⟨f1,f2⟩:=fin h1 h3 rfl;cases b with
   |
    false =>
    have hp:=h2 rfl;have f2:=f2 hp;rw [hp] at hl1;have hl2:(Uj O.reverse).length<=1:=by rw [hrl,hl1]; simp
    refine Wz [.g 17 false W7,.f rfl,.s (sz:=5) hm] rfl ?_;exact rd (i+1) (by omega) hlt (by rw [f2]; rfl)
   |
    true =>
    refine Wz [.g 17 false (decide_eq_false (by simp)),.f rfl,.s (sz:=5) hm] rfl ?_;exact rd (i+1) (by omega) hlt (by rw [f1]; rfl)
  ·obtain ⟨f1,f2⟩:=fin h1 h3 rfl;cases b with
   |
    false =>
    have hp:=h2 rfl;have f2:=f2 hp;rw [hp] at hl1;have hl2:(Uj O.reverse).length<=1:=by rw [hrl,hl1]; simp
    refine Wz [.g 17 false W7,.f rfl,.s (sz:=5) hm] rfl ?_;exact rd (i+1) (by omega) hlt (by rw [f2]; rfl)
   |
    true =>
    refine Wz [.g 17 false (decide_eq_false (by simp)),.f rfl,.s (sz:=5) hm] rfl ?_;exact rd (i+1) (by omega) hlt (by rw [f1]; rfl)
  ·have sz:=hOm z (by rw [h1]; simp);have sy:=hOm y (by rw [h1]; simp);have co:=qT sy sz hcp;have cg:=FX (QD sy sz hcp).dp ht;have gz:=hget h1 (r.length+1) rfl;have gy:=hget (pre:=pre++[z]) (r:=r) (x:=y) (by rw [h1]; simp) r.length rfl;have hl1:O.length=pre.length+(r.length+2):=hl1;have hls:=hs' y z c;by_cases hq:s y z c=true
   ·have hg:¬Gn (U4 t) (Gk y.c z.c c.c)<=0:=by rw [hls] at hq; have:=of_decide_eq_true hq; omega
    obtain ⟨f1,f2⟩:=fin h1 h3 (by simp only [Cu]; rw [if_pos hq]);cases b with
    |
     false =>
     have hp:=h2 rfl;have f2:=f2 hp;rw [hp] at hl1;have hl2:(Uj O.reverse).length=r.length+2:=by rw [hrl,hl1]; simp
     refine Wz [.g 17 true W8,.r 21 (eI (b:=(r.length:Int)) (by omega)),.i r.length,.x gy,.r 28 (eI (b:=((r.length+1:Nat):Int)) (by omega)),.i (r.length+1),.x gz,.k co,.k cg,.f (decide_eq_false hg),.s (sz:=5) hm] rfl ?_;exact rd (i+1) (by omega) hlt (by rw [f2]; rfl)
    |
     true =>
     refine Wz [.g 17 true (decide_eq_true (by simp; omega)),.r 21 (eI (b:=(r.length:Int)) (by simp; omega)),.i r.length,.x (l:=Uj O.reverse) (i:=0+r.length) (xs:=Ur y) (by rw [Zt]; exact gy),.r 28 (eI (b:=((r.length+1:Nat):Int)) (by simp)),.i (r.length+1),.x (l:=Uj O.reverse) (i:=0+(r.length+1)) (xs:=Ur z) (by rw [Zt]; exact gz),.k co,.k cg,.f (decide_eq_false hg),.s (sz:=5) hm] rfl ?_;exact rd (i+1) (by omega) hlt (by rw [f1]; rfl)
   ·have hg:Gn (U4 t) (Gk y.c z.c c.c)<=0:=by
     rw [hls] at hq; have:=of_decide_eq_false (Wc.2 hq); omega
    have hpop:Cu s c (y::r)=Cu s c O:=by rw [<-h3]; simp only [Cu]; rw [if_neg hq]
    have hin:(∃ pre',O=pre'++(y::r)/\((true:Bool)=false->pre'=[]))/\Cu s c (y::r)=Cu s c O:=⟨⟨pre++[z],by rw [h1]; simp,λh=>by cases h⟩,hpop⟩;cases b with
    |
     false =>
     have hp:=h2 rfl;rw [hp] at hl1;have hl2:(Uj O.reverse).length=r.length+2:=by rw [hrl,hl1]; simp
     refine Wz [.g 17 true W8,.r 21 (eI (b:=(r.length:Int)) (by omega)),.i r.length,.x gy,.r 28 (eI (b:=((r.length+1:Nat):Int)) (by omega)),.i (r.length+1),.x gz,.k co,.k cg,.t (decide_eq_true hg),.r 42 (eI (b:=((r.length+1:Nat):Int)) (by omega)),.i (r.length+1)] rfl ?_;exact rd (true,y::r) (by simp) hin rfl
    |
     true =>
     refine Wz [.g 17 true (decide_eq_true (by simp; omega)),.r 21 (eI (b:=(r.length:Int)) (by simp; omega)),.i r.length,.x (l:=Uj O.reverse) (i:=0+r.length) (xs:=Ur y) (by rw [Zt]; exact gy),.r 28 (eI (b:=((r.length+1:Nat):Int)) (by simp)),.i (r.length+1),.x (l:=Uj O.reverse) (i:=0+(r.length+1)) (xs:=Ur z) (by rw [Zt]; exact gz),.k co,.k cg,.t (decide_eq_true hg),.r 42 (eI (b:=((r.length+1:Nat):Int)) (by simp)),.i (r.length+1)] rfl ?_;exact rd (true,y::r) (by simp) hin rfl
 ·obtain rfl:i=R.length:=by omega
  rw [Q5];exact W0 [.f (by simp [hcl])] rfl
theorem wF {sg:W9->Int} {R:List Pt} (h:R≠[]):0<(Tr sg R).length:=by
 unfold Tr;rw [Xn];obtain ⟨x,hx⟩:∃ x,R.getLast? = some x:=⟨_,Yd h⟩;obtain ⟨l,hl⟩:=Yv.1 hx;rw [hl,Ed]; simp
theorem jD {α:Type} (s:α->α->α->Bool) (c:α):∀ {st:List α},st≠[]->0<(Cu s c st).length
 | [],h=>absurd rfl h
 | [_],_=>by simp [Cu]
 |
  b::a::r,_=>by
  simp only [Cu]
  split
  ·simp
  ·exact jD s c (by simp)
theorem TG {sg:W9->Int} {R:List Pt} (h:2<=R.length):2<=(Tr sg R).length:=by
 unfold Tr;rw [Xn];obtain ⟨x,hx⟩:∃ x,R.getLast? = some x:=⟨_,Yd (by intro e; rw [e] at h; simp at h)⟩;obtain ⟨l,hl⟩:=Yv.1 hx;have hl0:l≠[]:=by intro e; rw [hl,e] at h; simp at h
 have:=wF (sg:=sg) hl0;unfold Tr at this;rw [Xn] at this;have:=jD (VY sg) x (st:=Se (VY sg) [] l) (by intro e; rw [e] at this; simp at this);rw [hl,Ed,Q7]; omega
theorem tW {R:List Pt} {t:Tm} (hR:∀ p∈R,Sc p.c) (hn:R.length≤1000000) (ht:Va t):W6 168 [.agg (ta t),.one (pts R)] [.one (pts (De (U4 t) R))]:=by
 have hcl:=Ga R;have hrl:=Ga R.reverse;rw [Xn] at hrl;show W6 168 [.agg (ta t),.one (.row (Uj R))] [.one (.row (Uj (De (U4 t) R)))];refine Fl func168 rfl ?_;by_cases h3:R.length<3
 ·have e:De (U4 t) R=R:=if_pos h3;rw [e];exact W0 [.T] rfl
 have c1:=tX hR hn ht;have c2:=tX (R:=R.reverse) (λp hp=>hR p (Je.1 hp)) (by rw [Xn]; exact hn) ht;have p1:=TG (sg:=U4 t) (R:=R) (by omega);have p2:=TG (sg:=U4 t) (R:=R.reverse) (by rw [Xn]; omega);have k1:=Ic (U4 t) R;have k2:=Ic (U4 t) R.reverse;rw [Xn] at k2;refine go tt [.F,.o 5 41 5,.r 15 (eI (b:=(R.length:Int)-1-((0:Nat):Int)) (by omega))] rfl (by simp [Ul,hcl]; omega) ?_;refine W5 (S:=Nat) 2 (λL1 j=>(6,.v (.oi ((R.length:Int)-1-(j:Int))))::(5,.v (.one (.orow 1 5 none)))::L1) (λj=>[.blk 189 (ta t),.row false 41 5 (Uj (R.reverse.take j))]) (λj=>R.length-j) (λj=>j<=R.length) 0 (Qi _) rfl rfl λj hj=>?_
 by_cases hlt:j<R.length
 ·obtain ⟨x,hx⟩:=gxE (l:=R) (i:=R.length-1-j) (by omega);have hx':R.reverse[j]? = some x:=by rw [List.getElem?_reverse (by omega)]; exact hx
  have hm:∀ y∈[Ur x],y.length=5:=λy hy=>by rw [Ql.1 hy]; rfl
  have e:Uj (R.reverse.take (j+1))=Uj (R.reverse.take j)++[Ur x]:=by rw [Z5,hx']; simp [Uj]
  have htl:(Uj (R.reverse.take j)).length=j:=by rw [Ga,Qp,Xn]; omega
  refine go tt [.T,.r 22 (eI (b:=((R.length-1-j:Nat):Int)) (by omega)),.x (Td hx),.s (sz:=5) hm,.r 19 (eI (b:=(R.length:Int)-1-((j+1:Nat):Int)) (by omega))] rfl (by simp [Ul,htl]; omega) ?_;exact rd (j+1) (by omega) hlt (by rw [e]; rfl)
 ·obtain rfl:j=R.length:=by omega
  rw [Qw (by rw [Xn]; exact Qn _)];obtain ⟨A,hA⟩:=nmE (Tr (U4 t) R);obtain ⟨C,hC⟩:=nmE (Tr (U4 t) R.reverse);have e:De (U4 t) R=A.dropLast++C.dropLast:=by rw [hA,hC]; exact if_neg h3
  rw [<-hA] at c1 p1 k1;rw [<-hC] at c2 p2 k2;rw [e];have hs:∀ y∈(C.map Ur).take (C.length-1),y.length=5:=λy hy=>ZU C y (Qm hy)
  have hs2:∀ y∈(A.map Ur).take (A.length-1),y.length=5:=λy hy=>ZU A y (Qm hy)
  refine W0 [.F,.p 1,.k c1,.k c2,.r 36 (eI (b:=((A.length-1:Nat):Int)) (by simp; omega)),.r 39 (eI (b:=((A.length-1:Nat):Int)) (by simp; omega)),.i (A.length-1),.r 44 (eI (b:=((C.length-1:Nat):Int)) (by simp; omega)),.i (C.length-1),.s (sz:=5) hs] rfl (by simp [Uj,Yb,List.dropLast_eq_take]) ?_;simp only [Ul,Qp,Zp]
  and_intros <;> first | exact hs2 | omega
theorem FZ {l:List Pt} {t:Tm} (hl:∀ p∈l,Sc p.c) (hn:l.length≤1000000) (ht:Va t):Uo prog 165 [.agg (ta t),.one (pts l)] [] [.one (.orow 0 7 none)] [.row false 126 7 (Uy (Tf (U4 t) l))]:=by
 have hcl:=Ga l;show Uo prog 165 [.agg (ta t),.one (.row (Uj l))] [] [.one (.orow 0 7 none)] [.row false 126 7 (Uy (Tf (U4 t) l))];refine Fl func165 rfl ?_;refine Wy [.o 5 126 7] rfl ?_;refine W5 (S:=Nat) 2 (λL1 i=>(6,.v (.oi ((i+1:Nat):Int)))::(5,.v (.one (.orow 1 7 none)))::L1) (λi=>[.blk 189 (ta t),.row false 126 7 (Uy ((Tf (U4 t) l).take i))]) (λi=>l.length-i) (λi=>i<=l.length-1) 0 (Qi _) rfl rfl λi hi=>?_
 by_cases hlt:i+1<l.length
 ·obtain ⟨a,ha⟩:=gxE (l:=l) (i:=i) (by omega);obtain ⟨b,hb⟩:=gxE (l:=l) (i:=i+1) hlt;have hg:=UT (U4 t) ha hb;have hm:∀ y∈[C9 (Iq (U4 t) a b)],y.length=7:=λy hy=>by rw [Ql.1 hy]; rfl
  refine go tt [.t (by simp [hcl]; omega),.r 19 (eI (b:=(i:Int)) (by simp)),.x (Td ha),.x (Td hb),.k (rL (hl a (Qa ha)) (hl b (Qa hb)) ht),.s (sz:=7) hm,.r 14 (eI (b:=((i+1+1:Nat):Int)) (by simp))] rfl (by simp [Ul,Ga,P9,Mq]; omega) ?_;exact rd (i+1) (by omega) (by omega) (by rw [hg]; simp [Uy]; rfl)
 ·have e:(Tf (U4 t) l).take i=Tf (U4 t) l:=Qw (by rw [Mq]; omega);rw [e];exact W4 [] [1] [.f (by simp [hcl]; omega)] rfl
theorem zG {C:List Pt} {i:Nat} {a b:Pt} (ha:C[i]? = some a) (hb:C[(i+1) % C.length]? = some b):(Hi C)[i]? = some (a,b):=by
 have hi:=(Qg.1 ha).1;unfold Hi;rw [List.getElem?_zip_eq_some];refine ⟨ha,?_⟩;by_cases h:i+1<C.length
 ·rw [Xp h] at hb;rw [Zl (by rw [Q4]; omega),Z1,Jk]; exact hb
 ·have e:i+1=C.length:=by omega
  rw [e,Nat.mod_self] at hb;rw [Xe (by rw [Q4]; omega),Q4,show i-(C.length-1)=0 by omega,V2 (by omega)]; exact hb
theorem zH (C:List Pt):(Hi C).length=C.length:=by
 unfold Hi;rw [List.length_zip,Qu,Q4,Qp]; omega
theorem MD {α β:Type} {f:α->List β} {l:List α} {i:Nat} {x:α} (h:l[i]? = some x):(l.take (i+1)).flatMap f=(l.take i).flatMap f++f x:=by
 rw [Z5,h]; simp
theorem UB {α β:Type} {f:α->β} {p:α->Bool} {l:List α} {i:Nat} {x:α} (h:l[i]? = some x):((l.take (i+1)).filter p).map f=((l.take i).filter p).map f++if p x=true then [f x] else []:=by
 rw [Z5,h,Y8,J4];congr 1;simp only [Option.toList];by_cases hp:p x=true
 ·rw [if_pos hp,Xy hp]; rfl
 ·rw [if_neg hp,Jm hp]; rfl
theorem zN {α β:Type} {f:α->List β} {n:Nat} (hf:∀ x,(f x).length<=n) (l:List α):(l.flatMap f).length<=l.length*n:=XL f n l λx _=>hf x
theorem nI {l:List Pt} (hl:∀ p∈l,Sc p.c):∀ p∈l,Qk3 4294967294 1073741824 p:=λp hp=>⟨(hl p hp).n,(hl p hp).c.mono (by decide) (by decide)⟩
set_option maxHeartbeats 4000000 in
theorem BX {l:List Pt} {a:Tm} {c:Cr} {r1:Uf} (hl:∀ p∈l,Sc p.c) (hn:l.length≤10) (ha:Va a):Uo prog 124 [.one (.ow 0 0),.agg (ta a)] [.blk 201 (Gy c (Uj l) r1)] [.one (.row (Uy (NE l a)))] [.blk 201 (Gy c (Uj l) (bK l a))]:=by
 have hwl:=A4 l;have cw:=wJ (l:=l) (nI hl) (by omega);have cr:=qM (l:=H7 l) (λp hp=>hl p (Py hp)) (by omega) ha;have cn:=tW (R:=Rv a (H7 l)) (λp hp=>hl p (Py (Gu.1 hp))) (by rw [Nk]; omega) ha;have cr2:=qM hl (by omega) ha;have cc:=FZ (l:=Rv a l) (t:=a) (λp hp=>hl p (Gu.1 hp)) (by rw [Nk]; omega) ha;have hCm:∀ p∈Tt l a,p∈l:=λp hp=>Ab hp
 have hCl:=WW l a;have e0:NE l a=ZC l a++Mc (U4 a) l (Tt l a):=rfl;rw [e0];show Uo prog 124 _ _ _ [.blk 201 (Gy c (Uj l) (Uj (Tt l a)))];have cn:W6 168 [.agg (ta a),.one (pts (Rv a (H7 l)))] [.one (pts (Tt l a))]:=cn;have cc:Uo prog 165 [.agg (ta a),.one (pts (Rv a l))] [] [.one (.orow 0 7 none)] [.row false 126 7 (Uy (ZC l a))]:=cc;have hbl:(ZC l a).length<=10:=by unfold ZC; rw [Mq,Nk]; omega
 obtain ⟨C,hC⟩:=nmE (Tt l a);obtain ⟨cs0,hc0⟩:=nmE (ZC l a);rw [<-hC] at cn hCm hCl ⊢;rw [<-hc0] at cc hbl ⊢;have hcp:=Ga C;have hlp:=Ga l;have eel:∀ x,(Lj (U4 a) l x).length<=l.length:=λx=>by unfold Lj; rw [List.length_map]; exact List.length_filter_le _ _
 refine Fl func124 rfl ?_;refine Wy [.k cw,.k cr,.k cn,.k Ep,.k cr2,.c [2] cc] rfl ?_;by_cases h2:C.length<2
 ·have e:Mc (U4 a) l C=[]:=if_pos h2;rw [e,Zw];exact W4 [2] [0] [.t (decide_eq_true (by simp; omega))] rfl
 have e:Mc (U4 a) l C=(Hi C).flatMap (Lj (U4 a) l):=if_neg h2;rw [e];refine Wy [.f (decide_eq_false (by simp; omega))] rfl ?_;refine sb [(48,.v (.oi 0)),(47,.v (.oi ((C.map Ur).length:Int))),(46,.v (.one (pts C))),(6,.v (.one (.orow 2 7 none))),(3,.v (.one (.ow 1 0))),(0,.v (.one (.ow 0 0)))] [.blk 201 (Gy c (Uj l) (Uj C)),.blk 189 (ta a),.row false 126 7 (Uy cs0)] rfl rfl ?_;rw [show Uy cs0=Uy (cs0++((Hi C).take 0).flatMap (Lj (U4 a) l)) by simp];refine W5 (S:=Nat) 3 (λL1 i=>(48,.v (.oi i))::(6,.v (.one (.orow 2 7 none)))::L1) (λi=>[.blk 201 (Gy c (Uj l) (Uj C)),.blk 189 (ta a),.row false 126 7 (Uy (cs0++((Hi C).take i).flatMap (Lj (U4 a) l)))]) (λi=>C.length-i) (λi=>i<=C.length) 0 (Qi _) rfl rfl λi hi=>?_
 by_cases hlt:i<C.length
 ·obtain ⟨x,hx⟩:=gxE (l:=C) (i:=i) hlt;obtain ⟨y,hy⟩:=gxE (l:=C) (i:=(i+1) % C.length) (Z9 _ (by omega));have he:=zG hx hy;have sx:=hl x (hCm x (Qa hx));have sy:=hl y (hCm y (Qa hy));have hflat:=MD (f:=Lj (U4 a) l) he;obtain ⟨F,hF⟩:=nmE (cs0++((Hi C).take i).flatMap (Lj (U4 a) l));have hFl:F.length<=10+20*10:=by
   have h1:=zN eel ((Hi C).take i);have h2:((Hi C).take i).length*l.length<=20*10:=Zk (by rw [Qp]; omega) hn;rw [hF,Qu]; omega
  have hmod:(((i+1:Nat):Int)).tmod ((C.map Ur).length:Int)=(((i+1) % C.length:Nat):Int):=by rw [Zp]; exact (Int.ofNat_tmod _ _).symm
  have hm0:=Km ((i+1:Nat):Int) (show (C.length:Int)≠0 by omega);have hm1:=V0 ((i+1:Nat):Int) (show (0:Int)<C.length by omega);have hnext:cs0++((Hi C).take (i+1)).flatMap (Lj (U4 a) l)=F++(l.filter (ZE (x,y))).map λc=>Ci (U4 a) x y c:=by rw [hflat,<-Za,<-hF]; rfl
  rw [<-hF];refine go tt [.t (decide_eq_true (by simp; omega)),.x (Td hx),.r 58 (eI (b:=((i+1:Nat):Int)) (by simp)),.r 64 (eI (b:=(((i+1) % C.length:Nat):Int)) hmod),.x (Td hy),.k Ep] rfl (by simp only [Ul]; omega) ?_;rw [show Uy F=Uy (F++((l.take 0).filter (ZE (x,y))).map λc=>Ci (U4 a) x y c) by simp];refine W5 (S:=Nat) 5 (λL1 k=>(73,.v (.oi k))::(6,.v (.one (.orow 2 7 none)))::L1) (λk=>[.blk 201 (Gy c (Uj l) (Uj C)),.blk 189 (ta a),.row false 126 7 (Uy (F++((l.take k).filter (ZE (x,y))).map λc=>Ci (U4 a) x y c)),.blk 41 (Ur x),.blk 41 (Ur y)]) (λk=>l.length-k) (λk=>k<=l.length) 0 (Qi _) rfl rfl λk hk=>?_
  by_cases hlk:k<l.length
  ·obtain ⟨z,hz⟩:=gxE (l:=l) (i:=k) hlk;have sz:=hl z (Qa hz);have hflt:=UB (f:=λc=>Ci (U4 a) x y c) (p:=ZE (x,y)) hz;obtain ⟨G,hG⟩:=nmE (((l.take k).filter (ZE (x,y))).map λc=>Ci (U4 a) x y c);have hGl:G.length<=10:=by
    have h1:=Yp (ZE (x,y)) (l.take k);rw [Qp] at h1;rw [hG,Zp]; omega
   rw [<-hG] at hflt ⊢;by_cases h1:z.id=x.id
   ·rw [if_neg (show ¬ZE (x,y) z=true by simp [ZE,h1]),Zw] at hflt;refine Wz [.t (decide_eq_true (by simp; omega)),.x (Td hz),.g 82 false (decide_eq_false (by simp [h1])),.f rfl] rfl ?_;exact rd (k+1) (by omega) hlk (by rw [hflt]; rfl)
   ·by_cases h2:z.id=y.id
    ·rw [if_neg (show ¬ZE (x,y) z=true by simp [ZE,h2]),Zw] at hflt;refine Wz [.t (decide_eq_true (by simp; omega)),.x (Td hz),.g 82 true (decide_eq_true h1),.f (decide_eq_false (by simp [h2]))] rfl ?_;exact rd (k+1) (by omega) hlk (by rw [hflt]; rfl)
    ·rw [if_pos (show ZE (x,y) z=true by simp [ZE,h1,h2])] at hflt;have hm:∀ q∈[C9 (Ci (U4 a) x y z)],q.length=7:=λq hq=>by rw [Ql.1 hq]; rfl
     refine go tt [.t (decide_eq_true (by simp; omega)),.x (Td hz),.g 82 true (decide_eq_true h1),.t (decide_eq_true h2),.k (rE sx sy sz ha),.s (sz:=7) hm] rfl (by simp [Ul,P9]; omega) ?_;have e3:Uy (F++(G++[Ci (U4 a) x y z]))=Uy (F++G)++[C9 (Ci (U4 a) x y z)]:=by simp [Uy]
     exact rd (k+1) (by omega) hlk (by rw [hflt,e3]; rfl)
  ·obtain rfl:k=l.length:=by omega
   rw [Q5,<-hnext];refine Wz [.f (decide_eq_false (by simp))] rfl ?_;exact rd (i+1) (by omega) hlt rfl
 ·obtain rfl:i=C.length:=by omega
  rw [Qw (by rw [zH]; exact Qn _)];exact W4 [2] [0] [.f (decide_eq_false (by simp))] rfl
theorem ozM {P:Program} [Mo P] {n:Nat} {Q:Exit->Sg->Ug->Prop} {L L':Sg} {B B':Ug} (d off T sz:Nat) {it:List It} (hs:Ho it=true) (h:dP (P:=P) d L B [.oc d off T sz]=some (L',B',[],[])) (k:AK P n Q it L' B'):AK P n Q it L B:=AK.sub (IR h EqOk.nil) hs k
theorem EW {k:Crv} (hk:Sc k):W6 251 [.agg (cl k)] [.one (.row (QV (Iz k)))]:=by
 have ok:=VP hk.n hk.c;have l1:=Tl k.x k.x;have l2:=Tl k.y k.y;have:=hk.c.lx;have:=hk.c.ly;have bx:Bd 258 (Fv k.x k.x):=S4 (u:=2) hk.c.x hk.c.x (by omega);have by_:Bd 258 (Fv k.y k.y):=S4 (u:=2) hk.c.y hk.c.y (by omega);have c1:=Pj (p:=k.x) (c:=k.d) (by omega) (Uk hk.c.x (by decide)) (Qd hk.c.d (by decide));have c2:=Pj (p:=k.y) (c:=k.d) (by omega) (Uk hk.c.y (by decide)) (Qd hk.c.d (by decide));have c3:=WQ (p:=k.x) (q:=k.x) hk.n.1 hk.n.1 (by omega) (by omega) hk.c.x hk.c.x (by decide);have c4:=WQ (p:=k.y) (q:=k.y) hk.n.2.1 hk.n.2.1 (by omega) (by omega) hk.c.y hk.c.y (by decide);have c5:=EQ (p:=Fv k.x k.x) (q:=Fv k.y k.y) (by omega) (by omega) (Uk bx (by decide)) (Uk by_ (by decide));have c6:=P8 (Um k.d) (Um k.d) (Qd hk.c.d (by decide)) (Qd hk.c.d (by decide));have hl:∀ p∈Iz k,p.length≤1000000:=λp hp=>by
  obtain ⟨j,hj⟩:=Xq hp;have h1:=ok.2 j p hj;have:[2,2,4,0].getD j 0<=4:=by
   match j with
   | 0=>decide
   | 1=>decide
   | 2=>decide
   | 3=>decide
   | j+4=>simp
  omega
 have cd:=eH (r:=Iz k) (λp hp=>(ok.1 p hp).1) (λp hp=>Uk (ok.1 p hp).2 (by decide)) hl (by show 4<=1000; decide);exact W3 func251 rfl [.k (Bu hk.n (hk.c.mono (by decide) (by decide))),.k c1,.k c2,.k c3,.k c4,.k c5,.k c6,.k cd] rfl
theorem aQ {a b c d:Crv} (ha:Sc a) (hb:Sc b) (hc:Sc c) (hd:Sc d):W6 210 [.agg (cl a),.agg (cl b),.agg (cl c),.agg (cl d)] [pr (XK a b c d)]:=by
 have cd:=Qju (by decide) (k:=4) (ds:=[2,2,4,0]) (by decide) rfl (by decide) (yI ha.n hb.n hc.n hd.n ha.c hb.c hc.c hd.c);exact W3 func210 rfl [.k (EW ha),.k (EW hb),.k (EW hc),.k (EW hd),.k cd] rfl
set_option maxHeartbeats 1000000 in
theorem Qfs {a b c d:Pt} {t:Tm} (ha:Sc a.c) (hb:Sc b.c) (hc:Sc c.c) (hd:Sc d.c) (ht:Va t):W6 167 [.oi 4,.agg (ta t),.one (.row [Ur a,Ur b,Ur c,Ur d])] [.agg (C9 (CL (U4 t) a b c d)),.oi 0]:=by
 have hp:=(sQ ha hb hc hd).dp;have e:C9 (CL (U4 t) a b c d)=[.int .i64 4,.int .i64 a.id,.int .i64 b.id,.int .i64 c.id,.int .i64 d.id,pl (XK a.c b.c c.c d.c),.int .i64 (Gn (U4 t) (XK a.c b.c c.c d.c))]:=by rw [CL]
 rw [e];have cg:=FX hp ht;have cf:=aQ ha hb hc hd;generalize XK a.c b.c c.c d.c=F at *;refine Fl func167 rfl ?_;refine Wy [.k cY,.f rfl] rfl ?_;refine W5 (S:=Nat) 3 (λL1 i=>(22,.v (.oi i))::L1) (λi=>[.blk 189 (ta t),.blk 126 lF,.blk 126 [.int .i64 4,.int .i64 (if 1<=i then a.id else 0),.int .i64 (if 2<=i then b.id else 0),.int .i64 (if 3<=i then c.id else 0),.int .i64 (if 4<=i then d.id else 0),.nils,.int .i64 0]]) (λi=>4-i) (λi=>i<=4) 0 (Qi _) rfl rfl λi hi=>?_
 rcases (show i=0\/i=1\/i=2\/i=3\/i=4 by omega) with rfl | rfl | rfl | rfl | rfl
 ·refine Wy [.t rfl,.x (i:=0) (xs:=Ur a) rfl,.i 0] rfl ?_ (by simp [Ul]);exact rd 1 (by omega) (by omega) rfl
 ·refine Wy [.t rfl,.x (i:=1) (xs:=Ur b) rfl,.i 1] rfl ?_ (by simp [Ul]);exact rd 2 (by omega) (by omega) rfl
 ·refine Wy [.t rfl,.x (i:=2) (xs:=Ur c) rfl,.i 2] rfl ?_ (by simp [Ul]);exact rd 3 (by omega) (by omega) rfl
 ·refine Wy [.t rfl,.x (i:=3) (xs:=Ur d) rfl,.i 3] rfl ?_ (by simp [Ul]);exact rd 4 (by omega) (by omega) rfl
 ·exact W0 [.f rfl,.f rfl,.f rfl,.f rfl,.t rfl,.x (i:=0) (xs:=Ur a) rfl,.x (i:=1) (xs:=Ur b) rfl,.x (i:=2) (xs:=Ur c) rfl,.x (i:=3) (xs:=Ur d) rfl,.k cf,.k cg] rfl
def zM (T:P7) (s:Int) (n:W9) (F:P7) (k:Nat):P7:=(List.range k).foldl (Ac T s n) F
theorem wL (T:P7) (s:Int) (n:W9) (F:P7) (k:Nat):zM T s n F (k+1)=Ac T s n (zM T s n F k) k:=by unfold zM; rw [List.range_succ,List.foldl_append]; rfl
theorem wC (T:P7) (s:Int) (n:W9) (F:P7):zM T s n F 4=BE T s n F:=rfl
set_option maxHeartbeats 4000000 in
theorem Qlx {F T:P7} {s n0 n1 n2 n3:Int} (hT:OO T) (hs:-1<=s/\s<=1):Uo prog 175 [.one (.omap 0),.one (.omap 1),.oi s,.agg [.int .i64 n0,.int .i64 n1,.int .i64 n2,.int .i64 n3]] [.mpb F,.mpb T] [] [.mpb (BE T s [n0,n1,n2,n3] F),.mpb T]:=by
 have hm:Qe3 T:=λk=>(hT k).1
 have hb:=λ(k:W9) (x:Int) (hx:-1<=x/\x<=1)=>dV (hT k).2 hx
 rw [<-wC];obtain ⟨f,hf⟩:=nmE (zM T s [n0,n1,n2,n3] F);have f0:F=f 0:=by rw [hf]; rfl
 have fs:∀ k,f (k+1)=Ac T s [n0,n1,n2,n3] (f k) k:=λk=>by rw [hf]; exact wL ..
 rw [<-hf];rw [f0];clear hf f0;refine Fl func175 rfl ?_;refine Wy [] rfl ?_;refine W5 (S:=Nat) 3 (λL1 k=>(14,.v (.oi k))::L1) (λk=>[.mpb (f k),.mpb T,.blk 122 [.int .i64 n0,.int .i64 n1,.int .i64 n2,.int .i64 n3]]) (λk=>4-k) (λk=>k<=4) 0 (by decide) rfl rfl λk hk=>?_
 rcases (show k=0\/k=1\/k=2\/k=3\/k=4 by omega) with rfl | rfl | rfl | rfl | rfl
 ·have e1:=fs 0;have e2:Ac T s [n0,n1,n2,n3] (f 0) 0=if I5 T [n1,n2,n3]*(-s)>0 then Dd (f 0) [n1,n2,n3] (.bool true) else f 0:=rfl
  rw [e2] at e1;refine Wy [.t rfl] rfl ?_;refine W5 (S:=Nat) 4 (λL1 i=>(18,.v (.oi i))::(10,.v (.oi (if i<=0 then (i:Int) else (i:Int)-1)))::L1) (λi=>[.mpb (f 0),.mpb T,.blk 122 [.int .i64 n0,.int .i64 n1,.int .i64 n2,.int .i64 n3],.blk 101 [.int .i64 (if 2<=i then n1 else 0),.int .i64 (if 3<=i then n2 else 0),.int .i64 (if 4<=i then n3 else 0)]]) (λi=>4-i) (λi=>i<=4) 0 (by decide) rfl rfl λi hi=>?_
  rcases (show i=0\/i=1\/i=2\/i=3\/i=4 by omega) with rfl | rfl | rfl | rfl | rfl
  ·refine Wy [.t rfl,.i 0,.f rfl] rfl ?_ (by simp [Ul]);exact rd 1 (by omega) (by omega) rfl
  ·refine Wy [.t rfl,.i 1,.t rfl,.i 0] rfl ?_ (by simp [Ul]);exact rd 2 (by omega) (by omega) rfl
  ·refine Wy [.t rfl,.i 2,.t rfl,.i 1] rfl ?_ (by simp [Ul]);exact rd 3 (by omega) (by omega) rfl
  ·refine Wy [.t rfl,.i 3,.t rfl,.i 2] rfl ?_ (by simp [Ul]);exact rd 4 (by omega) (by omega) rfl
  ·have hbb:=hb [n1,n2,n3] (-s) (by omega);by_cases hc:I5 T [n1,n2,n3]*(-s)>0
   ·rw [if_pos hc] at e1;refine go tt [.f rfl,.t rfl,.t (decide_eq_true hc)] rfl (by simp only [Ul]; first | exact ⟨⟨by omega,by omega⟩,hbb,hm,⟨by omega,by omega⟩,by decide,by omega,by omega⟩ | exact ⟨⟨by omega,by omega⟩,hbb,hm,by decide,by omega,by omega⟩) ?_;exact rd 1 (by omega) (by omega) (by rw [e1]; rfl)
   ·rw [if_neg hc] at e1;refine go tt [.f rfl,.t rfl,.f (decide_eq_false hc)] rfl (by simp only [Ul]; first | exact ⟨⟨by omega,by omega⟩,hbb,hm,⟨by omega,by omega⟩,by decide,by omega,by omega⟩ | exact ⟨⟨by omega,by omega⟩,hbb,hm,by decide,by omega,by omega⟩) ?_;exact rd 1 (by omega) (by omega) (by rw [e1]; rfl)
 ·have e1:=fs 1;have e2:Ac T s [n0,n1,n2,n3] (f 1) 1=if I5 T [n0,n2,n3]*s>0 then Dd (f 1) [n0,n2,n3] (.bool true) else f 1:=rfl
  rw [e2] at e1;refine Wy [.t rfl] rfl ?_;refine W5 (S:=Nat) 4 (λL1 i=>(18,.v (.oi i))::(10,.v (.oi (if i<=1 then (i:Int) else (i:Int)-1)))::L1) (λi=>[.mpb (f 1),.mpb T,.blk 122 [.int .i64 n0,.int .i64 n1,.int .i64 n2,.int .i64 n3],.blk 101 [.int .i64 (if 1<=i then n0 else 0),.int .i64 (if 3<=i then n2 else 0),.int .i64 (if 4<=i then n3 else 0)]]) (λi=>4-i) (λi=>i<=4) 0 (by decide) rfl rfl λi hi=>?_
  rcases (show i=0\/i=1\/i=2\/i=3\/i=4 by omega) with rfl | rfl | rfl | rfl | rfl
  ·refine Wy [.t rfl,.i 0,.t rfl,.i 0] rfl ?_ (by simp [Ul]);exact rd 1 (by omega) (by omega) rfl
  ·refine Wy [.t rfl,.i 1,.f rfl] rfl ?_ (by simp [Ul]);exact rd 2 (by omega) (by omega) rfl
  ·refine Wy [.t rfl,.i 2,.t rfl,.i 1] rfl ?_ (by simp [Ul]);exact rd 3 (by omega) (by omega) rfl
  ·refine Wy [.t rfl,.i 3,.t rfl,.i 2] rfl ?_ (by simp [Ul]);exact rd 4 (by omega) (by omega) rfl
  ·have hbb:=hb [n0,n2,n3] s (by omega);by_cases hc:I5 T [n0,n2,n3]*s>0
   ·rw [if_pos hc] at e1;refine go tt [.f rfl,.f rfl,.t (decide_eq_true hc)] rfl (by simp only [Ul]; first | exact ⟨⟨by omega,by omega⟩,hbb,hm,⟨by omega,by omega⟩,by decide,by omega,by omega⟩ | exact ⟨⟨by omega,by omega⟩,hbb,hm,by decide,by omega,by omega⟩) ?_;exact rd 2 (by omega) (by omega) (by rw [e1]; rfl)
   ·rw [if_neg hc] at e1;refine go tt [.f rfl,.f rfl,.f (decide_eq_false hc)] rfl (by simp only [Ul]; first | exact ⟨⟨by omega,by omega⟩,hbb,hm,⟨by omega,by omega⟩,by decide,by omega,by omega⟩ | exact ⟨⟨by omega,by omega⟩,hbb,hm,by decide,by omega,by omega⟩) ?_;exact rd 2 (by omega) (by omega) (by rw [e1]; rfl)
 ·have e1:=fs 2;have e2:Ac T s [n0,n1,n2,n3] (f 2) 2=if I5 T [n0,n1,n3]*(-s)>0 then Dd (f 2) [n0,n1,n3] (.bool true) else f 2:=rfl
  rw [e2] at e1;refine Wy [.t rfl] rfl ?_;refine W5 (S:=Nat) 4 (λL1 i=>(18,.v (.oi i))::(10,.v (.oi (if i<=2 then (i:Int) else (i:Int)-1)))::L1) (λi=>[.mpb (f 2),.mpb T,.blk 122 [.int .i64 n0,.int .i64 n1,.int .i64 n2,.int .i64 n3],.blk 101 [.int .i64 (if 1<=i then n0 else 0),.int .i64 (if 2<=i then n1 else 0),.int .i64 (if 4<=i then n3 else 0)]]) (λi=>4-i) (λi=>i<=4) 0 (by decide) rfl rfl λi hi=>?_
  rcases (show i=0\/i=1\/i=2\/i=3\/i=4 by omega) with rfl | rfl | rfl | rfl | rfl
  ·refine Wy [.t rfl,.i 0,.t rfl,.i 0] rfl ?_ (by simp [Ul]);exact rd 1 (by omega) (by omega) rfl
  ·refine Wy [.t rfl,.i 1,.t rfl,.i 1] rfl ?_ (by simp [Ul]);exact rd 2 (by omega) (by omega) rfl
  ·refine Wy [.t rfl,.i 2,.f rfl] rfl ?_ (by simp [Ul]);exact rd 3 (by omega) (by omega) rfl
  ·refine Wy [.t rfl,.i 3,.t rfl,.i 2] rfl ?_ (by simp [Ul]);exact rd 4 (by omega) (by omega) rfl
  ·have hbb:=hb [n0,n1,n3] (-s) (by omega);by_cases hc:I5 T [n0,n1,n3]*(-s)>0
   ·rw [if_pos hc] at e1;refine go tt [.f rfl,.t rfl,.t (decide_eq_true hc)] rfl (by simp only [Ul]; first | exact ⟨⟨by omega,by omega⟩,hbb,hm,⟨by omega,by omega⟩,by decide,by omega,by omega⟩ | exact ⟨⟨by omega,by omega⟩,hbb,hm,by decide,by omega,by omega⟩) ?_;exact rd 3 (by omega) (by omega) (by rw [e1]; rfl)
   ·rw [if_neg hc] at e1;refine go tt [.f rfl,.t rfl,.f (decide_eq_false hc)] rfl (by simp only [Ul]; first | exact ⟨⟨by omega,by omega⟩,hbb,hm,⟨by omega,by omega⟩,by decide,by omega,by omega⟩ | exact ⟨⟨by omega,by omega⟩,hbb,hm,by decide,by omega,by omega⟩) ?_;exact rd 3 (by omega) (by omega) (by rw [e1]; rfl)
 ·have e1:=fs 3;have e2:Ac T s [n0,n1,n2,n3] (f 3) 3=if I5 T [n0,n1,n2]*s>0 then Dd (f 3) [n0,n1,n2] (.bool true) else f 3:=rfl
  rw [e2] at e1;refine Wy [.t rfl] rfl ?_;refine W5 (S:=Nat) 4 (λL1 i=>(18,.v (.oi i))::(10,.v (.oi (if i<=3 then (i:Int) else (i:Int)-1)))::L1) (λi=>[.mpb (f 3),.mpb T,.blk 122 [.int .i64 n0,.int .i64 n1,.int .i64 n2,.int .i64 n3],.blk 101 [.int .i64 (if 1<=i then n0 else 0),.int .i64 (if 2<=i then n1 else 0),.int .i64 (if 3<=i then n2 else 0)]]) (λi=>4-i) (λi=>i<=4) 0 (by decide) rfl rfl λi hi=>?_
  rcases (show i=0\/i=1\/i=2\/i=3\/i=4 by omega) with rfl | rfl | rfl | rfl | rfl
  ·refine Wy [.t rfl,.i 0,.t rfl,.i 0] rfl ?_ (by simp [Ul]);exact rd 1 (by omega) (by omega) rfl
  ·refine Wy [.t rfl,.i 1,.t rfl,.i 1] rfl ?_ (by simp [Ul]);exact rd 2 (by omega) (by omega) rfl
  ·refine Wy [.t rfl,.i 2,.t rfl,.i 2] rfl ?_ (by simp [Ul]);exact rd 3 (by omega) (by omega) rfl
  ·refine Wy [.t rfl,.i 3,.f rfl] rfl ?_ (by simp [Ul]);exact rd 4 (by omega) (by omega) rfl
  ·have hbb:=hb [n0,n1,n2] s (by omega);by_cases hc:I5 T [n0,n1,n2]*s>0
   ·rw [if_pos hc] at e1;refine go tt [.f rfl,.f rfl,.t (decide_eq_true hc)] rfl (by simp only [Ul]; first | exact ⟨⟨by omega,by omega⟩,hbb,hm,⟨by omega,by omega⟩,by decide,by omega,by omega⟩ | exact ⟨⟨by omega,by omega⟩,hbb,hm,by decide,by omega,by omega⟩) ?_;exact rd 4 (by omega) (by omega) (by rw [e1]; rfl)
   ·rw [if_neg hc] at e1;refine go tt [.f rfl,.f rfl,.f (decide_eq_false hc)] rfl (by simp only [Ul]; first | exact ⟨⟨by omega,by omega⟩,hbb,hm,⟨by omega,by omega⟩,by decide,by omega,by omega⟩ | exact ⟨⟨by omega,by omega⟩,hbb,hm,by decide,by omega,by omega⟩) ?_;exact rd 4 (by omega) (by omega) (by rw [e1]; rfl)
 ·exact W4 [] [0,1] [.f rfl] rfl
set_option maxHeartbeats 8000000 in
theorem BZ {l:List Pt} {a:Tm} {c:Cr} {r1:Uf} (hl:∀ p∈l,Sc p.c) (hn:l.length≤6) (ha:Va a):Uo prog 126 [.one (.ow 0 0),.agg (ta a)] [.blk 205 (Gy c (Uj l) r1)] [.one (.row (Uy (vE l a)))] [.blk 205 (Gy c (Uj l) (kL l a))]:=by
 have hwl:=A4 l;have cw:=wJ (l:=l) (nI hl) (by omega);have hgb:=Qa6 a;unfold kL vE xE xA;obtain ⟨sg',hsg⟩:∃ s,s=U4 a:=⟨_,rfl⟩;obtain ⟨W,hW⟩:=nmE (H7 l);have hWs:∀ p∈W,Sc p.c:=λp hp=>hl p (Py (by rw [<-hW]; exact hp))
 have mR:=λ{x y z:Pt} (hx:x∈W) (hy:y∈W) (hz:z∈W)=>rE (t:=a) (hWs x hx) (hWs y hy) (hWs z hz) ha
 have mC:=λ{x y z u:Pt} (hx:x∈W) (hy:y∈W) (hz:z∈W) (hu:u∈W)=>Qfs (t:=a) (hWs x hx) (hWs y hy) (hWs z hz) (hWs u hu) ha
 rw [<-hW] at cw hwl ⊢;rw [<-hsg] at hgb mR mC ⊢;have hW6:W.length<=6:=by omega
 have hTi:=λps=>cA hgb ps
 have hcp:(W.map Ur).length=W.length:=by simp
 have hcp2:=Ga W;have hdr:∀ i,(Uj W).drop i=Uj (W.drop i):=λi=>by unfold Uj; rw [List.map_drop]
 have hel:∀ z∈Uj W,z.length=5:=λz hz=>by obtain ⟨p,_,rfl⟩:=Zf.1 hz; rfl
 have s7:∀ x:Ct,∀ y∈[C9 x],y.length=7:=λx y hy=>by rw [Ql.1 hy]; rfl
 have s3:∀ x:P3,∀ y∈[trL x],y.length=3:=λx y hy=>by rw [Ql.1 hy]; rfl
 obtain ⟨T,hT⟩:=nmE (L6 (I7 sg' (Hl W)));obtain ⟨G,hG⟩:=nmE (Af T (ZA sg' (Ay W)));have hTI:OO T:=by rw [hT]; exact hTi _
 have hTm:Qe3 T:=λk=>(hTI k).1
 have hGB:lT G:=λk=>by rw [hG]; exact kC _ _ _ k
 rw [<-hT,<-hG];have e0:(Uy (((Cx 0 W).map (GU sg'))))=[]:=rfl;refine Fl func126 rfl ?_;refine Wy [.k cw,.o 6 126 7] rfl ?_;refine W5 (S:=Nat) 4 (λL1 i=>(42,.v (.oi i))::(6,.v (.one (.orow 2 7 none)))::L1) (λi=>[.blk 205 (Gy c (Uj l) r1),.blk 189 (ta a),.row false 126 7 (Uy ((Cx i W).map (GU sg'))),.mpb (L6 (I7 sg' (Cx i W)))]) (λi=>W.length-i) (λi=>i<=W.length) 0 (Qi _) rfl rfl λi hi=>?_
 by_cases hlt:i<W.length
 ·obtain ⟨x,hx⟩:=gxE (l:=W) (i:=i) hlt;have xm:=Qa hx;obtain ⟨V,hV⟩:=nmE (W.drop (i+1));have hVl:V.length=W.length-(i+1):=by rw [hV,Q4]
  have hVm:∀ p∈V,p∈W:=λp hp=>by rw [hV] at hp; exact Qy hp
  have eV:(Uj W).drop (i+1)=Uj V:=by rw [hdr,<-hV]
  rw [<-PN W x i];refine go tt [.T,.x (Tc hx),.r 49 (eI (b:=((i+1:Nat):Int)) (by omega)),.i (i+1),.r 50 (YN eV)] rfl (by simp only [Ul]; (repeat' apply And.intro) <;> first | omega | exact hel) ?_;have hVr:=Ga V;refine W5 (S:=Nat) 5 (λL1 j=>(52,.v (.oi j))::(6,.v (.one (.orow 2 7 none)))::L1) (λj=>[.blk 205 (Gy c (Uj l) r1),.blk 189 (ta a),.row false 126 7 (Uy ((lH W x i j).map (GU sg'))),.mpb (L6 (I7 sg' (lH W x i j))),.blk 41 (Ur x)]) (λj=>V.length-j) (λj=>j<=V.length) 0 (Qi _) rfl rfl λj hj=>?_
  by_cases hltj:j<V.length
  ·obtain ⟨y,hy⟩:=gxE (l:=V) (i:=j) hltj;have ym:=hVm y (Qa hy);have hy':(W.drop (i+1))[j]? = some y:=by rw [<-hV]; exact hy
   obtain ⟨U,hU⟩:=nmE (V.drop (j+1));have hUl:U.length=V.length-(j+1):=by rw [hU,Q4]
   have hUm:∀ p∈U,p∈W:=λp hp=>by rw [hU] at hp; exact hVm p (Qy hp)
   have hUW:U=(W.drop (i+1)).drop (j+1):=by rw [hU,hV]
   have eU:(Uj W).drop (i+j+2)=Uj U:=by rw [hdr,hU,hV,Jl]; congr 2; omega
   have hUr:=Ga U;rw [<-PD W x y i j];refine go tt [.T,.x (Tc hy),.r 61 (eI (b:=((i+j+2:Nat):Int)) (by omega)),.i (i+j+2),.r 62 (YN eU)] rfl (by simp only [Ul]; (repeat' apply And.intro) <;> first | omega | exact hel) ?_;refine W5 (S:=Nat) 6 (λL1 k=>(64,.v (.oi k))::(6,.v (.one (.orow 2 7 none)))::L1) (λk=>[.blk 205 (Gy c (Uj l) r1),.blk 189 (ta a),.row false 126 7 (Uy ((DJ W x y i j k).map (GU sg'))),.mpb (L6 (I7 sg' (DJ W x y i j k))),.blk 41 (Ur x),.blk 41 (Ur y)]) (λk=>U.length-k) (λk=>k<=U.length) 0 (Qi _) rfl rfl λk hk=>?_
   by_cases hltk:k<U.length
   ·obtain ⟨z,hz⟩:=gxE (l:=U) (i:=k) hltk;have zm:=hUm z (Qa hz);have hlen:=mV hW6 (k:=k) hx hy';have en:=PC (x:=x) (y:=y) (by rw [<-hUW]; exact hz);have et:=rX sg' (DJ W x y i j k) (x,y,z);rw [<-en] at et;refine go tt [.T,.x (Tc hz),.k (mR xm ym zm),.s (sz:=7) (s7 _)] rfl (by simp [Ul,P9] <;> omega) ?_;exact rd (k+1) (by omega) hltk (by rw [et,en,J4]; simp [Uy]; rfl)
   ·have e:=IY (x:=x) (k:=k) hy' (by rw [<-hUW]; omega);rw [e];refine go tt [.F] rfl (by simp [Ul] <;> omega) ?_;exact rd (j+1) (by omega) hltj rfl
  ·have e:=IJ (x:=x) (j:=j) hx (by rw [<-hV]; omega);rw [e];refine go tt [.F] rfl (by simp [Ul] <;> omega) ?_;exact rd (i+1) (by omega) hlt rfl
 rw [nM (show i=W.length by omega),<-hT];have hiW:¬i<W.length:=hlt;clear hlt;obtain ⟨C3,hC3⟩:=nmE ((Hl W).map (GU sg'));have hC3l:C3.length<=20:=by rw [hC3,Zp]; exact (ZF hW6).1
 rw [<-hC3];refine Wy [.F] rfl ?_;have eC:Uy C3=Uy (C3++(Dz 0 W).map (WJ sg')):=by rw [show Dz 0 W=[] from rfl,X8,Zw]
 rw [eC];refine W5 (S:=Nat) 5 (λL1 i=>(97,.v (.oi i))::(6,.v (.one (.orow 2 7 none)))::L1) (λi=>[.blk 205 (Gy c (Uj l) r1),.blk 189 (ta a),.row false 126 7 (Uy (C3++(Dz i W).map (WJ sg'))),.mpb T,.mpb (Af T (ZA sg' (Dz i W)))]) (λi=>W.length-i) (λi=>i<=W.length) 0 (Qi _) rfl rfl λi hi=>?_
 by_cases hlt:i<W.length
 ·obtain ⟨x,hx⟩:=gxE (l:=W) (i:=i) hlt;have xm:=Qa hx;obtain ⟨V,hV⟩:=nmE (W.drop (i+1));have hVl:V.length=W.length-(i+1):=by rw [hV,Q4]
  have hVm:∀ p∈V,p∈W:=λp hp=>by rw [hV] at hp; exact Qy hp
  have eV:(Uj W).drop (i+1)=Uj V:=by rw [hdr,<-hV]
  have hVr:=Ga V;rw [<-Qck W x i];refine go tt [.T,.x (Tc hx),.r 104 (eI (b:=((i+1:Nat):Int)) (by omega)),.i (i+1),.r 105 (YN eV)] rfl (by simp only [Ul]; (repeat' apply And.intro) <;> first | omega | exact hel) ?_;refine W5 (S:=Nat) 6 (λL1 j=>(107,.v (.oi j))::(6,.v (.one (.orow 2 7 none)))::L1) (λj=>[.blk 205 (Gy c (Uj l) r1),.blk 189 (ta a),.row false 126 7 (Uy (C3++(p4j W x i j).map (WJ sg'))),.mpb T,.mpb (Af T (ZA sg' (p4j W x i j))),.blk 41 (Ur x)]) (λj=>V.length-j) (λj=>j<=V.length) 0 (Qi _) rfl rfl λj hj=>?_
  by_cases hltj:j<V.length
  ·obtain ⟨y,hy⟩:=gxE (l:=V) (i:=j) hltj;have ym:=hVm y (Qa hy);have hy':(W.drop (i+1))[j]? = some y:=by rw [<-hV]; exact hy
   obtain ⟨U,hU⟩:=nmE (V.drop (j+1));have hUl:U.length=V.length-(j+1):=by rw [hU,Q4]
   have hUm:∀ p∈U,p∈W:=λp hp=>by rw [hU] at hp; exact hVm p (Qy hp)
   have hUW:U=(W.drop (i+1)).drop (j+1):=by rw [hU,hV]
   have eU:(Uj W).drop (i+j+2)=Uj U:=by rw [hdr,hU,hV,Jl]; congr 2; omega
   have hUr:=Ga U;rw [<-Qcl W x y i j];refine go tt [.T,.x (Tc hy),.r 116 (eI (b:=((i+j+2:Nat):Int)) (by omega)),.i (i+j+2),.r 117 (YN eU)] rfl (by simp only [Ul]; (repeat' apply And.intro) <;> first | omega | exact hel) ?_;refine W5 (S:=Nat) 7 (λL1 k=>(119,.v (.oi k))::(6,.v (.one (.orow 2 7 none)))::L1) (λk=>[.blk 205 (Gy c (Uj l) r1),.blk 189 (ta a),.row false 126 7 (Uy (C3++(p4k W x y i j k).map (WJ sg'))),.mpb T,.mpb (Af T (ZA sg' (p4k W x y i j k))),.blk 41 (Ur x),.blk 41 (Ur y)]) (λk=>U.length-k) (λk=>k<=U.length) 0 (Qi _) rfl rfl λk hk=>?_
   by_cases hltk:k<U.length
   ·obtain ⟨z,hz⟩:=gxE (l:=U) (i:=k) hltk;have zm:=hUm z (Qa hz);have hz':((W.drop (i+1)).drop (j+1))[k]? = some z:=by rw [<-hUW]; exact hz
    obtain ⟨R,hR⟩:=nmE (U.drop (k+1));have hRl:R.length=U.length-(k+1):=by rw [hR,Q4]
    have hRm:∀ p∈R,p∈W:=λp hp=>by rw [hR] at hp; exact hUm p (Qy hp)
    have hRW:R=((W.drop (i+1)).drop (j+1)).drop (k+1):=by rw [hR,hUW]
    have eR:(Uj W).drop (i+j+k+3)=Uj R:=by rw [hdr,hRW,Jl,Jl]; congr 2; omega
    have hRr:=Ga R;rw [<-Qcn W x y z i j k];refine go tt [.T,.x (Tc hz),.r 130 (eI (b:=((i+j+k+3:Nat):Int)) (by omega)),.i (i+j+k+3),.r 131 (YN eR)] rfl (by simp only [Ul]; (repeat' apply And.intro) <;> first | omega | exact hel) ?_;refine W5 (S:=Nat) 8 (λL1 m=>(133,.v (.oi m))::(6,.v (.one (.orow 2 7 none)))::L1) (λm=>[.blk 205 (Gy c (Uj l) r1),.blk 189 (ta a),.row false 126 7 (Uy (C3++(dG W x y z i j k m).map (WJ sg'))),.mpb T,.mpb (Af T (ZA sg' (dG W x y z i j k m))),.blk 41 (Ur x),.blk 41 (Ur y),.blk 41 (Ur z)]) (λm=>R.length-m) (λm=>m<=R.length) 0 (Qi _) rfl rfl λm hm=>?_
    by_cases hltm:m<R.length
    ·obtain ⟨u,hu⟩:=gxE (l:=R) (i:=m) hltm;have um:=hRm u (Qa hu);have hlen:=Qh3 hW6 (m:=m) hx hy' hz';have en:=Qcm (x:=x) (y:=y) (z:=z) (by rw [<-hRW]; exact hu);have et:=wI sg' T (dG W x y z i j k m) (x,y,z,u);rw [<-en] at et;have cf:=Qlx (F:=Af T (ZA sg' (dG W x y z i j k m))) (s:=(CL sg' x y z u).want) (n0:=x.id) (n1:=y.id) (n2:=z.id) (n3:=u.id) hTI (hgb _);refine go tt [.T,.x (Tc hu),.k (mC xm ym zm um),.s (sz:=7) (s7 _),.c [4,3] cf] rfl (by simp [Ul,P9] <;> omega) ?_;exact rd (m+1) (by omega) hltm (by rw [et,en,J4,<-Za]; simp [Uy]; rfl)
    ·have e:=Qh2 (x:=x) (y:=y) (m:=m) hz' (by rw [<-hRW]; omega);rw [e];refine go tt [.F] rfl (by simp [Ul] <;> omega) ?_;exact rd (k+1) (by omega) hltk rfl
   ·have e:=Qh1 (x:=x) (k:=k) hy' (by rw [<-hUW]; omega);rw [e];refine go tt [.F] rfl (by simp [Ul] <;> omega) ?_;exact rd (j+1) (by omega) hltj rfl
  ·have e:=Qh0 (x:=x) (j:=j) hx (by rw [<-hV]; omega);rw [e];refine go tt [.F] rfl (by simp [Ul] <;> omega) ?_;exact rd (i+1) (by omega) hlt rfl
 rw [Qii (show i=W.length by omega),<-hG];obtain ⟨C4,hC4⟩:=nmE (C3++(Ay W).map (WJ sg'));rw [<-hC4];refine Wy [.F] rfl ?_;refine ozM 0 13 101 3 rfl rfl ?_;have eT:([]:Uf)=JL ((Cx 0 W).filter (AH T G)):=rfl;rw [eT];refine W5 (S:=Nat) 6 (λL1 i=>(174,.v (.oi i))::L1) (λi=>[.blk 205 [.bool true,pl c.now.p,sg c.now.lo.num,mg c.now.lo.num,sg (c.now.lo.den:Int),mg (c.now.lo.den:Int),sg c.now.hi.num,mg c.now.hi.num,sg (c.now.hi.den:Int),mg (c.now.hi.den:Int),.row (Nu c.l),.int .i64 c.ev,.row (Uj l),.orow 5 3 none],.blk 189 (ta a),.row false 126 7 (Uy C4),.mpb T,.mpb G,.row false 101 3 (JL ((Cx i W).filter (AH T G)))]) (λi=>W.length-i) (λi=>i<=W.length) 0 (Qi _) rfl rfl λi hi=>?_
 by_cases hlt:i<W.length
 ·obtain ⟨x,hx⟩:=gxE (l:=W) (i:=i) hlt;obtain ⟨V,hV⟩:=nmE (W.drop (i+1));have hVl:V.length=W.length-(i+1):=by rw [hV,Q4]
  have eV:(Uj W).drop (i+1)=Uj V:=by rw [hdr,<-hV]
  have hVr:=Ga V;rw [<-PN W x i];refine go tt [.T,.x (Tc hx),.r 181 (eI (b:=((i+1:Nat):Int)) (by omega)),.i (i+1),.r 182 (YN eV)] rfl (by simp only [Ul]; (repeat' apply And.intro) <;> first | omega | exact hel) ?_;refine W5 (S:=Nat) 7 (λL1 j=>(184,.v (.oi j))::L1) (λj=>[.blk 205 [.bool true,pl c.now.p,sg c.now.lo.num,mg c.now.lo.num,sg (c.now.lo.den:Int),mg (c.now.lo.den:Int),sg c.now.hi.num,mg c.now.hi.num,sg (c.now.hi.den:Int),mg (c.now.hi.den:Int),.row (Nu c.l),.int .i64 c.ev,.row (Uj l),.orow 5 3 none],.blk 189 (ta a),.row false 126 7 (Uy C4),.mpb T,.mpb G,.row false 101 3 (JL ((lH W x i j).filter (AH T G))),.blk 41 (Ur x)]) (λj=>V.length-j) (λj=>j<=V.length) 0 (Qi _) rfl rfl λj hj=>?_
  by_cases hltj:j<V.length
  ·obtain ⟨y,hy⟩:=gxE (l:=V) (i:=j) hltj;have hy':(W.drop (i+1))[j]? = some y:=by rw [<-hV]; exact hy
   obtain ⟨U,hU⟩:=nmE (V.drop (j+1));have hUl:U.length=V.length-(j+1):=by rw [hU,Q4]
   have hUW:U=(W.drop (i+1)).drop (j+1):=by rw [hU,hV]
   have eU:(Uj W).drop (i+j+2)=Uj U:=by rw [hdr,hU,hV,Jl]; congr 2; omega
   have hUr:=Ga U;rw [<-PD W x y i j];refine go tt [.T,.x (Tc hy),.r 193 (eI (b:=((i+j+2:Nat):Int)) (by omega)),.i (i+j+2),.r 194 (YN eU)] rfl (by simp only [Ul]; (repeat' apply And.intro) <;> first | omega | exact hel) ?_;refine W5 (S:=Nat) 8 (λL1 k=>(196,.v (.oi k))::L1) (λk=>[.blk 205 [.bool true,pl c.now.p,sg c.now.lo.num,mg c.now.lo.num,sg (c.now.lo.den:Int),mg (c.now.lo.den:Int),sg c.now.hi.num,mg c.now.hi.num,sg (c.now.hi.den:Int),mg (c.now.hi.den:Int),.row (Nu c.l),.int .i64 c.ev,.row (Uj l),.orow 5 3 none],.blk 189 (ta a),.row false 126 7 (Uy C4),.mpb T,.mpb G,.row false 101 3 (JL ((DJ W x y i j k).filter (AH T G))),.blk 41 (Ur x),.blk 41 (Ur y)]) (λk=>U.length-k) (λk=>k<=U.length) 0 (Qi _) rfl rfl λk hk=>?_
   by_cases hltk:k<U.length
   ·obtain ⟨z,hz⟩:=gxE (l:=U) (i:=k) hltk;have hlen:=mV hW6 (k:=k) hx hy';have en:=PC (x:=x) (y:=y) (by rw [<-hUW]; exact hz);have hfl:=Yp (AH T G) (DJ W x y i j k);have htl:=vH ((DJ W x y i j k).filter (AH T G));by_cases h1:I5 T [x.id,y.id,z.id]≠0
    ·by_cases h2:RP G [x.id,y.id,z.id]=true
     ·have ef:AH T G (x,y,z)=false:=by unfold AH uW; simp [h2]
      have eF:=Qaq (ps:=DJ W x y i j k) ef;rw [<-en] at eF;refine go tt [.T,.x (Tc hz),.g 211 true (decide_eq_true h1),.f (by rw [h2]; rfl)] rfl (by simp only [Ul]; (repeat' apply And.intro) <;> first | exact hTm | exact hGB | omega | (simp only [Q7,Jq]; omega)) ?_;exact rd (k+1) (by omega) hltk (by rw [eF]; rfl)
     ·have h2:RP G [x.id,y.id,z.id]=false:=by simpa using h2
      have ef:AH T G (x,y,z)=true:=by unfold AH uW; simp [h2,h1]
      have eF:=Qmj (ps:=DJ W x y i j k) ef;rw [<-en] at eF;refine go tt [.T,.x (Tc hz),.g 211 true (decide_eq_true h1),.t (by rw [h2]; rfl),.s (sz:=3) (s3 (x,y,z))] rfl (by simp only [Ul]; (repeat' apply And.intro) <;> first | exact hTm | exact hGB | omega | (simp only [Q7,Jq]; omega)) ?_;exact rd (k+1) (by omega) hltk (by rw [eF]; simp [JL]; rfl)
    ·have ef:AH T G (x,y,z)=false:=by unfold AH uW; simp [h1]
     have eF:=Qaq (ps:=DJ W x y i j k) ef;rw [<-en] at eF;refine go tt [.T,.x (Tc hz),.g 211 false (decide_eq_false h1),.f rfl] rfl (by simp only [Ul]; (repeat' apply And.intro) <;> first | exact hTm | exact hGB | omega | (simp only [Q7,Jq]; omega)) ?_;exact rd (k+1) (by omega) hltk (by rw [eF]; rfl)
   ·have e:=IY (x:=x) (k:=k) hy' (by rw [<-hUW]; omega);rw [e];refine go tt [.F] rfl (by simp [Ul] <;> omega) ?_;exact rd (j+1) (by omega) hltj rfl
  ·have e:=IJ (x:=x) (j:=j) hx (by rw [<-hV]; omega);rw [e];refine go tt [.F] rfl (by simp [Ul] <;> omega) ?_;exact rd (i+1) (by omega) hlt rfl
 rw [nM (show i=W.length by omega)];rw [hC4,hC3];exact W4 [2,5] [0] [.F] rfl
theorem Qoy {T:Nat} {t:Rat} {Bc:Tm->List Ct} {Br:Tm->Uf} {r0:Uf} (ht:Qs 1640000 t) (hB:BuildOk Bc)
 (hb:∀ a c r1,Va a->CrOk c->Uo prog 126 [.one (.ow 0 0),.agg (ta a)] [.blk T (Gy c r0 r1)] [.one (.row (Uy (Bc a)))] [.blk T (Gy c r0 (Br a))])
 {K:Nat} {c c':Cr} {r1 r1':Uf} {n:Int} (hc:CrOk c) (hev:0<=c.ev/\c.ev+K<=1000000000000000000) (h:Uz c.now t<=0) (hg:YQ Bc Br t K c r1 0=some (c',r1',n)) :
 Uo prog 372 [.one (.ow 0 0),.agg (rl t),.one (.ofn 126 [.ow 0 0] [])] [.blk T (Gy c r0 r1)] [.oi n,.oi 0] [.blk T (Gy c' r0 r1')]:=by
 have qt:Qb t:=ht.mono (by decide);have c1:=Be hc.n.tb qt;refine Fl func372 rfl ?_;refine Wy [.c [0] (Ib hc.n),.k c1,.f (by simpa using h)] rfl ?_;refine W5 (S:=Nat×Cr×Uf×Int) 2 (λL1 s=>(8,.v (.oi s.2.2.2))::L1) (λs=>[.blk T (Gy s.2.1 r0 s.2.2.1),.blk 43 (rl t)]) (λs=>s.1) (λs=>CrOk s.2.1/\(0<=s.2.1.ev/\s.2.1.ev+s.1<=1000000000000000000)/\(0<=s.2.2.2/\s.2.2.2+s.1<=1000000000000000000)/\YQ Bc Br t s.1 s.2.1 s.2.2.1 s.2.2.2=some (c',r1',n)) (K,c,r1,0) ⟨hc,hev,⟨Int.le_refl 0,by dsimp only; omega⟩,hg⟩ rfl rfl λ⟨k,x,r,m⟩ ⟨j1,j2,j3,j4⟩=>?_
 dsimp only at j1 j2 j3 j4 ⊢;cases k with
 | zero=>cases j4
 |
  succ k =>
  simp only [YQ] at j4;obtain ⟨ws,w1,j4⟩:=Qc.1 j4;obtain ⟨o,o1,j4⟩:=Qc.1 j4;have cn:=GM (T:=T) (r0:=r0) (r1:=r) j1 w1 o1;have ca:=XZ (Um t.num) (Um (t.den:Int)) (Qd ht.1 (by decide)) (Qd ht.2 (by decide)) (by rw [Sl]; exact ht.mono (by decide));rw [Sl] at ca;cases o with
  |
   none =>
   injection j4 with j4; injection j4 with e1 j4; injection j4 with e2 e3;subst e1; subst e2; subst e3;exact W4 [] [0] [.c [0] cn,.g 25 true rfl,.t rfl,.k ca] rfl
  |
   some a =>
   have ha:=PP j1 w1 o1;dsimp only at j4;have cc:=Be ha.tb qt;by_cases h0:0<Uz a t
   ·rw [if_pos h0] at j4;injection j4 with j4; injection j4 with e1 j4; injection j4 with e2 e3;subst e1; subst e2; subst e3;exact W4 [] [0] [.c [0] cn,.g 25 false rfl,.k cc,.t (by simpa using h0),.k ca] rfl
   ·rw [if_neg h0] at j4;obtain ⟨w2,l1,j4⟩:=Qc.1 j4;have j1':=Dv j1 w1;have cl:=Tk (b:=a) (l:=[]) ha.tb (λt ht=>by cases ht) (by decide) rfl;have cb:=hb a { x with l:=ws } r ha j1';have cy:=YU (T:=T) (r0:=r0) (r1:=Br a) j1' ha (hB.p a ha) (hB.n a ha) l1;have hf:decide (0<Uz a t)=false:=by simpa using h0
    refine Wz [.c [0] cn,.g 25 false rfl,.k cc,.f hf,.k cl,.c [0] cb,.c [0] cy] rfl ?_;exact rd (k,⟨a,w2,x.ev+1⟩,Br a,m+1) (by dsimp only; omega) ⟨lay_ok _ j1' ha (hB.p a ha) (hB.n a ha) l1,by dsimp only; omega,by dsimp only; omega,j4⟩ rfl
theorem Qlg {t:Rat} {l:List Pt} {K:Nat} {c c':Cr} {r1 r1':Uf} {n:Int} (ht:Qs 1640000 t) (hl:∀ p∈l,Sc p.c) (hn:l.length≤6) (hc:CrOk c) (hev:0≤c.ev/\c.ev+K≤1000000000000000000) (h:Uz c.now t≤0) (hg:YQ (vE l) (kL l) t K c r1 0=some (c',r1',n)) :
 Uo prog 408 [.one (.ow 0 0),.agg (rl t)] [.blk 205 (Gy c (Uj l) r1)] [.oi n,.oi 0] [.blk 205 (Gy c' (Uj l) r1')]:=by
 have cg:=Qoy (T:=205) (r0:=Uj l) ht (kK hl hn) (λa c r1 ha _=>BZ (c:=c) (r1:=r1) hl hn ha) hc hev h hg;refine Fl func408 rfl ?_;exact W4 [] [0] [.k (M5 (ht.mono (by decide))),.c [0] cg] rfl
theorem wQ {c:Cr} {r0:Uf} {ts:List P3} (ht:ts.length<=1000):Uo prog 90 [.one (.ow 0 0)] [.blk 205 (Gy c r0 (JL ts))] [.one (.row (JL ts))] [.blk 205 (Gy c r0 (JL ts))]:=by
 have hl:=vH ts;have h3:∀ y∈JL ts,y.length=3:=λy hy=>by obtain ⟨m,_,rfl⟩:=Zf.1 hy; rfl
 refine Fl func90 rfl ?_;exact W4 [1] [0] [.s (sz:=3) h3] rfl (by simp [Ul] <;> omega)

theorem RB {c:Cr} {l l':List Pt} {r1:Uf} {ws:List Wt} (hc:CrOk c) (hl:∀ p∈l',Sc p.c) (hn:l'.length≤6) (h:H5 c.l c.now (U6 (vE l' c.now))=some ws) :
 Uo prog 412 [.one (.ow 0 0),.agg [pts l'],.oi 0] [.blk 205 (Gy c (Uj l) r1)] [.oi 0] [.blk 205 (Gy ⟨c.now,ws,c.ev⟩ (Uj l') (kL l' c.now))]:=by
 have hB:=kK hl hn;have cn:=Ib (T:=205) (c:=c) (r0:=Uj l') (r1:=r1) hc.n;have cb:=BZ (c:=c) (r1:=r1) hl hn hc.n;have cg:=QN (T:=205) (r0:=Uj l') (r1:=kL l' c.now) hc hc.n (Aa hc.n) (Ju 0) (hB.p _ hc.n) (hB.n _ hc.n) h;refine Fl func412 rfl ?_;exact W4 [] [0] [.f rfl,.c [0] cn,.c [0] cb,.c [0] cg] rfl
theorem Qfn {lx ly:Uf} {px py:W9} {x y:LV} {d id:Int} {c:Cr} {l:List Pt} {r1:Uf} {ws:List Wt} (hx:IsInts lx px) (hy:IsInts ly py) (hd:Fu x y d) (hk:Cs 4294967294 1073741824 (Crv.mk px py d)) (hll:l.length<=900)
 (he:JH l ⟨Crv.norm (Crv.mk px py d),id⟩=0) (hc:CrOk c) (hl:∀ p∈put l ⟨Crv.norm (Crv.mk px py d),id⟩,Sc p.c) (hn:(put l ⟨Crv.norm (Crv.mk px py d),id⟩).length≤6) (h:H5 c.l c.now (U6 (vE (put l ⟨Crv.norm (Crv.mk px py d),id⟩) c.now))=some ws) :
 Uo prog 410 [.one (.ow 0 0),.agg [.row lx,.row ly,x,y,.int .i64 id]] [.blk 205 (Gy c (Uj l) r1)] [.oi 0] [.blk 205 (Gy ⟨c.now,ws,c.ev⟩ (Uj (put l ⟨Crv.norm (Crv.mk px py d),id⟩)) (kL (put l ⟨Crv.norm (Crv.mk px py d),id⟩) c.now))]:=by
 have cp:=qP (l:=l) (id:=id) hx hy hd hk (by omega);rw [if_pos he,he] at cp;have cw:=RB (l:=l) (r1:=r1) hc hl hn h;refine Fl func410 rfl ?_;obtain ⟨b,l',rfl,rfl,_⟩:=hd;exact W4 [] [0] [.k cp,.c [0] cw] rfl
theorem eP {lx ly:Uf} {px py:W9} {x y:LV} {d id:Int} {c:Cr} {l l':List Pt} {r1:Uf} {ws:List Wt} (hx:IsInts lx px) (hy:IsInts ly py) (hd:Fu x y d) (hk:Cs 4294967294 1073741824 (Crv.mk px py d)) (hll:l.length<=6) (h:has l id=true) (hc:CrOk c)
 (hl':l'=l.set (Hb l id) (Pt.mk (Crv.norm (Crv.mk px py d)) id)) (hs:∀ p∈l',Sc p.c) (hw:H5 c.l c.now (U6 (vE l' c.now))=some ws) :
 Uo prog 411 [.one (.ow 0 0),.agg [.row lx,.row ly,x,y,.int .i64 id]] [.blk 205 (Gy c (Uj l) r1)] [.oi 0] [.blk 205 (Gy ⟨c.now,ws,c.ev⟩ (Uj l') (kL l' c.now))]:=by
 have ct1:=YR (l:=l) hx hy hd hk (by omega) h;rw [<-hl'] at ct1;have cw:=RB (c:=c) (l:=l) (l':=l') (r1:=r1) hc hs (by rw [hl',Xd]; omega) hw;obtain ⟨b,r,rfl,rfl,_⟩:=hd;refine Fl func411 rfl ?_;exact W4 [] [0] [.k ct1,.c [0] cw] rfl
theorem eS {id:Int} {c:Cr} {l l':List Pt} {r1:Uf} {ws:List Wt} (hll:l.length<=6) (h:has l id=true) (hc:CrOk c)
 (hl':l'=l.take (Hb l id)++l.drop (Hb l id+1)) (hs:∀ p∈l',Sc p.c) (hw:H5 c.l c.now (U6 (vE l' c.now))=some ws) :
 Uo prog 409 [.one (.ow 0 0),.oi id] [.blk 205 (Gy c (Uj l) r1)] [.oi 0] [.blk 205 (Gy ⟨c.now,ws,c.ev⟩ (Uj l') (kL l' c.now))]:=by
 have ct1:=YG (l:=l) (id:=id) (by omega) h;rw [<-hl'] at ct1;have cw:=RB (c:=c) (l:=l) (l':=l') (r1:=r1) hc hs (by rw [hl',Qu,Qp,Q4]; omega) hw;refine Fl func409 rfl ?_;exact W4 [] [0] [.k ct1,.c [0] cw] rfl
theorem Qf0 {lx ly:Uf} {px py:W9} {x y:LV} {d id:Int} {c:Cr} {l l':List Pt} {r1:Uf} {ws:List Wt} (hx:IsInts lx px) (hy:IsInts ly py) (hd:Fu x y d) (hk:Cs 4294967294 1073741824 (Crv.mk px py d)) (hll:l.length<=900) (h:has l id=true) (hc:CrOk c)
 (hl':l'=l.set (Hb l id) (Pt.mk (Crv.norm (Crv.mk px py d)) id)) (hs:∀ p∈l',Sc p.c) (hw:H5 c.l c.now (U6 (ZC l' c.now))=some ws) :
 Uo prog 370 [.one (.ow 0 0),.agg [.row lx,.row ly,x,y,.int .i64 id]] [.blk 196 (Gy c (Uj l) r1)] [.oi 0] [.blk 196 (Gy ⟨c.now,ws,c.ev⟩ (Uj l') (NA l' c.now))]:=by
 have ct1:=YR (l:=l) hx hy hd hk (by omega) h;rw [<-hl'] at ct1;have cw:=EX (c:=c) (l:=l) (l':=l') (r1:=r1) hc hs (by rw [hl',Xd]; omega) hw;obtain ⟨b,r,rfl,rfl,_⟩:=hd;refine Fl func370 rfl ?_;exact W4 [] [0] [.k ct1,.c [0] cw] rfl
theorem Qfy {id:Int} {c:Cr} {l l':List Pt} {r1:Uf} {ws:List Wt} (hll:l.length<=900) (h:has l id=true) (hc:CrOk c)
 (hl':l'=l.take (Hb l id)++l.drop (Hb l id+1)) (hs:∀ p∈l',Sc p.c) (hw:H5 c.l c.now (U6 (ZC l' c.now))=some ws) :
 Uo prog 367 [.one (.ow 0 0),.oi id] [.blk 196 (Gy c (Uj l) r1)] [.oi 0] [.blk 196 (Gy ⟨c.now,ws,c.ev⟩ (Uj l') (NA l' c.now))]:=by
 have ct1:=YG (l:=l) (id:=id) (by omega) h;rw [<-hl'] at ct1;have cw:=EX (c:=c) (l:=l) (l':=l') (r1:=r1) hc hs (by rw [hl',Qu,Qp,Q4]; omega) hw;refine Fl func367 rfl ?_;exact W4 [] [0] [.k ct1,.c [0] cw] rfl
theorem Qoz {T:Nat} {t:Rat} {Bc:Tm->List Ct} {Br:Tm->Uf} {r0:Uf} (ht:Qs 1640000 t) (hB:BuildOk Bc)
 (hb:∀ a c r1,Va a->CrOk c->Uo prog 124 [.one (.ow 0 0),.agg (ta a)] [.blk T (Gy c r0 r1)] [.one (.row (Uy (Bc a)))] [.blk T (Gy c r0 (Br a))])
 {K:Nat} {c c':Cr} {r1 r1':Uf} {n:Int} (hc:CrOk c) (hev:0<=c.ev/\c.ev+K<=1000000000000000000) (h:Uz c.now t<=0) (hg:YQ Bc Br t K c r1 0=some (c',r1',n)) :
 Uo prog 372 [.one (.ow 0 0),.agg (rl t),.one (.ofn 124 [.ow 0 0] [])] [.blk T (Gy c r0 r1)] [.oi n,.oi 0] [.blk T (Gy c' r0 r1')]:=by
 have qt:Qb t:=ht.mono (by decide);have c1:=Be hc.n.tb qt;refine Fl func372 rfl ?_;refine Wy [.c [0] (Ib hc.n),.k c1,.f (by simpa using h)] rfl ?_;refine W5 (S:=Nat×Cr×Uf×Int) 2 (λL1 s=>(8,.v (.oi s.2.2.2))::L1) (λs=>[.blk T (Gy s.2.1 r0 s.2.2.1),.blk 43 (rl t)]) (λs=>s.1) (λs=>CrOk s.2.1/\(0<=s.2.1.ev/\s.2.1.ev+s.1<=1000000000000000000)/\(0<=s.2.2.2/\s.2.2.2+s.1<=1000000000000000000)/\YQ Bc Br t s.1 s.2.1 s.2.2.1 s.2.2.2=some (c',r1',n)) (K,c,r1,0) ⟨hc,hev,⟨Int.le_refl 0,by dsimp only; omega⟩,hg⟩ rfl rfl λ⟨k,x,r,m⟩ ⟨j1,j2,j3,j4⟩=>?_
 dsimp only at j1 j2 j3 j4 ⊢;cases k with
 | zero=>cases j4
 |
  succ k =>
  simp only [YQ] at j4;obtain ⟨ws,w1,j4⟩:=Qc.1 j4;obtain ⟨o,o1,j4⟩:=Qc.1 j4;have cn:=GM (T:=T) (r0:=r0) (r1:=r) j1 w1 o1;have ca:=XZ (Um t.num) (Um (t.den:Int)) (Qd ht.1 (by decide)) (Qd ht.2 (by decide)) (by rw [Sl]; exact ht.mono (by decide));rw [Sl] at ca;cases o with
  |
   none =>
   injection j4 with j4; injection j4 with e1 j4; injection j4 with e2 e3;subst e1; subst e2; subst e3;exact W4 [] [0] [.c [0] cn,.g 25 true rfl,.t rfl,.k ca] rfl
  |
   some a =>
   have ha:=PP j1 w1 o1;dsimp only at j4;have cc:=Be ha.tb qt;by_cases h0:0<Uz a t
   ·rw [if_pos h0] at j4;injection j4 with j4; injection j4 with e1 j4; injection j4 with e2 e3;subst e1; subst e2; subst e3;exact W4 [] [0] [.c [0] cn,.g 25 false rfl,.k cc,.t (by simpa using h0),.k ca] rfl
   ·rw [if_neg h0] at j4;obtain ⟨w2,l1,j4⟩:=Qc.1 j4;have j1':=Dv j1 w1;have cl:=Tk (b:=a) (l:=[]) ha.tb (λt ht=>by cases ht) (by decide) rfl;have cb:=hb a { x with l:=ws } r ha j1';have cy:=YU (T:=T) (r0:=r0) (r1:=Br a) j1' ha (hB.p a ha) (hB.n a ha) l1;have hf:decide (0<Uz a t)=false:=by simpa using h0
    refine Wz [.c [0] cn,.g 25 false rfl,.k cc,.f hf,.k cl,.c [0] cb,.c [0] cy] rfl ?_;exact rd (k,⟨a,w2,x.ev+1⟩,Br a,m+1) (by dsimp only; omega) ⟨lay_ok _ j1' ha (hB.p a ha) (hB.n a ha) l1,by dsimp only; omega,by dsimp only; omega,j4⟩ rfl
def Qou (l:List Pt) (a:Tm):Cr:=⟨a,(U6 (NE l a)).map fresh,0⟩
theorem Qli {t:Rat} {l:List Pt} {K:Nat} {c c':Cr} {r1 r1':Uf} {n:Int} (ht:Qs 1640000 t) (hl:∀ p∈l,Sc p.c) (hn:l.length≤10) (hc:CrOk c) (hev:0≤c.ev/\c.ev+K≤1000000000000000000) (h:Uz c.now t≤0) (hg:YQ (NE l) (bK l) t K c r1 0=some (c',r1',n)) :
 Uo prog 398 [.one (.ow 0 0),.agg (rl t)] [.blk 201 (Gy c (Uj l) r1)] [.oi n,.oi 0] [.blk 201 (Gy c' (Uj l) r1')]:=by
 have cg:=Qoz (T:=201) (r0:=Uj l) ht (kW hl hn) (λa c r1 ha _=>BX (c:=c) (r1:=r1) hl hn ha) hc hev h hg;refine Fl func398 rfl ?_;exact W4 [] [0] [.k (M5 (ht.mono (by decide))),.c [0] cg] rfl
theorem Qlj {c:Cr} {l s:List Pt} (hs:s.length<=1000000):Uo prog 89 [.one (.ow 0 0)] [.blk 201 (Gy c (Uj l) (Uj s))] [.one (ids (s.map (·.id)))] [.blk 201 (Gy c (Uj l) (Uj s))]:=by
 have hcl:=Ga s;refine Fl func89 rfl ?_;refine Wy [.o 3 3 1] rfl ?_;refine W5 (S:=Nat) 2 (λL1 i=>(11,.v (.oi i))::(3,.v (.one (.orow 1 1 none)))::L1) (λi=>[.blk 201 (Gy c (Uj l) (Uj s)),.row false 3 1 (((s.take i).map (·.id)).map λ(z:Int)=>[LV.int .i64 z])]) (λi=>s.length-i) (λi=>i<=s.length) 0 (Qi _) rfl rfl λi hi=>?_
 by_cases hlt:i<s.length
 ·obtain ⟨p,hp⟩:=gxE (l:=s) (i:=i) hlt;have hg:(((s.take (i+1)).map (·.id)).map λ(z:Int)=>[LV.int .i64 z])=(((s.take i).map (·.id)).map λ(z:Int)=>[LV.int .i64 z])++[[.int .i64 p.id]]:=by
   rw [Z5,hp]; simp
  refine Wz [.t (by simp [hcl]; omega),.x (Td hp),.s (sz:=1) (l:=[[.int .i64 p.id]]) (λc hc=>by rw [Ql.1 hc]; rfl)] rfl ?_;exact rd (i+1) (by omega) hlt (by rw [hg]; rfl)
 ·obtain rfl:i=s.length:=by omega
  rw [Q5];exact W4 [1] [0] [.f (by simp [hcl])] rfl
abbrev SZ (k:Nat) (np nd:Int) (M:List Pt) (q:Rat) (s t h p d:Cr):Ug:=[.blk 88 (enR k q),tB np nd M,bS s M q,bT t M q,bH h M q,bP p M q,bD d M q]
abbrev Qrm (k:Nat):Ue:=[.oif 82 (k+2) 0,.oif 83 (k+3) 0,.oif 84 (k+4) 0,.oif 85 (k+5) 0,.oif 86 (k+6) 0]
theorem qN {np nd:Int} {Mt M:List Pt} {q:Rat} {s t h p d:Cr}:Uo prog 43 [.one (.ow 0 0)] [.blk 88 (enR 0 q),tB np nd Mt,bS s M q,bT t M q,bH h M q,bP p M q,bD d M q] [.agg (Qrm 0)] [.blk 88 (enR 0 q),tB np nd Mt,bS s M q,bT t M q,bH h M q,bP p M q,bD d M q]:=by
 refine Fl func43 rfl ?_;exact W4 [] [0,1,2,3,4,5,6] [] rfl
abbrev LQ (k i:Nat) (a b:OB):OB:=match Nat.blt k i with
 | true=>b
 | false=>a
theorem aZ {np nd id:Int} {M M':List Pt} {q:Rat} {s t h p d s' t' h' p' d':Cr} {lx ly l3:Uf} {bn:Bool} {e1 e2 e3 e4 e5:Int}
 (ht:Uo prog 76 [.one (.ow 0 0),.agg [.row lx,.row ly,.bool bn,.row l3,.int .i64 id]] [tB np nd M] [.oi 0] [tB np nd M'])
 (h1:Uo prog 369 [.one (.ow 0 0),.agg [.row lx,.row ly,.bool bn,.row l3,.int .i64 id]] [bS s M q] [.oi e1] [bS s' M' q])
 (h2:Uo prog 395 [.one (.ow 0 0),.agg [.row lx,.row ly,.bool bn,.row l3,.int .i64 id]] [bT t M q] [.oi e2] [bT t' M' q])
 (h3:Uo prog 400 [.one (.ow 0 0),.agg [.row lx,.row ly,.bool bn,.row l3,.int .i64 id]] [bH h M q] [.oi e3] [bH h' M' q])
 (h4:Uo prog 405 [.one (.ow 0 0),.agg [.row lx,.row ly,.bool bn,.row l3,.int .i64 id]] [bP p M q] [.oi e4] [bP p' M' q])
 (h5:Uo prog 410 [.one (.ow 0 0),.agg [.row lx,.row ly,.bool bn,.row l3,.int .i64 id]] [bD d M q] [.oi e5] [bD d' M' q]) :
 Uo prog 27 [.one (.ow 0 0),.oi id,.agg [.row lx,.row ly,.bool bn,.row l3]] (SZ 0 np nd M q s t h p d) [.oi 0] (SZ 0 np nd M' q s' t' h' p' d'):=by
 refine Fl func27 rfl ?_;refine Wy [.c [1] ht,.f rfl,.c Ui qN] rfl ?_;refine W5 (S:=Nat) 9 (λL1 i=>(25,.v (.oi i))::L1) (λi=>[.blk 88 (enR 0 q),tB np nd M',LQ 0 i (bS s M q) (bS s' M' q),LQ 1 i (bT t M q) (bT t' M' q),LQ 2 i (bH h M q) (bH h' M' q),LQ 3 i (bP p M q) (bP p' M' q),LQ 4 i (bD d M q) (bD d' M' q),.blk 39 [.row lx,.row ly,.bool bn,.row l3],.blk 41 [.row lx,.row ly,.bool bn,.row l3,.int .i64 id]]) (λi=>5-i) (λi=>i<=5) 0 (by decide) rfl rfl λi hi=>?_
 rcases (show i=0\/i=1\/i=2\/i=3\/i=4\/i=5 by omega) with rfl | rfl | rfl | rfl | rfl | rfl
 ·exact go tt [.t rfl,.i 0,.c [2] h1] rfl (by simp [Ul]) (rd 1 (by omega) (by omega) rfl)
 ·exact go tt [.t rfl,.i 1,.c [3] h2] rfl (by simp [Ul]) (rd 2 (by omega) (by omega) rfl)
 ·exact go tt [.t rfl,.i 2,.c [4] h3] rfl (by simp [Ul]) (rd 3 (by omega) (by omega) rfl)
 ·exact go tt [.t rfl,.i 3,.c [5] h4] rfl (by simp [Ul]) (rd 4 (by omega) (by omega) rfl)
 ·exact go tt [.t rfl,.i 4,.c [6] h5] rfl (by simp [Ul]) (rd 5 (by omega) (by omega) rfl)
 ·exact W4 [] [0,1,2,3,4,5,6] [.f rfl] rfl
theorem bN {np nd id:Int} {M:List Pt} {q:Rat} {s t h p d:Cr} {lx ly l3:Uf} {bn:Bool} {e:Int} (he:e≠0)
 (ht:Uo prog 76 [.one (.ow 0 0),.agg [.row lx,.row ly,.bool bn,.row l3,.int .i64 id]] [tB np nd M] [.oi e] [tB np nd M]) :
 Uo prog 27 [.one (.ow 0 0),.oi id,.agg [.row lx,.row ly,.bool bn,.row l3]] (SZ 0 np nd M q s t h p d) [.oi e] (SZ 0 np nd M q s t h p d):=by
 refine Fl func27 rfl ?_;exact W4 [] [0,1,2,3,4,5,6] [.c [1] ht,.t (by simpa using he)] rfl
theorem aH {np nd id:Int} {M M':List Pt} {q:Rat} {s t h p d s' t' h' p' d':Cr} {lx ly l3:Uf} {bn:Bool} {e1 e2 e3 e4 e5:Int}
 (ht:Uo prog 86 [.one (.ow 0 0),.agg [.row lx,.row ly,.bool bn,.row l3,.int .i64 id]] [tB np nd M] [.oi 0] [tB np nd M'])
 (h1:Uo prog 370 [.one (.ow 0 0),.agg [.row lx,.row ly,.bool bn,.row l3,.int .i64 id]] [bS s M q] [.oi e1] [bS s' M' q])
 (h2:Uo prog 396 [.one (.ow 0 0),.agg [.row lx,.row ly,.bool bn,.row l3,.int .i64 id]] [bT t M q] [.oi e2] [bT t' M' q])
 (h3:Uo prog 401 [.one (.ow 0 0),.agg [.row lx,.row ly,.bool bn,.row l3,.int .i64 id]] [bH h M q] [.oi e3] [bH h' M' q])
 (h4:Uo prog 406 [.one (.ow 0 0),.agg [.row lx,.row ly,.bool bn,.row l3,.int .i64 id]] [bP p M q] [.oi e4] [bP p' M' q])
 (h5:Uo prog 411 [.one (.ow 0 0),.agg [.row lx,.row ly,.bool bn,.row l3,.int .i64 id]] [bD d M q] [.oi e5] [bD d' M' q]) :
 Uo prog 36 [.one (.ow 0 0),.oi id,.agg [.row lx,.row ly,.bool bn,.row l3]] (SZ 0 np nd M q s t h p d) [.oi 0] (SZ 0 np nd M' q s' t' h' p' d'):=by
 refine Fl func36 rfl ?_;refine Wy [.c [1] ht,.f rfl,.c Ui qN] rfl ?_;refine W5 (S:=Nat) 9 (λL1 i=>(25,.v (.oi i))::L1) (λi=>[.blk 88 (enR 0 q),tB np nd M',LQ 0 i (bS s M q) (bS s' M' q),LQ 1 i (bT t M q) (bT t' M' q),LQ 2 i (bH h M q) (bH h' M' q),LQ 3 i (bP p M q) (bP p' M' q),LQ 4 i (bD d M q) (bD d' M' q),.blk 39 [.row lx,.row ly,.bool bn,.row l3],.blk 41 [.row lx,.row ly,.bool bn,.row l3,.int .i64 id]]) (λi=>5-i) (λi=>i<=5) 0 (by decide) rfl rfl λi hi=>?_
 rcases (show i=0\/i=1\/i=2\/i=3\/i=4\/i=5 by omega) with rfl | rfl | rfl | rfl | rfl | rfl
 ·exact go tt [.t rfl,.i 0,.c [2] h1] rfl (by simp [Ul]) (rd 1 (by omega) (by omega) rfl)
 ·exact go tt [.t rfl,.i 1,.c [3] h2] rfl (by simp [Ul]) (rd 2 (by omega) (by omega) rfl)
 ·exact go tt [.t rfl,.i 2,.c [4] h3] rfl (by simp [Ul]) (rd 3 (by omega) (by omega) rfl)
 ·exact go tt [.t rfl,.i 3,.c [5] h4] rfl (by simp [Ul]) (rd 4 (by omega) (by omega) rfl)
 ·exact go tt [.t rfl,.i 4,.c [6] h5] rfl (by simp [Ul]) (rd 5 (by omega) (by omega) rfl)
 ·exact W4 [] [0,1,2,3,4,5,6] [.f rfl] rfl
theorem bC {np nd id:Int} {M:List Pt} {q:Rat} {s t h p d:Cr} {lx ly l3:Uf} {bn:Bool} {e:Int} (he:e≠0)
 (ht:Uo prog 86 [.one (.ow 0 0),.agg [.row lx,.row ly,.bool bn,.row l3,.int .i64 id]] [tB np nd M] [.oi e] [tB np nd M]) :
 Uo prog 36 [.one (.ow 0 0),.oi id,.agg [.row lx,.row ly,.bool bn,.row l3]] (SZ 0 np nd M q s t h p d) [.oi e] (SZ 0 np nd M q s t h p d):=by
 refine Fl func36 rfl ?_;exact W4 [] [0,1,2,3,4,5,6] [.c [1] ht,.t (by simpa using he)] rfl
theorem eM {np nd id:Int} {M M':List Pt} {q:Rat} {s t h p d s' t' h' p' d':Cr} {e1 e2 e3 e4 e5:Int}
 (ht:Uo prog 87 [.one (.ow 0 0),.oi id] [tB np nd M] [.oi 0] [tB np nd M'])
 (h1:Uo prog 367 [.one (.ow 0 0),.oi id] [bS s M q] [.oi e1] [bS s' M' q])
 (h2:Uo prog 394 [.one (.ow 0 0),.oi id] [bT t M q] [.oi e2] [bT t' M' q])
 (h3:Uo prog 399 [.one (.ow 0 0),.oi id] [bH h M q] [.oi e3] [bH h' M' q])
 (h4:Uo prog 404 [.one (.ow 0 0),.oi id] [bP p M q] [.oi e4] [bP p' M' q])
 (h5:Uo prog 409 [.one (.ow 0 0),.oi id] [bD d M q] [.oi e5] [bD d' M' q]) :
 Uo prog 37 [.one (.ow 0 0),.oi id] (SZ 0 np nd M q s t h p d) [.oi 0] (SZ 0 np nd M' q s' t' h' p' d'):=by
 refine Fl func37 rfl ?_;refine Wy [.c [1] ht,.f rfl,.c Ui qN] rfl ?_;refine W5 (S:=Nat) 7 (λL1 i=>(19,.v (.oi i))::L1) (λi=>[.blk 88 (enR 0 q),tB np nd M',LQ 0 i (bS s M q) (bS s' M' q),LQ 1 i (bT t M q) (bT t' M' q),LQ 2 i (bH h M q) (bH h' M' q),LQ 3 i (bP p M q) (bP p' M' q),LQ 4 i (bD d M q) (bD d' M' q)]) (λi=>5-i) (λi=>i<=5) 0 (by decide) rfl rfl λi hi=>?_
 rcases (show i=0\/i=1\/i=2\/i=3\/i=4\/i=5 by omega) with rfl | rfl | rfl | rfl | rfl | rfl
 ·exact go tt [.t rfl,.i 0,.c [2] h1] rfl (by simp [Ul]) (rd 1 (by omega) (by omega) rfl)
 ·exact go tt [.t rfl,.i 1,.c [3] h2] rfl (by simp [Ul]) (rd 2 (by omega) (by omega) rfl)
 ·exact go tt [.t rfl,.i 2,.c [4] h3] rfl (by simp [Ul]) (rd 3 (by omega) (by omega) rfl)
 ·exact go tt [.t rfl,.i 3,.c [5] h4] rfl (by simp [Ul]) (rd 4 (by omega) (by omega) rfl)
 ·exact go tt [.t rfl,.i 4,.c [6] h5] rfl (by simp [Ul]) (rd 5 (by omega) (by omega) rfl)
 ·exact W4 [] [0,1,2,3,4,5,6] [.f rfl] rfl
theorem bF {np nd id:Int} {M:List Pt} {q:Rat} {s t h p d:Cr} {e:Int} (he:e≠0)
 (ht:Uo prog 87 [.one (.ow 0 0),.oi id] [tB np nd M] [.oi e] [tB np nd M]) :
 Uo prog 37 [.one (.ow 0 0),.oi id] (SZ 0 np nd M q s t h p d) [.oi e] (SZ 0 np nd M q s t h p d):=by
 refine Fl func37 rfl ?_;exact W4 [] [0,1,2,3,4,5,6] [.c [1] ht,.t (by simpa using he)] rfl
theorem bU {np nd:Int} {M:List Pt} {q r:Rat} {s t h p d s' t' h' p' d':Cr} {x0 x1 x2 x3:LV} {a b n1 n2 n3 n4 n5:Int} (ha:Fu x0 x1 a) (hb:Fu x2 x3 b) (sa:U0 a<=4294967295) (sb:U0 b<=4294967295) (hr:To a b=r) (hs:Qs 128 r) (hq:Qs 128 q) (hqr:q<=r)
 (h1:Uo prog 365 [.one (.ow 0 0),.agg (rl r)] [bS s M q] [.oi n1,.oi 0] [bS s' M r])
 (h2:Uo prog 393 [.one (.ow 0 0),.agg (rl r)] [bT t M q] [.oi n2,.oi 0] [bT t' M r])
 (h3:Uo prog 398 [.one (.ow 0 0),.agg (rl r)] [bH h M q] [.oi n3,.oi 0] [bH h' M r])
 (h4:Uo prog 403 [.one (.ow 0 0),.agg (rl r)] [bP p M q] [.oi n4,.oi 0] [bP p' M r])
 (h5:Uo prog 408 [.one (.ow 0 0),.agg (rl r)] [bD d M q] [.oi n5,.oi 0] [bD d' M r]) :
 Uo prog 21 [.one (.ow 0 0),.agg [x0,x1,x2,x3]] (SZ 0 np nd M q s t h p d) [.oi 0] (SZ 0 np nd M r s' t' h' p' d'):=by
 have cm:=TW ha hb sa sb;rw [hr] at cm;obtain ⟨b1,r1,rfl,rfl,_⟩:=ha;obtain ⟨b2,r2,rfl,rfl,_⟩:=hb;have cc:=Bf (a:=r) (b:=q) (hs.mono (by decide)) (hq.mono (by decide));have l1:=WO.2 hs.1;have l2:(U9 r.den).length<=4:=by simpa using WO.2 hs.2
 have hc:¬Gm r q<0:=λh=>absurd (P0.1 h) (Rat.not_lt.2 hqr)
 refine Fl func21 rfl ?_;refine Wy [.k cm,.f (by simp [dZ]; omega),.f (by simp [dZ]; omega),.k cc,.f (by simpa using hc),.c Ui qN] rfl ?_;refine W5 (S:=Nat) 8 (λL1 i=>(32,.v (.oi i))::L1) (λi=>[.blk 88 (enR 0 q),tB np nd M,LQ 0 i (bS s M q) (bS s' M r),LQ 1 i (bT t M q) (bT t' M r),LQ 2 i (bH h M q) (bH h' M r),LQ 3 i (bP p M q) (bP p' M r),LQ 4 i (bD d M q) (bD d' M r),.blk 43 (rl r)]) (λi=>5-i) (λi=>i<=5) 0 (by decide) rfl rfl λi hi=>?_
 rcases (show i=0\/i=1\/i=2\/i=3\/i=4\/i=5 by omega) with rfl | rfl | rfl | rfl | rfl | rfl
 ·exact go tt [.t rfl,.i 0,.c [2] h1] rfl (by simp [Ul]) (rd 1 (by omega) (by omega) rfl)
 ·exact go tt [.t rfl,.i 1,.c [3] h2] rfl (by simp [Ul]) (rd 2 (by omega) (by omega) rfl)
 ·exact go tt [.t rfl,.i 2,.c [4] h3] rfl (by simp [Ul]) (rd 3 (by omega) (by omega) rfl)
 ·exact go tt [.t rfl,.i 3,.c [5] h4] rfl (by simp [Ul]) (rd 4 (by omega) (by omega) rfl)
 ·exact go tt [.t rfl,.i 4,.c [6] h5] rfl (by simp [Ul]) (rd 5 (by omega) (by omega) rfl)
 ·exact W4 [] [0,1,2,3,4,5,6] [.f rfl] rfl
theorem LI {np nd:Int} {M:List Pt} {q r:Rat} {s t h p d:Cr} {x0 x1 x2 x3:LV} {a b:Int} (ha:Fu x0 x1 a) (hb:Fu x2 x3 b) (sa:U0 a<=4294967295) (sb:U0 b<=4294967295) (hr:To a b=r) (hs:¬Qs 128 r) :
 Uo prog 21 [.one (.ow 0 0),.agg [x0,x1,x2,x3]] (SZ 0 np nd M q s t h p d) [.oi 1] (SZ 0 np nd M q s t h p d):=by
 have cm:=TW ha hb sa sb;rw [hr] at cm;obtain ⟨b1,r1,rfl,rfl,_⟩:=ha;obtain ⟨b2,r2,rfl,rfl,_⟩:=hb;refine Fl func21 rfl ?_;by_cases h1:U0 r.num<=128
 ·have h2:¬U0 (r.den:Int)<=128:=λh=>hs ⟨h1,h⟩
  have l1:=WO.2 h1;have l2:=mt WO.1 h2;exact W4 [] [0,1,2,3,4,5,6] [.k cm,.f (by simp [dZ]; omega),.t (by simp [dZ] at l2 ⊢; omega)] rfl
 ·have l1:=mt WO.1 h1;exact W4 [] [0,1,2,3,4,5,6] [.k cm,.t (by simp [dZ]; omega),.t rfl] rfl
theorem NV {np nd:Int} {M:List Pt} {q r:Rat} {s t h p d:Cr} {x0 x1 x2 x3:LV} {a b:Int} (ha:Fu x0 x1 a) (hb:Fu x2 x3 b) (sa:U0 a<=4294967295) (sb:U0 b<=4294967295) (hr:To a b=r) (hs:Qs 128 r) (hq:Qs 128 q) (hqr:r<q) :
 Uo prog 21 [.one (.ow 0 0),.agg [x0,x1,x2,x3]] (SZ 0 np nd M q s t h p d) [.oi 8] (SZ 0 np nd M q s t h p d):=by
 have cm:=TW ha hb sa sb;rw [hr] at cm;obtain ⟨b1,r1,rfl,rfl,_⟩:=ha;obtain ⟨b2,r2,rfl,rfl,_⟩:=hb;have cc:=Bf (a:=r) (b:=q) (hs.mono (by decide)) (hq.mono (by decide));have l1:=WO.2 hs.1;have l2:(U9 r.den).length<=4:=by simpa using WO.2 hs.2
 have hc:Gm r q<0:=P0.2 hqr;refine Fl func21 rfl ?_;exact W4 [] [0,1,2,3,4,5,6] [.k cm,.f (by simp [dZ]; omega),.f (by simp [dZ]; omega),.k cc,.t (by simpa using hc)] rfl
theorem RL {c:Cr} {l l':List Pt} {r1:Uf} {ws:List Wt} (hc:CrOk c) (hl:∀ p∈l',Sc p.c) (hn:l'.length≤10) (h:H5 c.l c.now (U6 (NE l' c.now))=some ws) :
 Uo prog 402 [.one (.ow 0 0),.agg [pts l'],.oi 0] [.blk 201 (Gy c (Uj l) r1)] [.oi 0] [.blk 201 (Gy ⟨c.now,ws,c.ev⟩ (Uj l') (bK l' c.now))]:=by
 have hB:=kW hl hn;have cn:=Ib (T:=201) (c:=c) (r0:=Uj l') (r1:=r1) hc.n;have cb:=BX (c:=c) (r1:=r1) hl hn hc.n;have cg:=QN (T:=201) (r0:=Uj l') (r1:=bK l' c.now) hc hc.n (Aa hc.n) (Ju 0) (hB.p _ hc.n) (hB.n _ hc.n) h;refine Fl func402 rfl ?_;exact W4 [] [0] [.f rfl,.c [0] cn,.c [0] cb,.c [0] cg] rfl
theorem Qfp {lx ly:Uf} {px py:W9} {x y:LV} {d id:Int} {c:Cr} {l:List Pt} {r1:Uf} {ws:List Wt} (hx:IsInts lx px) (hy:IsInts ly py) (hd:Fu x y d) (hk:Cs 4294967294 1073741824 (Crv.mk px py d)) (hll:l.length<=900)
 (he:JH l ⟨Crv.norm (Crv.mk px py d),id⟩=0) (hc:CrOk c) (hl:∀ p∈put l ⟨Crv.norm (Crv.mk px py d),id⟩,Sc p.c) (hn:(put l ⟨Crv.norm (Crv.mk px py d),id⟩).length≤10) (h:H5 c.l c.now (U6 (NE (put l ⟨Crv.norm (Crv.mk px py d),id⟩) c.now))=some ws) :
 Uo prog 400 [.one (.ow 0 0),.agg [.row lx,.row ly,x,y,.int .i64 id]] [.blk 201 (Gy c (Uj l) r1)] [.oi 0] [.blk 201 (Gy ⟨c.now,ws,c.ev⟩ (Uj (put l ⟨Crv.norm (Crv.mk px py d),id⟩)) (bK (put l ⟨Crv.norm (Crv.mk px py d),id⟩) c.now))]:=by
 have cp:=qP (l:=l) (id:=id) hx hy hd hk (by omega);rw [if_pos he,he] at cp;have cw:=RL (l:=l) (r1:=r1) hc hl hn h;refine Fl func400 rfl ?_;obtain ⟨b,l',rfl,rfl,_⟩:=hd;exact W4 [] [0] [.k cp,.c [0] cw] rfl
theorem eO {lx ly:Uf} {px py:W9} {x y:LV} {d id:Int} {c:Cr} {l l':List Pt} {r1:Uf} {ws:List Wt} (hx:IsInts lx px) (hy:IsInts ly py) (hd:Fu x y d) (hk:Cs 4294967294 1073741824 (Crv.mk px py d)) (hll:l.length<=10) (h:has l id=true) (hc:CrOk c)
 (hl':l'=l.set (Hb l id) (Pt.mk (Crv.norm (Crv.mk px py d)) id)) (hs:∀ p∈l',Sc p.c) (hw:H5 c.l c.now (U6 (NE l' c.now))=some ws) :
 Uo prog 401 [.one (.ow 0 0),.agg [.row lx,.row ly,x,y,.int .i64 id]] [.blk 201 (Gy c (Uj l) r1)] [.oi 0] [.blk 201 (Gy ⟨c.now,ws,c.ev⟩ (Uj l') (bK l' c.now))]:=by
 have ct1:=YR (l:=l) hx hy hd hk (by omega) h;rw [<-hl'] at ct1;have cw:=RL (c:=c) (l:=l) (l':=l') (r1:=r1) hc hs (by rw [hl',Xd]; omega) hw;obtain ⟨b,r,rfl,rfl,_⟩:=hd;refine Fl func401 rfl ?_;exact W4 [] [0] [.k ct1,.c [0] cw] rfl
theorem eA {id:Int} {c:Cr} {l l':List Pt} {r1:Uf} {ws:List Wt} (hll:l.length<=10) (h:has l id=true) (hc:CrOk c)
 (hl':l'=l.take (Hb l id)++l.drop (Hb l id+1)) (hs:∀ p∈l',Sc p.c) (hw:H5 c.l c.now (U6 (NE l' c.now))=some ws) :
 Uo prog 399 [.one (.ow 0 0),.oi id] [.blk 201 (Gy c (Uj l) r1)] [.oi 0] [.blk 201 (Gy ⟨c.now,ws,c.ev⟩ (Uj l') (bK l' c.now))]:=by
 have ct1:=YG (l:=l) (id:=id) (by omega) h;rw [<-hl'] at ct1;have cw:=RL (c:=c) (l:=l) (l':=l') (r1:=r1) hc hs (by rw [hl',Qu,Qp,Q4]; omega) hw;refine Fl func399 rfl ?_;exact W4 [] [0] [.k ct1,.c [0] cw] rfl
theorem RA {c:Cr} {l l':List Pt} {r1:Uf} {ws:List Wt} (hc:CrOk c) (hl:∀ p∈l',Sc p.c) (hn:l'.length≤10) (h:H5 c.l c.now (U6 (bX l' c.now))=some ws) :
 Uo prog 407 [.one (.ow 0 0),.agg [pts l'],.oi 0] [.blk 203 (Gy c (Uj l) r1)] [.oi 0] [.blk 203 (Gy ⟨c.now,ws,c.ev⟩ (Uj l') (eY l' c.now))]:=by
 have hB:=lO hl hn;have cn:=Ib (T:=203) (c:=c) (r0:=Uj l') (r1:=r1) hc.n;have cb:=BJ (c:=c) (r1:=r1) hl hn hc.n;have cg:=QN (T:=203) (r0:=Uj l') (r1:=eY l' c.now) hc hc.n (Aa hc.n) (Ju 0) (hB.p _ hc.n) (hB.n _ hc.n) h;refine Fl func407 rfl ?_;exact W4 [] [0] [.f rfl,.c [0] cn,.c [0] cb,.c [0] cg] rfl
theorem Qfw {lx ly:Uf} {px py:W9} {x y:LV} {d id:Int} {c:Cr} {l:List Pt} {r1:Uf} {ws:List Wt} (hx:IsInts lx px) (hy:IsInts ly py) (hd:Fu x y d) (hk:Cs 4294967294 1073741824 (Crv.mk px py d)) (hll:l.length<=900)
 (he:JH l ⟨Crv.norm (Crv.mk px py d),id⟩=0) (hc:CrOk c) (hl:∀ p∈put l ⟨Crv.norm (Crv.mk px py d),id⟩,Sc p.c) (hn:(put l ⟨Crv.norm (Crv.mk px py d),id⟩).length≤10) (h:H5 c.l c.now (U6 (bX (put l ⟨Crv.norm (Crv.mk px py d),id⟩) c.now))=some ws) :
 Uo prog 405 [.one (.ow 0 0),.agg [.row lx,.row ly,x,y,.int .i64 id]] [.blk 203 (Gy c (Uj l) r1)] [.oi 0] [.blk 203 (Gy ⟨c.now,ws,c.ev⟩ (Uj (put l ⟨Crv.norm (Crv.mk px py d),id⟩)) (eY (put l ⟨Crv.norm (Crv.mk px py d),id⟩) c.now))]:=by
 have cp:=qP (l:=l) (id:=id) hx hy hd hk (by omega);rw [if_pos he,he] at cp;have cw:=RA (l:=l) (r1:=r1) hc hl hn h;refine Fl func405 rfl ?_;obtain ⟨b,l',rfl,rfl,_⟩:=hd;exact W4 [] [0] [.k cp,.c [0] cw] rfl
theorem aU {lx ly:Uf} {px py:W9} {x y:LV} {d id:Int} {c:Cr} {l l':List Pt} {r1:Uf} {ws:List Wt} (hx:IsInts lx px) (hy:IsInts ly py) (hd:Fu x y d) (hk:Cs 4294967294 1073741824 (Crv.mk px py d)) (hll:l.length<=10) (h:has l id=true) (hc:CrOk c)
 (hl':l'=l.set (Hb l id) (Pt.mk (Crv.norm (Crv.mk px py d)) id)) (hs:∀ p∈l',Sc p.c) (hw:H5 c.l c.now (U6 (bX l' c.now))=some ws) :
 Uo prog 406 [.one (.ow 0 0),.agg [.row lx,.row ly,x,y,.int .i64 id]] [.blk 203 (Gy c (Uj l) r1)] [.oi 0] [.blk 203 (Gy ⟨c.now,ws,c.ev⟩ (Uj l') (eY l' c.now))]:=by
 have ct1:=YR (l:=l) hx hy hd hk (by omega) h;rw [<-hl'] at ct1;have cw:=RA (c:=c) (l:=l) (l':=l') (r1:=r1) hc hs (by rw [hl',Xd]; omega) hw;obtain ⟨b,r,rfl,rfl,_⟩:=hd;refine Fl func406 rfl ?_;exact W4 [] [0] [.k ct1,.c [0] cw] rfl
theorem aW {id:Int} {c:Cr} {l l':List Pt} {r1:Uf} {ws:List Wt} (hll:l.length<=10) (h:has l id=true) (hc:CrOk c)
 (hl':l'=l.take (Hb l id)++l.drop (Hb l id+1)) (hs:∀ p∈l',Sc p.c) (hw:H5 c.l c.now (U6 (bX l' c.now))=some ws) :
 Uo prog 404 [.one (.ow 0 0),.oi id] [.blk 203 (Gy c (Uj l) r1)] [.oi 0] [.blk 203 (Gy ⟨c.now,ws,c.ev⟩ (Uj l') (eY l' c.now))]:=by
 have ct1:=YG (l:=l) (id:=id) (by omega) h;rw [<-hl'] at ct1;have cw:=RA (c:=c) (l:=l) (l':=l') (r1:=r1) hc hs (by rw [hl',Qu,Qp,Q4]; omega) hw;refine Fl func404 rfl ?_;exact W4 [] [0] [.k ct1,.c [0] cw] rfl
abbrev anw (S W H P:List Pt) (T:List P3):Ue:=[ids (S.map (·.id)),ids (W.map (·.id)),ids (H.map (·.id)),ids (P.map (·.id)),.row (JL T)]
theorem Qf5 {np nd:Int} {M S W H P:List Pt} {T:List P3} {r2:Uf} {q:Rat} {s t h p d:Cr} (hS:S.length<=1000000) (hH:H.length<=1000000) (hT:T.length<=1000) (hW:W=[]\/∃ w,W=[w]) (hP:P=[]\/∃ a b,P=[a,b]) :
 Uo prog 39 [.one (.ow 0 0)] [.blk 88 (enR 0 q),tB np nd M,.blk 196 (Gy s (Uj M) (Uj S)),.blk 199 (Rj t (Uj M) (W.map Ur,r2)),.blk 201 (Gy h (Uj M) (Uj H)),.blk 203 (Gy p (Uj M) (Uj P)),.blk 205 (Gy d (Uj M) (JL T))]
  [.agg (anw S W H P T)] [.blk 88 (enR 0 q),tB np nd M,.blk 196 (Gy s (Uj M) (Uj S)),.blk 199 (Rj t (Uj M) (W.map Ur,r2)),.blk 201 (Gy h (Uj M) (Uj H)),.blk 203 (Gy p (Uj M) (Uj P)),.blk 205 (Gy d (Uj M) (JL T))]:=by
 have c1:=Qlr (c:=s) (l:=M) hS;have c2:=Qlj (c:=h) (l:=M) hH;have c3:=wQ (c:=d) (r0:=Uj M) hT;rcases hW with rfl | ⟨w,rfl⟩
 ·have c4:=aE (c:=t) (r0:=Uj M) (r2:=r2);rcases hP with rfl | ⟨a,b,rfl⟩
  ·have c5:=qS (c:=p) (r0:=Uj M);refine Fl func39 rfl ?_;exact W4 [] [0,1,2,3,4,5,6] [.c [2] c1,.c [4] c2,.c [6] c3,.c [3] c4,.f rfl,.c [5] c5,.f rfl] rfl
  ·have c5:=rI (c:=p) (r0:=Uj M) (a:=a) (b:=b);refine Fl func39 rfl ?_;exact W4 [] [0,1,2,3,4,5,6] [.c [2] c1,.c [4] c2,.c [6] c3,.c [3] c4,.f rfl,.c [5] c5,.t rfl] rfl
 ·have c4:=Qf8 (c:=t) (r0:=Uj M) (r2:=r2) (w:=w);rcases hP with rfl | ⟨a,b,rfl⟩
  ·have c5:=qS (c:=p) (r0:=Uj M);refine Fl func39 rfl ?_;exact W4 [] [0,1,2,3,4,5,6] [.c [2] c1,.c [4] c2,.c [6] c3,.c [3] c4,.t rfl,.c [5] c5,.f rfl] rfl
  ·have c5:=rI (c:=p) (r0:=Uj M) (a:=a) (b:=b);refine Fl func39 rfl ?_;exact W4 [] [0,1,2,3,4,5,6] [.c [2] c1,.c [4] c2,.c [6] c3,.c [3] c4,.t rfl,.c [5] c5,.t rfl] rfl
abbrev Qk6 (M:List Pt) (q:Rat):Ue:=anw (Rv (tq q) M) (Mx (U4 (tq q)) M).1 (Tt M (tq q)) (O7 (U4 (tq q)) M) (xA (U4 (tq q)) M)
theorem Qi9 (sg:W9->Int) (M:List Pt):(Mx sg M).1=[]\/∃ w,(Mx sg M).1=[w]:=by
 by_cases h:0<M.length
 ·obtain ⟨a,ha,_⟩:=Pu sg M.length M (Qn _) h;exact .inr ⟨a,ha⟩
 ·obtain rfl:=Qh (by omega:M.length=0);exact .inl rfl
theorem Qca (sg:W9->Int) (M:List Pt):O7 sg M=[]\/∃ a b,O7 sg M=[a,b]:=by
 match M with
 | []=>exact .inl rfl
 | [_]=>exact .inl rfl
 | _::_::_=>exact .inr ⟨_,_,rfl⟩
theorem aC {np nd:Int} {M:List Pt} {q:Rat} {s t h p d:Cr} (hM:M.length<=6):Uo prog 39 [.one (.ow 0 0)] (SZ 0 np nd M q s t h p d) [.agg (Qk6 M q)] (SZ 0 np nd M q s t h p d) :=
 Qf5 (by rw [Nk]; omega) (by have:=WW M (tq q); omega) (by have:=dJ (U4 (tq q)) hM; omega) (Qi9 _ _) (Qca _ _)
abbrev Qdm (k i:Nat) (e:Int):LV:=match Nat.blt k i with
 | true=>.int .i64 e
 | false=>.int .i64 0
theorem eG {np nd:Int} {M:List Pt} {q:Rat} {s t h p d:Cr}:Uo prog 10 [.one (.ow 0 0)] (SZ 0 np nd M q s t h p d) [.agg [.int .i64 s.ev,.int .i64 t.ev,.int .i64 h.ev,.int .i64 p.ev,.int .i64 d.ev]] (SZ 0 np nd M q s t h p d):=by
 refine Fl func10 rfl ?_;refine Wy [.c Ui qN] rfl ?_;refine W5 (S:=Nat) 9 (λL1 i=>(8,.v (.oi i))::L1) (λi=>[.blk 88 (enR 0 q),tB np nd M,bS s M q,bT t M q,bH h M q,bP p M q,bD d M q,.blk 29 [.int .i64 0,.int .i64 0,.int .i64 0,.int .i64 0,.int .i64 0],.blk 29 [Qdm 0 i s.ev,Qdm 1 i t.ev,Qdm 2 i h.ev,Qdm 3 i p.ev,Qdm 4 i d.ev]]) (λi=>5-i) (λi=>i<=5) 0 (by decide) rfl rfl λi hi=>?_
 rcases (show i=0\/i=1\/i=2\/i=3\/i=4\/i=5 by omega) with rfl | rfl | rfl | rfl | rfl | rfl
 ·exact go tt [.t rfl,.i 0,.c [2] QB,.i 0] rfl (by simp [Ul]) (rd 1 (by omega) (by omega) rfl)
 ·exact go tt [.t rfl,.i 1,.c [3] bO,.i 1] rfl (by simp [Ul]) (rd 2 (by omega) (by omega) rfl)
 ·exact go tt [.t rfl,.i 2,.c [4] QB,.i 2] rfl (by simp [Ul]) (rd 3 (by omega) (by omega) rfl)
 ·exact go tt [.t rfl,.i 3,.c [5] QB,.i 3] rfl (by simp [Ul]) (rd 4 (by omega) (by omega) rfl)
 ·exact go tt [.t rfl,.i 4,.c [6] QB,.i 4] rfl (by simp [Ul]) (rd 5 (by omega) (by omega) rfl)
 ·exact W4 [] [0,1,2,3,4,5,6] [.f rfl] rfl
theorem Qjm:∀ p∈([]:List Pt),Sc p.c:=λ_ h=>by cases h
theorem Qeu:∀ x∈([]:List Ct),Cp x.p:=λ_ h=>by cases h
theorem vL:W6 119 [.one (.row [])] [.agg [.row []],.oi 0]:=by
 refine Fl func119 rfl ?_;refine Wy [.f rfl] rfl ?_;refine nlb 1 rfl rfl rfl ?_;refine W5 (S:=Unit) 2 (λL1 _=>(14,.v (.oi 0))::L1) (λ_=>[.blk 194 [.nils],.blk 194 [.row []]]) (λ_=>0) (λ_=>True) () trivial rfl rfl λ_ _=>?_
 exact W0 [.f rfl] rfl
abbrev zT (r0 r1 r2:LV):OB:=.blk 199 [.bool false,.nils,.bool false,.nils,.bool false,.nils,.bool false,.nils,.bool false,.nils,.nils,.int .i64 0,r0,r1,r2]
theorem Qjk {a:Tm}:Uo prog 166 [.one (.ow 0 0),.agg (ta a),.one (.row [])] [zT (.row []) .nils (.orow 1 10 none),.row false 264 10 []] [.one (.row [])] [zT (.row []) .nils (.orow 1 10 none),.row false 264 10 []]:=by
 refine Fl func166 rfl ?_;exact W4 [] [0,1] [.t rfl] rfl
theorem Qes {a:Tm}:Uo prog 123 [.one (.ow 0 0),.agg (ta a)] [zT (.row []) .nils .nils] [.one (.row [])] [zT (.row []) (.row []) (.row [])]:=by
 refine Fl func123 rfl ?_;refine Wy [] rfl ?_;refine oz 0 14 264 10 rfl rfl ?_;refine Wy [.k (Ep (l:=[])),.c [0,2] (Qjk (a:=a)),.o 5 126 7] rfl ?_;refine W5 (S:=Unit) 4 (λL1 _=>(29,.v (.oi 0))::(5,.v (.one (.orow 3 7 none)))::L1) (λ_=>[zT (.row []) (.row []) (.orow 2 10 none),.blk 189 (ta a),.row false 264 10 [],.row false 126 7 []]) (λ_=>0) (λ_=>True) () trivial rfl rfl λ_ _=>?_
 exact W4 [2,3] [0] [.f rfl] rfl
theorem Qet:W6 169 [.agg [.row []]] [.one (.row [])]:=wJ (l:=[]) (λ_ h=>by cases h) (by decide)
theorem Qk1 {a:Tm} (ha:Va a):W6 163 [.agg (ta a),.one (.row [])] [.one (.row [])]:=qM (l:=[]) Qjm (by decide) ha
theorem Qeq {a:Tm} (ha:Va a):Uo prog 124 [.one (.ow 0 0),.agg (ta a)] [.blk 201 (wG (.row []) .nils)] [.one (.row [])] [.blk 201 (wG (.row []) (.row []))]:=by
 have cn:W6 168 [.agg (ta a),.one (.row [])] [.one (.row [])]:=tW (R:=[]) Qjm (by decide) ha;have cc:Uo prog 165 [.agg (ta a),.one (.row [])] [] [.one (.orow 0 7 none)] [.row false 126 7 []]:=FZ (l:=[]) Qjm (by decide) ha;refine Fl func124 rfl ?_;exact W4 [2] [0] [.k Qet,.k (Qk1 ha),.k cn,.k (Ep (l:=[])),.k (Qk1 ha),.c [2] cc,.t rfl] rfl
theorem Qer {a:Tm}:Uo prog 125 [.one (.ow 0 0),.agg (ta a)] [.blk 203 (wG (.row []) .nils)] [.one (.row [])] [.blk 203 (wG (.row []) (.row []))]:=by
 refine Fl func125 rfl ?_;refine Wy [.k (Ep (l:=[]))] rfl ?_;refine nlc 0 13 rfl rfl rfl ?_;exact W4 [] [0] [.t rfl] rfl
theorem Qep {a:Tm}:Uo prog 126 [.one (.ow 0 0),.agg (ta a)] [.blk 205 (wG (.row []) .nils)] [.one (.row [])] [.blk 205 (wG (.row []) (.row []))]:=by
 refine Fl func126 rfl ?_;refine Wy [.k Qet,.o 6 126 7] rfl ?_;refine W5 (S:=Unit) 4 (λL1 _=>(42,.v (.oi 0))::(6,.v (.one (.orow 2 7 none)))::L1) (λ_=>[.blk 205 (wG (.row []) .nils),.blk 189 (ta a),.row false 126 7 [],.mpb (L6 (I7 (U4 a) []))]) (λ_=>0) (λ_=>True) () trivial rfl rfl λ_ _=>?_
 refine Wy [.f rfl] rfl ?_;refine W5 (S:=Unit) 5 (λL1 _=>(97,.v (.oi 0))::(6,.v (.one (.orow 2 7 none)))::L1) (λ_=>[.blk 205 (wG (.row []) .nils),.blk 189 (ta a),.row false 126 7 [],.mpb (L6 (I7 (U4 a) [])),.mpb (Af (L6 (I7 (U4 a) [])) (ZA (U4 a) []))]) (λ_=>0) (λ_=>True) () trivial rfl rfl λ_ _=>?_
 refine Wy [.f rfl] rfl ?_;refine ozM 0 13 101 3 rfl rfl ?_;refine W5 (S:=Unit) 6 (λL1 _=>(174,.v (.oi 0))::L1) (λ_=>[.blk 205 [.bool false,.nils,.bool false,.nils,.bool false,.nils,.bool false,.nils,.bool false,.nils,.nils,.int .i64 0,.row [],.orow 5 3 none],.blk 189 (ta a),.row false 126 7 [],.mpb (L6 (I7 (U4 a) [])),.mpb (Af (L6 (I7 (U4 a) [])) (ZA (U4 a) [])),.row false 101 3 []]) (λ_=>0) (λ_=>True) () trivial rfl rfl λ_ _=>?_
 exact W4 [2,5] [0] [.f rfl] rfl
section
variable {x y x' y':LV} {n d:Int} (h1:Fu x y n) (h2:Fu x' y' d) (bn:U0 n<=4294967295) (bd:U0 d<=4294967295) (ht:Qs 1640000 (To n d))
include h1 h2 bn bd ht
theorem Qjj:Uo prog 71 [.agg [x,y,x',y'],.one (.row [])] [] [.one (.ow 0 0),.oi 0] [.blk 196 (Gy ⟨tq (To n d),[],0⟩ [] [])]:=by
 have co:=XZ h1 h2 bn bd (ht.mono (by decide));have cb:Uo prog 122 [.one (.ow 0 0),.agg (ta (tq (To n d)))] [.blk 196 (wG (.row []) .nils)] [.one (.row [])] [.blk 196 (wG (.row []) (.row []))]:=bL (l:=[]) Qjm (by decide) (NC ht);have cg:=QM (T:=196) (r0:=[]) (r1:=[]) (NC ht) Qeu (by decide);obtain ⟨b,l1,rfl,rfl,_⟩:=h1;obtain ⟨b',l2,rfl,rfl,_⟩:=h2;refine Fl func71 rfl ?_;exact W4 [] [2] [.k vL,.f rfl,.k co,.c [2] cb,.c [2] cg] rfl
theorem Qjl:Uo prog 72 [.agg [x,y,x',y'],.one (.row [])] [] [.one (.ow 0 0),.oi 0] [.blk 199 (Rj ⟨tq (To n d),[],0⟩ [] ([],[]))]:=by
 have co:=XZ h1 h2 bn bd (ht.mono (by decide));have cg:=bE (T:=199) (r0:=[]) (r1:=([],[])) (NC ht) Qeu (by decide);obtain ⟨b,l1,rfl,rfl,_⟩:=h1;obtain ⟨b',l2,rfl,rfl,_⟩:=h2;refine Fl func72 rfl ?_;exact W4 [] [2] [.k vL,.f rfl,.k co,.c [2] (Qes (a:=tq (To n d))),.c [2] cg] rfl
theorem Qjh:Uo prog 73 [.agg [x,y,x',y'],.one (.row [])] [] [.one (.ow 0 0),.oi 0] [.blk 201 (Gy ⟨tq (To n d),[],0⟩ [] [])]:=by
 have co:=XZ h1 h2 bn bd (ht.mono (by decide));have cg:=QM (T:=201) (r0:=[]) (r1:=[]) (NC ht) Qeu (by decide);obtain ⟨b,l1,rfl,rfl,_⟩:=h1;obtain ⟨b',l2,rfl,rfl,_⟩:=h2;refine Fl func73 rfl ?_;exact W4 [] [2] [.k vL,.f rfl,.k co,.c [2] (Qeq (NC ht)),.c [2] cg] rfl
theorem Qji:Uo prog 74 [.agg [x,y,x',y'],.one (.row [])] [] [.one (.ow 0 0),.oi 0] [.blk 203 (Gy ⟨tq (To n d),[],0⟩ [] [])]:=by
 have co:=XZ h1 h2 bn bd (ht.mono (by decide));have cg:=QM (T:=203) (r0:=[]) (r1:=[]) (NC ht) Qeu (by decide);obtain ⟨b,l1,rfl,rfl,_⟩:=h1;obtain ⟨b',l2,rfl,rfl,_⟩:=h2;refine Fl func74 rfl ?_;exact W4 [] [2] [.k vL,.f rfl,.k co,.c [2] (Qer (a:=tq (To n d))),.c [2] cg] rfl
theorem Qjg:Uo prog 75 [.agg [x,y,x',y'],.one (.row [])] [] [.one (.ow 0 0),.oi 0] [.blk 205 (Gy ⟨tq (To n d),[],0⟩ [] [])]:=by
 have co:=XZ h1 h2 bn bd (ht.mono (by decide));have cg:=QM (T:=205) (r0:=[]) (r1:=[]) (NC ht) Qeu (by decide);obtain ⟨b,l1,rfl,rfl,_⟩:=h1;obtain ⟨b',l2,rfl,rfl,_⟩:=h2;refine Fl func75 rfl ?_;exact W4 [] [2] [.k vL,.f rfl,.k co,.c [2] (Qep (a:=tq (To n d))),.c [2] cg] rfl
end
end Orr
namespace Orr
open Go Go.Proofs Tryz Orq
set_option maxRecDepth 10000
theorem Ql2 {np nd:Int} (h1:1<=np/\np<=6) (h2:0<=nd/\nd<=2):Uo prog 69 [.oi np,.oi nd] [] [.one (.ow 0 0),.oi 0] [.blk 158 [.int .i64 np,.int .i64 nd,.nils]]:=by
 refine Fl func69 rfl ?_;exact W4 [] [0] [.F,.f (by simp; omega),.f (by simp; omega),.f (by simp; omega)] rfl
theorem Qlh {np nd:Int} (h1:1<=np/\np<=6) (h2:0<=nd/\nd<=2):Uo prog 26 [.oi np,.oi nd] [] [.one (.ow 0 0),.oi 0] (SZ 0 np nd [] 0 (Qfi [] (tq 0)) (Qow [] (tq 0)) (Qou [] (tq 0)) (Qov [] (tq 0)) (Qot [] (tq 0))):=by
 have ez:To (0:Rat).num ((0:Rat).den:Int)=0:=by decide
 have hq:Qs 1640000 (To (0:Rat).num ((0:Rat).den:Int)):=by rw [ez]; exact ⟨by decide,by decide⟩
 have i1:=Um (0:Rat).num;have i2:=Um ((0:Rat).den:Int);have c1:=Qjj i1 i2 (by decide) (by decide) hq;have c2:=Qjl i1 i2 (by decide) (by decide) hq;have c3:=Qjh i1 i2 (by decide) (by decide) hq;have c4:=Qji i1 i2 (by decide) (by decide) hq;have c5:=Qjg i1 i2 (by decide) (by decide) hq;rw [ez] at c1 c2 c3 c4 c5;have ci:=Qlz (n:=0) (by decide);rw [show ((0:Int):Rat)=0 from rfl,Lt] at ci;refine Fl func26 rfl ?_;refine Wy [.c [0] (Ql2 h1 h2),.f rfl] rfl ?_;refine nlc 0 2 rfl rfl rfl ?_;exact W4 [] [1,0,2,3,4,5,6] [.k ci,.c [2] c1,.c [3] c2,.c [4] c3,.c [5] c4,.c [6] c5] rfl
def Em.ins (A:Em) (p:Pt):Em×Int:=(if Ra A.np A.nd A.M p=0 then { A with M:=put A.M p } else A,Ra A.np A.nd A.M p)
def Em.rep (A:Em) (p:Pt):Em×Int:=(if Te A.nd A.M p=0 then { A with M:=A.M.set (Hb A.M p.id) p } else A,Te A.nd A.M p)
def Em.del (A:Em) (id:Int):Em×Int:=if has A.M id=true then ({ A with M:=A.M.take (Hb A.M id)++A.M.drop (Hb A.M id+1) },0) else (A,5)
open Classical in
noncomputable def Em.adv (A:Em) (t:Rat):Em×Int:=if Qs 128 t then (if t<A.q then (A,8) else ({ A with q:=t,s:=A.s+(cnt (ZC A.M) A.q t:Nat),t:=A.t+(cnt (OA A.M) A.q t:Nat),h:=A.h+(cnt (NE A.M) A.q t:Nat),p:=A.p+(cnt (bX A.M) A.q t:Nat),d:=A.d+(cnt (vE A.M) A.q t:Nat) },0)) else (A,1)
theorem Qks {np nd:Int} {k:Crv} (hn:I2 k) (hnd:nd<=2) (h1:Lz k=true) (h2:¬nd<Bh k):Sc k:=by
 obtain ⟨s1,s2,s3⟩:=JB.1 h1;unfold Bh at h2;exact ⟨hn,s1,s2,s3,by omega,by omega⟩
theorem Qb2 {p:Pt} (h:Nb p=true):(0<=p.id/\p.id<=1048576)/\Lz p.c=true:=by
 simp only [Nb,Zi,decide_eq_true_iff] at h;exact ⟨⟨h.1,h.2.1⟩,h.2.2⟩
theorem gU {M:List Pt} (hs:Hr M) {p:Pt} (h:has M p.id=true):Hr (M.set (Hb M p.id) p):=by
 have hl:=ZV h;have hid:∀ (x:Pt),M[Hb M p.id]? = some x->x.id=p.id:=λx hx=>by
  simp only [has,hx] at h; exact of_decide_eq_true h
 unfold Hr;rw [J0];intro i j hi hj hij;rw [Xd] at hi hj;have hx:=Qe hi;have hy:=Qe hj;have hlt:=yE hs hij hx hy;rw [List.getElem_set,List.getElem_set]
 split
 ·rename_i e; subst e;rw [if_neg (by omega)];have:=hid _ hx;omega
 ·split
  ·rename_i e; subst e;have:=hid _ hy;omega
  ·exact hlt
theorem Oz {M:List Pt} {i:Nat} {p x:Pt} (h:x∈M.set i p):x=p\/x∈M:=by
 rcases Ji h with h | h
 ·exact .inr h
 ·exact .inl h
theorem VF {M:List Pt} {i:Nat} {x:Pt} (h:x∈M.take i++M.drop (i+1)):x∈M:=by
 rcases Qr.1 h with h | h
 ·exact Qm h
 ·exact Qy h
theorem FO {M:List Pt} (hs:Hr M) (i:Nat):Hr (M.take i++M.drop (i+1)):=by
 have h:=hs;unfold Hr at h ⊢;rw [<-Ze i M,Xj] at h;refine Xj.2 ⟨h.1,?_,λx hx y hy=>h.2.2 x hx y ?_⟩
 ·have:M.drop (i+1)=(M.drop i).drop 1:=by rw [Jl]
  rw [this]; exact h.2.1.sublist (List.drop_sublist _ _)
 ·have:M.drop (i+1)=(M.drop i).drop 1:=by rw [Jl]
  rw [this] at hy; exact Qy hy
abbrev MI (f:Nat) (args:Uh) (E:Es) (res:Uh) (E':Es):Prop:=Uo prog f args (enB 0 E) res (enB 0 E')
theorem SQ {E:Es} {b:Int} (h:EOk b E) {lx ly:Uf} {px py:W9} {x y:LV} {d id:Int} (hx:IsInts lx px) (hy:IsInts ly py) (hd:Fu x y d) (hk:Cs 4294967294 1073741824 (Crv.mk px py d)) :
 ∃ E',EOk b E'/\E'.m=(E.m.ins ⟨Crv.norm (Crv.mk px py d),id⟩).1/\MI 27 [.one (.ow 0 0),.oi id,.agg [.row lx,.row ly,x,y]] E [.one (.int .i64 (E.m.ins ⟨Crv.norm (Crv.mk px py d),id⟩).2)] E':=by
 have hM:=h.m.m;have hl6:=hM.ln;have ct:=Ql3 (np:=E.np) (nd:=E.nd) (l:=E.M) (id:=id) hx hy hd hk (by omega);obtain ⟨p,hp⟩:=nmE (Pt.mk (Crv.norm (Crv.mk px py d)) id);have hpn:I2 p.c:=by rw [hp]; exact Crv.nml _
 by_cases e:Ra E.np E.nd E.M p=0
 ·have e0:Nb p=true/\has E.M p.id=false/\¬E.nd<Bh p.c/\¬E.np<=(E.M.length:Int):=by
   unfold Ra at e;by_cases a1:Nb p=false
   ·rw [if_pos a1] at e; cases e
   rw [if_neg a1] at e;by_cases a2:has E.M p.id=true
   ·rw [if_pos a2] at e; cases e
   rw [if_neg a2] at e;by_cases a3:E.nd<Bh p.c
   ·rw [if_pos a3] at e; cases e
   rw [if_neg a3] at e;by_cases a4:E.np<=(E.M.length:Int)
   ·rw [if_pos a4] at e; cases e
   exact ⟨by simpa using a1,by simpa using a2,a3,a4⟩
  obtain ⟨f1,f2,f3,f4⟩:=e0;obtain ⟨g1,g2⟩:=Qb2 f1;have hsc:=Qks (np:=E.np) hpn h.nd.2 g2 f3;have hpl:(put E.M p).length<=6:=by rw [IS]; have:=h.np.2; omega
  have hM':MOk (put E.M p):=⟨λz hz=>by rcases HT hz with rfl | hz; exact hsc; exact hM.sc z hz,hpl,MU hM.so f2⟩;have hME:MEn E.np E.nd (put E.M p):=⟨hM',by rw [IS]; have:=h.np.2; omega,λz hz=>by rcases HT hz with rfl | hz; omega; exact h.m.deg z hz,λz hz=>by rcases HT hz with rfl | hz; exact g1; exact h.m.id z hz⟩;have hpe:JH E.M p=0:=by unfold JH; rw [if_neg (by rw [f2]; decide),if_neg (by have:=h.np.2; omega)]
  rw [hp] at e hpe hM' hME hpl;rw [e,if_pos rfl] at ct;obtain ⟨w1,l1,a1⟩:=h.s.again okS hM';obtain ⟨w2,l2,a2⟩:=h.t.again okT hM';obtain ⟨w3,l3,a3⟩:=h.h.again okH hM';obtain ⟨w4,l4,a4⟩:=h.p.again okP hM';obtain ⟨w5,l5,a5⟩:=h.d.again okD hM';have c1:=Qls (c:=E.s) (l:=E.M) (r1:=NA E.M (tq E.q)) hx hy hd hk (by omega) hpe h.s.st.inv.ok hM'.sc (by omega) l1;have c2:=Qf7 (c:=E.t) (l:=E.M) (r1:=kE E.M (tq E.q)) hx hy hd hk (by omega) hpe h.t.st.inv.ok hM'.sc (by omega) l2;have c3:=Qfp (c:=E.h) (l:=E.M) (r1:=bK E.M (tq E.q)) hx hy hd hk (by omega) hpe h.h.st.inv.ok hM'.sc (by omega) l3;have c4:=Qfw (c:=E.p) (l:=E.M) (r1:=eY E.M (tq E.q)) hx hy hd hk (by omega) hpe h.p.st.inv.ok hM'.sc (by omega) l4;have c5:=Qfn (c:=E.d) (l:=E.M) (r1:=kL E.M (tq E.q)) hx hy hd hk (by omega) hpe h.d.st.inv.ok hM'.sc (by omega) l5;rw [h.s.now] at c1;rw [h.t.now] at c2;rw [h.h.now] at c3;rw [h.p.now] at c4;rw [h.d.now] at c5;obtain ⟨b1,r,rfl,rfl,_⟩:=hd;refine ⟨⟨E.np,E.nd,put E.M ⟨Crv.norm (Crv.mk px py d),id⟩,E.q,⟨tq E.q,w1,E.s.ev⟩,⟨tq E.q,w2,E.t.ev⟩,⟨tq E.q,w3,E.h.ev⟩,⟨tq E.q,w4,E.p.ev⟩,⟨tq E.q,w5,E.d.ev⟩⟩,⟨h.np,h.nd,hME,h.q,a1,a2,a3,a4,a5,h.es,h.et,h.eh,h.ep,h.ed⟩,?_,?_⟩
  ·unfold Em.ins;show _=if Ra E.np E.nd E.M _=0 then _ else _
   rw [if_pos e]; rfl
  ·have e2:(E.m.ins ⟨Crv.norm (Crv.mk px py d),id⟩).2=0:=e;rw [e2];exact aZ ct c1 c2 c3 c4 c5
 ·rw [hp] at e;rw [if_neg e] at ct;obtain ⟨b1,r,rfl,rfl,_⟩:=hd;refine ⟨E,h,?_,bN e ct⟩;unfold Em.ins;show _=if Ra E.np E.nd E.M _=0 then _ else _
  rw [if_neg e]
theorem Qah {E:Es} {b:Int} (h:EOk b E) {lx ly:Uf} {px py:W9} {x y:LV} {d id:Int} (hx:IsInts lx px) (hy:IsInts ly py) (hd:Fu x y d) (hk:Cs 4294967294 1073741824 (Crv.mk px py d)) :
 ∃ E',EOk b E'/\E'.m=(E.m.rep ⟨Crv.norm (Crv.mk px py d),id⟩).1/\MI 36 [.one (.ow 0 0),.oi id,.agg [.row lx,.row ly,x,y]] E [.one (.int .i64 (E.m.rep ⟨Crv.norm (Crv.mk px py d),id⟩).2)] E':=by
 have hM:=h.m.m;have hl6:=hM.ln;have ct:=Qgl (np:=E.np) (nd:=E.nd) (l:=E.M) (id:=id) hx hy hd hk (by omega);obtain ⟨p,hp⟩:=nmE (Pt.mk (Crv.norm (Crv.mk px py d)) id);have hpn:I2 p.c:=by rw [hp]; exact Crv.nml _
 have hpi:p.id=id:=by rw [hp]
 by_cases e:Te E.nd E.M p=0
 ·have e0:Nb p=true/\has E.M p.id=true/\¬E.nd<Bh p.c:=by
   unfold Te at e;by_cases a1:Nb p=false
   ·rw [if_pos a1] at e; cases e
   rw [if_neg a1] at e;by_cases a2:has E.M p.id=false
   ·rw [if_pos a2] at e; cases e
   rw [if_neg a2] at e;by_cases a3:E.nd<Bh p.c
   ·rw [if_pos a3] at e; cases e
   exact ⟨by simpa using a1,by simpa using a2,a3⟩
  obtain ⟨f1,f2,f3⟩:=e0;obtain ⟨g1,g2⟩:=Qb2 f1;have hsc:=Qks (np:=E.np) hpn h.nd.2 g2 f3;have hM':MOk (E.M.set (Hb E.M p.id) p):=⟨λz hz=>by rcases Oz hz with rfl | hz; exact hsc; exact hM.sc z hz,by rw [Xd]; exact hl6,gU hM.so f2⟩;have hME:MEn E.np E.nd (E.M.set (Hb E.M p.id) p):=⟨hM',by rw [Xd]; exact h.m.len,λz hz=>by rcases Oz hz with rfl | hz; omega; exact h.m.deg z hz,λz hz=>by rcases Oz hz with rfl | hz; exact g1; exact h.m.id z hz⟩;rw [hpi] at f2 hM' hME;rw [hp] at e hM' hME;rw [e,if_pos rfl] at ct;obtain ⟨w1,l1,a1⟩:=h.s.again okS hM';obtain ⟨w2,l2,a2⟩:=h.t.again okT hM';obtain ⟨w3,l3,a3⟩:=h.h.again okH hM';obtain ⟨w4,l4,a4⟩:=h.p.again okP hM';obtain ⟨w5,l5,a5⟩:=h.d.again okD hM';have c1:=Qf0 (c:=E.s) (l:=E.M) (r1:=NA E.M (tq E.q)) hx hy hd hk (by omega) f2 h.s.st.inv.ok rfl hM'.sc l1;have c2:=aL (c:=E.t) (l:=E.M) (r1:=kE E.M (tq E.q)) hx hy hd hk (by omega) f2 h.t.st.inv.ok rfl hM'.sc l2;have c3:=eO (c:=E.h) (l:=E.M) (r1:=bK E.M (tq E.q)) hx hy hd hk (by omega) f2 h.h.st.inv.ok rfl hM'.sc l3;have c4:=aU (c:=E.p) (l:=E.M) (r1:=eY E.M (tq E.q)) hx hy hd hk (by omega) f2 h.p.st.inv.ok rfl hM'.sc l4;have c5:=eP (c:=E.d) (l:=E.M) (r1:=kL E.M (tq E.q)) hx hy hd hk (by omega) f2 h.d.st.inv.ok rfl hM'.sc l5;rw [h.s.now] at c1;rw [h.t.now] at c2;rw [h.h.now] at c3;rw [h.p.now] at c4;rw [h.d.now] at c5;obtain ⟨b1,r,rfl,rfl,_⟩:=hd;refine ⟨⟨E.np,E.nd,E.M.set (Hb E.M id) ⟨Crv.norm (Crv.mk px py d),id⟩,E.q,⟨tq E.q,w1,E.s.ev⟩,⟨tq E.q,w2,E.t.ev⟩,⟨tq E.q,w3,E.h.ev⟩,⟨tq E.q,w4,E.p.ev⟩,⟨tq E.q,w5,E.d.ev⟩⟩,⟨h.np,h.nd,hME,h.q,a1,a2,a3,a4,a5,h.es,h.et,h.eh,h.ep,h.ed⟩,?_,?_⟩
  ·unfold Em.rep;show _=if Te E.nd E.M _=0 then _ else _
   rw [if_pos e]; rfl
  ·have e2:(E.m.rep ⟨Crv.norm (Crv.mk px py d),id⟩).2=0:=e;rw [e2];exact aH ct c1 c2 c3 c4 c5
 ·rw [hp] at e;rw [if_neg e] at ct;obtain ⟨b1,r,rfl,rfl,_⟩:=hd;refine ⟨E,h,?_,bC e ct⟩;unfold Em.rep;show _=if Te E.nd E.M _=0 then _ else _
  rw [if_neg e]
theorem Qaf {E:Es} {b id:Int} (h:EOk b E) :
 ∃ E',EOk b E'/\E'.m=(E.m.del id).1/\MI 37 [.one (.ow 0 0),.oi id] E [.one (.int .i64 (E.m.del id).2)] E':=by
 have hM:=h.m.m;have hl6:=hM.ln;by_cases f2:has E.M id=true
 ·have ct:=Qgk (np:=E.np) (nd:=E.nd) (l:=E.M) (by omega) f2;have hpl:=ZV f2;have hgl:=zO hpl;have hM':MOk (E.M.take (Hb E.M id)++E.M.drop (Hb E.M id+1)):=⟨λz hz=>hM.sc z (VF hz),by omega,FO hM.so _⟩;have hME:MEn E.np E.nd (E.M.take (Hb E.M id)++E.M.drop (Hb E.M id+1)):=⟨hM',by have:=h.m.len; omega,λz hz=>h.m.deg z (VF hz),λz hz=>h.m.id z (VF hz)⟩;obtain ⟨w1,l1,a1⟩:=h.s.again okS hM';obtain ⟨w2,l2,a2⟩:=h.t.again okT hM';obtain ⟨w3,l3,a3⟩:=h.h.again okH hM';obtain ⟨w4,l4,a4⟩:=h.p.again okP hM';obtain ⟨w5,l5,a5⟩:=h.d.again okD hM';have c1:=Qfy (c:=E.s) (l:=E.M) (r1:=NA E.M (tq E.q)) (by omega) f2 h.s.st.inv.ok rfl hM'.sc l1;have c2:=aD (c:=E.t) (l:=E.M) (r1:=kE E.M (tq E.q)) (by omega) f2 h.t.st.inv.ok rfl hM'.sc l2;have c3:=eA (c:=E.h) (l:=E.M) (r1:=bK E.M (tq E.q)) (by omega) f2 h.h.st.inv.ok rfl hM'.sc l3;have c4:=aW (c:=E.p) (l:=E.M) (r1:=eY E.M (tq E.q)) (by omega) f2 h.p.st.inv.ok rfl hM'.sc l4;have c5:=eS (c:=E.d) (l:=E.M) (r1:=kL E.M (tq E.q)) (by omega) f2 h.d.st.inv.ok rfl hM'.sc l5;rw [h.s.now] at c1;rw [h.t.now] at c2;rw [h.h.now] at c3;rw [h.p.now] at c4;rw [h.d.now] at c5;have e2:E.m.del id=({ E.m with M:=E.M.take (Hb E.M id)++E.M.drop (Hb E.M id+1) },0):=if_pos f2;rw [e2];exact ⟨⟨E.np,E.nd,E.M.take (Hb E.M id)++E.M.drop (Hb E.M id+1),E.q,⟨tq E.q,w1,E.s.ev⟩,⟨tq E.q,w2,E.t.ev⟩,⟨tq E.q,w3,E.h.ev⟩,⟨tq E.q,w4,E.p.ev⟩,⟨tq E.q,w5,E.d.ev⟩⟩,⟨h.np,h.nd,hME,h.q,a1,a2,a3,a4,a5,h.es,h.et,h.eh,h.ep,h.ed⟩,rfl,eM ct c1 c2 c3 c4 c5⟩
 ·have e2:E.m.del id=(E.m,5):=if_neg f2;rw [e2];exact ⟨E,h,rfl,bF (show (5:Int)≠0 by decide) (iN (by omega) (by simpa using f2))⟩
theorem cS {E:Es} {b:Int} (h:EOk b E) (hb:b<=900000000000000000) {x0 x1 x2 x3:LV} {n m:Int} {t:Rat} (ha:Fu x0 x1 n) (hc:Fu x2 x3 m) (sa:U0 n<=4294967295) (sb:U0 m<=4294967295) (ht:To n m=t) :
 ∃ E',EOk (b+67000000) E'/\E'.m=(E.m.adv t).1/\((E.m.adv t).2≠0->E'=E)/\MI 21 [.one (.ow 0 0),.agg [x0,x1,x2,x3]] E [.one (.int .i64 (E.m.adv t).2)] E':=by
 have hM:=h.m.m;have hl6:=hM.ln;by_cases hs:Qs 128 t
 ·by_cases hp:t<E.q
  ·have e2:E.m.adv t=(E.m,8):=by unfold Em.adv; rw [if_pos hs]; exact if_pos hp
   rw [e2];exact ⟨E,h.mono (by omega),rfl,λ_=>rfl,NV ha hc sa sb ht hs h.q hp⟩
  ·have hqt:E.q<=t:=Rat.not_lt.1 hp;have e2:E.m.adv t=(({ E.m with q:=t,s:=E.s.ev+(cnt (ZC E.M) E.q t:Nat),t:=E.t.ev+(cnt (OA E.M) E.q t:Nat),h:=E.h.ev+(cnt (NE E.M) E.q t:Nat),p:=E.p.ev+(cnt (bX E.M) E.q t:Nat),d:=E.d.ev+(cnt (vE E.M) E.q t:Nat) }:Em),0):=by unfold Em.adv; rw [if_pos hs]; exact if_neg hp
   rw [e2];have hq:Qs 1640000 t:=hs.mono (by decide);obtain ⟨K1,d1,k1,g1,a1,v1,u1,_⟩:=h.s.adv okS hM hq hqt;obtain ⟨K2,d2,k2,g2,a2,v2,u2,_⟩:=h.t.adv okT hM hq hqt;obtain ⟨K3,d3,k3,g3,a3,v3,u3,_⟩:=h.h.adv okH hM hq hqt;obtain ⟨K4,d4,k4,g4,a4,v4,u4,_⟩:=h.p.adv okP hM hq hqt;obtain ⟨K5,d5,k5,g5,a5,v5,u5,_⟩:=h.d.adv okD hM hq hqt;have hcm:∀ {c:Cr},c.now=tq E.q->Uz c.now t<=0:=λ{c} hn=>by
    rw [hn,vW]; exact GI.2 hqt
   have c1:=Qlq hq hM.sc (by omega) h.s.st.inv.ok (by have:=h.es; omega) (hcm h.s.now) g1;have c2:=Qf6 hq hM.sc (by omega) h.t.st.inv.ok (by have:=h.et; omega) (hcm h.t.now) g2;have c3:=Qli hq hM.sc (by omega) h.h.st.inv.ok (by have:=h.eh; omega) (hcm h.h.now) g3;have c4:=Qfv hq hM.sc (by omega) h.p.st.inv.ok (by have:=h.ep; omega) (hcm h.p.now) g4;have c5:=Qlg hq hM.sc (by omega) h.d.st.inv.ok (by have:=h.ed; omega) (hcm h.d.now) g5;refine ⟨⟨E.np,E.nd,E.M,t,d1,d2,d3,d4,d5⟩,⟨h.np,h.nd,h.m,hs,a1,a2,a3,a4,a5,?_,?_,?_,?_,?_⟩,?_,λh=>absurd rfl h,bU ha hc sa sb ht hs h.q hqt c1 c2 c3 c4 c5⟩
   ·have:=h.es; show 0<=d1.ev/\d1.ev<=_; omega
   ·have:=h.et; show 0<=d2.ev/\d2.ev<=_; omega
   ·have:=h.eh; show 0<=d3.ev/\d3.ev<=_; omega
   ·have:=h.ep; show 0<=d4.ev/\d4.ev<=_; omega
   ·have:=h.ed; show 0<=d5.ev/\d5.ev<=_; omega
   ·unfold Es.m;simp only [v1,v2,v3,v4,v5]
 ·have e2:E.m.adv t=(E.m,1):=by unfold Em.adv; exact if_neg hs
  rw [e2];exact ⟨E,h.mono (by omega),rfl,λ_=>rfl,LI ha hc sa sb ht hs⟩
end Orr
namespace Orr
open Go Go.Proofs Tryz Orq
set_option maxRecDepth 10000
theorem Oe {E:Es} {b:Int} (h:EOk b E) {c:Crv} {id e:Int} {A A':Em} (hn:I2 c) (hc:Cs 4294967294 1073741824 c) (hm:E.m=A) (he:A.ins ⟨c,id⟩=(A',e)):∃ E',EOk b E'/\E'.m=A'/\MI 27 [.one (.ow 0 0),.oi id,.agg (cl c)] E [.oi e] E':=by
 obtain ⟨E',h1,h2,h3⟩:=SQ h (id:=id) (Fx c.x) (Fx c.y) (Um c.d) hc;have e1:Crv.norm (Crv.mk c.x c.y c.d)=c:=Crv.norm_of hn;rw [e1,hm,he] at h2 h3;exact ⟨E',h1,h2,h3⟩
theorem Qag {E:Es} {b:Int} (h:EOk b E) {c:Crv} {id e:Int} {A A':Em} (hn:I2 c) (hc:Cs 4294967294 1073741824 c) (hm:E.m=A) (he:A.rep ⟨c,id⟩=(A',e)):∃ E',EOk b E'/\E'.m=A'/\MI 36 [.one (.ow 0 0),.oi id,.agg (cl c)] E [.oi e] E':=by
 obtain ⟨E',h1,h2,h3⟩:=Qah h (id:=id) (Fx c.x) (Fx c.y) (Um c.d) hc;have e1:Crv.norm (Crv.mk c.x c.y c.d)=c:=Crv.norm_of hn;rw [e1,hm,he] at h2 h3;exact ⟨E',h1,h2,h3⟩
theorem wM {E:Es} {b id e:Int} (h:EOk b E) {A A':Em} (hm:E.m=A) (he:A.del id=(A',e)):∃ E',EOk b E'/\E'.m=A'/\MI 37 [.one (.ow 0 0),.oi id] E [.oi e] E':=by
 obtain ⟨E',h1,h2,h3⟩:=Qaf h (id:=id);rw [hm,he] at h2 h3;exact ⟨E',h1,h2,h3⟩
theorem QI {A:Em} {p:Pt} {e:Int} (h:Ra A.np A.nd A.M p=e) (h0:e≠0):A.ins p=(A,e):=by unfold Em.ins; rw [h,if_neg h0]
theorem Qbh {A:Em} {p:Pt} (h:Ra A.np A.nd A.M p=0):A.ins p=({ A with M:=put A.M p },0):=by unfold Em.ins; rw [h,if_pos rfl]
theorem mO {A:Em} {p:Pt} {e:Int} (h:Te A.nd A.M p=e) (h0:e≠0):A.rep p=(A,e):=by unfold Em.rep; rw [h,if_neg h0]
theorem Qmc {A:Em} {id:Int} (h:has A.M id=true):A.del id=({ A with M:=A.M.take (Hb A.M id)++A.M.drop (Hb A.M id+1) },0):=if_pos h
theorem sJ {A:Em} {id:Int} (h:has A.M id=false):A.del id=(A,5):=if_neg (by rw [h]; decide)
theorem VU {c:Crv} {id:Int} (h:0<=id/\id<=1048576) (hs:Lz c=true):Nb ⟨c,id⟩=true:=by
 simp [Nb,h.1,h.2,hs]
theorem Qb1 {c:Crv} {id:Int} (h:id<0\/1048576<id):Nb ⟨c,id⟩=false:=by
 rcases h with h | h
 ·simp [Nb,show ¬0<=id by omega]
 ·simp [Nb,show ¬id<=1048576 by omega]
theorem QF {c:Crv} (h:Sc c):Lz c=true:=JB.2 ⟨h.c.x,h.c.y,h.c.d⟩
section
variable {np nd:Int} {M:List Pt} {p:Pt}
theorem vV (h:Nb p=false):Ra np nd M p=1:=if_pos h
theorem rQ (h:Nb p=true) (h2:has M p.id=true):Ra np nd M p=6:=by
 unfold Ra; rw [if_neg (by rw [h]; decide),if_pos h2]
theorem vK (h:Nb p=true) (h2:has M p.id=false) (h3:nd<Bh p.c):Ra np nd M p=7:=by
 unfold Ra; rw [if_neg (by rw [h]; decide),if_neg (by rw [h2]; decide),if_pos h3]
theorem lZ (h:Nb p=true) (h2:has M p.id=false) (h3:Bh p.c<=nd) (h4:np<=(M.length:Int)):Ra np nd M p=9:=by
 unfold Ra; rw [if_neg (by rw [h]; decide),if_neg (by rw [h2]; decide),if_neg (by omega),if_pos h4]
theorem nP (h:Nb p=true) (h2:has M p.id=false) (h3:Bh p.c<=nd) (h4:(M.length:Int)<np):Ra np nd M p=0:=by
 unfold Ra; rw [if_neg (by rw [h]; decide),if_neg (by rw [h2]; decide),if_neg (by omega),if_neg (by omega)]
theorem rZ (h:Nb p=true) (h2:has M p.id=false):Te nd M p=5:=by
 unfold Te; rw [if_neg (by rw [h]; decide),if_pos h2]
theorem lX (h:Nb p=true) (h2:has M p.id=true) (h3:nd<Bh p.c):Te nd M p=7:=by
 unfold Te; rw [if_neg (by rw [h]; decide),if_neg (by rw [h2]; decide),if_pos h3]
end
end Orr
namespace Orr
theorem yW:∀ {l:List Pt} {q:Pt},(∀ p∈l,p.id<q.id)->put l q=l++[q]
 | [],_,_=>rfl
 | p::l,q,h=>by rw [yK,if_pos (h p (by simp)),yW λx hx=>h x (Qf _ hx)]; rfl
end Orr
namespace Orr
open Go Go.Proofs Tryz Orq
def Ez (i:Nat):List Pt:=(List.range i).map λ(j:Nat)=>Pt.mk (Tg (j:Int) 0) (j:Int)
theorem vZ (i:Nat):Ez (i+1)=Ez i++[⟨Tg (i:Int) 0,(i:Int)⟩]:=by unfold Ez; rw [List.range_succ,List.map_append]; rfl
theorem OX (i:Nat):(Ez i).length=i:=by simp [Ez]
theorem OJ {i:Nat}:∀ p∈Ez i,p.id<(i:Int):=λp hp=>by
 unfold Ez at hp;obtain ⟨j,hj,rfl⟩:=Zf.1 hp;have:=Kz.1 hj;show (j:Int)<(i:Int); omega
theorem Is:∀ i,Hr (Ez i)
 | 0=>List.Pairwise.nil
 |
  i+1=>by
  rw [vZ];exact Xj.2 ⟨Is i,Y6 ..,λx hx y hy=>by rw [Ql.1 hy]; exact OJ x hx⟩
theorem nU {i j:Nat} (h:j<i):(Ez i)[j]? = some ⟨Tg (j:Int) 0,(j:Int)⟩:=by unfold Ez; rw [List.getElem?_map,List.getElem?_range h]; rfl
theorem nF {i j:Nat} (h:j<i):has (Ez i) (j:Int)=true:=Qmt (Is i) (nU h)
theorem nG (i:Nat):has (Ez i) (i:Int)=false:=sL (Is i) OJ
theorem Qiw (i:Nat):put (Ez i) ⟨Tg (i:Int) 0,(i:Int)⟩=Ez (i+1):=by rw [vZ]; exact yW OJ
theorem WF {x y:Int} (hx:-9223372036854775808<=x/\x<=9223372036854775807) (hy:-9223372036854775808<=y/\y<=9223372036854775807):Bh (Tg x y)<=0:=by
 have h:=(TB hx hy).norm (by decide);have h1:(Tg x y).x.length<=1:=h.lx;have h2:(Tg x y).y.length<=1:=h.ly;unfold Bh; omega
end Orr
namespace Orr
open Go Go.Proofs Tryz Orq
set_option maxRecDepth 10000
theorem qV {b:Int} (h:0<=b):0<=(0:Int)/\(0:Int)<=b:=⟨Ju _,h⟩
def jZ (np nd:Int):Es:=⟨np,nd,[],0,Qfi [] (tq 0),Qow [] (tq 0),Qou [] (tq 0),Qov [] (tq 0),Qot [] (tq 0)⟩
theorem ZJ:MOk []:=⟨λp h=>(by cases h),by decide,List.Pairwise.nil⟩
theorem Qcb {np nd:Int} (h1:1<=np/\np<=6) (h2:0<=nd/\nd<=2):EOk 0 (jZ np nd):=by
 have hq:Qs 1640000 (0:Rat):=⟨by decide,by decide⟩;exact ⟨h1,h2,⟨ZJ,by show ((0:Nat):Int)<=np; omega,λp h=>(by cases h),λp h=>(by cases h)⟩,(show Qs 128 (0:Rat) from ⟨by decide,by decide⟩),At.begin okS ZJ hq,At.begin okT ZJ hq,At.begin okH ZJ hq,At.begin okP ZJ hq,At.begin okD ZJ hq,qV (Ju _),qV (Ju _),qV (Ju _),qV (Ju _),qV (Ju _)⟩
theorem aJ {np nd:Int} (h1:1<=np/\np<=6) (h2:0<=nd/\nd<=2):Uo prog 26 [.oi np,.oi nd] [] [.one (.ow 0 0),.oi 0] (enB 0 (jZ np nd)):=Qlh h1 h2
theorem Qoe:(YQ (ZC GZ) (NA GZ) 3 600 (Qfi GZ (tq 0)) (NA GZ (tq 0)) 0).map (λx=>x.2.2)=some 1:=by decide +kernel
theorem Qja:(Rv (tq 3) GZ).map (·.id)=[2,1]:=by decide +kernel
theorem Qb5:MOk GZ:=⟨Qqp,by decide,by unfold Hr GZ; decide⟩
theorem Qod:cnt (ZC GZ) 0 3=1:=by
 have hq:Qs 1640000 (0:Rat):=⟨by decide,by decide⟩;have ht:Qs 1640000 (3:Rat):=⟨by decide,by decide⟩;have S:=okS.st GZ Qb5;have hv:=NC hq;have hP:=okS.cp GZ Qb5;have hm:=OV hP;have hmu:=Qkk ((kS.al GZ).flatMap NB) (tq 0);have hl:(Dn GZ).length=8:=by rw [qY]; rfl
 have hc:¬Pz (tq 3) (tq 0):=λh'=>by
  have:=(WV hv.cut).2 h';rw [vW] at this;exact absurd this (by decide +kernel)
 have hl2:(kS.al GZ).length=8:=hl;obtain ⟨c',r',E,g1,g2,g3,g4,g5,g6⟩:=Qkd S ht hP (λa _=>okS.al GZ a) 599 ⟨tq 0,(U6 (ZC GZ (tq 0))).map fresh,0⟩ (NA GZ (tq 0)) 0 (Qd hmu (by omega)) (eJ S hv) hc;have h1:=Qoe;have g1:YQ (ZC GZ) (NA GZ) 3 600 (Qfi GZ (tq 0)) (NA GZ (tq 0)) 0=some (c',r',0+((E.length:Nat):Int)):=g1;rw [g1] at h1;have h1:some (0+((E.length:Nat):Int))=some 1:=h1;injection h1 with h1;rw [oW S hv g6];omega
theorem jJ:Crv.norm (Crv.mk [0,1] [] 0)=run1:=by
 have e:Crv.norm (Crv.mk [0,1] [] 1)=Crv.norm (Crv.mk [0,1] [] 0):=by simp only [Crv.norm,Crv.g,Crv.d']; rfl
 rw [<-e]; exact Crv.norm_of PS
theorem Qpd:W6 35 [.one (.row [[.bool false,.row []],[.bool false,.row [[.int .u32 1]]]]),.one (.row [])] [.agg (cl run1)]:=by
 have i01:IsInts [[.bool false,.row []],[.bool false,.row [[.int .u32 1]]]] [0,1]:=by
  refine ⟨⟨_,_,rfl,false,[],rfl,rfl,(λx hx=>by cases hx),rfl⟩,⟨_,_,rfl,false,[1],rfl,rfl,(λx hx=>by rw [Ql.1 hx]; decide),rfl⟩,trivial⟩
 have h:=tZ (lx:=[[.bool false,.row []],[.bool false,.row [[.int .u32 1]]]]) (ly:=[]) (px:=[0,1]) (py:=[]) i01 trivial ⟨Uk cs_run1.x (by decide),Eo,by show U0 0<=_; decide,by show 2<=1073741824; decide,by show 0<=1073741824; decide⟩;rw [jJ] at h; exact h
theorem Qic:Ra 2 1 [] ⟨run1,1⟩=0:=by decide +kernel
theorem Qid:Ra 2 1 [⟨run1,1⟩] ⟨Tg 1 0,2⟩=0:=by decide +kernel
theorem Qog:∃ E1 E2:Es,EOk 0 E2/\E2.m=⟨2,1,GZ,0,0,0,0,0,0⟩/\MI 27 [.one (.ow 0 0),.oi 1,.agg (cl run1)] (jZ 2 1) [.oi 0] E1/\MI 27 [.one (.ow 0 0),.oi 2,.agg (cl (Tg 1 0))] E1 [.oi 0] E2:=by
 have h0:=Qcb (np:=2) (nd:=1) (by decide) (by decide);have hst:=QU (x:=1) (y:=0) (by decide) (by decide);have e1:Crv.norm (Crv.mk run1.x run1.y run1.d)=run1:=Crv.norm_of PS;have e2:Crv.norm (Crv.mk (Tg 1 0).x (Tg 1 0).y (Tg 1 0).d)=Tg 1 0:=Crv.norm_of hst.n;obtain ⟨E1,a1,a2,a3⟩:=SQ h0 (id:=1) (Fx run1.x) (Fx run1.y) (Um run1.d) (cs_run1.up (by decide) (by decide));rw [e1] at a2 a3;have i1:(jZ 2 1).m.ins ⟨run1,1⟩=((⟨2,1,[⟨run1,1⟩],0,0,0,0,0,0⟩:Em),0):=by
  unfold Em.ins;rw [show Ra (jZ 2 1).m.np (jZ 2 1).m.nd (jZ 2 1).m.M ⟨run1,1⟩=0 from Qic,if_pos rfl]; rfl
 rw [i1] at a2 a3;obtain ⟨E2,b1,b2,b3⟩:=SQ a1 (id:=2) (Fx (Tg 1 0).x) (Fx (Tg 1 0).y) (Um (Tg 1 0).d) (hst.c.mono (by decide) (by decide));rw [e2,a2] at b2 b3;have i2:((⟨2,1,[⟨run1,1⟩],0,0,0,0,0,0⟩:Em),(0:Int)).1.ins ⟨Tg 1 0,2⟩=((⟨2,1,GZ,0,0,0,0,0,0⟩:Em),0):=by
  unfold Em.ins;dsimp only;rw [Qid,if_pos rfl]; rfl
 rw [i2] at b2 b3;exact ⟨E1,E2,b1,b2,a3,b3⟩
theorem Qbw {E:Es} {A:Em} (h:E.m=A):E.np=A.np/\E.nd=A.nd/\E.M=A.M/\E.q=A.q/\E.s.ev=A.s/\E.t.ev=A.t/\E.h.ev=A.h/\E.p.ev=A.p/\E.d.ev=A.d:=by subst h; exact ⟨rfl,rfl,rfl,rfl,rfl,rfl,rfl,rfl,rfl⟩
theorem lN {A:Em} {t:Rat} (h1:Qs 128 t) (h2:¬t<A.q):A.adv t=(({ A with q:=t,s:=A.s+(cnt (ZC A.M) A.q t:Nat),t:=A.t+(cnt (OA A.M) A.q t:Nat),h:=A.h+(cnt (NE A.M) A.q t:Nat),p:=A.p+(cnt (bX A.M) A.q t:Nat),d:=A.d+(cnt (vE A.M) A.q t:Nat) }:Em),0):=by
 unfold Em.adv; rw [if_pos h1]; exact if_neg h2
theorem cH:W6 34 [] [.one (.bool true)]:=by
 obtain ⟨E1,E2,h2,m2,i1,i2⟩:=Qog;have ht:Qs 128 (3:Rat):=⟨by decide,by decide⟩;obtain ⟨E3,h3,m3,_,a3⟩:=cS h2 (by decide) (Um (3:Rat).num) (Um ((3:Rat).den:Int)) (by decide) (by decide) (Sl 3);rw [m2,lN ht (by show ¬(3:Rat)<0; decide)] at m3 a3;obtain ⟨_,_,e1,e2,e3,_⟩:=Qbw m2;obtain ⟨_,_,f1,f2,f3,_⟩:=Qbw m3;dsimp only at e1 e2 e3 f1 f2 f3;rw [Qod] at f3;have t2:=aC (np:=E2.np) (nd:=E2.nd) (M:=E2.M) (q:=E2.q) (s:=E2.s) (t:=E2.t) (h:=E2.h) (p:=E2.p) (d:=E2.d) h2.m.m.ln;have t3:=aC (np:=E3.np) (nd:=E3.nd) (M:=E3.M) (q:=E3.q) (s:=E3.s) (t:=E3.t) (h:=E3.h) (p:=E3.p) (d:=E3.d) h3.m.m.ln;obtain ⟨A2,hA2⟩:=nmE (Qk6 E2.M E2.q);obtain ⟨A3,hA3⟩:=nmE (Qk6 E3.M E3.q);rw [<-hA2] at t2;rw [<-hA3] at t3;have g2:∃ a b c d,A2=[ids [1,2],.row a,.row b,.row c,.row d]:=by
  rw [hA2,e1,e2];show ∃ a b c d,[ids ((Rv (tq 0) GZ).map (·.id)),_,_,_,_]=_;rw [Qof];exact ⟨_,_,_,_,rfl⟩
 have g3:∃ a b c d,A3=[ids [2,1],.row a,.row b,.row c,.row d]:=by
  rw [hA3,f1,f2];show ∃ a b c d,[ids ((Rv (tq 3) GZ).map (·.id)),_,_,_,_]=_;rw [Qja];exact ⟨_,_,_,_,rfl⟩
 obtain ⟨a,b,c,d,rfl⟩:=g2;obtain ⟨a',b',c',d',rfl⟩:=g3;have cs:=aP (a:=[1,2]) (b:=[1,2]) (by decide) (by decide);have cs2:=aP (a:=[2,1]) (b:=[2,1]) (by decide) (by decide);have co:=Qlp (n:=3) (by decide);have ct:=Qpa (q:=3) ⟨by decide,by decide⟩;have cst:=GB (x:=1) (y:=0) (by decide) (by decide);have ce:=eG (np:=E3.np) (nd:=E3.nd) (M:=E3.M) (q:=E3.q) (s:=E3.s) (t:=E3.t) (h:=E3.h) (p:=E3.p) (d:=E3.d);rw [f3] at ce;refine Fl func34 rfl ?_;exact W0 [.c Ui (aJ (by decide) (by decide)),.f rfl,.f rfl,.z 16,.k Qpd,.c Ui i1,.f rfl,.k cst,.c Ui i2,.f rfl,.c Ui t2,.k co,.k ct,.c Ui a3,.t rfl,.k cs,.t rfl,.c Ui t3,.k cs2,.t rfl,.c Ui ce,.i 0] rfl rfl (by simp [Ul])

end Orr
namespace Orr
open Go
structure RawOp where
 k:Int
 n:Int
 d:Int
 p:RawPt
 t:RawInt
 u:RawInt
structure RawOp.Ok (o:RawOp):Prop where
 k:-9223372036854775808<=o.k/\o.k<=9223372036854775807
 n:-9223372036854775808<=o.n/\o.n<=9223372036854775807
 d:-9223372036854775808<=o.d/\o.d<=9223372036854775807
 p:o.p.Ok
 t:o.t.Ok
 u:o.u.Ok
end Orr
namespace Orr
open Go Go.Proofs Tryz Orq
set_option maxRecDepth 10000
theorem ON {v n:Int} (h:0<n):0<=NL v n/\NL v n<n:=by
 unfold NL;rw [if_neg (by omega)];exact ⟨Km _ (by omega),V0 _ h⟩
abbrev MH (p d:Int) (M:List Pt):Em:=⟨p,d,M,0,0,0,0,0,0⟩
abbrev Qip:Crv:=⟨[0,0,1],[],1⟩
theorem jX:I2 Qip:=⟨rfl,rfl,by decide,by decide⟩
theorem sc_run3:Sc Qip:=⟨jX,⟨λz hz=>by
 simp only [Qk,Jw,or_false] at hz;rcases hz with rfl | rfl | rfl <;> decide,Eo,by decide,by decide,by decide⟩⟩
theorem dU:Crv.norm (Crv.mk [0,0,1] [] 0)=Qip:=by
 have e:Crv.norm (Crv.mk [0,0,1] [] 1)=Crv.norm (Crv.mk [0,0,1] [] 0):=by simp only [Crv.norm,Crv.g,Crv.d']; rfl
 rw [<-e]; exact Crv.norm_of jX
theorem Qpj {d:Int} (hd:d=0\/d=1):∃ (c:Crv) (u:W9),Sc c/\Bh c=d+1/\(d=0->u=[0,1])/\(d=1->u=[0,0,1])/\W6 30 [.one (ids u)] [pr u]/\W6 35 [pr u,.one (.row [])] [.agg (cl c)]:=by
 rcases hd with rfl | rfl
 ·refine ⟨run1,[0,1],sc_run1,by decide,λ_=>rfl,λh=>absurd h (by decide),BY (p:=[0,1]) (by decide) (by decide),?_⟩;have h:=tZ (lx:=[0,1].map Gw) (ly:=[]) (px:=[0,1]) (py:=[]) (Fx [0,1]) trivial ⟨Uk sc_run1.c.x (by decide),Eo,by show U0 0<=_; decide,by show 2<=1073741824; decide,by show 0<=1073741824; decide⟩;rw [jJ] at h; exact h
 ·refine ⟨Qip,[0,0,1],sc_run3,by decide,λh=>absurd h (by decide),λ_=>rfl,BY (p:=[0,0,1]) (by decide) (by decide),?_⟩;have h:=tZ (lx:=[0,0,1].map Gw) (ly:=[]) (px:=[0,0,1]) (py:=[]) (Fx [0,0,1]) trivial ⟨Uk sc_run3.c.x (by decide),Eo,by show U0 0<=_; decide,by show 3<=1073741824; decide,by show 0<=1073741824; decide⟩;rw [dU] at h; exact h
theorem Qdb {p d:Int} {i:Nat} {E:Es} {c:Crv} (hp:p<=6) (hd:0<=d) (hi:(i:Int)<p) (hc:Sc c) (hdc:Bh c=d+1) (h:EOk 0 E) (hm:E.m=MH p d (Ez i)) :
 ∃ E1 E2 E3 E4:Es,EOk 0 E4/\E4.m=MH p d (Ez (i+1))/\MI 27 [.one (.ow 0 0),.oi i,.agg (cl c)] E [.oi 7] E1/\MI 27 [.one (.ow 0 0),.oi i,.agg (cl (Tg (i:Int) 0))] E1 [.oi 0] E2/\MI 27 [.one (.ow 0 0),.oi i,.agg (cl c)] E2 [.oi 6] E3/\MI 36 [.one (.ow 0 0),.oi i,.agg (cl c)] E3 [.oi 7] E4:=by
 have hcs:=hc.c.mono (show 128<=4294967294 by decide) (show 3<=1073741824 by decide);have hst:=QU (x:=(i:Int)) (y:=0) (by omega) (by decide);have hss:=hst.c.mono (show 128<=4294967294 by decide) (show 3<=1073741824 by decide);have hid:0<=(i:Int)/\(i:Int)<=1048576:=by omega
 have mc:=VU hid (QF hc);have ms:=VU hid (QF hst);have hds:=WF (x:=(i:Int)) (y:=0) (by omega) (by decide);have hno:=nG i;have hyes:=nF (i:=i+1) (j:=i) (by omega);obtain ⟨E1,a1,a2,a3⟩:=Oe h (id:=(i:Int)) hc.n hcs hm (QI (A:=MH p d (Ez i)) (vK (nd:=d) mc hno (by show d<Bh c; omega)) (by decide));obtain ⟨E2,b1,b2,b3⟩:=Oe a1 (id:=(i:Int)) hst.n hss a2 (Qbh (A:=MH p d (Ez i)) (nP (np:=p) (nd:=d) ms hno (by show Bh (Tg (i:Int) 0)<=d; omega) (by show ((Ez i).length:Int)<p; rw [OX]; exact hi)));have b2:E2.m=MH p d (Ez (i+1)):=by rw [b2]; show MH p d (put (Ez i) _)=_; rw [Qiw]
 obtain ⟨E3,c1,c2,c3⟩:=Oe b1 (id:=(i:Int)) hc.n hcs b2 (QI (A:=MH p d (Ez (i+1))) (rQ mc hyes) (by decide));obtain ⟨E4,d1,d2,d3⟩:=Qag c1 (id:=(i:Int)) hc.n hcs c2 (mO (A:=MH p d (Ez (i+1))) (lX (nd:=d) mc hyes (by show d<Bh c; omega)) (by decide));exact ⟨E1,E2,E3,E4,d1,d2,a3,b3,c3,d3⟩
theorem Qil {d:Int} {p:Nat} {E:Es} {c:Crv} (hp:1<=p/\p<=6) (hd:0<=d) (hc:Sc c) (hdc:Bh c=d+1) (h:EOk 0 E) (hm:E.m=MH p d (Ez p)) :
 ∃ E1 E2 E3 E4 E5 E6:Es,EOk 0 E6/\E6.m=MH p d (Ez p)/\MI 27 [.one (.ow 0 0),.oi p,.agg (cl (Tg 1 1))] E [.oi 9] E1/\MI 27 [.one (.ow 0 0),.oi p,.agg (cl c)] E1 [.oi 7] E2/\MI 27 [.one (.ow 0 0),.oi (-1),.agg (cl c)] E2 [.oi 1] E3/\MI 27 [.one (.ow 0 0),.oi 1048577,.agg (cl c)] E3 [.oi 1] E4/\MI 37 [.one (.ow 0 0),.oi p] E4 [.oi 5] E5/\MI 36 [.one (.ow 0 0),.oi p,.agg (cl c)] E5 [.oi 5] E6:=by
 have hcs:=hc.c.mono (show 128<=4294967294 by decide) (show 3<=1073741824 by decide);have hst:=QU (x:=1) (y:=1) (by decide) (by decide);have hss:=hst.c.mono (show 128<=4294967294 by decide) (show 3<=1073741824 by decide);have hid:0<=(p:Int)/\(p:Int)<=1048576:=by omega
 have mc:=VU hid (QF hc);have ms:=VU hid (QF hst);have hds:=WF (x:=1) (y:=1) (by decide) (by decide);have hno:=nG p;obtain ⟨E1,a1,a2,a3⟩:=Oe h (id:=(p:Int)) hst.n hss hm (QI (A:=MH p d (Ez p)) (lZ (np:=p) (nd:=d) ms hno (by show Bh (Tg 1 1)<=d; omega) (by show (p:Int)<=((Ez p).length:Int); rw [OX]; exact Ju _)) (by decide));obtain ⟨E2,b1,b2,b3⟩:=Oe a1 (id:=(p:Int)) hc.n hcs a2 (QI (A:=MH p d (Ez p)) (vK (nd:=d) mc hno (by show d<Bh c; omega)) (by decide));obtain ⟨E3,c1,c2,c3⟩:=Oe b1 (id:=-1) hc.n hcs b2 (QI (A:=MH p d (Ez p)) (vV (Qb1 (.inl (by decide)))) (by decide));obtain ⟨E4,d1,d2,d3⟩:=Oe c1 (id:=1048577) hc.n hcs c2 (QI (A:=MH p d (Ez p)) (vV (Qb1 (.inr (by decide)))) (by decide));obtain ⟨E5,e1,e2,e3⟩:=wM d1 (id:=(p:Int)) d2 (sJ (A:=MH p d (Ez p)) hno);obtain ⟨E6,f1,f2,f3⟩:=Qag e1 (id:=(p:Int)) hc.n hcs e2 (mO (A:=MH p d (Ez p)) (rZ mc hno) (by decide));exact ⟨E1,E2,E3,E4,E5,E6,f1,f2,a3,b3,c3,d3,e3,f3⟩
theorem Qim {d:Int} {p k:Nat} {E:Es} (hp:1<=p/\p<=6) (hd:0<=d) (hk:k<p) (h:EOk 0 E) (hm:E.m=MH p d (Ez p)) :
 ∃ E1 E2 E3:Es,(E3.M.length:Int)=p/\MI 37 [.one (.ow 0 0),.oi k] E [.oi 0] E1/\MI 37 [.one (.ow 0 0),.oi k] E1 [.oi 5] E2/\MI 27 [.one (.ow 0 0),.oi p,.agg (cl (Tg 9 9))] E2 [.oi 0] E3:=by
 have hst:=QU (x:=9) (y:=9) (by decide) (by decide);have hss:=hst.c.mono (show 128<=4294967294 by decide) (show 3<=1073741824 by decide);have ms:=VU (c:=Tg 9 9) (id:=(p:Int)) (by omega) (QF hst);have hds:=WF (x:=9) (y:=9) (by decide) (by decide);have hg:=nU hk;have hs:=Is p;have hpos:Hb (Ez p) (k:Int)=k:=Qcy hs hg;obtain ⟨M,hM⟩:=nmE ((Ez p).take k++(Ez p).drop (k+1));have hno:has M (k:Int)=false:=by rw [hM]; exact Qbb hs hg
 have hMs:Hr M:=by rw [hM]; exact FO hs k
 have hMl:M.length+1=p:=by rw [hM,Qu,Qp,Q4,OX]; omega
 have hnp:has M (p:Int)=false:=sL hMs λx hx=>by rw [hM] at hx; exact OJ x (VF hx)
 obtain ⟨E1,a1,a2,a3⟩:=wM h (id:=(k:Int)) hm (Qmc (A:=MH p d (Ez p)) (nF hk));have a2:E1.m=MH p d M:=by rw [a2]; show MH p d ((Ez p).take (Hb (Ez p) (k:Int))++(Ez p).drop (Hb (Ez p) (k:Int)+1))=_; rw [hpos,hM]
 obtain ⟨E2,b1,b2,b3⟩:=wM a1 (id:=(k:Int)) a2 (sJ (A:=MH p d M) hno);obtain ⟨E3,c1,c2,c3⟩:=Oe b1 (id:=(p:Int)) hst.n hss b2 (Qbh (A:=MH p d M) (nP (np:=p) (nd:=d) ms hnp (by show Bh (Tg 9 9)<=d; omega) (by show (M.length:Int)<(p:Int); omega)));obtain ⟨_,_,e3,_⟩:=Qbw c2;have e3:E3.M=put M ⟨Tg 9 9,(p:Int)⟩:=e3;exact ⟨E1,E2,E3,by rw [e3,IS]; omega,a3,b3,c3⟩
set_option maxHeartbeats 8000000 in
theorem NK {a b n:Int} (ha:-9223372036854775808<=a/\a<=9223372036854775807) (hb:-9223372036854775808<=b/\b<=9223372036854775807) (hn:-9223372036854775808<=n/\n<=9223372036854775807):W6 7 [.oi a,.oi b,.oi n] [.one (.bool true)]:=by
 have w1:=ON (v:=a) (n:=6) (by decide);have w2:=ON (v:=b) (n:=2) (by decide);have c1:=TJ (v:=a) (n:=6) ha (by decide);have c2:=TJ (v:=b) (n:=2) hb (by decide);obtain ⟨p,hp⟩:∃ p:Nat,1+NL a 6=(p:Int):=⟨(1+NL a 6).toNat,by omega⟩;obtain ⟨d,hd⟩:=nmE (NL b 2);rw [<-hd] at c2 w2;have hd1:d=0\/d=1:=by omega
 obtain ⟨c,u,hc,hdc,u0,u1,cp,cc⟩:=Qpj hd1;have cn:=aJ (np:=(p:Int)) (nd:=d) (by omega) (by omega);have w3:=ON (v:=n) (n:=(p:Int)) (by omega);have c3:=TJ (v:=n) (n:=(p:Int)) hn (by omega);obtain ⟨k,hk⟩:∃ k:Nat,NL n (p:Int)=(k:Int):=⟨(NL n (p:Int)).toNat,by omega⟩;rw [hk] at c3;have s1:=GB (x:=1) (y:=1) (by decide) (by decide);have s9:=GB (x:=9) (y:=9) (by decide) (by decide);have h0:=Qcb (np:=(p:Int)) (nd:=d) (by omega) (by omega);refine Fl func7 rfl ?_;rcases hd1 with e | e
 all_goals
  first
  |
   obtain rfl:=u0 e;subst e;refine Wz [.k c1,.r 15 (eI hp),.k c2,.c Ui cn,.f rfl,.f rfl,.i 2,.i 2,.i 1,.p 7,.k cp,.k cc] rfl ?_
  |
   obtain rfl:=u1 e;subst e;refine Wz [.k c1,.r 15 (eI hp),.k c2,.c Ui cn,.f rfl,.f rfl,.i 3,.i 3,.i 2,.p 7,.k cp,.k cc] rfl ?_
  refine W5 (S:=Nat×Es) 9 (λL1 s=>(11,.v (.oi (s.1:Int)))::L1) (λs=>enB 0 s.2++[.gone,.blk 39 (cl c)]) (λs=>p-s.1) (λs=>s.1<=p/\EOk 0 s.2/\s.2.m=MH p _ (Ez s.1)) (0,jZ p _) ⟨Qi _,h0,rfl⟩ rfl rfl λ⟨i,E⟩ ⟨hi,hE,hm⟩=>?_
  dsimp only at hi hE hm ⊢;by_cases hr:i<p
  ·obtain ⟨E1,E2,E3,E4,x1,x2,y1,y2,y3,y4⟩:=Qdb (i:=i) (by omega) (by decide) (by omega) hc hdc hE hm;have cs:=GB (x:=(i:Int)) (y:=0) (by omega) (by decide);refine Wz [.T,.c Ui y1,.f rfl,.k cs,.c Ui y2,.f rfl,.c Ui y3,.f rfl,.c Ui y4,.f rfl] rfl ?_;exact rd (i+1,E4) (by dsimp only; omega) ⟨hr,x1,x2⟩ rfl
  obtain rfl:i=p:=by omega
  obtain ⟨E1,E2,E3,E4,E5,E6,x1,x2,y1,y2,y3,y4,y5,y6⟩:=Qil (by omega) (by decide) hc hdc hE hm;obtain ⟨F1,F2,F3,z0,z1,z2,z3⟩:=Qim (k:=k) (by omega) (by decide) (by omega) x1 x2;have cl:=Ql1 (np:=F3.np) (nd:=F3.nd) (l:=F3.M);refine Wy [.F,.k s1,.c Ui y1,.f rfl,.c Ui y2,.f rfl,.c Ui y3,.f rfl,.c Ui y4,.f rfl,.c Ui y5,.f rfl,.c Ui y6,.f rfl] rfl ?_;exact W0 [.k c3,.c Ui z1,.t rfl,.c Ui z2,.t rfl,.k s9,.c Ui z3,.t rfl,.c [1] cl,.t (decide_eq_true z0),.k cH] rfl
end Orr
namespace Orr
open Go Go.Proofs Tryz
variable {H:Type} {enc:TypeId×Value->H} {w:World} {base:Nat} {spare:Nat->Bool} {held:Bool}
end Orr
namespace Orr
open Go Go.Proofs Tryz Go.ChangeShapes Go.WideShapes Go.ChangeAt Go.RowKit Go.WideElems
def fr0 (w:World):Fr:=⟨λb=>b<w.heap.size,λ_=>False,w,λ_=>False,λ_=>none⟩
theorem NQ (w:World):HS (fr0 w) (ob []) (nw []) (λ_=>none) (λ_=>False) w where
 size:=Qn _
 kept:=λb hb=>⟨hb,rfl,Iff.rfl⟩
 ids:=λi h=>h.elim
 nj:=λi h=>by rw [AO] at h; cases h
 io:=⟨rfl,rfl⟩
 blk:=λi=>by rw [AO]; trivial
 nk:=λi g c m h _=>by rw [AO] at h; cases h
 inj:=λi j g c m c' m' h _ _ _=>by rw [AO] at h; cases h
 mlt:=λb h=>h.elim
 m0:=λb _ h=>h.elim
 un:=λi _=>⟨rfl,rfl⟩
 uj:=λi _ h=>h.elim
theorem Qiq {w w':World} {bl:Nat->OB} {U:Nat->Prop} {E:Mw} {M:Nat->Prop} (h:HS (fr0 w) bl U E M w') {p:MemPlace} (hp:p.block<w.heap.size):w.sameAt w' p:=by
 cases p with
 | cell b off=>simp only [World.sameAt,World.cell?]; rw [(h.kept b hp).2.1]; rfl
 | map b=>exact (h.kept b hp).2.1
theorem Qhg {w w':World} {bl:Nat->OB} {U:Nat->Prop} {E:Mw} {M:Nat->Prop} (h:HS (fr0 w) bl U E M w') (may:MemPlace->Prop):w.keptBut w' may:=by
 refine ⟨h.io.1,h.io.2,λi hi=>?_⟩;have e:w'.heap[i]? = w.heap[i]? := (h.kept i hi).2.1;rw [e];cases w.heap[i]? with
 | none=>rfl
 | some o=>cases o <;> simp
variable {H:Type} {enc:TypeId×Value->H} {w:World}
end Orr
namespace Orr
open Go Go.Proofs Tryz Go.ChangeShapes Go.WideShapes Go.ChangeAt Go.RowKit Go.WideElems
variable {H:Type} {enc:TypeId×Value->H} {w:World}
end Orr
namespace Orr
open Go Go.Proofs Tryz Go.ChangeShapes Go.WideShapes Go.ChangeAt Go.RowKit Go.WideElems
set_option maxRecDepth 10000
def rU (t:TypeId) (R:TV->Prop):Prop:=∀ {H:Type} {enc:TypeId×Value->H} {W:World} {base:Nat} {v:Value} {d:DataW H} {p:List MemPlace},Value.okWide prog W .any base t v->DataW.Trod enc prog W 0 (λ_=>true) true t v d p->(d.weights prog t).all (· <= reachBytes)=true->∃ u,R u/\TRep W (λ_=>False) (λ_=>none) v u
section
variable {H:Type} {enc:TypeId×Value->H} {W W':World} {base:Nat}
theorem yH:∀ {ps:List (TypeId×(TV->Prop))} {args:List Value} {ds:List (DataW H)} {p:List MemPlace},DataW.TrodAll enc prog W 0 (λ_=>true) true (ps.map (·.1)) args ds p ->
 (∀ (j:Nat) t v,(ps.map (·.1))[j]? = some t->args[j]? = some v->Value.okWide prog W .any base t v)->(∀ (j:Nat) t d,(ps.map (·.1))[j]? = some t->ds[j]? = some d->(d.weights prog t).all (· ≤ reachBytes)=true)->(∀ q∈ps,rU q.1 q.2) ->
 ∃ us,F2 (λu (q:TypeId×(TV->Prop))=>q.2 u) us ps/\F2 (TRep W (λ_=>False) (λ_=>none)) args us/\ds.length=ps.length
 |
  [],args,ds,p,h,_,_,_=>by
  obtain ⟨rfl,rfl,rfl⟩:=trodAll_nil h;exact ⟨[],.nil,.nil,rfl⟩
 |
  q::ps,args,ds,p,h,hv,hw,hr=>by
  obtain ⟨v,vs,d,ds',p1,p2,rfl,rfl,rfl,h1,h2⟩:=trodAll_cons h;obtain ⟨u,r1,r2⟩:=hr q (Qx ..) (hv 0 q.1 v rfl rfl) h1 (hw 0 q.1 d rfl rfl);obtain ⟨us,s1,s2,s3⟩:=yH h2 (λj t v h h'=>hv (j+1) t v (by simpa using h) (by simpa using h')) (λj t d h h'=>hw (j+1) t d (by simpa using h) (by simpa using h')) λq hq=>hr q (Qf _ hq)
  exact ⟨u::us,.cons r1 s1,.cons r2 s2,by simp [s3]⟩
theorem vQ {sp':Nat->Bool} (hl:laidOutB prog=true):∀ {ps:List (TypeId×(TV->Prop))} {args:List Value} {ds:List (DataW H)} {p:List MemPlace},DataW.TrodAll enc prog W 0 (λ_=>true) true (ps.map (·.1)) args ds p ->
 (∀ q∈ps,prog.readableRec q.1=true/\q.1<prog.types.size)->(∀ x∈p,W.sameAt W' x)->(∀ x∈p,sp' x.block=true)->DataW.TrodAll enc prog W' 0 sp' true (ps.map (·.1)) args ds p
 |
  [],args,ds,p,h,_,_,_=>by
  obtain ⟨rfl,rfl,rfl⟩:=trodAll_nil h;exact trodAll_mk0
 |
  q::ps,args,ds,p,h,hr,hs,hb=>by
  obtain ⟨v,vs,d,ds',p1,p2,rfl,rfl,rfl,h1,h2⟩:=trodAll_cons h;obtain ⟨r1,r2⟩:=hr q (Qx ..);exact trodAll_cons_mk (Trod_stays hl r1 r2 h1 (λx hx=>hs x (Qr.2 (.inl hx))) λx hx=>hb x (Qr.2 (.inl hx))) (vQ hl h2 (λq hq=>hr q (Qf _ hq)) (λx hx=>hs x (Qr.2 (.inr hx))) λx hx=>hb x (Qr.2 (.inr hx)))
end
theorem Qbo {ps:List (TypeId×(TV->Prop))} {f:FuncId} {fn:Func} {s:ChangeSpec} (hp:fn.params=(ps.map (·.1)).toArray) (hr:fn.resultTypes = #[4]) (hv:s.vars=[])
 (hs:∀ (H:Type) (ds:List (DataW H)),ds.length=ps.length->s.fn H ds={ results:=[.lit (.bool true)],args:=ds })
 (hlaid:laidOutB prog=true) (hrec:∀ q∈ps,prog.readableRec q.1=true/\q.1<prog.types.size) (hrd:∀ q∈ps,rU q.1 q.2)
 (law:∀ us:Uh,F2 (λu (q:TypeId×(TV->Prop))=>q.2 u) us ps->NX prog f us [.one (.bool true)])
 {H:Type} {enc:TypeId×Value->H} {W:World} {base:Nat} {args:Array Value} {ds gs:List (DataW H)} {Rh:List MemPlace} {fresh handsOn:Bool}
 (hval:∀ (j:Nat) t v,fn.params[j]? = some t->args[j]? = some v->Value.okWide prog W .any base t v)
 (hW:DataW.Whole enc prog fn.params.toList s.vars false W args.toList ds gs Rh)
 (hz:(DataW.weightsEach prog (fn.params.toList++s.plain.varTypes prog) (ds++gs)).all (· <= reachBytes)=true) :
 Calls prog f args W λe W'=>∃ v,e=.returned v/\s.post enc prog fn false fresh handsOn false W args v W':=by
 have hW':=hW;obtain ⟨p,q,hA0,hV,rfl,hfz,hnd⟩:=hW;have hA:DataW.TrodAll enc prog W 0 (λ_=>true) true fn.params.toList args.toList ds p:=hA0;rw [hv] at hV;obtain ⟨rfl,rfl⟩:=trodVars_none hV;have hlt:=hW'.lt;rw [hp] at hA hval hz;have hA:DataW.TrodAll enc prog W 0 (λ_=>true) true (ps.map (·.1)) args.toList ds p:=by simpa using hA
 obtain ⟨us,r1,r2,r3⟩:=yH (base:=base) hA (λj t v h h'=>hval j t v (by simpa using h) (by simpa using h')) (λj t d h h'=>by
  rw [Yy] at hz ⊢;intro k hk;have hj:j<(ps.map (·.1)).length:=(Qg.1 h).1;have hj2:j<ds.length:=(Qg.1 h').1;exact hz k (DataW.weights_mem_each (j:=j) (by rw [Zl (by simpa using hj)]; simpa using h) (by rw [Zl hj2]; exact h') k hk)) hrd
 have hcall:=(law us r1).2 (fr0 W) (λ_=>none) (λ_=>False) W args.toList (NQ W) r2;have ea:args.toList.toArray=args:=by simp
 rw [ea] at hcall;refine hcall.mono λe W' ⟨v,u,Bo,E',M',he,⟨hu,hBo⟩,_,hm,har⟩=>?_
 subst hu;obtain rfl:v=.bool true:=by
  have h:LRep _ _ v (.bool true):=har;cases h;rfl
 refine ⟨_,he,?_⟩;refine ⟨ds,[],_,[],p,[],hW',?_,?_,?_,Qhg hm _,λh=>by cases h⟩
 ·rw [hr,Zw,hs H ds r3];exact trodAll_cons_mk (shut_bool underlying4 true) trodAll_mk0
 ·rw [hp,Zw,hs H ds r3];have hb:∀ x∈p,x.block<W.heap.size:=λx hx=>hlt x (by simp [hx])
  have:=vQ (sp':=λb=>decide (b<W.heap.size)) hlaid hA hrec (λx hx=>Qiq hm (hb x hx)) λx hx=>by simpa using hb x hx
  simpa using this
 ·rw [hv,Zw,hs H ds r3];rfl
abbrev Qe1 (u:TV):Prop:=∃ n:Int,(-9223372036854775808<=n/\n<=9223372036854775807)/\u=.oi n
theorem UG:rU 3 Qe1:=λ{H enc W base v d p} hv h _=>by
 obtain ⟨n,rfl,rfl,rfl,w1⟩:=open_int underlying3 hv h;exact ⟨_,⟨n,by simpa [Lit.wf,IntKind.min,IntKind.max,IntKind.signed,IntKind.bits] using w1,rfl⟩,show XRep W (λ_=>False) (λ_=>none) (.int .i64 n) (.int .i64 n) from (LRep.int .i64 n).x⟩
end Orr
namespace Orr
open Go Go.Proofs Tryz Go.ChangeShapes Go.WideShapes Go.ChangeAt Go.RowKit Go.WideElems
set_option maxRecDepth 10000
section
variable {H:Type} {enc:TypeId×Value->H} {w:World}
end
end Orr
