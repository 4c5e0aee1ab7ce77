/- AR AX1 AX2 AX3 AudZ AudT AX4 WK26 WC26 ReadN LastN LastR LastS ArgR -/
import Derived.Test.YtdcbpgmmopdelaaGreatPart09
import Derived.Test.YtdcbpgmmopdelaaGreatPart08
import Derived.Test.YtdcbpgmmopdelaaGreatPart00
import Derived.Deep.Slices
import Derived.ProofKit
import Derived.OpenShut
import Derived.WideKeyArgs
import Derived.SizedLaws
import Derived.Test.YtdcbpgmmopdelaaGreatPart07
set_option linter.all false
namespace Orr
open Go Go.Proofs Tryz Orq
set_option maxRecDepth 10000
structure Rw(k m:Crv):Prop where
 c:Cs 128 3 k
 e:Crv.norm k=m
theorem Rw.s{k m:Crv}(h:Rw k m):Sc m:=by
 rw[<-h.e];exact⟨k.nml,h.c.norm (by decide)⟩
theorem C9{p:Pt}(h:Cs 128 3 p.c):Rw p.c p.nrm.c:=⟨h,rfl⟩
theorem Ih{k m:Crv}(r:Rw k m):Uj 192 [.agg (cl k)] [.agg (cl m)]:=by
 have hk:Cs 4294967294 1073741824 k:=r.c.mono (by decide) (by decide);rw[<-r.e];by_cases h0:k.d=0
 ·have co:=rV (z:=1) (by decide);have hk1:Cs 4294967294 1073741824 (Crv.mk k.x k.y 1):=⟨hk.x,hk.y,by show Ff (1:Int)<=4294967294;decide,hk.lx,hk.ly⟩;have cm:=nN (Ta k.x) (Ta k.y) (Fa 1) hk1 (by decide);have e:Crv.norm (Crv.mk k.x k.y 1)=k.norm:=by
   have e1:(Crv.mk k.x k.y 1).d'=k.d':=by unfold Crv.d';rw[if_pos h0];rfl
   unfold Crv.norm Crv.g;rw[e1]
  rw[e]at cm;exact Ug func192 rfl [.k (Oh (Fa k.d) (Qc hk.d (by omega))),.k ZQ,.t (by simpa using h0),.k co,.k cm] rfl
 have cm:=nN (Ta k.x) (Ta k.y) (Fa k.d) hk h0;rw[show Crv.mk k.x k.y k.d=k from rfl]at cm;exact Ug func192 rfl [.k (Oh (Fa k.d) (Qc hk.d (by omega))),.k ZQ,.f (by simpa using h0),.k cm] rfl
theorem vJ{k m:Crv}(r:Rw k m):Uj 239 [.agg (cl k)] [.agg (cl m)]:=by
 have h:=nC (Ta k.x) (Ta k.y) (Fa k.d) (r.c.mono (by decide) (by decide));rw[show Crv.mk k.x k.y k.d=k from rfl,r.e]at h;exact h
theorem vZ{a0 b0 a b:Crv}(ra:Rw a0 a)(rb:Rw b0 b)(ha:gZ a)(hb:gZ b)(ca:Cb a)(cb:Cb b):Uj 181 [.agg (cl a0),.agg (cl b0)] [pr (Gu a b)]:=by
 have l1:=ca.lx;have l2:=cb.lx;have l3:=Ft b.x a.d;have l4:=Ft a.x b.d;exact Ug func181 rfl [.k (Ih ra),.k (Ih rb),.k (Di (by omega) (Uv cb.x (by omega)) (Qc ca.d (by omega))),.k (Di (by omega) (Uv ca.x (by omega)) (Qc cb.d (by omega))),.k (MH (by omega) (by omega) (Uv (Fw cb.x ca.d) (by omega)) (Uv (Fw ca.x cb.d) (by omega)))] rfl
theorem yI{a0 b0 a b:Crv}(ra:Rw a0 a)(rb:Rw b0 b)(ha:gZ a)(hb:gZ b)(ca:Cb a)(cb:Cb b):Uj 182 [.agg (cl a0),.agg (cl b0)] [pr (Gt a b)]:=by
 have l1:=ca.ly;have l2:=cb.ly;have l3:=Ft b.y a.d;have l4:=Ft a.y b.d;exact Ug func182 rfl [.k (Ih ra),.k (Ih rb),.k (Di (by omega) (Uv cb.y (by omega)) (Qc ca.d (by omega))),.k (Di (by omega) (Uv ca.y (by omega)) (Qc cb.d (by omega))),.k (MH (by omega) (by omega) (Uv (Fw cb.y ca.d) (by omega)) (Uv (Fw ca.y cb.d) (by omega)))] rfl
theorem qG{k0 k:Crv}(rk:Rw k0 k)(hk:Sc k):Uj 279 [.agg (cl k0)] [.one (.row (XM [k.x,k.y,[k.d]]))]:=by
 have h0:k.d≠0:=by have:=hk.n.2.2.1;omega
 have td:Uz [k.d]:=by unfold Uz;simp[trim,h0]
 have cd:=Qbl (r:=[k.x,k.y,[k.d]]) (λp hp=>by
  rcases Qt.1 hp with rfl|hp
  ·exact hk.n.1
  rcases Qt.1 hp with rfl|hp
  ·exact hk.n.2.1
  ·rw[Qo.1 hp];exact td) (λp hp=>by
  rcases Qt.1 hp with rfl|hp
  ·exact Uv hk.c.x (by decide)
  rcases Qt.1 hp with rfl|hp
  ·exact Uv hk.c.y (by decide)
  ·rw[Qo.1 hp];intro z hz;rw[Qo.1 hz];exact Qc hk.c.d (by decide)) (λp hp=>by
  rcases Qt.1 hp with rfl|hp
  ·have:=hk.c.lx;omega
  rcases Qt.1 hp with rfl|hp
  ·have:=hk.c.ly;omega
  ·rw[Qo.1 hp];show 1<=1000000;decide) (by show 3<=1000;decide)
 exact Ug func279 rfl [.k (Ih rk),.k cd] rfl
theorem aF{a0 b0 c0 a b c:Crv}(ra:Rw a0 a)(rb:Rw b0 b)(rc:Rw c0 c)(ha:Sc a)(hb:Sc b)(hc:Sc c):Uj 186 [.agg (cl a0),.agg (cl b0),.agg (cl c0)] [pr (Gh a b c)]:=by
 have cd:=Qm2 (by decide) (k:=3) (ds:=[2,2,0]) (by decide) rfl (by decide) (fV ha hb hc);exact Ug func186 rfl [.k (qG ra ha),.k (qG rb hb),.k (qG rc hc),.k cd] rfl
theorem SC{k0 k:Crv}(rk:Rw k0 k)(hk:Sc k):Uj 282 [.agg (cl k0)] [.one (.row (XM (QH k)))]:=by
 have ok:=WC hk.n hk.c;have l1:=Re k.x k.x;have l2:=Re k.y k.y;have:=hk.c.lx;have:=hk.c.ly;have bx:Bd 258 (U9 k.x k.x):=Tc (u:=2) hk.c.x hk.c.x (by omega);have by_:Bd 258 (U9 k.y k.y):=Tc (u:=2) hk.c.y hk.c.y (by omega);have c1:=Di (p:=k.x) (c:=k.d) (by omega) (Uv hk.c.x (by decide)) (Qc hk.c.d (by decide));have c2:=Di (p:=k.y) (c:=k.d) (by omega) (Uv hk.c.y (by decide)) (Qc hk.c.d (by decide));have c3:=rW (p:=k.x) (q:=k.x) hk.n.1 hk.n.1 (by omega) (by omega) hk.c.x hk.c.x (by decide);have c4:=rW (p:=k.y) (q:=k.y) hk.n.2.1 hk.n.2.1 (by omega) (by omega) hk.c.y hk.c.y (by decide);have c5:=rK (p:=U9 k.x k.x) (q:=U9 k.y k.y) (by omega) (by omega) (Uv bx (by decide)) (Uv by_ (by decide));have c6:=Ea (Fa k.d) (Fa k.d) (Qc hk.c.d (by decide)) (Qc hk.c.d (by decide));have hl:∀p∈QH k,p.length≤1000000:=λp hp=>by
  obtain⟨j,hj⟩:=J6 hp;have h1:=ok.2 j p hj;have:[2,2,4,0].getD j 0<=4:=by
   match j with
   | 0=>decide
   | 1=>decide
   | 2=>decide
   | 3=>decide
   |j+4=>simp
  omega
 have cd:=Qbl (r:=QH k) (λp hp=>(ok.1 p hp).1) (λp hp=>Uv (ok.1 p hp).2 (by decide)) hl (by show 4<=1000;decide);exact Ug func282 rfl [.k (Ih rk),.k c1,.k c2,.k c3,.k c4,.k c5,.k c6,.k cd] rfl
theorem aU{a0 b0 c0 d0 a b c d:Crv}(ra:Rw a0 a)(rb:Rw b0 b)(rc:Rw c0 c)(rd:Rw d0 d)(ha:Sc a)(hb:Sc b)(hc:Sc c)(hd:Sc d):Uj 187 [.agg (cl a0),.agg (cl b0),.agg (cl c0),.agg (cl d0)] [pr (An a b c d)]:=by
 have cd:=Qm2 (by decide) (k:=4) (ds:=[2,2,4,0]) (by decide) rfl (by decide) (fY ha.n hb.n hc.n hd.n ha.c hb.c hc.c hd.c);exact Ug func187 rfl [.k (SC ra ha),.k (SC rb hb),.k (SC rc hc),.k (SC rd hd),.k cd] rfl
theorem Qb8{a0 b0 a b:Crv}(ra:Rw a0 a)(rb:Rw b0 b)(ha:gZ a)(hb:gZ b)(ca:Cs 4294967294 1073741824 a)(cb:Cs 4294967294 1073741824 b):Uj 278 [.agg (cl a0),.agg (cl b0)] [.one (.bool (WQ a b))]:=by
 have na:=vJ ra;have nb:=vJ rb;have alx:=ca.lx;have aly:=ca.ly;have blx:=cb.lx;have bly:=cb.ly;have sx:=nH (p:=a.x) (q:=b.x) (by omega) (by omega) (Uv ca.x (by omega)) (Uv cb.x (by omega));have sy:=nH (p:=a.y) (q:=b.y) (by omega) (by omega) (Uv ca.y (by omega)) (Uv cb.y (by omega));have sd:=qW (Fa a.d) (Fa b.d) (Qc ca.d (by omega)) (Qc cb.d (by omega));rw[ha.1,hb.1]at sx;rw[ha.2.1,hb.2.1]at sy;by_cases h1:a.x=b.x
 ·by_cases h2:a.y=b.y
  ·exact Ug func278 rfl [.k na,.k nb,.k sx,.t (by simpa using h1),.k sy,.t (by simpa using h2),.k sd] rfl (by simp[WQ,h1,h2,qM]) trivial
  exact Ug func278 rfl [.k na,.k nb,.k sx,.t (by simpa using h1),.k sy,.f (by simpa using h2)] rfl (by simp[WQ,h1,h2]) trivial
 exact Ug func278 rfl [.k na,.k nb,.k sx,.f (by simpa using h1),.f rfl] rfl (by simp[WQ,h1]) trivial
section
variable{a b c d:Pt}{t:Tm}(ha:Cs 128 3 a.c)(hb:Cs 128 3 b.c)
include ha hb
theorem Lq(ht:Va t):Uj 72 [.agg (Sa a),.agg (Sa b),.agg (ta t)] [.one (.bool (Sl (Rh t) a.nrm b.nrm))]:=by
 have ra:=C9 ha;have rb:=C9 hb;exact Ug func72 rfl [.k (vZ ra rb ra.s.n rb.s.n ra.s.cb rb.s.cb),.k (yI ra rb ra.s.n rb.s.n ra.s.cb rb.s.cb),.k (vY (t:=t) (a:=a) (b:=b) (ps:=[Gu a.nrm.c b.nrm.c,Gt a.nrm.c b.nrm.c]) (λp hp=>by
  simp at hp;rcases hp with rfl|rfl
  ·exact(Dn ra.s rb.s).dp
  ·exact(Dm ra.s rb.s).dp) ht (show 2<1000 by decide))] rfl
theorem Qbj(ht:Va t):Uj 78 [.agg (Sa a),.agg (Sa b),.agg (ta t)] [.one (.bool (EY (Rh t) a.nrm b.nrm))]:=by
 have ra:=C9 ha;have rb:=C9 hb;exact Ug func78 rfl [.k (yI rb ra rb.s.n ra.s.n rb.s.cb ra.s.cb),.k (vZ rb ra rb.s.n ra.s.n rb.s.cb ra.s.cb),.k (vY (t:=t) (a:=a) (b:=b) (ps:=[Gt b.nrm.c a.nrm.c,Gu b.nrm.c a.nrm.c]) (λp hp=>by
  simp at hp;rcases hp with rfl|rfl
  ·exact(Dm rb.s ra.s).dp
  ·exact(Dn rb.s ra.s).dp) ht (show 2<1000 by decide))] rfl
theorem aP:Uj 183 [.agg (cl a.c),.agg (cl b.c)] [.one (.bool (WQ a.nrm.c b.nrm.c))]:=by
 have ra:=C9 ha;have rb:=C9 hb;exact Ug func183 rfl [.k (Qb8 ra rb ra.s.n rb.s.n (ra.s.c.mono (by decide) (by decide)) (rb.s.c.mono (by decide) (by decide)))] rfl
variable(hc:Cs 128 3 c.c)
include hc
theorem Eb(ht:Va t):Uj 75 [.agg (ta t),.agg (Sa a),.agg (Sa b),.agg (Sa c)] [.oi (Gl (Rh t) (Gh a.nrm.c b.nrm.c c.nrm.c))]:=by
 have ra:=C9 ha;have rb:=C9 hb;have rc:=C9 hc;exact Ug func75 rfl [.k (aF ra rb rc ra.s rb.s rc.s),.k (nO (EN ra.s rb.s rc.s).dp ht)] rfl
variable(hd:Cs 128 3 d.c)
include hd
theorem Qop(ht:Va t):Uj 187 [.agg (cl a.c),.agg (cl b.c),.agg (cl c.c),.agg (cl d.c)] [pr (An a.nrm.c b.nrm.c c.nrm.c d.nrm.c)]/\Uj 79 [pr (An a.nrm.c b.nrm.c c.nrm.c d.nrm.c),.agg (ta t)] [.oi (Gl (Rh t) (An a.nrm.c b.nrm.c c.nrm.c d.nrm.c))]:=by
 have ra:=C9 ha;have rb:=C9 hb;have rc:=C9 hc;have rd:=C9 hd;exact⟨aU ra rb rc rd ra.s rb.s rc.s rd.s,nO (bL ra.s rb.s rc.s rd.s).dp ht⟩
end
end Orr
namespace Orr
open Go Go.Proofs Tryz Orq
set_option maxRecDepth 10000
def fnd(l:List Pt)(id:Int):Option Pt:=l.find? λx=>decide (x.id=id)
theorem Im{l:List Pt}{id:Int}{x:Pt}(h:fnd l id=some x):x∈l/\x.id=id:=⟨List.mem_of_find?_eq_some h,of_decide_eq_true (List.find?_some (p:=λx:Pt=>decide (x.id=id)) h)⟩
theorem Qd3{l:List Pt}{id:Int}(h:fnd l id=none):∀x∈l,x.id≠id:=λx hx e=>by
 have:=List.find?_eq_none.1 h x hx;rw[decide_eq_true e]at this;exact this rfl
theorem MP{id:Int}{l:List Pt}(hl:l.length<=1000000):(∃x,fnd l id=some x/\Uj 71 [.oi id,.one (pts l)] [.agg (Sa x),.one (.bool true)])\/(fnd l id=none/\Uj 71 [.oi id,.one (pts l)] [.agg [.row [],.row [],.bool false,.row [],.int .i64 0],.one (.bool false)]):=by
 have hcl:=S5 l;cases hf:fnd l id with
 |
  some x =>
  refine .inl ⟨x,rfl,?_⟩;show Uj 71 [.oi id,.one (.row (Gx l))] _;refine Hz func71 rfl ?_;refine Ud [] rfl ?_;refine Ui (S:=Nat) 1 (λL1 i=>(10,.v (.oi i))::L1) (λ_=>[.blk 76 zPt]) (λi=>l.length-i) (λi=>i<=l.length/\fnd (l.drop i) id=some x) 0 ⟨Qg _,hf⟩ rfl rfl λi ⟨hi,hn⟩=>?_
  by_cases h:i<l.length
  ·obtain⟨y,hy⟩:=gxE (l:=l) (i:=i) h;have hd:l.drop i=y::l.drop (i+1):=by
    rw[Zt h];rw[Qe h]at hy;injection hy with hy;rw[hy]
   rw[hd]at hn;unfold fnd at hn;rw[List.find?_cons]at hn;by_cases he:y.id=id
   ·rw[decide_eq_true he]at hn;obtain rfl:=Option.some.inj hn;exact Uf [.T,.x (Ra hy),.t (decide_eq_true he)] rfl rfl (by simp[Uw] <;> omega)
   ·rw[decide_eq_false he]at hn;refine go tt [.T,.x (Ra hy),.f (decide_eq_false he)] rfl (by simp[Uw] <;> omega) ?_;exact rd (i+1) (by omega) ⟨h,hn⟩ rfl
  ·rw[List.drop_of_length_le (by omega)]at hn;cases hn
 |
  none =>
  have hno:=Qd3 hf;refine .inr ⟨rfl,?_⟩;show Uj 71 [.oi id,.one (.row (Gx l))] _;refine Hz func71 rfl ?_;refine Ud [] rfl ?_;refine Ui (S:=Nat) 1 (λL1 i=>(10,.v (.oi i))::L1) (λ_=>[.blk 76 zPt]) (λi=>l.length-i) (λi=>i<=l.length) 0 (Qg _) rfl rfl λi hi=>?_
  by_cases h:i<l.length
  ·obtain⟨y,hy⟩:=gxE (l:=l) (i:=i) h;refine go tt [.T,.x (Ra hy),.f (decide_eq_false (hno y (Qa hy)))] rfl (by simp[Uw] <;> omega) ?_;exact rd (i+1) (by omega) h rfl
  ·exact Uf [.F] rfl
def LG(sg:Um->Int)(O:List Pt)(is:Um)(i:Nat):Prop:=∃id x,is[i]? = some id/\fnd O id=some x/\∀j id' y,i=j+1->is[j]? = some id'->fnd O id'=some y->Sl sg y.nrm x.nrm=true
def Qmr(sg:Um->Int)(O:List Pt)(is:Um):Prop:=is.length=O.length/\∀i,i<is.length->LG sg O is i
def Quf(sg:Um->Int)(O:List Pt)(id:Int):Prop:=∃w,fnd O id=some w/\∀x∈O,x.id≠id->EY sg w.nrm x.nrm=true
section
variable{O:List Pt}{t:Tm}(hs:∀p∈O,Cs 128 3 p.c)(hn:O.length≤1000000)(ht:Va t)
include hs hn ht
theorem Qb5{is:Um}(hi1:is.length<=1000000):Uj 22 [.agg (ta t),.one (ids is),.one (pts O)] [.one (.bool (cd0 (Qmr (Rh t) O is)))]:=by
 have hcl:=S5 O;have hil:(Ic is).length=is.length:=by simp[Ic]
 show Uj 22 [.agg (ta t),.one (.row (Ic is)),.one (.row (Gx O))] _;by_cases hlen:is.length=O.length
 ·refine Hz func22 rfl ?_;refine Ud [.F] rfl ?_;refine Ui (S:=Nat×LV×LV×LV×LV×LV) 2 (λL1 s=>(19,.v (.oi (s.1:Int)))::L1) (λs=>[gG t,.blk 76 [s.2.1,s.2.2.1,s.2.2.2.1,s.2.2.2.2.1,s.2.2.2.2.2]]) (λs=>is.length-s.1) (λs=>s.1<=is.length/\(∀j,j<s.1->LG (Rh t) O is j)/\(s.1=0\/∃k id y,s.1=k+1/\is[k]? = some id/\fnd O id=some y/\s.2=(pl y.c.x,pl y.c.y,sg y.c.d,mg y.c.d,.int .i64 y.id))) (0,.nils,.nils,.bool false,.nils,.int .i64 0) ⟨Qg _,(λj h=>absurd h (Xt j)),.inl rfl⟩ rfl rfl λ⟨i,z⟩ ⟨hi,hg,hy⟩=>?_
  dsimp only at hi hg hy ⊢;by_cases h:i<is.length
  ·obtain⟨id,hid⟩:=gxE (l:=is) (i:=i) h;have hgx:=zG (l:=is) (i:=i) hid;have no:¬LG (Rh t) O is i->cd0 (Qmr (Rh t) O is)=false:=λhng=>YP λhq=>hng (hq.2 i h)
   rcases MP (id:=id) (l:=O) hn with⟨x,hx,cf⟩|⟨hx,cf⟩
   ·obtain⟨hxm,hxi⟩:=Im hx;rcases hy with rfl|⟨k,id',y,rfl,hk,hky,rfl⟩
    ·refine go tt [.T,.x hgx,.k cf,.g 32 false rfl,.g 35 false rfl,.f rfl] rfl (by simp[Uw] <;> omega) ?_;refine rd (1,pl x.c.x,pl x.c.y,sg x.c.d,mg x.c.d,.int .i64 x.id) (by dsimp only;omega) ⟨h,λj hj=>?_,.inr ⟨0,id,x,rfl,hid,hx,rfl⟩⟩ rfl;obtain rfl:j=0:=by omega
     exact⟨id,x,hid,hx,λj id' y e=>by omega⟩
    have cb:=Lq (hs y (Im hky).1) (hs x hxm) ht;cases hb:Sl (Rh t) y.nrm x.nrm with
    |
     true =>
     rw[hb]at cb;refine go tt [.T,.x hgx,.k cf,.g 32 false rfl,.g 35 true Ul,.k cb,.f rfl] rfl (by simp[Uw] <;> omega) ?_;refine rd (k+1+1,pl x.c.x,pl x.c.y,sg x.c.d,mg x.c.d,.int .i64 x.id) (by dsimp only;omega) ⟨h,λj hj=>?_,.inr ⟨k+1,id,x,rfl,hid,hx,rfl⟩⟩ rfl;by_cases e:j=k+1
     ·subst e;refine⟨id,x,hid,hx,λj id2 y2 e h1 h2=>?_⟩;obtain rfl:j=k:=by omega
      rw[hk]at h1;obtain rfl:=Option.some.inj h1;rw[hky]at h2;obtain rfl:=Option.some.inj h2;exact hb
     ·exact hg j (by omega)
    |
     false =>
     rw[hb]at cb;rw[no λ⟨id2,x2,h1,h2,h3⟩=>by
      rw[hid]at h1;obtain rfl:=Option.some.inj h1;rw[hx]at h2;obtain rfl:=Option.some.inj h2;have:=h3 k id' y rfl hk hky;rw[hb]at this;cases this]
     exact Uf [.T,.x hgx,.k cf,.g 32 false rfl,.g 35 true Ul,.k cb,.t rfl] rfl rfl (by simp[Uw] <;> omega)
   rw[no λ⟨id2,x2,h1,h2,_⟩=>by
    rw[hid]at h1;obtain rfl:=Option.some.inj h1;rw[hx]at h2;cases h2]
   exact Uf [.T,.x hgx,.k cf,.g 32 true rfl,.t rfl] rfl rfl (by simp[Uw] <;> omega)
  rw[EU ⟨hlen,λj hj=>hg j (by omega)⟩];exact Uf [.F] rfl
 rw[YP λh=>hlen h.1];exact Ug func22 rfl [.T] rfl
theorem Qiy{id:Int}:Uj 25 [.agg (ta t),.oi id,.one (pts O)] [.one (.bool (cd0 (Quf (Rh t) O id)))]:=by
 have hcl:=S5 O;rcases MP (id:=id) (l:=O) hn with⟨w_,hw,cf⟩|⟨hw,cf⟩
 ·obtain⟨hwm,hwi⟩:=Im hw;show Uj 25 [.agg (ta t),.oi id,.one (.row (Gx O))] _;refine Hz func25 rfl ?_;refine Ud [.k cf,.f rfl] rfl ?_;refine Ui (S:=Nat) 2 (λL1 i=>(21,.v (.oi i))::L1) (λ_=>[gG t,yP w_]) (λi=>O.length-i) (λi=>i<=O.length/\∀j x,j<i->O[j]? = some x->x.id≠id->EY (Rh t) w_.nrm x.nrm=true) 0 ⟨Qg _,λj _ h=>absurd h (Xt j)⟩ rfl rfl λi ⟨hi,hg⟩=>?_
  by_cases h:i<O.length
  ·obtain⟨x,hx⟩:=gxE (l:=O) (i:=i) h;have hxm:=Qa hx;have nxt:(x.id≠id->EY (Rh t) w_.nrm x.nrm=true)->∀j y,j<i+1->O[j]? = some y->y.id≠id->EY (Rh t) w_.nrm y.nrm=true:=λhb j y hj hy=>by
    by_cases e:j=i
    ·subst e;rw[hx]at hy;obtain rfl:=Option.some.inj hy;exact hb
    ·exact hg j y (by omega) hy
   by_cases he:x.id=id
   ·refine go tt [.T,.x (Ra hx),.g 29 false (decide_eq_false (λh=>h he)),.f rfl] rfl (by simp[Uw] <;> omega) ?_;exact rd (i+1) (by omega) ⟨h,nxt λh=>absurd he h⟩ rfl
   have cb:=Qbj (hs w_ hwm) (hs x hxm) ht;cases hb:EY (Rh t) w_.nrm x.nrm with
   |true =>
    rw[hb]at cb;refine go tt [.T,.x (Ra hx),.g 29 true (decide_eq_true he),.k cb,.f rfl] rfl (by simp[Uw] <;> omega) ?_;exact rd (i+1) (by omega) ⟨h,nxt λ_=>hb⟩ rfl
   |
    false =>
    rw[hb]at cb;rw[YP λ⟨w2,h1,h2⟩=>by
     rw[hw]at h1;obtain rfl:=Option.some.inj h1;rw[h2 x hxm he]at hb;cases hb]
    exact Uf [.T,.x (Ra hx),.g 29 true (decide_eq_true he),.k cb,.t rfl] rfl rfl (by simp[Uw] <;> omega)
  rw[EU ⟨w_,hw,λx hx=>by
   obtain⟨j,hj⟩:=J6 hx;exact hg j x (by have:=(Qf.1 hj).1;omega) hj⟩]
  exact Uf [.F] rfl
 rw[YP λ⟨w2,h1,_⟩=>by rw[hw]at h1;cases h1];exact Ug func25 rfl [.k cf,.t rfl] rfl
end
end Orr
namespace Orr
open Go Go.Proofs Tryz Orq
set_option maxRecDepth 10000
theorem rR{a b c:Pt}{t:Tm}(ha:Cs 128 3 a.c)(hb:Cs 128 3 b.c)(hc:Cs 128 3 c.c)(ht:Va t):Uj 184 [.agg (ta t),.agg (Sa a),.agg (Sa b),.agg (Sa c)] [.one (.bool (Qhx (Rh t) a.nrm b.nrm c.nrm))]:=by
 have c1:=Eb ha hb hc ht;have c2:=Lq ha hc ht;have c3:=Lq hc hb ht;have c4:=Lq hb hc ht;have c5:=Lq hc ha ht;unfold Qhx;generalize Sl (Rh t) a.nrm c.nrm=x1 at *;generalize Sl (Rh t) c.nrm b.nrm=x2 at *;generalize Sl (Rh t) b.nrm c.nrm=x3 at *;generalize Sl (Rh t) c.nrm a.nrm=x4 at *;generalize Gl (Rh t) (Gh a.nrm.c b.nrm.c c.nrm.c)=o at *;by_cases h0:o=0
 ·rw[decide_eq_true h0];cases x1 with
  |false =>
   cases x3 with
   |false=>exact Ug func184 rfl [.k c1,.g 15 true (decide_eq_true h0),.k c2,.g 20 false rfl,.g 26 false rfl,.k c4,.g 31 false rfl] rfl
   |true=>exact Ug func184 rfl [.k c1,.g 15 true (decide_eq_true h0),.k c2,.g 20 false rfl,.g 26 false rfl,.k c4,.g 31 true rfl,.k c5] rfl
  |
   true =>
   cases x2 with
   |true=>exact Ug func184 rfl [.k c1,.g 15 true (decide_eq_true h0),.k c2,.g 20 true rfl,.k c3,.g 26 true rfl] rfl
   |false =>
    cases x3 with
    |false=>exact Ug func184 rfl [.k c1,.g 15 true (decide_eq_true h0),.k c2,.g 20 true rfl,.k c3,.g 26 false rfl,.k c4,.g 31 false rfl] rfl
    |true=>exact Ug func184 rfl [.k c1,.g 15 true (decide_eq_true h0),.k c2,.g 20 true rfl,.k c3,.g 26 false rfl,.k c4,.g 31 true rfl,.k c5] rfl
 rw[decide_eq_false h0];exact Ug func184 rfl [.k c1,.g 15 false (decide_eq_false h0)] rfl
theorem rH{a b c x:Pt}{t:Tm}(ha:Cs 128 3 a.c)(hb:Cs 128 3 b.c)(hc:Cs 128 3 c.c)(hx:Cs 128 3 x.c)(ht:Va t):Uj 185 [.agg (ta t),.agg (Sa a),.agg (Sa b),.agg (Sa c),.agg (Sa x)] [.one (.bool (Qep (Rh t) a.nrm b.nrm c.nrm x.nrm))]:=by
 have c1:=Eb ha hb hc ht;have c2:=Eb ha hb hx ht;have c3:=Eb hb hc hx ht;have c4:=Eb hc ha hx ht;have b1:=Iq t (Gh a.nrm.c b.nrm.c c.nrm.c);have b2:=Iq t (Gh a.nrm.c b.nrm.c x.nrm.c);have b3:=Iq t (Gh b.nrm.c c.nrm.c x.nrm.c);have b4:=Iq t (Gh c.nrm.c a.nrm.c x.nrm.c);unfold Qep;generalize Gl (Rh t) (Gh a.nrm.c b.nrm.c c.nrm.c)=o at *;generalize Gl (Rh t) (Gh a.nrm.c b.nrm.c x.nrm.c)=o2 at *;generalize Gl (Rh t) (Gh b.nrm.c c.nrm.c x.nrm.c)=o3 at *;generalize Gl (Rh t) (Gh c.nrm.c a.nrm.c x.nrm.c)=o4 at *;have m2:=JP b2 b1;have m3:=JP b3 b1;have m4:=JP b4 b1;by_cases h0:o=0
 ·rw[decide_eq_true h0];exact Ug func185 rfl [.k c1,.t (decide_eq_true h0)] rfl
 rw[decide_eq_false h0];by_cases h2:0<=o2*o
 ·rw[decide_eq_true h2];by_cases h3:0<=o3*o
  ·rw[decide_eq_true h3];exact Ug func185 rfl [.k c1,.f (decide_eq_false h0),.k c2,.g 27 true (decide_eq_true h2),.k c3,.g 37 true (decide_eq_true h3),.k c4] rfl rfl (by simp[Uw,IntKind.bits] <;> omega)
  rw[decide_eq_false h3];exact Ug func185 rfl [.k c1,.f (decide_eq_false h0),.k c2,.g 27 true (decide_eq_true h2),.k c3,.g 37 false (decide_eq_false h3)] rfl rfl (by simp[Uw,IntKind.bits] <;> omega)
 rw[decide_eq_false h2];exact Ug func185 rfl [.k c1,.f (decide_eq_false h0),.k c2,.g 27 false (decide_eq_false h2),.g 37 false rfl] rfl rfl (by simp[Uw,IntKind.bits] <;> omega)
theorem rG{l:List Pt}{t:Tm}{x:Pt}(hs:∀p∈l,Cs 128 3 p.c)(hx:Cs 128 3 x.c)(hn:l.length≤1000000)(ht:Va t):Uj 74 [.agg (ta t),.agg (Sa x),.one (pts l)] [.one (.bool (cd0 (MJ (Rh t) x.nrm (l.map Pt.nrm))))]:=by
 have hcl:=S5 l;have hL:∀{i:Nat} {a:Pt},l[i]? = some a->(l.map Pt.nrm)[i]? = some a.nrm:=λh=>He h
 have hlL:(l.map Pt.nrm).length=l.length:=Q8 _;show Uj 74 [.agg (ta t),.agg (Sa x),.one (.row (Gx l))] _;refine Hz func74 rfl ?_;refine Ud [] rfl ?_;refine Ui (S:=Nat) 2 (λL1 i=>(15,.v (.oi i))::L1) (λ_=>[gG t,yP x]) (λi=>l.length-i) (λi=>i<=l.length/\∀(i' j:Nat) (a b:Pt),i'<i->j<i'->(l.map Pt.nrm)[i']? = some a->(l.map Pt.nrm)[j]? = some b->Gd1 (Rh t) x.nrm (l.map Pt.nrm) j a b) 0 ⟨Qg _,λi' _ _ _ h=>absurd h (Xt i')⟩ rfl rfl λi ⟨hi,g1⟩=>?_
 by_cases h:i<l.length
 ·obtain⟨a,ha⟩:=gxE (l:=l) (i:=i) h;have sa:=hs a (Qa ha);refine go tt [.T,.x (Ra ha),.i i] rfl (by simp[Uw] <;> omega) ?_;have hcl2:((Gx l).take i).length=i:=by rw[Qq];omega
  refine Ui (S:=Nat) 3 (λL1 j=>(24,.v (.oi j))::L1) (λ_=>[gG t,yP x,yP a]) (λj=>i-j) (λj=>j<=i/\∀(j':Nat) (b:Pt),j'<j->(l.map Pt.nrm)[j']? = some b->Gd1 (Rh t) x.nrm (l.map Pt.nrm) j' a.nrm b) 0 ⟨Qg _,λj' _ h=>absurd h (Xt j')⟩ rfl rfl λj ⟨hj,g2⟩=>?_
  by_cases h':j<i
  ·obtain⟨b,hb⟩:=gxE (l:=l) (i:=j) (by omega);have sb:=hs b (Qa hb);have hgb:((Gx l).take i)[j]? = some (Sa b):=by rw[Jj h'];exact Ra hb
   have nxt:Gd1 (Rh t) x.nrm (l.map Pt.nrm) j a.nrm b.nrm->∀(j':Nat) (b':Pt),j'<j+1->(l.map Pt.nrm)[j']? = some b'->Gd1 (Rh t) x.nrm (l.map Pt.nrm) j' a.nrm b':=λhg j' b' hj' hb'=>by
    by_cases e:j'=j
    ·subst e;rw[hL hb]at hb';injection hb' with hb';subst hb';exact hg
    ·exact g2 j' b' (by omega) hb'
   by_cases e1:a.id=x.id
   ·refine go tt [.T,.x hgb,.g 34 true (decide_eq_true e1),.t rfl] rfl (by simp[Uw] <;> omega) ?_;exact rd (j+1) (by omega) ⟨h',nxt λh=>absurd e1 h⟩ rfl
   by_cases e2:b.id=x.id
   ·refine go tt [.T,.x hgb,.g 34 false (decide_eq_false e1),.t (decide_eq_true e2)] rfl (by simp[Uw] <;> omega) ?_;exact rd (j+1) (by omega) ⟨h',nxt λ_ h=>absurd e2 h⟩ rfl
   have cw:=rR sa sb hx ht;by_cases hw:Qhx (Rh t) a.nrm b.nrm x.nrm=true
   ·have hf:cd0 (MJ (Rh t) x.nrm (l.map Pt.nrm))=false:=YP λhc=>(hc i j _ _ h' (hL ha) (hL hb) e1 e2).1 (fE.1 hw)
    rw[hf];exact Uf [.T,.x hgb,.g 34 false (decide_eq_false e1),.f (decide_eq_false e2),.k cw,.t hw] rfl rfl (by simp[Uw] <;> omega)
   have hcl3:((Gx l).take j).length=j:=by rw[Qq];omega
   refine go tt [.T,.x hgb,.g 34 false (decide_eq_false e1),.f (decide_eq_false e2),.k cw,.f (by simpa using hw),.i j] rfl (by simp[Uw] <;> omega) ?_;refine Ui (S:=Nat) 4 (λL1 k=>(50,.v (.oi k))::L1) (λ_=>[gG t,yP x,yP a,yP b]) (λk=>j-k) (λk=>k<=j/\∀(k':Nat) (c:Pt),k'<k->(l.map Pt.nrm)[k']? = some c->c.id≠x.id->¬sX (Rh t) a.nrm b.nrm c x.nrm) 0 ⟨Qg _,λk' _ h=>absurd h (Xt k')⟩ rfl rfl λk ⟨hk,g3⟩=>?_
   by_cases h'':k<j
   ·obtain⟨c,hc⟩:=gxE (l:=l) (i:=k) (by omega);have sc:=hs c (Qa hc);have hgc:((Gx l).take j)[k]? = some (Sa c):=by rw[Jj h''];exact Ra hc
    have nxt3:(c.id≠x.id->¬sX (Rh t) a.nrm b.nrm c.nrm x.nrm)->∀(k':Nat) (c':Pt),k'<k+1->(l.map Pt.nrm)[k']? = some c'->c'.id≠x.id->¬sX (Rh t) a.nrm b.nrm c' x.nrm:=λhg k' c' hk' hc'=>by
     by_cases e:k'=k
     ·subst e;rw[hL hc]at hc';injection hc' with hc';subst hc';exact hg
     ·exact g3 k' c' (by omega) hc'
    by_cases e3:c.id=x.id
    ·refine go tt [.T,.x hgc,.g 59 false (decide_eq_false (λh=>h e3)),.f rfl] rfl (by simp[Uw] <;> omega) ?_;exact rd (k+1) (by omega) ⟨h'',nxt3 λh=>absurd e3 h⟩ rfl
    have ci:=rH sa sb sc hx ht;by_cases hin:Qep (Rh t) a.nrm b.nrm c.nrm x.nrm=true
    ·have hf:cd0 (MJ (Rh t) x.nrm (l.map Pt.nrm))=false:=YP λhcn=>(hcn i j _ _ h' (hL ha) (hL hb) e1 e2).2 k _ h'' (hL hc) e3 (wQ.1 hin)
     rw[hf];exact Uf [.T,.x hgc,.g 59 true (decide_eq_true e3),.k ci,.t hin] rfl rfl (by simp[Uw] <;> omega)
    refine go tt [.T,.x hgc,.g 59 true (decide_eq_true e3),.k ci,.f (by simpa using hin)] rfl (by simp[Uw] <;> omega) ?_;exact rd (k+1) (by omega) ⟨h'',nxt3 λ_ h=>hin (wQ.2 h)⟩ rfl
   obtain rfl:k=j:=by omega
   refine go tt [.F] rfl (by simp[Uw] <;> omega) ?_;exact rd (k+1) (by omega) ⟨h',nxt λ_ _=>⟨λh=>hw (fE.2 h),g3⟩⟩ rfl
  obtain rfl:j=i:=by omega
  refine go tt [.F] rfl (by simp[Uw] <;> omega) ?_;refine rd (j+1) (by omega) ⟨h,λi' j' a' b' hi' hj' ha' hb'=>?_⟩ rfl;by_cases e:i'=j
  ·subst e;rw[hL ha]at ha';injection ha' with ha';subst ha';exact g2 j' b' hj' hb'
  exact g1 i' j' a' b' (by omega) hj' ha' hb'
 have ht:cd0 (MJ (Rh t) x.nrm (l.map Pt.nrm))=true:=EU λi' j a b hj ha hb=>g1 i' j a b (by have:=(Qf.1 ha).1;omega) hj ha hb
 rw[ht];exact Uf [.F] rfl
def sH(O:List Pt)(x:Pt):Bool:=Qsi (O.map Pt.nrm) x.nrm
def E8(O:List Pt):List Pt:=O.filter (sH O)
theorem OL{O:List Pt}{p:Pt}(h:p∈E8 O):p∈O:=(Y6.1 h).1
theorem OD(O:List Pt):(E8 O).length<=O.length:=Jk _ _
theorem AY{l:List Pt}{i:Nat}{x:Pt}(g:Pt->Bool)(hx:l[i]? = some x):(l.take (i+1)).filter g=(l.take i).filter g++(if g x=true then [x]else []):=by
 rw[Xv,hx,X7,Ym];congr 1;cases hb:g x <;> simp[hb]
theorem vX{M:List Pt}(hsc:∀p∈M,Cs 128 3 p.c)(hn:M.length≤1000000):Uj 73 [.one (pts M)] [.one (pts (E8 M))]:=by
 have hcl:=S5 M;show Uj 73 [.one (.row (Gx M))] [.one (.row (Gx (E8 M)))];unfold E8;refine Hz func73 rfl ?_;refine Ud [.o 3 76 5] rfl ?_;refine Ui (S:=Nat) 1 (λL1 i=>(11,.v (.oi i))::(3,.v (.one (.orow 0 5 none)))::L1) (λi=>[.row false 76 5 (Gx ((M.take i).filter (sH M)))]) (λi=>M.length-i) (λi=>i<=M.length) 0 (Qg _) rfl rfl λi hi=>?_
 by_cases h:i<M.length
 ·obtain⟨x,hx⟩:=gxE (l:=M) (i:=i) h;have sx:=hsc x (Qa hx);have hnx:=AY (sH M) hx;obtain⟨O,hO⟩:=nmE ((M.take i).filter (sH M));have hOl:O.length<=i:=by rw[hO];exact Qc (Jk _ _) (by rw[Qq];omega)
  have hOc:=S5 O;rw[<-hO]at hnx ⊢;refine go tt [.T,.x (Ra hx)] rfl (by simp[Uw] <;> omega) ?_;obtain⟨f,hf⟩:∃f:Nat->Bool,f=λj=>(M.take j).all λy=>decide (x.id<=y.id) || !WQ x.nrm.c y.nrm.c:=⟨_,rfl⟩
  have f0:f 0=true:=by rw[hf];rfl
  have fl:f M.length=sH M x:=by
   rw[hf];simp only[Q7];unfold sH Qsi;rw[List.all_map];rfl
  have fs:∀j y,M[j]? = some y->f (j+1)=(f j && (decide (x.id<=y.id) || !WQ x.nrm.c y.nrm.c)):=λj y hy=>by
   rw[hf];simp only[Xv,hy,X7,List.all_append];simp
  refine lp (S:=Nat) 2 (λL1 j=>(17,.v (.oi j))::(6,.v (.one (.bool (f j))))::L1) (λ_=>[.row false 76 5 (Gx O),yP x]) (λj=>M.length-j) (λj=>j<=M.length) 0 (Qg _) rfl (λ_ _=>rfl) (by rw[f0];rfl) λj hj=>?_
  by_cases h':j<M.length
  ·obtain⟨y,hy⟩:=gxE (l:=M) (i:=j) h';have sy:=hsc y (Qa hy);have hnf:=fs j y hy;cases hb:f j with
   |false =>
    rw[hb,Yl]at hnf;refine go tt [.T,.x (Ra hy),.g 22 false rfl,.g 28 false rfl] rfl (by simp[Uw] <;> omega) ?_;exact rd (j+1) (by omega) h' (by rw[hnf];rfl)
   |
    true =>
    rw[hb,Yi]at hnf;by_cases hle:x.id<=y.id
    ·rw[decide_eq_true hle,K6]at hnf;refine go tt [.T,.x (Ra hy),.g 22 true rfl,.g 28 true (decide_eq_true hle)] rfl (by simp[Uw] <;> omega) ?_;exact rd (j+1) (by omega) h' (by rw[hnf];rfl)
    ·rw[decide_eq_false hle,Vi]at hnf;refine go tt [.T,.x (Ra hy),.g 22 true rfl,.g 28 false (decide_eq_false hle),.k (aP sx sy)] rfl (by simp[Uw] <;> omega) ?_;exact rd (j+1) (by omega) h' (by rw[hnf];rfl)
  obtain rfl:j=M.length:=by omega
  rw[fl];cases hb:sH M x with
  |true =>
   rw[hb,if_pos rfl]at hnx;refine go tt [.F,.t rfl] rfl (by simp[Uw] <;> omega) ?_;exact rd (i+1) (by omega) h (by rw[hnx];simp[Gx];rfl)
  |false =>
   rw[hb,if_neg (by decide),Xi]at hnx;refine go tt [.F,.f rfl] rfl (by simp[Uw] <;> omega) ?_;exact rd (i+1) (by omega) h (by rw[hnx];rfl)
 obtain rfl:i=M.length:=by omega
 exact Uf [.F] rfl (by rw[Q7]) trivial
noncomputable def cornU(sg:Um->Int)(W:List Pt):List Pt:=W.filter λx=>cd0 (MJ sg x.nrm (W.map Pt.nrm))
def FA(A:List Pt)(is:Um)(i:Nat)(x:Pt):Prop:=∃id,is[i]? = some id/\fnd A id=some x
theorem FA.un{A:List Pt}{is:Um}{i:Nat}{x y:Pt}(h:FA A is i x)(h':FA A is i y):x=y:=by
 obtain⟨a,h1,h2⟩:=h;obtain⟨b,h3,h4⟩:=h';rw[h1]at h3;obtain rfl:=Option.some.inj h3;rw[h2]at h4;exact Option.some.inj h4
def HG(sg:Um->Int)(A:List Pt)(is:Um)(i:Nat):Prop:=∃x,FA A is i x/\∀f,0<i->FA A is 0 f->Sl sg f.nrm x.nrm=true
def TG(sg:Um->Int)(A:List Pt)(is:Um)(i j k:Nat):Prop:=∀x y z,FA A is i x->FA A is j y->FA A is k z->0<Gl sg (Gh z.nrm.c y.nrm.c x.nrm.c)
def EZ(sg:Um->Int)(A:List Pt)(is:Um):Prop:=is.length=A.length/\(∀i,i<is.length->HG sg A is i)/\∀i j k,k<j->j<i->i<is.length->TG sg A is i j k
set_option maxHeartbeats 2000000 in
theorem Qb4{M:List Pt}{t:Tm}{is:Um}(hsc:∀p∈M,Cs 128 3 p.c)(hn:M.length≤1000)(hil1:is.length≤1000000)(ht:Va t):Uj 23 [.agg (ta t),.one (ids is),.one (pts M)] [.one (.bool (cd0 (EZ (Rh t) (cornU (Rh t) (E8 M)) is)))]:=by
 have cW:=vX hsc (by omega);have hWs:∀p∈E8 M,Cs 128 3 p.c:=λp hp=>hsc p (OL hp)
 have hWl:=OD M;obtain⟨W,hW⟩:=nmE (E8 M);rw[<-hW]at cW hWs hWl ⊢;obtain⟨g,hg⟩:∃g:Pt->Bool,g=λx=>cd0 (MJ (Rh t) x.nrm (W.map Pt.nrm)):=⟨_,rfl⟩
 obtain⟨A,hA⟩:=nmE (cornU (Rh t) W);have hAg:A=W.filter g:=by rw[hA,hg];rfl
 rw[<-hA];have hAm:∀x∈A,x∈W:=λx hx=>by rw[hAg]at hx;exact(Y6.1 hx).1
 have hAl:A.length<=W.length:=by rw[hAg];exact Jk _ _
 have hcl:=S5 W;have hcl':(List.map Sa W).length=W.length:=by simp
 have hcA:=S5 A;have hil:(Ic is).length=is.length:=by simp[Ic]
 show Uj 23 [.agg (ta t),.one (.row (Ic is)),.one (.row (Gx M))] _;refine Hz func23 rfl ?_;refine Ud [.k cW,.o 8 76 5] rfl ?_;refine Ui (S:=Nat) 2 (λL1 i=>(26,.v (.oi i))::(8,.v (.one (.orow 1 5 none)))::L1) (λi=>[gG t,.row false 76 5 (Gx ((W.take i).filter g))]) (λi=>W.length-i) (λi=>i<=W.length) 0 (Qg _) rfl rfl λi hi=>?_
 by_cases h:i<W.length
 ·obtain⟨x,hx⟩:=gxE (l:=W) (i:=i) h;have cc:=rG (l:=W) (x:=x) hWs (hWs x (Qa hx)) (by omega) ht;rw[show cd0 (MJ (Rh t) x.nrm (W.map Pt.nrm))=g x by rw[hg]]at cc;have hnx:=AY g hx;have hOl:((W.take i).filter g).length<=i:=Qc (Jk _ _) (by rw[Qq];omega);have hOc:=S5 ((W.take i).filter g);cases hb:g x with
  |true =>
   rw[hb]at cc;rw[hb,if_pos rfl]at hnx;refine go tt [.T,.x (Ra hx),.k cc,.t rfl] rfl (by simp[Uw] <;> omega) ?_;exact rd (i+1) (by omega) h (by rw[hnx];simp[Gx];rfl)
  |false =>
   rw[hb]at cc;rw[hb,if_neg (by decide),Xi]at hnx;refine go tt [.T,.x (Ra hx),.k cc,.f rfl] rfl (by simp[Uw] <;> omega) ?_;exact rd (i+1) (by omega) h (by rw[hnx];rfl)
 obtain rfl:i=W.length:=by omega
 rw[Q7,<-hAg];by_cases hlen:is.length=A.length
 case neg =>
  rw[YP λh=>hlen h.1];exact Uf [.F,.T] rfl
 refine Ud [.F,.F,.o 11 76 5] rfl ?_;refine pb 1 rfl rfl ?_;refine Ui (S:=List Pt) 3 (λL1 o=>(46,.v (.oi (o.length:Int)))::(11,.v (.one (.orow 2 5 none)))::L1) (λo=>[gG t,.gone,.row false 76 5 (Gx o)]) (λo=>is.length-o.length) (λo=>o.length<=is.length/\(∀j x,o[j]? = some x->FA A is j x)/\∀j,j<o.length->HG (Rh t) A is j) [] ⟨Qg _,(λj x h=>by cases h),λj h=>absurd h (Xt j)⟩ rfl rfl λo ⟨ho,o1,o2⟩=>?_
 have hco:=S5 o;by_cases h:o.length<is.length
 ·obtain⟨id,hid⟩:=gxE (l:=is) (i:=o.length) h;have hgi:=zG (l:=is) (i:=o.length) hid;have no:¬HG (Rh t) A is o.length->cd0 (EZ (Rh t) A is)=false:=λhng=>YP λhq=>hng (hq.2.1 _ h)
  rcases MP (id:=id) (l:=A) (by omega)with⟨x,hx,cf⟩|⟨hx,cf⟩
  ·have hfx:FA A is o.length x:=⟨id,hid,hx⟩;have hxm:=(Im hx).1;have e1:∀j y,(o++[x])[j]? = some y->FA A is j y:=λj y hy=>by
    rcases Q9 j o.length with hj|hj
    ·rw[Q6 hj]at hy;exact o1 j y hy
    ·have:=(Qf.1 hy).1;rw[Q3,Jc]at this;obtain rfl:j=o.length:=by omega
     rw[Zp (Qj _),J4]at hy;obtain rfl:=Option.some.inj hy;exact hfx
   have e2:HG (Rh t) A is o.length->∀j,j<(o++[x]).length->HG (Rh t) A is j:=λhg j hj=>by
    rw[Q3,Jc]at hj;by_cases e:j=o.length
    ·subst e;exact hg
    ·exact o2 j (by omega)
   have hl1:(o++[x]).length=o.length+1:=by simp
   have hp1:Gx (o++[x])=Gx o++[Sa x]:=by simp[Gx]
   by_cases h0:o.length=0
   ·have hg0:HG (Rh t) A is o.length:=⟨x,hfx,λf h=>by omega⟩;refine go tt [.T,.x hgi,.k cf,.g 59 false rfl,.g 62 false Uk,.f rfl] rfl (by simp[Uw] <;> omega) ?_;exact rd (o++[x]) (by omega) ⟨by omega,e1,e2 hg0⟩ (by rw[hl1,hp1];rfl)
   obtain⟨f,hf⟩:=gxE (l:=o) (i:=0) (by omega);have hff:=o1 0 f hf;have hfm:f∈A:=by obtain⟨_,_,h⟩:=hff;exact(Im h).1
   have cb:=Lq (hWs f (hAm f hfm)) (hWs x (hAm x hxm)) ht;cases hb:Sl (Rh t) f.nrm x.nrm with
   |true =>
    rw[hb]at cb;have hg0:HG (Rh t) A is o.length:=⟨x,hfx,λf' _ h'=>by rw[h'.un hff];exact hb⟩;refine go tt [.T,.x hgi,.k cf,.g 59 false rfl,.g 62 true Ul,.i 0,.x (Ra hf),.k cb,.f rfl] rfl (by simp[Uw] <;> omega) ?_;exact rd (o++[x]) (by omega) ⟨by omega,e1,e2 hg0⟩ (by rw[hl1,hp1];rfl)
   |
    false =>
    rw[hb]at cb;rw[no λ⟨x',h1,h2⟩=>by
     have:=h2 f (by omega) hff;rw[h1.un hfx,hb]at this;cases this]
    exact Uf [.T,.x hgi,.k cf,.g 59 false rfl,.g 62 true Ul,.i 0,.x (Ra hf),.k cb,.t rfl] rfl rfl (by simp[Uw] <;> omega)
  rw[no λ⟨x',⟨id',h1,h2⟩,_⟩=>by
   rw[hid]at h1;obtain rfl:=Option.some.inj h1;rw[hx]at h2;cases h2]
  exact Uf [.T,.x hgi,.k cf,.g 59 true rfl,.t rfl] rfl rfl (by simp[Uw] <;> omega)
 have hol:o.length=is.length:=by omega
 have all2:∀i,i<is.length->HG (Rh t) A is i:=λi hi=>o2 i (by omega)
 refine go tt [.F] rfl (by simp[Uw] <;> omega) ?_;refine pb 2 rfl rfl ?_;have sO:=λ{j:Nat} {y:Pt} (hy:o[j]? = some y)=>hWs y (hAm y (by obtain⟨_,_,h⟩:=o1 j y hy;exact(Im h).1))
 refine Ui (S:=Nat) 3 (λL1 i=>(79,.v (.oi i))::L1) (λ_=>[gG t,.gone,.gone]) (λi=>o.length-i) (λi=>i<=o.length/\∀i' j k,k<j->j<i'->i'<i->TG (Rh t) A is i' j k) 0 ⟨Qg _,λ_ _ _ _ _ h=>absurd h (Xt _)⟩ rfl rfl λi ⟨hi,g1⟩=>?_
 by_cases h:i<o.length
 ·obtain⟨x,hx⟩:=gxE (l:=o) (i:=i) h;refine go tt [.T,.x (Ra hx),.i i] rfl (by simp[Uw] <;> omega) ?_;have hcl2:((Gx o).take i).length=i:=by rw[Qq];omega
  refine Ui (S:=Nat) 4 (λL1 j=>(88,.v (.oi j))::L1) (λ_=>[gG t,.gone,.gone,yP x]) (λj=>i-j) (λj=>j<=i/\∀j' k,k<j'->j'<j->TG (Rh t) A is i j' k) 0 ⟨Qg _,λ_ _ _ h=>absurd h (Xt _)⟩ rfl rfl λj ⟨hj,g2⟩=>?_
  by_cases h':j<i
  ·obtain⟨y,hy⟩:=gxE (l:=o) (i:=j) (by omega);have hgy:((Gx o).take i)[j]? = some (Sa y):=by rw[Jj h'];exact Ra hy
   have hcl3:((Gx o).take j).length=j:=by rw[Qq];omega
   refine go tt [.T,.x hgy,.i j] rfl (by simp[Uw] <;> omega) ?_;refine Ui (S:=Nat) 5 (λL1 k=>(97,.v (.oi k))::L1) (λ_=>[gG t,.gone,.gone,yP x,yP y]) (λk=>j-k) (λk=>k<=j/\∀k',k'<k->TG (Rh t) A is i j k') 0 ⟨Qg _,λ_ h=>absurd h (Xt _)⟩ rfl rfl λk ⟨hk,g3⟩=>?_
   by_cases h'':k<j
   ·obtain⟨z,hz⟩:=gxE (l:=o) (i:=k) (by omega);have hgz:((Gx o).take j)[k]? = some (Sa z):=by rw[Jj h''];exact Ra hz
    have ct_:=Eb (sO hz) (sO hy) (sO hx) ht;obtain⟨s,hs⟩:=nmE (Gl (Rh t) (Gh z.nrm.c y.nrm.c x.nrm.c));rw[<-hs]at ct_;by_cases h4:0<s
    ·refine go tt [.T,.x hgz,.k ct_,.F] rfl (by simp[Uw] <;> omega) ?_;refine rd (k+1) (by omega) ⟨h'',λk' hk'=>?_⟩ rfl;by_cases e:k'=k
     ·subst e;exact λx' y' z' h1 h2 h3=>by
       rw[h1.un (o1 i x hx),h2.un (o1 j y hy),h3.un (o1 _ z hz),<-hs];exact h4
     exact g3 k' (by omega)
    rw[YP λhq=>by
     have:=hq.2.2 i j k h'' h' (by omega) x y z (o1 i x hx) (o1 j y hy) (o1 k z hz);rw[<-hs]at this;exact h4 this]
    exact Uf [.T,.x hgz,.k ct_,.T] rfl rfl (by simp[Uw] <;> omega)
   obtain rfl:k=j:=by omega
   refine go tt [.F] rfl (by simp[Uw] <;> omega) ?_;refine rd (k+1) (by omega) ⟨h',λj' k' h1 h2=>?_⟩ rfl;by_cases e:j'=k
   ·subst e;exact g3 k' h1
   exact g2 j' k' h1 (by omega)
  obtain rfl:j=i:=by omega
  refine go tt [.F] rfl (by simp[Uw] <;> omega) ?_;refine rd (j+1) (by omega) ⟨h,λi' j' k' h1 h2 h3=>?_⟩ rfl;by_cases e:i'=j
  ·subst e;exact g2 j' k' h1 h2
  exact g1 i' j' k' h1 h2 (by omega)
 rw[EU ⟨hlen,all2,λi' j k h1 h2 h3=>g1 i' j k h1 h2 (by omega)⟩];exact Uf [.F] rfl
theorem Qix{l:List Pt}(hn:l.length<=1000000):Uj 76 [.one (pts l)] [.one (pts (Fg Hf l))]:=by
 have hcl:=S5 l;show Uj 76 [.one (.row (Gx l))] [.one (.row (Gx (Fg Hf l)))];refine Hz func76 rfl ?_;refine Ud [.o 3 76 5] rfl ?_;refine Ui (S:=Nat) 1 (λL1 i=>(9,.v (.oi i))::(3,.v (.one (.orow 0 5 none)))::L1) (λi=>[.row false 76 5 (Gx (Fg Hf (l.take i)))]) (λi=>l.length-i) (λi=>i<=l.length) 0 (Qg _) rfl rfl λi hi=>?_
 by_cases hlt:i<l.length
 ·obtain⟨c,hc⟩:=gxE (l:=l) (i:=i) hlt;have hst:Fg Hf (l.take (i+1))=E9 Hf (Fg Hf (l.take i)) c:=E6 hc;obtain⟨O,hO⟩:=nmE (Fg Hf (l.take i));have hOl:O.length=i:=by rw[hO,Gq,Qq];omega
  rw[<-hO]at hst ⊢;refine Ud [.t (by simp[hcl];omega),.x (Ra hc)] rfl ?_;refine Ui (S:=Nat) 2 (λL1 k=>(6,.v (.oi k))::L1) (λk=>[.row false 76 5 (Gx O),yP c]) id (λk=>k<=O.length/\Mb Hf O c k=Mb Hf O c O.length) (Gx O).length ⟨by rw[S5];exact Qj _,by rw[S5]⟩ rfl rfl λk ⟨hk,hp⟩=>?_
  have hz:∀y∈[zPt],y.length=5:=λy hy=>by rw[Qo.1 hy];rfl
  have h77:∀y∈Gx O++[zPt],y.length=5:=λy hy=>by
   rcases Qr.1 hy with hy|hy
   ·exact Qlo O y hy
   ·exact hz y hy
  cases k with
  |
   zero =>
   have hp:Mb Hf O c O.length=0:=by rw[<-hp];rfl
   refine go tt [.g 17 false (by simp),.f rfl,.s (sz:=5) hz,.r 36 (eI (b:=((0+1:Nat):Int)) (by simp)),.i (0+1),.i (0),.s (sz:=5) (λy hy=>h77 y (Ql hy)),.i (O.length),.i (0)] rfl (by simp[Uw,S5];omega) ?_;exact rd (i+1) (by omega) hlt (by rw[hst,<-dW (z:=zPt) (l2:=(Gx O++[zPt]).take ((Gx O++[zPt]).length-0)) (k:=0) (m:=O.length) (by omega) hp (by omega) (by congr 1;exact Qn (by simp))];rfl)
  |
   succ k =>
   obtain⟨x,hx⟩:=gxE (l:=O) (i:=k) (by omega);by_cases hlc:c.id<x.id
   ·refine go tt [.g 17 true (by simp),.r 22 (eI (b:=(k:Int)) (by simp)),.i k,.x (Ra hx),.t (decide_eq_true hlc),.r 29 (eI (b:=(k:Int)) (by simp))] rfl (by simp[Uw,S5];omega) ?_;exact rd k (by simp) ⟨by omega,by rw[<-hp,WE hx (show Hf c x=true from decide_eq_true hlc)]⟩ rfl
   ·have hp:Mb Hf O c O.length=k+1:=by rw[<-hp,XT hx (show Hf c x=false from decide_eq_false hlc)]
    refine go tt [.g 17 true (by simp),.r 22 (eI (b:=(k:Int)) (by simp)),.i k,.x (Ra hx),.f (decide_eq_false hlc),.s (sz:=5) hz,.r 36 (eI (b:=((k+1+1:Nat):Int)) (by simp)),.i (k+1+1),.i (k+1),.s (sz:=5) (λy hy=>h77 y (Q5 (Ql hy))),.i (O.length-(k+1)),.i (k+1)] rfl (by simp[Uw,S5];omega) ?_;exact rd (i+1) (by omega) hlt (by rw[hst,<-dW (z:=zPt) (l2:=((Gx O++[zPt]).drop (k+1)).take ((Gx O++[zPt]).length-(k+1))) (k:=k+1) (m:=O.length-(k+1)) (by omega) hp (by omega) (by congr 1;exact Qn (by simp))];rfl)
 ·obtain rfl:i=l.length:=by omega
  rw[Q7];exact Uf [.f (by simp[hcl])] rfl
theorem Qk2{W:List Pt}{x y:Pt}{i j k:Nat}(hx:W[i]? = some x)(hy:(W.drop (i+1))[j]? = some y):∃r,Lo W=LD W x y i j k++r:=by
 obtain⟨r,hr⟩:=DC (i+1) W;rw[YJ W i x hx]at hr;obtain⟨r2,hr2⟩:=VN (j+1) (W.drop (i+1));rw[Ds _ j y hy]at hr2;have e3:((W.drop (i+1)).drop (j+1)).map (λz=>(y,z))=(((W.drop (i+1)).drop (j+1)).take k).map (λz=>(y,z))++(((W.drop (i+1)).drop (j+1)).drop k).map (λz=>(y,z)):=by
  rw[<-Xm,Zj]
 rw[hr2,e3]at hr;rw[hr];unfold LD;simp only[Xm,Zk];exact⟨_,rfl⟩
theorem aR{W:List Pt}{a b c:Pt}{t:Tm}(ha:Cs 128 3 a.c)(hb:Cs 128 3 b.c)(hc:Cs 128 3 c.c)(hs:∀p∈W,Cs 128 3 p.c)(hn:W.length≤1000000)(ht:Va t):Uj 77 [.agg (ta t),.agg (Sa a),.agg (Sa b),.agg (Sa c),.one (pts W)] [.one (.bool (Qjt (Rh t) (W.map Pt.nrm) (a.nrm,b.nrm,c.nrm)))]:=by
 have hcl:=S5 W;have c1:=Eb ha hb hc ht;have b1:=Iq t (Gh a.nrm.c b.nrm.c c.nrm.c);show Uj 77 [.agg (ta t),.agg (Sa a),.agg (Sa b),.agg (Sa c),.one (.row (Gx W))] _;unfold Qjt;dsimp only;obtain⟨o,ho⟩:=nmE (Gl (Rh t) (Gh a.nrm.c b.nrm.c c.nrm.c));rw[<-ho]at c1 b1 ⊢;rw[List.all_map];obtain⟨f,hf⟩:∃f:Pt->Bool,f=λd=>decide (d.id=a.id\/d.id=b.id\/d.id=c.id) || !decide (0<o*Gl (Rh t) (An a.nrm.c b.nrm.c c.nrm.c d.nrm.c)):=⟨_,rfl⟩
 rw[show(W.all ((λd=>decide (d.id=a.nrm.id\/d.id=b.nrm.id\/d.id=c.nrm.id) || !decide (0<o*Gl (Rh t) (An a.nrm.c b.nrm.c c.nrm.c d.c))) ∘ Pt.nrm))=W.all f from by rw[hf];rfl];refine Hz func77 rfl ?_;refine Ud [.k c1] rfl ?_;refine Ui (S:=Nat) 4 (λL1 i=>(21,.v (.oi i))::L1) (λ_=>[gG t,yP a,yP b,yP c]) (λi=>W.length-i) (λi=>i<=W.length/\∀j d,j<i->W[j]? = some d->f d=true) 0 ⟨Qg _,λj _ h=>absurd h (Xt j)⟩ rfl rfl λi ⟨hi,hj⟩=>?_
 by_cases h:i<W.length
 ·obtain⟨d,hd⟩:=gxE (l:=W) (i:=i) h;have hdm:=Qa hd;have sd:=hs d hdm;have nxt:f d=true->∀j e,j<i+1->W[j]? = some e->f e=true:=λhfd j e hj' he=>by
   by_cases q:j=i
   ·subst q;rw[hd]at he;injection he with he;subst he;exact hfd
   ·exact hj j e (by omega) he
  have on:d.id=a.id\/d.id=b.id\/d.id=c.id->f d=true:=λh=>by rw[hf];simp only[decide_eq_true h,K6]
  by_cases e1:d.id=a.id
  ·refine go tt [.T,.x (Ra hd),.g 30 false (decide_eq_false λh=>h e1),.g 37 false rfl,.g 44 false rfl,.f rfl] rfl (by simp[Uw] <;> omega) ?_;exact rd (i+1) (by omega) ⟨h,nxt (on (.inl e1))⟩ rfl
  by_cases e2:d.id=b.id
  ·refine go tt [.T,.x (Ra hd),.g 30 true (decide_eq_true e1),.g 37 false (decide_eq_false λh=>h e2),.g 44 false rfl,.f rfl] rfl (by simp[Uw] <;> omega) ?_;exact rd (i+1) (by omega) ⟨h,nxt (on (.inr (.inl e2)))⟩ rfl
  by_cases e3:d.id=c.id
  ·refine go tt [.T,.x (Ra hd),.g 30 true (decide_eq_true e1),.g 37 true (decide_eq_true e2),.g 44 false (decide_eq_false λh=>h e3),.f rfl] rfl (by simp[Uw] <;> omega) ?_;exact rd (i+1) (by omega) ⟨h,nxt (on (.inr (.inr e3)))⟩ rfl
  obtain⟨ci,ca⟩:=Qop ha hb hc sd ht;have b2:=Iq t (An a.nrm.c b.nrm.c c.nrm.c d.nrm.c);have hfd:f d = !decide (0<o*Gl (Rh t) (An a.nrm.c b.nrm.c c.nrm.c d.nrm.c)):=by
   rw[hf];simp only[decide_eq_false (show ¬(d.id=a.id\/d.id=b.id\/d.id=c.id) from λh=>h.elim e1 λh=>h.elim e2 e3),Vi]
  have hms:=JP b1 b2;by_cases hp:0<o*Gl (Rh t) (An a.nrm.c b.nrm.c c.nrm.c d.nrm.c)
  ·rw[decide_eq_true hp]at hfd;have hall:W.all f=false:=by
    cases hb:W.all f with
    |false=>rfl
    |true=>rw[Js]at hb;rw[hb d hdm]at hfd;cases hfd
   rw[hall,Bool.and_false];exact Uf [.T,.x (Ra hd),.g 30 true (decide_eq_true e1),.g 37 true (decide_eq_true e2),.g 44 true (decide_eq_true e3),.k ci,.k ca,.t (decide_eq_true hp)] rfl rfl (by simp[Uw,IntKind.bits] <;> omega)
  rw[decide_eq_false hp]at hfd;refine go tt [.T,.x (Ra hd),.g 30 true (decide_eq_true e1),.g 37 true (decide_eq_true e2),.g 44 true (decide_eq_true e3),.k ci,.k ca,.f (decide_eq_false hp)] rfl (by simp[Uw,IntKind.bits] <;> omega) ?_;exact rd (i+1) (by omega) ⟨h,nxt hfd⟩ rfl
 have hall:W.all f=true:=Js.2 λd hd=>by
  obtain⟨j,hj'⟩:=J6 hd;exact hj j d (by have:=(Qf.1 hj').1;omega) hj'
 rw[hall,Bool.and_true];exact Uf [.F] rfl
abbrev T3:=Int×Int×Int
def Qmd(l:List T3):Us:=l.map λm=>[.int .i64 m.1,.int .i64 m.2.1,.int .i64 m.2.2]
theorem Qho(l:List T3):(Qmd l).length=l.length:=Q8 _
theorem fR{l:List T3}{i:Nat}{m:T3}(h:l[i]? = some m):(Qmd l)[i]? = some [.int .i64 m.1,.int .i64 m.2.1,.int .i64 m.2.2]:=He (f:=λm:T3=>[LV.int .i64 m.1,.int .i64 m.2.1,.int .i64 m.2.2]) h
abbrev ky3(m:P3):T3:=(m.1.id,m.2.1.id,m.2.2.id)
theorem Qqs{a b c a' b' c':Int}(h:¬((a,b,c):T3)=(a',b',c')):¬a=a'\/¬b=b'\/¬c=c':=by
 by_cases q1:a=a'
 ·by_cases q2:b=b'
  ·exact .inr (.inr λq3=>h (by rw[q1,q2,q3]))
  exact .inr (.inl q2)
 exact .inl q1
def Qr7(sg:Um->Int)(W:List Pt)(m:P3):Bool:=Qjt sg (W.map Pt.nrm) (m.1.nrm,m.2.1.nrm,m.2.2.nrm)
theorem Qfu{α β:Type}{f:α->β}{l:List β}{F:List α}{n:Nat}{m:α}(h:l.take n=F.map f)(hn:n=F.length){b:β}(hb:l[n]? = some b)(e:b=f m):l.take (n+1)=(F++[m]).map f:=by
 rw[Xv,hb,X7,h,Xm,e];rfl
set_option maxHeartbeats 2000000 in
theorem Qb6{M:List Pt}{t:Tm}{l:List T3}(hsc:∀p∈M,Cs 128 3 p.c)(hn:M.length≤6)(hl:l.length≤1000000)(ht:Va t):Uj 24 [.agg (ta t),.one (.row (Qmd l)),.one (pts M)] [.one (.bool (decide (l=((Lo (Fg Hf (E8 M))).filter (Qr7 (Rh t) (Fg Hf (E8 M)))).map ky3)))]:=by
 have cW:=vX hsc (by omega);have hWl:=OD M;have cS:=Qix (l:=E8 M) (by omega);have hWs:∀p∈Fg Hf (E8 M),Cs 128 3 p.c:=λp hp=>hsc p (OL (Hd.1 hp))
 have hWl2:(Fg Hf (E8 M)).length=(E8 M).length:=Gq _ _;obtain⟨W,hW⟩:=nmE (Fg Hf (E8 M));rw[<-hW]at cS hWs hWl2 ⊢;have hWl3:W.length<=6:=by omega
 obtain⟨E,hE⟩:=nmE (Qr7 (Rh t) W);rw[<-hE];obtain⟨T,hT⟩:=nmE ((Lo W).filter E);rw[<-hT];have hTl:T.length<=20:=by rw[hT];exact Qc (Jk _ _) (eP (l:=W) (by omega)).1
 have htl:=Qho l;have hcl:(List.map Sa W).length=W.length:=by simp
 have pre:∀{F:List P3} {r:List P3} {m:P3},T=F++[m]++r->l.take F.length=F.map ky3->¬l[F.length]? = some (ky3 m)->decide (l=T.map ky3)=false:=λ{F r m} hTF h1 h2=>decide_eq_false λe=>h2 (by
  rw[e,hTF,Xm,Xm,Zk,Zp (by rw[Q8];exact Qj _),Q8,J4];rfl)
 refine Hz func24 rfl ?_;refine Ud [.k cW,.k cS] rfl ?_;refine lp (S:=Nat) 1 (λL1 i=>(20,.v (.oi i))::(8,.v (.oi ((((Ib i W).filter E).length:Nat):Int)))::L1) (λ_=>[gG t]) (λi=>W.length-i) (λi=>i<=W.length/\l.take ((Ib i W).filter E).length=((Ib i W).filter E).map ky3) 0 ⟨Qg _,by rw[show Ib 0 W=[] from by cases W <;> rfl];rfl⟩ rfl (λ_ _=>rfl) (by rw[show Ib 0 W=[] from by cases W <;> rfl];rfl) λi ⟨hi,k1⟩=>?_
 by_cases h:i<W.length
 ·obtain⟨x,hx⟩:=gxE (l:=W) (i:=i) h;have sx:=hWs x (Qa hx);have hcl2:((List.map Sa W).drop (i+1)).length=W.length-(i+1):=by simp
  have hdl:(W.drop (i+1)).length=W.length-(i+1):=by simp
  refine go tt [.T,.x (Ra hx),.r 27 (eI (b:=((i+1:Nat):Int)) (by simp)),.i (i+1)] rfl (by simp[Uw];exact⟨by omega,λ_ _=>rfl,by omega⟩) ?_;refine lp (S:=Nat) 2 (λL1 j=>(30,.v (.oi j))::(8,.v (.oi ((((p3j W x i j).filter E).length:Nat):Int)))::L1) (λ_=>[gG t,yP x]) (λj=>W.length-(i+1)-j) (λj=>j<=W.length-(i+1)/\l.take ((p3j W x i j).filter E).length=((p3j W x i j).filter E).map ky3) 0 ⟨Qg _,by rw[wC];exact k1⟩ rfl (λ_ _=>rfl) (by rw[wC];rfl) λj ⟨hj,k2⟩=>?_
  by_cases h':j<W.length-(i+1)
  ·obtain⟨y,hy⟩:=gxE (l:=(W.drop (i+1))) (i:=j) (by omega);have sy:=hWs y (Q5 (Qa hy));have hgy:((List.map Sa W).drop (i+1))[j]? = some (Sa y):=by rw[<-Ku];exact He hy
   have hdd:(W.drop (i+1)).drop (j+1)=W.drop (i+j+2):=by rw[Wj];congr 1;omega
   have hcl3:((List.map Sa W).drop (i+j+2)).length=W.length-(i+j+2):=by simp
   have hdl3:(W.drop (i+j+2)).length=W.length-(i+j+2):=by simp
   refine go tt [.T,.x hgy,.r 39 (eI (b:=((i+j+2:Nat):Int)) (by simp)),.i (i+j+2)] rfl (by simp[Uw];exact⟨by omega,λ_ _=>rfl,by omega⟩) ?_;refine lp (S:=Nat) 3 (λL1 k=>(42,.v (.oi k))::(8,.v (.oi ((((LD W x y i j k).filter E).length:Nat):Int)))::L1) (λ_=>[gG t,yP x,yP y]) (λk=>W.length-(i+j+2)-k) (λk=>k<=W.length-(i+j+2)/\l.take ((LD W x y i j k).filter E).length=((LD W x y i j k).filter E).map ky3) 0 ⟨Qg _,by rw[wL];exact k2⟩ rfl (λ_ _=>rfl) (by rw[wL];rfl) λk ⟨hk,k3⟩=>?_
   have De:((LD W x y i j k).filter E).length<=20:=Qc (Jk _ _) (Qk1 (by omega) hx hy);by_cases h'':k<W.length-(i+j+2)
   ·obtain⟨z,hz⟩:=gxE (l:=(W.drop (i+j+2))) (i:=k) (by omega);have sz:=hWs z (Q5 (Qa hz));have hgz:((List.map Sa W).drop (i+j+2))[k]? = some (Sa z):=by rw[<-Ku];exact He hz
    have hnx:=Qfl (W:=W) (x:=x) (y:=y) (i:=i) (j:=j) (k:=k) (z:=z) (by rw[hdd];exact hz);have ce:=aR sx sy sz hWs (by omega) ht;rw[show Qjt (Rh t) (W.map Pt.nrm) (x.nrm,y.nrm,z.nrm)=E (x,y,z) by rw[hE];rfl]at ce;cases hb:E (x,y,z)with
    |false =>
     rw[hb]at ce;have e:(LD W x y i j (k+1)).filter E=(LD W x y i j k).filter E:=by rw[hnx,Ym];simp[hb]
     refine go tt [.T,.x hgz,.k ce,.t rfl] rfl (by simp[Uw] <;> omega) ?_;exact rd (k+1) (by omega) ⟨by omega,by rw[e];exact k3⟩ (by rw[e];rfl)
    |
     true =>
     rw[hb]at ce;have e:(LD W x y i j (k+1)).filter E=(LD W x y i j k).filter E++[(x,y,z)]:=by rw[hnx,Ym];simp[hb]
     obtain⟨r,hr⟩:∃r,T=(LD W x y i j k).filter E++[(x,y,z)]++r:=by
      obtain⟨r,hr⟩:=Qk2 (k:=k+1) hx hy;exact⟨r.filter E,by rw[hT,hr,Ym,e]⟩
     obtain⟨F,hF⟩:=nmE ((LD W x y i j k).filter E);rw[<-hF]at De k3 e hr ⊢;by_cases hnl:F.length<l.length
     ·obtain⟨m,hm⟩:=gxE (l:=l) (i:=F.length) hnl;by_cases hmm:m=ky3 (x,y,z)
      ·have hmm':=hmm;subst hmm;refine go tt [.T,.x hgz,.k ce,.f rfl,.g 57 false Uk,.x (fR hm),.f (by simp)] rfl (by simp[Uw] <;> omega) ?_;exact rd (k+1) (by omega) ⟨by omega,by rw[e,Q3,Jc];exact Qfu k3 rfl hm rfl⟩ (by rw[e,Q3];rfl)
      ·rw[pre hr k3 λh=>hmm (by rw[hm]at h;exact Option.some.inj h)];obtain⟨m1,m2,m3⟩:=m;exact Uf [.T,.x hgz,.k ce,.f rfl,.g 57 false Uk,.x (fR hm),.t (by simpa using Qqs hmm)] rfl rfl (by simp[Uw] <;> omega)
     ·rw[pre hr k3 λh=>by rw[Qx (by omega)]at h;cases h];exact Uf [.T,.x hgz,.k ce,.f rfl,.g 57 true Ul,.t rfl] rfl rfl (by simp[Uw] <;> omega)
   have e:=Qk0 (x:=x) (k:=k) hy (by rw[hdd,hdl3];omega);rw[e]at k3 ⊢;refine go tt [.F] rfl (by simp[Uw] <;> omega) ?_;exact rd (j+1) (by omega) ⟨by omega,k3⟩ rfl
  have e:=Qkz (j:=j) hx (by omega);rw[e]at k2 ⊢;refine go tt [.F] rfl (by simp[Uw] <;> omega) ?_;exact rd (i+1) (by omega) ⟨h,k2⟩ rfl
 have e:=Qmb (W:=W) (i:=i) (by omega);rw[e,<-hT]at k1 ⊢;have hres:decide (((T.length:Nat):Int)=((Qmd l).length:Int))=decide (l=T.map ky3):=by
  rw[htl];by_cases hle:T.length=l.length
  ·rw[decide_eq_true (by omega),decide_eq_true];rw[hle,Q7]at k1;exact k1
  ·rw[decide_eq_false (by omega),decide_eq_false];intro e;apply hle;rw[e,Q8]
 rw[<-hres];exact Uf [.F] rfl
theorem aT{c:Ct}{t:Tm}(hc:Cp c.p)(ht:Va t):Uj 62 [.agg (Qff c),.agg (ta t)] [.one (.bool (decide (Gl (Rh t) c.p=c.want)))] :=
 Ug func62 rfl [.k (nO (p:=c.p) (a:=t) hc.dp ht)] rfl
theorem FH{l:List Ct}{t:Tm}(hl:∀c∈l,Cp c.p)(hn:l.length≤1000000)(ht:Va t):Uj 18 [.agg (ta t),.one (.row (YB l))] [.one (.bool (l.all λc=>decide (Gl (Rh t) c.p=c.want)))]:=by
 have hcl:=Qdd l;obtain⟨f,hf⟩:∃f:Ct->Bool,f=λc=>decide (Gl (Rh t) c.p=c.want):=⟨_,rfl⟩
 rw[<-hf];refine Hz func18 rfl ?_;refine Ud [] rfl ?_;refine Ui (S:=Nat) 1 (λL1 i=>(9,.v (.oi i))::L1) (λ_=>[gG t]) (λi=>l.length-i) (λi=>i<=l.length/\(l.drop i).all f=l.all f) 0 ⟨Qg _,rfl⟩ rfl rfl λi ⟨hi,he⟩=>?_
 by_cases h:i<l.length
 ·obtain⟨c,hc⟩:=gxE (l:=l) (i:=i) h;have ch:=aT (hl c (Qa hc)) ht;rw[show decide (Gl (Rh t) c.p=c.want)=f c by rw[hf]]at ch;have hd:l.drop i=c::l.drop (i+1):=by
   rw[Zt h];rw[Qe h]at hc;injection hc with hc;rw[hc]
  rw[hd,List.all_cons]at he;cases hb:f c with
  |true =>
   rw[hb]at ch;rw[hb,Yi]at he;refine go tt [.T,.x (Qdc hc),.k ch,.f rfl] rfl (by simp[Uw] <;> omega) ?_;exact rd (i+1) (by omega) ⟨h,he⟩ rfl
  |false =>
   rw[hb]at ch;rw[hb,Yl]at he;rw[<-he];exact Uf [.T,.x (Qdc hc),.k ch,.t rfl] rfl rfl (by simp[Uw] <;> omega)
 have:l.drop i=[]:=List.drop_of_length_le (by omega);rw[this]at he;rw[<-he];exact Uf [.F] rfl
theorem Qbv:Uj 13 [.one (.row []),.oi 30] [.agg (aq 0 [[0,1],[1]])]:=by
 have c1:=nS (n:=30) (d:=0) (by decide) (by decide);rw[show H4 (Da 30 61-30) (1+Da 0 6)=(0:Rat) by decide +kernel]at c1;have hr:=Qnp (q:=0) ⟨by decide,by decide⟩;have c2:=RU (q:=0) (c:=[[0,1],[1]]) ⟨by decide,by decide⟩ hr;have c0:=Qm6 (l:=[]) (by decide) (λz hz=>by cases hz);refine Hz func13 rfl ?_;refine Ud [] rfl ?_;refine Ui (S:=Unit) 1 (λL1 _=>(6,.v (.oi 0))::(5,.v (.one .nils))::L1) (λ_=>[.blk 36 [.nils,.nils,.nils,.bool false,.nils,.bool false,.nils,.bool false,.nils,.bool false]]) (λ_=>0) (λ_=>True) () trivial rfl rfl λ_ _=>?_
 exact Uf [.f rfl,.f rfl,.k c0,.t rfl,.k c1,.k c2] rfl
theorem iF:Uj 20 [] [.one (.bool true)]:=by
 have pk:=Qsu (q:=0) (c:=[[0,1],[1]]) ⟨by decide,by decide⟩;have hv:=pk.va;have h0:∀p∈([]:List Pt),Cs 128 3 p.c:=λp hp=>by cases hp
 have cL:Uj 22 [.agg (ta (tq 0)),.one (.row []),.one (.row [])] [.one (.bool true)]:=by
  have:=Qb5 (O:=[]) (is:=[]) h0 (by decide) hv (by decide);rwa[EU ⟨rfl,λi h=>absurd h (Xt i)⟩]at this
 have cL2:Uj 22 [.agg (ta (tq 0)),.one (ids [1]),.one (.row [])] [.one (.bool false)]:=Ug func22 rfl [.t rfl] rfl;have cH:Uj 23 [.agg (ta (tq 0)),.one (.row []),.one (.row [])] [.one (.bool true)]:=by
  have:=Qb4 (M:=[]) (is:=[]) h0 (by decide) (by decide) hv;rwa[EU ⟨rfl,(λi h=>absurd h (Xt i)),λi _ _ _ _ h=>absurd h (Xt i)⟩]at this
 have cM:Uj 24 [.agg (ta (tq 0)),.one (.row []),.one (.row [])] [.one (.bool true)]:=Qb6 (M:=[]) (l:=[]) h0 (by decide) (by decide) hv;have cW:Uj 25 [.agg (ta (tq 0)),.oi 0,.one (.row [])] [.one (.bool false)]:=by
  have:=Qiy (O:=[]) (id:=0) h0 (by decide) hv;rwa[YP λ⟨_,h,_⟩=>by cases h]at this
 exact Ug func20 rfl [.k Qbv,.k pk.to,.k cL,.g 6 true rfl,.k cL2,.g 12 true rfl,.k cH,.g 16 true rfl,.k cM,.g 20 true rfl,.k cW] rfl
theorem Qa6{sg:Um->Int}{l:List Ct}(h:∀c∈l,Cw sg c):(l.all λc=>decide (Gl sg c.p=c.want))=true:=Js.2 λc hc=>decide_eq_true (h c hc).w
set_option maxHeartbeats 4000000 in
theorem LH{zs:List RawPt}{c d:Um}{k i v:Int}(hz:∀z∈zs,z.Ok)(hc:∀z∈c,-9223372036854775808≤z/\z≤9223372036854775807)(hk:-9223372036854775808≤k/\k≤9223372036854775807)(hd:∀z∈d,-9223372036854775808≤z/\z≤9223372036854775807)(hi:-9223372036854775808≤i/\i≤9223372036854775807)(hv:-9223372036854775808≤v/\v≤9223372036854775807):Uj 3 [.one (.row (OF zs)),.one (.row (Ic c)),.oi k,.one (.row (Ic d)),.oi i,.oi v] [.one (.bool true)]:=by
 have cp:=aG hz;obtain⟨O,hO⟩:=nmE (LA 4 20 zs);have hO4:O.length<=4:=by rw[hO];exact WV _ _ (Qg _)
 have hlit:∀p∈O,Qre p:=λp hp=>by rw[hO]at hp;exact oW (by decide) p hp
 rw[<-hO]at cp;have hsc:∀p∈O.map Pt.nrm,Sc p.c:=λp hp=>by
  obtain⟨x,hx,rfl⟩:=Zw.1 hp;exact⟨x.c.nml,(Cs.norm (hlit x hx) (by decide)).mono (by decide) (by decide)⟩
 have hil:(Ic c).length=c.length:=by simp[Ic]
 have hil2:(Ic d).length=d.length:=by simp[Ic]
 have wv:=HO (v:=v) (n:=5) (by decide);obtain⟨j,hj⟩:∃j:Nat,Da v 5=(j:Int):=⟨(Da v 5).toNat,by omega⟩;have cw:=Dk (v:=v) (n:=5) hv (by decide);rw[hj]at cw;refine Hz func3 rfl (ln 1 rfl rfl λh1=>ln 3 rfl rfl λh3=>?_);obtain⟨x,C,px_,cx⟩:=Qbu hc hk (by omega);obtain⟨y,D,py_,cy⟩:=Qbu hd hi (by omega);have cC:=rQ (k:=j) (by omega) hsc (by rw[Q8];omega) px_.rt;obtain⟨m,hm⟩:=nmE (rCS (Rh x) j (O.map Pt.nrm));have hmw:∀c∈m,Cw (Rh x) c:=λc hc=>by rw[hm]at hc;exact Qp6 hsc c hc
 have hml:m.length<=1000000:=by rw[hm];exact Qlf (by rw[Q8];omega)
 have cC:Uj 14 [.oi j,.one (.row (Fl (O.map Pt.nrm))),.agg (ax x.p C x.lo x.hi)] [.one (.row (Fp m))]:=by rw[hm];exact cC
 have hcl:=Rt m;obtain⟨f,hf⟩:∃f:Ct->Bool,f=λc=>decide (Gl (Rh y) c.p=c.want):=⟨_,rfl⟩
 refine Ud [.c [0,1] cp,.k cx,.k cy,.p 1,.k cw,.k cC] rfl ?_ (by simp[Uw]);refine Ui (S:=Nat) 4 (λL1 n=>(39,.v (.oi n))::(18,.v (.one (.bool ((m.take n).all f))))::L1) (λ_=>[.row false 76 5 (Gx O),.gone,.blk 36 (ax x.p C x.lo x.hi),.blk 36 (ax y.p D y.lo y.hi)]) (λn=>m.length-n) (λn=>n<=m.length) 0 (Qg _) rfl rfl λn hn=>?_
 by_cases h:n<m.length
 ·obtain⟨e,he⟩:=gxE (l:=m) (i:=n) h;have hnx:(m.take (n+1)).all f=((m.take n).all f && f e):=by
   rw[Xv,he,X7,List.all_append];simp
  have ca:Uj 16 [.one (rp (zp e.p)),.agg (ax y.p D y.lo y.hi)] [.oi (Gl (Rh y) e.p)]:=py_.rt.a (hmw e (Qa he)).p.dp;cases hb:(m.take n).all f with
  |
   false =>
   rw[hb,Yl]at hnx;refine go tt [.T,.g 43 false rfl] rfl (by simp[Uw] <;> omega) ?_;exact rd (n+1) (by omega) h (by rw[hnx];rfl)
  |
   true =>
   rw[hb,Yi]at hnx;refine go tt [.T,.g 43 true rfl,.x (Sw he),.k ca,.x (Sw he)] rfl (by simp[Uw] <;> omega) ?_;exact rd (n+1) (by omega) h (by rw[hnx,hf];rfl)
 obtain rfl:n=m.length:=by omega
 rw[Q7];have ct_:=Qov (l:=m) (λc hc=>(hmw c hc).p) hml;have k1:=FH (l:=m) (λc hc=>(hmw c hc).p) hml px_.va;rw[Qa6 hmw]at k1;have k2:=FH (l:=m) (λc hc=>(hmw c hc).p) hml py_.va;rw[<-hf]at k2;have k3:Uj 18 [.agg (ta y),.one (.row [])] [.one (.bool true)]:=FH (l:=[]) (λc hc=>by cases hc) (by decide) py_.va;exact Uf [.F,.k ct_,.k px_.to,.k k1,.g 65 true rfl,.k py_.to,.k k2,.g 73 true (by simp),.k py_.to,.k k3,.g 78 true rfl,.k iF] rfl
end Orr
namespace Orr
open Go Go.Proofs Tryz
variable{H:Type}{enc:TypeId×Value->H}{w:World}{base:Nat}{spare:Nat->Bool}{held:Bool}
theorem Ej{α:Type}{l:List α}{n i:Nat}(h:l.length=n)(hi:i<n):∃x,l[i]? = some x:=⟨l[i]'(by omega),Qe (by omega)⟩
end Orr
namespace Orr
open Go Go.Proofs Tryz Go.ChangeShapes Go.WideShapes Go.ChangeAt Go.RowKit Go.WideElems
theorem Qjb{w:World}{a:Addr}{v:Value}(h:w.cell? a=some v):a.spot=none/\a.block<w.heap.size:=by
 simp only[World.cell?]at h
 split at h
 ·rename_i c t fr hc
  split at h
  ·cases h
  ·rename_i hs;refine⟨by cases e:a.spot with|none=>rfl|some _=>simp[e]at hs,?_⟩;exact(Array.getElem?_eq_some_iff.1 hc).1
 ·cases h
theorem Qil{a:Addr}(h:a.spot=none)(n m:Nat):(a.add n).add m=⟨a.block,a.off+n+m,none⟩:=by
 obtain⟨b,o,s⟩:=a;simp only at h;subst h;simp only[Addr.add]
 split
 ·rename_i h;subst h
  split
  ·rename_i h;subst h;simp
  ·simp
 ·split
  ·rename_i h;subst h;simp
  ·simp
def fr0(w:World):Fr:=⟨λb=>b<w.heap.size,λ_=>False,w,λ_=>False,λ_=>none⟩
theorem PK(w:World):HS (fr0 w) (ob []) (nw []) (λ_=>none) (λ_=>False) w where
 size:=Qj _
 kept:=λb hb=>⟨hb,rfl,Iff.rfl⟩
 ids:=λi h=>h.elim
 nj:=λi h=>by rw[xG]at h;cases h
 io:=⟨rfl,rfl⟩
 blk:=λi=>by rw[xG];trivial
 nk:=λi g c m h _=>by rw[xG]at h;cases h
 inj:=λi j g c m c' m' h _ _ _=>by rw[xG]at h;cases h
 mlt:=λb h=>h.elim
 m0:=λb _ h=>h.elim
 un:=λi _=>⟨rfl,rfl⟩
 uj:=λi _ h=>h.elim
theorem Qlt{w w':World}{bl:Nat->OB}{U:Nat->Prop}{E:Bq}{M:Nat->Prop}(h:HS (fr0 w) bl U E M w'){p:MemPlace}(hp:p.block<w.heap.size):w.sameAt w' p:=by
 cases p with
 |cell b off=>simp only[World.sameAt,World.cell?];rw[(h.kept b hp).2.1];rfl
 |map b=>exact(h.kept b hp).2.1
theorem Qj9{w w':World}{bl:Nat->OB}{U:Nat->Prop}{E:Bq}{M:Nat->Prop}(h:HS (fr0 w) bl U E M w')(may:MemPlace->Prop):w.keptBut w' may:=by
 refine⟨h.io.1,h.io.2,λi hi=>?_⟩;have e:w'.heap[i]? = w.heap[i]? := (h.kept i hi).2.1;rw[e];cases w.heap[i]? with
 |none=>rfl
 |some o=>cases o <;> simp
theorem XA{H:Type}{P:Program}{e:TypeId}:∀{l:List (DataW H)} {i:Nat} {d:DataW H},l[i]? = some d->∀n∈d.weights P e,n∈DataW.weightsAll P e l
 | [],i,d,h,_,_=>by simp at h
 |
  x::l,0,d,h,n,hn=>by
  simp at h;subst h;simp only[DataW.weightsAll,Qr];exact .inl hn
 |
  x::l,i+1,d,h,n,hn=>by
  simp only[DataW.weightsAll,Qr];exact .inr (XA (i:=i) (by simpa using h) n hn)
theorem If{H:Type}{P:Program}{t:TypeId}{fs:Array Field}{parts:List (DataW H)}(hu:P.underlying t=some (.struct fs))(hz:((DataW.agg parts).weights P t).all (· <= reachBytes)=true){i:Nat}{f:Field}{d:DataW H}(hf:fs[i]? = some f)(hd:parts[i]? = some d) :
 (d.weights P f.type).all (· <= reachBytes)=true:=by
 rw[Js]at hz ⊢;intro n hn;refine hz n ?_;simp only[DataW.weights,hu];exact DataW.weights_mem_each (j:=i) (by rw[Ze];simp[hf]) hd n hn
variable{H:Type}{enc:TypeId×Value->H}{w:World}
abbrev O0:Nat->Prop:=λ_=>False
def Els(w:World)(cs:List Value)(ls:Ur):Prop:=cs.length=ls.length/\∀(j:Nat) (u:LV),ls[j]? = some u->∃v,cs[j]? = some v/\LRep w O0 v u
theorem UK{α:Type}{rw_:α->Ur}{Ok:α->Prop}{t e sz:Nat}(hu:prog.underlying t=some (.slice e))(hc:prog.cellsOf e=sz)(hsz:0<sz)(hb:1<=prog.bytesOf e)(hw:∀z,(rw_ z).length=sz)
 (elem:∀fuel cs x,DataW.trod enc prog w 0 (λ_=>true) true fuel e cs=some x->(x.1.weights prog e).all (· <= reachBytes)=true->∃z,Ok z/\Els w cs (rw_ z))
 {fuel:Nat} {cs:List Value} {x:DataW H×List MemPlace} (h:DataW.trod enc prog w 0 (λ_=>true) true fuel t cs=some x) (hz:(x.1.weights prog t).all (· <= reachBytes)=true) :
 ∃(v:Value) (l:List α),cs=[v]/\(∀z∈l,Ok z)/\l.length<2^47/\LRep w O0 v (.row (l.map rw_)):=by
 rcases Go.Deep.open_slice hu h with⟨rfl,_⟩|⟨a',len,cap,m,n,D,Pl,rfl,_,hlc,hcap,hm,rfl,hr⟩
 ·refine⟨_,[],rfl,by simp,Nat.two_pow_pos 47,?_⟩;exact LRep.row none 0 0 0 0 [] (λ_ _=>.bool true) (Qj _) (by decide) (by simp) (by simp) (by simp) (by simp)
 ·simp only[if_true]at hm;subst hm;rw[Js]at hz;have hlen:len<2^47:=by
   have h0:=hz ((len+(m-len))*prog.bytesOf e) (by simp[DataW.weights,hu]);have h1:len<=(len+(m-len))*prog.bytesOf e:=by
    have:=Zs (Vd len (m-len)) hb;omega
   have h2:(len+(m-len))*prog.bytesOf e<=reachBytes:=by simpa using h0
   exact Z8 (Qc h1 h2) reachBytes_lt
  have hel:∀i,i<len->((D i).weights prog e).all (· <= reachBytes)=true:=λi hi=>by
   rw[Js];intro k hk;refine hz k ?_;simp only[DataW.weights,hu];refine Qp _ (Qr.2 (.inl (XA (i:=i) ?_ k hk)));rw[Ze,Jb hi];rfl
  have hone:∀i,i<len->∃z cs',Ok z/\Els w cs' (rw_ z)/\∀j,j<sz->w.cell? ((a'.add (i*sz)).add j)=cs'[j]? := λi hi=>by
   obtain⟨cs',hcs,htr⟩:=hr i (by omega);rw[hc]at hcs;obtain⟨_,hl,hcell⟩:=World.cells?_some hcs;obtain⟨z,hz1,hz2⟩:=elem _ _ _ htr (hel i hi);refine⟨z,cs',hz1,hz2,λj hj=>?_⟩;rw[hcell j (by omega)]
  have hspot:0<len->a'.spot=none/\a'.block<w.heap.size:=λh0=>by
   obtain⟨z,cs',_,⟨hl,_⟩,h3⟩:=hone 0 h0;have h4:=h3 0 hsz;have:(a'.add (0*sz)).add 0=a':=by simp[Addr.add]
   rw[this,Qe (by rw[hl,hw];exact hsz)]at h4;exact Qjb h4
  obtain⟨l,hll,hl⟩:∃l:List α,l.length=len/\∀i z,l[i]? = some z->Ok z/\∃cs',Els w cs' (rw_ z)/\∀j,j<sz->w.cell? ((a'.add (i*sz)).add j)=cs'[j]? := by
   have:∀k,k<=len->∃l:List α,l.length=k/\∀i z,l[i]? = some z->Ok z/\∃cs',Els w cs' (rw_ z)/\∀j,j<sz->w.cell? ((a'.add (i*sz)).add j)=cs'[j]? := by
    intro k
    induction k with
    |zero=>intro _;exact⟨[],rfl,λi z h=>by simp at h⟩
    |
     succ k ih =>
     intro hk;obtain⟨l,h1,h2⟩:=ih (by omega);obtain⟨z,cs',h3,h4,h5⟩:=hone k (by omega);refine⟨l++[z],by simp[h1],λi y hy=>?_⟩;rcases Q9 i l.length with hi|hi
     ·rw[Q6 hi]at hy;exact h2 i y hy
     ·rw[Zp hi]at hy;have:i-l.length=0:=by
       rcases Qy (i-l.length)with h|h
       ·exact h
       ·rw[Qx (by rw[Jc];exact h)]at hy;cases hy
      rw[this]at hy;simp at hy;subst hy;have:i=k:=by omega
      subst this;exact⟨h3,cs',h4,h5⟩
   exact this len (Qj _)
  refine⟨_,l,rfl,λz hz=>?_,by rw[hll];exact hlen,?_⟩
  ·obtain⟨i,hi⟩:=Zi.1 hz;exact(hl i z hi).1
  ·have key:LRep w O0 (.slice (some a') (l.map rw_).length m) (.row (l.map rw_)):=by
    have hgl:∀i c,(l.map rw_)[i]? = some c->∃z,l[i]? = some z/\c=rw_ z/\i<len:=λi c h=>by
     rw[Ze]at h;cases e:l[i]? with
     |none=>rw[e]at h;cases h
     |some z=>rw[e]at h;simp at h;exact⟨z,rfl,h.symm,by have:=(Qf.1 e).1;omega⟩
    have hcl:∀i c,(l.map rw_)[i]? = some c->∃cs':List Value,Els w cs' c/\∀j,j<sz->w.cell? ⟨a'.block,a'.off+i*sz+j,none⟩=cs'[j]? := λi c h=>by
     obtain⟨z,hz,rfl,hi⟩:=hgl i c h;obtain⟨_,cs',h1,h2⟩:=hl i z hz;refine⟨cs',h1,λj hj=>?_⟩;rw[<-h2 j hj,Qil (hspot (by omega)).1]
    refine LRep.row (some a') m sz a'.block a'.off (l.map rw_) (λi j=>(w.cell? ⟨a'.block,a'.off+i*sz+j,none⟩).getD (.bool true)) (by rw[Q8];omega) ?_ ?_ ?_ ?_ ?_
    ·have:maxLen=2^63-1:=by rfl
     omega
    ·intro c hc2;obtain⟨z,_,rfl⟩:=Zw.1 hc2;exact hw z
    ·intro h0;rw[Q8,hll]at h0;obtain⟨hs,hb⟩:=hspot h0;refine⟨?_,hb,by simp[O0]⟩;obtain⟨b,o,s⟩:=a';simp only at hs;rw[hs]
    ·intro i c hi j hj;obtain⟨z,_,rfl,_⟩:=hgl i c hi;obtain⟨cs',⟨h1,_⟩,h2⟩:=hcl i _ hi;have hjs:j<sz:=by rw[<-hw z];exact hj
     rw[h2 j hjs,Qe (by rw[h1];exact hj)];rfl
    ·intro i c hi j u hu2;obtain⟨z,_,rfl,_⟩:=hgl i c hi;obtain⟨cs',⟨h1,h3⟩,h2⟩:=hcl i _ hi;obtain⟨v,hv,hr2⟩:=h3 j u hu2;have hjs:j<sz:=by rw[<-hw z];exact(Qf.1 hu2).1
     show LRep w O0 ((w.cell? ⟨a'.block,a'.off+i*sz+j,none⟩).getD (.bool true)) u;rw[h2 j hjs,hv];exact hr2
   rw[Q8,hll]at key;exact key
abbrev Qte(x:Nat):Ur:=[.int .u32 (x:Int)]
theorem Qhs:∀fuel cs x,DataW.trod enc prog w 0 (λ_=>true) true fuel 222 cs=some x->(x.1.weights prog 222).all (· <= reachBytes)=true->∃z:Nat,z<4294967296/\Els w cs (Qte z):=by
 intro fuel cs x h _;obtain⟨n,rfl,_,hwf⟩:=DataW.trod_int underlying222 h;have hn:0<=n/\n<4294967296:=by
  have:0<=n/\n<=4294967295:=by simpa[Lit.wf,IntKind.min,IntKind.max,IntKind.signed,IntKind.bits]using hwf
  omega
 refine⟨n.toNat,by omega,rfl,λj u hu=>?_⟩
 match j,hu with
 |
  0,hu =>
  simp at hu;subst hu;refine⟨_,rfl,?_⟩;rw[show max n 0=n by omega];exact .int _ _
 |j+1,hu=>simp at hu
set_option maxRecDepth 20000 in
theorem BR:∀fuel cs x,DataW.trod enc prog w 0 (λ_=>true) true fuel 55 cs=some x->(x.1.weights prog 55).all (· <= reachBytes)=true->∃z:RawInt,z.Ok/\Els w cs (HU z):=by
 intro fuel cs x h hz;obtain⟨xs,n,_,rfl,hl,hxs,hf⟩:=DataW.trod_struct underlying55 h;have hl:cs.length=2:=hl
 match cs,hl with
 |
  [v0,v1],_ =>
  obtain⟨z0,hz0⟩:=Ej (i:=0) hxs (by decide);obtain⟨z1,hz1⟩:=Ej (i:=1) hxs (by decide);have h0:=hf 0 _ rfl;have h1:=hf 1 _ rfl;rw[hz0]at h0;rw[hz1]at h1;obtain⟨b,e0,_⟩:=DataW.trod_bool underlying4 h0;have f0:v0=.bool b:=(List.cons.inj (show [v0]=[Value.bool b] from e0)).1;have hw1:=If underlying55 hz (i:=1) rfl (d:=z1.1) (by rw[Ze,hz1];rfl);obtain⟨v,l,e1,hlo,_,hrep⟩:=UK (sz:=1) (Ok:=λu:Nat=>u<4294967296) (rw_:=Qte) underlying53 (by kernel_rfl) (by decide) (of_decide_eq_true (by kernel_rfl)) (λ_=>rfl) Qhs h1 hw1;have f1:v1=v:=(List.cons.inj (show [v1]=[v] from e1)).1;subst f0 f1;refine⟨⟨b,l⟩,⟨hlo⟩,rfl,λj u hu=>?_⟩
  match j,hu with
  | 0,hu=>simp at hu;subst hu;exact⟨_,rfl,.bool _⟩
  | 1,hu=>simp at hu;subst hu;exact⟨_,rfl,hrep⟩
  |j+2,hu=>simp at hu
set_option maxRecDepth 20000 in
theorem pV:∀fuel cs x,DataW.trod enc prog w 0 (λ_=>true) true fuel 76 cs=some x->(x.1.weights prog 76).all (· <= reachBytes)=true->∃z:RawPt,z.Ok/\Els w cs (rwq z):=by
 intro fuel cs x h hz;obtain⟨xs,n,_,rfl,hl,hxs,hf⟩:=DataW.trod_struct underlying76 h;have hl:cs.length=5:=hl
 match cs,hl with
 |
  [v0,v1,v2,v3,v4],_ =>
  obtain⟨z0,hz0⟩:=Ej (i:=0) hxs (by decide);obtain⟨z1,hz1⟩:=Ej (i:=1) hxs (by decide);have h0:=hf 0 _ rfl;have h1:=hf 1 _ rfl;rw[hz0]at h0;rw[hz1]at h1;obtain⟨id,e4,_,hwf⟩:=DataW.trod_int underlying3 h1;have f4:v4=.int .i64 id:=(List.cons.inj (show [v4]=[Value.int .i64 id] from e4)).1;have hw0:=If underlying76 hz (i:=0) rfl (d:=z0.1) (by rw[Ze,hz0];rfl);obtain⟨ys,n2,_,e5,_,hys,hg⟩:=DataW.trod_struct underlying74 h0;rw[e5]at hw0;obtain⟨y0,hy0⟩:=Ej (i:=0) hys (by decide);obtain⟨y1,hy1⟩:=Ej (i:=1) hys (by decide);obtain⟨y2,hy2⟩:=Ej (i:=2) hys (by decide);have g0:=hg 0 _ rfl;have g1:=hg 1 _ rfl;have g2:=hg 2 _ rfl;rw[hy0]at g0;rw[hy1]at g1;rw[hy2]at g2;have w0:=If underlying74 hw0 (i:=0) rfl (d:=y0.1) (by rw[Ze,hy0];rfl);have w1:=If underlying74 hw0 (i:=1) rfl (d:=y1.1) (by rw[Ze,hy1];rfl);have w2:=If underlying74 hw0 (i:=2) rfl (d:=y2.1) (by rw[Ze,hy2];rfl);obtain⟨u0,lx,e0,hx,_,rx⟩:=UK (sz:=2) (Ok:=RawInt.Ok) (rw_:=HU) underlying52 (by kernel_rfl) (by decide) (of_decide_eq_true (by kernel_rfl)) (λ_=>rfl) BR g0 w0;obtain⟨u1,ly,e1,hy,_,ry⟩:=UK (sz:=2) (Ok:=RawInt.Ok) (rw_:=HU) underlying52 (by kernel_rfl) (by decide) (of_decide_eq_true (by kernel_rfl)) (λ_=>rfl) BR g1 w1;obtain⟨d,hd,hde⟩:=BR _ _ _ g2 w2;have f0:v0=u0:=(List.cons.inj (show [v0]=[u0] from e0)).1;have f1:v1=u1:=(List.cons.inj (show [v1]=[u1] from e1)).1;have hde2:Els w [v2,v3] (HU d):=hde;subst f0 f1 f4;obtain⟨q2,hq2,r2⟩:=hde2.2 0 _ rfl;obtain⟨q3,hq3,r3⟩:=hde2.2 1 _ rfl;simp at hq2 hq3;subst hq2 hq3;refine⟨⟨lx,ly,d,id⟩,⟨hx,hy,hd,by simpa[Lit.wf,IntKind.min,IntKind.max,IntKind.signed,IntKind.bits]using hwf⟩,rfl,λj u hu=>?_⟩
  match j,hu with
  | 0,hu=>simp[rwq]at hu;subst hu;exact⟨_,rfl,rx⟩
  | 1,hu=>simp[rwq]at hu;subst hu;exact⟨_,rfl,ry⟩
  | 2,hu=>simp[rwq]at hu;subst hu;exact⟨_,rfl,r2⟩
  | 3,hu=>simp[rwq]at hu;subst hu;exact⟨_,rfl,r3⟩
  | 4,hu=>simp[rwq]at hu;subst hu;exact⟨_,rfl,.int _ _⟩
  |j+5,hu=>simp[rwq]at hu
end Orr
namespace Orr
open Go Go.Proofs Tryz Go.ChangeShapes Go.WideShapes Go.ChangeAt Go.RowKit Go.WideElems
variable{H:Type}{enc:TypeId×Value->H}{w:World}
theorem Qeo:∀fuel cs x,DataW.trod enc prog w 0 (λ_=>true) true fuel 3 cs=some x->(x.1.weights prog 3).all (· <= reachBytes)=true->∃z:Int,(-9223372036854775808<=z/\z<=9223372036854775807)/\Els w cs [LV.int .i64 z]:=by
 intro fuel cs x h _;obtain⟨n,rfl,_,hwf⟩:=DataW.trod_int underlying3 h;refine⟨n,by simpa[Lit.wf,IntKind.min,IntKind.max,IntKind.signed,IntKind.bits]using hwf,rfl,λj u hu=>?_⟩
 match j,hu with
 |
  0,hu =>
  simp at hu;subst hu;exact⟨_,rfl,.int _ _⟩
 |j+1,hu=>simp at hu
end Orr
namespace Orr
open Go Go.Proofs Tryz Go.ChangeShapes Go.WideShapes Go.ChangeAt Go.RowKit Go.WideElems
set_option maxRecDepth 10000
def MY(t:TypeId)(R:TV->Prop):Prop:=∀{H:Type} {enc:TypeId×Value->H} {W:World} {base:Nat} {v:Value} {d:DataW H} {p:List MemPlace},Value.okWide prog W .any base t v->DataW.Trod enc prog W 0 (λ_=>true) true t v d p->(d.weights prog t).all (· <= reachBytes)=true->∃u,R u/\TRep W (λ_=>False) (λ_=>none) v u
section
variable{H:Type}{enc:TypeId×Value->H}{W W':World}{base:Nat}
theorem uN:∀{ps:List (TypeId×(TV->Prop))} {args:List Value} {ds:List (DataW H)} {p:List MemPlace},DataW.TrodAll enc prog W 0 (λ_=>true) true (ps.map (·.1)) args ds p ->
 (∀(j:Nat) t v,(ps.map (·.1))[j]? = some t->args[j]? = some v->Value.okWide prog W .any base t v)->(∀(j:Nat) t d,(ps.map (·.1))[j]? = some t->ds[j]? = some d->(d.weights prog t).all (· ≤ reachBytes)=true)->(∀q∈ps,MY q.1 q.2) ->
 ∃us,F2 (λu (q:TypeId×(TV->Prop))=>q.2 u) us ps/\F2 (TRep W (λ_=>False) (λ_=>none)) args us/\ds.length=ps.length
 |
  [],args,ds,p,h,_,_,_=>by
  obtain⟨rfl,rfl,rfl⟩:=trodAll_nil h;exact⟨[],.nil,.nil,rfl⟩
 |
  q::ps,args,ds,p,h,hv,hw,hr=>by
  obtain⟨v,vs,d,ds',p1,p2,rfl,rfl,rfl,h1,h2⟩:=trodAll_cons h;obtain⟨u,r1,r2⟩:=hr q (Q0 ..) (hv 0 q.1 v rfl rfl) h1 (hw 0 q.1 d rfl rfl);obtain⟨us,s1,s2,s3⟩:=uN h2 (λj t v h h'=>hv (j+1) t v (by simpa using h) (by simpa using h')) (λj t d h h'=>hw (j+1) t d (by simpa using h) (by simpa using h')) λq hq=>hr q (Qp _ hq)
  exact⟨u::us,.cons r1 s1,.cons r2 s2,by simp[s3]⟩
theorem fK{sp':Nat->Bool}(hl:laidOutB prog=true):∀{ps:List (TypeId×(TV->Prop))} {args:List Value} {ds:List (DataW H)} {p:List MemPlace},DataW.TrodAll enc prog W 0 (λ_=>true) true (ps.map (·.1)) args ds p ->
 (∀q∈ps,prog.readableRec q.1=true/\q.1<prog.types.size)->(∀x∈p,W.sameAt W' x)->(∀x∈p,sp' x.block=true)->DataW.TrodAll enc prog W' 0 sp' true (ps.map (·.1)) args ds p
 |
  [],args,ds,p,h,_,_,_=>by
  obtain⟨rfl,rfl,rfl⟩:=trodAll_nil h;exact trodAll_mk0
 |
  q::ps,args,ds,p,h,hr,hs,hb=>by
  obtain⟨v,vs,d,ds',p1,p2,rfl,rfl,rfl,h1,h2⟩:=trodAll_cons h;obtain⟨r1,r2⟩:=hr q (Q0 ..);exact trodAll_cons_mk (Trod_stays hl r1 r2 h1 (λx hx=>hs x (Qr.2 (.inl hx))) λx hx=>hb x (Qr.2 (.inl hx))) (fK hl h2 (λq hq=>hr q (Qp _ hq)) (λx hx=>hs x (Qr.2 (.inr hx))) λx hx=>hb x (Qr.2 (.inr hx)))
end
theorem Qey{ps:List (TypeId×(TV->Prop))}{f:FuncId}{fn:Func}{s:ChangeSpec}(hp:fn.params=(ps.map (·.1)).toArray)(hr:fn.resultTypes = #[4])(hv:s.vars=[])
 (hs:∀(H:Type) (ds:List (DataW H)),ds.length=ps.length->s.fn H ds={ results:=[.lit (.bool true)],args:=ds })
 (hlaid:laidOutB prog=true) (hrec:∀q∈ps,prog.readableRec q.1=true/\q.1<prog.types.size) (hrd:∀q∈ps,MY q.1 q.2)
 (law:∀us:Uu,F2 (λu (q:TypeId×(TV->Prop))=>q.2 u) us ps->OA prog f us [.one (.bool true)])
 {H:Type} {enc:TypeId×Value->H} {W:World} {base:Nat} {args:Array Value} {ds gs:List (DataW H)} {Sl:List MemPlace} {fresh handsOn:Bool}
 (hval:∀(j:Nat) t v,fn.params[j]? = some t->args[j]? = some v->Value.okWide prog W .any base t v)
 (hW:DataW.Whole enc prog fn.params.toList s.vars false W args.toList ds gs Sl)
 (hz:(DataW.weightsEach prog (fn.params.toList++s.plain.varTypes prog) (ds++gs)).all (· <= reachBytes)=true) :
 Calls prog f args W λe W'=>∃v,e=.returned v/\s.post enc prog fn false fresh handsOn false W args v W':=by
 have hW':=hW;obtain⟨p,q,hA0,hV,rfl,hfz,hnd⟩:=hW;have hA:DataW.TrodAll enc prog W 0 (λ_=>true) true fn.params.toList args.toList ds p:=hA0;rw[hv]at hV;obtain⟨rfl,rfl⟩:=trodVars_none hV;have hlt:=hW'.lt;rw[hp]at hA hval hz;have hA:DataW.TrodAll enc prog W 0 (λ_=>true) true (ps.map (·.1)) args.toList ds p:=by simpa using hA
 obtain⟨us,r1,r2,r3⟩:=uN (base:=base) hA (λj t v h h'=>hval j t v (by simpa using h) (by simpa using h')) (λj t d h h'=>by
  rw[Js]at hz ⊢;intro k hk;have hj:j<(ps.map (·.1)).length:=(Qf.1 h).1;have hj2:j<ds.length:=(Qf.1 h').1;exact hz k (DataW.weights_mem_each (j:=j) (by rw[Q6 (by simpa using hj)];simpa using h) (by rw[Q6 hj2];exact h') k hk)) hrd
 have hcall:=(law us r1).2 (fr0 W) (λ_=>none) (λ_=>False) W args.toList (PK W) r2;have ea:args.toList.toArray=args:=by simp
 rw[ea]at hcall;refine hcall.mono λe W' ⟨v,u,Bo,E',M',he,⟨hu,hBo⟩,_,hm,har⟩=>?_
 subst hu;obtain rfl:v=.bool true:=by
  have h:LRep _ _ v (.bool true):=har;cases h;rfl
 refine⟨_,he,?_⟩;refine⟨ds,[],_,[],p,[],hW',?_,?_,?_,Qj9 hm _,λh=>by cases h⟩
 ·rw[hr,Xi,hs H ds r3];exact trodAll_cons_mk (shut_bool underlying4 true) trodAll_mk0
 ·rw[hp,Xi,hs H ds r3];have hb:∀x∈p,x.block<W.heap.size:=λx hx=>hlt x (by simp[hx])
  have:=fK (sp':=λb=>decide (b<W.heap.size)) hlaid hA hrec (λx hx=>Qlt hm (hb x hx)) λx hx=>by simpa using hb x hx
  simpa using this
 ·rw[hv,Xi,hs H ds r3];rfl
abbrev Qib(u:TV):Prop:=∃n:Int,(-9223372036854775808<=n/\n<=9223372036854775807)/\u=.oi n
abbrev Qrg(u:TV):Prop:=∃zs:List RawPt,(∀z∈zs,z.Ok)/\u=.one (.row (OF zs))
abbrev Qa2(u:TV):Prop:=∃zs:Um,(∀z∈zs,-9223372036854775808≤z/\z≤9223372036854775807)/\u=.one (.row (Ic zs))
theorem HV:MY 3 Qib:=λ{H enc W base v d p} hv h _=>by
 obtain⟨n,rfl,rfl,rfl,w1⟩:=open_int underlying3 hv h;exact⟨_,⟨n,by simpa[Lit.wf,IntKind.min,IntKind.max,IntKind.signed,IntKind.bits]using w1,rfl⟩,show XRep W (λ_=>False) (λ_=>none) (.int .i64 n) (.int .i64 n) from(LRep.int .i64 n).x⟩
theorem OZ{α:Type}{rw_:α->Ur}{Ok:α->Prop}{t e sz:Nat}(hu:prog.underlying t=some (.slice e))(hc:prog.cellsOf e=sz)(hsz:0<sz)(hb:1<=prog.bytesOf e)(hw:∀z,(rw_ z).length=sz)
 (elem:∀{H:Type} {enc:TypeId×Value->H} {w:World} fuel cs x,DataW.trod enc prog w 0 (λ_=>true) true fuel e cs=some x->(x.1.weights prog e).all (· ≤ reachBytes)=true->∃z,Ok z/\Els w cs (rw_ z)):MY t λu=>∃l:List α,(∀z∈l,Ok z)/\u=.one (.row (l.map rw_)):=λ{H enc W base v d p} hv h hz=>by
 obtain⟨a,len,cap,rfl⟩:=okWide_slice hu hv;obtain⟨fu,h⟩:=h;obtain⟨v,l,e0,hok,_,hrep⟩:=UK hu hc hsz hb hw (λfuel cs x h h'=>elem fuel cs x h h') h hz;have f0:Value.slice a len cap=v:=(List.cons.inj (show [Value.slice a len cap]=[v] from e0)).1;subst f0;exact⟨_,⟨l,hok,rfl⟩,show XRep W (λ_=>False) (λ_=>none) _ (.row (l.map rw_)) from hrep.x⟩
theorem Qab:MY 22 Qrg:=OZ (sz:=5) (Ok:=RawPt.Ok) (rw_:=rwq) underlying22 (by kernel_rfl) (by decide) (of_decide_eq_true (by kernel_rfl)) (λ_=>rfl) λfuel cs x=>pV fuel cs x
theorem CE:MY 23 Qa2:=OZ (sz:=1) (Ok:=λz:Int=>-9223372036854775808<=z/\z<=9223372036854775807) (rw_:=λz:Int=>[LV.int .i64 z]) underlying23 (by kernel_rfl) (by decide) (of_decide_eq_true (by kernel_rfl)) (λ_=>rfl) λfuel cs x=>Qeo fuel cs x
end Orr
