/- WA20 ReadN LastN LastR -/
import Derived.Test.YtkkhemmhhedniaaGreatPart09
import Derived.Test.YtkkhemmhhedniaaGreatPart00
import Derived.Deep.Slices
import Derived.ProofKit
import Derived.OpenShut
import Derived.WideKeyArgs
import Derived.SizedLaws
import Derived.Test.YtkkhemmhhedniaaGreatPart08
set_option linter.all false
namespace Orr
open Go Go.Proofs Orq
set_option maxRecDepth 10000
theorem Qrn {M:List Pt} {q:Rat} {c:List (List Int)} {w:List Ct} {id:Int} (hM:M.length<=1000000):Se Tryz.prog 13 [.one (.ow 0 0),.one (.int .i64 id)] [.blk 45 (plB M q c w)] [.one (.int .i64 (Md M id))] [.blk 45 (plB M q c w)]:=by
 have hml:=Gy M;refine Hn Tryz.func13 rfl ?_;refine go tt [] rfl trivial ?_;refine lp (S:=Nat) 1 (λL1 i=>(11,.v (.one (.int .i64 (i:Int))))::L1) (λ_=>[.blk 45 (plB M q c w)]) (λi=>M.length-i) (λi=>i<=M.length/\Md (M.drop i) id+(if Md (M.drop i) id<0 then 0 else (i:Int))=Md M id) 0 ⟨Qg _,by rw [Xm]; split <;> simp⟩ rfl (λ_ _=>rfl) rfl λi ⟨hi,he⟩=>?_
 by_cases h:i<M.length
 ·obtain ⟨x,hx⟩:=gxE (l:=M) (i:=i) h;by_cases hid:x.id=id
  ·have e:=Q2u hx hid;rw [he] at e;rw [e];exact ed tt [] [0] [.t (decide_eq_true (by omega)),.x (Fa hx),.t (decide_eq_true hid)] rfl (by simp [Uu]; try omega)
  ·have e:=Qv2 hx hid;refine go tt [.t (decide_eq_true (by omega)),.x (Fa hx),.f (decide_eq_false hid)] rfl (by simp [Uu]; omega) ?_;exact rd (i+1) (by omega) ⟨h,by rw [<-e]; exact he⟩ rfl
 ·have e:Md M id=-1:=by
   rw [List.drop_of_length_le (by omega)] at he;rw [<-he]; rfl
  rw [e];exact ed tt [] [0] [.f (decide_eq_false (by omega))] rfl trivial
theorem Zhf {M:List Pt} {q:Rat} {c:List (List Int)} {w:List Ct} {p:Pt} {j:Nat} (hM:M.length<=1000000) (hd:Lr M) (hp:M[j]? = some p):Se Tryz.prog 12 [.one (.int .i64 p.id),.one (.ow 0 0)] [.blk 24 [.ow 1 0],.blk 45 (plB M q c w)] [.agg (Cf p)] [.blk 24 [.ow 1 0],.blk 45 (plB M q c w)]:=by
 have cf:=Qrn (M:=M) (q:=q) (c:=c) (w:=w) (id:=p.id) hM;rw [Qjn hd hp] at cf;refine Hn Tryz.func12 rfl ?_;exact ed tt [] [0,1] [.lo,.c [1] cf,.r 11 (eI (b:=(j:Int)) (by omega)),.x (Fa hp)] rfl (by simp [Uu])
set_option maxHeartbeats 8000000 in
theorem Qi4 {zs:List RawPt} {n d:Int} (hz:∀ z∈zs,z.Ok) (hn:-9223372036854775808≤n/\n≤9223372036854775807) (hdd:-9223372036854775808≤d/\d≤9223372036854775807):Uw Tryz.prog 3 [.one (.row (Qef zs)),.one (.int .i64 n),.one (.int .i64 d)] [.one (.bool true)]:=by
 obtain ⟨e,he,hd,hm⟩:=Zhq (Qfz 4 20 zs);have hq0:=Qnw n d;have cb:=Q12 hz rfl he hd hm hn hdd (Zgc (hq0.mono (by decide))) rfl;obtain ⟨O,hO⟩:=nmE (Qfz 4 20 zs);have hO4:O.length<=4:=by rw [hO]; exact Ox _ _ (Qg _)
 have hlit:∀ p∈O,Q1l p:=λp hp=>by rw [hO] at hp; exact Qmv (by decide) p hp
 rw [<-hO] at cb he hd;obtain ⟨M,hM⟩:=nmE (Fx Lt (Qbq O e));rw [<-hM] at cb;obtain ⟨q,hq⟩:=nmE (Ix n d);rw [<-hq] at cb hq0;have hcn:(Qbq O e).length=e:=by rw [Qgz,Qdd he]
 have hMl:M.length=e:=by rw [hM,H5,hcn]
 have hMd:Lr M:=by rw [hM]; exact Q2j (Qk6 _).symm (Ql1 hd)
 have hok:∀ p∈M,Nml p.c/\Cs 10 3 p.c:=λp hp=>by
  rw [hM,Sx] at hp;exact Qzc hlit e p hp
 have hsc:∀ p∈M,Sc p.c:=λp hp=>⟨(hok p hp).1,(hok p hp).2.mono (by decide) (by decide)⟩
 have hrs:∀ p∈M,Rs p.c:=λp hp=>⟨(hok p hp).1,(hok p hp).2.mono (by decide) (by decide)⟩
 have hln:M.length<=10:=by omega
 have hv:Va (tq q):=Zmo (hq0.mono (by decide));have hq6:Qs 1000000 q:=hq0.mono (by decide);obtain ⟨c0,hc0⟩:=nmE (Q1u M (tq q));rw [<-hc0] at cb;obtain ⟨C,hC⟩:=nmE (Gz M (tq q));have hbr:brH M (tq q)=U8 C:=by rw [hC]
 rw [hbr] at cb;have hCl:C.length<=2*M.length:=by rw [hC]; exact Qa0 _ _
 have hCm:∀ {p:Pt},p∈C->∃ j:Nat,M[j]? = some p:=λ{p} hp=>Yg (Tg (by rw [<-hC]; exact hp))
 have hCM:∀ {p:Pt},p∈C->p∈M:=λ{p} hp=>Tg (by rw [<-hC]; exact hp)
 obtain ⟨cs,hcs⟩:∃ cs:List (List Int),cs=[[-q.num,(q.den:Int)],[1]]:=⟨_,rfl⟩;rw [<-hcs] at cb;obtain ⟨w,hw⟩:=nmE (Qeb q M);rw [<-hw] at cb;have cRat:=Qgi (q:=q) (c:=cs) hq6 (by rw [hcs]; exact Zgc hq6);have cIds:=Q4u (c:=c0) (l:=M) (s:=C) (by omega);have cby:=λ{p:Pt} {j:Nat} (hp:M[j]? = some p)=>Zhf (q:=q) (c:=cs) (w:=w) (by omega) hMd hp
 have hil:(List.map (λ(z:Int)=>[LV.int .i64 z]) (List.map (λ(x:Pt)=>x.id) C)).length=C.length:=by simp
 have hrl:=Gy M;have hM0:decide (0<(C.length:Int))=decide (0<(M.length:Int)):=by
  by_cases h:0<M.length
  ·have h1:0<C.length:=by rw [hC]; exact Q2c hsc hMd hv h
   rw [decide_eq_true (by omega),decide_eq_true (by omega)]
  ·rw [decide_eq_false (by omega),decide_eq_false (by omega)]
 refine Hn Tryz.func3 rfl ?_;refine go tt [.c [0,1] cb,.f rfl,.c [] cRat,.c [0] cIds] rfl trivial ?_;refine lp (S:=Nat) 4 (λL1 i=>(38,.v (.one (.int .i64 (i:Int))))::L1) (λ_=>[.blk 124 (crl c0 (U8 M) (U8 C)),.blk 45 (plB M q cs w),.blk 24 [.ow 1 0],.blk 37 (aq q cs)]) (λi=>C.length-i) (λi=>i<=C.length) 0 (Qg _) rfl (λ_ _=>rfl) rfl λi hi=>?_
 by_cases h:i<C.length
 ·obtain ⟨x,hx⟩:=gxE (l:=C) (i:=i) h;obtain ⟨y,hy⟩:=gxE (l:=C) (i:=(i+1) % C.length) (Z0 _ (by omega));obtain ⟨z,hz'⟩:=gxE (l:=C) (i:=(i+2) % C.length) (Z0 _ (by omega));have idg:∀ {j:Nat} {p:Pt},C[j]? = some p->(idl (C.map (·.id)))[j]? = some [.int .i64 p.id]:=λ{j p} hp=>Qdo (by rw [Zb,hp]; rfl)
  have xm:=Qa hx;have ym:=Qa hy;have zm:=Qa hz';obtain ⟨jx,kx⟩:=hCm xm;obtain ⟨jy,ky⟩:=hCm ym;obtain ⟨jz,kz⟩:=hCm zm;have cf:=Qrn (M:=M) (q:=q) (c:=cs) (w:=w) (id:=x.id) (by omega);rw [Qjn hMd kx] at cf;have con:=Q4v (c:=c0) (l:=M) (s:=C) (id:=x.id) (by omega);have hany:(C.any λp=>decide (p.id=x.id))=true:=Uf.2 ⟨x,xm,decide_eq_true rfl⟩;rw [hany] at con;have hm1:(i+1) % C.length<C.length:=Z0 _ (by omega);have hm2:(i+2) % C.length<C.length:=Z0 _ (by omega);have et1:Int.tmod ((i:Int)+1) (C.length:Int)=(((i+1) % C.length:Nat):Int):=rfl;have et2:Int.tmod ((i:Int)+2) (C.length:Int)=(((i+2) % C.length:Nat):Int):=rfl;refine go tt [.t (decide_eq_true (by omega)),.x (idg hx),.lo,.c [1] cf,.g 48 false (decide_eq_false (by omega)),.x (idg hx),.lo,.c [0] con,.f rfl,.x (idg hx),.lo,.c [2,1] (cby kx),.r 69 (eI (b:=(((i+1) % C.length:Nat):Int)) (by rw [hil]; exact et1)),.x (idg hy),.lo,.c [2,1] (cby ky),.r 79 (eI (b:=(((i+2) % C.length:Nat):Int)) (by rw [hil]; exact et2)),.x (idg hz'),.lo,.c [2,1] (cby kz)] rfl (by simp only [Uu]; refine ⟨by omega,?_,by omega,?_⟩ <;> (rw [Zc,Zc]; omega)) ?_;refine lp (S:=Nat) 7 (λL1 k=>(88,.v (.one (.int .i64 (k:Int))))::L1) (λ_=>[.blk 124 (crl c0 (U8 M) (U8 C)),.blk 45 (plB M q cs w),.blk 24 [.ow 1 0],.blk 37 (aq q cs),.blk 57 (Cf x),.blk 57 (Cf y),.blk 57 (Cf z)]) (λk=>M.length-k) (λk=>k<=M.length) 0 (Qg _) rfl (λ_ _=>rfl) rfl λk hk=>?_
  by_cases hkl:k<M.length
  ·obtain ⟨p,hp⟩:=gxE (l:=M) (i:=k) hkl;have pm:=Qa hp;have hge:=Qrd hsc hMd hv (e:=(x,y)) (by rw [<-hC]; exact Q6t hx hy) pm;rw [Ab] at hge;dsimp only at hge;have co:=Qay (hrs x (hCM xm)) (hrs y (hCM ym)) (hrs p pm);have hbd:=Qj7 (hok x (hCM xm)) (hok y (hCM ym)) (hok p pm);rw [Qkj] at co;have ca:=Ci (q:=q) (c:=cs) (Uv hbd.1 (by decide)) (by have:=hbd.2; omega) hq6;refine go tt [.t (decide_eq_true (by omega)),.x (Fa hp),.c [] co,.c [] ca,.f (decide_eq_false (by show ¬S0 _ _<0; omega))] rfl (by simp [Uu] <;> omega) ?_;exact rd (k+1) (by omega) hkl rfl
  ·have co:=Qay (hrs x (hCM xm)) (hrs y (hCM ym)) (hrs z (hCM zm));have hbd:=Qj7 (hok x (hCM xm)) (hok y (hCM ym)) (hok z (hCM zm));rw [Qkj] at co;have ca:=Ci (q:=q) (c:=cs) (Uv hbd.1 (by decide)) (by have:=hbd.2; omega) hq6;obtain ⟨f,hf⟩:=gxE (l:=C) (i:=0) (by omega);have fm:=Qa hf;obtain ⟨jf,kf⟩:=hCm fm;have cB:=Dt (a:=f) (b:=x) (q:=q) (c:=cs) (hrs f (hCM fm)) (hrs x (hCM xm)) hq6;by_cases h2:2<C.length
   ·have htn:=Qre hsc hMd hv (by rw [<-hC]; exact h2) (i:=i) (by rw [<-hC]; exact hx) (by rw [<-hC]; exact hy) (by rw [<-hC]; exact hz');rw [Ab] at htn;by_cases h0:0<i
    ·have hbf:=Qc1 hsc hMd hv (by rw [<-hC]; exact hf) (by rw [<-hC]; exact hx) h0;rw [Qrh hv (hsc f (hCM fm)) (hsc x (hCM xm))] at hbf;rw [hbf] at cB;refine go tt [.f (decide_eq_false (by omega)),.g 111 true (decide_eq_true (by omega)),.c [] co,.c [] ca,.f (decide_eq_false (by omega)),.g 125 true (decide_eq_true (by omega)),.x (idg hf),.lo,.c [2,1] (cby kf),.c [] cB,.f rfl] rfl (by simp [Uu] <;> omega) ?_;exact rd (i+1) (by omega) h rfl
    ·refine go tt [.f (decide_eq_false (by omega)),.g 111 true (decide_eq_true (by omega)),.c [] co,.c [] ca,.f (decide_eq_false (by omega)),.g 125 false (decide_eq_false (by omega)),.f rfl] rfl (by simp [Uu] <;> omega) ?_;exact rd (i+1) (by omega) h rfl
   ·by_cases h0:0<i
    ·have hbf:=Qc1 hsc hMd hv (by rw [<-hC]; exact hf) (by rw [<-hC]; exact hx) h0;rw [Qrh hv (hsc f (hCM fm)) (hsc x (hCM xm))] at hbf;rw [hbf] at cB;refine go tt [.f (decide_eq_false (by omega)),.g 111 false (decide_eq_false (by omega)),.f rfl,.g 125 true (decide_eq_true (by omega)),.x (idg hf),.lo,.c [2,1] (cby kf),.c [] cB,.f rfl] rfl (by simp [Uu] <;> omega) ?_;exact rd (i+1) (by omega) h rfl
    ·refine go tt [.f (decide_eq_false (by omega)),.g 111 false (decide_eq_false (by omega)),.f rfl,.g 125 false (decide_eq_false (by omega)),.f rfl] rfl (by simp [Uu] <;> omega) ?_;exact rd (i+1) (by omega) h rfl
 ·exact en tt [.f (decide_eq_false (by omega)),.g 147 true (decide_eq_true (by rw [hil,hrl]; exact hM0)),.c [] Q2f] rfl rfl (by simp [Uu] <;> omega)
end Orr
namespace Orr
open Go Go.Proofs
variable {H:Type} {enc:TypeId×Value->H} {w:World} {base:Nat} {spare:Nat->Bool} {held:Bool}
theorem Ld {α:Type} {l:List α} {n i:Nat} (h:l.length=n) (hi:i<n):∃ x,l[i]? = some x:=⟨l[i]'(by omega),Qe (by omega)⟩
end Orr
namespace Orr
open Go Go.Proofs Go.ChangeShapes Go.WideShapes Go.ChangeAt Go.RowKit Go.WideElems
theorem Zch {w:World} {a:Addr} {v:Value} (h:w.cell? a=some v):a.spot=none/\a.block<w.heap.size:=by
 simp only [World.cell?] at h
 split at h
 ·rename_i c t fr hc
  split at h
  ·cases h
  ·rename_i hs;refine ⟨by cases e:a.spot with | none=>rfl | some _=>simp [e] at hs,?_⟩;exact (Array.getElem?_eq_some_iff.1 hc).1
 ·cases h
theorem Zbh {a:Addr} (h:a.spot=none) (n m:Nat):(a.add n).add m=⟨a.block,a.off+n+m,none⟩:=by
 obtain ⟨b,o,s⟩:=a;simp only at h;subst h;simp only [Addr.add]
 split
 ·rename_i h; subst h
  split
  ·rename_i h; subst h; simp
  ·simp
 ·split
  ·rename_i h; subst h; simp
  ·simp
def fr0 (w:World):Fr:=⟨λb=>b<w.heap.size,λ_=>False,w,λ_=>False,λ_=>none⟩
theorem hs0 (w:World):HS (fr0 w) (ob []) (nw []) (λ_=>none) (λ_=>False) w where
 size:=Qi _
 kept:=λb hb=>⟨hb,rfl,Iff.rfl⟩
 ids:=λi h=>h.elim
 nj:=λi h=>by rw [Qpr] at h; cases h
 io:=⟨rfl,rfl⟩
 blk:=λi=>by rw [Qpr]; trivial
 nk:=λi g c m h _=>by rw [Qpr] at h; cases h
 inj:=λi j g c m c' m' h _ _ _=>by rw [Qpr] at h; cases h
 mlt:=λb h=>h.elim
 m0:=λb _ h=>h.elim
 un:=λi _=>⟨rfl,rfl⟩
 uj:=λi _ h=>h.elim
theorem Zep {w w':World} {bl:Nat->OB} {U:Nat->Prop} {E:Nf} {M:Nat->Prop} (h:HS (fr0 w) bl U E M w') {p:MemPlace} (hp:p.block<w.heap.size):w.sameAt w' p:=by
 cases p with
 | cell b off=>simp only [World.sameAt,World.cell?]; rw [(h.kept b hp).2.1]; rfl
 | map b=>exact (h.kept b hp).2.1
theorem Zc7 {w w':World} {bl:Nat->OB} {U:Nat->Prop} {E:Nf} {M:Nat->Prop} (h:HS (fr0 w) bl U E M w') (may:MemPlace->Prop):w.keptBut w' may:=by
 refine ⟨h.io.1,h.io.2,λi hi=>?_⟩;have e:w'.heap[i]? = w.heap[i]? := (h.kept i hi).2.1;rw [e];cases w.heap[i]? with
 | none=>rfl
 | some o=>cases o <;> simp
theorem Qas {H:Type} {P:Program} {e:TypeId}:∀ {l:List (DataW H)} {i:Nat} {d:DataW H},l[i]? = some d->∀ n∈d.weights P e,n∈DataW.weightsAll P e l
 | [],i,d,h,_,_=>by simp at h
 |
  x::l,0,d,h,n,hn=>by
  simp at h; subst h;simp only [DataW.weightsAll,Qt]; exact .inl hn
 |
  x::l,i+1,d,h,n,hn=>by
  simp only [DataW.weightsAll,Qt];exact .inr (Qas (i:=i) (by simpa using h) n hn)
theorem Eu {H:Type} {P:Program} {t:TypeId} {fs:Array Field} {parts:List (DataW H)} (hu:P.underlying t=some (.struct fs)) (hz:((DataW.agg parts).weights P t).all (· <= reachBytes)=true) {i:Nat} {f:Field} {d:DataW H} (hf:fs[i]? = some f) (hd:parts[i]? = some d) :
 (d.weights P f.type).all (· <= reachBytes)=true:=by
 rw [Yp] at hz ⊢;intro n hn;refine hz n ?_;simp only [DataW.weights,hu];exact DataW.weights_mem_each (j:=i) (by rw [Zb]; simp [hf]) hd n hn
variable {H:Type} {enc:TypeId×Value->H} {w:World}
abbrev O0:Nat->Prop:=λ_=>False
def Els (w:World) (cs:List Value) (ls:List LV):Prop:=cs.length=ls.length/\∀ (j:Nat) (u:LV),ls[j]? = some u->∃ v,cs[j]? = some v/\LRep w O0 v u
theorem Qed {α:Type} {rw_:α->List LV} {Ok:α->Prop} {t e sz:Nat} (hu:Tryz.prog.underlying t=some (.slice e)) (hc:Tryz.prog.cellsOf e=sz) (hsz:0<sz) (hb:1<=Tryz.prog.bytesOf e) (hw:∀ z,(rw_ z).length=sz)
 (elem:∀ fuel cs x,DataW.trod enc Tryz.prog w 0 (λ_=>true) true fuel e cs=some x->(x.1.weights Tryz.prog e).all (· <= reachBytes)=true->∃ z,Ok z/\Els w cs (rw_ z))
 {fuel:Nat} {cs:List Value} {x:DataW H×List MemPlace} (h:DataW.trod enc Tryz.prog w 0 (λ_=>true) true fuel t cs=some x) (hz:(x.1.weights Tryz.prog t).all (· <= reachBytes)=true) :
 ∃ (v:Value) (l:List α),cs=[v]/\(∀ z∈l,Ok z)/\l.length<2^47/\LRep w O0 v (.row (l.map rw_)):=by
 rcases Go.Deep.open_slice hu h with ⟨rfl,_⟩ | ⟨a',len,cap,m,n,D,Pl,rfl,_,hlc,hcap,hm,rfl,hr⟩
 ·refine ⟨_,[],rfl,by simp,Nat.two_pow_pos 47,?_⟩;exact LRep.row none 0 0 0 0 [] (λ_ _=>.bool true) (Qi _) (by decide) (by simp) (by simp) (by simp) (by simp)
 ·simp only [if_true] at hm;subst hm;rw [Yp] at hz;have hlen:len<2^47:=by
   have h0:=hz ((len+(m-len))*Tryz.prog.bytesOf e) (by simp [DataW.weights,hu]);have h1:len<=(len+(m-len))*Tryz.prog.bytesOf e:=by
    have:=Zr (Vf len (m-len)) hb;omega
   have h2:(len+(m-len))*Tryz.prog.bytesOf e<=reachBytes:=by simpa using h0
   exact Xa (Qd h1 h2) reachBytes_lt
  have hel:∀ i,i<len->((D i).weights Tryz.prog e).all (· <= reachBytes)=true:=λi hi=>by
   rw [Yp];intro k hk;refine hz k ?_;simp only [DataW.weights,hu];refine Qk _ (Qt.2 (.inl (Qas (i:=i) ?_ k hk)));rw [Zb,X9 hi]; rfl
  have hone:∀ i,i<len->∃ z cs',Ok z/\Els w cs' (rw_ z)/\∀ j,j<sz->w.cell? ((a'.add (i*sz)).add j)=cs'[j]? := λi hi=>by
   obtain ⟨cs',hcs,htr⟩:=hr i (by omega);rw [hc] at hcs;obtain ⟨_,hl,hcell⟩:=World.cells?_some hcs;obtain ⟨z,hz1,hz2⟩:=elem _ _ _ htr (hel i hi);refine ⟨z,cs',hz1,hz2,λj hj=>?_⟩;rw [hcell j (by omega)]
  have hspot:0<len->a'.spot=none/\a'.block<w.heap.size:=λh0=>by
   obtain ⟨z,cs',_,⟨hl,_⟩,h3⟩:=hone 0 h0;have h4:=h3 0 hsz;have:(a'.add (0*sz)).add 0=a':=by simp [Addr.add]
   rw [this,Qe (by rw [hl,hw]; exact hsz)] at h4;exact Zch h4
  obtain ⟨l,hll,hl⟩:∃ l:List α,l.length=len/\∀ i z,l[i]? = some z->Ok z/\∃ cs',Els w cs' (rw_ z)/\∀ j,j<sz->w.cell? ((a'.add (i*sz)).add j)=cs'[j]? := by
   have:∀ k,k<=len->∃ l:List α,l.length=k/\∀ i z,l[i]? = some z->Ok z/\∃ cs',Els w cs' (rw_ z)/\∀ j,j<sz->w.cell? ((a'.add (i*sz)).add j)=cs'[j]? := by
    intro k
    induction k with
    | zero=>intro _; exact ⟨[],rfl,λi z h=>by simp at h⟩
    |
     succ k ih =>
     intro hk;obtain ⟨l,h1,h2⟩:=ih (by omega);obtain ⟨z,cs',h3,h4,h5⟩:=hone k (by omega);refine ⟨l++[z],by simp [h1],λi y hy=>?_⟩;rcases Q6 i l.length with hi | hi
     ·rw [Q8 hi] at hy; exact h2 i y hy
     ·rw [Zn hi] at hy;have:i-l.length=0:=by
       rcases Qy (i-l.length) with h | h
       ·exact h
       ·rw [Qu (by rw [Yy]; exact h)] at hy; cases hy
      rw [this] at hy;simp at hy;subst hy;have:i=k:=by omega
      subst this;exact ⟨h3,cs',h4,h5⟩
   exact this len (Qi _)
  refine ⟨_,l,rfl,λz hz=>?_,by rw [hll]; exact hlen,?_⟩
  ·obtain ⟨i,hi⟩:=Zg.1 hz;exact (hl i z hi).1
  ·have key:LRep w O0 (.slice (some a') (l.map rw_).length m) (.row (l.map rw_)):=by
    have hgl:∀ i c,(l.map rw_)[i]? = some c->∃ z,l[i]? = some z/\c=rw_ z/\i<len:=λi c h=>by
     rw [Zb] at h;cases e:l[i]? with
     | none=>rw [e] at h; cases h
     | some z=>rw [e] at h; simp at h; exact ⟨z,rfl,h.symm,by have:=(Qc.1 e).1; omega⟩
    have hcl:∀ i c,(l.map rw_)[i]? = some c->∃ cs':List Value,Els w cs' c/\∀ j,j<sz->w.cell? ⟨a'.block,a'.off+i*sz+j,none⟩=cs'[j]? := λi c h=>by
     obtain ⟨z,hz,rfl,hi⟩:=hgl i c h;obtain ⟨_,cs',h1,h2⟩:=hl i z hz;refine ⟨cs',h1,λj hj=>?_⟩;rw [<-h2 j hj,Zbh (hspot (by omega)).1]
    refine LRep.row (some a') m sz a'.block a'.off (l.map rw_) (λi j=>(w.cell? ⟨a'.block,a'.off+i*sz+j,none⟩).getD (.bool true)) (by rw [Zc]; omega) ?_ ?_ ?_ ?_ ?_
    ·have:maxLen=2^63-1:=by rfl
     omega
    ·intro c hc2;obtain ⟨z,_,rfl⟩:=Zx.1 hc2;exact hw z
    ·intro h0;rw [Zc,hll] at h0;obtain ⟨hs,hb⟩:=hspot h0;refine ⟨?_,hb,by simp [O0]⟩;obtain ⟨b,o,s⟩:=a';simp only at hs;rw [hs]
    ·intro i c hi j hj;obtain ⟨z,_,rfl,_⟩:=hgl i c hi;obtain ⟨cs',⟨h1,_⟩,h2⟩:=hcl i _ hi;have hjs:j<sz:=by rw [<-hw z]; exact hj
     rw [h2 j hjs,Qe (by rw [h1]; exact hj)]; rfl
    ·intro i c hi j u hu2;obtain ⟨z,_,rfl,_⟩:=hgl i c hi;obtain ⟨cs',⟨h1,h3⟩,h2⟩:=hcl i _ hi;obtain ⟨v,hv,hr2⟩:=h3 j u hu2;have hjs:j<sz:=by rw [<-hw z]; exact (Qc.1 hu2).1
     show LRep w O0 ((w.cell? ⟨a'.block,a'.off+i*sz+j,none⟩).getD (.bool true)) u;rw [h2 j hjs,hv]; exact hr2
   rw [Zc,hll] at key;exact key
abbrev Zmm (x:Nat):List LV:=[.int .u32 (x:Int)]
theorem Zaq:∀ fuel cs x,DataW.trod enc Tryz.prog w 0 (λ_=>true) true fuel 199 cs=some x->(x.1.weights Tryz.prog 199).all (· <= reachBytes)=true->∃ z:Nat,z<4294967296/\Els w cs (Zmm z):=by
 intro fuel cs x h _;obtain ⟨n,rfl,_,hwf⟩:=DataW.trod_int Tryz.underlying199 h;have hn:0<=n/\n<4294967296:=by
  have:0<=n/\n<=4294967295:=by simpa [Lit.wf,IntKind.min,IntKind.max,IntKind.signed,IntKind.bits] using hwf
  omega
 refine ⟨n.toNat,by omega,rfl,λj u hu=>?_⟩
 match j,hu with
 |
  0,hu =>
  simp at hu; subst hu;refine ⟨_,rfl,?_⟩;rw [show max n 0=n by omega];exact .int _ _
 | j+1,hu=>simp at hu
set_option maxRecDepth 20000 in
theorem Qj0:∀ fuel cs x,DataW.trod enc Tryz.prog w 0 (λ_=>true) true fuel 51 cs=some x->(x.1.weights Tryz.prog 51).all (· <= reachBytes)=true->∃ z:RawInt,z.Ok/\Els w cs (Qf2 z):=by
 intro fuel cs x h hz;obtain ⟨xs,n,_,rfl,hl,hxs,hf⟩:=DataW.trod_struct Tryz.underlying51 h;have hl:cs.length=2:=hl
 match cs,hl with
 |
  [v0,v1],_ =>
  obtain ⟨z0,hz0⟩:=Ld (i:=0) hxs (by decide);obtain ⟨z1,hz1⟩:=Ld (i:=1) hxs (by decide);have h0:=hf 0 _ rfl;have h1:=hf 1 _ rfl;rw [hz0] at h0; rw [hz1] at h1;obtain ⟨b,e0,_⟩:=DataW.trod_bool Tryz.underlying4 h0;have f0:v0=.bool b:=(List.cons.inj (show [v0]=[Value.bool b] from e0)).1;have hw1:=Eu Tryz.underlying51 hz (i:=1) rfl (d:=z1.1) (by rw [Zb,hz1]; rfl);obtain ⟨v,l,e1,hlo,_,hrep⟩:=Qed (sz:=1) (Ok:=λu:Nat=>u<4294967296) (rw_:=Zmm) Tryz.underlying49 (by kernel_rfl) (by decide) (of_decide_eq_true (by kernel_rfl)) (λ_=>rfl) Zaq h1 hw1;have f1:v1=v:=(List.cons.inj (show [v1]=[v] from e1)).1;subst f0 f1;refine ⟨⟨b,l⟩,⟨hlo⟩,rfl,λj u hu=>?_⟩
  match j,hu with
  | 0,hu=>simp at hu; subst hu; exact ⟨_,rfl,.bool _⟩
  | 1,hu=>simp at hu; subst hu; exact ⟨_,rfl,hrep⟩
  | j+2,hu=>simp at hu
set_option maxRecDepth 20000 in
theorem Qwz:∀ fuel cs x,DataW.trod enc Tryz.prog w 0 (λ_=>true) true fuel 135 cs=some x->(x.1.weights Tryz.prog 135).all (· <= reachBytes)=true->∃ z:RawPt,z.Ok/\Els w cs (rwq z):=by
 intro fuel cs x h hz;obtain ⟨xs,n,_,rfl,hl,hxs,hf⟩:=DataW.trod_struct Tryz.underlying135 h;have hl:cs.length=5:=hl
 match cs,hl with
 |
  [v0,v1,v2,v3,v4],_ =>
  obtain ⟨z0,hz0⟩:=Ld (i:=0) hxs (by decide);obtain ⟨z1,hz1⟩:=Ld (i:=1) hxs (by decide);have h0:=hf 0 _ rfl;have h1:=hf 1 _ rfl;rw [hz0] at h0; rw [hz1] at h1;obtain ⟨id,e4,_,hwf⟩:=DataW.trod_int Tryz.underlying3 h1;have f4:v4=.int .i64 id:=(List.cons.inj (show [v4]=[Value.int .i64 id] from e4)).1;have hw0:=Eu Tryz.underlying135 hz (i:=0) rfl (d:=z0.1) (by rw [Zb,hz0]; rfl);obtain ⟨ys,n2,_,e5,_,hys,hg⟩:=DataW.trod_struct Tryz.underlying53 h0;rw [e5] at hw0;obtain ⟨y0,hy0⟩:=Ld (i:=0) hys (by decide);obtain ⟨y1,hy1⟩:=Ld (i:=1) hys (by decide);obtain ⟨y2,hy2⟩:=Ld (i:=2) hys (by decide);have g0:=hg 0 _ rfl;have g1:=hg 1 _ rfl;have g2:=hg 2 _ rfl;rw [hy0] at g0; rw [hy1] at g1; rw [hy2] at g2;have w0:=Eu Tryz.underlying53 hw0 (i:=0) rfl (d:=y0.1) (by rw [Zb,hy0]; rfl);have w1:=Eu Tryz.underlying53 hw0 (i:=1) rfl (d:=y1.1) (by rw [Zb,hy1]; rfl);have w2:=Eu Tryz.underlying53 hw0 (i:=2) rfl (d:=y2.1) (by rw [Zb,hy2]; rfl);obtain ⟨u0,lx,e0,hx,_,rx⟩:=Qed (sz:=2) (Ok:=RawInt.Ok) (rw_:=Qf2) Tryz.underlying48 (by kernel_rfl) (by decide) (of_decide_eq_true (by kernel_rfl)) (λ_=>rfl) Qj0 g0 w0;obtain ⟨u1,ly,e1,hy,_,ry⟩:=Qed (sz:=2) (Ok:=RawInt.Ok) (rw_:=Qf2) Tryz.underlying48 (by kernel_rfl) (by decide) (of_decide_eq_true (by kernel_rfl)) (λ_=>rfl) Qj0 g1 w1;obtain ⟨d,hd,hde⟩:=Qj0 _ _ _ g2 w2;have f0:v0=u0:=(List.cons.inj (show [v0]=[u0] from e0)).1;have f1:v1=u1:=(List.cons.inj (show [v1]=[u1] from e1)).1;have hde2:Els w [v2,v3] (Qf2 d):=hde;subst f0 f1 f4;obtain ⟨q2,hq2,r2⟩:=hde2.2 0 _ rfl;obtain ⟨q3,hq3,r3⟩:=hde2.2 1 _ rfl;simp at hq2 hq3;subst hq2 hq3;refine ⟨⟨lx,ly,d,id⟩,⟨hx,hy,hd,by simpa [Lit.wf,IntKind.min,IntKind.max,IntKind.signed,IntKind.bits] using hwf⟩,rfl,λj u hu=>?_⟩
  match j,hu with
  | 0,hu=>simp [rwq] at hu; subst hu; exact ⟨_,rfl,rx⟩
  | 1,hu=>simp [rwq] at hu; subst hu; exact ⟨_,rfl,ry⟩
  | 2,hu=>simp [rwq] at hu; subst hu; exact ⟨_,rfl,r2⟩
  | 3,hu=>simp [rwq] at hu; subst hu; exact ⟨_,rfl,r3⟩
  | 4,hu=>simp [rwq] at hu; subst hu; exact ⟨_,rfl,.int _ _⟩
  | j+5,hu=>simp [rwq] at hu
set_option maxRecDepth 20000 in
theorem Qwe {f:FuncId} {fn:Func} {s:ChangeSpec} (hp:fn.params = #[22,3,3]) (hr:fn.resultTypes = #[4]) (hv:s.vars=[])
 (hs:∀ (H:Type) (d1 d2 d3:DataW H),s.fn H [d1,d2,d3]={ results:=[.lit (.bool true)],args:=[d1,d2,d3] })
 (hlaid:laidOutB Tryz.prog=true) (hr22:Tryz.prog.readableRec 22=true) (hr3:Tryz.prog.readableRec 3=true) (hs22:22<Tryz.prog.types.size) (hs3:3<Tryz.prog.types.size)
 (law:∀ (zs:List RawPt) (n d:Int),(∀ z∈zs,z.Ok)->(-2^63≤n/\n≤2^63-1)->(-2^63≤d/\d≤2^63-1)->Uw Tryz.prog f [.one (.row (Qef zs)),.one (.int .i64 n),.one (.int .i64 d)] [.one (.bool true)])
 {H:Type} {enc:TypeId×Value->H} {W:World} {base:Nat} {args:Array Value} {ds gs:List (DataW H)} {Ms:List MemPlace} {fresh handsOn:Bool}
 (hval:∀ (j:Nat) t v,fn.params[j]? = some t->args[j]? = some v->Value.okWide Tryz.prog W .any base t v)
 (hW:DataW.Whole enc Tryz.prog fn.params.toList s.vars false W args.toList ds gs Ms)
 (hz:(DataW.weightsEach Tryz.prog (fn.params.toList++s.plain.varTypes Tryz.prog) (ds++gs)).all (· <= reachBytes)=true) :
 Calls Tryz.prog f args W λe W'=>∃ v,e=.returned v/\s.post enc Tryz.prog fn false fresh handsOn false W args v W':=by
 have hW':=hW;obtain ⟨p,q,hA0,hV,rfl,hfz,hnd⟩:=hW;have hA:DataW.TrodAll enc Tryz.prog W 0 (λ_=>true) true fn.params.toList args.toList ds p:=hA0;rw [hv] at hV;obtain ⟨rfl,rfl⟩:=trodVars_none hV;have hlt:=hW'.lt;rw [hp] at hA hval hz;obtain ⟨v0,vs0,d0,ds0,p0,q0,hargs0,rfl,rfl,h0,r0⟩:=trodAll_cons hA;obtain ⟨v1,vs1,d1,ds1,p1,q1,rfl,rfl,rfl,h1,r1⟩:=trodAll_cons r0;obtain ⟨v2,vs2,d2,ds2,p2,q2,rfl,rfl,rfl,h2,r2⟩:=trodAll_cons r1;obtain ⟨rfl,rfl,rfl⟩:=trodAll_nil r2;obtain rfl:args = #[v0,v1,v2]:=by cases args; simp_all
 obtain ⟨n,rfl,rfl,rfl,w1⟩:=open_int Tryz.underlying3 (hval 1 3 v1 rfl rfl) h1;obtain ⟨d,rfl,rfl,rfl,w2⟩:=open_int Tryz.underlying3 (hval 2 3 v2 rfl rfl) h2;have hv0:=hval 0 22 v0 rfl rfl;obtain ⟨a,len,cap,rfl⟩:=okWide_slice Tryz.underlying22 hv0;have hz0:(d0.weights Tryz.prog 22).all (· <= reachBytes)=true:=by
  rw [Yp] at hz ⊢;intro k hk;exact hz k (DataW.weights_mem_each (j:=0) rfl rfl k hk)
 have h0':=h0;obtain ⟨fu,h0'⟩:=h0';obtain ⟨v,zs,e0,hok,hlen,hrep⟩:=Qed (sz:=5) (Ok:=RawPt.Ok) (rw_:=rwq) Tryz.underlying22 (by kernel_rfl) (by decide) (of_decide_eq_true (by kernel_rfl)) (λ_=>rfl) Qwz h0' hz0;have f0:Value.slice a len cap=v:=(List.cons.inj (show [Value.slice a len cap]=[v] from e0)).1;subst f0;have hd1:-2^63<=d/\d<=2^63-1:=by simpa [Lit.wf,IntKind.min,IntKind.max,IntKind.signed,IntKind.bits] using w2
 have hrep:LRep W (λ_=>False) (.slice a len cap) (.row (Qef zs)):=hrep;have hn1:-2^63<=n/\n<=2^63-1:=by simpa [Lit.wf,IntKind.min,IntKind.max,IntKind.signed,IntKind.bits] using w1
 have hcall:=(law zs n d hok hn1 hd1).2 (fr0 W) (λ_=>none) (λ_=>False) W [.slice a len cap,.int .i64 n,.int .i64 d] (hs0 W) (.cons (show XRep W (λ_=>False) (λ_=>none) (.slice a len cap) (.row (Qef zs)) from hrep.x) (.cons (show XRep W (λ_=>False) (λ_=>none) (.int .i64 n) (.int .i64 n) from (LRep.int .i64 n).x) (.cons (show XRep W (λ_=>False) (λ_=>none) (.int .i64 d) (.int .i64 d) from (LRep.int .i64 d).x) .nil)));refine hcall.mono λe W' ⟨v,u,Bo,E',M',he,⟨hu,hBo⟩,_,hm,har⟩=>?_
 subst hu;obtain rfl:v=.bool true:=by
  have h:LRep _ _ v (.bool true):=har;cases h;rfl
 refine ⟨_,he,?_⟩;refine ⟨[d0,.lit (.int .i64 n),.lit (.int .i64 d)],[],_,[],p0++([]++([]++[])),[],hW',?_,?_,?_,Zc7 hm _,λh=>by cases h⟩
 ·rw [hr,Zy,hs];exact trodAll_cons_mk (shut_bool Tryz.underlying4 true) trodAll_mk0
 ·rw [hp,Zy,hs];have hb:∀ p∈p0,p.block<W.heap.size:=λp hp=>hlt p (by simp [hp])
  exact trodAll_cons_mk (Trod_stays hlaid hr22 hs22 h0 (λp hp=>Zep hm (hb p hp)) (λp hp=>by simpa using hb p hp)) (trodAll_cons_mk (shut_int Tryz.underlying3 w1) (trodAll_cons_mk (shut_int Tryz.underlying3 w2) trodAll_mk0))
 ·rw [hv,Zy,hs];rfl
end Orr
