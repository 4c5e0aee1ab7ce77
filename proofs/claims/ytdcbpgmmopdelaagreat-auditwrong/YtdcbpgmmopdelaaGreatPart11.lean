/- QS WR26 WY26 AXO WW26 ReadN LastN LastR LastS ArgR -/
import Derived.Test.YtdcbpgmmopdelaaGreatPart10
import Derived.Test.YtdcbpgmmopdelaaGreatPart00
import Derived.Test.YtdcbpgmmopdelaaGreatPart09
import Derived.Deep.Slices
import Derived.ProofKit
import Derived.OpenShut
import Derived.WideKeyArgs
import Derived.SizedLaws
import Derived.Test.YtdcbpgmmopdelaaGreatPart07
set_option linter.all false
namespace Orr
open Go Go.Proofs Tryz Orq
set_option maxRecDepth 10000
theorem Qpd(l:Ft):∀y∈Mx l,y.length=1:=λy hy=>by obtain⟨_,_,rfl⟩:=Zd.1 hy;rfl
theorem OD(l:List T3):∀y∈Ef l,y.length=3:=λy hy=>by obtain⟨_,_,rfl⟩:=Zd.1 hy;rfl
theorem gK{l:Ft}(hl:l.length<=1000000):Cf prog 27 [.one (.row (Mx l))] [] [.one (.orow 0 1 none)] [.row false 3 1 (Mx l)]:=by
 have hil:(Mx l).length=l.length:=by simp[Mx]
 refine Sk func27 rfl ?_;exact Fj [] [0] [.s (sz:=1) (Qpd l)] rfl (by simp[Ge,hil];omega)
theorem Qgh{l:List T3}(hl:l.length<=1000000):Cf prog 28 [.one (.row (Ef l))] [] [.one (.orow 0 3 none)] [.row false 79 3 (Ef l)]:=by
 have hil:=VL l;refine Sk func28 rfl ?_;exact Fj [] [0] [.s (sz:=3) (OD l)] rfl (by simp[Ge,hil];omega)
theorem PZ{n:Nat}:∀(l out:List Pt),If out->If (Ng n out l)
 | [],out,h=>by simpa[Ng]using h
 |
  p::l,out,h=>by
  unfold Ng
  split
  ·split
   ·exact PZ l out h
   ·rename_i hn;refine PZ l _ (Zv.2 ⟨h,V5 _ _,λx hx y hy=>?_⟩);rw[Qo.1 hy];intro e;exact hn (Ks.2 ⟨x,hx,by simpa using e⟩)
  ·exact h
theorem Qvp{zs:List RawPt}:Rt (OX 4 20 zs):=⟨λp hp=>(Qek (by decide) p hp:Cs 10 3 p.c).mono (by decide) (by decide),PZ _ [] List.Pairwise.nil,GO _ _ (Qh _)⟩

theorem Qg1{O:List Pt}{t:Tm}(hs:∀p∈O,Cs 128 3 p.c)(hn:O.length≤1000000)(ht:Va t){is:Ft}(hi1:is.length≤1000000):Cf prog 22 [.agg (ta t),.one (.orow 0 1 none),.one (pts O)] [.row false 3 1 (Mx is)] [.one (.bool (cd0 (fC (Hb t) O is)))] [.gone]:=by
 have hcl:=Su O;have hil:(Mx is).length=is.length:=by simp[Mx]
 show Cf prog 22 [.agg (ta t),.one (.orow 0 1 none),.one (.row (Hy O))] _ _ _;by_cases hlen:is.length=O.length
 ·refine Sk func22 rfl (pb 0 rfl rfl ?_);refine Ff [.F] rfl ?_;refine Fl (S:=Nat×LV×LV×LV×LV×LV) 3 (λL1 s=>(19,.v (.oi (s.1:Int)))::L1) (λs=>[.gone,BY t,.blk 76 [s.2.1,s.2.2.1,s.2.2.2.1,s.2.2.2.2.1,s.2.2.2.2.2]]) (λs=>is.length-s.1) (λs=>s.1<=is.length/\(∀j,j<s.1->LG (Hb t) O is j)/\(s.1=0\/∃k id y,s.1=k+1/\is[k]? = some id/\fnd O id=some y/\s.2=(pl y.c.x,pl y.c.y,sg y.c.d,mg y.c.d,.int .i64 y.id))) (0,.nils,.nils,.bool false,.nils,.int .i64 0) ⟨Qh _,(λj h=>absurd h (Xe j)),.inl rfl⟩ rfl rfl λ⟨i,z⟩ ⟨hi,hg,hy⟩=>?_
  dsimp only at hi hg hy ⊢;by_cases h:i<is.length
  ·obtain⟨id,hid⟩:=gxE (l:=is) (i:=i) h;have hgx:=HY (l:=is) (i:=i) hid;have no:¬LG (Hb t) O is i->cd0 (fC (Hb t) O is)=false:=λhng=>Ch λhq=>hng (hq.2 i h)
   rcases Ih (id:=id) (l:=O) hn with⟨x,hx,cf⟩|⟨hx,cf⟩
   ·obtain⟨hxm,hxi⟩:=Tc hx;rcases hy with rfl|⟨k,id',y,rfl,hk,hky,rfl⟩
    ·refine go tt [.T,.x hgx,.k cf,.g 32 false rfl,.g 35 false rfl,.f rfl] rfl (by simp[Ge] <;> omega) ?_;refine rd (1,pl x.c.x,pl x.c.y,sg x.c.d,mg x.c.d,.int .i64 x.id) (by dsimp only;omega) ⟨h,λj hj=>?_,.inr ⟨0,id,x,rfl,hid,hx,rfl⟩⟩ rfl;obtain rfl:j=0:=by omega
     exact⟨id,x,hid,hx,λj id' y e=>by omega⟩
    have cb:=D5 (hs y (Tc hky).1) (hs x hxm) ht;cases hb:Rh (Hb t) y.nrm x.nrm with
    |
     true =>
     rw[hb]at cb;refine go tt [.T,.x hgx,.k cf,.g 32 false rfl,.g 35 true Fq,.k cb,.f rfl] rfl (by simp[Ge] <;> omega) ?_;refine rd (k+1+1,pl x.c.x,pl x.c.y,sg x.c.d,mg x.c.d,.int .i64 x.id) (by dsimp only;omega) ⟨h,λj hj=>?_,.inr ⟨k+1,id,x,rfl,hid,hx,rfl⟩⟩ rfl;by_cases e:j=k+1
     ·subst e;refine⟨id,x,hid,hx,λj id2 y2 e h1 h2=>?_⟩;obtain rfl:j=k:=by omega
      rw[hk]at h1;obtain rfl:=Option.some.inj h1;rw[hky]at h2;obtain rfl:=Option.some.inj h2;exact hb
     ·exact hg j (by omega)
    |
     false =>
     rw[hb]at cb;rw[no λ⟨id2,x2,h1,h2,h3⟩=>by
      rw[hid]at h1;obtain rfl:=Option.some.inj h1;rw[hx]at h2;obtain rfl:=Option.some.inj h2;have:=h3 k id' y rfl hk hky;rw[hb]at this;cases this]
     exact Fj [] [0] [.T,.x hgx,.k cf,.g 32 false rfl,.g 35 true Fq,.k cb,.t rfl] rfl (by simp[Ge] <;> omega)
   rw[no λ⟨id2,x2,h1,h2,_⟩=>by
    rw[hid]at h1;obtain rfl:=Option.some.inj h1;rw[hx]at h2;cases h2]
   exact Fj [] [0] [.T,.x hgx,.k cf,.g 32 true rfl,.t rfl] rfl (by simp[Ge] <;> omega)
  rw[WA ⟨hlen,λj hj=>hg j (by omega)⟩];exact Fj [] [0] [.F] rfl
 rw[Ch λh=>hlen h.1];exact Sk func22 rfl (pb 0 rfl rfl (Fj [] [0] [.T] rfl))
set_option maxHeartbeats 2000000 in
theorem Qg0{M:List Pt}{t:Tm}{is:Ft}(hsc:∀p∈M,Cs 128 3 p.c)(hn:M.length≤1000)(hil1:is.length≤1000000)(ht:Va t):Cf prog 23 [.agg (ta t),.one (.orow 0 1 none),.one (pts M)] [.row false 3 1 (Mx is)] [.one (.bool (cd0 (FI (Hb t) (cornU (Hb t) (S0 M)) is)))] [.gone]:=by
 have cW:=GY hsc (by omega);have hWs:∀p∈S0 M,Cs 128 3 p.c:=λp hp=>hsc p (XW hp)
 have hWl:=WT M;obtain⟨W,hW⟩:=nmE (S0 M);rw[<-hW]at cW hWs hWl ⊢;obtain⟨g,hg⟩:∃g:Pt->Bool,g=λx=>cd0 (JM (Hb t) x.nrm (W.map Pt.nrm)):=⟨_,rfl⟩
 obtain⟨A,hA⟩:=nmE (cornU (Hb t) W);have hAg:A=W.filter g:=by rw[hA,hg];rfl
 rw[<-hA];have hAm:∀x∈A,x∈W:=λx hx=>by rw[hAg]at hx;exact(Jl.1 hx).1
 have hAl:A.length<=W.length:=by rw[hAg];exact X4 _ _
 have hcl:=Su W;have hcl':(List.map Sl W).length=W.length:=by simp
 have hcA:=Su A;have hil:(Mx is).length=is.length:=by simp[Mx]
 show Cf prog 23 [.agg (ta t),.one (.orow 0 1 none),.one (.row (Hy M))] _ _ _;refine Sk func23 rfl (pb 0 rfl rfl ?_);refine Ff [.k cW,.o 8 76 5] rfl ?_;refine Fl (S:=Nat) 3 (λL1 i=>(26,.v (.oi i))::(8,.v (.one (.orow 2 5 none)))::L1) (λi=>[.gone,BY t,.row false 76 5 (Hy ((W.take i).filter g))]) (λi=>W.length-i) (λi=>i<=W.length) 0 (Qh _) rfl rfl λi hi=>?_
 by_cases h:i<W.length
 ·obtain⟨x,hx⟩:=gxE (l:=W) (i:=i) h;have cc:=LY (l:=W) (x:=x) hWs (hWs x (Qa hx)) (by omega) ht;rw[show cd0 (JM (Hb t) x.nrm (W.map Pt.nrm))=g x by rw[hg]]at cc;have hnx:=SC g hx;have hOl:((W.take i).filter g).length<=i:=Qe (X4 _ _) (by rw[Qz];omega);have hOc:=Su ((W.take i).filter g);cases hb:g x with
  |true =>
   rw[hb]at cc;rw[hb,if_pos rfl]at hnx;refine go tt [.T,.x (Hg hx),.k cc,.t rfl] rfl (by simp[Ge] <;> omega) ?_;exact rd (i+1) (by omega) h (by rw[hnx];simp[Hy];rfl)
  |false =>
   rw[hb]at cc;rw[hb,if_neg (by decide),Xg]at hnx;refine go tt [.T,.x (Hg hx),.k cc,.f rfl] rfl (by simp[Ge] <;> omega) ?_;exact rd (i+1) (by omega) h (by rw[hnx];rfl)
 obtain rfl:i=W.length:=by omega
 rw[Za,<-hAg];by_cases hlen:is.length=A.length
 case neg =>
  rw[Ch λh=>hlen h.1];exact Fj [] [0] [.F,.T] rfl
 refine Ff [.F,.F,.o 11 76 5] rfl ?_;refine pb 2 rfl rfl ?_;refine Fl (S:=List Pt) 4 (λL1 o=>(46,.v (.oi (o.length:Int)))::(11,.v (.one (.orow 3 5 none)))::L1) (λo=>[.gone,BY t,.gone,.row false 76 5 (Hy o)]) (λo=>is.length-o.length) (λo=>o.length<=is.length/\(∀j x,o[j]? = some x->FA A is j x)/\∀j,j<o.length->HG (Hb t) A is j) [] ⟨Qh _,(λj x h=>by cases h),λj h=>absurd h (Xe j)⟩ rfl rfl λo ⟨ho,o1,o2⟩=>?_
 have hco:=Su o;by_cases h:o.length<is.length
 ·obtain⟨id,hid⟩:=gxE (l:=is) (i:=o.length) h;have hgi:=HY (l:=is) (i:=o.length) hid;have no:¬HG (Hb t) A is o.length->cd0 (FI (Hb t) A is)=false:=λhng=>Ch λhq=>hng (hq.2.1 _ h)
  rcases Ih (id:=id) (l:=A) (by omega)with⟨x,hx,cf⟩|⟨hx,cf⟩
  ·have hfx:FA A is o.length x:=⟨id,hid,hx⟩;have hxm:=(Tc hx).1;have e1:∀j y,(o++[x])[j]? = some y->FA A is j y:=λj y hy=>by
    rcases Q8 j o.length with hj|hj
    ·rw[Q3 hj]at hy;exact o1 j y hy
    ·have:=(Qd.1 hy).1;rw[Q6,X5]at this;obtain rfl:j=o.length:=by omega
     rw[Zk (Qn _),J4]at hy;obtain rfl:=Option.some.inj hy;exact hfx
   have e2:HG (Hb t) A is o.length->∀j,j<(o++[x]).length->HG (Hb t) A is j:=λhg j hj=>by
    rw[Q6,X5]at hj;by_cases e:j=o.length
    ·subst e;exact hg
    ·exact o2 j (by omega)
   have hl1:(o++[x]).length=o.length+1:=by simp
   have hp1:Hy (o++[x])=Hy o++[Sl x]:=by simp[Hy]
   by_cases h0:o.length=0
   ·have hg0:HG (Hb t) A is o.length:=⟨x,hfx,λf h=>by omega⟩;refine go tt [.T,.x hgi,.k cf,.g 59 false rfl,.g 62 false Fp,.f rfl] rfl (by simp[Ge] <;> omega) ?_;exact rd (o++[x]) (by omega) ⟨by omega,e1,e2 hg0⟩ (by rw[hl1,hp1];rfl)
   obtain⟨f,hf⟩:=gxE (l:=o) (i:=0) (by omega);have hff:=o1 0 f hf;have hfm:f∈A:=by obtain⟨_,_,h⟩:=hff;exact(Tc h).1
   have cb:=D5 (hWs f (hAm f hfm)) (hWs x (hAm x hxm)) ht;cases hb:Rh (Hb t) f.nrm x.nrm with
   |true =>
    rw[hb]at cb;have hg0:HG (Hb t) A is o.length:=⟨x,hfx,λf' _ h'=>by rw[h'.un hff];exact hb⟩;refine go tt [.T,.x hgi,.k cf,.g 59 false rfl,.g 62 true Fq,.i 0,.x (Hg hf),.k cb,.f rfl] rfl (by simp[Ge] <;> omega) ?_;exact rd (o++[x]) (by omega) ⟨by omega,e1,e2 hg0⟩ (by rw[hl1,hp1];rfl)
   |
    false =>
    rw[hb]at cb;rw[no λ⟨x',h1,h2⟩=>by
     have:=h2 f (by omega) hff;rw[h1.un hfx,hb]at this;cases this]
    exact Fj [] [0] [.T,.x hgi,.k cf,.g 59 false rfl,.g 62 true Fq,.i 0,.x (Hg hf),.k cb,.t rfl] rfl (by simp[Ge] <;> omega)
  rw[no λ⟨x',⟨id',h1,h2⟩,_⟩=>by
   rw[hid]at h1;obtain rfl:=Option.some.inj h1;rw[hx]at h2;cases h2]
  exact Fj [] [0] [.T,.x hgi,.k cf,.g 59 true rfl,.t rfl] rfl (by simp[Ge] <;> omega)
 have hol:o.length=is.length:=by omega
 have all2:∀i,i<is.length->HG (Hb t) A is i:=λi hi=>o2 i (by omega)
 refine go tt [.F] rfl (by simp[Ge] <;> omega) ?_;refine pb 3 rfl rfl ?_;have sO:=λ{j:Nat} {y:Pt} (hy:o[j]? = some y)=>hWs y (hAm y (by obtain⟨_,_,h⟩:=o1 j y hy;exact(Tc h).1))
 refine Fl (S:=Nat) 4 (λL1 i=>(79,.v (.oi i))::L1) (λ_=>[.gone,BY t,.gone,.gone]) (λi=>o.length-i) (λi=>i<=o.length/\∀i' j k,k<j->j<i'->i'<i->TG (Hb t) A is i' j k) 0 ⟨Qh _,λ_ _ _ _ _ h=>absurd h (Xe _)⟩ rfl rfl λi ⟨hi,g1⟩=>?_
 by_cases h:i<o.length
 ·obtain⟨x,hx⟩:=gxE (l:=o) (i:=i) h;refine go tt [.T,.x (Hg hx),.i i] rfl (by simp[Ge] <;> omega) ?_;have hcl2:((Hy o).take i).length=i:=by rw[Qz];omega
  refine Fl (S:=Nat) 5 (λL1 j=>(88,.v (.oi j))::L1) (λ_=>[.gone,BY t,.gone,.gone,GZ x]) (λj=>i-j) (λj=>j<=i/\∀j' k,k<j'->j'<j->TG (Hb t) A is i j' k) 0 ⟨Qh _,λ_ _ _ h=>absurd h (Xe _)⟩ rfl rfl λj ⟨hj,g2⟩=>?_
  by_cases h':j<i
  ·obtain⟨y,hy⟩:=gxE (l:=o) (i:=j) (by omega);have hgy:((Hy o).take i)[j]? = some (Sl y):=by rw[Ja h'];exact Hg hy
   have hcl3:((Hy o).take j).length=j:=by rw[Qz];omega
   refine go tt [.T,.x hgy,.i j] rfl (by simp[Ge] <;> omega) ?_;refine Fl (S:=Nat) 6 (λL1 k=>(97,.v (.oi k))::L1) (λ_=>[.gone,BY t,.gone,.gone,GZ x,GZ y]) (λk=>j-k) (λk=>k<=j/\∀k',k'<k->TG (Hb t) A is i j k') 0 ⟨Qh _,λ_ h=>absurd h (Xe _)⟩ rfl rfl λk ⟨hk,g3⟩=>?_
   by_cases h'':k<j
   ·obtain⟨z,hz⟩:=gxE (l:=o) (i:=k) (by omega);have hgz:((Hy o).take j)[k]? = some (Sl z):=by rw[Ja h''];exact Hg hz
    have ct_:=Ey (sO hz) (sO hy) (sO hx) ht;obtain⟨s,hs⟩:=nmE (Hk (Hb t) (G8 z.nrm.c y.nrm.c x.nrm.c));rw[<-hs]at ct_;by_cases h4:0<s
    ·refine go tt [.T,.x hgz,.k ct_,.F] rfl (by simp[Ge] <;> omega) ?_;refine rd (k+1) (by omega) ⟨h'',λk' hk'=>?_⟩ rfl;by_cases e:k'=k
     ·subst e;exact λx' y' z' h1 h2 h3=>by
       rw[h1.un (o1 i x hx),h2.un (o1 j y hy),h3.un (o1 _ z hz),<-hs];exact h4
     exact g3 k' (by omega)
    rw[Ch λhq=>by
     have:=hq.2.2 i j k h'' h' (by omega) x y z (o1 i x hx) (o1 j y hy) (o1 k z hz);rw[<-hs]at this;exact h4 this]
    exact Fj [] [0] [.T,.x hgz,.k ct_,.T] rfl (by simp[Ge] <;> omega)
   obtain rfl:k=j:=by omega
   refine go tt [.F] rfl (by simp[Ge] <;> omega) ?_;refine rd (k+1) (by omega) ⟨h',λj' k' h1 h2=>?_⟩ rfl;by_cases e:j'=k
   ·subst e;exact g3 k' h1
   exact g2 j' k' h1 (by omega)
  obtain rfl:j=i:=by omega
  refine go tt [.F] rfl (by simp[Ge] <;> omega) ?_;refine rd (j+1) (by omega) ⟨h,λi' j' k' h1 h2 h3=>?_⟩ rfl;by_cases e:i'=j
  ·subst e;exact g2 j' k' h1 h2
  exact g1 i' j' k' h1 h2 (by omega)
 rw[WA ⟨hlen,all2,λi' j k h1 h2 h3=>g1 i' j k h1 h2 (by omega)⟩];exact Fj [] [0] [.F] rfl
set_option maxHeartbeats 2000000 in
theorem Qg2{M:List Pt}{t:Tm}{l:List T3}(hsc:∀p∈M,Cs 128 3 p.c)(hn:M.length≤6)(hl:l.length≤1000000)(ht:Va t):Cf prog 24 [.agg (ta t),.one (.orow 0 3 none),.one (pts M)] [.row false 79 3 (Ef l)] [.one (.bool (decide (l=((Pj (He Td (S0 M))).filter (Qim (Hb t) (He Td (S0 M)))).map TB)))] [.gone]:=by
 have cW:=GY hsc (by omega);have hWl:=WT M;have cS:=iE (l:=S0 M) (by omega);have hWs:∀p∈He Td (S0 M),Cs 128 3 p.c:=λp hp=>hsc p (XW (Ph.1 hp))
 have hWl2:(He Td (S0 M)).length=(S0 M).length:=Pg _ _;obtain⟨W,hW⟩:=nmE (He Td (S0 M));rw[<-hW]at cS hWs hWl2 ⊢;have hWl3:W.length<=6:=by omega
 obtain⟨E,hE⟩:=nmE (Qim (Hb t) W);rw[<-hE];obtain⟨T,hT⟩:=nmE ((Pj W).filter E);rw[<-hT];have hTl:T.length<=20:=by rw[hT];exact Qe (X4 _ _) (RE (l:=W) (by omega)).1
 have htl:=VL l;have hcl:(List.map Sl W).length=W.length:=by simp
 have pre:∀{F:List P3} {r:List P3} {m:P3},T=F++[m]++r->l.take F.length=F.map TB->¬l[F.length]? = some (TB m)->decide (l=T.map TB)=false:=λ{F r m} hTF h1 h2=>decide_eq_false λe=>h2 (by
  rw[e,hTF,Xo,Xo,Zj,Zk (by rw[Q4];exact Qn _),Q4,J4];rfl)
 refine Sk func24 rfl (pb 0 rfl rfl ?_);refine Ff [.k cW,.k cS] rfl ?_;refine lp (S:=Nat) 2 (λL1 i=>(20,.v (.oi i))::(8,.v (.oi ((((Df i W).filter E).length:Nat):Int)))::L1) (λ_=>[.gone,BY t]) (λi=>W.length-i) (λi=>i<=W.length/\l.take ((Df i W).filter E).length=((Df i W).filter E).map TB) 0 ⟨Qh _,by rw[show Df 0 W=[] from by cases W <;> rfl];rfl⟩ rfl (λ_ _=>rfl) (by rw[show Df 0 W=[] from by cases W <;> rfl];rfl) λi ⟨hi,k1⟩=>?_
 by_cases h:i<W.length
 ·obtain⟨x,hx⟩:=gxE (l:=W) (i:=i) h;have sx:=hWs x (Qa hx);have hcl2:((List.map Sl W).drop (i+1)).length=W.length-(i+1):=by simp
  have hdl:(W.drop (i+1)).length=W.length-(i+1):=by simp
  refine go tt [.T,.x (Hg hx),.r 27 (eI (b:=((i+1:Nat):Int)) (by simp)),.i (i+1)] rfl (by simp[Ge];exact⟨by omega,λ_ _=>rfl,by omega⟩) ?_;refine lp (S:=Nat) 3 (λL1 j=>(30,.v (.oi j))::(8,.v (.oi ((((lK W x i j).filter E).length:Nat):Int)))::L1) (λ_=>[.gone,BY t,GZ x]) (λj=>W.length-(i+1)-j) (λj=>j<=W.length-(i+1)/\l.take ((lK W x i j).filter E).length=((lK W x i j).filter E).map TB) 0 ⟨Qh _,by rw[VH];exact k1⟩ rfl (λ_ _=>rfl) (by rw[VH];rfl) λj ⟨hj,k2⟩=>?_
  by_cases h':j<W.length-(i+1)
  ·obtain⟨y,hy⟩:=gxE (l:=(W.drop (i+1))) (i:=j) (by omega);have sy:=hWs y (Q9 (Qa hy));have hgy:((List.map Sl W).drop (i+1))[j]? = some (Sl y):=by rw[<-Y5];exact Tk hy
   have hdd:(W.drop (i+1)).drop (j+1)=W.drop (i+j+2):=by rw[Kl];congr 1;omega
   have hcl3:((List.map Sl W).drop (i+j+2)).length=W.length-(i+j+2):=by simp
   have hdl3:(W.drop (i+j+2)).length=W.length-(i+j+2):=by simp
   refine go tt [.T,.x hgy,.r 39 (eI (b:=((i+j+2:Nat):Int)) (by simp)),.i (i+j+2)] rfl (by simp[Ge];exact⟨by omega,λ_ _=>rfl,by omega⟩) ?_;refine lp (S:=Nat) 4 (λL1 k=>(42,.v (.oi k))::(8,.v (.oi ((((YZ W x y i j k).filter E).length:Nat):Int)))::L1) (λ_=>[.gone,BY t,GZ x,GZ y]) (λk=>W.length-(i+j+2)-k) (λk=>k<=W.length-(i+j+2)/\l.take ((YZ W x y i j k).filter E).length=((YZ W x y i j k).filter E).map TB) 0 ⟨Qh _,by rw[VR];exact k2⟩ rfl (λ_ _=>rfl) (by rw[VR];rfl) λk ⟨hk,k3⟩=>?_
   have Ee:((YZ W x y i j k).filter E).length<=20:=Qe (X4 _ _) (Qb3 (by omega) hx hy);by_cases h'':k<W.length-(i+j+2)
   ·obtain⟨z,hz⟩:=gxE (l:=(W.drop (i+j+2))) (i:=k) (by omega);have sz:=hWs z (Q9 (Qa hz));have hgz:((List.map Sl W).drop (i+j+2))[k]? = some (Sl z):=by rw[<-Y5];exact Tk hz
    have hnx:=IS (W:=W) (x:=x) (y:=y) (i:=i) (j:=j) (k:=k) (z:=z) (by rw[hdd];exact hz);have ce:=qN sx sy sz hWs (by omega) ht;rw[show qJ (Hb t) (W.map Pt.nrm) (x.nrm,y.nrm,z.nrm)=E (x,y,z) by rw[hE];rfl]at ce;cases hb:E (x,y,z)with
    |false =>
     rw[hb]at ce;have e:(YZ W x y i j (k+1)).filter E=(YZ W x y i j k).filter E:=by rw[hnx,J7];simp[hb]
     refine go tt [.T,.x hgz,.k ce,.t rfl] rfl (by simp[Ge] <;> omega) ?_;exact rd (k+1) (by omega) ⟨by omega,by rw[e];exact k3⟩ (by rw[e];rfl)
    |
     true =>
     rw[hb]at ce;have e:(YZ W x y i j (k+1)).filter E=(YZ W x y i j k).filter E++[(x,y,z)]:=by rw[hnx,J7];simp[hb]
     obtain⟨r,hr⟩:∃r,T=(YZ W x y i j k).filter E++[(x,y,z)]++r:=by
      obtain⟨r,hr⟩:=wU (k:=k+1) hx hy;exact⟨r.filter E,by rw[hT,hr,J7,e]⟩
     obtain⟨F,hF⟩:=nmE ((YZ W x y i j k).filter E);rw[<-hF]at Ee k3 e hr ⊢;by_cases hnl:F.length<l.length
     ·obtain⟨m,hm⟩:=gxE (l:=l) (i:=F.length) hnl;by_cases hmm:m=TB (x,y,z)
      ·have hmm':=hmm;subst hmm;refine go tt [.T,.x hgz,.k ce,.f rfl,.g 57 false Fp,.x (TY hm),.f (by simp)] rfl (by simp[Ge] <;> omega) ?_;exact rd (k+1) (by omega) ⟨by omega,by rw[e,Q6,X5];exact pC k3 rfl hm rfl⟩ (by rw[e,Q6];rfl)
      ·rw[pre hr k3 λh=>hmm (by rw[hm]at h;exact Option.some.inj h)];obtain⟨m1,m2,m3⟩:=m;exact Fj [] [0] [.T,.x hgz,.k ce,.f rfl,.g 57 false Fp,.x (TY hm),.t (by simpa using Qms hmm)] rfl (by simp[Ge] <;> omega)
     ·rw[pre hr k3 λh=>by rw[Qt (by omega)]at h;cases h];exact Fj [] [0] [.T,.x hgz,.k ce,.f rfl,.g 57 true Fq,.t rfl] rfl (by simp[Ge] <;> omega)
   have e:=wW (x:=x) (k:=k) hy (by rw[hdd,hdl3];omega);rw[e]at k3 ⊢;refine go tt [.F] rfl (by simp[Ge] <;> omega) ?_;exact rd (j+1) (by omega) ⟨by omega,k3⟩ rfl
  have e:=wK (j:=j) hx (by omega);rw[e]at k2 ⊢;refine go tt [.F] rfl (by simp[Ge] <;> omega) ?_;exact rd (i+1) (by omega) ⟨h,k2⟩ rfl
 have e:=uN (W:=W) (i:=i) (by omega);rw[e,<-hT]at k1 ⊢;have hres:decide (((T.length:Nat):Int)=((Ef l).length:Int))=decide (l=T.map TB):=by
  rw[htl];by_cases hle:T.length=l.length
  ·rw[decide_eq_true (by omega),decide_eq_true];rw[hle,Za]at k1;exact k1
  ·rw[decide_eq_false (by omega),decide_eq_false];intro e;apply hle;rw[e,Q4]
 rw[<-hres];exact Fj [] [0] [.F] rfl
section
variable{O:List Pt}{t:Tm}(h:Rt O)(hv:Va t)
include h hv
theorem Qx2{is:Ft}(hl:is.length<=1000000):Cf prog 22 [.agg (ta t),.one (.orow 0 1 none),.one (pts O)] [.row false 3 1 (Mx is)] [.one (.bool (decide (is=Qf1 O t)))] [.gone]:=by
 have:=Qg1 h.s (by have:=h.n;omega) hv hl;rwa[KX (sT h hv)]at this
theorem Qx1{is:Ft}(hl:is.length<=1000000):Cf prog 23 [.agg (ta t),.one (.orow 0 1 none),.one (pts O)] [.row false 3 1 (Mx is)] [.one (.bool (decide (is=Qf0 O t)))] [.gone]:=by
 have:=Qg0 h.s (by have:=h.n;omega) hl hv;rwa[KX (sX h hv)]at this
theorem Qx3{l:List T3}(hl:l.length<=1000000):Cf prog 24 [.agg (ta t),.one (.orow 0 3 none),.one (pts O)] [.row false 79 3 (Ef l)] [.one (.bool (decide (l=Qf2 O t)))] [.gone]:=by
 have:=Qg2 h.s (by have:=h.n;omega) hl hv;rwa[sN h]at this
end
def swp(L:Ft)(j:Nat):Ft:=(L.set j (L.getD (j+1) 0)).set (j+1) (L.getD j 0)
theorem Qvz{L:Ft}(nd:L.Pairwise λx y=>x≠y){j:Nat}(h:j+1<L.length):swp L j≠L:=λe=>by
 have h1:(swp L j)[j]? = some (L.getD (j+1) 0):=by
  unfold swp;rw[Yq (by omega),Jq (by omega)]
 rw[e]at h1;have h2:L[j]? = some L[j]:=Qg (by omega);have h3:L[j+1]? = some L[j+1]:=Qg h;rw[h2,Qc,h3]at h1;exact Xh.1 nd j (j+1) (by omega) h (by omega) (Option.some.inj h1)
theorem vP{α:Type}{L:List α}(h:0<L.length):L.drop 1≠L:=λe=>by
 have:=congrArg List.length e;rw[Xz]at this;omega
theorem uR{α:Type}{L:List α}{x:α}:L++[x]≠L:=λe=>by
 have:=congrArg List.length e;simp at this
abbrev wrB(O:List Pt)(x:Tm)(C:Fu)(L W H P:Ft)(M:List T3):Ga:=[.gone,.gone,.blk 36 (ax x.p C x.lo x.hi),.blk 59 (ta x),.blk 65 [ids L,ids W,ids H,ids P,.row (Ef M)]]
set_option maxHeartbeats 8000000 in
theorem qX{zs:List RawPt}{c:Ft}{k i:Int}(hz:∀z∈zs,z.Ok)(hc:∀z∈c,-9223372036854775808≤z/\z≤9223372036854775807)(hk:-9223372036854775808≤k/\k≤9223372036854775807)(hi:-9223372036854775808≤i/\i≤9223372036854775807):Fo 5 [.one (.row (jO zs)),.one (.row (Mx c)),.oi k,.oi i] [.one (.bool true)]:=by
 have cp:=Qde hz;have rt:=Qvp (zs:=zs);obtain⟨O,hO⟩:=nmE (OX 4 20 zs);rw[<-hO]at cp rt;have ho4:=rt.n;have Ee:=Su O;have hil:(Mx c).length=c.length:=by simp[Mx]
 refine Sk func5 rfl (ln 1 rfl rfl λh1=>?_);by_cases h2:O.length<2
 ·exact Fh [.c [0,1] cp,.T,.k SH] rfl
 obtain⟨x,C,pk,cx⟩:=Qts hc hk (by omega);obtain⟨an,ca⟩:=Qtc rt pk;have oL:=λ{is:Ft} (hl:is.length<=1000000)=>Qx2 rt pk.va hl
 have oH:=λ{is:Ft} (hl:is.length<=1000000)=>Qx1 rt pk.va hl
 have oM:=λ{l:List T3} (hl:l.length<=1000000)=>Qx3 rt pk.va hl
 generalize Qf1 O x=L at *;generalize Qn0 O x=W at *;generalize Qf0 O x=H at *;generalize Qnz O x=P at *;generalize Qf2 O x=M at *;have hLn:=an.ln;have hLl:(Mx L).length=L.length:=by simp[Mx]
 have hHl:(Mx H).length=H.length:=by simp[Mx]
 have hMl:=VL M;have hHn:=an.hn;have hMn:=an.mn;obtain⟨w_,eW⟩:=an.w1 (by omega);obtain⟨a,b,eP⟩:=an.p1 (by omega);subst eW eP;have wb:=MN (v:=i) (n:=(O.length:Int)-1) (by omega);obtain⟨j,hj⟩:∃j:Nat,Er i ((O.length:Int)-1)=(j:Int):=⟨(Er i ((O.length:Int)-1)).toNat,by omega⟩;have cw:=Ex (v:=i) (n:=(O.length:Int)-1) hi (by omega);rw[hj]at cw;have cC:=gK (l:=L) (by omega);obtain⟨x0,hx0⟩:=gxE (l:=L) (i:=j) (by omega);obtain⟨x1,hx1⟩:=gxE (l:=L) (i:=j+1) (by omega);refine Fg [.c [0,1] cp,.F,.k cx,.k pk.to,.p 1,.k ca,.r 39 (eI (b:=(O.length:Int)) (by rw[Q4];omega))] rfl ?_;refine pb 0 rfl rfl ?_;refine go tt [.k cw,.c [5] cC,.r 51 (eI (b:=((j+1:Nat):Int)) (by omega)),.r 54 (eI (b:=((j+1:Nat):Int)) (by omega)),.i (j+1),.x (YI hx1),.i j,.x (YI hx0),.i j,.i (j+1)] rfl (by simp[Ge] <;> omega) ?_;have es:((Mx L).set j [.int .i64 x1]).set (j+1) [.int .i64 x0]=Mx (swp L j):=by
  unfold swp;rw[Qc,Qc,hx0,hx1];simp[Mx,V1]
 rw[es];have hsn:swp L j≠L:=Qvz an.nd (by omega);have hsl:(swp L j).length=L.length:=by simp[swp]
 refine sb [(9,.v (.one (.row (Hy O)))),(12,.v (.one (.ow 3 0))),(13,.v (.one (.ow 4 0))),(16,.v (.one (.orow 5 1 none)))] [.gone,.gone,.blk 36 (ax x.p C x.lo x.hi),.blk 59 (ta x),.blk 65 [ids L,ids [w_],ids H,ids [a,b],.row (Ef M)],.row false 3 1 (Mx (swp L j))] rfl rfl ?_;obtain⟨l0,hl0⟩:=gxE (l:=L) (i:=0) (by omega);have q1:=oL (is:=swp L j) (by omega);rw[decide_eq_false hsn]at q1;have q2:=an.aL (L.drop 1) (by rw[Xz];omega);rw[decide_eq_false (vP (by omega))]at q2;have q3:=oL (is:=L++[l0]) (by simp;omega);rw[decide_eq_false uR,show Mx (L++[l0])=Mx L++[[.int .i64 l0]] by simp[Mx]]at q3;have d1:(Mx L).drop 1=Mx (L.drop 1):=by simp[Mx,Y5]
 refine go tt [.c [5] q1,.g 67 false rfl,.i 1,.r 71 (eG d1),.k q2,.g 75 false rfl,.c [6] cC,.x (i:=0) (YI hl0),.s (sz:=1) (l:=[[.int .i64 l0]]) (λy hy=>by rw[Qo.1 hy];rfl),.c [6] q3,.f rfl] rfl (by simp[Ge,hLl,hHl,hMl];refine⟨by omega,?_,by omega⟩;intros;rfl) ?_;have one5:∀z:Int,∀y∈[[LV.int .i64 z]],y.length=1:=λz y hy=>by rw[Qo.1 hy];rfl
 refine Fl (S:=Nat) 7 (λL1 n=>(91,.v (.oi n))::L1) (λ_=>wrB O x C L [w_] H [a,b] M++[.gone,.gone]) (λn=>O.length-n) (λn=>n<=O.length) 0 (Qh _) rfl rfl λn hn=>?_
 by_cases hn1:n<O.length
 ·obtain⟨p,hp⟩:=gxE (l:=O) (i:=n) hn1;have q4:=an.aW p.id;have e:decide ([w_]=[p.id])=decide (p.id=w_):=by
   rw[Y9,decide_eq_true_eq,decide_eq_true_eq];exact⟨λh=>by injection h with h;exact h.symm,λh=>by rw[h]⟩
  rw[e]at q4;refine go tt [.T,.x (Hg hp),.k q4,.x (Hg hp),.x (l:=Mx [w_]) (i:=0) (xs:=[.int .i64 w_]) rfl,.f (by simp)] rfl (by simp[Ge] <;> omega) ?_;exact rd (n+1) (by omega) hn1 rfl
 obtain⟨h0,hh0⟩:=gxE (l:=H) (i:=0) (an.h1 (by omega));have cH:=gK (l:=H) (by omega);have q5:=an.aH (H.drop 1) (by rw[Xz];omega);rw[decide_eq_false (vP (an.h1 (by omega)))]at q5;have q6:=oH (is:=H++[h0]) (by simp;omega);rw[decide_eq_false uR,show Mx (H++[h0])=Mx H++[[.int .i64 h0]] by simp[Mx]]at q6;have d2:(Mx H).drop 1=Mx (H.drop 1):=by simp[Mx,Y5]
 refine go tt [.F,.i 1,.r 117 (eG d2),.k q5,.g 120 false rfl,.c [7] cH,.x (i:=0) (YI hh0),.s (sz:=1) (l:=[[.int .i64 h0]]) (one5 _),.c [7] q6,.f rfl] rfl (by simp[Ge,hLl,hHl,hMl];have:=an.h1 (by omega);refine⟨by omega,?_,by omega⟩;intros;rfl) ?_;refine Fl (S:=Nat) 8 (λL1 n=>(136,.v (.oi n))::L1) (λ_=>wrB O x C L [w_] H [a,b] M++[.gone,.gone,.gone]) (λn=>O.length-n) (λn=>n<=O.length) 0 (Qh _) rfl rfl λn hn=>?_
 by_cases hn1:n<O.length
 ·obtain⟨u,hu⟩:=gxE (l:=O) (i:=n) hn1;refine go tt [.T] rfl (by simp[Ge] <;> omega) ?_;refine Fl (S:=Nat) 8 (λL1 m=>(141,.v (.oi m))::L1) (λ_=>wrB O x C L [w_] H [a,b] M++[.gone,.gone,.gone]) (λm=>O.length-m) (λm=>m<=O.length) 0 (Qh _) rfl rfl λm hm=>?_
  by_cases hm1:m<O.length
  ·obtain⟨v,hv⟩:=gxE (l:=O) (i:=m) hm1;have q7:=an.aP u.id v.id;by_cases hua:u.id=a
   ·have e:decide ([a,b]=[u.id,v.id])=decide (v.id=b):=by
     rw[Y9,decide_eq_true_eq,decide_eq_true_eq];exact⟨λh=>by injection h with _ h;injection h with h;exact h.symm,λh=>by rw[h,hua]⟩
    rw[e]at q7;refine go tt [.T,.x (Hg hu),.x (Hg hv),.k q7,.x (Hg hu),.x (l:=Mx [a,b]) (i:=0) (xs:=[.int .i64 a]) rfl,.g 167 true (decide_eq_true hua),.x (Hg hv),.x (l:=Mx [a,b]) (i:=1) (xs:=[.int .i64 b]) rfl,.f (by simp)] rfl (by simp[Ge] <;> omega) ?_;exact rd (m+1) (by omega) hm1 rfl
   ·rw[decide_eq_false λh=>hua (by injection h with h _;exact h.symm)]at q7;refine go tt [.T,.x (Hg hu),.x (Hg hv),.k q7,.x (Hg hu),.x (l:=Mx [a,b]) (i:=0) (xs:=[.int .i64 a]) rfl,.g 167 false (decide_eq_false hua),.f (by simp)] rfl (by simp[Ge] <;> omega) ?_;exact rd (m+1) (by omega) hm1 rfl
  ·refine go tt [.F] rfl (by simp[Ge] <;> omega) ?_;exact rd (n+1) (by omega) hn1 rfl
 obtain⟨p0,hp0⟩:=gxE (l:=O) (i:=0) (by omega);obtain⟨p1,hp1⟩:=gxE (l:=O) (i:=1) (by omega);have cM:=Qgh (l:=M) (by omega);have q9:=oM (l:=M++[(p0.id,p1.id,2000)]) (by simp;omega);rw[decide_eq_false uR,show Ef (M++[(p0.id,p1.id,2000)])=Ef M++[[.int .i64 p0.id,.int .i64 p1.id,.int .i64 2000]] by simp[Ef]]at q9;have s3:∀y∈[[LV.int .i64 p0.id,.int .i64 p1.id,.int .i64 2000]],y.length=3:=λy hy=>by rw[Qo.1 hy];rfl
 by_cases hM0:0<M.length
 ·have q8:=an.aM (M.drop 1) (by rw[Xz];omega);rw[decide_eq_false (vP hM0)]at q8;have d3:(Ef M).drop 1=Ef (M.drop 1):=by simp[Ef,Y5]
  exact Fh [.F,.g 186 true Fq,.i 1,.r 190 (eG d3),.k q8,.f rfl,.c [8] cM,.x (Hg hp0),.x (Hg hp1),.s (sz:=3) (l:=[[.int .i64 p0.id,.int .i64 p1.id,.int .i64 2000]]) s3,.c [8] q9,.g 212 true rfl,.k SH] rfl rfl (by simp[Ge,hLl,hHl,hMl];exact⟨by omega,by omega,OD M⟩)
 ·exact Fh [.F,.g 186 false Fp,.f rfl,.c [8] cM,.x (Hg hp0),.x (Hg hp1),.s (sz:=3) (l:=[[.int .i64 p0.id,.int .i64 p1.id,.int .i64 2000]]) s3,.c [8] q9,.g 212 true rfl,.k SH] rfl rfl (by simp[Ge] <;> omega)
end Orr
namespace Orr
open Go Go.Proofs Tryz
variable{H:Type}{enc:TypeId×Value->H}{w:World}{base:Nat}{spare:Nat->Bool}{held:Bool}
theorem Iv{α:Type}{l:List α}{n i:Nat}(h:l.length=n)(hi:i<n):∃x,l[i]? = some x:=⟨l[i]'(by omega),Qg (by omega)⟩
end Orr
namespace Orr
open Go Go.Proofs Tryz Go.ChangeShapes Go.WideShapes Go.ChangeAt Go.RowKit Go.WideElems
theorem Qok{w:World}{a:Addr}{v:Value}(h:w.cell? a=some v):a.spot=none/\a.block<w.heap.size:=by
 simp only[World.cell?]at h
 split at h
 ·rename_i c t fr hc
  split at h
  ·cases h
  ·rename_i hs;refine⟨by cases e:a.spot with|none=>rfl|some _=>simp[e]at hs,?_⟩;exact(Array.getElem?_eq_some_iff.1 hc).1
 ·cases h
theorem Qnu{a:Addr}(h:a.spot=none)(n m:Nat):(a.add n).add m=⟨a.block,a.off+n+m,none⟩:=by
 obtain⟨b,o,s⟩:=a;simp only at h;subst h;simp only[Addr.add]
 split
 ·rename_i h;subst h
  split
  ·rename_i h;subst h;simp
  ·simp
 ·split
  ·rename_i h;subst h;simp
  ·simp
def fr0(w:World):Fr:=⟨λb=>b<w.heap.size,λ_=>False,w,λ_=>False,λ_=>none⟩
theorem CY(w:World):HS (fr0 w) (ob []) (nw []) (λ_=>none) (λ_=>False) w where
 size:=Qn _
 kept:=λb hb=>⟨hb,rfl,Iff.rfl⟩
 ids:=λi h=>h.elim
 nj:=λi h=>by rw[wX]at h;cases h
 io:=⟨rfl,rfl⟩
 blk:=λi=>by rw[wX];trivial
 nk:=λi g c m h _=>by rw[wX]at h;cases h
 inj:=λi j g c m c' m' h _ _ _=>by rw[wX]at h;cases h
 mlt:=λb h=>h.elim
 m0:=λb _ h=>h.elim
 un:=λi _=>⟨rfl,rfl⟩
 uj:=λi _ h=>h.elim
theorem Qq0{w w':World}{bl:Nat->OB}{U:Nat->Prop}{E:Lf}{M:Nat->Prop}(h:HS (fr0 w) bl U E M w'){p:MemPlace}(hp:p.block<w.heap.size):w.sameAt w' p:=by
 cases p with
 |cell b off=>simp only[World.sameAt,World.cell?];rw[(h.kept b hp).2.1];rfl
 |map b=>exact(h.kept b hp).2.1
theorem Qpj{w w':World}{bl:Nat->OB}{U:Nat->Prop}{E:Lf}{M:Nat->Prop}(h:HS (fr0 w) bl U E M w')(may:MemPlace->Prop):w.keptBut w' may:=by
 refine⟨h.io.1,h.io.2,λi hi=>?_⟩;have e:w'.heap[i]? = w.heap[i]? := (h.kept i hi).2.1;rw[e];cases w.heap[i]? with
 |none=>rfl
 |some o=>cases o <;> simp
theorem VI{H:Type}{P:Program}{e:TypeId}:∀{l:List (DataW H)} {i:Nat} {d:DataW H},l[i]? = some d->∀n∈d.weights P e,n∈DataW.weightsAll P e l
 | [],i,d,h,_,_=>by simp at h
 |
  x::l,0,d,h,n,hn=>by
  simp at h;subst h;simp only[DataW.weightsAll,Qr];exact .inl hn
 |
  x::l,i+1,d,h,n,hn=>by
  simp only[DataW.weightsAll,Qr];exact .inr (VI (i:=i) (by simpa using h) n hn)
theorem QU{H:Type}{P:Program}{t:TypeId}{fs:Array Field}{parts:List (DataW H)}(hu:P.underlying t=some (.struct fs))(hz:((DataW.agg parts).weights P t).all (· <= reachBytes)=true){i:Nat}{f:Field}{d:DataW H}(hf:fs[i]? = some f)(hd:parts[i]? = some d) :
 (d.weights P f.type).all (· <= reachBytes)=true:=by
 rw[Jd]at hz ⊢;intro n hn;refine hz n ?_;simp only[DataW.weights,hu];exact DataW.weights_mem_each (j:=i) (by rw[Zb];simp[hf]) hd n hn
variable{H:Type}{enc:TypeId×Value->H}{w:World}
abbrev O0:Nat->Prop:=λ_=>False
def Els(w:World)(cs:List Value)(ls:Fy):Prop:=cs.length=ls.length/\∀(j:Nat) (u:LV),ls[j]? = some u->∃v,cs[j]? = some v/\LRep w O0 v u
theorem RR{α:Type}{rw_:α->Fy}{Ok:α->Prop}{t e sz:Nat}(hu:prog.underlying t=some (.slice e))(hc:prog.cellsOf e=sz)(hsz:0<sz)(hb:1<=prog.bytesOf e)(hw:∀z,(rw_ z).length=sz)
 (elem:∀fuel cs x,DataW.trod enc prog w 0 (λ_=>true) true fuel e cs=some x->(x.1.weights prog e).all (· <= reachBytes)=true->∃z,Ok z/\Els w cs (rw_ z))
 {fuel:Nat} {cs:List Value} {x:DataW H×List MemPlace} (h:DataW.trod enc prog w 0 (λ_=>true) true fuel t cs=some x) (hz:(x.1.weights prog t).all (· <= reachBytes)=true) :
 ∃(v:Value) (l:List α),cs=[v]/\(∀z∈l,Ok z)/\l.length<2^47/\LRep w O0 v (.row (l.map rw_)):=by
 rcases Go.Deep.open_slice hu h with⟨rfl,_⟩|⟨a',len,cap,m,n,D,Pl,rfl,_,hlc,hcap,hm,rfl,hr⟩
 ·refine⟨_,[],rfl,by simp,Nat.two_pow_pos 47,?_⟩;exact LRep.row none 0 0 0 0 [] (λ_ _=>.bool true) (Qn _) (by decide) (by simp) (by simp) (by simp) (by simp)
 ·simp only[if_true]at hm;subst hm;rw[Jd]at hz;have hlen:len<2^47:=by
   have h0:=hz ((len+(m-len))*prog.bytesOf e) (by simp[DataW.weights,hu]);have h1:len<=(len+(m-len))*prog.bytesOf e:=by
    have:=Xl (V2 len (m-len)) hb;omega
   have h2:(len+(m-len))*prog.bytesOf e<=reachBytes:=by simpa using h0
   exact Xj (Qe h1 h2) reachBytes_lt
  have hel:∀i,i<len->((D i).weights prog e).all (· <= reachBytes)=true:=λi hi=>by
   rw[Jd];intro k hk;refine hz k ?_;simp only[DataW.weights,hu];refine Qi _ (Qr.2 (.inl (VI (i:=i) ?_ k hk)));rw[Zb,Jn hi];rfl
  have hone:∀i,i<len->∃z cs',Ok z/\Els w cs' (rw_ z)/\∀j,j<sz->w.cell? ((a'.add (i*sz)).add j)=cs'[j]? := λi hi=>by
   obtain⟨cs',hcs,htr⟩:=hr i (by omega);rw[hc]at hcs;obtain⟨_,hl,hcell⟩:=World.cells?_some hcs;obtain⟨z,hz1,hz2⟩:=elem _ _ _ htr (hel i hi);refine⟨z,cs',hz1,hz2,λj hj=>?_⟩;rw[hcell j (by omega)]
  have hspot:0<len->a'.spot=none/\a'.block<w.heap.size:=λh0=>by
   obtain⟨z,cs',_,⟨hl,_⟩,h3⟩:=hone 0 h0;have h4:=h3 0 hsz;have:(a'.add (0*sz)).add 0=a':=by simp[Addr.add]
   rw[this,Qg (by rw[hl,hw];exact hsz)]at h4;exact Qok h4
  obtain⟨l,hll,hl⟩:∃l:List α,l.length=len/\∀i z,l[i]? = some z->Ok z/\∃cs',Els w cs' (rw_ z)/\∀j,j<sz->w.cell? ((a'.add (i*sz)).add j)=cs'[j]? := by
   have:∀k,k<=len->∃l:List α,l.length=k/\∀i z,l[i]? = some z->Ok z/\∃cs',Els w cs' (rw_ z)/\∀j,j<sz->w.cell? ((a'.add (i*sz)).add j)=cs'[j]? := by
    intro k
    induction k with
    |zero=>intro _;exact⟨[],rfl,λi z h=>by simp at h⟩
    |
     succ k ih =>
     intro hk;obtain⟨l,h1,h2⟩:=ih (by omega);obtain⟨z,cs',h3,h4,h5⟩:=hone k (by omega);refine⟨l++[z],by simp[h1],λi y hy=>?_⟩;rcases Q8 i l.length with hi|hi
     ·rw[Q3 hi]at hy;exact h2 i y hy
     ·rw[Zk hi]at hy;have:i-l.length=0:=by
       rcases Qx (i-l.length)with h|h
       ·exact h
       ·rw[Qt (by rw[X5];exact h)]at hy;cases hy
      rw[this]at hy;simp at hy;subst hy;have:i=k:=by omega
      subst this;exact⟨h3,cs',h4,h5⟩
   exact this len (Qn _)
  refine⟨_,l,rfl,λz hz=>?_,by rw[hll];exact hlen,?_⟩
  ·obtain⟨i,hi⟩:=Zp.1 hz;exact(hl i z hi).1
  ·have key:LRep w O0 (.slice (some a') (l.map rw_).length m) (.row (l.map rw_)):=by
    have hgl:∀i c,(l.map rw_)[i]? = some c->∃z,l[i]? = some z/\c=rw_ z/\i<len:=λi c h=>by
     rw[Zb]at h;cases e:l[i]? with
     |none=>rw[e]at h;cases h
     |some z=>rw[e]at h;simp at h;exact⟨z,rfl,h.symm,by have:=(Qd.1 e).1;omega⟩
    have hcl:∀i c,(l.map rw_)[i]? = some c->∃cs':List Value,Els w cs' c/\∀j,j<sz->w.cell? ⟨a'.block,a'.off+i*sz+j,none⟩=cs'[j]? := λi c h=>by
     obtain⟨z,hz,rfl,hi⟩:=hgl i c h;obtain⟨_,cs',h1,h2⟩:=hl i z hz;refine⟨cs',h1,λj hj=>?_⟩;rw[<-h2 j hj,Qnu (hspot (by omega)).1]
    refine LRep.row (some a') m sz a'.block a'.off (l.map rw_) (λi j=>(w.cell? ⟨a'.block,a'.off+i*sz+j,none⟩).getD (.bool true)) (by rw[Q4];omega) ?_ ?_ ?_ ?_ ?_
    ·have:maxLen=2^63-1:=by rfl
     omega
    ·intro c hc2;obtain⟨z,_,rfl⟩:=Zd.1 hc2;exact hw z
    ·intro h0;rw[Q4,hll]at h0;obtain⟨hs,hb⟩:=hspot h0;refine⟨?_,hb,by simp[O0]⟩;obtain⟨b,o,s⟩:=a';simp only at hs;rw[hs]
    ·intro i c hi j hj;obtain⟨z,_,rfl,_⟩:=hgl i c hi;obtain⟨cs',⟨h1,_⟩,h2⟩:=hcl i _ hi;have hjs:j<sz:=by rw[<-hw z];exact hj
     rw[h2 j hjs,Qg (by rw[h1];exact hj)];rfl
    ·intro i c hi j u hu2;obtain⟨z,_,rfl,_⟩:=hgl i c hi;obtain⟨cs',⟨h1,h3⟩,h2⟩:=hcl i _ hi;obtain⟨v,hv,hr2⟩:=h3 j u hu2;have hjs:j<sz:=by rw[<-hw z];exact(Qd.1 hu2).1
     show LRep w O0 ((w.cell? ⟨a'.block,a'.off+i*sz+j,none⟩).getD (.bool true)) u;rw[h2 j hjs,hv];exact hr2
   rw[Q4,hll]at key;exact key
abbrev Qyo(x:Nat):Fy:=[.int .u32 (x:Int)]
theorem Qmx:∀fuel cs x,DataW.trod enc prog w 0 (λ_=>true) true fuel 222 cs=some x->(x.1.weights prog 222).all (· <= reachBytes)=true->∃z:Nat,z<4294967296/\Els w cs (Qyo z):=by
 intro fuel cs x h _;obtain⟨n,rfl,_,hwf⟩:=DataW.trod_int underlying222 h;have hn:0<=n/\n<4294967296:=by
  have:0<=n/\n<=4294967295:=by simpa[Lit.wf,IntKind.min,IntKind.max,IntKind.signed,IntKind.bits]using hwf
  omega
 refine⟨n.toNat,by omega,rfl,λj u hu=>?_⟩
 match j,hu with
 |
  0,hu =>
  simp at hu;subst hu;refine⟨_,rfl,?_⟩;rw[show max n 0=n by omega];exact .int _ _
 |j+1,hu=>simp at hu
set_option maxRecDepth 20000 in
theorem AP:∀fuel cs x,DataW.trod enc prog w 0 (λ_=>true) true fuel 55 cs=some x->(x.1.weights prog 55).all (· <= reachBytes)=true->∃z:RawInt,z.Ok/\Els w cs (MY z):=by
 intro fuel cs x h hz;obtain⟨xs,n,_,rfl,hl,hxs,hf⟩:=DataW.trod_struct underlying55 h;have hl:cs.length=2:=hl
 match cs,hl with
 |
  [v0,v1],_ =>
  obtain⟨z0,hz0⟩:=Iv (i:=0) hxs (by decide);obtain⟨z1,hz1⟩:=Iv (i:=1) hxs (by decide);have h0:=hf 0 _ rfl;have h1:=hf 1 _ rfl;rw[hz0]at h0;rw[hz1]at h1;obtain⟨b,e0,_⟩:=DataW.trod_bool underlying4 h0;have f0:v0=.bool b:=(List.cons.inj (show [v0]=[Value.bool b] from e0)).1;have hw1:=QU underlying55 hz (i:=1) rfl (d:=z1.1) (by rw[Zb,hz1];rfl);obtain⟨v,l,e1,hlo,_,hrep⟩:=RR (sz:=1) (Ok:=λu:Nat=>u<4294967296) (rw_:=Qyo) underlying53 (by kernel_rfl) (by decide) (of_decide_eq_true (by kernel_rfl)) (λ_=>rfl) Qmx h1 hw1;have f1:v1=v:=(List.cons.inj (show [v1]=[v] from e1)).1;subst f0 f1;refine⟨⟨b,l⟩,⟨hlo⟩,rfl,λj u hu=>?_⟩
  match j,hu with
  | 0,hu=>simp at hu;subst hu;exact⟨_,rfl,.bool _⟩
  | 1,hu=>simp at hu;subst hu;exact⟨_,rfl,hrep⟩
  |j+2,hu=>simp at hu
set_option maxRecDepth 20000 in
theorem lC:∀fuel cs x,DataW.trod enc prog w 0 (λ_=>true) true fuel 76 cs=some x->(x.1.weights prog 76).all (· <= reachBytes)=true->∃z:RawPt,z.Ok/\Els w cs (rwq z):=by
 intro fuel cs x h hz;obtain⟨xs,n,_,rfl,hl,hxs,hf⟩:=DataW.trod_struct underlying76 h;have hl:cs.length=5:=hl
 match cs,hl with
 |
  [v0,v1,v2,v3,v4],_ =>
  obtain⟨z0,hz0⟩:=Iv (i:=0) hxs (by decide);obtain⟨z1,hz1⟩:=Iv (i:=1) hxs (by decide);have h0:=hf 0 _ rfl;have h1:=hf 1 _ rfl;rw[hz0]at h0;rw[hz1]at h1;obtain⟨id,e4,_,hwf⟩:=DataW.trod_int underlying3 h1;have f4:v4=.int .i64 id:=(List.cons.inj (show [v4]=[Value.int .i64 id] from e4)).1;have hw0:=QU underlying76 hz (i:=0) rfl (d:=z0.1) (by rw[Zb,hz0];rfl);obtain⟨ys,n2,_,e5,_,hys,hg⟩:=DataW.trod_struct underlying74 h0;rw[e5]at hw0;obtain⟨y0,hy0⟩:=Iv (i:=0) hys (by decide);obtain⟨y1,hy1⟩:=Iv (i:=1) hys (by decide);obtain⟨y2,hy2⟩:=Iv (i:=2) hys (by decide);have g0:=hg 0 _ rfl;have g1:=hg 1 _ rfl;have g2:=hg 2 _ rfl;rw[hy0]at g0;rw[hy1]at g1;rw[hy2]at g2;have w0:=QU underlying74 hw0 (i:=0) rfl (d:=y0.1) (by rw[Zb,hy0];rfl);have w1:=QU underlying74 hw0 (i:=1) rfl (d:=y1.1) (by rw[Zb,hy1];rfl);have w2:=QU underlying74 hw0 (i:=2) rfl (d:=y2.1) (by rw[Zb,hy2];rfl);obtain⟨u0,lx,e0,hx,_,rx⟩:=RR (sz:=2) (Ok:=RawInt.Ok) (rw_:=MY) underlying52 (by kernel_rfl) (by decide) (of_decide_eq_true (by kernel_rfl)) (λ_=>rfl) AP g0 w0;obtain⟨u1,ly,e1,hy,_,ry⟩:=RR (sz:=2) (Ok:=RawInt.Ok) (rw_:=MY) underlying52 (by kernel_rfl) (by decide) (of_decide_eq_true (by kernel_rfl)) (λ_=>rfl) AP g1 w1;obtain⟨d,hd,hde⟩:=AP _ _ _ g2 w2;have f0:v0=u0:=(List.cons.inj (show [v0]=[u0] from e0)).1;have f1:v1=u1:=(List.cons.inj (show [v1]=[u1] from e1)).1;have hde2:Els w [v2,v3] (MY d):=hde;subst f0 f1 f4;obtain⟨q2,hq2,r2⟩:=hde2.2 0 _ rfl;obtain⟨q3,hq3,r3⟩:=hde2.2 1 _ rfl;simp at hq2 hq3;subst hq2 hq3;refine⟨⟨lx,ly,d,id⟩,⟨hx,hy,hd,by simpa[Lit.wf,IntKind.min,IntKind.max,IntKind.signed,IntKind.bits]using hwf⟩,rfl,λj u hu=>?_⟩
  match j,hu with
  | 0,hu=>simp[rwq]at hu;subst hu;exact⟨_,rfl,rx⟩
  | 1,hu=>simp[rwq]at hu;subst hu;exact⟨_,rfl,ry⟩
  | 2,hu=>simp[rwq]at hu;subst hu;exact⟨_,rfl,r2⟩
  | 3,hu=>simp[rwq]at hu;subst hu;exact⟨_,rfl,r3⟩
  | 4,hu=>simp[rwq]at hu;subst hu;exact⟨_,rfl,.int _ _⟩
  |j+5,hu=>simp[rwq]at hu
end Orr
namespace Orr
open Go Go.Proofs Tryz Go.ChangeShapes Go.WideShapes Go.ChangeAt Go.RowKit Go.WideElems
variable{H:Type}{enc:TypeId×Value->H}{w:World}
theorem Qjk:∀fuel cs x,DataW.trod enc prog w 0 (λ_=>true) true fuel 3 cs=some x->(x.1.weights prog 3).all (· <= reachBytes)=true->∃z:Int,(-9223372036854775808<=z/\z<=9223372036854775807)/\Els w cs [LV.int .i64 z]:=by
 intro fuel cs x h _;obtain⟨n,rfl,_,hwf⟩:=DataW.trod_int underlying3 h;refine⟨n,by simpa[Lit.wf,IntKind.min,IntKind.max,IntKind.signed,IntKind.bits]using hwf,rfl,λj u hu=>?_⟩
 match j,hu with
 |
  0,hu =>
  simp at hu;subst hu;exact⟨_,rfl,.int _ _⟩
 |j+1,hu=>simp at hu
end Orr
namespace Orr
open Go Go.Proofs Tryz Go.ChangeShapes Go.WideShapes Go.ChangeAt Go.RowKit Go.WideElems
set_option maxRecDepth 10000
def DF(t:TypeId)(R:TV->Prop):Prop:=∀{H:Type} {enc:TypeId×Value->H} {W:World} {base:Nat} {v:Value} {d:DataW H} {p:List MemPlace},Value.okWide prog W .any base t v->DataW.Trod enc prog W 0 (λ_=>true) true t v d p->(d.weights prog t).all (· <= reachBytes)=true->∃u,R u/\TRep W (λ_=>False) (λ_=>none) v u
section
variable{H:Type}{enc:TypeId×Value->H}{W W':World}{base:Nat}
theorem mJ:∀{ps:List (TypeId×(TV->Prop))} {args:List Value} {ds:List (DataW H)} {p:List MemPlace},DataW.TrodAll enc prog W 0 (λ_=>true) true (ps.map (·.1)) args ds p ->
 (∀(j:Nat) t v,(ps.map (·.1))[j]? = some t->args[j]? = some v->Value.okWide prog W .any base t v)->(∀(j:Nat) t d,(ps.map (·.1))[j]? = some t->ds[j]? = some d->(d.weights prog t).all (· ≤ reachBytes)=true)->(∀q∈ps,DF q.1 q.2) ->
 ∃us,F2 (λu (q:TypeId×(TV->Prop))=>q.2 u) us ps/\F2 (TRep W (λ_=>False) (λ_=>none)) args us/\ds.length=ps.length
 |
  [],args,ds,p,h,_,_,_=>by
  obtain⟨rfl,rfl,rfl⟩:=trodAll_nil h;exact⟨[],.nil,.nil,rfl⟩
 |
  q::ps,args,ds,p,h,hv,hw,hr=>by
  obtain⟨v,vs,d,ds',p1,p2,rfl,rfl,rfl,h1,h2⟩:=trodAll_cons h;obtain⟨u,r1,r2⟩:=hr q (Qw ..) (hv 0 q.1 v rfl rfl) h1 (hw 0 q.1 d rfl rfl);obtain⟨us,s1,s2,s3⟩:=mJ h2 (λj t v h h'=>hv (j+1) t v (by simpa using h) (by simpa using h')) (λj t d h h'=>hw (j+1) t d (by simpa using h) (by simpa using h')) λq hq=>hr q (Qi _ hq)
  exact⟨u::us,.cons r1 s1,.cons r2 s2,by simp[s3]⟩
theorem mD{sp':Nat->Bool}(hl:laidOutB prog=true):∀{ps:List (TypeId×(TV->Prop))} {args:List Value} {ds:List (DataW H)} {p:List MemPlace},DataW.TrodAll enc prog W 0 (λ_=>true) true (ps.map (·.1)) args ds p ->
 (∀q∈ps,prog.readableRec q.1=true/\q.1<prog.types.size)->(∀x∈p,W.sameAt W' x)->(∀x∈p,sp' x.block=true)->DataW.TrodAll enc prog W' 0 sp' true (ps.map (·.1)) args ds p
 |
  [],args,ds,p,h,_,_,_=>by
  obtain⟨rfl,rfl,rfl⟩:=trodAll_nil h;exact trodAll_mk0
 |
  q::ps,args,ds,p,h,hr,hs,hb=>by
  obtain⟨v,vs,d,ds',p1,p2,rfl,rfl,rfl,h1,h2⟩:=trodAll_cons h;obtain⟨r1,r2⟩:=hr q (Qw ..);exact trodAll_cons_mk (Trod_stays hl r1 r2 h1 (λx hx=>hs x (Qr.2 (.inl hx))) λx hx=>hb x (Qr.2 (.inl hx))) (mD hl h2 (λq hq=>hr q (Qi _ hq)) (λx hx=>hs x (Qr.2 (.inr hx))) λx hx=>hb x (Qr.2 (.inr hx)))
end
theorem Qju{ps:List (TypeId×(TV->Prop))}{f:FuncId}{fn:Func}{s:ChangeSpec}(hp:fn.params=(ps.map (·.1)).toArray)(hr:fn.resultTypes = #[4])(hv:s.vars=[])
 (hs:∀(H:Type) (ds:List (DataW H)),ds.length=ps.length->s.fn H ds={ results:=[.lit (.bool true)],args:=ds })
 (hlaid:laidOutB prog=true) (hrec:∀q∈ps,prog.readableRec q.1=true/\q.1<prog.types.size) (hrd:∀q∈ps,DF q.1 q.2)
 (law:∀us:Gb,F2 (λu (q:TypeId×(TV->Prop))=>q.2 u) us ps->yT prog f us [.one (.bool true)])
 {H:Type} {enc:TypeId×Value->H} {W:World} {base:Nat} {args:Array Value} {ds gs:List (DataW H)} {Rh:List MemPlace} {fresh handsOn:Bool}
 (hval:∀(j:Nat) t v,fn.params[j]? = some t->args[j]? = some v->Value.okWide prog W .any base t v)
 (hW:DataW.Whole enc prog fn.params.toList s.vars false W args.toList ds gs Rh)
 (hz:(DataW.weightsEach prog (fn.params.toList++s.plain.varTypes prog) (ds++gs)).all (· <= reachBytes)=true) :
 Calls prog f args W λe W'=>∃v,e=.returned v/\s.post enc prog fn false fresh handsOn false W args v W':=by
 have hW':=hW;obtain⟨p,q,hA0,hV,rfl,hfz,hnd⟩:=hW;have hA:DataW.TrodAll enc prog W 0 (λ_=>true) true fn.params.toList args.toList ds p:=hA0;rw[hv]at hV;obtain⟨rfl,rfl⟩:=trodVars_none hV;have hlt:=hW'.lt;rw[hp]at hA hval hz;have hA:DataW.TrodAll enc prog W 0 (λ_=>true) true (ps.map (·.1)) args.toList ds p:=by simpa using hA
 obtain⟨us,r1,r2,r3⟩:=mJ (base:=base) hA (λj t v h h'=>hval j t v (by simpa using h) (by simpa using h')) (λj t d h h'=>by
  rw[Jd]at hz ⊢;intro k hk;have hj:j<(ps.map (·.1)).length:=(Qd.1 h).1;have hj2:j<ds.length:=(Qd.1 h').1;exact hz k (DataW.weights_mem_each (j:=j) (by rw[Q3 (by simpa using hj)];simpa using h) (by rw[Q3 hj2];exact h') k hk)) hrd
 have hcall:=(law us r1).2 (fr0 W) (λ_=>none) (λ_=>False) W args.toList (CY W) r2;have ea:args.toList.toArray=args:=by simp
 rw[ea]at hcall;refine hcall.mono λe W' ⟨v,u,Bo,E',M',he,⟨hu,hBo⟩,_,hm,har⟩=>?_
 subst hu;obtain rfl:v=.bool true:=by
  have h:LRep _ _ v (.bool true):=har;cases h;rfl
 refine⟨_,he,?_⟩;refine⟨ds,[],_,[],p,[],hW',?_,?_,?_,Qpj hm _,λh=>by cases h⟩
 ·rw[hr,Xg,hs H ds r3];exact trodAll_cons_mk (shut_bool underlying4 true) trodAll_mk0
 ·rw[hp,Xg,hs H ds r3];have hb:∀x∈p,x.block<W.heap.size:=λx hx=>hlt x (by simp[hx])
  have:=mD (sp':=λb=>decide (b<W.heap.size)) hlaid hA hrec (λx hx=>Qq0 hm (hb x hx)) λx hx=>by simpa using hb x hx
  simpa using this
 ·rw[hv,Xg,hs H ds r3];rfl
abbrev Qs8(u:TV):Prop:=∃n:Int,(-9223372036854775808<=n/\n<=9223372036854775807)/\u=.oi n
abbrev Qwp(u:TV):Prop:=∃zs:List RawPt,(∀z∈zs,z.Ok)/\u=.one (.row (jO zs))
abbrev Qry(u:TV):Prop:=∃zs:Ft,(∀z∈zs,-9223372036854775808≤z/\z≤9223372036854775807)/\u=.one (.row (Mx zs))
theorem jP:DF 3 Qs8:=λ{H enc W base v d p} hv h _=>by
 obtain⟨n,rfl,rfl,rfl,w1⟩:=open_int underlying3 hv h;exact⟨_,⟨n,by simpa[Lit.wf,IntKind.min,IntKind.max,IntKind.signed,IntKind.bits]using w1,rfl⟩,show XRep W (λ_=>False) (λ_=>none) (.int .i64 n) (.int .i64 n) from(LRep.int .i64 n).x⟩
theorem jM{α:Type}{rw_:α->Fy}{Ok:α->Prop}{t e sz:Nat}(hu:prog.underlying t=some (.slice e))(hc:prog.cellsOf e=sz)(hsz:0<sz)(hb:1<=prog.bytesOf e)(hw:∀z,(rw_ z).length=sz)
 (elem:∀{H:Type} {enc:TypeId×Value->H} {w:World} fuel cs x,DataW.trod enc prog w 0 (λ_=>true) true fuel e cs=some x->(x.1.weights prog e).all (· ≤ reachBytes)=true->∃z,Ok z/\Els w cs (rw_ z)):DF t λu=>∃l:List α,(∀z∈l,Ok z)/\u=.one (.row (l.map rw_)):=λ{H enc W base v d p} hv h hz=>by
 obtain⟨a,len,cap,rfl⟩:=okWide_slice hu hv;obtain⟨fu,h⟩:=h;obtain⟨v,l,e0,hok,_,hrep⟩:=RR hu hc hsz hb hw (λfuel cs x h h'=>elem fuel cs x h h') h hz;have f0:Value.slice a len cap=v:=(List.cons.inj (show [Value.slice a len cap]=[v] from e0)).1;subst f0;exact⟨_,⟨l,hok,rfl⟩,show XRep W (λ_=>False) (λ_=>none) _ (.row (l.map rw_)) from hrep.x⟩
theorem Qey:DF 22 Qwp:=jM (sz:=5) (Ok:=RawPt.Ok) (rw_:=rwq) underlying22 (by kernel_rfl) (by decide) (of_decide_eq_true (by kernel_rfl)) (λ_=>rfl) λfuel cs x=>lC fuel cs x
theorem eR:DF 23 Qry:=jM (sz:=1) (Ok:=λz:Int=>-9223372036854775808<=z/\z<=9223372036854775807) (rw_:=λz:Int=>[LV.int .i64 z]) underlying23 (by kernel_rfl) (by decide) (of_decide_eq_true (by kernel_rfl)) (λ_=>rfl) λfuel cs x=>Qjk fuel cs x
end Orr
