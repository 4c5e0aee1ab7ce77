/- PW1 NewsN PW2 TouL TouQ MeshN EnL KT EnS SD1 En1 TW1 TW2 R15 R16 R17 R18 SC1 W1 W2 WR18 WS18 X19 MeshK H2 H3 MD1 MD2 MD3 MD4 MD5 MD6 -/
import Derived.Test.YthgaepodbpcjdaaGreatPart07
import Derived.Test.YthgaepodbpcjdaaGreatPart08
import Derived.Test.YthgaepodbpcjdaaGreatPart05
import Derived.Test.YthgaepodbpcjdaaGreatPart00
import Derived.Test.YthgaepodbpcjdaaGreatPart04
set_option linter.all false
namespace Orr
open Go Go.Proofs Tryz Orq
set_option maxRecDepth 10000
def JV:Nat->Ur->Ur
 | _,[]=>[]
 | 0,x::l=>FM x::l
 | k+1,x::l=>x::JV k l
theorem qP:∀ (k:Nat) (l:Ur),(JV k l).length=l.length
 | _,[]=>by cases ‹Nat› <;> rfl
 | 0,x::l=>rfl
 | k+1,x::l=>by simp only [JV,Q5,qP k l]
theorem qS:∀ (k:Nat) (l:Ur) {j:Nat} {y:LV},(JV k l)[j]? = some y->∃ x,l[j]? = some x/\(y=x\/y=FM x)
 | 0,[],_,_,h=>by simp [JV] at h
 | _+1,[],_,_,h=>by simp [JV] at h
 | 0,x::l,0,y,h=>by simp [JV] at h; exact ⟨x,rfl,.inr h.symm⟩
 | 0,x::l,j+1,y,h=>by simp [JV] at h; exact ⟨y,by simpa using h,.inl rfl⟩
 | k+1,x::l,0,y,h=>by simp [JV] at h; exact ⟨x,rfl,.inl h.symm⟩
 |
  k+1,x::l,j+1,y,h=>by
  simp only [JV,Ji] at h;obtain ⟨z,h1,h2⟩:=qS k l h;exact ⟨z,by simpa using h1,h2⟩
theorem nlc {P:Program} [Mo P] {n:Nat} {Q:Exit->Sg->Ut->Prop} {L:Sg} {B B':Ut} (i d:Nat) {T:TypeId} {xs:Ur} {it:List It} (hs:Rk it=true) (hb:A8 B i=some (.blk T xs)) (hB:Az B i (.blk T (JV d xs))=some B') (k:AK P n Q it L B'):AK P n Q it L B:=by
 obtain ⟨rfl,hl⟩:=Ba hB;have hbi:B[i]? = some (.blk T xs):=S8 ▸ hb;refine AK.sub (λF E M a w h=>⟨E,M,?_,h.size,h.defers,h.slots⟩) hs k;rw [WY,JU hbi];refine h.hs.re (λj=>?_) (λj=>?_) (λj=>?_) λj hj=>?_
 ·by_cases e:j=i
  ·subst e;rw [Fl];obtain ⟨g,c,m,h1,cs,h2,h3⟩:=h.blk hb;refine ⟨g,c,m,h1,cs,h2,F2.of (by rw [qP]; exact h3.len) λk v x hv hx=>?_⟩;obtain ⟨y,hy,hyx⟩:=qS _ _ hx;rcases hyx with rfl | rfl
   ·exact h3.get' hv hy
   ·exact iS (h3.get' hv hy)
  ·rw [Gf _ _ e]; exact h.hs.blk j
 ·by_cases e:j=i
  ·subst e; rw [Fl,Rx hbi]; rfl
  ·rw [Gf _ _ e]
 ·by_cases e:j=i
  ·subst e; rw [Fl,Rx hbi]; rfl
  ·rw [Gf _ _ e]
 ·by_cases e:j=i
  ·subst e; rw [Rx hbi] at hj; cases hj
  ·rw [Gf _ _ e]; exact hj
theorem UL {l m:Us} (h:l=m):TV.one (LV.row l)=.one (.row m):=h ▸ rfl
theorem wP {a b:Crv} (ha:ZA a) (hb:ZA b) (ca:Cb a) (cb:Cb b):Uj 183 [.agg (cl a),.agg (cl b)] [pr (S0 a b)]:=by
 obtain ⟨p1,l1,b1⟩:=rK ca cb;obtain ⟨p2,l2,b2⟩:=rY ca cb;have m1:=Tv (Gm a b) (Gm a b);have m2:=Tv (Gl a b) (Gl a b);have q1:=Pk (u:=5) b1 b1 (by omega);have q2:=Pk (u:=5) b2 b2 (by omega);exact Ug func183 rfl [.k (UW ha hb ca cb),.k (UY ha hb ca cb),.k (KP p1.t p1.t (by omega) (by omega) b1 b1 (by omega)),.k (KP p2.t p2.t (by omega) (by omega) b2 b2 (by omega)),.k (BR (by omega) (by omega) (U5 q1 (by omega)) (U5 q2 (by omega)))] rfl
theorem Qbb {a b c d:Crv} (ha:ZA a) (hb:ZA b) (hc:ZA c) (hd:ZA d) (ca:Cb a) (cb:Cb b) (cc:Cb c) (cd:Cb d):Uj 117 [.agg (cl a),.agg (cl b),.agg (cl c),.agg (cl d)] [pr (Hp a b c d)]:=by
 have na:=Dx ha (ca.mono (by omega) (by omega));have nb:=Dx hb (cb.mono (by omega) (by omega));have nc:=Dx hc (cc.mono (by omega) (by omega));have nd:=Dx hd (cd.mono (by omega) (by omega));have s1:=nR ca cb;have s2:=nR cc cd;have s3:=aM ca cb;have s4:=aM cc cd;have da:=ca.d;have db:=cb.d;have dc:=cc.d;have dd:=cd.d;obtain ⟨t1,l1,b1⟩:=rV cc cd;obtain ⟨t2,l2,b2⟩:=rV ca cb;have k1:=Fx (S0 c d) ((a.d*b.d)*(a.d*b.d));have k2:=Fx (S0 a b) ((c.d*d.d)*(c.d*d.d));have w1:=P0 (U4 a.d) (U4 b.d) (by omega) (by omega);have w2:=P0 (U4 c.d) (U4 d.d) (by omega) (by omega);have w3:=P0 (U4 (a.d*b.d)) (U4 (a.d*b.d)) (by omega) (by omega);have w4:=P0 (U4 (c.d*d.d)) (U4 (c.d*d.d)) (by omega) (by omega);have p1:=Pq (p:=S0 c d) (c:=(a.d*b.d)*(a.d*b.d)) (by omega) (U5 b1 (by omega)) (by omega);have p2:=Pq (p:=S0 a b) (c:=(c.d*d.d)*(c.d*d.d)) (by omega) (U5 b2 (by omega)) (by omega);have p3:=HT (p:=Fw (S0 c d) ((a.d*b.d)*(a.d*b.d))) (q:=Fw (S0 a b) ((c.d*d.d)*(c.d*d.d))) (by omega) (by omega) (U5 (Ge b1 s3) (by omega)) (U5 (Ge b2 s4) (by omega));exact Ug func117 rfl [.k na,.k nb,.k w1,.k nc,.k nd,.k w2,.k (wP hc hd cc cd),.k w3,.k p1,.k (wP ha hb ca cb),.k w4,.k p2,.k p3] rfl
theorem BU {a b c d:Pt} (ha:Sc a.c) (hb:Sc b.c) (hc:Sc c.c) (hd:Sc d.c):Uj 117 [.agg (cl a.c),.agg (cl b.c),.agg (cl c.c),.agg (cl d.c)] [pr (Hp a.c b.c c.c d.c)]:=Qbb ha.n hb.n hc.n hd.n ha.cb hb.cb hc.cb hd.cb
set_option maxHeartbeats 1000000 in
theorem Qm7 {a b c d:Pt} {t:Tm} (ha:Sc a.c) (hb:Sc b.c) (hc:Sc c.c) (hd:Sc d.c) (ht:Va t):Uj 111 [.oi 5,.agg (ta t),.one (.row [Fc a,Fc b,Fc c,Fc d])] [.agg (Dq (Bi (Fu t) a b c d)),.oi 0]:=by
 have hp:=(KE ha hb hc hd).dp;have e:Dq (Bi (Fu t) a b c d)=[.int .i64 5,.int .i64 a.id,.int .i64 b.id,.int .i64 c.id,.int .i64 d.id,pl (Hp a.c b.c c.c d.c),.int .i64 (Hj (Fu t) (Hp a.c b.c c.c d.c))]:=by rw [Bi]
 rw [e];have cg:=SX hp ht;have cf:=BU ha hb hc hd;generalize Hp a.c b.c c.c d.c=F at *;refine Fv func111 rfl ?_;refine Ud [.k Qbt,.f rfl] rfl ?_;refine Ui (S:=Nat) 3 (λL1 i=>(22,.v (.oi i))::L1) (λi=>[.blk 40 (ta t),.blk 144 zCt,.blk 144 [.int .i64 5,.int .i64 (if 1<=i then a.id else 0),.int .i64 (if 2<=i then b.id else 0),.int .i64 (if 3<=i then c.id else 0),.int .i64 (if 4<=i then d.id else 0),.nils,.int .i64 0]]) (λi=>4-i) (λi=>i<=4) 0 (Qh _) rfl rfl λi hi=>?_
 rcases (show i=0\/i=1\/i=2\/i=3\/i=4 by omega) with rfl | rfl | rfl | rfl | rfl
 ·refine Ud [.t rfl,.x (i:=0) (xs:=Fc a) rfl,.i 0] rfl ?_ (by simp [U3]);exact rd 1 (by omega) (by omega) rfl
 ·refine Ud [.t rfl,.x (i:=1) (xs:=Fc b) rfl,.i 1] rfl ?_ (by simp [U3]);exact rd 2 (by omega) (by omega) rfl
 ·refine Ud [.t rfl,.x (i:=2) (xs:=Fc c) rfl,.i 2] rfl ?_ (by simp [U3]);exact rd 3 (by omega) (by omega) rfl
 ·refine Ud [.t rfl,.x (i:=3) (xs:=Fc d) rfl,.i 3] rfl ?_ (by simp [U3]);exact rd 4 (by omega) (by omega) rfl
 ·exact Uf [.f rfl,.f rfl,.f rfl,.f rfl,.f rfl,.x (i:=0) (xs:=Fc a) rfl,.x (i:=1) (xs:=Fc b) rfl,.x (i:=2) (xs:=Fc c) rfl,.x (i:=3) (xs:=Fc d) rfl,.k cf,.k cg] rfl
theorem Qt5 {s m:Pt×Pt} {t:Tm} (h1:Sc s.1.c) (h2:Sc s.2.c) (h3:Sc m.1.c) (h4:Sc m.2.c) (ht:Va t):U6 prog 115 [.agg (Fc m.1),.agg (Fc m.2),.one (.ow 0 0),.one (.ow 1 0),.one (.ow 2 0)] [.blk 62 (Fc s.1),.blk 62 (Fc s.2),.blk 40 (ta t)] [] [.blk 62 (Fc (P7 (Fu t) s m).1),.blk 62 (Fc (P7 (Fu t) s m).2),.blk 40 (ta t)]:=by
 have cf:=BU h1 h2 h3 h4;have cg:=SX (KE h1 h2 h3 h4).dp ht;unfold P7;refine Fv func115 rfl ?_;by_cases h:Hj (Fu t) (Hp s.1.c s.2.c m.1.c m.2.c)<0
 ·rw [if_pos h];exact Uh [] [0,1,2] [.k cf,.k cg,.t (decide_eq_true h)] rfl
 ·rw [if_neg h];exact Uh [] [0,1,2] [.k cf,.k cg,.f (decide_eq_false h)] rfl
theorem Qt1 {s m:Pt×Pt} {t:Tm} {L:List Ct} (h1:Sc s.1.c) (h2:Sc s.2.c) (h3:Sc m.1.c) (h4:Sc m.2.c) (ht:Va t) (hL:L.length<=1000000):U6 prog 118 [.agg (Fc m.1),.agg (Fc m.2),.one (.ow 0 0),.one (.ow 1 0),.one (.ow 2 0),.one (.ow 3 0)] [.blk 62 (Fc s.1),.blk 62 (Fc s.2),.blk 40 (ta t),.blk 55 [.orow 4 7 none],.row false 144 7 (U8 L)] [] [.blk 62 (Fc s.1),.blk 62 (Fc s.2),.blk 40 (ta t),.blk 55 [.orow 4 7 none],.row false 144 7 (U8 (if ZH s m=true then L++[Bi (Fu t) s.1 s.2 m.1 m.2] else L))]:=by
 have cm:=Qm7 h1 h2 h3 h4 ht;have hq:∀ y∈[Dq (Bi (Fu t) s.1 s.2 m.1 m.2)],y.length=7:=λy hy=>by rw [Qk.1 hy]; rfl
 have hcl:=Pn L;have hsn:U8 (L++[Bi (Fu t) s.1 s.2 m.1 m.2])=U8 L++[Dq (Bi (Fu t) s.1 s.2 m.1 m.2)]:=by simp [U8]
 refine Fv func118 rfl ?_;by_cases e1:m.1.id=s.1.id
 ·by_cases e2:m.2.id=s.2.id
  ·rw [if_neg (by simp [ZH,e1,e2])];exact Uh [] [0,1,2,3,4] [.g 15 false (by simp [e1]),.f (by simp [e2])] rfl
  ·rw [if_pos (by simp [ZH,e2]),hsn];exact Uh [] [0,1,2,3,4] [.g 15 false (by simp [e1]),.t (by simp [e2]),.k cm,.s (sz:=7) hq] rfl (by simp [U3,hcl]; omega)
 ·rw [if_pos (by simp [ZH,e1]),hsn];exact Uh [] [0,1,2,3,4] [.g 15 true (by simp [e1]),.t rfl,.k cm,.s (sz:=7) hq] rfl (by simp [U3,hcl]; omega)
theorem SO (M:List Pt):H6 0 M=[]:=by cases M <;> rfl
def vQ (M:List Pt) (x:Pt) (i j:Nat):List (Pt×Pt):=H6 i M++((M.drop (i+1)).take j).map (λy=>(x,y))
theorem rB (M:List Pt) (x:Pt) (i:Nat):vQ M x i 0=H6 i M:=by rw [vQ,Vu,X7,Zw]
theorem rN {M:List Pt} {i j:Nat} {x y:Pt} (hy:(M.drop (i+1))[j]? = some y):vQ M x i (j+1)=vQ M x i j++[(x,y)]:=by
 unfold vQ;rw [Zv,hy,Option.toList_some,Yh,Zd]; rfl
theorem oU {M:List Pt} {i j:Nat} {x:Pt} (hx:M[i]? = some x) (hj:(M.drop (i+1)).length<=j):vQ M x i j=H6 (i+1) M:=by
 unfold vQ;rw [Qn hj,Lo M i x hx]
theorem Qpx {M:List Pt} {i j:Nat} {x:Pt} (hx:M[i]? = some x):∀ m∈vQ M x i j,m.1∈M/\m.2∈M:=λm hm=>by
 rcases Qr.1 hm with h | h
 ·exact Sy _ _ m h
 ·obtain ⟨y,hy,rfl⟩:=Za.1 h;exact ⟨Qc hx,Qz (Qo hy)⟩
theorem Qf3 {l:List Pt} {t:Tm} {s0:Pt×Pt} (hl:∀ p∈l,Sc p.c) (hs:s0.1∈l/\s0.2∈l) (hn:l.length≤1000) (ht:Va t):U6 prog 114 [.one (pts l),.one (.ofn 115 [] [.ow 0 0,.ow 1 0,.ow 2 0])] [.blk 62 (Fc s0.1),.blk 62 (Fc s0.2),.blk 40 (ta t)] [] [.blk 62 (Fc (Hn (Fu t) s0 (Gs l)).1),.blk 62 (Fc (Hn (Fu t) s0 (Gs l)).2),.blk 40 (ta t)]:=by
 have hcl:=G6 l;have hsc:∀ ps:List (Pt×Pt),(∀ m∈ps,m.1∈l/\m.2∈l)->Sc (Hn (Fu t) s0 ps).1.c/\Sc (Hn (Fu t) s0 ps).2.c:=λps h=>by
  obtain ⟨h1,h2⟩:=Lk (Fu t) ps s0 hs h;exact ⟨hl _ h1,hl _ h2⟩
 show U6 prog 114 [.one (.row (U0 l)),.one (.ofn 115 [] [.ow 0 0,.ow 1 0,.ow 2 0])] _ _ _;refine Fv func114 rfl ?_;refine Ud [] rfl ?_;refine lp (S:=Nat) 3 (λL1 i=>(10,.v (.oi i))::L1) (λi=>[.blk 62 (Fc (Hn (Fu t) s0 (H6 i l)).1),.blk 62 (Fc (Hn (Fu t) s0 (H6 i l)).2),.blk 40 (ta t)]) (λi=>l.length-i) (λi=>i<=l.length) 0 (Qh _) rfl (λ_ _=>rfl) (by rw [SO]; rfl) λi hi=>?_
 by_cases hlt:i<l.length
 ·obtain ⟨x,hx⟩:=gxE (l:=l) (i:=i) hlt;have ed1:(U0 l).drop (i+1)=U0 (l.drop (i+1)):=by simp [U0,Vh]
  have hdl:=G6 (l.drop (i+1));have hdl2:(l.drop (i+1)).length<=1000:=by rw [Q7]; omega
  rw [<-rB l x i];refine go tt [.t (by simp [hcl]; omega),.x (S6 hx),.r 17 (eI (b:=((i+1:Nat):Int)) (by simp)),.i (i+1),.r 18 (UL ed1)] rfl (by simp [U3,G6,eq_true (p:=∀ z,z∈U0 l->z.length=ti62.sz) (VJ l)]; omega) ?_;refine Ui (S:=Nat) 4 (λL1 j=>(20,.v (.oi j))::L1) (λj=>[.blk 62 (Fc (Hn (Fu t) s0 (vQ l x i j)).1),.blk 62 (Fc (Hn (Fu t) s0 (vQ l x i j)).2),.blk 40 (ta t),.blk 62 (Fc x)]) (λj=>(l.drop (i+1)).length-j) (λj=>j<=(l.drop (i+1)).length) 0 (Qh _) rfl rfl λj hj=>?_
  by_cases hltj:j<(l.drop (i+1)).length
  ·obtain ⟨y,hy⟩:=gxE (l:=(l.drop (i+1))) (i:=j) hltj;obtain ⟨s1,s2⟩:=hsc (vQ l x i j) (Qpx hx);have cn:=Qt5 (s:=Hn (Fu t) s0 (vQ l x i j)) (m:=(x,y)) s1 s2 (hl x (Qc hx)) (hl y (Qz (Qc hy))) ht;rw [<-yR,<-rN hy] at cn;refine go tt [.T,.x (S6 hy),.c [0,1,2] cn] rfl (by simp [U3,-List.length_drop]; omega) ?_;exact rd (j+1) (by omega) hltj rfl
  ·have e:=oU hx (J8 hltj);rw [e];refine go tt [.F] rfl (by simp [U3,-List.length_drop]; omega) ?_;exact rd (i+1) (by omega) hlt rfl
 ·obtain rfl:i=l.length:=by omega
  exact Uh [] [0,1,2] [.f (by simp [hcl])] rfl
theorem Qf4 {l:List Pt} {t:Tm} {s:Pt×Pt} (hl:∀ p∈l,Sc p.c) (hs:s.1∈l/\s.2∈l) (hn:l.length≤10) (ht:Va t):U6 prog 114 [.one (pts l),.one (.ofn 118 [] [.ow 0 0,.ow 1 0,.ow 2 0,.ow 3 0])] [.blk 62 (Fc s.1),.blk 62 (Fc s.2),.blk 40 (ta t),.blk 55 [.orow 4 7 none],.row false 144 7 []] [] [.blk 62 (Fc s.1),.blk 62 (Fc s.2),.blk 40 (ta t),.blk 55 [.orow 4 7 none],.row false 144 7 (U8 (M3 (Fu t) s (Gs l)))]:=by
 have hcl:=G6 l;have hpk:∀ i,i<=l.length->(H6 i l).length<=100:=λi hi=>by
  have:=WU i l;have:i*l.length<=10*10:=Zc (by omega) hn;omega
 show U6 prog 114 [.one (.row (U0 l)),.one (.ofn 118 [] [.ow 0 0,.ow 1 0,.ow 2 0,.ow 3 0])] _ _ _;refine Fv func114 rfl ?_;refine Ud [] rfl ?_;refine lp (S:=Nat) 5 (λL1 i=>(10,.v (.oi i))::L1) (λi=>[.blk 62 (Fc s.1),.blk 62 (Fc s.2),.blk 40 (ta t),.blk 55 [.orow 4 7 none],.row false 144 7 (U8 (M3 (Fu t) s (H6 i l)))]) (λi=>l.length-i) (λi=>i<=l.length) 0 (Qh _) rfl (λ_ _=>rfl) (by rw [SO]; rfl) λi hi=>?_
 by_cases hlt:i<l.length
 ·obtain ⟨x,hx⟩:=gxE (l:=l) (i:=i) hlt;have ed1:(U0 l).drop (i+1)=U0 (l.drop (i+1)):=by simp [U0,Vh]
  have hdl:=G6 (l.drop (i+1));have hdl2:(l.drop (i+1)).length<=10:=by rw [Q7]; omega
  rw [<-rB l x i];refine go tt [.t (by simp [hcl]; omega),.x (S6 hx),.r 17 (eI (b:=((i+1:Nat):Int)) (by simp)),.i (i+1),.r 18 (UL ed1)] rfl (by simp [U3,G6,eq_true (p:=∀ z,z∈U0 l->z.length=ti62.sz) (VJ l)]; omega) ?_;refine Ui (S:=Nat) 6 (λL1 j=>(20,.v (.oi j))::L1) (λj=>[.blk 62 (Fc s.1),.blk 62 (Fc s.2),.blk 40 (ta t),.blk 55 [.orow 4 7 none],.row false 144 7 (U8 (M3 (Fu t) s (vQ l x i j))),.blk 62 (Fc x)]) (λj=>(l.drop (i+1)).length-j) (λj=>j<=(l.drop (i+1)).length) 0 (Qh _) rfl rfl λj hj=>?_
  by_cases hltj:j<(l.drop (i+1)).length
  ·obtain ⟨y,hy⟩:=gxE (l:=(l.drop (i+1))) (i:=j) hltj;have hdn:(M3 (Fu t) s (vQ l x i j)).length<=1000000:=by
    refine Qa (II _ _ _) ?_;unfold vQ;rw [Qu,Q9,Qq];have:=hpk i hi; omega
   have cn:=Qt1 (s:=s) (m:=(x,y)) (L:=M3 (Fu t) s (vQ l x i j)) (hl _ hs.1) (hl _ hs.2) (hl x (Qc hx)) (hl y (Qz (Qc hy))) ht hdn;have en1:(if ZH s (x,y)=true then M3 (Fu t) s (vQ l x i j)++[Bi (Fu t) s.1 s.2 x y] else M3 (Fu t) s (vQ l x i j))=M3 (Fu t) s (vQ l x i (j+1)):=by
    rw [rN hy];cases h:ZH s (x,y) with
    | true=>rw [if_pos rfl,Qon h]
    | false=>rw [if_neg (by decide),Qom h]
   dsimp only at cn;rw [en1] at cn;refine go tt [.T,.x (S6 hy),.c [0,1,2,3,4] cn] rfl (by simp [U3,-List.length_drop]; omega) ?_;exact rd (j+1) (by omega) hltj rfl
  ·have e:=oU hx (J8 hltj);rw [e];refine go tt [.F] rfl (by simp [U3,-List.length_drop]; omega) ?_;exact rd (i+1) (by omega) hlt rfl
 ·obtain rfl:i=l.length:=by omega
  exact Uh [] [0,1,2,3,4] [.f (by simp [hcl])] rfl
theorem IP {l:List Pt} {a:Tm} {c:Cr} {r1:Us} (hl:∀ p∈l,Sc p.c) (hn:l.length≤10) (ha:Va a):U6 prog 74 [.one (.ow 0 0),.agg (ta a)] [.blk 166 (Hl c (U0 l) r1)] [.one (.row (U8 (Ln (Fu a) l)))] [.blk 166 (Hl c (U0 l) (U0 (ZR (Fu a) l)))]:=by
 have hcl:=G6 l;refine Fv func74 rfl ?_;by_cases h2:l.length<2
 ·obtain ⟨e1,e2⟩:=Qc2 (Fu a) h2;rw [e1,e2];refine Ud [.k Ir] rfl ?_;refine nlc 0 13 rfl rfl rfl ?_;have hml:(l.map Fc).length=l.length:=Q9 _;exact Uh [] [0] [.T] rfl
 ·obtain ⟨x,y,l',rfl⟩:=Qwp h2;obtain ⟨l,hle⟩:=nmE (x::y::l');have hx0:(U0 l)[0]? = some (Fc x):=by rw [hle]; rfl
  have hy0:(U0 l)[1]? = some (Fc y):=by rw [hle]; rfl
  have hxl:x∈l:=by rw [hle]; simp
  have hyl:y∈l:=by rw [hle]; simp
  have eB:ZR (Fu a) (x::y::l')=[(Hn (Fu a) (x,y) (Gs l)).1,(Hn (Fu a) (x,y) (Gs l)).2]:=by rw [hle]; rfl
  have eC:Ln (Fu a) (x::y::l')=M3 (Fu a) (Hn (Fu a) (x,y) (Gs l)) (Gs l):=by rw [hle]; rfl
  rw [eB,eC];rw [<-hle] at hl hn h2 hcl ⊢;have c1:=Qf3 (t:=a) (s0:=(x,y)) hl ⟨hxl,hyl⟩ (by omega) ha;obtain ⟨n1,n2⟩:=Lk (Fu a) (l:=l) (Gs l) (x,y) ⟨hxl,hyl⟩ (Sy _ _);generalize Hn (Fu a) (x,y) (Gs l)=s at *;have c2:=Qf4 (t:=a) (s:=s) hl ⟨n1,n2⟩ hn ha;have hml:(l.map Fc).length=l.length:=Q9 _;exact Uh [5] [0] [.k Ir,.F,.x hx0,.x hy0,.c [2,3,1] c1,.oc 8 0 144 7,.c [2,3,1,4,5] c2] rfl
theorem Qtn {T:Nat} {t:Rat} {Bc:Tm->List Ct} {Br:Tm->Us} {r0:Us} (ht:Qs 1640000 t) (hB:BuildOk Bc)
 (hb:∀ a c r1,Va a->CrOk c->U6 prog 74 [.one (.ow 0 0),.agg (ta a)] [.blk T (Hl c r0 r1)] [.one (.row (U8 (Bc a)))] [.blk T (Hl c r0 (Br a))])
 {K:Nat} {c c':Cr} {r1 r1':Us} {n:Int} (hc:CrOk c) (hev:0<=c.ev/\c.ev+K<=1000000000000000000) (h:Fp c.now t<=0) (hg:WO Bc Br t K c r1 0=some (c',r1',n)) :
 U6 prog 341 [.one (.ow 0 0),.agg (rl t),.one (.ofn 74 [.ow 0 0] [])] [.blk T (Hl c r0 r1)] [.oi n,.oi 0] [.blk T (Hl c' r0 r1')]:=by
 have qt:Qb t:=ht.mono (by decide);have c1:=Dk hc.n.tb qt;refine Fv func341 rfl ?_;refine Ud [.c [0] (QW hc.n),.k c1,.f (by simpa using h)] rfl ?_;refine Ui (S:=Nat×Cr×Us×Int) 2 (λL1 s=>(8,.v (.oi s.2.2.2))::L1) (λs=>[.blk T (Hl s.2.1 r0 s.2.2.1),.blk 38 (rl t)]) (λs=>s.1) (λs=>CrOk s.2.1/\(0<=s.2.1.ev/\s.2.1.ev+s.1<=1000000000000000000)/\(0<=s.2.2.2/\s.2.2.2+s.1<=1000000000000000000)/\WO Bc Br t s.1 s.2.1 s.2.2.1 s.2.2.2=some (c',r1',n)) (K,c,r1,0) ⟨hc,hev,⟨Int.le_refl 0,by dsimp only; omega⟩,hg⟩ rfl rfl λ⟨k,x,r,m⟩ ⟨j1,j2,j3,j4⟩=>?_
 dsimp only at j1 j2 j3 j4 ⊢;cases k with
 | zero=>cases j4
 |
  succ k =>
  simp only [WO] at j4;obtain ⟨ws,w1,j4⟩:=Qd.1 j4;obtain ⟨o,o1,j4⟩:=Qd.1 j4;have cn:=MY (T:=T) (r0:=r0) (r1:=r) j1 w1 o1;have ca:=VI (U4 t.num) (U4 (t.den:Int)) (Qa ht.1 (by decide)) (Qa ht.2 (by decide)) (by rw [Su]; exact ht.mono (by decide));rw [Su] at ca;cases o with
  |
   none =>
   injection j4 with j4; injection j4 with e1 j4; injection j4 with e2 e3;subst e1; subst e2; subst e3;exact Uh [] [0] [.c [0] cn,.g 25 true rfl,.t rfl,.k ca] rfl
  |
   some a =>
   have ha:=LC j1 w1 o1;dsimp only at j4;have cc:=Dk ha.tb qt;by_cases h0:0<Fp a t
   ·rw [if_pos h0] at j4;injection j4 with j4; injection j4 with e1 j4; injection j4 with e2 e3;subst e1; subst e2; subst e3;exact Uh [] [0] [.c [0] cn,.g 25 false rfl,.k cc,.t (by simpa using h0),.k ca] rfl
   ·rw [if_neg h0] at j4;obtain ⟨w2,l1,j4⟩:=Qd.1 j4;have j1':=Et j1 w1;have cl:=S9 (b:=a) (l:=[]) ha.tb (λt ht=>by cases ht) (by decide) rfl;have cb:=hb a { x with l:=ws } r ha j1';have cy:=UK (T:=T) (r0:=r0) (r1:=Br a) j1' ha (hB.p a ha) (hB.n a ha) l1;have hf:decide (0<Fp a t)=false:=by simpa using h0
    refine Ue [.c [0] cn,.g 25 false rfl,.k cc,.f hf,.k cl,.c [0] cb,.c [0] cy] rfl ?_;exact rd (k,⟨a,w2,x.ev+1⟩,Br a,m+1) (by dsimp only; omega) ⟨lay_ok _ j1' ha (hB.p a ha) (hB.n a ha) l1,by dsimp only; omega,by dsimp only; omega,j4⟩ rfl
end Orr
namespace Orr
open Go Go.Proofs Tryz Orq
theorem tR {x y:Int} (hx:-9223372036854775808<=x/\x<=9223372036854775807) (hy:-9223372036854775808<=y/\y<=9223372036854775807):Sc (O8 x y):=⟨Crv.nml _,((uJ hx hy).norm (by decide)).mono (by decide) (by decide)⟩
theorem Sc.pt {p:Pt} (h:Sc p.c):Qav 4294967294 1073741824 p:=⟨h.n,h.c.mono (by decide) (by decide)⟩
end Orr
namespace Orr
open Go Go.Proofs Tryz Orq
set_option maxRecDepth 10000
def sL (l:List Pt) (a:Tm):List Ct:=Ln (Fu a) l
abbrev brP (l:List Pt) (a:Tm):Us:=U0 (ZR (Fu a) l)
theorem dE {l:List Pt} {a:Tm}:∀ x∈sL l a,x.p∈AN l:=λx hx=>by
 match l,hx with
 |
  u::v::l',hx =>
  unfold sL at hx;simp only [Ln] at hx;obtain ⟨h3,h4⟩:=Lk (Fu a) (l:=u::v::l') (Gs (u::v::l')) (u,v) ⟨by simp,by simp⟩ (Sy _ _);obtain ⟨m,hm,rfl⟩:=OQ hx;obtain ⟨h1,h2⟩:=Sy _ _ m hm;rw [LR];exact NC h3 h4 h1 h2
theorem Qeb {l:List Pt} (hl:∀ p∈l,Sc p.c) (hn:l.length≤10):BuildOk (sL l) :=
 ⟨λ_ _ x hx=>UZ hl _ (dE x hx),λa _=>by
  have:=qD (Fu a) l;have:l.length*l.length<=10*10:=Zc hn hn;show (Ln (Fu a) l).length<=1000;omega⟩
def Qxl (l:List Pt) (a:Tm):Cr:=⟨a,(Fo (sL l a)).map fresh,0⟩
theorem Qna {t:Rat} {l:List Pt} {K:Nat} {c c':Cr} {r1 r1':Us} {n:Int} (ht:Qs 1640000 t) (hl:∀ p∈l,Sc p.c) (hn:l.length≤10) (hc:CrOk c) (hev:0≤c.ev/\c.ev+K≤1000000000000000000) (h:Fp c.now t≤0) (hg:WO (sL l) (brP l) t K c r1 0=some (c',r1',n)) :
 U6 prog 372 [.one (.ow 0 0),.agg (rl t)] [.blk 166 (Hl c (U0 l) r1)] [.oi n,.oi 0] [.blk 166 (Hl c' (U0 l) r1')]:=by
 have cg:=Qtn (T:=166) (r0:=U0 l) ht (Qeb hl hn) (λa c r1 ha _=>IP (c:=c) (r1:=r1) hl hn ha) hc hev h hg;refine Fv func372 rfl ?_;exact Uh [] [0] [.k (Nx (ht.mono (by decide))),.c [0] cg] rfl
theorem lU {c:Cr} {r0:Us} {a b:Pt}:U6 prog 39 [.one (.ow 0 0)] [.blk 166 (Hl c r0 (U0 [a,b]))] [.oi a.id,.oi b.id,.one (.bool true)] [.blk 166 (Hl c r0 (U0 [a,b]))]:=by
 refine Fv func39 rfl ?_;exact Uh [] [0] [.f rfl,.x (l:=U0 [a,b]) (i:=0) (xs:=Fc a) rfl,.x (l:=U0 [a,b]) (i:=1) (xs:=Fc b) rfl] rfl
theorem wF {c:Cr} {r0:Us}:U6 prog 39 [.one (.ow 0 0)] [.blk 166 (Hl c r0 [])] [.oi 0,.oi 0,.one (.bool false)] [.blk 166 (Hl c r0 [])]:=by
 refine Fv func39 rfl ?_;exact Uh [] [0] [.t rfl] rfl
end Orr
namespace Orr
open Go
def PN (q:Um->Int) (a b:Pt):Pt×Pt:=if Cg q a b=true then (a,b) else (b,a)
def Ox (q:Um->Int):Nat->List Pt->List Pt×List (Pt×Pt)
 | 0,l=>(l,[])
 |
  k+1,l=>if l.length<2 then (l,[]) else
  match (Ox q k (l.take ((l.length+1) / 2))).1,(Ox q k (l.drop ((l.length+1) / 2))).1 with
  | a::_,b::_=>([(PN q a b).1],(Ox q k (l.take ((l.length+1) / 2))).2++(Ox q k (l.drop ((l.length+1) / 2))).2++[PN q a b])
  | _,_=>([],[])
theorem Ds (q:Um->Int):∀ (k:Nat) (l:List Pt),l.length<=k->Ox q k l=Ox q l.length l
 | 0,l,h=>by rw [show l.length=0 by omega]
 |
  k+1,l,h=>by
  cases hl:l.length with
  | zero=>simp [Ox,hl]
  |
   succ m =>
   simp only [Ox];by_cases h2:l.length<2
   ·rw [if_pos h2,if_pos h2]
   ·rw [if_neg h2,if_neg h2];have h3:(l.take ((l.length+1) / 2)).length<=m:=by rw [Qq]; omega
    have h4:(l.drop ((l.length+1) / 2)).length<=m:=by rw [Q7]; omega
    rw [Ds q k (l.take ((l.length+1) / 2)) (by omega),Ds q k (l.drop ((l.length+1) / 2)) (by omega),Ds q m (l.take ((l.length+1) / 2)) h3,Ds q m (l.drop ((l.length+1) / 2)) h4]
termination_by k=>k
def Bm (q:Um->Int) (l:List Pt):List Pt×List (Pt×Pt):=Ox q l.length l
theorem Cw (q:Um->Int) {l:List Pt} (h:l.length<2):Bm q l=(l,[]):=by
 unfold Bm;cases hl:l.length with
 | zero=>rfl
 | succ m=>simp only [Ox]; rw [if_pos h]
theorem Oy (q:Um->Int) {l:List Pt} (h:¬l.length<2) {a b:Pt} (ha:(Bm q (l.take ((l.length+1) / 2))).1=[a]) (hb:(Bm q (l.drop ((l.length+1) / 2))).1=[b]) :
 Bm q l=([(PN q a b).1],(Bm q (l.take ((l.length+1) / 2))).2++(Bm q (l.drop ((l.length+1) / 2))).2++[PN q a b]):=by
 unfold Bm at ha hb ⊢;obtain ⟨m,hm⟩:∃ m,l.length=m+1:=⟨l.length-1,by omega⟩;have h3:(l.take ((l.length+1) / 2)).length<=m:=by rw [Qq]; omega
 have h4:(l.drop ((l.length+1) / 2)).length<=m:=by rw [Q7]; omega
 rw [<-Ds q m _ h3] at ha ⊢;rw [<-Ds q m _ h4] at hb ⊢;rw [show Ox q l.length l=Ox q (m+1) l by rw [hm]];simp only [Ox];rw [if_neg h,ha,hb]
theorem Nl (q:Um->Int):∀ (k:Nat) (l:List Pt),l.length≤k->0<l.length->∃ a,(Bm q l).1=[a]/\a∈l/\∀ m∈(Bm q l).2,m.1∈l/\m.2∈l
 | 0,l,h,h0=>by omega
 |
  k+1,l,h,h0=>by
  by_cases h2:l.length<2
  ·rw [Cw q h2]
   match l,h0,h2 with
   | [a],_,_=>exact ⟨a,rfl,by simp,by simp⟩
  ·obtain ⟨a,ha,hal,ham⟩:=Nl q k (l.take ((l.length+1) / 2)) (by rw [Qq]; omega) (by rw [Qq]; omega);obtain ⟨b,hb,hbl,hbm⟩:=Nl q k (l.drop ((l.length+1) / 2)) (by rw [Q7]; omega) (by rw [Q7]; omega);rw [Oy q h2 ha hb];have hd:(PN q a b).1∈l/\(PN q a b).2∈l:=by
    unfold PN; split
    ·exact ⟨Qo hal,Qz hbl⟩
    ·exact ⟨Qz hbl,Qo hal⟩
   refine ⟨_,rfl,hd.1,λm hm=>?_⟩;rcases Qr.1 hm with hm | hm
   ·rcases Qr.1 hm with hm | hm
    ·exact ⟨Qo (ham m hm).1,Qo (ham m hm).2⟩
    ·exact ⟨Qz (hbm m hm).1,Qz (hbm m hm).2⟩
   ·rw [Qk.1 hm]; exact hd
theorem Dt (q:Um->Int):∀ (k:Nat) (l:List Pt),l.length<=k->(Bm q l).2.length<=l.length-1
 | 0,l,h=>by rw [Cw q (by omega)]; simp
 |
  k+1,l,h=>by
  by_cases h2:l.length<2
  ·rw [Cw q h2]; simp
  ·obtain ⟨a,ha,_⟩:=Nl q l.length (l.take ((l.length+1) / 2)) (by rw [Qq]; omega) (by rw [Qq]; omega);obtain ⟨b,hb,_⟩:=Nl q l.length (l.drop ((l.length+1) / 2)) (by rw [Q7]; omega) (by rw [Q7]; omega);rw [Oy q h2 ha hb];have h3:=Dt q k (l.take ((l.length+1) / 2)) (by rw [Qq]; omega);have h4:=Dt q k (l.drop ((l.length+1) / 2)) (by rw [Q7]; omega);rw [Qq] at h3;rw [Q7] at h4;simp only [Qu,Vr];omega
abbrev Qcw (m:Pt×Pt):Ur:=[pl m.1.c.x,pl m.1.c.y,sg m.1.c.d,mg m.1.c.d,.int .i64 m.1.id,pl m.2.c.x,pl m.2.c.y,sg m.2.c.d,mg m.2.c.d,.int .i64 m.2.id]
end Orr
namespace Orq
open Orr Go
def FH (q:Rat) (x y:Pt):Prop:=py y q<py x q\/py y q=py x q/\(px y q<px x q\/px y q=px x q/\x.id<y.id)
theorem Qio (q:Rat) (x:Pt):¬FH q x x:=by unfold FH; grind
theorem Qo5 (q:Rat) (x y z:Pt) (h:FH q x y) (h':FH q y z):FH q x z:=by unfold FH at *; grind
theorem Qip {q:Rat} {x y:Pt} (h:x.id≠y.id) (h':¬FH q x y):FH q y x:=by unfold FH at *; grind
theorem Qa1 {a:Tm} (ha:Va a) {x y:Pt} (hx:Sc x.c) (hy:Sc y.c) {q:Rat} (h1:Hj (Fu a) (Gl y.c x.c)=Fg (U9 (Gl y.c x.c) q)) (h2:Hj (Fu a) (Gm y.c x.c)=Fg (U9 (Gm y.c x.c) q)):Cg (Fu a) x y=true↔FH q x y:=by
 rw [TP hy hx] at h1;rw [TM hy hx] at h2;have d1:=(Na hy hx).dp;have d2:=(Nb hy hx).dp;unfold Cg;simp only [L8];have t1:=Fz (py x q-py y q);have t2:=Fz (px x q-px y q);by_cases e1:(Gl y.c x.c).length=0
 ·rw [if_neg (by omega)];rw [Qj e1,XT] at h1;have:py x q=py y q:=by grind
  by_cases e2:(Gm y.c x.c).length=0
  ·rw [if_neg (by omega)];rw [Qj e2,XT] at h2;unfold FH;simp only [decide_eq_true_eq];grind
  ·rw [if_pos (by omega)];have:=(Ep ha d2 e2).2;unfold FH;simp only [decide_eq_true_eq];grind
 ·rw [if_pos (by omega)];have:=(Ep ha d1 e1).2;unfold FH;simp only [decide_eq_true_eq];grind
theorem wX {l:List Pt} (hl:∀ p∈l,Sc p.c) {a:Tm} (ha:Va a):∃ y,Fp a y=-1/\∀ q,Fp a q=-1->q≤y->∀ u∈l,∀ v∈l,(Cg (Fu a) u v=true↔FH q u v):=by
 obtain ⟨y,y1,y2⟩:=XS ha (Ek l) λp hp=>(QJ hl p hp).dp
 refine ⟨y,y1,λq q1 q2 u hu v hv=>?_⟩;have h:=y2 q q1 q2;exact Qa1 ha (hl u hu) (hl v hv) (h _ (Sj hv hu).2) (h _ (Sj hv hu).1)
theorem nI {a b:Tm} {x y:Pt} (h:Hj (Fu b) (Ar x y)=Hj (Fu a) (Ar x y)):Cg (Fu b) x y=Cg (Fu a) x y:=by
 unfold Ar Lx at h;unfold Cg;simp only [L8];by_cases e1:0<(Gl y.c x.c).length
 ·rw [if_pos e1,if_pos e1]; rw [if_pos e1] at h; rw [h]
 ·rw [if_neg e1,if_neg e1]; rw [if_neg e1] at h; rw [h]
theorem Qh9 {l:List Pt} {k:Nat} (h2:¬l.length<2) (hk:l.length<=k+1):(l.take ((l.length+1) / 2)).length<=k/\(l.drop ((l.length+1) / 2)).length<=k/\0<(l.take ((l.length+1) / 2)).length/\0<(l.drop ((l.length+1) / 2)).length:=by
 rw [Qq,Q7]; omega
theorem TY {sa sb:Um->Int}:∀ (k:Nat) (l:List Pt),l.length≤k->l.Pairwise (λx y=>x.id≠y.id)->(∀ u∈l,∀ v∈l,u.id≠v.id->Cg sa u v=false->Cg sa v u=true)->(∀ u∈l,∀ v∈l,Cg sb v u=true->Cg sb u v=false)->(∀ m∈(Bm sa l).2,Cg sb m.1 m.2=Cg sa m.1 m.2)->Bm sb l=Bm sa l
 | 0,l,hk,_,_,_,_=>by rw [Cw _ (by omega),Cw _ (by omega)]
 |
  k+1,l,hk,hd,h1,h2,hm=>by
  by_cases hs:l.length<2
  ·rw [Cw _ hs,Cw _ hs]
  ·obtain ⟨k1,k2,k3,k4⟩:=Qh9 hs hk;obtain ⟨a,ha,hal,_⟩:=Nl sa k (l.take ((l.length+1) / 2)) k1 k3;obtain ⟨b,hb,hbl,_⟩:=Nl sa k (l.drop ((l.length+1) / 2)) k2 k4;have hpl:=Oy sa hs ha hb;rw [hpl] at hm;have hd':=hd;rw [<-Zh ((l.length+1) / 2) l] at hd';obtain ⟨d1,d2,d3⟩:=Xw.1 hd';have i1:=TY k _ k1 d1 (λu hu v hv=>h1 u (Qo hu) v (Qo hv)) (λu hu v hv=>h2 u (Qo hu) v (Qo hv)) λm hm'=>hm m (by simp [hm'])
   have i2:=TY k _ k2 d2 (λu hu v hv=>h1 u (Qz hu) v (Qz hv)) (λu hu v hv=>h2 u (Qz hu) v (Qz hv)) λm hm'=>hm m (by simp [hm'])
   have hal':=Qo hal;have hbl':=Qz hbl;have e:PN sb a b=PN sa a b:=by
    have hmem:=hm (PN sa a b) (by simp);unfold PN at hmem ⊢;by_cases h:Cg sa a b=true
    ·rw [if_pos h] at hmem ⊢;rw [if_pos (hmem.trans h)]
    ·rw [if_neg h] at hmem ⊢;have h:Cg sa a b=false:=by simpa using h
     have:=h2 a hal' b hbl' (hmem.trans (h1 a hal' b hbl' (d3 a hal b hbl) h));rw [if_neg (by simp [this])]
   rw [hpl,Oy sb hs (by rw [i1]; exact ha) (by rw [i2]; exact hb),i1,i2,e]
end Orq
namespace Orr
open Orq Go
def AD (l:List Pt) (a:Tm):List Ct:=(Bm (Fu a) l).2.map λm=>D3 (Fu a) m.1 m.2
def pB (l:List Pt) (a:Tm):Us×Us:=((Bm (Fu a) l).1.map Fc,(Bm (Fu a) l).2.map Qcw)
theorem JH {sg:Um->Int} {l:List Pt}:∀ m∈(Bm sg l).2,m.1∈l/\m.2∈l:=λm hm=>by
 by_cases h:0<l.length
 ·obtain ⟨_,_,_,h3⟩:=Nl sg l.length l (Ql _) h;exact h3 m hm
 ·rw [Cw _ (by omega)] at hm; cases hm
theorem Qs9 {l:List Pt} (hl:∀ p∈l,Sc p.c) {a:Tm}:∀ x∈AD l a,Cp x.p:=λx hx=>by
 obtain ⟨m,hm,rfl⟩:=Za.1 hx;obtain ⟨h1,h2⟩:=JH m hm;exact YP (Na (hl _ h2) (hl _ h1)) (Nb (hl _ h2) (hl _ h1))
theorem pF {l:List Pt} (hl:∀ p∈l,Sc p.c) (hn:l.length≤1000):BuildOk (AD l) :=
 ⟨λa _=>Qs9 hl,λa _=>by
  unfold AD; rw [List.length_map];have:=Dt (Fu a) l.length l (Ql _); omega⟩
theorem Qmo {l:List Pt} {a:Tm}:∀ x∈AD l a,x.p∈Ek l:=λx hx=>by
 obtain ⟨m,hm,rfl⟩:=Za.1 hx;obtain ⟨h1,h2⟩:=JH m hm;show Ar m.1 m.2∈Ek l;unfold Ar Lx; split
 ·exact (Sj h2 h1).2
 ·exact (Sj h2 h1).1
theorem Qy8 {l:List Pt} (hl:∀ p∈l,Sc p.c) (hn:l.length≤1000) (hd:l.Pairwise λx y=>x.id≠y.id):Stab (AD l) (pB l):=by
 refine ⟨pF hl hn,⟨Ek l,QJ hl,λa _ x hx=>?_⟩,λa b ha hb h=>?_⟩
 ·obtain ⟨m,hm,rfl⟩:=Za.1 hx;obtain ⟨h1,h2⟩:=JH m hm;show Ar m.1 m.2∈Ek l;unfold Ar Lx; split
  ·exact (Sj h2 h1).2
  ·exact (Sj h2 h1).1
 ·obtain ⟨y,y1,y2⟩:=wX hl ha;obtain ⟨z,z1,z2⟩:=wX hl hb;have ga:=y2 y y1 Qp;have gb:=z2 z z1 Qp;have e:Bm (Fu b) l=Bm (Fu a) l:=TY l.length l (Ql _) hd (λu hu v hv hne hf=>(ga v hv u hu).2 (Qip hne λh=>by
   rw [(ga u hu v hv).2 h] at hf; cases hf)) (λu hu v hv ht=>by
   cases hb':Cg (Fu b) u v
   ·rfl
   ·exact absurd (Qo5 z u v u ((gb u hu v hv).1 hb') ((gb v hv u hu).1 ht)) (Qio z u)) λm hm=>nI (h (D3 (Fu a) m.1 m.2) (Za.2 ⟨m,hm,rfl⟩))
  refine ⟨?_,by unfold pB; rw [e]⟩;unfold AD;rw [e];refine Xq λm hm=>?_
  have:=h (D3 (Fu a) m.1 m.2) (Za.2 ⟨m,hm,rfl⟩);unfold D3;rw [show Hj (Fu b) (Ar m.1 m.2)=Hj (Fu a) (Ar m.1 m.2) from this]
end Orr
namespace Orq
open Orr Go
def ZG (a:Crv):Un:=[Fw a.x a.d,Fw a.y a.d,A7 (Gk a.x a.x) (Gk a.y a.y),[a.d*a.d]]
def uX (a b c d:Crv):List Un:=[ZG a,ZG b,ZG c,ZG d]
def KX (a b c d:Crv):Um:=Lp 4 (uX a b c d)
theorem FI {s:Nat} {k:Crv} (hn:ZA k) (hc:Cs s 3 k):(∀ p∈ZG k,Ff p/\Bd (s+s+3) p)/\∀ (j:Nat) (p:Um),(ZG k)[j]? = some p->p.length≤[2,2,4,0].getD j 0+1:=by
 have l1:=Fx k.x k.d;have l2:=Fx k.y k.d;have l3:=Tv k.x k.x;have l4:=Tv k.y k.y;have l5:=Og (Gk k.x k.x) (Gk k.y k.y);have kx:=hc.lx;have ky:=hc.ly;have bx:Bd (s+s+2) (Gk k.x k.x):=Pk hc.x hc.x (by omega);have by_:Bd (s+s+2) (Gk k.y k.y):=Pk hc.y hc.y (by omega);have hd:=hn.2.2.1;have hd0:k.d*k.d≠0:=λe=>by rcases Yf.1 e with e | e <;> omega
 have td:Ff [k.d*k.d]:=by unfold Ff; simp [trim,hd0]
 refine ⟨λp hp=>?_,λj p hp=>?_⟩
 ·simp only [ZG,Qm,Jl,or_false] at hp;rcases hp with rfl | rfl | rfl | rfl
  ·exact ⟨Fy _ _,U5 (Ge hc.x hc.d) (by omega)⟩
  ·exact ⟨Fy _ _,U5 (Ge hc.y hc.d) (by omega)⟩
  ·exact ⟨Fy _ _,U5 (YV bx by_) (by omega)⟩
  ·refine ⟨td,λz hz=>?_⟩;rw [Qk.1 hz];have:=Ga k.d k.d; have:=hc.d; omega
 ·match j,hp with
  | 0,hp=>injection hp with hp; subst hp; show _<=3; omega
  | 1,hp=>injection hp with hp; subst hp; show _<=3; omega
  | 2,hp=>injection hp with hp; subst hp; show _<=5; omega
  | 3,hp=>injection hp with hp; subst hp; exact Ql _
  | j+4,hp=>simp [ZG] at hp
theorem tI {s:Nat} {a b c d:Crv} (na:ZA a) (nb:ZA b) (nc:ZA c) (nd:ZA d) (ca:Cs s 3 a) (cb:Cs s 3 b) (cc:Cs s 3 c) (cd:Cs s 3 d):Sq (s+s+3) [2,2,4,0] 4 4 (uX a b c d):=by
 have hr:∀ r∈uX a b c d,∃ k:Crv,ZA k/\Cs s 3 k/\r=ZG k:=λr hr=>by
  simp only [uX,Qm,Jl,or_false] at hr;rcases hr with rfl | rfl | rfl | rfl
  ·exact ⟨a,na,ca,rfl⟩
  ·exact ⟨b,nb,cb,rfl⟩
  ·exact ⟨c,nc,cc,rfl⟩
  ·exact ⟨d,nd,cd,rfl⟩
 refine ⟨rfl,λr h=>?_,λr h p hp=>?_,λr h p hp=>?_,λr h j p hp=>?_⟩
 all_goals obtain ⟨k,kn,kc,rfl⟩:=hr r h
 ·rfl
 ·exact ((FI kn kc).1 p hp).1
 ·exact ((FI kn kc).1 p hp).2
 ·exact (FI kn kc).2 j p hp
theorem eP {a b c d:Crv} (ha:Sc a) (hb:Sc b) (hc:Sc c) (hd:Sc d):Cp (KX a b c d):=by
 obtain ⟨h1,h2,h3⟩:=NX 4 [2,2,4,0] (uX a b c d) (by decide) rfl (by decide) (tI ha.n hb.n hc.n hd.n ha.c hb.c hc.c hd.c);exact ⟨h1,Qa h3 (by decide),U5 h2 (by decide)⟩
def qH (sg:Um->Int) (a b c d:Pt):Ct:=⟨4,a.id,b.id,c.id,d.id,KX a.c b.c c.c d.c,Hj sg (KX a.c b.c c.c d.c)⟩
abbrev P3:=Pt×(Pt×Pt)
abbrev P4:=Pt×P3
def Lu:Nat->List Pt->List P3
 | 0,_=>[]
 | _+1,[]=>[]
 | k+1,x::l=>(Gs l).map (λm=>(x,m))++Lu k l
def Rv (l:List Pt):List P3:=Lu l.length l
def Ex:Nat->List Pt->List P4
 | 0,_=>[]
 | _+1,[]=>[]
 | k+1,x::l=>(Rv l).map (λm=>(x,m))++Ex k l
def O5 (l:List Pt):List P4:=Ex l.length l
theorem VF:∀ (l:List Pt) (i:Nat) (x:Pt),l[i]? = some x->Lu (i+1) l=Lu i l++(Gs (l.drop (i+1))).map (λm=>(x,m))
 | [],i,x,h=>by simp at h
 | y::l,0,x,h=>by simp at h; subst h; simp [Lu]
 |
  y::l,i+1,x,h=>by
  have ih:=VF l i x (by simpa using h);show (Gs l).map _++Lu (i+1) l=((Gs l).map _++Lu i l)++_;rw [ih,Zd]; rfl
theorem TW:∀ (l:List Pt) (i:Nat) (x:Pt),l[i]? = some x->Ex (i+1) l=Ex i l++(Rv (l.drop (i+1))).map (λm=>(x,m))
 | [],i,x,h=>by simp at h
 | y::l,0,x,h=>by simp at h; subst h; simp [Ex]
 |
  y::l,i+1,x,h=>by
  have ih:=TW l i x (by simpa using h);show (Rv l).map _++Ex (i+1) l=((Rv l).map _++Ex i l)++_;rw [ih,Zd]; rfl
theorem AY:∀ (k:Nat) (l:List Pt),∀ m∈Lu k l,m.1∈l/\m.2.1∈l/\m.2.2∈l
 | 0,l,m,h=>by simp [Lu] at h
 | k+1,[],m,h=>by simp [Lu] at h
 |
  k+1,x::l,m,h=>by
  rcases Qr.1 h with h | h
  ·obtain ⟨y,hy,rfl⟩:=Za.1 h;obtain ⟨h1,h2⟩:=Sy _ _ y hy;exact ⟨Qy ..,Qg _ h1,Qg _ h2⟩
  ·obtain ⟨h1,h2,h3⟩:=AY k l m h;exact ⟨Qg _ h1,Qg _ h2,Qg _ h3⟩
theorem rI:∀ (k:Nat) (l:List Pt),∀ m∈Ex k l,m.1∈l/\m.2.1∈l/\m.2.2.1∈l/\m.2.2.2∈l
 | 0,l,m,h=>by simp [Ex] at h
 | k+1,[],m,h=>by simp [Ex] at h
 |
  k+1,x::l,m,h=>by
  rcases Qr.1 h with h | h
  ·obtain ⟨y,hy,rfl⟩:=Za.1 h;obtain ⟨h1,h2,h3⟩:=AY _ _ y hy;exact ⟨Qy ..,Qg _ h1,Qg _ h2,Qg _ h3⟩
  ·obtain ⟨h1,h2,h3,h4⟩:=rI k l m h;exact ⟨Qg _ h1,Qg _ h2,Qg _ h3,Qg _ h4⟩
theorem VV {l:List Pt} (h:l.length<=6):(Rv l).length<=20/\(O5 l).length<=15:=by
 match l,h with
 | [],_=>exact ⟨Zf rfl,Zf rfl⟩
 | [_],_=>exact ⟨Zf rfl,Zf rfl⟩
 | [_,_],_=>exact ⟨Zf rfl,Zf rfl⟩
 | [_,_,_],_=>exact ⟨Zf rfl,Zf rfl⟩
 | [_,_,_,_],_=>exact ⟨Zf rfl,Zf rfl⟩
 | [_,_,_,_,_],_=>exact ⟨Zf rfl,Zf rfl⟩
 | [_,_,_,_,_,_],_=>exact ⟨Zf rfl,Zf rfl⟩
 | _::_::_::_::_::_::_::_,h=>simp at h
abbrev Bb:=List (Um×LV)
def PL (sg:Um->Int) (m:P3):Ct:=Li sg m.1 m.2.1 m.2.2
def HL (sg:Um->Int) (m:P4):Ct:=qH sg m.1 m.2.1 m.2.2.1 m.2.2.2
def nT (m:P3):Um:=[m.1.id,m.2.1.id,m.2.2.id]
def Qyi (m:P4):Um:=[m.1.id,m.2.1.id,m.2.2.1.id,m.2.2.2.id]
def A1 (V:List (Um×Int)):Bb:=V.foldl (λM e=>Ea M e.1 (.int .i64 e.2)) []
def ZB (sg:Um->Int) (ps:List P3):List (Um×Int):=ps.map λm=>(nT m,(PL sg m).want)
def VC (sg:Um->Int) (ps:List P4):List (Um×Int):=ps.map λm=>(Qyi m,(HL sg m).want)
theorem dG (sg:Um->Int) (ps:List P3) (m:P3):A1 (ZB sg (ps++[m]))=Ea (A1 (ZB sg ps)) (nT m) (.int .i64 (PL sg m).want):=by simp [A1,ZB]
def Ob (T:Bb) (s:Int) (n:Um) (F:Bb) (skip:Nat):Bb:=if ZM T (n.eraseIdx skip)*(if (3-skip) % 2=1 then -s else s)>0 then Ea F (n.eraseIdx skip) (.bool true) else F
def OG (T:Bb) (s:Int) (n:Um) (F:Bb):Bb:=Ob T s n (Ob T s n (Ob T s n (Ob T s n F 0) 1) 2) 3
def Oe (T:Bb) (V:List (Um×Int)):Bb:=V.foldl (λF e=>OG T e.2 e.1 F) []
theorem nY (sg:Um->Int) (T:Bb) (ps:List P4) (m:P4):Oe T (VC sg (ps++[m]))=OG T (HL sg m).want (Qyi m) (Oe T (VC sg ps)):=by simp [Oe,VC]
def jE (T F:Bb) (m:P3):Bool:=decide (ZM T (nT m)≠0) && !(BV F (nT m))
theorem Quy {T F:Bb} {ps:List P3} {m:P3} (h:jE T F m=true):(ps++[m]).filter (jE T F)=ps.filter (jE T F)++[m]:=by simp [Vj,h]
theorem Qhp {T F:Bb} {ps:List P3} {m:P3} (h:jE T F m=false):(ps++[m]).filter (jE T F)=ps.filter (jE T F):=by simp [Vj,h]
def gY (sg:Um->Int) (l:List Pt):List Ct:=(Rv (To l)).map (PL sg)++(O5 (To l)).map (HL sg)
def qF (sg:Um->Int) (l:List Pt):List P3:=(Rv (To l)).filter (jE (A1 (ZB sg (Rv (To l)))) (Oe (A1 (ZB sg (Rv (To l)))) (VC sg (O5 (To l)))))
abbrev trL (m:P3):Ur:=[.int .i64 m.1.id,.int .i64 m.2.1.id,.int .i64 m.2.2.id]
def ZV (l:List P3):Us:=l.map trL
theorem sF (l:List P3):(ZV l).length=l.length:=by simp [ZV]
theorem qG (sg:Um->Int) {l:List Pt} (h:l.length<=6):(qF sg l).length<=20:=by
 have hw:=QZ l;exact Qa (Y0 _ _) (VV (l:=To l) (by omega)).1
theorem Qcr (sg:Um->Int) {l:List Pt} (h:l.length<=6):(gY sg l).length<=35:=by
 have hw:=QZ l;obtain ⟨h1,h2⟩:=VV (l:=To l) (by omega);unfold gY;rw [Qu,Q9,Q9]; omega
def xF (l:List Pt) (a:Tm):List Ct:=gY (Fu a) l
abbrev pN (l:List Pt) (a:Tm):Us:=ZV (qF (Fu a) l)
def Qaw (l:List Pt):Un:=(Rv (To l)).map (λm=>Hh m.1.c m.2.1.c m.2.2.c)++(O5 (To l)).map λm=>KX m.1.c m.2.1.c m.2.2.1.c m.2.2.2.c
theorem xW {l:List Pt} (hl:∀ p∈l,Sc p.c):∀ p∈Qaw l,Cp p:=λp hp=>by
 have hw:=λ(x:Pt) (h:x∈To l)=>hl x (Nt h)
 rcases Qr.1 hp with hp | hp
 ·obtain ⟨m,hm,rfl⟩:=Za.1 hp;obtain ⟨h1,h2,h3⟩:=AY _ _ m hm;exact YR (hw _ h1) (hw _ h2) (hw _ h3)
 ·obtain ⟨m,hm,rfl⟩:=Za.1 hp;obtain ⟨h1,h2,h3,h4⟩:=rI _ _ m hm;exact eP (hw _ h1) (hw _ h2) (hw _ h3) (hw _ h4)
theorem xG {l:List Pt} {a:Tm}:∀ x∈xF l a,x.p∈Qaw l:=λx hx=>by
 rcases Qr.1 hx with hx | hx
 ·obtain ⟨m,hm,rfl⟩:=Za.1 hx;exact X8 _ (Za.2 ⟨m,hm,rfl⟩)
 ·obtain ⟨m,hm,rfl⟩:=Za.1 hx;exact Je _ (Za.2 ⟨m,hm,rfl⟩)
theorem Qd5 {l:List Pt} (h:l.length<=6):(Qaw l).length<=1000000:=by
 have hw:=QZ l;obtain ⟨h1,h2⟩:=VV (l:=To l) (by omega);unfold Qaw;rw [Qu,Q9,Q9]; omega
theorem pK {l:List Pt} (hl:∀ p∈l,Sc p.c) (hn:l.length≤6):BuildOk (xF l) :=
 ⟨λ_ _ x hx=>xW hl _ (xG x hx),λa _=>Qa (Qcr _ hn) (by decide)⟩
theorem Qy4 {l:List Pt} (hl:∀ p∈l,Sc p.c) (hn:l.length≤6):Stab (xF l) (pN l):=by
 refine ⟨pK hl hn,⟨Qaw l,xW hl,λa _=>xG⟩,λa b _ _ h=>?_⟩;have e1:∀ m∈Rv (To l),PL (Fu b) m=PL (Fu a) m:=λm hm=>by
  have:=h (PL (Fu a) m) (X8 _ (Za.2 ⟨m,hm,rfl⟩));have e:Hj (Fu b) (Hh m.1.c m.2.1.c m.2.2.c)=Hj (Fu a) (Hh m.1.c m.2.1.c m.2.2.c):=this;unfold PL Li; rw [e]
 have e2:∀ m∈O5 (To l),HL (Fu b) m=HL (Fu a) m:=λm hm=>by
  have:=h (HL (Fu a) m) (Je _ (Za.2 ⟨m,hm,rfl⟩));have e:Hj (Fu b) (KX m.1.c m.2.1.c m.2.2.1.c m.2.2.2.c)=Hj (Fu a) (KX m.1.c m.2.1.c m.2.2.1.c m.2.2.2.c):=this;unfold HL qH; rw [e]
 have t1:ZB (Fu b) (Rv (To l))=ZB (Fu a) (Rv (To l)):=Xq λm hm=>by rw [e1 m hm]
 have t2:VC (Fu b) (O5 (To l))=VC (Fu a) (O5 (To l)):=Xq λm hm=>by rw [e2 m hm]
 constructor
 ·unfold xF gY;rw [Xq e1,Xq e2]
 ·unfold pN qF;rw [t1,t2]
def Qxj (l:List Pt) (a:Tm):Cr:=⟨a,(Fo (xF l a)).map fresh,0⟩
def kM (M:Bb):Prop:=∀ k,(Am M k).getD (.int .i64 0)=.int .i64 (ZM M k)/\-1<=ZM M k/\ZM M k<=1
def VE (M:Bb):Prop:=∀ k,(Am M k).getD (.bool false)=.bool (BV M k)
theorem qQ (M:Bb) (k:Um) (x:LV) (k':Um):Am (Ea M k x) k'=if k'=k then some x else Am M k':=by
 induction M with
 | nil=>simp [Ea,Am]
 |
  cons e M ih =>
  simp only [Ea];by_cases h:k=e.1
  ·rw [if_pos h];simp only [Am];by_cases h2:k'=k
   ·rw [if_pos h2,if_pos h2]
   ·rw [if_neg h2,if_neg h2,if_neg (λe2=>h2 (e2.trans h.symm))]
  ·rw [if_neg h];simp only [Am];by_cases h2:k'=e.1
   ·rw [if_pos h2,if_pos h2,if_neg (λe2=>h (e2.symm.trans h2))]
   ·rw [if_neg h2,if_neg h2,ih]
theorem Qig:kM []:=λ_=>⟨rfl,show (-1:Int)<=0 by decide,show (0:Int)<=1 by decide⟩
theorem Qa2:VE []:=λ_=>rfl
theorem Qih {M:Bb} (h:kM M) {k:Um} {n:Int} (hn:-1<=n/\n<=1):kM (Ea M k (.int .i64 n)):=by
 intro k';have h1:=h k';unfold ZM at h1 ⊢;rw [qQ];by_cases e:k'=k
 ·rw [if_pos e]; exact ⟨rfl,hn.1,hn.2⟩
 ·rw [if_neg e]; exact h1
theorem Qa3 {M:Bb} (h:VE M) {k:Um} {b:Bool}:VE (Ea M k (.bool b)):=by
 intro k';have h1:=h k';unfold BV at h1 ⊢;rw [qQ];by_cases e:k'=k
 ·rw [if_pos e]; rfl
 ·rw [if_neg e]; exact h1
theorem A9 {T F:Bb} {s:Int} {n:Um} {k:Nat} (h:VE F):VE (Ob T s n F k):=by
 unfold Ob;generalize (if (3-k) % 2=1 then -s else s)=s'
 split
 ·exact Qa3 h
 ·exact h
theorem pP {T F:Bb} {s:Int} {n:Um} (h:VE F):VE (OG T s n F):=A9 (A9 (A9 (A9 h)))
theorem Qct {x s:Int} (hx:-1<=x/\x<=1) (hs:-1<=s/\s<=1):-9223372036854775808<=x*s/\x*s<=9223372036854775807:=by
 have h:x=-1\/x=0\/x=1:=by omega
 rcases h with rfl | rfl | rfl <;> omega
structure MOk (M:List Pt):Prop where
 sc:∀ p∈M,Sc p.c
 ln:M.length<=6
 so:Nu M
theorem MOk.df {M:List Pt} (h:MOk M):M.Pairwise λx y=>x.id≠y.id:=h.so.imp λh e=>by omega
structure Knd (β:Type) where
 bc:List Pt->Tm->List Ct
 br:List Pt->Tm->β
 al:List Pt->List (List Int)
structure KndOk {β:Type} (k:Knd β):Prop where
 st:∀ M,MOk M->Stab (k.bc M) (k.br M)
 cp:∀ M,MOk M->∀ p∈k.al M,Cp p
 al:∀ M a,∀ x∈k.bc M a,x.p∈k.al M
 ln:∀ M,MOk M->(k.al M).length<=1000000
abbrev kS:Knd Us:=⟨ZL,IG,Ek⟩
abbrev kT:Knd (Us×Us):=⟨AD,pB,Ek⟩
abbrev kH:Knd Us:=⟨NA,brH,λl=>Ek l++ND l⟩
abbrev kP:Knd Us:=⟨sL,brP,AN⟩
abbrev kD:Knd Us:=⟨xF,pN,Qaw⟩
theorem NL {l:List Pt} (h:l.length<=6):(Ek l).length<=72:=by
 rw [kE];exact Qa (Zc h (Zc h (Ql 2))) (by decide)
theorem FQ {α β:Type} {f:α->List β} {n:Nat} (l:List α) (h:∀ x∈l,(f x).length=n):(l.flatMap f).length=l.length*n:=by
 induction l with
 | nil=>simp
 |
  cons x l ih =>
  rw [J1,Qu,h x (by simp),ih λy hy=>h y (Qg _ hy),Q5,X4]; omega
theorem Qml (l:List Pt):(ND l).length=l.length*(l.length*l.length):=by
 unfold ND;exact FQ l λx _=>FQ l λy _=>by simp
theorem Qmj (l:List Pt):(AN l).length=l.length*(l.length*(l.length*l.length)):=by
 unfold AN;exact FQ l λx _=>FQ l λy _=>FQ l λz _=>by simp
theorem okS:KndOk kS:=⟨λM h=>Qy7 h.sc (by have:=h.ln; omega) h.df,λM h=>QJ h.sc,λM a=>dA,λM h=>Qa (NL h.ln) (by decide)⟩
theorem okT:KndOk kT:=⟨λM h=>Qy8 h.sc (by have:=h.ln; omega) h.df,λM h=>QJ h.sc,λM a=>Qmo,λM h=>Qa (NL h.ln) (by decide)⟩
theorem okH:KndOk kH:=⟨λM h=>Qy5 h.sc (by have:=h.ln; omega) h.df,λM h=>MQ h.sc,λM a=>xH,λM h=>by
 have h1:=NL h.ln;have h2:=Qml M;have h3:M.length*(M.length*M.length)<=6*(6*6):=Zc h.ln (Zc h.ln h.ln);show (Ek M++ND M).length<=_;rw [Qu]; omega⟩
theorem okP:KndOk kP:=⟨λM h=>Qy6 h.sc (by have:=h.ln; omega) h.df,λM h=>UZ h.sc,λM a=>dE,λM h=>by
 have h3:M.length*(M.length*(M.length*M.length))<=6*(6*(6*6)):=Zc h.ln (Zc h.ln (Zc h.ln h.ln));show (AN M).length<=_;rw [Qmj]; omega⟩
theorem okD:KndOk kD:=⟨λM h=>Qy4 h.sc h.ln,λM h=>xW h.sc,λM a=>xG,λM h=>Qd5 h.ln⟩
open Classical in
noncomputable def cnt (bc:Tm->List Ct) (q t:Rat):Nat:=if h:∃ E,Evs bc t (tq q) E then (Classical.choose h).length else 0
theorem Qgw {β:Type} {Bc:Tm->List Ct} {Br:Tm->β} (S:Stab Bc Br) {q t:Rat} (hq:Va (tq q)) {E:List Tm} (h:Evs Bc t (tq q) E):cnt Bc q t=E.length:=by
 have hx:∃ E,Evs Bc t (tq q) E:=⟨E,h⟩;unfold cnt;rw [dif_pos hx];exact Qux S hq (Classical.choose_spec hx) h
structure At {β:Type} (k:Knd β) (M:List Pt) (q:Rat) (c:Cr):Prop where
 now:c.now=tq q
 st:KSt (k.bc M) (k.br M) c (k.br M (tq q))
section
variable {β:Type} {k:Knd β} (ok:KndOk k) {M M':List Pt} {q t:Rat} {c:Cr}
include ok
theorem At.again (h:At k M q c) (hM:MOk M'):∃ ws,Tk c.l c.now (Fo (k.bc M' c.now))=some ws/\At k M' q ⟨tq q,ws,c.ev⟩:=by
 obtain ⟨⟨o,kk⟩,hcs,hr⟩:=h.st;have S:=ok.st M' hM;obtain ⟨ws,l1,l2⟩:=nS o.n o.l (Fo (k.bc M' c.now));have o':=Orr.lay_ok c.ev o o.n (S.ok.p _ o.n) (S.ok.n _ o.n) l1;have hl:=aL o.n o.n (λh=>Iy o.n.cut o.n.cut h h) o.l kk l1;rw [h.now] at o' hl l2;exact ⟨ws,l1,rfl,⟨⟨o',hl⟩,l2,rfl⟩⟩
theorem At.adv (h:At k M q c) (hM:MOk M) (ht:Qs 1640000 t) (hqt:q<=t) :
 ∃ (K:Nat) (c':Cr),K<=67000001/\WO (k.bc M) (k.br M) t K c (k.br M (tq q)) 0=some (c',k.br M (tq t),((cnt (k.bc M) q t:Nat):Int))/\At k M t c'/\c'.ev=c.ev+((cnt (k.bc M) q t:Nat):Int)/\cnt (k.bc M) q t<=67000000/\cnt (k.bc M) q t<=((k.al M).flatMap IW).length:=by
 have S:=ok.st M hM;have hP:=ok.cp M hM;have hm:=vN hP;have hmu:=Qsk ((k.al M).flatMap IW) c.now;have hl:=ok.ln M hM;have hv:=h.st.inv.ok.n;have hc:Fp c.now t<=0:=by rw [h.now,sV]; rcases M9 q t with ⟨e,e'⟩ | ⟨e,e'⟩ | ⟨e,e'⟩ <;> first | omega | (exfalso; grind)
 obtain ⟨c',r',E,g1,g2,g3,g4,g5,g6⟩:=Qsd S ht hP (λa _=>ok.al M a) (mu ((k.al M).flatMap IW) c.now) c _ 0 (Ql _) h.st λh'=>by
  have:=(HE hv.cut).2 h'; omega
 have hr:r'=k.br M (tq t):=by rw [g3.r,g2]
 rw [hr] at g1 g3;rw [Int.zero_add] at g1;rw [h.now] at g6;have he:=Qgw S (by rw [<-h.now]; exact hv) g6;rw [he];exact ⟨_,c',by omega,g1,⟨g2,g3⟩,g4,by omega,by omega⟩
end
theorem At.begin {β:Type} {k:Knd β} (ok:KndOk k) {M:List Pt} {q:Rat} (hM:MOk M) (hq:Qs 1640000 q):At k M q ⟨tq q,(Fo (k.bc M (tq q))).map fresh,0⟩:=⟨rfl,Qee (ok.st M hM) (AG hq)⟩
end Orq
namespace Orr
open Go Go.Proofs Tryz Orq
set_option maxRecDepth 10000
abbrev Td (c:Cr) (r0:Us) (r1:Us×Us):Ur:=.bool true::pl c.now.p::sg c.now.lo.num::mg c.now.lo.num::sg (c.now.lo.den:Int)::mg (c.now.lo.den:Int)::sg c.now.hi.num::mg c.now.hi.num::sg (c.now.hi.den:Int)::mg (c.now.hi.den:Int)::.row (Cd c.l)::.int .i64 c.ev::[.row r0,.row r1.1,.row r1.2]
abbrev Quh (r0:LV) (r1:LV×LV):Ur:=[.bool false,.nils,.bool false,.nils,.bool false,.nils,.bool false,.nils,.bool false,.nils,.nils,.int .i64 0,r0,r1.1,r1.2]
theorem mJ {T:Nat} {c:Cr} {r0:Us} {r1:Us×Us} (hc:Va c.now):U6 prog 345 [.one (.ow 0 0)] [.blk T (Td c r0 r1)] [.agg (ta c.now)] [.blk T (Td c r0 r1)]:=by
 have cl:=S9 (b:=c.now) (l:=[]) hc.tb (λt ht=>by cases ht) (by decide) rfl;refine Fv func345 rfl ?_;exact Uh [] [0] [.f rfl,.k cl] rfl
theorem Qfk {T:Nat} {c:Cr} {r0:Us} {r1:Us×Us} (hc:CrOk c):U6 prog 334 [.one (.ow 0 0)] [.blk T (Td c r0 r1)] [.one (.row (U8 (Fo (c.l.map (·.c)))))] [.blk T (Td c r0 r1)]:=by
 have hk:=hc.k;have hw:=Tp c.l;refine Fv func334 rfl ?_;refine Ud [.o 3 144 7] rfl ?_;refine Ui (S:=Nat) 2 (λL1 i=>(11,.v (.oi i))::(3,.v (.one (.orow 1 7 none)))::L1) (λi=>[.blk T (Td c r0 r1),.row false 144 7 (U8 ((c.l.map (·.c)).take i))]) (λi=>c.l.length-i) (λi=>i<=c.l.length) 0 (Qh _) rfl rfl λi hi=>?_
 by_cases hlt:i<c.l.length
 ·obtain ⟨x,hx⟩:=gxE (l:=c.l) (i:=i) hlt;have hm:∀ y∈[Dq x.c],y.length=7:=λy hy=>by rw [Qk.1 hy]; rfl
  have hg:(c.l.map (·.c)).take (i+1)=(c.l.map (·.c)).take i++[x.c]:=by
   rw [Zv,Q8,hx]; rfl
  have hl:decide ((i:Int)<((Cd c.l).length:Int))=true:=by simp [hw]; omega
  obtain ⟨xc,xk,xf⟩:=x;cases xf <;> (refine go tt [.t hl,.x (Hr hx),.s (sz:=7) hm] rfl (by simp [U3,Pn]; omega) ?_; exact rd (i+1) (by omega) hlt (by rw [hg]; simp [U8]; rfl))
 ·obtain rfl:i=c.l.length:=by omega
  have e:(c.l.map (·.c)).take c.l.length=c.l.map (·.c):=Qn (by simp);rw [e];have cs:=HM (l:=c.l.map (·.c)) (λx hx=>by
   obtain ⟨w,hw,rfl⟩:=Za.1 hx;exact Dp.pb (hc.l w hw).p.dp) (by simp; omega)
  exact Uh [] [0] [.f (by simp [hw]),.k cs] rfl
theorem Qnl {T:Nat} {c:Cr} {r0:Us} {r1:Us×Us} {x:Ct} {at_:Tm} {w:Wt} (hc:CrOk c) (hx:Cp x.p) (ha:Va at_) (h:Co c.l x at_=some w):U6 prog 168 [.one (.ow 0 0),.agg (Dq x),.agg (ta at_)] [.blk T (Td c r0 r1)] [.agg (wl w)] [.blk T (Td c r0 r1)]:=by
 have hk:=hc.k;have hw:=Tp c.l;refine Fv func168 rfl ?_;refine Ud [] rfl ?_;refine Ui (S:=Nat) 4 (λL1 i=>(14,.v (.oi i))::L1) (λ_=>[.blk T (Td c r0 r1),.blk 144 (Dq x),.blk 40 (ta at_),.blk 266 [.int .i64 0,.int .i64 0,.int .i64 0,.int .i64 0,.int .i64 0,.nils,.int .i64 0,.bool false,.bool false,.nils,.bool false,.nils,.bool false,.nils,.bool false,.nils,.bool false,.nils]]) (λi=>c.l.length-i) (λi=>i<=c.l.length/\Co (c.l.drop i) x at_=some w) 0 ⟨Qh _,h⟩ rfl rfl λi ⟨hi,hf⟩=>?_
 by_cases hlt:i<c.l.length
 ·obtain ⟨v,hv⟩:=gxE (l:=c.l) (i:=i) hlt;have hdr:c.l.drop i=v::c.l.drop (i+1):=by
   rw [Zp hlt]; congr 1;have:=Qe hlt; rw [hv] at this; injection this with this; exact this.symm
  have hvo:=hc.l v (Qc hv);rw [hdr] at hf;simp only [Co] at hf;have hl:decide ((i:Int)<((Cd c.l).length:Int))=true:=by simp [hw]; omega
  by_cases A:tH v.c x=true
  ·have A':(!decide ([v.c.kind,v.c.i0,v.c.i1,v.c.i2,v.c.i3]=[x.kind,x.i0,x.i1,x.i2,x.i3]))=false:=by
    unfold tH at A; rw [A]; rfl
   by_cases B:v.known=true
   ·have B':(!v.known)=false:=by rw [B]; rfl
    have cs:=MV (p:=v.c.p) (q:=x.p) (Dp.pb hvo.p.dp).ln (Dp.pb hx.dp).ln (Dp.pb hvo.p.dp).bd (Dp.pb hx.dp).bd;rw [hvo.p.t,hx.t] at cs;by_cases C:v.c.p=x.p
    ·have C':(!decide (v.c.p=x.p))=false:=by simp [C]
     rw [if_pos ⟨A,B,C⟩] at hf;obtain ⟨vc,vk,vf⟩:=v;cases vf with
     |
      none =>
      injection hf with hf; subst hf;exact Uh [] [0] [.t hl,.x (Hr hv),.g 24 false A',.g 29 false B',.k cs,.f C',.g 41 true rfl,.t rfl] rfl
     |
      some t =>
      obtain ⟨r,r1',hf⟩:=Qd.1 hf;have cc:=KG (hvo.f t rfl).tb ha.tb r1';by_cases D:0<r
      ·rw [if_pos D] at hf;injection hf with hf; subst hf;exact Uh [] [0] [.t hl,.x (Hr hv),.g 24 false A',.g 29 false B',.k cs,.f C',.g 41 false rfl,.k cc,.t (by simpa using D)] rfl
      ·rw [if_neg D] at hf;refine Ue [.t hl,.x (Hr hv),.g 24 false A',.g 29 false B',.k cs,.f C',.g 41 false rfl,.k cc,.f (by simpa using D)] rfl ?_;exact rd (i+1) (by omega) ⟨hlt,hf⟩ rfl
    ·rw [if_neg λh=>C h.2.2] at hf;refine Ue [.t hl,.x (Hr hv),.g 24 false A',.g 29 false B',.k cs,.t (by simp [C])] rfl ?_;exact rd (i+1) (by omega) ⟨hlt,hf⟩ rfl
   ·rw [if_neg λh=>B h.2.1] at hf;refine Ue [.t hl,.x (Hr hv),.g 24 false A',.g 29 true (by simpa using B),.t rfl] rfl ?_;exact rd (i+1) (by omega) ⟨hlt,hf⟩ rfl
  ·rw [if_neg λh=>A h.1] at hf;refine Ue [.t hl,.x (Hr hv),.g 24 true (by rw [show decide ([v.c.kind,v.c.i0,v.c.i1,v.c.i2,v.c.i3]=[x.kind,x.i0,x.i1,x.i2,x.i3])=false from Wu.2 A]; rfl),.g 29 true rfl,.t rfl] rfl ?_;exact rd (i+1) (by omega) ⟨hlt,hf⟩ rfl
 ·obtain rfl:i=c.l.length:=by omega
  rw [Yt] at hf;simp only [Co] at hf;injection hf with hf; subst hf;exact Uh [] [0] [.f (by simp [hw])] rfl
theorem lG {T:Nat} {c:Cr} {r0:Us} {r1:Us×Us} {at_:Tm} {l:List Ct} {ws:List Wt} (hc:CrOk c) (ha:Va at_) (hl:∀ x∈l,Cp x.p) (hn:l.length≤1000) (h:Tk c.l at_ (Fo l)=some ws):U6 prog 106 [.one (.ow 0 0),.agg (ta at_),.one (.bool true),.one (.row (U8 l))] [.blk T (Td c r0 r1)] [] [.blk T (Td ⟨at_,ws,c.ev⟩ r0 r1)]:=by
 have cs:=HM (l:=l) (λx hx=>Dp.pb (hl x hx).dp) (by omega);have cl:=S9 (b:=at_) (l:=[]) ha.tb (λt ht=>by cases ht) (by decide) rfl;obtain ⟨h1,h2⟩:=XL h;have hs:(Fo l).length=l.length:=Mx l;refine Fv func106 rfl ?_;refine Ud [.o 8 266 18,.k cs] rfl ?_;refine Ui (S:=Nat) 3 (λL1 i=>(15,.v (.oi i))::(8,.v (.one (.orow 2 18 none)))::L1) (λi=>[.blk T (Td c r0 r1),.blk 40 (ta at_),.row false 266 18 (Cd (ws.take i))]) (λi=>ws.length-i) (λi=>i<=ws.length) 0 (Qh _) rfl rfl λi hi=>?_
 by_cases hlt:i<ws.length
 ·obtain ⟨x,hx⟩:=gxE (l:=(Fo l)) (i:=i) (by omega);obtain ⟨w,hw,hw'⟩:=h2 i x hx;have hm:∀ y∈[wl w],y.length=18:=λy hy=>by rw [Qk.1 hy]; rfl
  have hlt':decide ((i:Int)<((U8 (Fo l)).length:Int))=true:=by simp [U8]; omega
  have ck:=Qnl (T:=T) (r0:=r0) (r1:=r1) hc (hl x (Tc (Qc hx))) ha hw;have hg:=Ad hw';obtain ⟨wc,wk,wf⟩:=w;cases wf <;> (refine go tt [.t hlt',.x (XJ hx),.t rfl,.c [0] ck,.s (sz:=18) hm] rfl (by simp [U3,Tp]; omega) ?_; exact rd (i+1) (by omega) hlt (by rw [hg]; rfl))
 ·obtain rfl:i=ws.length:=by omega
  rw [Q6];have hge:decide ((ws.length:Int)<((U8 (Fo l)).length:Int))=false:=by simp [U8]; omega
  exact Uh [] [0] [.f hge,.p 2,.k cl] rfl
theorem Qnm {T:Nat} {r0:Us} {r1:Us×Us} {at_:Tm} {l:List Ct} (ha:Va at_) (hl:∀ x∈l,Cp x.p) (hn:l.length≤1000):U6 prog 106 [.one (.ow 0 0),.agg (ta at_),.one (.bool false),.one (.row (U8 l))] [.blk T (Quh (.row r0) (.row r1.1,.row r1.2))] [] [.blk T (Td ⟨at_,(Fo l).map fresh,0⟩ r0 r1)]:=by
 have cs:=HM (l:=l) (λx hx=>Dp.pb (hl x hx).dp) (by omega);have cl:=S9 (b:=at_) (l:=[]) ha.tb (λt ht=>by cases ht) (by decide) rfl;have hs:(Fo l).length=l.length:=Mx l;refine Fv func106 rfl ?_;refine Ud [.o 8 266 18,.k cs] rfl ?_;refine Ui (S:=Nat) 3 (λL1 i=>(15,.v (.oi i))::(8,.v (.one (.orow 2 18 none)))::L1) (λi=>[.blk T (Quh (.row r0) (.row r1.1,.row r1.2)),.blk 40 (ta at_),.row false 266 18 (Cd (((Fo l).map fresh).take i))]) (λi=>l.length-i) (λi=>i<=l.length) 0 (Qh _) rfl rfl λi hi=>?_
 by_cases hlt:i<l.length
 ·obtain ⟨x,hx⟩:=gxE (l:=(Fo l)) (i:=i) (by omega);have hm:∀ y∈[wl (fresh x)],y.length=18:=λy hy=>by rw [Qk.1 hy]; rfl
  have hlt':decide ((i:Int)<((U8 (Fo l)).length:Int))=true:=by simp [U8]; omega
  have hg:=Ad (l:=(Fo l).map fresh) (i:=i) (w:=fresh x) (by rw [Q8,hx]; rfl);refine go tt [.t hlt',.x (XJ hx),.z 20,.f rfl,.s (sz:=18) hm] rfl (by simp [U3,Tp]; omega) ?_;exact rd (i+1) (by omega) hlt (by rw [hg]; rfl)
 ·obtain rfl:i=l.length:=by omega
  rw [Qn (by simp; omega)];have hge:decide ((l.length:Int)<((U8 (Fo l)).length:Int))=false:=by simp [U8]; omega
  exact Uh [] [0] [.f hge,.p 2,.k cl] rfl
theorem Qbj {T:Nat} {r0:Us} {r1:Us×Us} {at_:Tm} {l:List Ct} (ha:Va at_) (hl:∀ x∈l,Cp x.p) (hn:l.length≤1000):U6 prog 70 [.one (.ow 0 0),.agg (ta at_),.one (.row (U8 l))] [.blk T (Quh (.row r0) (.row r1.1,.row r1.2))] [] [.blk T (Td ⟨at_,(Fo l).map fresh,0⟩ r0 r1)]:=by
 have cl:=Qnm (T:=T) (r0:=r0) (r1:=r1) ha hl hn;refine Fv func70 rfl ?_;exact Uh [] [0] [.g 12 false rfl,.c [0] cl] rfl
theorem Qbk {T:Nat} {c:Cr} {r0:Us} {r1:Us×Us} {at_:Tm} {l:List Ct} {ws:List Wt} {k:Int} (hc:CrOk c) (ha:Va at_) (hk:US at_ c.now=some k) (h0:0≤k) (hl:∀ x∈l,Cp x.p) (hn:l.length≤1000) (h:Tk c.l at_ (Fo l)=some ws):U6 prog 70 [.one (.ow 0 0),.agg (ta at_),.one (.row (U8 l))] [.blk T (Td c r0 r1)] [] [.blk T (Td ⟨at_,ws,c.ev⟩ r0 r1)]:=by
 have cl:=lG (T:=T) (r0:=r0) (r1:=r1) hc ha hl hn h;have cc:=KG ha.tb hc.n.tb hk;refine Fv func70 rfl ?_;exact Uh [] [0] [.g 12 true rfl,.k cc,.r 20 (eB (show decide (0<=k)=true by simpa using h0)),.c [0] cl] rfl
theorem Qnn {T:Nat} {c:Cr} {r0:Us} {r1:Us×Us} {ws:List Wt} (hc:CrOk c) (h:Oh c.now c.l=some ws):U6 prog 340 [.one (.ow 0 0)] [.blk T (Td c r0 r1)] [] [.blk T (Td { c with l:=ws } r0 r1)]:=by
 have hk:=hc.k;have hw:=Tp c.l;obtain ⟨h1,h2⟩:=YA h;refine Fv func340 rfl ?_;refine Ud [.o 2 266 18,.c [0] (mJ hc.n)] rfl ?_;refine Ui (S:=Nat) 3 (λL1 i=>(13,.v (.oi i))::(2,.v (.one (.orow 1 18 none)))::L1) (λi=>[.blk T (Td c r0 r1),.row false 266 18 (Cd (ws.take i)),.blk 40 (ta c.now)]) (λi=>c.l.length-i) (λi=>i<=c.l.length) 0 (Qh _) rfl rfl λi hi=>?_
 by_cases hlt:i<c.l.length
 ·obtain ⟨w,hx⟩:=gxE (l:=c.l) (i:=i) hlt;obtain ⟨v,hv,h3⟩:=h2 i w hx;have hm:∀ y∈[wl v],y.length=18:=λy hy=>by rw [Qk.1 hy]; rfl
  have hg:=Ad hv;have hl:decide ((i:Int)<((Cd c.l).length:Int))=true:=by simp [hw]; omega
  rcases h3 with ⟨k1,rfl⟩ | ⟨k1,r,k2,rfl⟩
  ·obtain ⟨vc,vk,vf⟩:=v;cases vf <;> (refine go tt [.t hl,.x (Hr hx),.f (by rw [show vk=true from k1]; rfl),.s (sz:=18) hm] rfl (by simp [U3,Tp]; omega) ?_; exact rd (i+1) (by omega) hlt (by rw [hg]; rfl))
  ·have cg:=wK (hc.l w (Qc hx)).p hc.n k2;obtain ⟨wc,wk,wf⟩:=w;cases r <;> cases wf <;> (refine go tt [.t hl,.x (Hr hx),.t (by rw [show wk=false from k1]; rfl),.k cg,.s (sz:=18) hm] rfl (by simp [U3,Tp]; omega) ?_; exact rd (i+1) (by omega) hlt (by rw [hg]; rfl))
 ·obtain rfl:i=c.l.length:=by omega
  rw [<-h1,Q6];exact Uh [1] [0] [.f (by simp [hw,h1])] rfl
theorem Qno {T:Nat} {c:Cr} {r0:Us} {r1:Us×Us} {ws:List Wt} {r:Option Tm} (hc:CrOk c) (h:Oh c.now c.l=some ws) (hr:IY ws=some r):U6 prog 337 [.one (.ow 0 0)] [.blk T (Td c r0 r1)] [.agg (ota r),.one (.bool r.isSome)] [.blk T (Td { c with l:=ws } r0 r1)]:=by
 have hcl:=Qnn (T:=T) (r0:=r0) (r1:=r1) hc h;have hc':=Et hc h;have hk:=hc'.k;have hw:=Tp ws;have hvb:∀ t∈ws.filterMap (·.fails),Tb t:=λt ht=>by
  obtain ⟨w,w1,w2⟩:=Jh.1 ht;exact ((hc'.l w w1).f t w2).tb
 refine Fv func337 rfl ?_;refine Ud [.c [0] hcl,.o 4 40 9] rfl ?_;refine Ui (S:=Nat) 3 (λL1 i=>(14,.v (.oi i))::(4,.v (.one (.orow 2 9 none)))::L1) (λi=>[.blk T (Td { c with l:=ws } r0 r1),.blk 40 zTm,.row false 40 9 (tal ((ws.take i).filterMap (·.fails)))]) (λi=>ws.length-i) (λi=>i<=ws.length) 0 (Qh _) rfl rfl λi hi=>?_
 by_cases hlt:i<ws.length
 ·obtain ⟨w,hx⟩:=gxE (l:=ws) (i:=i) hlt;have hl:decide ((i:Int)<((Cd ws).length:Int))=true:=by simp [hw]; omega
  have hfl:((ws.take i).filterMap (·.fails)).length<=i:=Qa (Vb _ _) (by rw [Qq]; omega);have hg:(ws.take (i+1)).filterMap (·.fails)=(ws.take i).filterMap (·.fails)++(match w.fails with | none=>[] | some t=>[t]):=by
   rw [Zv,hx,List.filterMap_append];show _++List.filterMap (·.fails) [w]=_;cases hwf:w.fails <;> simp [hwf]
  obtain ⟨wc,wk,wf⟩:=w;have hk:ws.length<=1000:=hk;cases wf with
  |
   none =>
   refine Ue [.t hl,.x (Hr hx),.f rfl] rfl ?_;exact rd (i+1) (by omega) hlt (by rw [hg]; simp; rfl)
  |
   some t =>
   refine Ue [.t hl,.x (Hr hx),.t rfl,.s (l:=[ta t]) (sz:=9) (λc hc=>by rw [Qk.1 hc]; rfl)] rfl ?_;exact rd (i+1) (by omega) hlt (by rw [hg]; simp [tal]; rfl)
 ·obtain rfl:i=ws.length:=by omega
  rw [Q6];have hf:decide ((ws.length:Int)<((Cd ws).length:Int))=false:=by simp [hw]
  have hln:(ws.filterMap (·.fails)).length<=1000:=Qa (Vb _ _) hk;unfold IY at hr;cases hfm:ws.filterMap (·.fails) with
  |
   nil =>
   rw [hfm] at hr;injection hr with hr; subst hr;exact Uh [] [0] [.f hf,.p 2,.k wW] rfl
  |
   cons b l =>
   rw [hfm] at hr hvb hln;obtain ⟨m,m1,rfl⟩:=Yx.1 hr;have cl:=S9 (hvb b (Qy ..)) (λt ht=>hvb t (Qg _ ht)) (by simp at hln; omega) m1;exact Uh [] [0] [.f hf,.p 2,.k cl] rfl
theorem Qxz {T:Nat} {t:Rat} {Bc:Tm->List Ct} {Br:Tm->Us×Us} {r0:Us} (ht:Qs 1640000 t) (hB:BuildOk Bc)
 (hb:∀ a c r1,Va a->CrOk c->U6 prog 72 [.one (.ow 0 0),.agg (ta a)] [.blk T (Td c r0 r1)] [.one (.row (U8 (Bc a)))] [.blk T (Td c r0 (Br a))])
 {K:Nat} {c c':Cr} {r1 r1':Us×Us} {n:Int} (hc:CrOk c) (hev:0<=c.ev/\c.ev+K<=1000000000000000000) (h:Fp c.now t<=0) (hg:WO Bc Br t K c r1 0=some (c',r1',n)) :
 U6 prog 341 [.one (.ow 0 0),.agg (rl t),.one (.ofn 72 [.ow 0 0] [])] [.blk T (Td c r0 r1)] [.oi n,.oi 0] [.blk T (Td c' r0 r1')]:=by
 have qt:Qb t:=ht.mono (by decide);have c1:=Dk hc.n.tb qt;refine Fv func341 rfl ?_;refine Ud [.c [0] (mJ hc.n),.k c1,.f (by simpa using h)] rfl ?_;refine Ui (S:=Nat×Cr×(Us×Us)×Int) 2 (λL1 s=>(8,.v (.oi s.2.2.2))::L1) (λs=>[.blk T (Td s.2.1 r0 s.2.2.1),.blk 38 (rl t)]) (λs=>s.1) (λs=>CrOk s.2.1/\(0<=s.2.1.ev/\s.2.1.ev+s.1<=1000000000000000000)/\(0<=s.2.2.2/\s.2.2.2+s.1<=1000000000000000000)/\WO Bc Br t s.1 s.2.1 s.2.2.1 s.2.2.2=some (c',r1',n)) (K,c,r1,0) ⟨hc,hev,⟨Int.le_refl 0,by dsimp only; omega⟩,hg⟩ rfl rfl λ⟨k,x,r,m⟩ ⟨j1,j2,j3,j4⟩=>?_
 dsimp only at j1 j2 j3 j4 ⊢;cases k with
 | zero=>cases j4
 |
  succ k =>
  simp only [WO] at j4;obtain ⟨ws,w1,j4⟩:=Qd.1 j4;obtain ⟨o,o1,j4⟩:=Qd.1 j4;have cn:=Qno (T:=T) (r0:=r0) (r1:=r) j1 w1 o1;have ca:=VI (U4 t.num) (U4 (t.den:Int)) (Qa ht.1 (by decide)) (Qa ht.2 (by decide)) (by rw [Su]; exact ht.mono (by decide));rw [Su] at ca;cases o with
  |
   none =>
   injection j4 with j4; injection j4 with e1 j4; injection j4 with e2 e3;subst e1; subst e2; subst e3;exact Uh [] [0] [.c [0] cn,.g 25 true rfl,.t rfl,.k ca] rfl
  |
   some a =>
   have ha:=LC j1 w1 o1;dsimp only at j4;have cc:=Dk ha.tb qt;by_cases h0:0<Fp a t
   ·rw [if_pos h0] at j4;injection j4 with j4; injection j4 with e1 j4; injection j4 with e2 e3;subst e1; subst e2; subst e3;exact Uh [] [0] [.c [0] cn,.g 25 false rfl,.k cc,.t (by simpa using h0),.k ca] rfl
   ·rw [if_neg h0] at j4;obtain ⟨w2,l1,j4⟩:=Qd.1 j4;have j1':=Et j1 w1;have cl:=S9 (b:=a) (l:=[]) ha.tb (λt ht=>by cases ht) (by decide) rfl;have cb:=hb a { x with l:=ws } r ha j1';have cy:=lG (T:=T) (r0:=r0) (r1:=Br a) j1' ha (hB.p a ha) (hB.n a ha) l1;have hf:decide (0<Fp a t)=false:=by simpa using h0
    refine Ue [.c [0] cn,.g 25 false rfl,.k cc,.f hf,.k cl,.c [0] cb,.c [0] cy] rfl ?_;exact rd (k,⟨a,w2,x.ev+1⟩,Br a,m+1) (by dsimp only; omega) ⟨lay_ok _ j1' ha (hB.p a ha) (hB.n a ha) l1,by dsimp only; omega,by dsimp only; omega,j4⟩ rfl
theorem Qbl {T:Nat} {c:Cr} {r0:Us} {r1:Us×Us}:U6 prog 336 [.one (.ow 0 0)] [.blk T (Td c r0 r1)] [.oi c.ev] [.blk T (Td c r0 r1)]:=by
 refine Fv func336 rfl ?_;exact Uh [] [0] [] rfl
end Orr
namespace Orr
open Go Go.Proofs Tryz Orq
def PP (k:Crv):Int:=max (max 0 ((k.x.length:Int)-1)) ((k.y.length:Int)-1)
structure Es where
 np:Int
 nd:Int
 M:List Pt
 q:Rat
 s:Cr
 t:Cr
 h:Cr
 p:Cr
 d:Cr
structure Em where
 np:Int
 nd:Int
 M:List Pt
 q:Rat
 s:Int
 t:Int
 h:Int
 p:Int
 d:Int
def Es.m (E:Es):Em:=⟨E.np,E.nd,E.M,E.q,E.s.ev,E.t.ev,E.h.ev,E.p.ev,E.d.ev⟩
structure MEn (np nd:Int) (M:List Pt):Prop where
 m:MOk M
 len:(M.length:Int)<=np
 deg:∀ p∈M,PP p.c≤nd
 id:∀ p∈M,0≤p.id/\p.id≤1048576
structure EOk (b:Int) (E:Es):Prop where
 np:1<=E.np/\E.np<=6
 nd:0<=E.nd/\E.nd<=2
 m:MEn E.np E.nd E.M
 q:Qs 128 E.q
 s:At kS E.M E.q E.s
 t:At kT E.M E.q E.t
 h:At kH E.M E.q E.h
 p:At kP E.M E.q E.p
 d:At kD E.M E.q E.d
 es:0<=E.s.ev/\E.s.ev<=b
 et:0<=E.t.ev/\E.t.ev<=b
 eh:0<=E.h.ev/\E.h.ev<=b
 ep:0<=E.p.ev/\E.p.ev<=b
 ed:0<=E.d.ev/\E.d.ev<=b
theorem EOk.mono {b c:Int} {E:Es} (h:EOk b E) (hb:b<=c):EOk c E:={ h with es:=⟨h.es.1,by have:=h.es.2; omega⟩,et:=⟨h.et.1,by have:=h.et.2; omega⟩,eh:=⟨h.eh.1,by have:=h.eh.2; omega⟩,ep:=⟨h.ep.1,by have:=h.ep.2; omega⟩,ed:=⟨h.ed.1,by have:=h.ed.2; omega⟩ }
abbrev uL (k:Nat) (q:Rat):Ur:=[.ow (k+1) 0,sg q.num,mg q.num,sg (q.den:Int),mg (q.den:Int),.ow (k+2) 0,.ow (k+3) 0,.ow (k+4) 0,.ow (k+5) 0,.ow (k+6) 0]
abbrev taR (np nd:Int) (M:List Pt):Ur:=[.int .i64 np,.int .i64 nd,pts M]
abbrev bS (c:Cr) (M:List Pt) (q:Rat):OB:=.blk 156 (Hl c (U0 M) (IG M (tq q)))
abbrev bT (c:Cr) (M:List Pt) (q:Rat):OB:=.blk 162 (Td c (U0 M) (pB M (tq q)))
abbrev bH (c:Cr) (M:List Pt) (q:Rat):OB:=.blk 164 (Hl c (U0 M) (brH M (tq q)))
abbrev bP (c:Cr) (M:List Pt) (q:Rat):OB:=.blk 166 (Hl c (U0 M) (brP M (tq q)))
abbrev bD (c:Cr) (M:List Pt) (q:Rat):OB:=.blk 168 (Hl c (U0 M) (pN M (tq q)))
abbrev enB (k:Nat) (E:Es):Ut:=[.blk 51 (uL k E.q),.blk 116 (taR E.np E.nd E.M),bS E.s E.M E.q,bT E.t E.M E.q,bH E.h E.M E.q,bP E.p E.M E.q,bD E.d E.M E.q]
end Orr
namespace Orr
open Go Go.Proofs Tryz Orq
set_option maxRecDepth 10000
theorem VQ {l:List Pt} {id:Int} (h:has l id=true):Rw l id<l.length:=by
 rcases Zb (Rw l id) l.length with h1 | h1
 ·exact h1
 ·simp [has,Qw h1] at h
theorem UG {lx ly:Us} {px py:Um} {x y:LV} {d id:Int} {l:List Pt} (hx:IsInts lx px) (hy:IsInts ly py) (hd:Gd x y d) (hk:Cs 4294967294 1073741824 (Crv.mk px py d)) (hl:l.length<=1000000) (h:has l id=true) :
 Uj 344 [.agg [pts l],.agg [.row lx,.row ly,x,y,.int .i64 id]] [.agg [pts (l.set (Rw l id) (Pt.mk (Crv.norm (Crv.mk px py d)) id))],.oi 0]:=by
 have ca:=Qft (l:=l) id (by omega);have cf:=lM hx hy hd hk id;obtain ⟨b,r,rfl,rfl,_⟩:=hd;obtain ⟨q,hq⟩:=nmE (Pt.mk (Crv.norm (Crv.mk px py d)) id);rw [<-hq] at cf ⊢;have hpl:=VQ h;rw [h] at ca;have e:pts (l.set (Rw l id) q)=.row ((l.map Fc).set (Rw l id) (Fc q)):=by unfold pts; rw [List.map_set]
 rw [e];exact Ug func344 rfl [.k ca,.f rfl,.s (Sp l),.k cf,.i (Rw l id)] rfl rfl (by simp [U3]; omega)
theorem UU {l:List Pt} {id:Int} (hl:l.length<=1000000) (h:has l id=true) :
 Uj 343 [.agg [pts l],.oi id] [.agg [pts (l.take (Rw l id)++l.drop (Rw l id+1))],.oi 0]:=by
 have ca:=Qft (l:=l) id (by omega);have hpl:=VQ h;rw [h] at ca;have s1:∀ c∈(l.map Fc).take (Rw l id),c.length=5:=λc hc=>Sp l c (Qo hc)
 have s3:∀ c∈(l.map Fc).drop (Rw l id+1),c.length=5:=λc hc=>Sp l c (Qz hc)
 have e:pts (l.take (Rw l id)++l.drop (Rw l id+1))=.row ((l.map Fc).take (Rw l id)++(l.map Fc).drop (Rw l id+1)):=by unfold pts; rw [List.map_append,List.map_take,List.map_drop]
 rw [e];refine Ug func343 rfl [.k ca,.f rfl,.i (Rw l id),.s s1,.i (Rw l id+1),.s s3] rfl ?_ ?_
 ·simp
 ·have h1:(List.map Fc l).length=l.length:=by simp
  have h2:∀ z∈List.map Fc l,z.length=ti62.sz:=Sp l;simp only [U3,Qq,Q7,h1]
  and_intros <;> first | exact h2 | omega
theorem kG (l:Uo):(lm l).length=l.length:=by simp [lm]
theorem ZN {z:Int}:(Gb z.natAbs).length<=4↔Fe z<=128:=by
 constructor
 ·intro h;have h1:=Bv (Gb z.natAbs) (Do z.natAbs).1;rw [G9] at h1;refine Sw.2 (Z6 h1 (Qa (Zs (by decide) h) (by decide)))
 ·intro h;have:=Rm (x:=z.natAbs) (k:=128) h;omega
def ZJ (k:Crv):Bool:=(k.x++k.y++[k.d]).all λz=>decide (Fe z<=128)
theorem EL {k:Crv}:ZJ k=true↔(∀ z∈k.x,Fe z≤128)/\(∀ z∈k.y,Fe z≤128)/\Fe k.d≤128:=by
 unfold ZJ;simp only [List.all_append,Zn,Jt,decide_eq_true_iff,Qk,forall_eq];constructor
 ·rintro ⟨⟨h1,h2⟩,h3⟩; exact ⟨h1,h2,h3⟩
 ·rintro ⟨h1,h2,h3⟩; exact ⟨⟨h1,h2⟩,h3⟩
theorem WN {k:Crv} {z:Int} (hz:z∈k.x++k.y++[k.d]) (h:¬Fe z<=128):ZJ k=false:=by
 unfold ZJ;rw [<-Bool.not_eq_true,Jt];intro h';exact h (of_decide_eq_true (h' z hz))
abbrev tB (np nd:Int) (l:List Pt):OB:=.blk 116 (taR np nd l)
theorem lE {np nd:Int} {l:List Pt} (id:Int) (hl:l.length<1073741824):U6 prog 120 [.one (.ow 0 0),.oi id] [tB np nd l] [.oi (Rw l id:Int),.one (.bool (has l id))] [tB np nd l]:=by
 refine Fv func120 rfl ?_;refine Ud [] rfl ?_;refine ct 2 (S:=Unit) (λ_=>[(1,.v (.oi id)),(0,.v (.one (.ow 0 0))),(6,.v (.oi (Rw l id:Int)))]) (λ_=>[tB np nd l]) (λ_=>True) rfl ?_ ?_
 ·refine Ui (S:=Nat) 1 (λL1 k=>(6,.v (.oi k))::L1) (λ_=>[tB np nd l]) (λk=>l.length-k) (λk=>k<=l.length/\∀ j p,j<k->l[j]? = some p->p.id<id) 0 ⟨Qh _,λj p h=>by omega⟩ rfl rfl λk ⟨hk,hlt⟩=>?_
  by_cases h:k<l.length
  ·obtain ⟨p,hp⟩:=gxE (l:=l) (i:=k) h;by_cases hid:p.id<id
   ·refine Ue [.t (by simp; omega),.x (Tg hp),.t (by simpa using hid)] rfl ?_;exact rd (k+1) (by omega) ⟨h,λj q hj hq=>by
     rcases Zb j k with h2 | h2
     ·exact hlt j q h2 hq
     ·have:j=k:=by omega
      subst this; rw [hp] at hq; injection hq with hq; rw [<-hq]; exact hid⟩ rfl
   ·have e:=EU hlt (.inr ⟨p,hp,hid⟩);refine Ud [.t (by simp; omega),.x (Tg hp),.f (by simpa using hid)] rfl ?_;rw [e];exact rc () trivial rfl
  ·obtain rfl:k=l.length:=by omega
   have e:=EU hlt (.inl rfl);refine Ud [.f (by simp),.f rfl] rfl ?_;rw [e];exact rc () trivial rfl
 ·intro _ _;by_cases h:Rw l id<l.length
  ·obtain ⟨p,hp⟩:=gxE (l:=l) (i:=Rw l id) h;have e:has l id=decide (p.id=id):=by simp [has,hp]
   rw [e];exact Uh [] [0] [.g 36 true (by simp; omega),.x (Tg hp)] rfl
  ·have e:has l id=false:=by simp [has,Qw (J8 h)]
   rw [e];exact Uh [] [0] [.g 36 false (by simp; omega)] rfl
theorem HC {lx ly:Us} {px py:Um} {x y:LV} {d:Int} (hx:IsInts lx px) (hy:IsInts ly py) (hd:Gd x y d) (hk:Cs 4294967294 1073741824 (Crv.mk px py d)) (id:Int):Uj 97 [.agg [.row lx,.row ly,x,y,.int .i64 id]] [.agg (Fc ⟨Crv.norm (Crv.mk px py d),id⟩)]:=by
 have cd:=Mm hd (Qa hk.d (by omega));by_cases h0:d=0
 ·subst h0;have ck:Cs 4294967294 1073741824 (Crv.mk px py 1):=⟨hk.x,hk.y,show Fe 1<=4294967294 by decide,hk.lx,hk.ly⟩;have cm:=UF hx hy (U4 1) ck (by decide);have e:Crv.norm (Crv.mk px py 1)=Crv.norm (Crv.mk px py 0):=by simp only [Crv.norm,Crv.g,Crv.d']; rfl
  rw [e] at cm;obtain ⟨b,l,rfl,rfl,_⟩:=hd;exact Ug func97 rfl [.k cd,.k Dl,.t (by simp),.k (BH (z:=1) (by decide)),.k cm] rfl
 ·have cm:=UF hx hy hd hk h0;obtain ⟨b,l,rfl,rfl,_⟩:=hd;exact Ug func97 rfl [.k cd,.k Dl,.f (by simpa using h0),.k cm] rfl
theorem mG {p:Pt} (hn:ZA p.c) (hk:Cs 4294967294 1073741824 p.c):Uj 97 [.agg (Fc p)] [.agg (Fc p)]:=by
 have h:=HC (Gn p.c.x) (Gn p.c.y) (U4 p.c.d) hk p.id;rw [show Crv.mk p.c.x p.c.y p.c.d=p.c from rfl,Crv.norm_of hn] at h; exact h
theorem Qge {k:Crv} (hk:Cs 4294967294 1073741824 k):Uj 184 [.agg (cl k)] [.one (.bool (ZJ k))]:=by
 have hlx:=hk.lx;have hly:=hk.ly;refine Fv func184 rfl ?_;refine Ud [] rfl ?_;refine Ui (S:=Nat) 1 (λL1 i=>(15,.v (.oi i))::L1) (λ_=>[.blk 60 (cl k)]) (λi=>3-i) (λi=>i≤3/\(0<i->∀ z∈k.x,Fe z≤128)/\(1<i->∀ z∈k.y,Fe z≤128)/\(2<i->Fe k.d≤128)) 0 ⟨by decide,by omega,by omega,by omega⟩ rfl rfl λi ⟨hi,g0,g1,g2⟩=>?_
 rcases (show i=0\/i=1\/i=2\/i=3 by omega) with rfl | rfl | rfl | rfl
 ·have hl:((k.x).map G8).length=(k.x).length:=by simp
  refine Ud [.t rfl,.i 0] rfl ?_ (by simp [U3]);refine Ui (S:=Nat) 1 (λL1 j=>(20,.v (.oi j))::L1) (λ_=>[.blk 60 (cl k)]) (λj=>(k.x).length-j) (λj=>j<=(k.x).length/\∀ n z,n<j->(k.x)[n]? = some z->Fe z<=128) 0 ⟨Qh _,λn z h=>by omega⟩ rfl rfl λj ⟨hj,hs⟩=>?_
  by_cases h:j<(k.x).length
  ·obtain ⟨z,hz⟩:=gxE (l:=(k.x)) (i:=j) h;by_cases hb:Fe z<=128
   ·have hb4:=ZN.2 hb;refine Ue [.t (by simp; omega),.x (G5 (f:=G8) hz),.f (by simp [kG]; omega)] rfl ?_;exact rd (j+1) (by omega) ⟨h,λn y hn hy=>by
     rcases Zb n j with h2 | h2
     ·exact hs n y h2 hy
     ·have:n=j:=by omega
      subst this; rw [hz] at hy; injection hy with hy; rw [<-hy]; exact hb⟩ rfl
   ·have hb4:=mt ZN.1 hb;rw [WN (Qr.2 (.inl (Qr.2 (.inl (Qc hz))))) hb];exact Uf [.t (by simp; omega),.x (G5 (f:=G8) hz),.t (by simp [kG]; omega)] rfl
  ·have hall:∀ z∈k.x,Fe z≤128:=λz hz=>by
    obtain ⟨n,hn⟩:=Xv hz;exact hs n z (by have:=(Qf.1 hn).1; omega) hn
   refine Ud [.f (by simp; omega)] rfl ?_ (by simp [U3]);exact rd 1 (by omega) ⟨by omega,λ_=>hall,by omega,by omega⟩ rfl
 ·have hl:((k.y).map G8).length=(k.y).length:=by simp
  refine Ud [.t rfl,.i 1] rfl ?_ (by simp [U3]);refine Ui (S:=Nat) 1 (λL1 j=>(20,.v (.oi j))::L1) (λ_=>[.blk 60 (cl k)]) (λj=>(k.y).length-j) (λj=>j<=(k.y).length/\∀ n z,n<j->(k.y)[n]? = some z->Fe z<=128) 0 ⟨Qh _,λn z h=>by omega⟩ rfl rfl λj ⟨hj,hs⟩=>?_
  by_cases h:j<(k.y).length
  ·obtain ⟨z,hz⟩:=gxE (l:=(k.y)) (i:=j) h;by_cases hb:Fe z<=128
   ·have hb4:=ZN.2 hb;refine Ue [.t (by simp; omega),.x (G5 (f:=G8) hz),.f (by simp [kG]; omega)] rfl ?_;exact rd (j+1) (by omega) ⟨h,λn y hn hy=>by
     rcases Zb n j with h2 | h2
     ·exact hs n y h2 hy
     ·have:n=j:=by omega
      subst this; rw [hz] at hy; injection hy with hy; rw [<-hy]; exact hb⟩ rfl
   ·have hb4:=mt ZN.1 hb;rw [WN (Qr.2 (.inl (Qr.2 (.inr (Qc hz))))) hb];exact Uf [.t (by simp; omega),.x (G5 (f:=G8) hz),.t (by simp [kG]; omega)] rfl
  ·have hall:∀ z∈k.y,Fe z≤128:=λz hz=>by
    obtain ⟨n,hn⟩:=Xv hz;exact hs n z (by have:=(Qf.1 hn).1; omega) hn
   refine Ud [.f (by simp; omega)] rfl ?_ (by simp [U3]);exact rd 2 (by omega) ⟨by omega,λ_=>g0 (by omega),λ_=>hall,by omega⟩ rfl
 ·have hl:(([k.d]).map G8).length=([k.d]).length:=by simp
  have h1:([k.d]).length=1:=rfl;refine Ud [.t rfl,.i 2] rfl ?_ (by simp [U3]);refine Ui (S:=Nat) 1 (λL1 j=>(20,.v (.oi j))::L1) (λ_=>[.blk 60 (cl k)]) (λj=>([k.d]).length-j) (λj=>j<=([k.d]).length/\∀ n z,n<j->([k.d])[n]? = some z->Fe z<=128) 0 ⟨Qh _,λn z h=>by omega⟩ rfl rfl λj ⟨hj,hs⟩=>?_
  by_cases h:j<([k.d]).length
  ·obtain ⟨z,hz⟩:=gxE (l:=([k.d])) (i:=j) h;by_cases hb:Fe z<=128
   ·have hb4:=ZN.2 hb;refine Ue [.t (by simp; omega),.x (G5 (f:=G8) hz),.f (by simp [kG]; omega)] rfl ?_;exact rd (j+1) (by omega) ⟨h,λn y hn hy=>by
     rcases Zb n j with h2 | h2
     ·exact hs n y h2 hy
     ·have:n=j:=by omega
      subst this; rw [hz] at hy; injection hy with hy; rw [<-hy]; exact hb⟩ rfl
   ·have hb4:=mt ZN.1 hb;rw [WN (Qr.2 (.inr (Qc hz))) hb];exact Uf [.t (by simp; omega),.x (G5 (f:=G8) hz),.t (by simp [kG]; omega)] rfl
  ·have hall:∀ z∈[k.d],Fe z≤128:=λz hz=>by
    obtain ⟨n,hn⟩:=Xv hz;exact hs n z (by have:=(Qf.1 hn).1; omega) hn
   refine Ud [.f (by simp; omega)] rfl ?_ (by simp [U3]);exact rd 3 (by omega) ⟨by omega,λ_=>g0 (by omega),λ_=>g1 (by omega),λ_=>hall k.d (by simp)⟩ rfl
 ·rw [EL.2 ⟨g0 (by omega),g1 (by omega),g2 (by omega)⟩];exact Uf [.f rfl] rfl
def JZ (p:Pt):Bool:=decide (0<=p.id) && (decide (p.id<=1048576) && ZJ p.c)
theorem Qgk {p:Pt} (hk:Cs 4294967294 1073741824 p.c):Uj 121 [.agg (Fc p)] [.one (.bool (JZ p))]:=by
 have cs:=Qge hk;by_cases h0:0<=p.id
 ·by_cases h1:p.id<=1048576
  ·have e:JZ p=ZJ p.c:=by simp [JZ,h0,h1]
   rw [e];exact Ug func121 rfl [.t (by simpa using h0),.t (by simpa using h1),.k cs] rfl
  ·have e:JZ p=false:=by simp [JZ,h1]
   rw [e];exact Ug func121 rfl [.t (by simpa using h0),.f (by simpa using h1)] rfl
 ·have e:JZ p=false:=by simp [JZ,h0]
  rw [e];exact Ug func121 rfl [.f (by simpa using h0),.f rfl] rfl
theorem Qfs {k:Crv} (hn:ZA k) (hk:Cs 4294967294 1073741824 k):Uj 85 [.agg (cl k)] [.oi (PP k)] :=
 Ug func85 rfl [.k (BD hn hk),.k (Ma k.x),.k (Ma k.y)] rfl
def Ns (np nd:Int) (M:List Pt) (p:Pt):Int:=if JZ p=false then 1 else if has M p.id=true then 6 else if nd<PP p.c then 7 else if np<=(M.length:Int) then 9 else 0
theorem Quc {lx ly:Us} {px py:Um} {x y:LV} {d id np nd:Int} {l:List Pt} (hx:IsInts lx px) (hy:IsInts ly py) (hd:Gd x y d) (hk:Cs 4294967294 1073741824 (Crv.mk px py d)) (hl:l.length<=1000000) :
 U6 prog 76 [.one (.ow 0 0),.agg [.row lx,.row ly,x,y,.int .i64 id]] [tB np nd l] [.oi (Ns np nd l (Pt.mk (Crv.norm (Crv.mk px py d)) id))] [tB np nd (if Ns np nd l (Pt.mk (Crv.norm (Crv.mk px py d)) id)=0 then put l (Pt.mk (Crv.norm (Crv.mk px py d)) id) else l)]:=by
 have cf:=HC hx hy hd hk id;have hkn:=hk.norm (by omega);have hnm:=Crv.nml (Crv.mk px py d);obtain ⟨b,r,rfl,rfl,_⟩:=hd;obtain ⟨q,hq⟩:=nmE (Pt.mk (Crv.norm (Crv.mk px py d)) id);have hqi:q.id=id:=by rw [hq]
 have hqc:q.c=Crv.norm (Crv.mk px py d):=by rw [hq]
 rw [<-hq] at cf ⊢;rw [<-hqc] at hkn hnm;have ca:U6 prog 120 [.one (.ow 0 0),.oi q.id] [tB np nd l] [.oi (Rw l id:Int),.one (.bool (has l id))] [tB np nd l]:=by rw [hqi]; exact lE id (by omega)
 have cm:=Qgk (p:=q) hkn;have cd:=Qfs hnm hkn;have hpl:=yO l id;have hll:(l.map Fc).length=l.length:=by simp
 by_cases h0:JZ q=false
 ·have e:Ns np nd l q=1:=by simp [Ns,h0]
  rw [e,if_neg (by decide)];refine Fv func76 rfl ?_;exact Uh [] [0] [.k cf,.c [0] ca,.k cm,.t (by simp [h0])] rfl
 by_cases h1:has l id=true
 ·have e:Ns np nd l q=6:=by simp [Ns,h0,hqi,h1]
  rw [e,if_neg (by decide)];refine Fv func76 rfl ?_;exact Uh [] [0] [.k cf,.c [0] ca,.k cm,.f (by simpa using h0),.t h1] rfl
 by_cases h2:nd<PP q.c
 ·have e:Ns np nd l q=7:=by simp [Ns,h0,hqi,h1,h2]
  rw [e,if_neg (by decide)];refine Fv func76 rfl ?_;exact Uh [] [0] [.k cf,.c [0] ca,.k cm,.f (by simpa using h0),.f (by simpa using h1),.k cd,.t (by simpa using h2)] rfl
 by_cases h3:np<=(l.length:Int)
 ·have e:Ns np nd l q=9:=by simp [Ns,h0,hqi,h1,h2,h3]
  rw [e,if_neg (by decide)];refine Fv func76 rfl ?_;exact Uh [] [0] [.k cf,.c [0] ca,.k cm,.f (by simpa using h0),.f (by simpa using h1),.k cd,.f (by simpa using h2),.t (by simp; omega)] rfl
 have e:Ns np nd l q=0:=by simp [Ns,h0,hqi,h1,h2,h3]
 rw [e,if_pos rfl];have s1:∀ c∈(l.map Fc).take (Rw l id),c.length=5:=λc hc=>Sp l c (Qo hc)
 have s3:∀ c∈(l.map Fc).drop (Rw l id),c.length=5:=λc hc=>Sp l c (Qz hc)
 have ep:pts (put l q)=.row ((l.map Fc).take (Rw l id)++[Fc q]++(l.map Fc).drop (Rw l id)):=by
  simp [put,hqi,pts,Jv,Vh]
 have eB:tB np nd (put l q)=.blk 116 [.int .i64 np,.int .i64 nd,.row ((l.map Fc).take (Rw l id)++[Fc q]++(l.map Fc).drop (Rw l id))]:=by
  show OB.blk 116 [.int .i64 np,.int .i64 nd,pts (put l q)]=_;rw [ep]
 rw [eB];refine Fv func76 rfl ?_;exact Uh [2] [0] [.k cf,.c [0] ca,.k cm,.f (by simpa using h0),.f (by simpa using h1),.k cd,.f (by simpa using h2),.f (by simp; omega),.i (Rw l id),.s s1,.i (Rw l id),.s s3] rfl (by
  simp only [U3,Qu,Q5,Xk,Qq,Q7,hll]
  and_intros <;> first | exact Sp l | omega)
def M8 (nd:Int) (M:List Pt) (p:Pt):Int:=if JZ p=false then 1 else if has M p.id=false then 5 else if nd<PP p.c then 7 else 0
theorem Qn9 {lx ly:Us} {px py:Um} {x y:LV} {d id np nd:Int} {l:List Pt} (hx:IsInts lx px) (hy:IsInts ly py) (hd:Gd x y d) (hk:Cs 4294967294 1073741824 (Crv.mk px py d)) (hl:l.length<=1000000) :
 U6 prog 94 [.one (.ow 0 0),.agg [.row lx,.row ly,x,y,.int .i64 id]] [tB np nd l] [.oi (M8 nd l (Pt.mk (Crv.norm (Crv.mk px py d)) id))] [tB np nd (if M8 nd l (Pt.mk (Crv.norm (Crv.mk px py d)) id)=0 then l.set (Rw l id) (Pt.mk (Crv.norm (Crv.mk px py d)) id) else l)]:=by
 have cf:=HC hx hy hd hk id;have hkn:=hk.norm (by omega);have hnm:=Crv.nml (Crv.mk px py d);obtain ⟨b,r,rfl,rfl,_⟩:=hd;obtain ⟨q,hq⟩:=nmE (Pt.mk (Crv.norm (Crv.mk px py d)) id);have hqi:q.id=id:=by rw [hq]
 have hqc:q.c=Crv.norm (Crv.mk px py d):=by rw [hq]
 rw [<-hq] at cf ⊢;rw [<-hqc] at hkn hnm;have ca:U6 prog 120 [.one (.ow 0 0),.oi q.id] [tB np nd l] [.oi (Rw l id:Int),.one (.bool (has l id))] [tB np nd l]:=by rw [hqi]; exact lE id (by omega)
 have cm:=Qgk (p:=q) hkn;have cd:=Qfs hnm hkn;have hpl:=yO l id;have hll:(l.map Fc).length=l.length:=by simp
 by_cases h0:JZ q=false
 ·have e:M8 nd l q=1:=by simp [M8,h0]
  rw [e,if_neg (by decide)];refine Fv func94 rfl ?_;exact Uh [] [0] [.k cf,.c [0] ca,.k cm,.t (by simp [h0])] rfl
 by_cases h1:has l id=false
 ·have e:M8 nd l q=5:=by simp [M8,h0,hqi,h1]
  rw [e,if_neg (by decide)];refine Fv func94 rfl ?_;exact Uh [] [0] [.k cf,.c [0] ca,.k cm,.f (by simpa using h0),.t (by simp [h1])] rfl
 by_cases h2:nd<PP q.c
 ·have e:M8 nd l q=7:=by simp [M8,h0,hqi,h1,h2]
  rw [e,if_neg (by decide)];refine Fv func94 rfl ?_;exact Uh [] [0] [.k cf,.c [0] ca,.k cm,.f (by simpa using h0),.f (by simpa using h1),.k cd,.t (by simpa using h2)] rfl
 have e:M8 nd l q=0:=by simp [M8,h0,hqi,h1,h2]
 rw [e,if_pos rfl];have hh:has l id=true:=by simpa using h1
 have hps:=VQ hh;have eB:tB np nd (l.set (Rw l id) q)=.blk 116 [.int .i64 np,.int .i64 nd,.row ((l.map Fc).set (Rw l id) (Fc q))]:=by
  show OB.blk 116 [.int .i64 np,.int .i64 nd,pts (l.set (Rw l id) q)]=_;unfold pts; rw [List.map_set]
 rw [eB];refine Fv func94 rfl ?_;exact Uh [2] [0] [.k cf,.c [0] ca,.k cm,.f (by simpa using h0),.f (by simpa using h1),.k cd,.f (by simpa using h2),.s (Sp l),.i (Rw l id)] rfl (by
  simp only [U3,hll]
  and_intros <;> first | exact Sp l | omega)
theorem Qn8 {id np nd:Int} {l:List Pt} (hl:l.length<=1000000) (h:has l id=true) :
 U6 prog 93 [.one (.ow 0 0),.oi id] [tB np nd l] [.oi 0] [tB np nd (l.take (Rw l id)++l.drop (Rw l id+1))]:=by
 have ca:=lE (np:=np) (nd:=nd) (l:=l) id (by omega);have hpl:=VQ h;rw [h] at ca;have hll:(l.map Fc).length=l.length:=by simp
 have s1:∀ c∈(l.map Fc).take (Rw l id),c.length=5:=λc hc=>Sp l c (Qo hc)
 have s3:∀ c∈(l.map Fc).drop (Rw l id+1),c.length=5:=λc hc=>Sp l c (Qz hc)
 have eB:tB np nd (l.take (Rw l id)++l.drop (Rw l id+1))=.blk 116 [.int .i64 np,.int .i64 nd,.row ((l.map Fc).take (Rw l id)++(l.map Fc).drop (Rw l id+1))]:=by
  show OB.blk 116 [.int .i64 np,.int .i64 nd,pts (l.take (Rw l id)++l.drop (Rw l id+1))]=_;unfold pts; rw [List.map_append,List.map_take,List.map_drop]
 rw [eB];refine Fv func93 rfl ?_;exact Uh [1] [0] [.c [0] ca,.f rfl,.i (Rw l id),.s s1,.i (Rw l id+1),.s s3] rfl (by
  simp only [U3,Qu,Q5,Xk,Qq,Q7,hll]
  and_intros <;> first | exact Sp l | omega)
theorem Qgi {id np nd:Int} {l:List Pt} (hl:l.length<=1000000) (h:has l id=false) :
 U6 prog 93 [.one (.ow 0 0),.oi id] [tB np nd l] [.oi 5] [tB np nd l]:=by
 have ca:=lE (np:=np) (nd:=nd) (l:=l) id (by omega);rw [h] at ca;refine Fv func93 rfl ?_;exact Uh [] [0] [.c [0] ca,.t rfl] rfl
theorem Qgg {np nd:Int} {l:List Pt} (hok:∀ p∈l,Qav 4294967294 1073741824 p) (hl:l.length≤1000000):U6 prog 60 [.one (.ow 0 0)] [tB np nd l] [.one (pts l)] [tB np nd l]:=by
 have hll:(l.map Fc).length=l.length:=by simp
 refine Fv func60 rfl ?_;refine Ud [.o 3 62 5] rfl ?_;refine Ui (S:=Nat) 2 (λL1 i=>(11,.v (.oi i))::(3,.v (.one (.orow 1 5 none)))::L1) (λi=>[tB np nd l,.row false 62 5 ((l.take i).map Fc)]) (λi=>l.length-i) (λi=>i<=l.length) 0 (Qh _) rfl rfl λi hi=>?_
 by_cases h:i<l.length
 ·obtain ⟨p,hp⟩:=gxE (l:=l) (i:=i) h;have hpo:=hok p (Qc hp);have cf:=mG hpo.1 hpo.2;have s2:∀ c∈[Fc p],c.length=5:=λc hc=>by rw [Qk.1 hc]; rfl
  have hg:(l.take (i+1)).map Fc=(l.take i).map Fc++[Fc p]:=by rw [Zv,hp]; simp
  refine Ue [.t (by simp; omega),.x (Tg hp),.k cf,.s s2] rfl ?_;exact rd (i+1) (by omega) h (by rw [hg]; rfl)
 ·obtain rfl:i=l.length:=by omega
  rw [Q6];exact Uh [1] [0] [.f (by simp)] rfl
theorem Qgh {np nd:Int} {l:List Pt}:U6 prog 54 [.one (.ow 0 0)] [tB np nd l] [.one (.ow 1 0)] [tB np nd l,tB np nd l]:=by
 refine Fv func54 rfl ?_;exact Uh [] [0,1] [] rfl
def Of (l:List (Pt×Pt)):Us:=l.map Qcw
theorem Qop {l m:Us} (h:l=m):TV.one (LV.row l)=.one (.row m):=h ▸ rfl
theorem oz {P:Program} [Mo P] {n:Nat} {Q:Exit->Sg->Ut->Prop} {L L':Sg} {B B':Ut} (d off T sz:Nat) {it:List It} (hs:Rk it=true) (h:bI (P:=P) d L B [.oc d off T sz]=some (L',B',[],[])) (k:AK P n Q it L' B'):AK P n Q it L B:=AK.sub (EH h EqOk.nil) hs k
theorem Qm8 {a b:Pt} {t:Tm} (ha:Sc a.c) (hb:Sc b.c) (ht:Va t):Uj 111 [.oi 2,.agg (ta t),.one (.row [Fc a,Fc b])] [.agg (Dq (D3 (Fu t) a b)),.oi 0]:=by
 have h1:=Na hb ha;have h2:=Nb hb ha;refine Fv func111 rfl ?_;refine Ud [.k Qbq,.f rfl] rfl ?_;refine Ui (S:=Nat) 3 (λL1 i=>(22,.v (.oi i))::L1) (λi=>[.blk 40 (ta t),.blk 144 zCt,.blk 144 [.int .i64 2,.int .i64 (if 1<=i then a.id else 0),.int .i64 (if 2<=i then b.id else 0),.int .i64 0,.int .i64 0,.nils,.int .i64 0]]) (λi=>2-i) (λi=>i<=2) 0 (Qh _) rfl rfl λi hi=>?_
 rcases (show i=0\/i=1\/i=2 by omega) with rfl | rfl | rfl
 ·refine Ud [.t rfl,.x (i:=0) (xs:=Fc a) rfl,.i 0] rfl ?_ (by simp [U3]);exact rd 1 (by omega) (by omega) rfl
 ·refine Ud [.t rfl,.x (i:=1) (xs:=Fc b) rfl,.i 1] rfl ?_ (by simp [U3]);exact rd 2 (by omega) (by omega) rfl
 ·exact Uf [.f rfl,.f rfl,.t rfl,.x (i:=1) (xs:=Fc b) rfl,.x (i:=0) (xs:=Fc a) rfl,.k (UY hb.n ha.n hb.cb ha.cb),.x (i:=1) (xs:=Fc b) rfl,.x (i:=0) (xs:=Fc a) rfl,.k (UW hb.n ha.n hb.cb ha.cb),.k wT,.k (SX (YP h1 h2).dp ht)] rfl
theorem Qfl {a:Tm} (ha:Va a) {c:Cr} {r0 r1:Us}:∀ (k:Nat) (l:List Pt) (ms:List (Pt×Pt)),l.length≤k->l.length≤1000->ms.length+l.length≤1000000->(∀ p∈l,Sc p.c)->U6 prog 110 [.one (.ow 0 0),.agg (ta a),.one (pts l)] [.blk 162 [.bool true,pl c.now.p,sg c.now.lo.num,mg c.now.lo.num,sg (c.now.lo.den:Int),mg (c.now.lo.den:Int),sg c.now.hi.num,mg c.now.hi.num,sg (c.now.hi.den:Int),mg (c.now.hi.den:Int),.row (Cd c.l),.int .i64 c.ev,.row r0,.row r1,.orow 1 10 none],.row false 217 10 (Of ms)] [.one (.row (U0 (Bm (Fu a) l).1))] [.blk 162 [.bool true,pl c.now.p,sg c.now.lo.num,mg c.now.lo.num,sg (c.now.lo.den:Int),mg (c.now.lo.den:Int),sg c.now.hi.num,mg c.now.hi.num,sg (c.now.hi.den:Int),mg (c.now.hi.den:Int),.row (Cd c.l),.int .i64 c.ev,.row r0,.row r1,.orow 1 10 none],.row false 217 10 (Of (ms++(Bm (Fu a) l).2))]
 := by
  intro k
  induction k with
  | zero=>?_
  | succ k ih=>?_
  all_goals
   intro l ms hk hn hms hl;have hcl:=G6 l;show U6 prog 110 [.one (.ow 0 0),.agg (ta a),.one (.row (U0 l))] _ _ _;by_cases hs:l.length<2
   ·rw [Cw _ hs,Zw];refine Fv func110 rfl ?_;exact Uh [] [0,1] [.t (by simp [hcl]; omega)] rfl
   first
    | (exfalso; omega)
    |
     skip
     obtain ⟨k1,k2,k3,k4⟩:=Qh9 hs hk;obtain ⟨h,hh⟩:=nmE ((l.length+1) / 2);obtain ⟨u,hu,hul,_⟩:=Nl (Fu a) k (l.take ((l.length+1) / 2)) k1 k3;obtain ⟨v,hv,hvl,_⟩:=Nl (Fu a) k (l.drop ((l.length+1) / 2)) k2 k4;have g1:=Dt (Fu a) _ (l.take ((l.length+1) / 2)) (Ql _);have g2:=Dt (Fu a) _ (l.drop ((l.length+1) / 2)) (Ql _);have hlt:(l.take ((l.length+1) / 2)).length+(l.drop ((l.length+1) / 2)).length=l.length:=by rw [Qq,Q7]; omega
     have c1:=ih (l.take ((l.length+1) / 2)) ms k1 (by omega) (by omega) λp hp=>hl p (Qo hp)
     have c2:=ih (l.drop ((l.length+1) / 2)) (ms++(Bm (Fu a) (l.take ((l.length+1) / 2))).2) k2 (by omega) (by rw [Qu]; omega) λp hp=>hl p (Qz hp)
     have hpl:=Oy (Fu a) hs hu hv;rw [hpl];rw [hu] at c1;rw [hv] at c2;generalize (Bm (Fu a) (l.take ((l.length+1) / 2))).2=G1 at *;generalize (Bm (Fu a) (l.drop ((l.length+1) / 2))).2=G2 at *;have hsu:=hl u (Qo hul);have hsv:=hl v (Qz hvl);have cb:=Qmu (t:=a) hsu hsv ha;have htd:((l.length:Int)+1).tdiv 2=(((l.length+1) / 2:Nat):Int):=rfl;have hg:∀ m,Of (ms++(G1++G2++[m]))=Of ((ms++G1)++G2)++[Qcw m]:=λm=>by simp [Of]
     have hml:(Of ((ms++G1)++G2)).length=ms.length+G1.length+G2.length:=by simp [Of]; omega
     have hml2:(Of (ms++(G1++G2))).length=ms.length+G1.length+G2.length:=by simp [Of]; omega
     have h5:=eq_true (p:=∀ z,z∈U0 l->z.length=ti62.sz) (VJ l);have e1:(U0 l).take ((l.length+1) / 2)=U0 (l.take ((l.length+1) / 2)):=by simp [U0,Jv]
     have e2:(U0 l).drop ((l.length+1) / 2)=U0 (l.drop ((l.length+1) / 2)):=by simp [U0,Vh]
     unfold PN;refine Fv func110 rfl ?_;by_cases hb:Cg (Fu a) u v=true
     ·rw [if_pos hb,hg];exact Uh [] [0,1] [.f (by simp [hcl]; omega),.r 17 (eI (b:=(((l.length+1) / 2:Nat):Int)) (by rw [hcl]; rfl)),.i ((l.length+1) / 2),.r 22 (Qop e1),.c [0,1] c1,.i ((l.length+1) / 2),.r 28 (Qop e2),.c [0,1] c2,.x (i:=0) (l:=U0 [u]) (xs:=Fc u) rfl,.x (i:=0) (l:=U0 [v]) (xs:=Fc v) rfl,.k cb,.f (by rw [hb]; rfl),.x (i:=0) (l:=U0 [u]) (xs:=Fc u) rfl,.x (i:=0) (l:=U0 [v]) (xs:=Fc v) rfl,.s (sz:=10) (l:=[Qcw (u,v)]) (λc hc=>by rw [Qk.1 hc]; rfl),.i 1] rfl (by simp [U3,G6,hml2,h5]; omega)
     ·have hb:Cg (Fu a) u v=false:=by simpa using hb
      rw [if_neg (by simp [hb]),hg];exact Uh [] [0,1] [.f (by simp [hcl]; omega),.r 17 (eI (b:=(((l.length+1) / 2:Nat):Int)) (by rw [hcl]; rfl)),.i ((l.length+1) / 2),.r 22 (Qop e1),.c [0,1] c1,.i ((l.length+1) / 2),.r 28 (Qop e2),.c [0,1] c2,.x (i:=0) (l:=U0 [u]) (xs:=Fc u) rfl,.x (i:=0) (l:=U0 [v]) (xs:=Fc v) rfl,.k cb,.t (by rw [hb]; rfl),.x (i:=0) (l:=U0 [v]) (xs:=Fc v) rfl,.x (i:=0) (l:=U0 [u]) (xs:=Fc u) rfl,.s (sz:=10) (l:=[Qcw (v,u)]) (λc hc=>by rw [Qk.1 hc]; rfl),.i 1] rfl (by simp [U3,G6,hml2,h5]; omega)
theorem IN {l:List Pt} {a:Tm} {c:Cr} {r1:Us×Us} (hl:∀ p∈l,Sc p.c) (hn:l.length≤1000) (ha:Va a):U6 prog 72 [.one (.ow 0 0),.agg (ta a)] [.blk 162 (Td c (U0 l) r1)] [.one (.row (U8 (AD l a)))] [.blk 162 (Td c (U0 l) (pB l a))]:=by
 have cp:=Qfl (r0:=U0 l) (c:=c) (r1:=r1.1) ha l.length l [] (Ql _) hn (by show 0+l.length≤1000000; omega) hl;have hms:=Dt (Fu a) l.length l (Ql _);unfold AD pB;obtain ⟨M,hM⟩:=nmE ((Bm (Fu a) l).2);have hmm:∀ m∈M,Sc m.1.c/\Sc m.2.c:=λm hm=>by
  rw [hM] at hm;exact ⟨hl _ (JH m hm).1,hl _ (JH m hm).2⟩
 rw [<-hM] at cp hms ⊢;rw [Yj] at cp;have hgl:(Of M).length=M.length:=by simp [Of]
 refine Fv func72 rfl ?_;refine Ud [] rfl ?_;refine oz 0 14 217 10 rfl rfl ?_;refine Ud [.k Ir,.c [0,2] cp,.o 5 144 7] rfl ?_;refine Ui (S:=Nat) 4 (λL1 i=>(29,.v (.oi i))::(5,.v (.one (.orow 3 7 none)))::L1) (λi=>[.blk 162 [.bool true,pl c.now.p,sg c.now.lo.num,mg c.now.lo.num,sg (c.now.lo.den:Int),mg (c.now.lo.den:Int),sg c.now.hi.num,mg c.now.hi.num,sg (c.now.hi.den:Int),mg (c.now.hi.den:Int),.row (Cd c.l),.int .i64 c.ev,.row (U0 l),.row (U0 (Bm (Fu a) l).1),.orow 2 10 none],.blk 40 (ta a),.row false 217 10 (Of M),.row false 144 7 (U8 ((M.map λm=>D3 (Fu a) m.1 m.2).take i))]) (λi=>M.length-i) (λi=>i<=M.length) 0 (Qh _) rfl rfl λi hi=>?_
 by_cases hlt:i<M.length
 ·obtain ⟨m,hm⟩:=gxE (l:=M) (i:=i) hlt;obtain ⟨s1,s2⟩:=hmm m (Qc hm);have hg:(Of M)[i]? = some (Qcw m):=G5 hm;have hq:∀ y∈[Dq (D3 (Fu a) m.1 m.2)],y.length=7:=λy hy=>by rw [Qk.1 hy]; rfl
  have ht:(M.map λm=>D3 (Fu a) m.1 m.2).take (i+1)=(M.map λm=>D3 (Fu a) m.1 m.2).take i++[D3 (Fu a) m.1 m.2]:=by
   rw [Zv,Q8,hm]; rfl
  refine go tt [.T,.i i,.x hg,.i 0,.i 1,.k (Qm8 s1 s2 ha),.s (sz:=7) hq] rfl (by simp [U3,hgl,Pn]; omega) ?_;exact rd (i+1) (by omega) hlt (by rw [ht]; simp [U8]; rfl)
 ·obtain rfl:i=M.length:=by omega
  rw [Qn (by simp)];exact Uh [2,3] [0] [.F] rfl
def Qxm (l:List Pt) (a:Tm):Cr:=⟨a,(Fo (AD l a)).map fresh,0⟩
theorem Qnq {t:Rat} {l:List Pt} {K:Nat} {c c':Cr} {r1 r1':Us×Us} {n:Int} (ht:Qs 1640000 t) (hl:∀ p∈l,Sc p.c) (hn:l.length≤1000) (hc:CrOk c) (hev:0≤c.ev/\c.ev+K≤1000000000000000000) (h:Fp c.now t≤0) (hg:WO (AD l) (pB l) t K c r1 0=some (c',r1',n)) :
 U6 prog 362 [.one (.ow 0 0),.agg (rl t)] [.blk 162 (Td c (U0 l) r1)] [.oi n,.oi 0] [.blk 162 (Td c' (U0 l) r1')]:=by
 have cg:=Qxz (T:=162) (r0:=U0 l) ht (pF hl hn) (λa c r1 ha _=>IN (c:=c) (r1:=r1) hl hn ha) hc hev h hg;refine Fv func362 rfl ?_;exact Uh [] [0] [.k (Nx (ht.mono (by decide))),.c [0] cg] rfl
theorem Qns {c:Cr} {r0 r2:Us} {w:Pt}:U6 prog 38 [.one (.ow 0 0)] [.blk 162 (Td c r0 ([Fc w],r2))] [.oi w.id,.one (.bool true)] [.blk 162 (Td c r0 ([Fc w],r2))]:=by
 refine Fv func38 rfl ?_;exact Uh [] [0] [.f rfl,.x (i:=0) (xs:=Fc w) rfl] rfl
theorem Qfo {c:Cr} {r0 r2:Us}:U6 prog 38 [.one (.ow 0 0)] [.blk 162 (Td c r0 ([],r2))] [.oi 0,.one (.bool false)] [.blk 162 (Td c r0 ([],r2))]:=by
 refine Fv func38 rfl ?_;exact Uh [] [0] [.t rfl] rfl
end Orr
namespace Orr
open Go Go.Proofs Tryz
set_option maxRecDepth 10000
theorem oz2 {P:Program} [Mo P] {n:Nat} {Q:Exit->Sg->Ut->Prop} {L L':Sg} {B B':Ut} (d off T sz:Nat) {it:List It} (hs:Rk it=true) (h:bI (P:=P) d L B [.oc d off T sz]=some (L',B',[],[])) (k:AK P n Q it L' B'):AK P n Q it L B:=AK.sub (EH h EqOk.nil) hs k
theorem pz {P:Program} [Mo P] {n:Nat} {Q:Exit->Sg->Ut->Prop} {L L':Sg} {B B':Ut} (i:Nat) {it:List It} (hs:Rk it=true) (h:Qc6 [i] L B=some (L',B')) (k:AK P n Q it L' B'):AK P n Q it L B:=AK.sub (GK h) hs k
def Ap (l:Um):Us:=l.map G8
theorem qU (l:Um):(Ap l).length=l.length:=by simp [Ap]
theorem RA {most:Int} {l:List RawInt} {i:Nat} {a:RawInt} (hi:i<3) (h:l[i]? = some a):Ap (Gp most (l.take (i+1)))=Ap (Gp most (l.take i))++[G8 (H5 most a)]:=by
 rw [yY hi h]; simp [Ap]
theorem yX {most:Int} {l:List RawInt} {i:Nat} (hi:i<=3) (h:i<=l.length):(Ap (Gp most (l.take i))).length=i:=by
 rw [qU]; unfold Gp; rw [List.length_map,List.length_take,List.length_take]; omega
def rwq (z:RawPt):Ur:=rcw z++[.int .i64 z.id]
end Orr
namespace Orr
open Go Go.Proofs Tryz Orq
set_option maxRecDepth 10000
theorem Qnj {l:Uo} (hl:l.length<=1000000000):Uj 163 [.one (.row (lm l)),.one (.row (lm l))] [.one (.bool true)]:=by
 have hll:(lm l).length=l.length:=by simp [lm]
 refine Fv func163 rfl ?_;refine Ud [.f (decide_eq_false (λh=>h rfl))] rfl ?_;refine Ui (S:=Nat) 0 (λL1 i=>(5,.v (.oi i))::L1) (λ_=>[]) (λi=>l.length-i) (λi=>i<=l.length) 0 (Qh _) rfl rfl λi hi=>?_
 by_cases h:i<l.length
 ·have hx:(lm l)[i]? = some [.int .u32 ((l[i]:Nat):Int)]:=G5 (Qe h);refine Ue [.T,.x hx,.x hx,.f (decide_eq_false (λh=>h rfl))] rfl ?_;exact rd (i+1) (by omega) h rfl
 ·exact Uf [.F] rfl
theorem Qnh {z:Int} (hz:Fe z<=4294967295):Uj 101 [.agg (G8 z),.agg (G8 z)] [.one (.bool true)] :=
 Ug func101 rfl [.g 10 true (decide_eq_true rfl),.k (Qnj (l:=Gb z.natAbs) (by have:=Rm (x:=z.natAbs) (k:=4294967295) hz; omega))] rfl
theorem Qni {p:Um} (hp:Bd 4294967295 p) (hl:p.length<=1000000):Uj 65 [pr p,pr p] [.one (.bool true)]:=by
 have hpl:(p.map G8).length=p.length:=by simp
 show Uj 65 [.one (.row (p.map G8)),.one (.row (p.map G8))] _;refine Fv func65 rfl ?_;refine Ud [.f (decide_eq_false (λh=>h rfl))] rfl ?_;refine Ui (S:=Nat) 0 (λL1 i=>(13,.v (.oi i))::L1) (λ_=>[]) (λi=>p.length-i) (λi=>i<=p.length) 0 (Qh _) rfl rfl λi hi=>?_
 by_cases h:i<p.length
 ·have hx:=Pf (Ri h);refine Ue [.T,.x hx,.x hx,.k (Qnh (Ft hp i)),.f rfl] rfl ?_;exact rd (i+1) (by omega) h rfl
 ·exact Uf [.F] rfl
theorem Qfh {l:List Ct} (hl:∀ c∈l,Cp c.p) (hn:l.length≤1000000):Uj 20 [.one (.row (U8 l)),.one (.row (U8 l))] [.one (.bool true)]:=by
 have hcl:=Pn l;refine Fv func20 rfl ?_;refine Ud [.f (decide_eq_false (λh=>h rfl))] rfl ?_;refine Ui (S:=Nat) 0 (λL1 i=>(13,.v (.oi i))::L1) (λ_=>[]) (λi=>l.length-i) (λi=>i<=l.length) 0 (Qh _) rfl rfl λi hi=>?_
 by_cases h:i<l.length
 ·obtain ⟨c,hc⟩:=gxE (l:=l) (i:=i) h;have hx:=XJ hc;have hp:=hl c (Qc hc);refine Ue [.T,.x hx,.x hx,.g 27 false (by simp),.x hx,.x hx,.g 40 false (by simp),.x hx,.x hx,.k (Qni (U5 hp.b (by decide)) (by have:=hp.l; omega)),.f rfl] rfl ?_;exact rd (i+1) (by omega) h rfl
 ·exact Uf [.F] rfl
end Orr
namespace Orr
open Go Go.Proofs Tryz
set_option maxRecDepth 10000
abbrev run1:Crv:=⟨[0,1],[],1⟩
theorem LN:ZA run1:=⟨rfl,rfl,by decide,by decide⟩
theorem cs_run1:Cs 3 3 run1:=by
 refine ⟨λz hz=>?_,λz hz=>(by cases hz),by decide,by decide,by decide⟩;rcases Qm.1 hz with rfl | hz
 ·decide
 ·rw [Qk.1 hz]; decide
theorem Cs.up {s n s' n':Nat} {k:Crv} (h:Cs s n k) (hs:s<=s') (hn:n<=n'):Cs s' n' k:=⟨U5 h.x hs,U5 h.y hs,Qa h.d hs,Qa h.lx hn,Qa h.ly hn⟩
end Orr
namespace Orr
open Go Go.Proofs Tryz Orq
set_option maxRecDepth 10000
abbrev PT:List Pt:=[⟨run1,1⟩,⟨O8 1 0,2⟩]
theorem Qwy:(Ty (tq 0) PT).map (·.id)=[1,2]:=by decide +kernel
theorem Qql:Sc run1:=⟨LN,cs_run1.up (by decide) (by decide)⟩
theorem Qzg:∀ p∈PT,Sc p.c:=λp hp=>by
 rcases Qm.1 hp with rfl | hp
 ·exact Qql
 ·rw [Qk.1 hp]; exact tR (by decide) (by decide)


theorem BC {c:Cr} {l l':List Pt} {r1:Us×Us} {ws:List Wt} (hc:CrOk c) (hl:∀ p∈l',Sc p.c) (hn:l'.length≤1000) (h:Tk c.l c.now (Fo (AD l' c.now))=some ws) :
 U6 prog 366 [.one (.ow 0 0),.agg [pts l'],.oi 0] [.blk 162 (Td c (U0 l) r1)] [.oi 0] [.blk 162 (Td ⟨c.now,ws,c.ev⟩ (U0 l') (pB l' c.now))]:=by
 have hB:=pF hl hn;have cn:=mJ (T:=162) (c:=c) (r0:=U0 l') (r1:=r1) hc.n;have cb:=IN (c:=c) (r1:=r1) hl hn hc.n;have cg:=Qbk (T:=162) (r0:=U0 l') (r1:=pB l' c.now) hc hc.n (I5 hc.n) (Yd 0) (hB.p _ hc.n) (hB.n _ hc.n) h;refine Fv func366 rfl ?_;exact Uh [] [0] [.f rfl,.c [0] cn,.c [0] cb,.c [0] cg] rfl
theorem Qnr {lx ly:Us} {px py:Um} {x y:LV} {d id:Int} {c:Cr} {l:List Pt} {r1:Us×Us} {ws:List Wt} (hx:IsInts lx px) (hy:IsInts ly py) (hd:Gd x y d) (hk:Cs 4294967294 1073741824 (Crv.mk px py d)) (hll:l.length<=900)
 (he:WR l ⟨Crv.norm (Crv.mk px py d),id⟩=0) (hc:CrOk c) (hl:∀ p∈put l ⟨Crv.norm (Crv.mk px py d),id⟩,Sc p.c) (hn:(put l ⟨Crv.norm (Crv.mk px py d),id⟩).length≤1000) (h:Tk c.l c.now (Fo (AD (put l ⟨Crv.norm (Crv.mk px py d),id⟩) c.now))=some ws) :
 U6 prog 364 [.one (.ow 0 0),.agg [.row lx,.row ly,x,y,.int .i64 id]] [.blk 162 (Td c (U0 l) r1)] [.oi 0] [.blk 162 (Td ⟨c.now,ws,c.ev⟩ (U0 (put l ⟨Crv.norm (Crv.mk px py d),id⟩)) (pB (put l ⟨Crv.norm (Crv.mk px py d),id⟩) c.now))]:=by
 have cp:=wG (l:=l) (id:=id) hx hy hd hk (by omega);rw [if_pos he,he] at cp;have cw:=BC (l:=l) (r1:=r1) hc hl hn h;refine Fv func364 rfl ?_;obtain ⟨b,l',rfl,rfl,_⟩:=hd;exact Uh [] [0] [.k cp,.c [0] cw] rfl
theorem Qfn {lx ly:Us} {px py:Um} {x y:LV} {d id:Int} {c:Cr} {l l':List Pt} {r1:Us×Us} {ws:List Wt} (hx:IsInts lx px) (hy:IsInts ly py) (hd:Gd x y d) (hk:Cs 4294967294 1073741824 (Crv.mk px py d)) (hll:l.length<=1000) (h:has l id=true) (hc:CrOk c)
 (hl':l'=l.set (Rw l id) (Pt.mk (Crv.norm (Crv.mk px py d)) id)) (hs:∀ p∈l',Sc p.c) (hw:Tk c.l c.now (Fo (AD l' c.now))=some ws) :
 U6 prog 365 [.one (.ow 0 0),.agg [.row lx,.row ly,x,y,.int .i64 id]] [.blk 162 (Td c (U0 l) r1)] [.oi 0] [.blk 162 (Td ⟨c.now,ws,c.ev⟩ (U0 l') (pB l' c.now))]:=by
 have ct1:=UG (l:=l) hx hy hd hk (by omega) h;rw [<-hl'] at ct1;have cw:=BC (c:=c) (l:=l) (l':=l') (r1:=r1) hc hs (by rw [hl',Xd]; omega) hw;obtain ⟨b,r,rfl,rfl,_⟩:=hd;refine Fv func365 rfl ?_;exact Uh [] [0] [.k ct1,.c [0] cw] rfl
theorem Qfm {id:Int} {c:Cr} {l l':List Pt} {r1:Us×Us} {ws:List Wt} (hll:l.length<=1000) (h:has l id=true) (hc:CrOk c)
 (hl':l'=l.take (Rw l id)++l.drop (Rw l id+1)) (hs:∀ p∈l',Sc p.c) (hw:Tk c.l c.now (Fo (AD l' c.now))=some ws) :
 U6 prog 363 [.one (.ow 0 0),.oi id] [.blk 162 (Td c (U0 l) r1)] [.oi 0] [.blk 162 (Td ⟨c.now,ws,c.ev⟩ (U0 l') (pB l' c.now))]:=by
 have ct1:=UU (l:=l) (id:=id) (by omega) h;rw [<-hl'] at ct1;have cw:=BC (c:=c) (l:=l) (l':=l') (r1:=r1) hc hs (by rw [hl',Qu,Qq,Q7]; omega) hw;refine Fv func363 rfl ?_;exact Uh [] [0] [.k ct1,.c [0] cw] rfl
theorem Qbm {c:Cr} {r0:Us} {r1:Us×Us}:U6 prog 56 [.one (.ow 0 0)] [.blk 162 (Td c r0 r1)] [.one (.ow 1 0)] [.blk 162 (Td c r0 r1),.blk 162 (Td c r0 r1)]:=by
 refine Fv func56 rfl ?_;exact Uh [] [0,1] [] rfl
end Orr
namespace Orq
open Orr Go
def p3j (W:List Pt) (x:Pt) (i j:Nat):List P3:=Lu i W++(H6 j (W.drop (i+1))).map (λm=>(x,m))
def qB (W:List Pt) (x y:Pt) (i j k:Nat):List P3:=Lu i W++(H6 j (W.drop (i+1))++(((W.drop (i+1)).drop (j+1)).take k).map (λz=>(y,z))).map (λm=>(x,m))
theorem LL (W:List Pt) (x:Pt) (i:Nat):p3j W x i 0=Lu i W:=by simp [p3j,H6]
theorem LI (W:List Pt) (x y:Pt) (i j:Nat):qB W x y i j 0=p3j W x i j:=by simp [qB,p3j]
theorem LA {W:List Pt} {x y z:Pt} {i j k:Nat} (h:((W.drop (i+1)).drop (j+1))[k]? = some z):qB W x y i j (k+1)=qB W x y i j k++[(x,y,z)]:=by
 unfold qB;rw [Zv,h]; simp
theorem yC {W:List Pt} {x y:Pt} {i j k:Nat} (hy:(W.drop (i+1))[j]? = some y) (hk:((W.drop (i+1)).drop (j+1)).length<=k):qB W x y i j k=p3j W x i (j+1):=by
 unfold qB p3j;rw [Qn hk,Lo _ j y hy]
theorem yB {W:List Pt} {x:Pt} {i j:Nat} (hx:W[i]? = some x) (hj:j=(W.drop (i+1)).length):p3j W x i j=Lu (i+1) W:=by
 unfold p3j;rw [hj,VF W i x hx]; rfl
theorem Qak {W:List Pt} {i:Nat} (h:i=W.length):Lu i W=Rv W:=by rw [h]; rfl
def p4j (W:List Pt) (x:Pt) (i j:Nat):List P4:=Ex i W++(Lu j (W.drop (i+1))).map (λm=>(x,m))
def p4k (W:List Pt) (x y:Pt) (i j k:Nat):List P4:=Ex i W++(p3j (W.drop (i+1)) y j k).map (λm=>(x,m))
def p4m (W:List Pt) (x y z:Pt) (i j k m:Nat):List P4:=Ex i W++(qB (W.drop (i+1)) y z j k m).map (λm=>(x,m))
theorem Qjj (W:List Pt) (x:Pt) (i:Nat):p4j W x i 0=Ex i W:=by simp [p4j,Lu]
theorem Qjk (W:List Pt) (x y:Pt) (i j:Nat):p4k W x y i j 0=p4j W x i j:=by unfold p4k p4j; rw [LL]
theorem Qjm (W:List Pt) (x y z:Pt) (i j k:Nat):p4m W x y z i j k 0=p4k W x y i j k:=by unfold p4m p4k; rw [LI]
theorem Qjl {W:List Pt} {x y z u:Pt} {i j k m:Nat} (h:(((W.drop (i+1)).drop (j+1)).drop (k+1))[m]? = some u):p4m W x y z i j k (m+1)=p4m W x y z i j k m++[(x,y,z,u)]:=by
 unfold p4m;rw [LA h]; simp
theorem Qpr {W:List Pt} {x y z:Pt} {i j k m:Nat} (hz:((W.drop (i+1)).drop (j+1))[k]? = some z) (hm:(((W.drop (i+1)).drop (j+1)).drop (k+1)).length<=m):p4m W x y z i j k m=p4k W x y i j (k+1):=by
 unfold p4m p4k;rw [yC hz hm]
theorem Qpq {W:List Pt} {x y:Pt} {i j k:Nat} (hy:(W.drop (i+1))[j]? = some y) (hk:k=((W.drop (i+1)).drop (j+1)).length):p4k W x y i j k=p4j W x i (j+1):=by
 unfold p4k p4j;rw [yB hy hk]
theorem Qpp {W:List Pt} {x:Pt} {i j:Nat} (hx:W[i]? = some x) (hj:j=(W.drop (i+1)).length):p4j W x i j=Ex (i+1) W:=by
 unfold p4j;rw [hj,TW W i x hx]; rfl
theorem Qp8 {W:List Pt} {i:Nat} (h:i=W.length):Ex i W=O5 W:=by rw [h]; rfl
theorem WF:∀ (k:Nat) (l:List Pt),∃ r,Gs l=H6 k l++r
 | 0,l=>⟨Gs l,rfl⟩
 | k+1,[]=>⟨[],rfl⟩
 |
  k+1,x::l=>by
  obtain ⟨r,h⟩:=WF k l;exact ⟨r,by show l.map _++H6 l.length l=l.map _++H6 k l++r; rw [show H6 l.length l=Gs l from rfl,h,Zd]⟩
theorem AU:∀ (k:Nat) (l:List Pt),∃ r,Rv l=Lu k l++r
 | 0,l=>⟨Rv l,rfl⟩
 | k+1,[]=>⟨[],rfl⟩
 |
  k+1,x::l=>by
  obtain ⟨r,h⟩:=AU k l;exact ⟨r,by show (Gs l).map _++Lu l.length l=(Gs l).map _++Lu k l++r; rw [show Lu l.length l=Rv l from rfl,h,Zd]⟩
theorem rO:∀ (k:Nat) (l:List Pt),∃ r,O5 l=Ex k l++r
 | 0,l=>⟨O5 l,rfl⟩
 | k+1,[]=>⟨[],rfl⟩
 |
  k+1,x::l=>by
  obtain ⟨r,h⟩:=rO k l;exact ⟨r,by show (Rv l).map _++Ex l.length l=(Rv l).map _++Ex k l++r; rw [show Ex l.length l=O5 l from rfl,h,Zd]⟩
theorem iL {W:List Pt} (h6:W.length<=6) {x y:Pt} {i j k:Nat} (hx:W[i]? = some x) (hy:(W.drop (i+1))[j]? = some y):(qB W x y i j k).length<=20:=by
 have h0:=(VV h6).1;obtain ⟨r,hr⟩:=AU (i+1) W;rw [VF W i x hx] at hr;obtain ⟨r2,hr2⟩:=WF (j+1) (W.drop (i+1));rw [Lo _ j y hy] at hr2;have e1:=congrArg List.length hr;have e2:=congrArg List.length hr2;have e3:(((W.drop (i+1)).drop (j+1)).take k).length<=((W.drop (i+1)).drop (j+1)).length:=by rw [Qq]; exact Nat.min_le_right _ _
 unfold qB;simp only [Qu,Q9] at e1 e2 ⊢;omega
theorem Qps {W:List Pt} (h6:W.length<=6) {x y z:Pt} {i j k m:Nat} (hx:W[i]? = some x) (hy:(W.drop (i+1))[j]? = some y) (hz:((W.drop (i+1)).drop (j+1))[k]? = some z):(p4m W x y z i j k m).length<=15:=by
 have h0:=(VV h6).2;obtain ⟨r,hr⟩:=rO (i+1) W;rw [TW W i x hx] at hr;obtain ⟨r1,hr1⟩:=AU (j+1) (W.drop (i+1));rw [VF _ j y hy] at hr1;obtain ⟨r2,hr2⟩:=WF (k+1) ((W.drop (i+1)).drop (j+1));rw [Lo _ k z hz] at hr2;have e1:=congrArg List.length hr;have e2:=congrArg List.length hr1;have e4:=congrArg List.length hr2;have e3:((((W.drop (i+1)).drop (j+1)).drop (k+1)).take m).length<=(((W.drop (i+1)).drop (j+1)).drop (k+1)).length:=by rw [Qq]; exact Nat.min_le_right _ _
 unfold p4m qB;simp only [Qu,Q9] at e1 e2 e4 ⊢;omega
theorem Qcm {sg:Um->Int} (hg:∀ p,-1<=Hj sg p/\Hj sg p<=1) (ps:List P3):kM (A1 (ZB sg ps)):=by
 have key:∀ (ps:List P3) (M:Bb),kM M->kM ((ZB sg ps).foldl (λM e=>Ea M e.1 (.int .i64 e.2)) M):=by
  intro ps
  induction ps with
  | nil=>intro M h; exact h
  | cons m ps ih=>intro M h; exact ih _ (Qih h (hg _))
 exact key ps [] Qig
theorem pM (sg:Um->Int) (T:Bb) (ps:List P4):VE (Oe T (VC sg ps)):=by
 have key:∀ (ps:List P4) (F:Bb),VE F->VE ((VC sg ps).foldl (λF e=>OG T e.2 e.1 F) F):=by
  intro ps
  induction ps with
  | nil=>intro M h; exact h
  | cons m ps ih=>intro M h; exact ih _ (pP h)
 exact key ps [] Qa2
theorem zZ (p:Um) (q:Rat):-1<=Ra p q/\Ra p q<=1:=by
 rw [Nm]; unfold Fg
 split
 ·exact ⟨by decide,by decide⟩
 ·split <;> exact ⟨by decide,by decide⟩
theorem Qky {p:Um} {a:Tm} {s:Int} (h:GT p a=some s):-1<=s/\s<=1:=by
 unfold GT at h
 split at h
 ·injection h with h; subst h; exact ⟨by decide,by decide⟩
 ·split at h
  ·injection h with h; subst h; exact zZ _ _
  ·obtain ⟨g,_,h⟩:=Qd.1 h
   split at h
   ·injection h with h; subst h; exact ⟨by decide,by decide⟩
   ·obtain ⟨c,_,h⟩:=Qd.1 h;obtain ⟨x,_,h⟩:=Qd.1 h;injection h with h; subst h; exact zZ _ _
theorem Qh4 (a:Tm) (p:Um):-1<=Hj (Fu a) p/\Hj (Fu a) p<=1:=by
 have hs:∀ p,-1<=Fu a p/\Fu a p<=1:=λp=>by
  unfold Fu;cases h:GT p a with
  | none=>exact ⟨by decide,by decide⟩
  | some s=>exact Qky h
 have key:∀ (k:Nat) (p:Um),-1<=Tu (Fu a) k p/\Tu (Fu a) k p<=1:=by
  intro k
  induction k with
  | zero=>intro p; exact ⟨by simp [Tu],by simp [Tu]⟩
  |
   succ k ih =>
   intro p;simp only [Tu]
   split
   ·exact ⟨by decide,by decide⟩
   ·split
    ·exact ih _
    ·exact hs p
 exact key _ p
end Orq
namespace Orr
open Go Go.Proofs Tryz Orq
set_option maxRecDepth 10000
theorem lV {a b c:Pt} {t:Tm} (ha:Sc a.c) (hb:Sc b.c) (hc:Sc c.c) (ht:Va t):Uj 111 [.oi 3,.agg (ta t),.one (.row [Fc a,Fc b,Fc c])] [.agg (Dq (Li (Fu t) a b c)),.oi 0]:=by
 have hp:=(YR ha hb hc).dp;have e:Dq (Li (Fu t) a b c)=[.int .i64 3,.int .i64 a.id,.int .i64 b.id,.int .i64 c.id,.int .i64 0,pl (Hh a.c b.c c.c),.int .i64 (Hj (Fu t) (Hh a.c b.c c.c))]:=by rw [Li]
 rw [e];have cg:=SX hp ht;have cf:=wU ha hb hc;generalize Hh a.c b.c c.c=F at *;refine Fv func111 rfl ?_;refine Ud [.k Qbr,.f rfl] rfl ?_;refine Ui (S:=Nat) 3 (λL1 i=>(22,.v (.oi i))::L1) (λi=>[.blk 40 (ta t),.blk 144 zCt,.blk 144 [.int .i64 3,.int .i64 (if 1<=i then a.id else 0),.int .i64 (if 2<=i then b.id else 0),.int .i64 (if 3<=i then c.id else 0),.int .i64 0,.nils,.int .i64 0]]) (λi=>3-i) (λi=>i<=3) 0 (Qh _) rfl rfl λi hi=>?_
 rcases (show i=0\/i=1\/i=2\/i=3 by omega) with rfl | rfl | rfl | rfl
 ·refine Ud [.t rfl,.x (i:=0) (xs:=Fc a) rfl,.i 0] rfl ?_ (by simp [U3]);exact rd 1 (by omega) (by omega) rfl
 ·refine Ud [.t rfl,.x (i:=1) (xs:=Fc b) rfl,.i 1] rfl ?_ (by simp [U3]);exact rd 2 (by omega) (by omega) rfl
 ·refine Ud [.t rfl,.x (i:=2) (xs:=Fc c) rfl,.i 2] rfl ?_ (by simp [U3]);exact rd 3 (by omega) (by omega) rfl
 ·exact Uf [.f rfl,.f rfl,.f rfl,.t rfl,.x (i:=0) (xs:=Fc a) rfl,.x (i:=1) (xs:=Fc b) rfl,.x (i:=2) (xs:=Fc c) rfl,.k cf,.k cg] rfl
theorem Ic {α:Type} (s:α->α->α->Bool):∀ (l acc:List α) (c:α),P6 s acc (l++[c])=c::Lr s c (P6 s acc l)
 | [],_,_=>rfl
 | _::l,_,c=>Ic s l _ c
theorem lT {R:List Pt} {t:Tm} (hR:∀ p∈R,Sc p.c) (hn:R.length≤1000000) (ht:Va t):Uj 177 [.agg (ta t),.one (pts R)] [.one (pts (Pm (Fu t) R))]:=by
 have hcl:=G6 R;show Uj 177 [.agg (ta t),.one (.row (U0 R))] [.one (.row (U0 (P6 (FG (Fu t)) [] R).reverse))];obtain ⟨s,hs⟩:=nmE (FG (Fu t));have hs':∀ a b c,s a b c=decide (0<Hj (Fu t) (Hh a.c b.c c.c)):=λa b c=>by rw [hs]; rfl
 rw [<-hs];refine Fv func177 rfl ?_;refine Ud [.o 5 62 5] rfl ?_;refine Ui (S:=Nat) 2 (λL1 i=>(10,.v (.oi i))::(5,.v (.one (.orow 1 5 none)))::L1) (λi=>[.blk 40 (ta t),.row false 62 5 (U0 (P6 s [] (R.take i)).reverse)]) (λi=>R.length-i) (λi=>i<=R.length) 0 (Qh _) rfl rfl λi hi=>?_
 by_cases hlt:i<R.length
 ·obtain ⟨c,hc⟩:=gxE (l:=R) (i:=i) hlt;have hcp:=hR c (Qc hc);have hst:P6 s [] (R.take (i+1))=c::Lr s c (P6 s [] (R.take i)):=by rw [Zv,hc]; exact Ic s _ _ c
  obtain ⟨O,hO⟩:=nmE (P6 s [] (R.take i));have hOl:O.length<=1000000:=by
   have:=KC s (R.take i) [];rw [<-hO,Qq] at this; simp at this; omega
  have hOm:∀ x∈O,Sc x.c:=λx hx=>by
   rw [hO] at hx;rcases KD hx with h | h
   ·cases h
   ·exact hR x (Qo h)
  rw [<-hO] at hst ⊢;have hrl:(U0 O.reverse).length=O.length:=by rw [G6,Xp]
  have hm:∀ y∈[Fc c],y.length=5:=λy hy=>by rw [Qk.1 hy]; rfl
  have hget:∀ {pre r:List Pt} {x:Pt},O=pre++x::r->∀ j,j=r.length->(U0 O.reverse)[j]? = some (Fc x):=λ{pre r x} e j hj=>by
   refine S6 ?_;rw [e,hj]; simp
  have hfin:∀ {pre st:List Pt},O=pre++st->U0 (c::st).reverse=(U0 O.reverse).take st.length++[Fc c]:=λ{pre st} e=>by
   rw [e]; simp [U0,Jv,List.take_append]
  have hfull:U0 (c::O).reverse=U0 O.reverse++[Fc c]:=by simp [U0]
  refine Ud [.t (by simp [hcl]; omega),.x (S6 hc)] rfl ?_;refine Ui (S:=Bool×List Pt) 3 (λL1 s=>(5,.v (.one (.orow 1 5 (cond s.1 (some (0,s.2.length)) none))))::L1) (λ_=>[.blk 40 (ta t),.row false 62 5 (U0 O.reverse),.blk 62 (Fc c)]) (λs=>s.2.length) (λst=>(∃ pre,O=pre++st.2/\(st.1=false->pre=[]))/\Lr s c st.2=Lr s c O) (false,O) ⟨⟨[],rfl,λ_=>rfl⟩,rfl⟩ rfl rfl λ⟨b,st⟩ ⟨⟨pre,h1,h2⟩,h3⟩=>?_
  have h1:O=pre++st:=h1;have h3:Lr s c st=Lr s c O:=h3;have hl1:O.length=pre.length+st.length:=by rw [h1,Qu]
  have fin:∀ {st:List Pt},O=pre++st->Lr s c st=Lr s c O->Lr s c st=st->U0 (P6 s [] (R.take (i+1))).reverse=(U0 O.reverse).take st.length++[Fc c]/\(pre=[]->U0 (P6 s [] (R.take (i+1))).reverse=U0 O.reverse++[Fc c]):=λ{st} e1 e2 e3=>by
   rw [hst,<-e2,e3];refine ⟨hfin e1,λhp=>?_⟩;rw [hp] at e1;rw [<-hfull,e1]; rfl
  rcases st with _ | ⟨z,_ | ⟨y,r⟩⟩
  ·obtain ⟨f1,f2⟩:=fin h1 h3 rfl;cases b with
   |
    false =>
    have hp:=h2 rfl;have f2:=f2 hp;rw [hp] at hl1;have hl2:(U0 O.reverse).length<=1:=by rw [hrl,hl1]; simp
    refine Ue [.g 17 false Uk,.f rfl,.s (sz:=5) hm] rfl ?_;exact rd (i+1) (by omega) hlt (by rw [f2]; rfl)
   |
    true =>
    refine Ue [.g 17 false (decide_eq_false (by simp)),.f rfl,.s (sz:=5) hm] rfl ?_;exact rd (i+1) (by omega) hlt (by rw [f1]; rfl)
  ·obtain ⟨f1,f2⟩:=fin h1 h3 rfl;cases b with
   |
    false =>
    have hp:=h2 rfl;have f2:=f2 hp;rw [hp] at hl1;have hl2:(U0 O.reverse).length<=1:=by rw [hrl,hl1]; simp
    refine Ue [.g 17 false Uk,.f rfl,.s (sz:=5) hm] rfl ?_;exact rd (i+1) (by omega) hlt (by rw [f2]; rfl)
   |
    true =>
    refine Ue [.g 17 false (decide_eq_false (by simp)),.f rfl,.s (sz:=5) hm] rfl ?_;exact rd (i+1) (by omega) hlt (by rw [f1]; rfl)
  ·have sz:=hOm z (by rw [h1]; simp);have sy:=hOm y (by rw [h1]; simp);have co:=wU sy sz hcp;have cg:=SX (YR sy sz hcp).dp ht;have gz:=hget h1 (r.length+1) rfl;have gy:=hget (pre:=pre++[z]) (r:=r) (x:=y) (by rw [h1]; simp) r.length rfl;have hl1:O.length=pre.length+(r.length+2):=hl1;have hls:=hs' y z c;by_cases hq:s y z c=true
   ·have hg:¬Hj (Fu t) (Hh y.c z.c c.c)<=0:=by rw [hls] at hq; have:=of_decide_eq_true hq; omega
    obtain ⟨f1,f2⟩:=fin h1 h3 (by simp only [Lr]; rw [if_pos hq]);cases b with
    |
     false =>
     have hp:=h2 rfl;have f2:=f2 hp;rw [hp] at hl1;have hl2:(U0 O.reverse).length=r.length+2:=by rw [hrl,hl1]; simp
     refine Ue [.g 17 true Ul,.r 21 (eI (b:=(r.length:Int)) (by omega)),.i r.length,.x gy,.r 28 (eI (b:=((r.length+1:Nat):Int)) (by omega)),.i (r.length+1),.x gz,.k co,.k cg,.f (decide_eq_false hg),.s (sz:=5) hm] rfl ?_;exact rd (i+1) (by omega) hlt (by rw [f2]; rfl)
    |
     true =>
     refine Ue [.g 17 true (decide_eq_true (by simp; omega)),.r 21 (eI (b:=(r.length:Int)) (by simp; omega)),.i r.length,.x (l:=U0 O.reverse) (i:=0+r.length) (xs:=Fc y) (by rw [Zz]; exact gy),.r 28 (eI (b:=((r.length+1:Nat):Int)) (by simp)),.i (r.length+1),.x (l:=U0 O.reverse) (i:=0+(r.length+1)) (xs:=Fc z) (by rw [Zz]; exact gz),.k co,.k cg,.f (decide_eq_false hg),.s (sz:=5) hm] rfl ?_;exact rd (i+1) (by omega) hlt (by rw [f1]; rfl)
   ·have hg:Hj (Fu t) (Hh y.c z.c c.c)<=0:=by
     rw [hls] at hq; have:=of_decide_eq_false (Wu.2 hq); omega
    have hpop:Lr s c (y::r)=Lr s c O:=by rw [<-h3]; simp only [Lr]; rw [if_neg hq]
    have hin:(∃ pre',O=pre'++(y::r)/\((true:Bool)=false->pre'=[]))/\Lr s c (y::r)=Lr s c O:=⟨⟨pre++[z],by rw [h1]; simp,λh=>by cases h⟩,hpop⟩;cases b with
    |
     false =>
     have hp:=h2 rfl;rw [hp] at hl1;have hl2:(U0 O.reverse).length=r.length+2:=by rw [hrl,hl1]; simp
     refine Ue [.g 17 true Ul,.r 21 (eI (b:=(r.length:Int)) (by omega)),.i r.length,.x gy,.r 28 (eI (b:=((r.length+1:Nat):Int)) (by omega)),.i (r.length+1),.x gz,.k co,.k cg,.t (decide_eq_true hg),.r 42 (eI (b:=((r.length+1:Nat):Int)) (by omega)),.i (r.length+1)] rfl ?_;exact rd (true,y::r) (by simp) hin rfl
    |
     true =>
     refine Ue [.g 17 true (decide_eq_true (by simp; omega)),.r 21 (eI (b:=(r.length:Int)) (by simp; omega)),.i r.length,.x (l:=U0 O.reverse) (i:=0+r.length) (xs:=Fc y) (by rw [Zz]; exact gy),.r 28 (eI (b:=((r.length+1:Nat):Int)) (by simp)),.i (r.length+1),.x (l:=U0 O.reverse) (i:=0+(r.length+1)) (xs:=Fc z) (by rw [Zz]; exact gz),.k co,.k cg,.t (decide_eq_true hg),.r 42 (eI (b:=((r.length+1:Nat):Int)) (by simp)),.i (r.length+1)] rfl ?_;exact rd (true,y::r) (by simp) hin rfl
 ·obtain rfl:i=R.length:=by omega
  rw [Q6];exact Uf [.f (by simp [hcl])] rfl
theorem mS {sg:Um->Int} {R:List Pt} (h:R≠[]):0<(Pm sg R).length:=by
 unfold Pm;rw [Xp];obtain ⟨x,hx⟩:∃ x,R.getLast? = some x:=⟨_,Yq h⟩;obtain ⟨l,hl⟩:=Y8.1 hx;rw [hl,Ic]; simp
theorem rG {α:Type} (s:α->α->α->Bool) (c:α):∀ {st:List α},st≠[]->0<(Lr s c st).length
 | [],h=>absurd rfl h
 | [_],_=>by simp [Lr]
 |
  b::a::r,_=>by
  simp only [Lr]
  split
  ·simp
  ·exact rG s c (by simp)
theorem CX {sg:Um->Int} {R:List Pt} (h:2<=R.length):2<=(Pm sg R).length:=by
 unfold Pm;rw [Xp];obtain ⟨x,hx⟩:∃ x,R.getLast? = some x:=⟨_,Yq (by intro e; rw [e] at h; simp at h)⟩;obtain ⟨l,hl⟩:=Y8.1 hx;have hl0:l≠[]:=by intro e; rw [hl,e] at h; simp at h
 have:=mS (sg:=sg) hl0;unfold Pm at this;rw [Xp] at this;have:=rG (FG sg) x (st:=P6 (FG sg) [] l) (by intro e; rw [e] at this; simp at this);rw [hl,Ic,Q5]; omega
theorem lD {R:List Pt} {t:Tm} (hR:∀ p∈R,Sc p.c) (hn:R.length≤1000000) (ht:Va t):Uj 112 [.agg (ta t),.one (pts R)] [.one (pts (Ec (Fu t) R))]:=by
 have hcl:=G6 R;have hrl:=G6 R.reverse;rw [Xp] at hrl;show Uj 112 [.agg (ta t),.one (.row (U0 R))] [.one (.row (U0 (Ec (Fu t) R)))];refine Fv func112 rfl ?_;by_cases h3:R.length<3
 ·have e:Ec (Fu t) R=R:=if_pos h3;rw [e];exact Uf [.T] rfl
 have c1:=lT hR hn ht;have c2:=lT (R:=R.reverse) (λp hp=>hR p (Jk.1 hp)) (by rw [Xp]; exact hn) ht;have p1:=CX (sg:=Fu t) (R:=R) (by omega);have p2:=CX (sg:=Fu t) (R:=R.reverse) (by rw [Xp]; omega);have k1:=QH (Fu t) R;have k2:=QH (Fu t) R.reverse;rw [Xp] at k2;refine go tt [.F,.o 5 62 5,.r 15 (eI (b:=(R.length:Int)-1-((0:Nat):Int)) (by omega))] rfl (by simp [U3,hcl]; omega) ?_;refine Ui (S:=Nat) 2 (λL1 j=>(6,.v (.oi ((R.length:Int)-1-(j:Int))))::(5,.v (.one (.orow 1 5 none)))::L1) (λj=>[.blk 40 (ta t),.row false 62 5 (U0 (R.reverse.take j))]) (λj=>R.length-j) (λj=>j<=R.length) 0 (Qh _) rfl rfl λj hj=>?_
 by_cases hlt:j<R.length
 ·obtain ⟨x,hx⟩:=gxE (l:=R) (i:=R.length-1-j) (by omega);have hx':R.reverse[j]? = some x:=by rw [List.getElem?_reverse (by omega)]; exact hx
  have hm:∀ y∈[Fc x],y.length=5:=λy hy=>by rw [Qk.1 hy]; rfl
  have e:U0 (R.reverse.take (j+1))=U0 (R.reverse.take j)++[Fc x]:=by rw [Zv,hx']; simp [U0]
  have htl:(U0 (R.reverse.take j)).length=j:=by rw [G6,Qq,Xp]; omega
  refine go tt [.T,.r 22 (eI (b:=((R.length-1-j:Nat):Int)) (by omega)),.x (S6 hx),.s (sz:=5) hm,.r 19 (eI (b:=(R.length:Int)-1-((j+1:Nat):Int)) (by omega))] rfl (by simp [U3,htl]; omega) ?_;exact rd (j+1) (by omega) hlt (by rw [e]; rfl)
 ·obtain rfl:j=R.length:=by omega
  rw [Qn (by rw [Xp]; exact Ql _)];obtain ⟨A,hA⟩:=nmE (Pm (Fu t) R);obtain ⟨C,hC⟩:=nmE (Pm (Fu t) R.reverse);have e:Ec (Fu t) R=A.dropLast++C.dropLast:=by rw [hA,hC]; exact if_neg h3
  rw [<-hA] at c1 p1 k1;rw [<-hC] at c2 p2 k2;rw [e];have hs:∀ y∈(C.map Fc).take (C.length-1),y.length=5:=λy hy=>VJ C y (Qo hy)
  have hs2:∀ y∈(A.map Fc).take (A.length-1),y.length=5:=λy hy=>VJ A y (Qo hy)
  refine Uf [.F,.p 1,.k c1,.k c2,.r 36 (eI (b:=((A.length-1:Nat):Int)) (by simp; omega)),.r 39 (eI (b:=((A.length-1:Nat):Int)) (by simp; omega)),.i (A.length-1),.r 44 (eI (b:=((C.length-1:Nat):Int)) (by simp; omega)),.i (C.length-1),.s (sz:=5) hs] rfl (by simp [U0,Jv,List.dropLast_eq_take]) ?_;simp only [U3,Qq,Q9]
  and_intros <;> first | exact hs2 | omega
theorem SZ {l:List Pt} {t:Tm} (hl:∀ p∈l,Sc p.c) (hn:l.length≤1000000) (ht:Va t):U6 prog 109 [.agg (ta t),.one (pts l)] [] [.one (.orow 0 7 none)] [.row false 144 7 (U8 (S7 (Fu t) l))]:=by
 have hcl:=G6 l;show U6 prog 109 [.agg (ta t),.one (.row (U0 l))] [] [.one (.orow 0 7 none)] [.row false 144 7 (U8 (S7 (Fu t) l))];refine Fv func109 rfl ?_;refine Ud [.o 5 144 7] rfl ?_;refine Ui (S:=Nat) 2 (λL1 i=>(6,.v (.oi ((i+1:Nat):Int)))::(5,.v (.one (.orow 1 7 none)))::L1) (λi=>[.blk 40 (ta t),.row false 144 7 (U8 ((S7 (Fu t) l).take i))]) (λi=>l.length-i) (λi=>i<=l.length-1) 0 (Qh _) rfl rfl λi hi=>?_
 by_cases hlt:i+1<l.length
 ·obtain ⟨a,ha⟩:=gxE (l:=l) (i:=i) (by omega);obtain ⟨b,hb⟩:=gxE (l:=l) (i:=i+1) hlt;have hg:=TG (Fu t) ha hb;have hm:∀ y∈[Dq (QO (Fu t) a b)],y.length=7:=λy hy=>by rw [Qk.1 hy]; rfl
  refine go tt [.t (by simp [hcl]; omega),.r 19 (eI (b:=(i:Int)) (by simp)),.x (S6 ha),.x (S6 hb),.k (lJ (hl a (Qc ha)) (hl b (Qc hb)) ht),.s (sz:=7) hm,.r 14 (eI (b:=((i+1+1:Nat):Int)) (by simp))] rfl (by simp [U3,G6,Pn,B7]; omega) ?_;exact rd (i+1) (by omega) (by omega) (by rw [hg]; simp [U8]; rfl)
 ·have e:(S7 (Fu t) l).take i=S7 (Fu t) l:=Qn (by rw [B7]; omega);rw [e];exact Uh [] [1] [.f (by simp [hcl]; omega)] rfl
theorem uB {C:List Pt} {i:Nat} {a b:Pt} (ha:C[i]? = some a) (hb:C[(i+1) % C.length]? = some b):(Rt C)[i]? = some (a,b):=by
 have hi:=(Qf.1 ha).1;unfold Rt;rw [List.getElem?_zip_eq_some];refine ⟨ha,?_⟩;by_cases h:i+1<C.length
 ·rw [Xu h] at hb;rw [Zi (by rw [Q7]; omega),Xc,Ju]; exact hb
 ·have e:i+1=C.length:=by omega
  rw [e,Nat.mod_self] at hb;rw [Z8 (by rw [Q7]; omega),Q7,show i-(C.length-1)=0 by omega,Kf (by omega)]; exact hb
theorem uC (C:List Pt):(Rt C).length=C.length:=by
 unfold Rt;rw [List.length_zip,Qu,Q7,Qq]; omega
theorem AX {α β:Type} {f:α->List β} {l:List α} {i:Nat} {x:α} (h:l[i]? = some x):(l.take (i+1)).flatMap f=(l.take i).flatMap f++f x:=by
 rw [Zv,h]; simp
theorem TN {α β:Type} {f:α->β} {p:α->Bool} {l:List α} {i:Nat} {x:α} (h:l[i]? = some x):((l.take (i+1)).filter p).map f=((l.take i).filter p).map f++if p x=true then [f x] else []:=by
 rw [Zv,h,Vj,Yh];congr 1;simp only [Option.toList];by_cases hp:p x=true
 ·rw [if_pos hp,X5 hp]; rfl
 ·rw [if_neg hp,Jy hp]; rfl
theorem fQ {α β:Type} {f:α->List β} {n:Nat} (hf:∀ x,(f x).length<=n) (l:List α):(l.flatMap f).length<=l.length*n:=KA f n l λx _=>hf x
theorem Qar {l:List Pt} (hl:∀ p∈l,Sc p.c):∀ p∈l,Qav 4294967294 1073741824 p:=λp hp=>⟨(hl p hp).n,(hl p hp).c.mono (by decide) (by decide)⟩
set_option maxHeartbeats 4000000 in
theorem IS {l:List Pt} {a:Tm} {c:Cr} {r1:Us} (hl:∀ p∈l,Sc p.c) (hn:l.length≤10) (ha:Va a):U6 prog 73 [.one (.ow 0 0),.agg (ta a)] [.blk 164 (Hl c (U0 l) r1)] [.one (.row (U8 (NA l a)))] [.blk 164 (Hl c (U0 l) (brH l a))]:=by
 have hwl:=QZ l;have cw:=mY (l:=l) (Qar hl) (by omega);have cr:=wH (l:=To l) (λp hp=>hl p (Nt hp)) (by omega) ha;have cn:=lD (R:=Ty a (To l)) (λp hp=>hl p (Nt (Hq.1 hp))) (by rw [No]; omega) ha;have cr2:=wH hl (by omega) ha;have cc:=SZ (l:=Ty a l) (t:=a) (λp hp=>hl p (Hq.1 hp)) (by rw [No]; omega) ha;have hCm:∀ p∈Pi l a,p∈l:=λp hp=>I7 hp
 have hCl:=YH l a;have e0:NA l a=ZL l a++Bh (Fu a) l (Pi l a):=rfl;rw [e0];show U6 prog 73 _ _ _ [.blk 164 (Hl c (U0 l) (U0 (Pi l a)))];have cn:Uj 112 [.agg (ta a),.one (pts (Ty a (To l)))] [.one (pts (Pi l a))]:=cn;have cc:U6 prog 109 [.agg (ta a),.one (pts (Ty a l))] [] [.one (.orow 0 7 none)] [.row false 144 7 (U8 (ZL l a))]:=cc;have hbl:(ZL l a).length<=10:=by unfold ZL; rw [B7,No]; omega
 obtain ⟨C,hC⟩:=nmE (Pi l a);obtain ⟨cs0,hc0⟩:=nmE (ZL l a);rw [<-hC] at cn hCm hCl ⊢;rw [<-hc0] at cc hbl ⊢;have hcp:=G6 C;have hlp:=G6 l;have eel:∀ x,(Aj (Fu a) l x).length<=l.length:=λx=>by unfold Aj; rw [List.length_map]; exact List.length_filter_le _ _
 refine Fv func73 rfl ?_;refine Ud [.k cw,.k cr,.k cn,.k Ir,.k cr2,.c [2] cc] rfl ?_;by_cases h2:C.length<2
 ·have e:Bh (Fu a) l C=[]:=if_pos h2;rw [e,Zw];exact Uh [2] [0] [.t (decide_eq_true (by simp; omega))] rfl
 have e:Bh (Fu a) l C=(Rt C).flatMap (Aj (Fu a) l):=if_neg h2;rw [e];refine Ud [.f (decide_eq_false (by simp; omega))] rfl ?_;refine sb [(48,.v (.oi 0)),(47,.v (.oi ((C.map Fc).length:Int))),(46,.v (.one (pts C))),(6,.v (.one (.orow 2 7 none))),(3,.v (.one (.ow 1 0))),(0,.v (.one (.ow 0 0)))] [.blk 164 (Hl c (U0 l) (U0 C)),.blk 40 (ta a),.row false 144 7 (U8 cs0)] rfl rfl ?_;rw [show U8 cs0=U8 (cs0++((Rt C).take 0).flatMap (Aj (Fu a) l)) by simp];refine Ui (S:=Nat) 3 (λL1 i=>(48,.v (.oi i))::(6,.v (.one (.orow 2 7 none)))::L1) (λi=>[.blk 164 (Hl c (U0 l) (U0 C)),.blk 40 (ta a),.row false 144 7 (U8 (cs0++((Rt C).take i).flatMap (Aj (Fu a) l)))]) (λi=>C.length-i) (λi=>i<=C.length) 0 (Qh _) rfl rfl λi hi=>?_
 by_cases hlt:i<C.length
 ·obtain ⟨x,hx⟩:=gxE (l:=C) (i:=i) hlt;obtain ⟨y,hy⟩:=gxE (l:=C) (i:=(i+1) % C.length) (Z4 _ (by omega));have he:=uB hx hy;have sx:=hl x (hCm x (Qc hx));have sy:=hl y (hCm y (Qc hy));have hflat:=AX (f:=Aj (Fu a) l) he;obtain ⟨F,hF⟩:=nmE (cs0++((Rt C).take i).flatMap (Aj (Fu a) l));have hFl:F.length<=10+20*10:=by
   have h1:=fQ eel ((Rt C).take i);have h2:((Rt C).take i).length*l.length<=20*10:=Zc (by rw [Qq]; omega) hn;rw [hF,Qu]; omega
  have hmod:(((i+1:Nat):Int)).tmod ((C.map Fc).length:Int)=(((i+1) % C.length:Nat):Int):=by rw [Q9]; exact (Int.ofNat_tmod _ _).symm
  have hm0:=Ye ((i+1:Nat):Int) (show (C.length:Int)≠0 by omega);have hm1:=Js ((i+1:Nat):Int) (show (0:Int)<C.length by omega);have hnext:cs0++((Rt C).take (i+1)).flatMap (Aj (Fu a) l)=F++(l.filter (VB (x,y))).map λc=>Li (Fu a) x y c:=by rw [hflat,<-Zd,<-hF]; rfl
  rw [<-hF];refine go tt [.t (decide_eq_true (by simp; omega)),.x (S6 hx),.r 58 (eI (b:=((i+1:Nat):Int)) (by simp)),.r 64 (eI (b:=(((i+1) % C.length:Nat):Int)) hmod),.x (S6 hy),.k Ir] rfl (by simp only [U3]; omega) ?_;rw [show U8 F=U8 (F++((l.take 0).filter (VB (x,y))).map λc=>Li (Fu a) x y c) by simp];refine Ui (S:=Nat) 5 (λL1 k=>(73,.v (.oi k))::(6,.v (.one (.orow 2 7 none)))::L1) (λk=>[.blk 164 (Hl c (U0 l) (U0 C)),.blk 40 (ta a),.row false 144 7 (U8 (F++((l.take k).filter (VB (x,y))).map λc=>Li (Fu a) x y c)),.blk 62 (Fc x),.blk 62 (Fc y)]) (λk=>l.length-k) (λk=>k<=l.length) 0 (Qh _) rfl rfl λk hk=>?_
  by_cases hlk:k<l.length
  ·obtain ⟨z,hz⟩:=gxE (l:=l) (i:=k) hlk;have sz:=hl z (Qc hz);have hflt:=TN (f:=λc=>Li (Fu a) x y c) (p:=VB (x,y)) hz;obtain ⟨G,hG⟩:=nmE (((l.take k).filter (VB (x,y))).map λc=>Li (Fu a) x y c);have hGl:G.length<=10:=by
    have h1:=Y0 (VB (x,y)) (l.take k);rw [Qq] at h1;rw [hG,Q9]; omega
   rw [<-hG] at hflt ⊢;by_cases h1:z.id=x.id
   ·rw [if_neg (show ¬VB (x,y) z=true by simp [VB,h1]),Zw] at hflt;refine Ue [.t (decide_eq_true (by simp; omega)),.x (S6 hz),.g 82 false (decide_eq_false (by simp [h1])),.f rfl] rfl ?_;exact rd (k+1) (by omega) hlk (by rw [hflt]; rfl)
   ·by_cases h2:z.id=y.id
    ·rw [if_neg (show ¬VB (x,y) z=true by simp [VB,h2]),Zw] at hflt;refine Ue [.t (decide_eq_true (by simp; omega)),.x (S6 hz),.g 82 true (decide_eq_true h1),.f (decide_eq_false (by simp [h2]))] rfl ?_;exact rd (k+1) (by omega) hlk (by rw [hflt]; rfl)
    ·rw [if_pos (show VB (x,y) z=true by simp [VB,h1,h2])] at hflt;have hm:∀ q∈[Dq (Li (Fu a) x y z)],q.length=7:=λq hq=>by rw [Qk.1 hq]; rfl
     refine go tt [.t (decide_eq_true (by simp; omega)),.x (S6 hz),.g 82 true (decide_eq_true h1),.t (decide_eq_true h2),.k (lV sx sy sz ha),.s (sz:=7) hm] rfl (by simp [U3,Pn]; omega) ?_;have e3:U8 (F++(G++[Li (Fu a) x y z]))=U8 (F++G)++[Dq (Li (Fu a) x y z)]:=by simp [U8]
     exact rd (k+1) (by omega) hlk (by rw [hflt,e3]; rfl)
  ·obtain rfl:k=l.length:=by omega
   rw [Q6,<-hnext];refine Ue [.f (decide_eq_false (by simp))] rfl ?_;exact rd (i+1) (by omega) hlt rfl
 ·obtain rfl:i=C.length:=by omega
  rw [Qn (by rw [uC]; exact Ql _)];exact Uh [2] [0] [.f (decide_eq_false (by simp))] rfl
theorem ozM {P:Program} [Mo P] {n:Nat} {Q:Exit->Sg->Ut->Prop} {L L':Sg} {B B':Ut} (d off T sz:Nat) {it:List It} (hs:Rk it=true) (h:bI (P:=P) d L B [.oc d off T sz]=some (L',B',[],[])) (k:AK P n Q it L' B'):AK P n Q it L B:=AK.sub (EH h EqOk.nil) hs k
theorem xA {k:Crv} (hk:Sc k):Uj 212 [.agg (cl k)] [.one (.row (JB (ZG k)))]:=by
 have ok:=FI hk.n hk.c;have l1:=Tv k.x k.x;have l2:=Tv k.y k.y;have:=hk.c.lx;have:=hk.c.ly;have bx:Bd 258 (Gk k.x k.x):=Pk (u:=2) hk.c.x hk.c.x (by omega);have by_:Bd 258 (Gk k.y k.y):=Pk (u:=2) hk.c.y hk.c.y (by omega);have c1:=Pq (p:=k.x) (c:=k.d) (by omega) (U5 hk.c.x (by decide)) (Qa hk.c.d (by decide));have c2:=Pq (p:=k.y) (c:=k.d) (by omega) (U5 hk.c.y (by decide)) (Qa hk.c.d (by decide));have c3:=KP (p:=k.x) (q:=k.x) hk.n.1 hk.n.1 (by omega) (by omega) hk.c.x hk.c.x (by decide);have c4:=KP (p:=k.y) (q:=k.y) hk.n.2.1 hk.n.2.1 (by omega) (by omega) hk.c.y hk.c.y (by decide);have c5:=BR (p:=Gk k.x k.x) (q:=Gk k.y k.y) (by omega) (by omega) (U5 bx (by decide)) (U5 by_ (by decide));have c6:=P0 (U4 k.d) (U4 k.d) (Qa hk.c.d (by decide)) (Qa hk.c.d (by decide));have hl:∀ p∈ZG k,p.length≤1000000:=λp hp=>by
  obtain ⟨j,hj⟩:=Xv hp;have h1:=ok.2 j p hj;have:[2,2,4,0].getD j 0<=4:=by
   match j with
   | 0=>decide
   | 1=>decide
   | 2=>decide
   | 3=>decide
   | j+4=>simp
  omega
 have cd:=Qei (r:=ZG k) (λp hp=>(ok.1 p hp).1) (λp hp=>U5 (ok.1 p hp).2 (by decide)) hl (by show 4<=1000; decide);exact Ug func212 rfl [.k (Dx hk.n (hk.c.mono (by decide) (by decide))),.k c1,.k c2,.k c3,.k c4,.k c5,.k c6,.k cd] rfl
theorem Qes {a b c d:Crv} (ha:Sc a) (hb:Sc b) (hc:Sc c) (hd:Sc d):Uj 176 [.agg (cl a),.agg (cl b),.agg (cl c),.agg (cl d)] [pr (KX a b c d)]:=by
 have cd:=Qrt (by decide) (k:=4) (ds:=[2,2,4,0]) (by decide) rfl (by decide) (tI ha.n hb.n hc.n hd.n ha.c hb.c hc.c hd.c);exact Ug func176 rfl [.k (xA ha),.k (xA hb),.k (xA hc),.k (xA hd),.k cd] rfl
set_option maxHeartbeats 1000000 in
theorem Qm6 {a b c d:Pt} {t:Tm} (ha:Sc a.c) (hb:Sc b.c) (hc:Sc c.c) (hd:Sc d.c) (ht:Va t):Uj 111 [.oi 4,.agg (ta t),.one (.row [Fc a,Fc b,Fc c,Fc d])] [.agg (Dq (qH (Fu t) a b c d)),.oi 0]:=by
 have hp:=(eP ha hb hc hd).dp;have e:Dq (qH (Fu t) a b c d)=[.int .i64 4,.int .i64 a.id,.int .i64 b.id,.int .i64 c.id,.int .i64 d.id,pl (KX a.c b.c c.c d.c),.int .i64 (Hj (Fu t) (KX a.c b.c c.c d.c))]:=by rw [qH]
 rw [e];have cg:=SX hp ht;have cf:=Qes ha hb hc hd;generalize KX a.c b.c c.c d.c=F at *;refine Fv func111 rfl ?_;refine Ud [.k Qbs,.f rfl] rfl ?_;refine Ui (S:=Nat) 3 (λL1 i=>(22,.v (.oi i))::L1) (λi=>[.blk 40 (ta t),.blk 144 zCt,.blk 144 [.int .i64 4,.int .i64 (if 1<=i then a.id else 0),.int .i64 (if 2<=i then b.id else 0),.int .i64 (if 3<=i then c.id else 0),.int .i64 (if 4<=i then d.id else 0),.nils,.int .i64 0]]) (λi=>4-i) (λi=>i<=4) 0 (Qh _) rfl rfl λi hi=>?_
 rcases (show i=0\/i=1\/i=2\/i=3\/i=4 by omega) with rfl | rfl | rfl | rfl | rfl
 ·refine Ud [.t rfl,.x (i:=0) (xs:=Fc a) rfl,.i 0] rfl ?_ (by simp [U3]);exact rd 1 (by omega) (by omega) rfl
 ·refine Ud [.t rfl,.x (i:=1) (xs:=Fc b) rfl,.i 1] rfl ?_ (by simp [U3]);exact rd 2 (by omega) (by omega) rfl
 ·refine Ud [.t rfl,.x (i:=2) (xs:=Fc c) rfl,.i 2] rfl ?_ (by simp [U3]);exact rd 3 (by omega) (by omega) rfl
 ·refine Ud [.t rfl,.x (i:=3) (xs:=Fc d) rfl,.i 3] rfl ?_ (by simp [U3]);exact rd 4 (by omega) (by omega) rfl
 ·exact Uf [.f rfl,.f rfl,.f rfl,.f rfl,.t rfl,.x (i:=0) (xs:=Fc a) rfl,.x (i:=1) (xs:=Fc b) rfl,.x (i:=2) (xs:=Fc c) rfl,.x (i:=3) (xs:=Fc d) rfl,.k cf,.k cg] rfl
def uO (T:Bb) (s:Int) (n:Um) (F:Bb) (k:Nat):Bb:=(List.range k).foldl (Ob T s n) F
theorem nQ (T:Bb) (s:Int) (n:Um) (F:Bb) (k:Nat):uO T s n F (k+1)=Ob T s n (uO T s n F k) k:=by unfold uO; rw [List.range_succ,List.foldl_append]; rfl
theorem mO (T:Bb) (s:Int) (n:Um) (F:Bb):uO T s n F 4=OG T s n F:=rfl
set_option maxHeartbeats 4000000 in
theorem Qt3 {F T:Bb} {s n0 n1 n2 n3:Int} (hT:kM T) (hs:-1<=s/\s<=1):U6 prog 119 [.one (.omap 0),.one (.omap 1),.oi s,.agg [.int .i64 n0,.int .i64 n1,.int .i64 n2,.int .i64 n3]] [.mpb F,.mpb T] [] [.mpb (OG T s [n0,n1,n2,n3] F),.mpb T]:=by
 have hm:Qmb T:=λk=>(hT k).1
 have hb:=λ(k:Um) (x:Int) (hx:-1<=x/\x<=1)=>Qct (hT k).2 hx
 rw [<-mO];obtain ⟨f,hf⟩:=nmE (uO T s [n0,n1,n2,n3] F);have f0:F=f 0:=by rw [hf]; rfl
 have fs:∀ k,f (k+1)=Ob T s [n0,n1,n2,n3] (f k) k:=λk=>by rw [hf]; exact nQ ..
 rw [<-hf];rw [f0];clear hf f0;refine Fv func119 rfl ?_;refine Ud [] rfl ?_;refine Ui (S:=Nat) 3 (λL1 k=>(14,.v (.oi k))::L1) (λk=>[.mpb (f k),.mpb T,.blk 140 [.int .i64 n0,.int .i64 n1,.int .i64 n2,.int .i64 n3]]) (λk=>4-k) (λk=>k<=4) 0 (by decide) rfl rfl λk hk=>?_
 rcases (show k=0\/k=1\/k=2\/k=3\/k=4 by omega) with rfl | rfl | rfl | rfl | rfl
 ·have e1:=fs 0;have e2:Ob T s [n0,n1,n2,n3] (f 0) 0=if ZM T [n1,n2,n3]*(-s)>0 then Ea (f 0) [n1,n2,n3] (.bool true) else f 0:=rfl
  rw [e2] at e1;refine Ud [.t rfl] rfl ?_;refine Ui (S:=Nat) 4 (λL1 i=>(18,.v (.oi i))::(10,.v (.oi (if i<=0 then (i:Int) else (i:Int)-1)))::L1) (λi=>[.mpb (f 0),.mpb T,.blk 140 [.int .i64 n0,.int .i64 n1,.int .i64 n2,.int .i64 n3],.blk 139 [.int .i64 (if 2<=i then n1 else 0),.int .i64 (if 3<=i then n2 else 0),.int .i64 (if 4<=i then n3 else 0)]]) (λi=>4-i) (λi=>i<=4) 0 (by decide) rfl rfl λi hi=>?_
  rcases (show i=0\/i=1\/i=2\/i=3\/i=4 by omega) with rfl | rfl | rfl | rfl | rfl
  ·refine Ud [.t rfl,.i 0,.f rfl] rfl ?_ (by simp [U3]);exact rd 1 (by omega) (by omega) rfl
  ·refine Ud [.t rfl,.i 1,.t rfl,.i 0] rfl ?_ (by simp [U3]);exact rd 2 (by omega) (by omega) rfl
  ·refine Ud [.t rfl,.i 2,.t rfl,.i 1] rfl ?_ (by simp [U3]);exact rd 3 (by omega) (by omega) rfl
  ·refine Ud [.t rfl,.i 3,.t rfl,.i 2] rfl ?_ (by simp [U3]);exact rd 4 (by omega) (by omega) rfl
  ·have hbb:=hb [n1,n2,n3] (-s) (by omega);by_cases hc:ZM T [n1,n2,n3]*(-s)>0
   ·rw [if_pos hc] at e1;refine go tt [.f rfl,.t rfl,.t (decide_eq_true hc)] rfl (by simp only [U3]; first | exact ⟨⟨by omega,by omega⟩,hbb,hm,⟨by omega,by omega⟩,by decide,by omega,by omega⟩ | exact ⟨⟨by omega,by omega⟩,hbb,hm,by decide,by omega,by omega⟩) ?_;exact rd 1 (by omega) (by omega) (by rw [e1]; rfl)
   ·rw [if_neg hc] at e1;refine go tt [.f rfl,.t rfl,.f (decide_eq_false hc)] rfl (by simp only [U3]; first | exact ⟨⟨by omega,by omega⟩,hbb,hm,⟨by omega,by omega⟩,by decide,by omega,by omega⟩ | exact ⟨⟨by omega,by omega⟩,hbb,hm,by decide,by omega,by omega⟩) ?_;exact rd 1 (by omega) (by omega) (by rw [e1]; rfl)
 ·have e1:=fs 1;have e2:Ob T s [n0,n1,n2,n3] (f 1) 1=if ZM T [n0,n2,n3]*s>0 then Ea (f 1) [n0,n2,n3] (.bool true) else f 1:=rfl
  rw [e2] at e1;refine Ud [.t rfl] rfl ?_;refine Ui (S:=Nat) 4 (λL1 i=>(18,.v (.oi i))::(10,.v (.oi (if i<=1 then (i:Int) else (i:Int)-1)))::L1) (λi=>[.mpb (f 1),.mpb T,.blk 140 [.int .i64 n0,.int .i64 n1,.int .i64 n2,.int .i64 n3],.blk 139 [.int .i64 (if 1<=i then n0 else 0),.int .i64 (if 3<=i then n2 else 0),.int .i64 (if 4<=i then n3 else 0)]]) (λi=>4-i) (λi=>i<=4) 0 (by decide) rfl rfl λi hi=>?_
  rcases (show i=0\/i=1\/i=2\/i=3\/i=4 by omega) with rfl | rfl | rfl | rfl | rfl
  ·refine Ud [.t rfl,.i 0,.t rfl,.i 0] rfl ?_ (by simp [U3]);exact rd 1 (by omega) (by omega) rfl
  ·refine Ud [.t rfl,.i 1,.f rfl] rfl ?_ (by simp [U3]);exact rd 2 (by omega) (by omega) rfl
  ·refine Ud [.t rfl,.i 2,.t rfl,.i 1] rfl ?_ (by simp [U3]);exact rd 3 (by omega) (by omega) rfl
  ·refine Ud [.t rfl,.i 3,.t rfl,.i 2] rfl ?_ (by simp [U3]);exact rd 4 (by omega) (by omega) rfl
  ·have hbb:=hb [n0,n2,n3] s (by omega);by_cases hc:ZM T [n0,n2,n3]*s>0
   ·rw [if_pos hc] at e1;refine go tt [.f rfl,.f rfl,.t (decide_eq_true hc)] rfl (by simp only [U3]; first | exact ⟨⟨by omega,by omega⟩,hbb,hm,⟨by omega,by omega⟩,by decide,by omega,by omega⟩ | exact ⟨⟨by omega,by omega⟩,hbb,hm,by decide,by omega,by omega⟩) ?_;exact rd 2 (by omega) (by omega) (by rw [e1]; rfl)
   ·rw [if_neg hc] at e1;refine go tt [.f rfl,.f rfl,.f (decide_eq_false hc)] rfl (by simp only [U3]; first | exact ⟨⟨by omega,by omega⟩,hbb,hm,⟨by omega,by omega⟩,by decide,by omega,by omega⟩ | exact ⟨⟨by omega,by omega⟩,hbb,hm,by decide,by omega,by omega⟩) ?_;exact rd 2 (by omega) (by omega) (by rw [e1]; rfl)
 ·have e1:=fs 2;have e2:Ob T s [n0,n1,n2,n3] (f 2) 2=if ZM T [n0,n1,n3]*(-s)>0 then Ea (f 2) [n0,n1,n3] (.bool true) else f 2:=rfl
  rw [e2] at e1;refine Ud [.t rfl] rfl ?_;refine Ui (S:=Nat) 4 (λL1 i=>(18,.v (.oi i))::(10,.v (.oi (if i<=2 then (i:Int) else (i:Int)-1)))::L1) (λi=>[.mpb (f 2),.mpb T,.blk 140 [.int .i64 n0,.int .i64 n1,.int .i64 n2,.int .i64 n3],.blk 139 [.int .i64 (if 1<=i then n0 else 0),.int .i64 (if 2<=i then n1 else 0),.int .i64 (if 4<=i then n3 else 0)]]) (λi=>4-i) (λi=>i<=4) 0 (by decide) rfl rfl λi hi=>?_
  rcases (show i=0\/i=1\/i=2\/i=3\/i=4 by omega) with rfl | rfl | rfl | rfl | rfl
  ·refine Ud [.t rfl,.i 0,.t rfl,.i 0] rfl ?_ (by simp [U3]);exact rd 1 (by omega) (by omega) rfl
  ·refine Ud [.t rfl,.i 1,.t rfl,.i 1] rfl ?_ (by simp [U3]);exact rd 2 (by omega) (by omega) rfl
  ·refine Ud [.t rfl,.i 2,.f rfl] rfl ?_ (by simp [U3]);exact rd 3 (by omega) (by omega) rfl
  ·refine Ud [.t rfl,.i 3,.t rfl,.i 2] rfl ?_ (by simp [U3]);exact rd 4 (by omega) (by omega) rfl
  ·have hbb:=hb [n0,n1,n3] (-s) (by omega);by_cases hc:ZM T [n0,n1,n3]*(-s)>0
   ·rw [if_pos hc] at e1;refine go tt [.f rfl,.t rfl,.t (decide_eq_true hc)] rfl (by simp only [U3]; first | exact ⟨⟨by omega,by omega⟩,hbb,hm,⟨by omega,by omega⟩,by decide,by omega,by omega⟩ | exact ⟨⟨by omega,by omega⟩,hbb,hm,by decide,by omega,by omega⟩) ?_;exact rd 3 (by omega) (by omega) (by rw [e1]; rfl)
   ·rw [if_neg hc] at e1;refine go tt [.f rfl,.t rfl,.f (decide_eq_false hc)] rfl (by simp only [U3]; first | exact ⟨⟨by omega,by omega⟩,hbb,hm,⟨by omega,by omega⟩,by decide,by omega,by omega⟩ | exact ⟨⟨by omega,by omega⟩,hbb,hm,by decide,by omega,by omega⟩) ?_;exact rd 3 (by omega) (by omega) (by rw [e1]; rfl)
 ·have e1:=fs 3;have e2:Ob T s [n0,n1,n2,n3] (f 3) 3=if ZM T [n0,n1,n2]*s>0 then Ea (f 3) [n0,n1,n2] (.bool true) else f 3:=rfl
  rw [e2] at e1;refine Ud [.t rfl] rfl ?_;refine Ui (S:=Nat) 4 (λL1 i=>(18,.v (.oi i))::(10,.v (.oi (if i<=3 then (i:Int) else (i:Int)-1)))::L1) (λi=>[.mpb (f 3),.mpb T,.blk 140 [.int .i64 n0,.int .i64 n1,.int .i64 n2,.int .i64 n3],.blk 139 [.int .i64 (if 1<=i then n0 else 0),.int .i64 (if 2<=i then n1 else 0),.int .i64 (if 3<=i then n2 else 0)]]) (λi=>4-i) (λi=>i<=4) 0 (by decide) rfl rfl λi hi=>?_
  rcases (show i=0\/i=1\/i=2\/i=3\/i=4 by omega) with rfl | rfl | rfl | rfl | rfl
  ·refine Ud [.t rfl,.i 0,.t rfl,.i 0] rfl ?_ (by simp [U3]);exact rd 1 (by omega) (by omega) rfl
  ·refine Ud [.t rfl,.i 1,.t rfl,.i 1] rfl ?_ (by simp [U3]);exact rd 2 (by omega) (by omega) rfl
  ·refine Ud [.t rfl,.i 2,.t rfl,.i 2] rfl ?_ (by simp [U3]);exact rd 3 (by omega) (by omega) rfl
  ·refine Ud [.t rfl,.i 3,.f rfl] rfl ?_ (by simp [U3]);exact rd 4 (by omega) (by omega) rfl
  ·have hbb:=hb [n0,n1,n2] s (by omega);by_cases hc:ZM T [n0,n1,n2]*s>0
   ·rw [if_pos hc] at e1;refine go tt [.f rfl,.f rfl,.t (decide_eq_true hc)] rfl (by simp only [U3]; first | exact ⟨⟨by omega,by omega⟩,hbb,hm,⟨by omega,by omega⟩,by decide,by omega,by omega⟩ | exact ⟨⟨by omega,by omega⟩,hbb,hm,by decide,by omega,by omega⟩) ?_;exact rd 4 (by omega) (by omega) (by rw [e1]; rfl)
   ·rw [if_neg hc] at e1;refine go tt [.f rfl,.f rfl,.f (decide_eq_false hc)] rfl (by simp only [U3]; first | exact ⟨⟨by omega,by omega⟩,hbb,hm,⟨by omega,by omega⟩,by decide,by omega,by omega⟩ | exact ⟨⟨by omega,by omega⟩,hbb,hm,by decide,by omega,by omega⟩) ?_;exact rd 4 (by omega) (by omega) (by rw [e1]; rfl)
 ·exact Uh [] [0,1] [.f rfl] rfl
set_option maxHeartbeats 8000000 in
theorem IR {l:List Pt} {a:Tm} {c:Cr} {r1:Us} (hl:∀ p∈l,Sc p.c) (hn:l.length≤6) (ha:Va a):U6 prog 75 [.one (.ow 0 0),.agg (ta a)] [.blk 168 (Hl c (U0 l) r1)] [.one (.row (U8 (xF l a)))] [.blk 168 (Hl c (U0 l) (pN l a))]:=by
 have hwl:=QZ l;have cw:=mY (l:=l) (Qar hl) (by omega);have hgb:=Qh4 a;unfold pN xF gY qF;obtain ⟨sg',hsg⟩:∃ s,s=Fu a:=⟨_,rfl⟩;obtain ⟨W,hW⟩:=nmE (To l);have hWs:∀ p∈W,Sc p.c:=λp hp=>hl p (Nt (by rw [<-hW]; exact hp))
 have mR:=λ{x y z:Pt} (hx:x∈W) (hy:y∈W) (hz:z∈W)=>lV (t:=a) (hWs x hx) (hWs y hy) (hWs z hz) ha
 have mC:=λ{x y z u:Pt} (hx:x∈W) (hy:y∈W) (hz:z∈W) (hu:u∈W)=>Qm6 (t:=a) (hWs x hx) (hWs y hy) (hWs z hz) (hWs u hu) ha
 rw [<-hW] at cw hwl ⊢;rw [<-hsg] at hgb mR mC ⊢;have hW6:W.length<=6:=by omega
 have hTi:=λps=>Qcm hgb ps
 have hcp:(W.map Fc).length=W.length:=by simp
 have hcp2:=G6 W;have hdr:∀ i,(U0 W).drop i=U0 (W.drop i):=λi=>by unfold U0; rw [List.map_drop]
 have hel:∀ z∈U0 W,z.length=5:=λz hz=>by obtain ⟨p,_,rfl⟩:=Za.1 hz; rfl
 have s7:∀ x:Ct,∀ y∈[Dq x],y.length=7:=λx y hy=>by rw [Qk.1 hy]; rfl
 have s3:∀ x:P3,∀ y∈[trL x],y.length=3:=λx y hy=>by rw [Qk.1 hy]; rfl
 obtain ⟨T,hT⟩:=nmE (A1 (ZB sg' (Rv W)));obtain ⟨G,hG⟩:=nmE (Oe T (VC sg' (O5 W)));have hTI:kM T:=by rw [hT]; exact hTi _
 have hTm:Qmb T:=λk=>(hTI k).1
 have hGB:Qdz G:=λk=>by rw [hG]; exact pM _ _ _ k
 rw [<-hT,<-hG];have e0:(U8 (((Lu 0 W).map (PL sg'))))=[]:=rfl;refine Fv func75 rfl ?_;refine Ud [.k cw,.o 6 144 7] rfl ?_;refine Ui (S:=Nat) 4 (λL1 i=>(42,.v (.oi i))::(6,.v (.one (.orow 2 7 none)))::L1) (λi=>[.blk 168 (Hl c (U0 l) r1),.blk 40 (ta a),.row false 144 7 (U8 ((Lu i W).map (PL sg'))),.mpb (A1 (ZB sg' (Lu i W)))]) (λi=>W.length-i) (λi=>i<=W.length) 0 (Qh _) rfl rfl λi hi=>?_
 by_cases hlt:i<W.length
 ·obtain ⟨x,hx⟩:=gxE (l:=W) (i:=i) hlt;have xm:=Qc hx;obtain ⟨V,hV⟩:=nmE (W.drop (i+1));have hVl:V.length=W.length-(i+1):=by rw [hV,Q7]
  have hVm:∀ p∈V,p∈W:=λp hp=>by rw [hV] at hp; exact Qz hp
  have eV:(U0 W).drop (i+1)=U0 V:=by rw [hdr,<-hV]
  rw [<-LL W x i];refine go tt [.T,.x (Tg hx),.r 49 (eI (b:=((i+1:Nat):Int)) (by omega)),.i (i+1),.r 50 (UL eV)] rfl (by simp only [U3]; (repeat' apply And.intro) <;> first | omega | exact hel) ?_;have hVr:=G6 V;refine Ui (S:=Nat) 5 (λL1 j=>(52,.v (.oi j))::(6,.v (.one (.orow 2 7 none)))::L1) (λj=>[.blk 168 (Hl c (U0 l) r1),.blk 40 (ta a),.row false 144 7 (U8 ((p3j W x i j).map (PL sg'))),.mpb (A1 (ZB sg' (p3j W x i j))),.blk 62 (Fc x)]) (λj=>V.length-j) (λj=>j<=V.length) 0 (Qh _) rfl rfl λj hj=>?_
  by_cases hltj:j<V.length
  ·obtain ⟨y,hy⟩:=gxE (l:=V) (i:=j) hltj;have ym:=hVm y (Qc hy);have hy':(W.drop (i+1))[j]? = some y:=by rw [<-hV]; exact hy
   obtain ⟨U,hU⟩:=nmE (V.drop (j+1));have hUl:U.length=V.length-(j+1):=by rw [hU,Q7]
   have hUm:∀ p∈U,p∈W:=λp hp=>by rw [hU] at hp; exact hVm p (Qz hp)
   have hUW:U=(W.drop (i+1)).drop (j+1):=by rw [hU,hV]
   have eU:(U0 W).drop (i+j+2)=U0 U:=by rw [hdr,hU,hV,Jw]; congr 2; omega
   have hUr:=G6 U;rw [<-LI W x y i j];refine go tt [.T,.x (Tg hy),.r 61 (eI (b:=((i+j+2:Nat):Int)) (by omega)),.i (i+j+2),.r 62 (UL eU)] rfl (by simp only [U3]; (repeat' apply And.intro) <;> first | omega | exact hel) ?_;refine Ui (S:=Nat) 6 (λL1 k=>(64,.v (.oi k))::(6,.v (.one (.orow 2 7 none)))::L1) (λk=>[.blk 168 (Hl c (U0 l) r1),.blk 40 (ta a),.row false 144 7 (U8 ((qB W x y i j k).map (PL sg'))),.mpb (A1 (ZB sg' (qB W x y i j k))),.blk 62 (Fc x),.blk 62 (Fc y)]) (λk=>U.length-k) (λk=>k<=U.length) 0 (Qh _) rfl rfl λk hk=>?_
   by_cases hltk:k<U.length
   ·obtain ⟨z,hz⟩:=gxE (l:=U) (i:=k) hltk;have zm:=hUm z (Qc hz);have hlen:=iL hW6 (k:=k) hx hy';have en:=LA (x:=x) (y:=y) (by rw [<-hUW]; exact hz);have et:=dG sg' (qB W x y i j k) (x,y,z);rw [<-en] at et;refine go tt [.T,.x (Tg hz),.k (mR xm ym zm),.s (sz:=7) (s7 _)] rfl (by simp [U3,Pn] <;> omega) ?_;exact rd (k+1) (by omega) hltk (by rw [et,en,Yh]; simp [U8]; rfl)
   ·have e:=yC (x:=x) (k:=k) hy' (by rw [<-hUW]; omega);rw [e];refine go tt [.F] rfl (by simp [U3] <;> omega) ?_;exact rd (j+1) (by omega) hltj rfl
  ·have e:=yB (x:=x) (j:=j) hx (by rw [<-hV]; omega);rw [e];refine go tt [.F] rfl (by simp [U3] <;> omega) ?_;exact rd (i+1) (by omega) hlt rfl
 rw [Qak (show i=W.length by omega),<-hT];have hiW:¬i<W.length:=hlt;clear hlt;obtain ⟨C3,hC3⟩:=nmE ((Rv W).map (PL sg'));have hC3l:C3.length<=20:=by rw [hC3,Q9]; exact (VV hW6).1
 rw [<-hC3];refine Ud [.F] rfl ?_;have eC:U8 C3=U8 (C3++(Ex 0 W).map (HL sg')):=by rw [show Ex 0 W=[] from rfl,X7,Zw]
 rw [eC];refine Ui (S:=Nat) 5 (λL1 i=>(97,.v (.oi i))::(6,.v (.one (.orow 2 7 none)))::L1) (λi=>[.blk 168 (Hl c (U0 l) r1),.blk 40 (ta a),.row false 144 7 (U8 (C3++(Ex i W).map (HL sg'))),.mpb T,.mpb (Oe T (VC sg' (Ex i W)))]) (λi=>W.length-i) (λi=>i<=W.length) 0 (Qh _) rfl rfl λi hi=>?_
 by_cases hlt:i<W.length
 ·obtain ⟨x,hx⟩:=gxE (l:=W) (i:=i) hlt;have xm:=Qc hx;obtain ⟨V,hV⟩:=nmE (W.drop (i+1));have hVl:V.length=W.length-(i+1):=by rw [hV,Q7]
  have hVm:∀ p∈V,p∈W:=λp hp=>by rw [hV] at hp; exact Qz hp
  have eV:(U0 W).drop (i+1)=U0 V:=by rw [hdr,<-hV]
  have hVr:=G6 V;rw [<-Qjj W x i];refine go tt [.T,.x (Tg hx),.r 104 (eI (b:=((i+1:Nat):Int)) (by omega)),.i (i+1),.r 105 (UL eV)] rfl (by simp only [U3]; (repeat' apply And.intro) <;> first | omega | exact hel) ?_;refine Ui (S:=Nat) 6 (λL1 j=>(107,.v (.oi j))::(6,.v (.one (.orow 2 7 none)))::L1) (λj=>[.blk 168 (Hl c (U0 l) r1),.blk 40 (ta a),.row false 144 7 (U8 (C3++(p4j W x i j).map (HL sg'))),.mpb T,.mpb (Oe T (VC sg' (p4j W x i j))),.blk 62 (Fc x)]) (λj=>V.length-j) (λj=>j<=V.length) 0 (Qh _) rfl rfl λj hj=>?_
  by_cases hltj:j<V.length
  ·obtain ⟨y,hy⟩:=gxE (l:=V) (i:=j) hltj;have ym:=hVm y (Qc hy);have hy':(W.drop (i+1))[j]? = some y:=by rw [<-hV]; exact hy
   obtain ⟨U,hU⟩:=nmE (V.drop (j+1));have hUl:U.length=V.length-(j+1):=by rw [hU,Q7]
   have hUm:∀ p∈U,p∈W:=λp hp=>by rw [hU] at hp; exact hVm p (Qz hp)
   have hUW:U=(W.drop (i+1)).drop (j+1):=by rw [hU,hV]
   have eU:(U0 W).drop (i+j+2)=U0 U:=by rw [hdr,hU,hV,Jw]; congr 2; omega
   have hUr:=G6 U;rw [<-Qjk W x y i j];refine go tt [.T,.x (Tg hy),.r 116 (eI (b:=((i+j+2:Nat):Int)) (by omega)),.i (i+j+2),.r 117 (UL eU)] rfl (by simp only [U3]; (repeat' apply And.intro) <;> first | omega | exact hel) ?_;refine Ui (S:=Nat) 7 (λL1 k=>(119,.v (.oi k))::(6,.v (.one (.orow 2 7 none)))::L1) (λk=>[.blk 168 (Hl c (U0 l) r1),.blk 40 (ta a),.row false 144 7 (U8 (C3++(p4k W x y i j k).map (HL sg'))),.mpb T,.mpb (Oe T (VC sg' (p4k W x y i j k))),.blk 62 (Fc x),.blk 62 (Fc y)]) (λk=>U.length-k) (λk=>k<=U.length) 0 (Qh _) rfl rfl λk hk=>?_
   by_cases hltk:k<U.length
   ·obtain ⟨z,hz⟩:=gxE (l:=U) (i:=k) hltk;have zm:=hUm z (Qc hz);have hz':((W.drop (i+1)).drop (j+1))[k]? = some z:=by rw [<-hUW]; exact hz
    obtain ⟨R,hR⟩:=nmE (U.drop (k+1));have hRl:R.length=U.length-(k+1):=by rw [hR,Q7]
    have hRm:∀ p∈R,p∈W:=λp hp=>by rw [hR] at hp; exact hUm p (Qz hp)
    have hRW:R=((W.drop (i+1)).drop (j+1)).drop (k+1):=by rw [hR,hUW]
    have eR:(U0 W).drop (i+j+k+3)=U0 R:=by rw [hdr,hRW,Jw,Jw]; congr 2; omega
    have hRr:=G6 R;rw [<-Qjm W x y z i j k];refine go tt [.T,.x (Tg hz),.r 130 (eI (b:=((i+j+k+3:Nat):Int)) (by omega)),.i (i+j+k+3),.r 131 (UL eR)] rfl (by simp only [U3]; (repeat' apply And.intro) <;> first | omega | exact hel) ?_;refine Ui (S:=Nat) 8 (λL1 m=>(133,.v (.oi m))::(6,.v (.one (.orow 2 7 none)))::L1) (λm=>[.blk 168 (Hl c (U0 l) r1),.blk 40 (ta a),.row false 144 7 (U8 (C3++(p4m W x y z i j k m).map (HL sg'))),.mpb T,.mpb (Oe T (VC sg' (p4m W x y z i j k m))),.blk 62 (Fc x),.blk 62 (Fc y),.blk 62 (Fc z)]) (λm=>R.length-m) (λm=>m<=R.length) 0 (Qh _) rfl rfl λm hm=>?_
    by_cases hltm:m<R.length
    ·obtain ⟨u,hu⟩:=gxE (l:=R) (i:=m) hltm;have um:=hRm u (Qc hu);have hlen:=Qps hW6 (m:=m) hx hy' hz';have en:=Qjl (x:=x) (y:=y) (z:=z) (by rw [<-hRW]; exact hu);have et:=nY sg' T (p4m W x y z i j k m) (x,y,z,u);rw [<-en] at et;have cf:=Qt3 (F:=Oe T (VC sg' (p4m W x y z i j k m))) (s:=(qH sg' x y z u).want) (n0:=x.id) (n1:=y.id) (n2:=z.id) (n3:=u.id) hTI (hgb _);refine go tt [.T,.x (Tg hu),.k (mC xm ym zm um),.s (sz:=7) (s7 _),.c [4,3] cf] rfl (by simp [U3,Pn] <;> omega) ?_;exact rd (m+1) (by omega) hltm (by rw [et,en,Yh,<-Zd]; simp [U8]; rfl)
    ·have e:=Qpr (x:=x) (y:=y) (m:=m) hz' (by rw [<-hRW]; omega);rw [e];refine go tt [.F] rfl (by simp [U3] <;> omega) ?_;exact rd (k+1) (by omega) hltk rfl
   ·have e:=Qpq (x:=x) (k:=k) hy' (by rw [<-hUW]; omega);rw [e];refine go tt [.F] rfl (by simp [U3] <;> omega) ?_;exact rd (j+1) (by omega) hltj rfl
  ·have e:=Qpp (x:=x) (j:=j) hx (by rw [<-hV]; omega);rw [e];refine go tt [.F] rfl (by simp [U3] <;> omega) ?_;exact rd (i+1) (by omega) hlt rfl
 rw [Qp8 (show i=W.length by omega),<-hG];obtain ⟨C4,hC4⟩:=nmE (C3++(O5 W).map (HL sg'));rw [<-hC4];refine Ud [.F] rfl ?_;refine ozM 0 13 139 3 rfl rfl ?_;have eT:([]:Us)=ZV ((Lu 0 W).filter (jE T G)):=rfl;rw [eT];refine Ui (S:=Nat) 6 (λL1 i=>(174,.v (.oi i))::L1) (λi=>[.blk 168 [.bool true,pl c.now.p,sg c.now.lo.num,mg c.now.lo.num,sg (c.now.lo.den:Int),mg (c.now.lo.den:Int),sg c.now.hi.num,mg c.now.hi.num,sg (c.now.hi.den:Int),mg (c.now.hi.den:Int),.row (Cd c.l),.int .i64 c.ev,.row (U0 l),.orow 5 3 none],.blk 40 (ta a),.row false 144 7 (U8 C4),.mpb T,.mpb G,.row false 139 3 (ZV ((Lu i W).filter (jE T G)))]) (λi=>W.length-i) (λi=>i<=W.length) 0 (Qh _) rfl rfl λi hi=>?_
 by_cases hlt:i<W.length
 ·obtain ⟨x,hx⟩:=gxE (l:=W) (i:=i) hlt;obtain ⟨V,hV⟩:=nmE (W.drop (i+1));have hVl:V.length=W.length-(i+1):=by rw [hV,Q7]
  have eV:(U0 W).drop (i+1)=U0 V:=by rw [hdr,<-hV]
  have hVr:=G6 V;rw [<-LL W x i];refine go tt [.T,.x (Tg hx),.r 181 (eI (b:=((i+1:Nat):Int)) (by omega)),.i (i+1),.r 182 (UL eV)] rfl (by simp only [U3]; (repeat' apply And.intro) <;> first | omega | exact hel) ?_;refine Ui (S:=Nat) 7 (λL1 j=>(184,.v (.oi j))::L1) (λj=>[.blk 168 [.bool true,pl c.now.p,sg c.now.lo.num,mg c.now.lo.num,sg (c.now.lo.den:Int),mg (c.now.lo.den:Int),sg c.now.hi.num,mg c.now.hi.num,sg (c.now.hi.den:Int),mg (c.now.hi.den:Int),.row (Cd c.l),.int .i64 c.ev,.row (U0 l),.orow 5 3 none],.blk 40 (ta a),.row false 144 7 (U8 C4),.mpb T,.mpb G,.row false 139 3 (ZV ((p3j W x i j).filter (jE T G))),.blk 62 (Fc x)]) (λj=>V.length-j) (λj=>j<=V.length) 0 (Qh _) rfl rfl λj hj=>?_
  by_cases hltj:j<V.length
  ·obtain ⟨y,hy⟩:=gxE (l:=V) (i:=j) hltj;have hy':(W.drop (i+1))[j]? = some y:=by rw [<-hV]; exact hy
   obtain ⟨U,hU⟩:=nmE (V.drop (j+1));have hUl:U.length=V.length-(j+1):=by rw [hU,Q7]
   have hUW:U=(W.drop (i+1)).drop (j+1):=by rw [hU,hV]
   have eU:(U0 W).drop (i+j+2)=U0 U:=by rw [hdr,hU,hV,Jw]; congr 2; omega
   have hUr:=G6 U;rw [<-LI W x y i j];refine go tt [.T,.x (Tg hy),.r 193 (eI (b:=((i+j+2:Nat):Int)) (by omega)),.i (i+j+2),.r 194 (UL eU)] rfl (by simp only [U3]; (repeat' apply And.intro) <;> first | omega | exact hel) ?_;refine Ui (S:=Nat) 8 (λL1 k=>(196,.v (.oi k))::L1) (λk=>[.blk 168 [.bool true,pl c.now.p,sg c.now.lo.num,mg c.now.lo.num,sg (c.now.lo.den:Int),mg (c.now.lo.den:Int),sg c.now.hi.num,mg c.now.hi.num,sg (c.now.hi.den:Int),mg (c.now.hi.den:Int),.row (Cd c.l),.int .i64 c.ev,.row (U0 l),.orow 5 3 none],.blk 40 (ta a),.row false 144 7 (U8 C4),.mpb T,.mpb G,.row false 139 3 (ZV ((qB W x y i j k).filter (jE T G))),.blk 62 (Fc x),.blk 62 (Fc y)]) (λk=>U.length-k) (λk=>k<=U.length) 0 (Qh _) rfl rfl λk hk=>?_
   by_cases hltk:k<U.length
   ·obtain ⟨z,hz⟩:=gxE (l:=U) (i:=k) hltk;have hlen:=iL hW6 (k:=k) hx hy';have en:=LA (x:=x) (y:=y) (by rw [<-hUW]; exact hz);have hfl:=Y0 (jE T G) (qB W x y i j k);have htl:=sF ((qB W x y i j k).filter (jE T G));by_cases h1:ZM T [x.id,y.id,z.id]≠0
    ·by_cases h2:BV G [x.id,y.id,z.id]=true
     ·have ef:jE T G (x,y,z)=false:=by unfold jE nT; simp [h2]
      have eF:=Qhp (ps:=qB W x y i j k) ef;rw [<-en] at eF;refine go tt [.T,.x (Tg hz),.g 211 true (decide_eq_true h1),.f (by rw [h2]; rfl)] rfl (by simp only [U3]; (repeat' apply And.intro) <;> first | exact hTm | exact hGB | omega | (simp only [Q5,Xk]; omega)) ?_;exact rd (k+1) (by omega) hltk (by rw [eF]; rfl)
     ·have h2:BV G [x.id,y.id,z.id]=false:=by simpa using h2
      have ef:jE T G (x,y,z)=true:=by unfold jE nT; simp [h2,h1]
      have eF:=Quy (ps:=qB W x y i j k) ef;rw [<-en] at eF;refine go tt [.T,.x (Tg hz),.g 211 true (decide_eq_true h1),.t (by rw [h2]; rfl),.s (sz:=3) (s3 (x,y,z))] rfl (by simp only [U3]; (repeat' apply And.intro) <;> first | exact hTm | exact hGB | omega | (simp only [Q5,Xk]; omega)) ?_;exact rd (k+1) (by omega) hltk (by rw [eF]; simp [ZV]; rfl)
    ·have ef:jE T G (x,y,z)=false:=by unfold jE nT; simp [h1]
     have eF:=Qhp (ps:=qB W x y i j k) ef;rw [<-en] at eF;refine go tt [.T,.x (Tg hz),.g 211 false (decide_eq_false h1),.f rfl] rfl (by simp only [U3]; (repeat' apply And.intro) <;> first | exact hTm | exact hGB | omega | (simp only [Q5,Xk]; omega)) ?_;exact rd (k+1) (by omega) hltk (by rw [eF]; rfl)
   ·have e:=yC (x:=x) (k:=k) hy' (by rw [<-hUW]; omega);rw [e];refine go tt [.F] rfl (by simp [U3] <;> omega) ?_;exact rd (j+1) (by omega) hltj rfl
  ·have e:=yB (x:=x) (j:=j) hx (by rw [<-hV]; omega);rw [e];refine go tt [.F] rfl (by simp [U3] <;> omega) ?_;exact rd (i+1) (by omega) hlt rfl
 rw [Qak (show i=W.length by omega)];rw [hC4,hC3];exact Uh [2,5] [0] [.F] rfl
theorem Qxp {T:Nat} {t:Rat} {Bc:Tm->List Ct} {Br:Tm->Us} {r0:Us} (ht:Qs 1640000 t) (hB:BuildOk Bc)
 (hb:∀ a c r1,Va a->CrOk c->U6 prog 75 [.one (.ow 0 0),.agg (ta a)] [.blk T (Hl c r0 r1)] [.one (.row (U8 (Bc a)))] [.blk T (Hl c r0 (Br a))])
 {K:Nat} {c c':Cr} {r1 r1':Us} {n:Int} (hc:CrOk c) (hev:0<=c.ev/\c.ev+K<=1000000000000000000) (h:Fp c.now t<=0) (hg:WO Bc Br t K c r1 0=some (c',r1',n)) :
 U6 prog 341 [.one (.ow 0 0),.agg (rl t),.one (.ofn 75 [.ow 0 0] [])] [.blk T (Hl c r0 r1)] [.oi n,.oi 0] [.blk T (Hl c' r0 r1')]:=by
 have qt:Qb t:=ht.mono (by decide);have c1:=Dk hc.n.tb qt;refine Fv func341 rfl ?_;refine Ud [.c [0] (QW hc.n),.k c1,.f (by simpa using h)] rfl ?_;refine Ui (S:=Nat×Cr×Us×Int) 2 (λL1 s=>(8,.v (.oi s.2.2.2))::L1) (λs=>[.blk T (Hl s.2.1 r0 s.2.2.1),.blk 38 (rl t)]) (λs=>s.1) (λs=>CrOk s.2.1/\(0<=s.2.1.ev/\s.2.1.ev+s.1<=1000000000000000000)/\(0<=s.2.2.2/\s.2.2.2+s.1<=1000000000000000000)/\WO Bc Br t s.1 s.2.1 s.2.2.1 s.2.2.2=some (c',r1',n)) (K,c,r1,0) ⟨hc,hev,⟨Int.le_refl 0,by dsimp only; omega⟩,hg⟩ rfl rfl λ⟨k,x,r,m⟩ ⟨j1,j2,j3,j4⟩=>?_
 dsimp only at j1 j2 j3 j4 ⊢;cases k with
 | zero=>cases j4
 |
  succ k =>
  simp only [WO] at j4;obtain ⟨ws,w1,j4⟩:=Qd.1 j4;obtain ⟨o,o1,j4⟩:=Qd.1 j4;have cn:=MY (T:=T) (r0:=r0) (r1:=r) j1 w1 o1;have ca:=VI (U4 t.num) (U4 (t.den:Int)) (Qa ht.1 (by decide)) (Qa ht.2 (by decide)) (by rw [Su]; exact ht.mono (by decide));rw [Su] at ca;cases o with
  |
   none =>
   injection j4 with j4; injection j4 with e1 j4; injection j4 with e2 e3;subst e1; subst e2; subst e3;exact Uh [] [0] [.c [0] cn,.g 25 true rfl,.t rfl,.k ca] rfl
  |
   some a =>
   have ha:=LC j1 w1 o1;dsimp only at j4;have cc:=Dk ha.tb qt;by_cases h0:0<Fp a t
   ·rw [if_pos h0] at j4;injection j4 with j4; injection j4 with e1 j4; injection j4 with e2 e3;subst e1; subst e2; subst e3;exact Uh [] [0] [.c [0] cn,.g 25 false rfl,.k cc,.t (by simpa using h0),.k ca] rfl
   ·rw [if_neg h0] at j4;obtain ⟨w2,l1,j4⟩:=Qd.1 j4;have j1':=Et j1 w1;have cl:=S9 (b:=a) (l:=[]) ha.tb (λt ht=>by cases ht) (by decide) rfl;have cb:=hb a { x with l:=ws } r ha j1';have cy:=UK (T:=T) (r0:=r0) (r1:=Br a) j1' ha (hB.p a ha) (hB.n a ha) l1;have hf:decide (0<Fp a t)=false:=by simpa using h0
    refine Ue [.c [0] cn,.g 25 false rfl,.k cc,.f hf,.k cl,.c [0] cb,.c [0] cy] rfl ?_;exact rd (k,⟨a,w2,x.ev+1⟩,Br a,m+1) (by dsimp only; omega) ⟨lay_ok _ j1' ha (hB.p a ha) (hB.n a ha) l1,by dsimp only; omega,by dsimp only; omega,j4⟩ rfl
theorem Qtj {t:Rat} {l:List Pt} {K:Nat} {c c':Cr} {r1 r1':Us} {n:Int} (ht:Qs 1640000 t) (hl:∀ p∈l,Sc p.c) (hn:l.length≤6) (hc:CrOk c) (hev:0≤c.ev/\c.ev+K≤1000000000000000000) (h:Fp c.now t≤0) (hg:WO (xF l) (pN l) t K c r1 0=some (c',r1',n)) :
 U6 prog 377 [.one (.ow 0 0),.agg (rl t)] [.blk 168 (Hl c (U0 l) r1)] [.oi n,.oi 0] [.blk 168 (Hl c' (U0 l) r1')]:=by
 have cg:=Qxp (T:=168) (r0:=U0 l) ht (pK hl hn) (λa c r1 ha _=>IR (c:=c) (r1:=r1) hl hn ha) hc hev h hg;refine Fv func377 rfl ?_;exact Uh [] [0] [.k (Nx (ht.mono (by decide))),.c [0] cg] rfl
theorem pA {c:Cr} {r0:Us} {ts:List P3} (ht:ts.length<=1000):U6 prog 37 [.one (.ow 0 0)] [.blk 168 (Hl c r0 (ZV ts))] [.one (.row (ZV ts))] [.blk 168 (Hl c r0 (ZV ts))]:=by
 have hl:=sF ts;have h3:∀ y∈ZV ts,y.length=3:=λy hy=>by obtain ⟨m,_,rfl⟩:=Za.1 hy; rfl
 refine Fv func37 rfl ?_;exact Uh [1] [0] [.s (sz:=3) h3] rfl (by simp [U3] <;> omega)
end Orr
