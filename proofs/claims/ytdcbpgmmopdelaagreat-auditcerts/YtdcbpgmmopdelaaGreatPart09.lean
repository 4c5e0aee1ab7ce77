/- QA R14 R15 R16 R17 R19 QB PairQ PW1 R21 QC R22 HullS H2 H3 R23 R24 R26 QD R25 QE R29 R30 MeshN CirL QF ZG R18 ZJ QG MD1 HullT NewsN PW2 TouL TouQ EnL PartL BndL HAroL EmpL AudL AudW HulA AudC RiseL AscL HLineL HAro2 AudH MeshK AudX AudM AudY -/
import Derived.Test.YtdcbpgmmopdelaaGreatPart08
import Derived.Test.YtdcbpgmmopdelaaGreatPart00
import Derived.Test.YtdcbpgmmopdelaaGreatPart07
import Derived.Test.YtdcbpgmmopdelaaGreatPart05
import Derived.Test.YtdcbpgmmopdelaaGreatPart04
set_option linter.all false
namespace Orr
open Go Go.Proofs Tryz Orq
set_option maxRecDepth 10000
structure Ti where
 p:List Int
 C:List (List Int)
 lo:Rat
 hi:Rat
 sg:List Int->Int
abbrev Ti.tl(T:Ti):Ur:=ax T.p T.C T.lo T.hi
structure RT(T:Ti):Prop where
 a:∀{p:List Int},Dp p->Uj 16 [.one (rp (zp p)),.agg T.tl] [.oi (Gl T.sg p)]
theorem Sc.rs{k:Crv}(h:Sc k):Rs k:=⟨h.n,h.c.mono (by decide) (by decide)⟩
theorem Bf{a b:Crv}(ha:Sc a)(hb:Sc b):Uj 270 [.agg (P5 a),.agg (P5 b)] [.one (rp (zp (Gu a b)))]:=vG ha.rs hb.rs
theorem Be{a b:Crv}(ha:Sc a)(hb:Sc b):Uj 271 [.agg (P5 a),.agg (P5 b)] [.one (rp (zp (Gt a b)))]:=vW ha.rs hb.rs
theorem Qnu{t:Tm}{C:Un}{N:Nat}{lo hi:Rat}(h:AT t C N lo hi)(hN:N<=900000):RT ⟨t.p,C,lo,hi,Rh t⟩:=⟨λhp=>aN h hN hp⟩
def Sk(sg:Um->Int)(a b:Pt):Bool:=if Gl sg (Gu a.c b.c)≠0 then decide (0<Gl sg (Gu a.c b.c))else if Gl sg (Gt a.c b.c)≠0 then decide (0<Gl sg (Gt a.c b.c))else decide (a.id<b.id)
theorem Ec{a b:Pt}{T:Ti}(ha:Sc a.c)(hb:Sc b.c)(hq:RT T):Uj 173 [.agg (Ht a),.agg (Ht b),.agg (T.tl)] [.one (.bool (Sk T.sg a b))]:=by
 have c1:=hq.a (p:=Gu a.c b.c) (Dn ha hb).dp;have c2:=hq.a (p:=Gt a.c b.c) (Dm ha hb).dp;by_cases h1:Gl T.sg (Gu a.c b.c)≠0
 ·exact Ug func173 rfl [.k (Bf ha hb),.k c1,.t (decide_eq_true h1)] rfl (by unfold Sk;rw[if_pos h1]) trivial
 by_cases h2:Gl T.sg (Gt a.c b.c)≠0
 ·exact Ug func173 rfl [.k (Bf ha hb),.k c1,.f (decide_eq_false h1),.k (Be ha hb),.k c2,.t (decide_eq_true h2)] rfl (by unfold Sk;rw[if_neg h1,if_pos h2]) trivial
 ·exact Ug func173 rfl [.k (Bf ha hb),.k c1,.f (decide_eq_false h1),.k (Be ha hb),.k c2,.f (decide_eq_false h2)] rfl (by unfold Sk;rw[if_neg h1,if_neg h2]) trivial
theorem VV{l:List Pt}{T:Ti}(hl:∀p∈l,Sc p.c)(hn:l.length≤1000000)(hq:RT T):Uj 65 [.one (.row (Fl l)),.agg (T.tl)] [.one (.row (Fl (Fg (Sk T.sg) l)))]:=by
 have hcl:=Gk l;obtain⟨lt,hlt0⟩:=nmE (Sk T.sg);rw[<-hlt0];refine Hz func65 rfl ?_;refine Ud [.o 5 135 7] rfl ?_;refine Ui (S:=Nat) 2 (λL1 i=>(10,.v (.oi i))::(5,.v (.one (.orow 1 7 none)))::L1) (λi=>[.blk 36 (T.tl),.row false 135 7 (Fl (Fg lt (l.take i)))]) (λi=>l.length-i) (λi=>i<=l.length) 0 (Qg _) rfl rfl λi hi=>?_
 by_cases hlt:i<l.length
 ·obtain⟨c,hc⟩:=gxE (l:=l) (i:=i) hlt;have hst:Fg lt (l.take (i+1))=E9 lt (Fg lt (l.take i)) c:=E6 hc;have hcp:=hl c (Qa hc);obtain⟨O,hO⟩:=nmE (Fg lt (l.take i));have hOl:O.length=i:=by rw[hO,Gq,Qq];omega
  have hOm:∀x∈O,Sc x.c:=λx hx=>by rw[hO,Hd]at hx;exact hl x (Ql hx)
  have hrl:=Gk O;rw[<-hO]at hst ⊢;refine Ud [.T] rfl ?_;refine Ui (S:=Nat) 2 (λL1 k=>(7,.v (.oi k))::L1) (λ_=>[.blk 36 (T.tl),.row false 135 7 (Fl O)]) id (λk=>k<=O.length/\Mb lt O c k=Mb lt O c O.length) (Fl O).length ⟨by omega,by rw[hrl]⟩ rfl rfl λk ⟨hk,hp⟩=>?_
  have h7:=O8 O;have h7z:∀y∈[Ht c],y.length=7:=λy hy=>by rw[Qo.1 hy];rfl
  cases k with
  |
   zero =>
   have hp:Mb lt O c O.length=0:=by rw[<-hp];rfl
   refine Ue [.g 17 false (by simp),.f rfl,.i 0,.x (U4 hc),.lo,.i 0,.s (sz:=7) (λy hy=>h7 y (Ql hy)),.s (sz:=7) (λy hy=>(Qr.1 hy).elim (h7z y) λhy=>h7 y (Ql hy))] rfl ?_;exact rd (i+1) (by omega) hlt (by rw[hst,<-WH hp];rfl)
  |
   succ k =>
   obtain⟨x,hx⟩:=gxE (l:=O) (i:=k) (by omega);have cb:=Ec hcp (hOm x (Qa hx)) hq;rw[<-hlt0]at cb;by_cases hlc:lt c x=true
   ·refine Ue [.g 17 true (by simp),.x (U4 hc),.r 24 (eI (b:=(k:Int)) (by simp)),.i k,.x (U4 hx),.k cb,.t hlc,.r 31 (eI (b:=(k:Int)) (by simp))] rfl ?_;exact rd k (by simp) ⟨by omega,by rw[<-hp,WE hx hlc]⟩ rfl
   ·have hlc:lt c x=false:=by simpa using hlc
    have hp:Mb lt O c O.length=k+1:=by rw[<-hp,XT hx hlc]
    refine Ue [.g 17 true (by simp),.x (U4 hc),.r 24 (eI (b:=(k:Int)) (by simp)),.i k,.x (U4 hx),.k cb,.f hlc,.i (k+1),.x (U4 hc),.lo,.i (k+1),.s (sz:=7) (λy hy=>h7 y (Q5 (Ql hy))),.s (sz:=7) (λy hy=>(Qr.1 hy).elim (h7z y) λhy=>h7 y (Q5 (Ql hy)))] rfl ?_;exact rd (i+1) (by omega) hlt (by rw[hst,<-WH hp];rfl)
 ·obtain rfl:i=l.length:=by omega
  rw[Q7];exact Uf [.F] rfl
theorem aD{a b:Pt}{T:Ti}(ha:Sc a.c)(hb:Sc b.c)(hq:RT T):Uj 348 [.oi 1,.agg (T.tl),.one (.row [Ht a,Ht b])] [.agg (YE (Al (T.sg) a b)),.one (.bool true)]:=by
 have hfl:=VF (Gu a.c b.c);have x0:[Ht a,Ht b][0]? = some (Ht a):=rfl;have x1:[Ht a,Ht b][1]? = some (Ht b):=rfl;refine Hz func348 rfl ?_;refine Ud [.g 14 false rfl,.g 18 false rfl,.x (l:=[[.int .i64 0],[.int .i64 2],[.int .i64 2],[.int .i64 3],[.int .i64 4],[.int .i64 4]]) (i:=1) (xs:=[.int .i64 2]) rfl,.f rfl] rfl ?_;refine Ui (S:=Nat) 3 (λL1 i=>(33,.v (.oi i))::L1) (λi=>[.blk 36 (T.tl),.blk 47 rzc,.blk 47 [.int .i64 1,.int .i64 (if 0<i then a.id else 0),.int .i64 (if 1<i then b.id else 0),.int .i64 0,.int .i64 0,.nils,.int .i64 0,.nils,.bool false]]) (λi=>2-i) (λi=>i<=2) 0 (by decide) rfl rfl λi hi=>?_
 rcases(show i=0\/i=1\/i=2 by omega)with rfl|rfl|rfl
 ·exact go tt [.t rfl,.x x0,.i 0] rfl (by simp[Uw]) (rd 1 (by omega) (by omega) rfl)
 ·exact go tt [.t rfl,.x x1,.i 1] rfl (by simp[Uw]) (rd 2 (by omega) (by omega) rfl)
 by_cases h0:(Gu a.c b.c).length=0
 ·have e:CV a b=Gt a.c b.c:=if_neg (by omega);exact Uf [.f rfl,.t rfl,.x x0,.x x1,.k (Bf ha hb),.T,.x x0,.x x1,.k (Be ha hb),.k (hq.a (p:=Gt a.c b.c) (Dm ha hb).dp)] rfl (by unfold Al;rw[e];rfl) trivial
 ·have e:CV a b=Gu a.c b.c:=if_pos (by omega);exact Uf [.f rfl,.t rfl,.x x0,.x x1,.k (Bf ha hb),.F,.k (hq.a (p:=Gu a.c b.c) (Dn ha hb).dp)] rfl (by unfold Al;rw[e];rfl) trivial
theorem vS{a b:Pt}{T:Ti}(ha:Sc a.c)(hb:Sc b.c)(hq:RT T):Uj 263 [.oi 1,.agg (T.tl),.one (.row [Ht a,Ht b])] [.agg (YE (Al (T.sg) a b))] :=
 Ug func263 rfl [.k (aD ha hb hq)] rfl
def Ey(sg:Um->Int)(l:List Pt):List Ct:=Fg Tr (Ck (sg) (Fg (Sk sg) l))
theorem LJ{l:List Pt}{T:Ti}(hl:∀p∈l,Sc p.c)(hn:l.length≤1000)(hq:RT T):Uj 161 [.one (.row (Fl l)),.agg (T.tl)] [.one (.row (Fp (Ey T.sg l)))]:=by
 have c1:=VV hl (by omega) hq;have hML:(Fg (Sk T.sg) l).length=l.length:=Gq _ _;have hMl:∀p∈Fg (Sk T.sg) l,Sc p.c:=λp hp=>hl p (Hd.1 hp)
 unfold Ey;obtain⟨M,hM⟩:=nmE (Fg (Sk T.sg) l);rw[<-hM]at c1 hML hMl ⊢;have hcl:=Gk M;have hrl:=JI (T.sg) M;have c2:=KA (l:=Ck (T.sg) M) (by omega);refine Hz func161 rfl ?_;refine Ud [.k c1,.o 6 47 9] rfl ?_;refine Ui (S:=Nat) 2 (λL1 i=>(7,.v (.oi i))::(6,.v (.one (.orow 1 9 none)))::L1) (λi=>[.blk 36 (T.tl),.row false 47 9 (Fp ((Ck (T.sg) M).take i))]) (λi=>M.length-i) (λi=>i<=M.length-1) 0 (Qg _) rfl rfl λi hi=>?_
 have htl:(Fp ((Ck (T.sg) M).take i)).length=i:=by rw[Rt,Qq];omega
 by_cases hlt:i+1<M.length
 ·obtain⟨a,ha⟩:=gxE (l:=M) (i:=i) (by omega);obtain⟨b,hb⟩:=gxE (l:=M) (i:=i+1) hlt;have hg:=HF (T.sg) ha hb;have hm:∀y∈[YE (Al (T.sg) a b)],y.length=9:=λy hy=>by rw[Qo.1 hy];rfl
  refine go tt [.T,.x (U4 ha),.x (U4 hb),.k (vS (hMl a (Qa ha)) (hMl b (Qa hb)) hq),.s (sz:=9) hm] rfl (by simp[Uw,htl];omega) ?_;exact rd (i+1) (by omega) (by omega) (by rw[hg];simp[Fp];rfl)
 ·have e:(Ck (T.sg) M).take i=Ck (T.sg) M:=Qn (by omega);rw[e];exact Uf [.F,.k c2] rfl rfl (by simp[Uw];omega)
end Orr
namespace Orr
open Go Go.Proofs Tryz
set_option maxRecDepth 10000
theorem Qkg(l:Uo)(n:Nat):(lm l).take (min l.length n)=lm (l.take n):=by
 rw[lm,lm,<-V8];rcases Nat.le_total l.length n with h|h
 ·rw[Zx h,Q7,Qn h]
 ·rw[V4 h]
theorem Qos{l:Uo}{n:Nat}(hn:n<=1000):Uj 245 [.one (.row (lm l)),.oi n] [.one (.row (lm (l.take n)))]:=by
 rw[<-Qkg];have hll:(lm l).length=l.length:=by simp[lm]
 exact Ug func245 rfl [.r 9 (eI (b:=((min l.length n:Nat):Int)) (by omega)),.i (min l.length n)] rfl rfl (by simp[Uw,hll];omega)
theorem Qcb{z:RawInt}:Uj 150 [.agg (HU z),.oi 1] [.agg (HU z.cut)] :=
 Ug func150 rfl [.k (Qos (l:=z.l) (n:=1) (by decide))] rfl
def YA(l:List RawInt):Us:=l.map HU
theorem JA(l:List RawInt):(YA l).length=l.length:=by simp[YA]
theorem bQ{l:List RawInt}:Uj 149 [.one (.row (YA l)),.oi 3,.oi 1] [.one (.row (YA ((l.take 3).map RawInt.cut)))]:=by
 have hll:=JA l;refine Hz func149 rfl (ln 0 rfl rfl λhzl=>?_);rw[hll]at hzl;refine Ud [.o 7 55 2] rfl ?_;refine Ui (S:=Nat) 1 (λL1 i=>(8,.v (.oi i))::(7,.v (.one (.orow 0 2 none)))::L1) (λi=>[.row false 55 2 (YA ((l.take i).map RawInt.cut))]) (λi=>3-i) (λi=>i<=3/\i<=l.length) 0 ⟨by decide,Qg _⟩ rfl rfl λi ⟨hi,hi2⟩=>?_
 have hil:(YA ((l.take i).map RawInt.cut)).length=i:=by rw[JA,Q8,Qq];omega
 by_cases h1:i<l.length
 ·by_cases h2:i<3
  ·obtain⟨z,hz⟩:=gxE (l:=l) (i:=i) h1;have hm:∀y∈[HU z.cut],y.length=2:=λy hy=>by rw[Qo.1 hy];rfl
   refine go tt [.g 13 true Ul,.T,.x (He (f:=HU) hz),.k Qcb,.s (sz:=2) hm] rfl (by simp[Uw,hil,-List.map_take];omega) ?_;exact rd (i+1) (by omega) ⟨h2,h1⟩ (by rw[Xd,hz];simp[YA];rfl)
  ·have e:i=3:=by omega
   have e2:l.take 3=l.take i:=by rw[e]
   rw[e2];exact Uf [.g 13 true Ul,.F] rfl
 ·have e:l.take i=l.take 3:=by rw[Qn (by omega),Qn (by omega)]
  rw[e];exact Uf [.g 13 false Uk,.f rfl] rfl
abbrev rcw(z:RawPt):Ur:=[.row (YA z.x),.row (YA z.y),.bool z.d.b,.row (lm z.d.l)]
def RawPt.cut(z:RawPt):RawPt:=⟨(z.x.take 3).map RawInt.cut,(z.y.take 3).map RawInt.cut,z.d.cut,z.id⟩
theorem Qro{z:RawPt}:Uj 51 [.agg (rcw z),.oi 3,.oi 1] [.agg (rcw z.cut)] :=
 Ug func51 rfl [.k (bQ (l:=z.x)),.k (bQ (l:=z.y)),.k (Qcb (z:=z.d))] rfl
theorem KB{z:RawInt}(hz:z.Ok){most:Int}(hm:0<=most/\most<=999):Uj 151 [.agg (HU z),.oi most] [.agg (H9 (Tv most z))]:=by
 obtain⟨b,l⟩:=z;have hb:=VR hm.1 ⟨b,l⟩;have hs:Ff (Tv most ⟨b,l⟩)<=100000000:=Qc (Tg.2 (show(Tv most ⟨b,l⟩).natAbs<2^10 by omega)) (by decide);cases l with
 |nil=>exact Ug func151 rfl [.t rfl] rfl (by simp[Tv,Er]) trivial
 |
  cons u l =>
  have hu:=hz.u u (Q0 ..);have co:=D9 (n:=Tv most ⟨b,u::l⟩) (by omega);have ct:=Qb2 hs;have hr:Int.tmod (u:Int) (most+1)=(u:Int) % (most+1):=Y7 (by omega);have h1:=Vj (u:Int) (b:=most+1) (by omega);have h2:=Y0 (u:Int) (b:=most+1) (by omega);cases b with
  |
   true =>
   rw[show Tv most ⟨true,u::l⟩=-((u:Int) % (most+1)) from rfl]at co ct ⊢;exact Ug func151 rfl [.f (decide_eq_false (by simp[lm];try omega)),.x (l:=lm (u::l)) (i:=0) (xs:=[.int .u32 (u:Int)]) rfl,.r 18 (eI hr),.t rfl,.k co,.k ct] rfl rfl (by simp[Uw];omega)
  |
   false =>
   rw[show Tv most ⟨false,u::l⟩=(u:Int) % (most+1) from rfl]at co ct ⊢;exact Ug func151 rfl [.f (decide_eq_false (by simp[lm];try omega)),.x (l:=lm (u::l)) (i:=0) (xs:=[.int .u32 (u:Int)]) rfl,.r 18 (eI hr),.f rfl,.k co,.k ct] rfl rfl (by simp[Uw];omega)
theorem oz2{P:Program}[Mo P]{n:Nat}{Q:Exit->Sg->Ut->Prop}{L L':Sg}{B B':Ut}(d off T sz:Nat){it:List It}(hs:Se it=true)(h:Qfz (P:=P) d L B [.oc d off T sz]=some (L',B',[],[]))(k:AK P n Q it L' B'):AK P n Q it L B:=AK.sub (pG h EqOk.nil) hs k
theorem pz{P:Program}[Mo P]{n:Nat}{Q:Exit->Sg->Ut->Prop}{L L':Sg}{B B':Ut}(i:Nat){it:List It}(hs:Se it=true)(h:oI [i] L B=some (L',B'))(k:AK P n Q it L' B'):AK P n Q it L B:=AK.sub (UZ h) hs k
def Ir(l:Um):Us:=l.map H9
theorem oU(l:Um):(Ir l).length=l.length:=by simp[Ir]
theorem GL{most:Int}{l:List RawInt}{i:Nat}{a:RawInt}(hi:i<3)(h:l[i]? = some a):Ir (Hq most (l.take (i+1)))=Ir (Hq most (l.take i))++[H9 (Tv most a)]:=by
 rw[zE hi h];simp[Ir]
theorem zL{most:Int}{l:List RawInt}{i:Nat}(hi:i<=3)(h:i<=l.length):(Ir (Hq most (l.take i))).length=i:=by
 rw[oU];unfold Hq;rw[List.length_map,List.length_take,List.length_take];omega
theorem Qbo{z:RawPt}(hz:z.Ok){most:Int}(hm:0<=most/\most<=999):Uj 52 [.agg (rcw z),.oi most] [.agg (cl4 (WT most z.x z.y z.d))]:=by
 have hxl:=JA z.x;have hyl:=JA z.y;obtain⟨D,hD⟩:=nmE (Tv 3 z.d);have cd:=KB hz.d (most:=3) (by decide);have hx0:∀{i:Nat},z.x.length<=i\/3<=i->Hq most (z.x.take i)=Hq most z.x:=TZ most;have hy0:∀{i:Nat},z.y.length<=i\/3<=i->Hq most (z.y.take i)=Hq most z.y:=TZ most;unfold WT;rw[<-hD]at cd ⊢;refine Hz func52 rfl ?_;refine Ud [.k cd] rfl ?_;refine oz2 5 0 55 2 rfl rfl ?_;refine Ui (S:=Nat) 4 (λL1 i=>(6,.v (.oi i))::L1) (λi=>[.blk 74 (rcw z),.blk 74 [.nils,.nils,.bool false,.nils],.blk 74 [.orow 3 2 none,.nils,sg D,mg D],.row false 55 2 (Ir (Hq most (z.x.take i)))]) (λi=>3-i) (λi=>i<=3/\i<=z.x.length) 0 ⟨by decide,Qg _⟩ rfl rfl λi ⟨hi,hi2⟩=>?_
 have hll:=zL (most:=most) hi hi2;by_cases hr:i<z.x.length/\i<3
 ·obtain⟨a,ha⟩:=gxE (l:=z.x) (i:=i) hr.1;have hs:∀y∈[H9 (Tv most a)],y.length=2:=λy hy=>by rw[Qo.1 hy];rfl
  refine go tt [.g 17 true Ul,.T,.x (He (f:=HU) ha),.k (KB (hz.x a (Qa ha)) hm),.s (sz:=2) hs] rfl (by simp[Uw,hll];omega) ?_;exact rd (i+1) (by omega) ⟨hr.2,hr.1⟩ (by rw[GL hr.2 ha];rfl)
 have hg1:decide ((i:Int)<((YA z.x).length:Int))=true->i<z.x.length:=λh=>by have:=of_decide_eq_true h;omega
 rw[hx0 (by omega)];clear hll;have hfin:∀{j:Nat},j<=3/\j<=z.y.length->¬(j<z.y.length/\j<3)->Ir (Hq most (z.y.take j))=Ir (Hq most z.y):=λh1 h2=>by rw[hy0 (by omega)]
 by_cases hxx:i<z.x.length
 ·refine Ud [.g 17 true Ul,.F] rfl ?_;refine pz 3 rfl rfl ?_;refine oz2 5 1 55 2 rfl rfl ?_;refine Ui (S:=Nat) 5 (λL1 j=>(7,.v (.oi j))::L1) (λj=>[.blk 74 (rcw z),.blk 74 [.nils,.nils,.bool false,.nils],.blk 74 [.row (Ir (Hq most z.x)),.orow 4 2 none,sg D,mg D],.gone,.row false 55 2 (Ir (Hq most (z.y.take j)))]) (λj=>3-j) (λj=>j<=3/\j<=z.y.length) 0 ⟨by decide,Qg _⟩ rfl rfl λj ⟨hj,hj2⟩=>?_
  have hll:=zL (most:=most) hj hj2;by_cases hr:j<z.y.length/\j<3
  ·obtain⟨a,ha⟩:=gxE (l:=z.y) (i:=j) hr.1;have hs:∀y∈[H9 (Tv most a)],y.length=2:=λy hy=>by rw[Qo.1 hy];rfl
   refine go tt [.g 40 true Ul,.T,.x (He (f:=HU) ha),.k (KB (hz.y a (Qa ha)) hm),.s (sz:=2) hs] rfl (by simp[Uw,hll];omega) ?_;exact rd (j+1) (by omega) ⟨hr.2,hr.1⟩ (by rw[GL hr.2 ha];rfl)
  rw[hfin ⟨hj,hj2⟩ hr];by_cases hyy:j<z.y.length
  ·exact Uh [4] [] [.g 40 true Ul,.F] rfl
  ·exact Uh [4] [] [.g 40 false Uk,.f rfl] rfl
 ·refine Ud [.g 17 false Uk,.f rfl] rfl ?_;refine pz 3 rfl rfl ?_;refine oz2 5 1 55 2 rfl rfl ?_;refine Ui (S:=Nat) 5 (λL1 j=>(7,.v (.oi j))::L1) (λj=>[.blk 74 (rcw z),.blk 74 [.nils,.nils,.bool false,.nils],.blk 74 [.row (Ir (Hq most z.x)),.orow 4 2 none,sg D,mg D],.gone,.row false 55 2 (Ir (Hq most (z.y.take j)))]) (λj=>3-j) (λj=>j<=3/\j<=z.y.length) 0 ⟨by decide,Qg _⟩ rfl rfl λj ⟨hj,hj2⟩=>?_
  have hll:=zL (most:=most) hj hj2;by_cases hr:j<z.y.length/\j<3
  ·obtain⟨a,ha⟩:=gxE (l:=z.y) (i:=j) hr.1;have hs:∀y∈[H9 (Tv most a)],y.length=2:=λy hy=>by rw[Qo.1 hy];rfl
   refine go tt [.g 40 true Ul,.T,.x (He (f:=HU) ha),.k (KB (hz.y a (Qa ha)) hm),.s (sz:=2) hs] rfl (by simp[Uw,hll];omega) ?_;exact rd (j+1) (by omega) ⟨hr.2,hr.1⟩ (by rw[GL hr.2 ha];rfl)
  rw[hfin ⟨hj,hj2⟩ hr];by_cases hyy:j<z.y.length
  ·exact Uh [4] [] [.g 40 true Ul,.F] rfl
  ·exact Uh [4] [] [.g 40 false Uk,.f rfl] rfl
theorem nS{n d:Int}(hn:-9223372036854775808<=n/\n<=9223372036854775807)(hd:-9223372036854775808<=d/\d<=9223372036854775807):Uj 56 [.oi n,.oi d] [.agg (fr (H4 (Da n 61-30) (1+Da d 6)))]:=by
 have h1:Da n 61=n % 61:=rfl;have h2:Da d 6=d % 6:=rfl;exact Ug func56 rfl [.k (Dk (v:=n) (n:=61) hn (by decide)),.k (Dk (v:=d) (n:=6) hd (by decide)),.k (Qm3 (n:=Da n 61-30) (d:=1+Da d 6) (by omega) (by omega))] rfl rfl (by simp[Uw];omega)
def rwq(z:RawPt):Ur:=rcw z++[.int .i64 z.id]
def OF(l:List RawPt):Us:=l.map rwq
theorem Qaj(l:List RawPt):(OF l).length=l.length:=by simp[OF]
theorem jR{l:List RawPt}{i:Nat}{z:RawPt}(h:l[i]? = some z):(OF l)[i]? = some (rwq z):=He h
theorem Qoy{most:Int}(hm:0<=most/\most<=999)(z:RawPt):Cs 100000 16 (JS most z).c:=(EB hm z.x z.y z.d).mono (by decide) (by decide)
def I3(n:Nat)(most:Int)(zs:List RawPt)(i:Nat):List Pt:=LA n most (zs.take i)
theorem Qf1(n:Nat)(most:Int)(zs:List RawPt)(i:Nat):(I3 n most zs i).length<=n:=WV _ _ (Qg _)
theorem Qk8{n:Nat}{most:Int}{zs:List RawPt}{i:Nat}{z:RawPt}(h:zs[i]? = some z)(hl:(I3 n most zs i).length<n)(ha:(I3 n most zs i).any (λx=>decide (x.id=(JS most z).id))=true):I3 n most zs (i+1)=I3 n most zs i:=by
 unfold I3 LA at *;rw[Xd,h,X7,Xm];exact Oy _ _ _ hl ha
theorem Qf2{n:Nat}{most:Int}{zs:List RawPt}{i:Nat}{z:RawPt}(h:zs[i]? = some z)(hl:(I3 n most zs i).length<n)(ha:(I3 n most zs i).any (λx=>decide (x.id=(JS most z).id))=false):I3 n most zs (i+1)=I3 n most zs i++[JS most z]:=by
 unfold I3 LA at *;rw[Xd,h,X7,Xm];exact Az _ _ _ hl ha
theorem Qf0{n:Nat}{most:Int}{zs:List RawPt}{i:Nat}(h:¬(i<zs.length/\(I3 n most zs i).length<n)):I3 n most zs i=LA n most zs:=by
 by_cases h1:i<zs.length
 ·have hl:n<=(I3 n most zs i).length:=Yj λh2=>h ⟨h1,h2⟩
  unfold I3 LA at *
  conv=>rhs;rw[<-Zj i zs,Xm]
  exact(GK _ _ _ hl).symm
 ·unfold I3;rw[List.take_of_length_le (by omega)]
theorem Qa8{f:Pt->Bool}{l:List Pt}{k:Nat}{x:Pt}(h:l[k]? = some x):(l.take (k+1)).any f=((l.take k).any f || f x):=by
 rw[Xd,h];simp
theorem aG{zs:List RawPt}(hz:∀z∈zs,z.Ok):Ab prog 12 [.one (.row (OF zs)),.oi 4] [] [.one (.orow 0 5 none),.one (.orow 1 7 none)] [.row false 76 5 (Gx (LA 4 20 zs)),.row false 135 7 (Fl ((LA 4 20 zs).map Pt.nrm))]:=by
 have hzl:=Qaj zs;refine Hz func12 rfl (ln 0 rfl rfl λhz63=>?_);rw[hzl]at hz63;refine Ud [.o 6 76 5,.o 7 135 7] rfl ?_;refine Ui (S:=Nat) 2 (λL1 i=>(8,.v (.oi i))::(6,.v (.one (.orow 0 5 none)))::(7,.v (.one (.orow 1 7 none)))::L1) (λi=>[.row false 76 5 (Gx (I3 4 20 zs i)),.row false 135 7 (Fl ((I3 4 20 zs i).map Pt.nrm))]) (λi=>zs.length-i) (λi=>i<=zs.length) 0 (Qg _) rfl rfl λi hi=>?_
 have hOl:=Qf1 4 20 zs i;have hend:=Qf0 (n:=4) (most:=20) (zs:=zs) (i:=i);by_cases h1:i<zs.length
 ·by_cases h2:(I3 4 20 zs i).length<4
  ·obtain⟨z,hzi⟩:=gxE (l:=zs) (i:=i) h1;have hzok:=hz z (Qa hzi);have hin:=Qk8 hzi h2;have hout:=Qf2 hzi h2;obtain⟨O,hO⟩:=nmE (I3 4 20 zs i);rw[<-hO]at hOl h2 hin hout ⊢;have De:=S5 O;have hrl:(Fl (O.map Pt.nrm)).length=O.length:=by rw[Gk,Q8]
   obtain⟨p,hp⟩:=nmE (JS 20 z);have hid:Da z.id 1000=p.id:=by rw[hp];rfl
   have cw:=Dk (v:=z.id) (n:=1000) hzok.id (by decide);have cl:=Qbo hzok (most:=20) (by decide);have ecl:cl4 (WT 20 z.x z.y z.d)=cl4 p.c:=by rw[hp];rfl
   rw[hid]at cw;rw[ecl]at cl;rw[<-hp]at hin hout;refine Ud [.g 16 true Ul,.T,.x (jR hzi),.k (Qro (z:=z)),.x (jR hzi),.k cw,.f rfl,.t rfl,.x (jR hzi),.k cl] rfl ?_;refine Ui (S:=Nat) 3 (λL1 k=>(57,.v (.oi k))::(10,.v (.one (.bool ((O.take k).any (λx=>decide (x.id=p.id))))))::L1) (λ_=>[.row false 76 5 (Gx O),.row false 135 7 (Fl (O.map Pt.nrm)),.blk 76 [pl p.c.x,pl p.c.y,sg p.c.d,mg p.c.d,.int .i64 p.id]]) (λk=>O.length-k) (λk=>k<=O.length) 0 (Qg _) rfl rfl λk hk=>?_
   by_cases hk2:k<O.length
   ·obtain⟨x,hx⟩:=gxE (l:=O) (i:=k) hk2;have ha:=Qa8 (f:=λx=>decide (x.id=p.id)) hx;cases hb:(O.take k).any (λx=>decide (x.id=p.id))with
    |
     true =>
     rw[hb,K6]at ha;exact go tt [.T,.g 61 true rfl] rfl (by simp[Uw];omega) (rd (k+1) (by omega) hk2 (by rw[ha];rfl))
    |
     false =>
     rw[hb,Vi]at ha;exact go tt [.T,.g 61 false rfl,.i k,.x (Ra hx)] rfl (by simp[Uw,De];omega) (rd (k+1) (by omega) hk2 (by rw[ha];rfl))
   have hk3:O.take k=O:=Qn (by omega);rw[hk3];cases hb:O.any (λx=>decide (x.id=p.id))with
   |
    true =>
    refine Ue [.F,.f rfl] rfl ?_;exact rd (i+1) (by omega) h1 (by rw[hin hb];rfl)
   |
    false =>
    have cf:=Qcq (k:=p.c) (id:=p.id) (by rw[hp];exact Qoy (by decide) z);have hm1:∀y∈[Sa p],y.length=5:=λy hy=>by rw[Qo.1 hy];rfl
    have hm2:∀y∈[Ht p.nrm],y.length=7:=λy hy=>by rw[Qo.1 hy];rfl
    have e1:Gx (O++[p])=Gx O++[Sa p]:=by simp[Gx]
    have e2:Fl ((O++[p]).map Pt.nrm)=Fl (O.map Pt.nrm)++[Ht p.nrm]:=by simp[Fl]
    refine go tt [.F,.t rfl,.s (sz:=5) hm1,.k cf,.s (sz:=7) hm2] rfl (by simp[Uw,De,hrl];omega) ?_;exact rd (i+1) (by omega) h1 (by rw[hout hb,e1,e2];rfl)
  ·rw[hend (λh=>h2 h.2)];rw[hend (λh=>h2 h.2)]at h2;have De:=S5 (LA 4 20 zs);exact Uh [] [0,1] [.g 16 true Ul,.F] rfl
 ·rw[hend (λh=>h1 h.1)];exact Uh [] [0,1] [.g 16 false Uk,.f rfl] rfl

abbrev rgm(m:Pt×Pt):Ur:=Ht m.1++Ht m.2
def O7(l:List (Pt×Pt)):Us:=l.map rgm
theorem E5(l:List (Pt×Pt)):(O7 l).length=l.length:=by simp[O7]
theorem UV(l:List (Pt×Pt)):∀c∈O7 l,c.length=14:=λc hc=>by obtain⟨x,_,rfl⟩:=Zw.1 hc;rfl
abbrev Qsm:Pt:=⟨⟨[],[],0⟩,0⟩
def RV(bt:Pt->Pt->Bool):Nat->List Pt->Pt×List (Pt×Pt)
 | 0,l=>(l.headD Qsm,[])
 |
  k+1,l=>if l.length<=1 then(l.headD Qsm,[])else
  if bt (RV bt k (l.take ((l.length+1) / 2))).1 (RV bt k (l.drop ((l.length+1) / 2))).1=true
  then((RV bt k (l.take ((l.length+1) / 2))).1,((RV bt k (l.take ((l.length+1) / 2))).2++(RV bt k (l.drop ((l.length+1) / 2))).2)++[((RV bt k (l.take ((l.length+1) / 2))).1,(RV bt k (l.drop ((l.length+1) / 2))).1)])
  else((RV bt k (l.drop ((l.length+1) / 2))).1,((RV bt k (l.take ((l.length+1) / 2))).2++(RV bt k (l.drop ((l.length+1) / 2))).2)++[((RV bt k (l.drop ((l.length+1) / 2))).1,(RV bt k (l.take ((l.length+1) / 2))).1)])
theorem NY{l:List Pt}{k:Nat}(h2:¬l.length<=1)(hk:l.length<=k+1):(l.take ((l.length+1) / 2)).length<=k/\(l.drop ((l.length+1) / 2)).length<=k/\0<(l.take ((l.length+1) / 2)).length/\0<(l.drop ((l.length+1) / 2)).length/\(l.take ((l.length+1) / 2)).length+(l.drop ((l.length+1) / 2)).length=l.length:=by
 rw[Qq,Xs];omega
theorem VX(bt:Pt->Pt->Bool):∀(k:Nat) (l:List Pt),0<l.length->l.length≤k->(RV bt k l).1∈l/\(∀m∈(RV bt k l).2,m.1∈l/\m.2∈l)/\(RV bt k l).2.length+1=l.length
 | 0,l,h0,hk=>by omega
 |
  k+1,l,h0,hk=>by
  by_cases h1:l.length<=1
  ·obtain⟨p,rfl⟩:=Jv.1 (show l.length=1 by omega);refine⟨by simp[RV],λm hm=>by simp[RV]at hm,rfl⟩
  ·obtain⟨k1,k2,k3,k4,k5⟩:=NY h1 hk;obtain⟨a1,a2,a3⟩:=VX bt k _ k3 k1;obtain⟨b1,b2,b3⟩:=VX bt k _ k4 k2;simp only[RV,if_neg h1]
   split
   all_goals
    refine⟨?_,λm hm=>?_,by simp only[Q3,Jc];omega⟩
    ·first|exact Ql a1|exact Q5 b1
    ·rcases Qr.1 hm with hm|hm
     ·rcases Qr.1 hm with hm|hm
      ·exact⟨Ql (a2 m hm).1,Ql (a2 m hm).2⟩
      ·exact⟨Q5 (b2 m hm).1,Q5 (b2 m hm).2⟩
     ·rw[Qo.1 hm]
      first|exact⟨Ql a1,Q5 b1⟩|exact⟨Q5 b1,Ql a1⟩
theorem Qlh{l m:Us}(h:l=m):TV.one (LV.row l)=.one (.row m):=h ▸ rfl
end Orr
namespace Orr
open Go Go.Proofs Tryz Orq
set_option maxRecDepth 10000
def Cx(sg:Um->Int)(a b:Pt):Bool:=if Gl sg (Gt b.c a.c)≠0 then decide (0<Gl sg (Gt b.c a.c))else if Gl sg (Gu b.c a.c)≠0 then decide (0<Gl sg (Gu b.c a.c))else decide (a.id<b.id)
theorem aC{a b:Pt}{T:Ti}(ha:Sc a.c)(hb:Sc b.c)(hq:RT T):Uj 178 [.agg (Ht a),.agg (Ht b),.agg (T.tl)] [.one (.bool (Cx T.sg a b))]:=by
 have c1:=hq.a (p:=Gt b.c a.c) (Dm hb ha).dp;have c2:=hq.a (p:=Gu b.c a.c) (Dn hb ha).dp;by_cases h1:Gl T.sg (Gt b.c a.c)≠0
 ·exact Ug func178 rfl [.k (Be hb ha),.k c1,.t (decide_eq_true h1)] rfl (by unfold Cx;rw[if_pos h1]) trivial
 by_cases h2:Gl T.sg (Gu b.c a.c)≠0
 ·exact Ug func178 rfl [.k (Be hb ha),.k c1,.f (decide_eq_false h1),.k (Bf hb ha),.k c2,.t (decide_eq_true h2)] rfl (by unfold Cx;rw[if_neg h1,if_pos h2]) trivial
 ·exact Ug func178 rfl [.k (Be hb ha),.k c1,.f (decide_eq_false h1),.k (Bf hb ha),.k c2,.f (decide_eq_false h2)] rfl (by unfold Cx;rw[if_neg h1,if_neg h2]) trivial
theorem ZZ{T:Ti}(hq:RT T):∀(k:Nat) (l:List Pt),0<l.length->l.length≤k->l.length≤1000->(∀p∈l,Sc p.c)->Uj 68 [.one (.row (Fl l)),.agg (T.tl)] [.agg (Ht (RV (Cx T.sg) k l).1),.one (.row (O7 (RV (Cx T.sg) k l).2))]
 | 0,l,h0,hk,_,_=>by omega
 |
  k+1,l,h0,hk,hn,hl=>by
  have hcl:=Gk l;by_cases h1:l.length<=1
  ·obtain⟨p,rfl⟩:=Jv.1 (show l.length=1 by omega);exact Ug func68 rfl [.t rfl,.x (U4 (l:=[p]) (i:=0) rfl)] rfl
  ·obtain⟨k1,k2,k3,k4,k5⟩:=NY h1 hk;obtain⟨a1,a2,a3⟩:=VX (Cx T.sg) k _ k3 k1;obtain⟨b1,b2,b3⟩:=VX (Cx T.sg) k _ k4 k2;have c1:=ZZ hq k (l.take ((l.length+1) / 2)) k3 k1 (by omega) λp hp=>hl p (Ql hp)
   have c2:=ZZ hq k (l.drop ((l.length+1) / 2)) k4 k2 (by omega) λp hp=>hl p (Q5 hp)
   have hA:=hl _ (Ql a1);have hB:=hl _ (Q5 b1);have cb:=aC hA hB hq;have e1:(Fl l).take ((l.length+1) / 2)=Fl (l.take ((l.length+1) / 2)):=by simp[Fl,V8]
   have e2:(Fl l).drop ((l.length+1) / 2)=Fl (l.drop ((l.length+1) / 2)):=by simp[Fl,Ku]
   have htd:((l.length:Int)+1).tdiv 2=(((l.length+1) / 2:Nat):Int):=rfl;have h7:=eq_true (p:=∀z,z∈Fl l->z.length=ti135.sz) (O8 l);simp only[RV,if_neg h1];generalize RV (Cx T.sg) k (l.take ((l.length+1) / 2))=A at *;generalize RV (Cx T.sg) k (l.drop ((l.length+1) / 2))=B at *;have g1:=E5 A.2;have g2:=E5 B.2;have gap:∀m,O7 (A.2++B.2++[m])=(O7 A.2++O7 B.2)++[rgm m]:=λm=>by simp[O7]
   by_cases hb:Cx T.sg A.1 B.1=true
   ·rw[if_pos hb];dsimp only;rw[gap];exact Ug func68 rfl [.F,.r 21 (eI (b:=(((l.length+1) / 2:Nat):Int)) (by rw[hcl];rfl)),.i ((l.length+1) / 2),.r 25 (Qlh e1),.k c1,.i ((l.length+1) / 2),.r 33 (Qlh e2),.k c2,.s (sz:=14) (UV A.2),.s (sz:=14) (UV B.2),.k cb,.t hb,.s (sz:=14) (l:=[rgm (A.1,B.1)]) (λc hc=>by rw[Qo.1 hc];rfl)] rfl rfl (by simp[Uw,Gk,E5,h7];omega)
   ·have hb:Cx T.sg A.1 B.1=false:=by simpa using hb
    rw[if_neg (by rw[hb];decide)];dsimp only;rw[gap];exact Ug func68 rfl [.F,.r 21 (eI (b:=(((l.length+1) / 2:Nat):Int)) (by rw[hcl];rfl)),.i ((l.length+1) / 2),.r 25 (Qlh e1),.k c1,.i ((l.length+1) / 2),.r 33 (Qlh e2),.k c2,.s (sz:=14) (UV A.2),.s (sz:=14) (UV B.2),.k cb,.f hb,.s (sz:=14) (l:=[rgm (B.1,A.1)]) (λc hc=>by rw[Qo.1 hc];rfl)] rfl rfl (by simp[Uw,Gk,E5,h7];omega)
theorem aL{a b:Pt}{T:Ti}(ha:Sc a.c)(hb:Sc b.c)(hq:RT T):Uj 348 [.oi 2,.agg (T.tl),.one (.row [Ht a,Ht b])] [.agg (YE (Lk (T.sg) a b)),.one (.bool true)]:=by
 have hfl:=VF (Gt b.c a.c);have x0:[Ht a,Ht b][0]? = some (Ht a):=rfl;have x1:[Ht a,Ht b][1]? = some (Ht b):=rfl;refine Hz func348 rfl ?_;refine Ud [.g 14 false rfl,.g 18 false rfl,.x (l:=[[.int .i64 0],[.int .i64 2],[.int .i64 2],[.int .i64 3],[.int .i64 4],[.int .i64 4]]) (i:=2) (xs:=[.int .i64 2]) rfl,.f rfl] rfl ?_;refine Ui (S:=Nat) 3 (λL1 i=>(33,.v (.oi i))::L1) (λi=>[.blk 36 (T.tl),.blk 47 rzc,.blk 47 [.int .i64 2,.int .i64 (if 0<i then a.id else 0),.int .i64 (if 1<i then b.id else 0),.int .i64 0,.int .i64 0,.nils,.int .i64 0,.nils,.bool false]]) (λi=>2-i) (λi=>i<=2) 0 (by decide) rfl rfl λi hi=>?_
 rcases(show i=0\/i=1\/i=2 by omega)with rfl|rfl|rfl
 ·exact go tt [.t rfl,.x x0,.i 0] rfl (by simp[Uw]) (rd 1 (by omega) (by omega) rfl)
 ·exact go tt [.t rfl,.x x1,.i 1] rfl (by simp[Uw]) (rd 2 (by omega) (by omega) rfl)
 by_cases h0:(Gt b.c a.c).length=0
 ·have e:BE a b=Gu b.c a.c:=if_neg (by omega);exact Uf [.f rfl,.f rfl,.t rfl,.x x1,.x x0,.k (Be hb ha),.T,.x x1,.x x0,.k (Bf hb ha),.k (hq.a (p:=Gu b.c a.c) (Dn hb ha).dp)] rfl (by unfold Lk;rw[e];rfl) trivial
 ·have e:BE a b=Gt b.c a.c:=if_pos (by omega);exact Uf [.f rfl,.f rfl,.t rfl,.x x1,.x x0,.k (Be hb ha),.F,.k (hq.a (p:=Gt b.c a.c) (Dm hb ha).dp)] rfl (by unfold Lk;rw[e];rfl) trivial
theorem Qct{a b:Pt}{T:Ti}(ha:Sc a.c)(hb:Sc b.c)(hq:RT T):Uj 263 [.oi 2,.agg (T.tl),.one (.row [Ht a,Ht b])] [.agg (YE (Lk (T.sg) a b))] :=
 Ug func263 rfl [.k (aL ha hb hq)] rfl
def O6(sg:Um->Int)(l:List Pt):List Ct:=if l.length=0 then []else Fg Tr ((RV (Cx sg) (Fg Hf l).length (Fg Hf l)).2.map λm=>Lk (sg) m.1 m.2)
theorem pD(sg:Um->Int){l:List Pt}(hn:l.length<=1000):(O6 sg l).length<=1000000:=by
 unfold O6
 split
 ·exact Qg _
 ·have hs:(Fg Hf l).length=l.length:=Gq _ _;obtain⟨_,_,h3⟩:=VX (Cx sg) (Fg Hf l).length (Fg Hf l) (by omega) (Qj _);rw[Gq,Q8];omega
theorem LU{l:List Pt}{T:Ti}(hl:∀p∈l,Sc p.c)(hn:l.length≤1000)(hq:RT T):Uj 162 [.one (.row (Fl l)),.agg (T.tl)] [.one (.row (Fp (O6 T.sg l)))]:=by
 have hcl:=Gk l;by_cases h0:l.length=0
 ·have e:O6 T.sg l=[]:=if_pos h0;rw[e];exact Ug func162 rfl [.T] rfl
 have e:O6 T.sg l=Fg Tr ((RV (Cx T.sg) (Fg Hf l).length (Fg Hf l)).2.map λm=>Lk (T.sg) m.1 m.2):=if_neg h0;rw[e];have c1:=KE (l:=l) (by omega);have hML:(Fg Hf l).length=l.length:=Gq _ _;have hMl:∀p∈Fg Hf l,Sc p.c:=λp hp=>hl p (Hd.1 hp)
 obtain⟨M,hM⟩:=nmE (Fg Hf l);rw[<-hM]at c1 hML hMl ⊢;have c2:=ZZ hq M.length M (by omega) (Qj _) (by omega) hMl;obtain⟨b1,b2,b3⟩:=VX (Cx T.sg) M.length M (by omega) (Qj _);generalize RV (Cx T.sg) M.length M=B at *;have gl:=E5 B.2;obtain⟨C,hC⟩:=nmE (B.2.map λm=>Lk (T.sg) m.1 m.2);rw[<-hC];have hCl:C.length=B.2.length:=by rw[hC,Q8]
 have c3:=KA (l:=C) (by omega);refine Hz func162 rfl ?_;refine Ud [.F,.k c1,.k c2,.o 7 47 9] rfl ?_;refine Ui (S:=Nat) 3 (λL1 i=>(21,.v (.oi i))::(7,.v (.one (.orow 2 9 none)))::L1) (λi=>[.blk 36 (T.tl),.blk 135 (Ht B.1),.row false 47 9 (Fp (C.take i))]) (λi=>B.2.length-i) (λi=>i<=B.2.length) 0 (Qg _) rfl rfl λi hi=>?_
 have htl:(Fp (C.take i)).length=i:=by rw[Rt,Qq];omega
 by_cases hlt:i<B.2.length
 ·obtain⟨m,hm⟩:=gxE (l:=B.2) (i:=i) hlt;obtain⟨m1,m2⟩:=b2 m (Qa hm);have hg:(O7 B.2)[i]? = some (rgm m):=He hm;have hs:C.take (i+1)=C.take i++[Lk (T.sg) m.1 m.2]:=by
   rw[hC,Xd,Ze,hm];rfl
  have hm9:∀y∈[YE (Lk (T.sg) m.1 m.2)],y.length=9:=λy hy=>by rw[Qo.1 hy];rfl
  refine go tt [.T,.x hg,.i 0,.x hg,.i 1,.k (Qct (hMl _ m1) (hMl _ m2) hq),.s (sz:=9) hm9] rfl (by simp[Uw,htl];omega) ?_;exact rd (i+1) (by omega) hlt (by rw[hs];simp[Fp];rfl)
 ·have e:C.take i=C:=Qn (by omega);rw[e];exact Uf [.F,.k c3] rfl rfl (by simp[Uw] <;> omega)
end Orr
namespace Orq
open Orr Go
theorem NJ{a b c d:Crv}(ha:Sc a)(hb:Sc b)(hc:Sc c)(hd:Sc d):Cp (Ro a b c d):=by
 have lr:∀{a b:Crv},Sc a->Sc b->(Gu a b).length<=3/\(Gt a b).length<=3:=λ{a b} ha hb=>by
  have:=Px (Fc b.x a.d) (Fc a.x b.d);have:=Ft b.x a.d;have:=Ft a.x b.d;have:=Px (Fc b.y a.d) (Fc a.y b.d);have:=Ft b.y a.d;have:=Ft a.y b.d;have:=ha.c.lx;have:=hb.c.lx;have:=ha.c.ly;have:=hb.c.ly;unfold Gu Gt;omega
 have ap:∀{a b:Crv},Sc a->Sc b->(S4 a b).length<=5/\Bd 517 (S4 a b):=λ{a b} ha hb=>by
  obtain⟨l1,l2⟩:=lr ha hb;have b1:Bd 257 (Gu a b):=Db (Fw hb.c.x ha.c.d) (Fw ha.c.x hb.c.d);have b2:Bd 257 (Gt a b):=Db (Fw hb.c.y ha.c.d) (Fw ha.c.y hb.c.d);have q1:=Tc (u:=2) b1 b1 (by omega);have q2:=Tc (u:=2) b2 b2 (by omega);refine⟨?_,Uv (Od q1 q2) (by omega)⟩;have:=El (U9 (Gu a b) (Gu a b)) (U9 (Gt a b) (Gt a b));have:=Re (Gu a b) (Gu a b);have:=Re (Gt a b) (Gt a b);unfold S4;omega
 have dd:∀{a b:Crv},Sc a->Sc b->Ff ((a.d*b.d)*(a.d*b.d))<=512:=λ{a b} ha hb=>by
  have:=Ga a.d b.d;have:=Ga (a.d*b.d) (a.d*b.d);have:=ha.c.d;have:=hb.c.d;omega
 obtain⟨l1,b1⟩:=ap hc hd;obtain⟨l2,b2⟩:=ap ha hb;refine⟨U7 _ _,?_,Uv (Db (Fw b1 (dd ha hb)) (Fw b2 (dd hc hd))) (by omega)⟩;have:=Px (Fc (S4 c d) ((a.d*b.d)*(a.d*b.d))) (Fc (S4 a b) ((c.d*d.d)*(c.d*d.d)));have:=Ft (S4 c d) ((a.d*b.d)*(a.d*b.d));have:=Ft (S4 a b) ((c.d*d.d)*(c.d*d.d));unfold Ro;omega
def Qug(l:List Pt):Un:=l.flatMap λa=>l.flatMap λb=>l.flatMap λc=>l.map λd=>Ro a.c b.c c.c d.c
end Orq
namespace Orr
open Go Go.Proofs Tryz Orq
set_option maxRecDepth 10000
theorem TW(M:List Pt):H6 0 M=[]:=by cases M <;> rfl
def IE(M:List Pt)(x:Pt)(i j:Nat):List (Pt×Pt):=H6 i M++((M.drop (i+1)).take j).map (λy=>(x,y))
theorem uH(M:List Pt)(x:Pt)(i:Nat):IE M x i 0=H6 i M:=by rw[IE,Vb,Ja,Xi]
theorem uG{M:List Pt}{i j:Nat}{x y:Pt}(hy:(M.drop (i+1))[j]? = some y):IE M x i (j+1)=IE M x i j++[(x,y)]:=by
 unfold IE;rw[Xd,hy,X7,Xm,Zk];rfl
theorem lL{M:List Pt}{i j:Nat}{x:Pt}(hx:M[i]? = some x)(hj:(M.drop (i+1)).length<=j):IE M x i j=H6 (i+1) M:=by
 unfold IE;rw[Qn hj,Ds M i x hx]
theorem Qk6{M:List Pt}{i j:Nat}{x:Pt}(hx:M[i]? = some x):∀m∈IE M x i j,m.1∈M/\m.2∈M:=λm hm=>by
 rcases Qr.1 hm with h|h
 ·exact Es _ _ m h
 ·obtain⟨y,hy,rfl⟩:=Zw.1 h;exact⟨Qa hx,Q5 (Ql hy)⟩
end Orr
namespace Orr
open Go Go.Proofs Tryz
set_option maxRecDepth 10000
theorem SL{p q:Um}(hp:Bd 19000000 p)(hq:Bd 19000000 q)(hlp:p.length<=1000000)(hlq:q.length<=1000000):Uj 275 [.one (rp (zp p)),.one (rp (zp q))] [.one (rp (zp (S6 p q)))]:=by
 have h:=rP (QR (Uv hp (by decide)) (by decide)) (QR (Uv hq (by decide)) (by decide)) (by rw[Sf];exact hlp) (by rw[Sf];exact hlq);rwa[eJ]at h
theorem IU{a b:Crv}(ha:Rs a)(hb:Rs b):Bd 400008 (S4 a b)/\(S4 a b).length<=31:=by
 have h1:=ID ha hb;have h2:=IK ha hb;have:=zB h1.2;have:=zB h2.2;exact⟨Uv (Od (nU h1.1 h1.2) (nU h2.1 h2.2)) (by omega),Qc (El _ _) (by omega)⟩
theorem vR{a b:Crv}(ha:Rs a)(hb:Rs b):Uj 277 [.agg (P5 a),.agg (P5 b)] [.one (rp (zp (S4 a b)))]:=by
 have h1:=ID ha hb;have h2:=IK ha hb;have l1:=zB h1.2;have l2:=zB h2.2;exact Ug func277 rfl [.k (vG ha hb),.k (vW ha hb),.k (Au (p:=Gu a b) (q:=Gu a b) (by omega) (by omega) h1.1 h1.1 (by decide)),.k (Au (p:=Gt a b) (q:=Gt a b) (by omega) (by omega) h2.1 h2.1 (by decide)),.k (SL (p:=U9 (Gu a b) (Gu a b)) (q:=U9 (Gt a b) (Gt a b)) (Uv (nU h1.1 h1.2) (by decide)) (Uv (nU h2.1 h2.2) (by decide)) (by omega) (by omega))] rfl
theorem Qhn{x:Int}(h:x≠0):Uz [x]:=by unfold Uz;simp[trim,h]
theorem Qfv{x y:Int}(hx:x≠0)(hy:y≠0):Fc [x] y=[x*y]:=by
 have h:=Qhn (Xq hx hy);exact h
theorem SD{x y:Int}(hx:x≠0)(hy:y≠0)(bx:Ff x<=9000000)(b_y:Ff y<=9000000):Uj 259 [.one (rp (zp [x])),.one (rp (zp [y]))] [.one (rp (zp [x*y]))]:=by
 have h:=VY (p:=[x]) (d:=y) (Qhn hx) hy (Qbe bx) b_y (by show 1<=1000;decide);rwa[Qfv hx hy]at h
theorem dG{a b:Int}(ha:Ff a<=100000)(hb:Ff b<=100000):Ff (a*b)<=200000/\Ff ((a*b)*(a*b))<=400000:=by
 have h1:=Ga a b;have h2:=Ga (a*b) (a*b);omega
theorem TE(a b:Crv):Uz (S4 a b):=U7 _ _
theorem rE{a b c d:Crv}(ha:Rs a)(hb:Rs b)(hc:Rs c)(hd:Rs d):Uj 179 [.agg (P5 a),.agg (P5 b),.agg (P5 c),.agg (P5 d)] [.one (rp (zp (Ro a b c d)))]:=by
 have h1:=IU hc hd;have h2:=IU ha hb;have e1:=dG ha.c.d hb.c.d;have e2:=dG hc.c.d hd.c.d;have n1:=Xq ha.dn hb.dn;have n2:=Xq hc.dn hd.dn;have m1:=SD ha.dn hb.dn (Qc ha.c.d (by decide)) (Qc hb.c.d (by decide));have m2:=SD hc.dn hd.dn (Qc hc.c.d (by decide)) (Qc hd.c.d (by decide));obtain⟨x,hx⟩:=nmE (a.d*b.d);obtain⟨y,hy⟩:=nmE (c.d*d.d);have eF:Ro a b c d=Su (Fc (S4 c d) (x*x)) (Fc (S4 a b) (y*y)):=by rw[hx,hy];rfl
 rw[eF];rw[<-hx]at e1 n1 m1;rw[<-hy]at e2 n2 m2;have l1:=Ft (S4 c d) (x*x);have l2:=Ft (S4 a b) (y*y);have m3:=SD n1 n1 (Qc e1.1 (by decide)) (Qc e1.1 (by decide));have m4:=SD n2 n2 (Qc e2.1 (by decide)) (Qc e2.1 (by decide));have m5:=VY (p:=S4 c d) (d:=x*x) (TE c d) (Xq n1 n1) (Uv h1.1 (by decide)) (Qc e1.2 (by decide)) (by omega);have m6:=VY (p:=S4 a b) (d:=y*y) (TE a b) (Xq n2 n2) (Uv h2.1 (by decide)) (Qc e2.2 (by decide)) (by omega);have m7:=qH (p:=Fc (S4 c d) (x*x)) (q:=Fc (S4 a b) (y*y)) (Uv (Fw h1.1 e1.2) (by decide)) (Uv (Fw h2.1 e2.2) (by decide)) (by omega) (by omega);exact Ug func179 rfl [.k (Nt ha),.k (Nt hb),.k (Nt hc),.k (Nt hd),.k m1,.k m2,.k (vR hc hd),.k m3,.k m5,.k (vR ha hb),.k m4,.k m6,.k m7] rfl
abbrev eT:Ur:=[.nils,.nils,.nils,.nils,.bool false,.nils,.int .i64 0]
abbrev Qgr:Ur:=[.row [],.row [],.row [],.row [],.bool false,.row [],.int .i64 0]
end Orr
namespace Orr
open Go Go.Proofs Tryz Orq
set_option maxRecDepth 10000
theorem RF{a b c d:Crv}(ha:Sc a)(hb:Sc b)(hc:Sc c)(hd:Sc d):Uj 179 [.agg (P5 a),.agg (P5 b),.agg (P5 c),.agg (P5 d)] [.one (rp (zp (Ro a b c d)))]:=rE ha.rs hb.rs hc.rs hd.rs
theorem ML{a b c d:Crv}{T:Ti}(ha:Sc a)(hb:Sc b)(hc:Sc c)(hd:Sc d)(hq:RT T):Uj 16 [.one (rp (zp (Ro a b c d))),.agg T.tl] [.oi (Gl T.sg (Ro a b c d))]:=hq.a (NJ ha hb hc hd).dp
theorem aI{a b u v:Pt}{T:Ti}(ha:Sc a.c)(hb:Sc b.c)(hu:Sc u.c)(hv:Sc v.c)(hq:RT T):Uj 348 [.oi 5,.agg (T.tl),.one (.row [Ht a,Ht b,Ht u,Ht v])] [.agg (YE (Eo (T.sg) a b u v)),.one (.bool true)]:=by
 have x0:[Ht a,Ht b,Ht u,Ht v][0]? = some (Ht a):=rfl;have x1:[Ht a,Ht b,Ht u,Ht v][1]? = some (Ht b):=rfl;have x2:[Ht a,Ht b,Ht u,Ht v][2]? = some (Ht u):=rfl;have x3:[Ht a,Ht b,Ht u,Ht v][3]? = some (Ht v):=rfl;have cf:=RF ha hb hu hv;have cg:=ML ha hb hu hv hq;have e:YE (Eo (T.sg) a b u v)=[.int .i64 5,.int .i64 a.id,.int .i64 b.id,.int .i64 u.id,.int .i64 v.id,rp (zp (Ro a.c b.c u.c v.c)),.int .i64 (Gl T.sg (Ro a.c b.c u.c v.c)),.row [],.bool false]:=by simp only[Eo,YE]
 rw[e];generalize Ro a.c b.c u.c v.c=F at *;refine Hz func348 rfl ?_;refine Ud [.g 14 false rfl,.g 18 false rfl,.x (l:=[[.int .i64 0],[.int .i64 2],[.int .i64 2],[.int .i64 3],[.int .i64 4],[.int .i64 4]]) (i:=5) (xs:=[.int .i64 4]) rfl,.f rfl] rfl ?_;refine Ui (S:=Nat) 3 (λL1 i=>(33,.v (.oi i))::L1) (λi=>[.blk 36 (T.tl),.blk 47 rzc,.blk 47 [.int .i64 5,.int .i64 (if 0<i then a.id else 0),.int .i64 (if 1<i then b.id else 0),.int .i64 (if 2<i then u.id else 0),.int .i64 (if 3<i then v.id else 0),.nils,.int .i64 0,.nils,.bool false]]) (λi=>4-i) (λi=>i<=4) 0 (by decide) rfl rfl λi hi=>?_
 rcases(show i=0\/i=1\/i=2\/i=3\/i=4 by omega)with rfl|rfl|rfl|rfl|rfl
 ·exact go tt [.t rfl,.x x0,.i 0] rfl (by simp[Uw]) (rd 1 (by omega) (by omega) rfl)
 ·exact go tt [.t rfl,.x x1,.i 1] rfl (by simp[Uw]) (rd 2 (by omega) (by omega) rfl)
 ·exact go tt [.t rfl,.x x2,.i 2] rfl (by simp[Uw]) (rd 3 (by omega) (by omega) rfl)
 ·exact go tt [.t rfl,.x x3,.i 3] rfl (by simp[Uw]) (rd 4 (by omega) (by omega) rfl)
 exact Uf [.f rfl,.f rfl,.f rfl,.f rfl,.f rfl,.x x0,.x x1,.x x2,.x x3,.k cf,.k cg] rfl
theorem Qcv{a b u v:Pt}{T:Ti}(ha:Sc a.c)(hb:Sc b.c)(hu:Sc u.c)(hv:Sc v.c)(hq:RT T):Uj 263 [.oi 5,.agg (T.tl),.one (.row [Ht a,Ht b,Ht u,Ht v])] [.agg (YE (Eo (T.sg) a b u v))] :=
 Ug func263 rfl [.k (aI ha hb hu hv hq)] rfl
theorem qT{l:List Pt}{T:Ti}(hn:l.length<=1000)(h:l.length<2):Uj 70 [.one (.row (Fl l)),.agg (T.tl)] [.agg Qgr,.agg Qgr,.one (.bool false)]:=by
 have c1:=KE (l:=l) (by omega);have hML:(Fl (Fg Hf l)).length=l.length:=by rw[Gk,Gq]
 exact Ug func70 rfl [.k c1,.T] rfl
theorem vU{l:List Pt}{T:Ti}{a b:Pt}{M':List Pt}(hl:∀p∈l,Sc p.c)(hn:l.length≤1000)(hq:RT T)(hM:Fg Hf l=a::b::M'):Uj 70 [.one (.row (Fl l)),.agg (T.tl)] [.agg (Ht (H8 (T.sg) (a,b) (Hi (a::b::M'))).1),.agg (Ht (H8 (T.sg) (a,b) (Hi (a::b::M'))).2),.one (.bool true)]:=by
 have c1:=KE (l:=l) (by omega);have hML:(Fg Hf l).length=l.length:=Gq _ _;have hMl:∀p∈Fg Hf l,Sc p.c:=λp hp=>hl p (Hd.1 hp)
 have hx0:(Fg Hf l)[0]? = some a:=by rw[hM];rfl
 have hx1:(Fg Hf l)[1]? = some b:=by rw[hM];rfl
 have hM2:2<=(Fg Hf l).length:=by rw[hM];simp
 rw[<-hM];obtain⟨M,hM⟩:=nmE (Fg Hf l);rw[<-hM]at c1 hML hMl hx0 hx1 hM2 ⊢;have hcl:=Gk M;have hs:(a,b).1∈M/\(a,b).2∈M:=⟨Qa hx0,Qa hx1⟩;have hsc:∀ps:List (Pt×Pt),(∀m∈ps,m.1∈M/\m.2∈M)->Sc (H8 (T.sg) (a,b) ps).1.c/\Sc (H8 (T.sg) (a,b) ps).2.c:=λps h=>by
  obtain⟨h1,h2⟩:=Am (T.sg) ps (a,b) hs h;exact⟨hMl _ h1,hMl _ h2⟩
 refine Hz func70 rfl ?_;refine go tt [.k c1,.F,.x (U4 hx0),.x (U4 hx1)] rfl (by simp[Uw] <;> omega) ?_;refine lp (S:=Nat) 5 (λL1 i=>(26,.v (.oi i))::L1) (λi=>[.blk 36 (T.tl),.blk 135 eT,.blk 135 eT,.blk 135 (Ht (H8 (T.sg) (a,b) (H6 i M)).1),.blk 135 (Ht (H8 (T.sg) (a,b) (H6 i M)).2)]) (λi=>M.length-i) (λi=>i<=M.length) 0 (Qg _) rfl (λ_ _=>rfl) (by rw[TW];rfl) λi hi=>?_
 by_cases hlt:i<M.length
 ·obtain⟨x,hx⟩:=gxE (l:=M) (i:=i) hlt;rw[<-uH M x i];refine go tt [.T,.r 30 (eI (b:=((i+1:Nat):Int)) (by simp))] rfl (by simp[Uw] <;> omega) ?_;refine Ui (S:=Nat) 5 (λL1 j=>(10,.v (.oi ((i+1+j:Nat):Int)))::L1) (λj=>[.blk 36 (T.tl),.blk 135 eT,.blk 135 eT,.blk 135 (Ht (H8 (T.sg) (a,b) (IE M x i j)).1),.blk 135 (Ht (H8 (T.sg) (a,b) (IE M x i j)).2)]) (λj=>(M.drop (i+1)).length-j) (λj=>j<=(M.drop (i+1)).length) 0 (Qg _) rfl rfl λj hj=>?_
  have hdl:(M.drop (i+1)).length=M.length-(i+1):=Xs;by_cases hltj:j<(M.drop (i+1)).length
  ·obtain⟨y,hy⟩:=gxE (l:=(M.drop (i+1))) (i:=j) hltj;have hy':M[i+1+j]? = some y:=by rw[<-hy,Xb]
   obtain⟨s1,s2⟩:=hsc (IE M x i j) (Qk6 hx);have hxs:=hMl x (Qa hx);have hys:=hMl y (Qa hy');have ef:=uG (x:=x) hy;have en1:=xW (T.sg) (a,b) (IE M x i j) (x,y);rw[<-ef]at en1;obtain⟨s,hs'⟩:=nmE (H8 (T.sg) (a,b) (IE M x i j));rw[<-hs']at s1 s2 en1 ⊢;have cF:=RF s1 s2 hxs hys;have cA:=ML s1 s2 hxs hys hq;have ep:Gl T.sg (Ro s.1.c s.2.c x.c y.c)<0->Ep (T.sg) s (x,y)=(x,y):=λh=>if_pos h
   have en:¬Gl T.sg (Ro s.1.c s.2.c x.c y.c)<0->Ep (T.sg) s (x,y)=s:=λh=>if_neg h
   generalize Ro s.1.c s.2.c x.c y.c=F at *;by_cases hg:Gl T.sg F<0
   ·have e:=ep hg;rw[e]at en1;refine go tt [.T,.x (U4 hx),.x (U4 hy'),.k cF,.k cA,.t (decide_eq_true hg),.x (U4 hx),.x (U4 hy')] rfl (by simp[Uw] <;> omega) ?_;exact rd (j+1) (by omega) hltj (by rw[en1];rfl)
   ·have e:=en hg;rw[e]at en1;refine go tt [.T,.x (U4 hx),.x (U4 hy'),.k cF,.k cA,.f (decide_eq_false hg)] rfl (by simp[Uw] <;> omega) ?_;exact rd (j+1) (by omega) hltj (by rw[en1];rfl)
  ·have e:=lL hx (Yj hltj);rw[e];refine go tt [.F] rfl (by simp[Uw] <;> omega) ?_;exact rd (i+1) (by omega) hlt rfl
 ·obtain rfl:i=M.length:=by omega
  exact Uf [.F] rfl
def Qlg(sg:Um->Int):List Pt->List Ct
 |a::b::M=>Fg Tr (Bz (sg) (H8 (sg) (a,b) (Hi (a::b::M))) (Hi (a::b::M)))
 |_=>[]
def Ez(sg:Um->Int)(l:List Pt):List Ct:=Qlg sg (Fg Hf l)
theorem pC(sg:Um->Int){l:List Pt}(hn:l.length<=10):(Ez sg l).length<=1000000:=by
 unfold Ez;have hs:(Fg Hf l).length=l.length:=Gq _ _;generalize Fg Hf l=M at *
 match M,hs with
 | [],_=>exact Qg _
 | [_],_=>exact Qg _
 |
  a::b::M,hs =>
  show(Fg Tr _).length<=_;rw[Gq];have h1:=FB (sg) (H8 (sg) (a,b) (Hi (a::b::M))) (Hi (a::b::M));have h2:=VM (a::b::M).length (a::b::M);have h3:(a::b::M).length*(a::b::M).length<=10*10:=Zs (by omega) (by omega);have h4:(Hi (a::b::M)).length=(H6 (a::b::M).length (a::b::M)).length:=rfl;omega
theorem LK{l:List Pt}{T:Ti}(hl:∀p∈l,Sc p.c)(hn:l.length≤10)(hq:RT T):Uj 164 [.one (.row (Fl l)),.agg (T.tl)] [.one (.row (Fp (Ez T.sg l)))]:=by
 have hML:(Fg Hf l).length=l.length:=Gq _ _;by_cases h2:l.length<2
 ·have e:Ez T.sg l=[]:=by
   unfold Ez
   match hm:Fg Hf l with
   | []=>rfl
   | [_]=>rfl
   |a::b::M=>rw[hm]at hML;simp at hML;omega
  rw[e];exact Ug func164 rfl [.k (qT (T:=T) (by omega) h2),.t rfl] rfl
 obtain⟨a,b,M',hM⟩:=Qqt (l:=Fg Hf l) (by omega);have c0:=vU hl (by omega) hq hM;have c1:=KE (l:=l) (by omega);have hMl:∀p∈Fg Hf l,Sc p.c:=λp hp=>hl p (Hd.1 hp)
 have e:Ez T.sg l=Fg Tr (Bz (T.sg) (H8 (T.sg) (a,b) (Hi (Fg Hf l))) (Hi (Fg Hf l))):=by unfold Ez;rw[hM];rfl
 rw[e];rw[<-hM]at c0;have hab:a∈Fg Hf l/\b∈Fg Hf l:=by rw[hM];exact⟨by simp,by simp⟩
 obtain⟨M,hM⟩:=nmE (Fg Hf l);rw[<-hM]at c0 c1 hML hMl hab ⊢;obtain⟨s1,s2⟩:=Am (T.sg) (l:=M) (Hi M) (a,b) hab (Es _ _);obtain⟨s,hs⟩:=nmE (H8 (T.sg) (a,b) (Hi M));rw[<-hs]at c0 s1 s2 ⊢;have hcl:=Gk M;have hpk:∀i,i<=M.length->(H6 i M).length<=100:=λi hi=>by
  have:=VM i M;have:i*M.length<=10*10:=Zs (by omega) (by omega);omega
 have hdn:∀i j x,i<=M.length->(Bz (T.sg) s (IE M x i j)).length<=1000:=λi j x hi=>by
  refine Qc (FB _ _ _) ?_;unfold IE;rw[Q3,Q8,Qq,Xs];have:=hpk i hi;omega
 have hfin:(Bz (T.sg) s (Hi M)).length<=1000000:=Qc (FB _ _ _) (by have:=hpk M.length (Qj _);show(H6 M.length M).length<=_;omega);have c9:=KA (l:=Bz (T.sg) s (Hi M)) hfin;refine Hz func164 rfl ?_;refine Ud [.k c0,.f rfl,.k c1,.o 8 47 9] rfl ?_;refine lp (S:=Nat) 4 (λL1 i=>(24,.v (.oi i))::(8,.v (.one (.orow 3 9 none)))::L1) (λi=>[.blk 36 (T.tl),.blk 135 (Ht s.1),.blk 135 (Ht s.2),.row false 47 9 (Fp (Bz (T.sg) s (H6 i M)))]) (λi=>M.length-i) (λi=>i<=M.length) 0 (Qg _) rfl (λ_ _=>rfl) (by rw[TW];rfl) λi hi=>?_
 by_cases hlt:i<M.length
 ·obtain⟨x,hx⟩:=gxE (l:=M) (i:=i) hlt;rw[<-uH M x i];refine go tt [.T,.r 28 (eI (b:=((i+1:Nat):Int)) (by simp))] rfl (by simp[Uw] <;> omega) ?_;refine Ui (S:=Nat) 4 (λL1 j=>(10,.v (.oi ((i+1+j:Nat):Int)))::(8,.v (.one (.orow 3 9 none)))::L1) (λj=>[.blk 36 (T.tl),.blk 135 (Ht s.1),.blk 135 (Ht s.2),.row false 47 9 (Fp (Bz (T.sg) s (IE M x i j)))]) (λj=>(M.drop (i+1)).length-j) (λj=>j<=(M.drop (i+1)).length) 0 (Qg _) rfl rfl λj hj=>?_
  have hdl:(M.drop (i+1)).length=M.length-(i+1):=Xs;by_cases hltj:j<(M.drop (i+1)).length
  ·obtain⟨y,hy⟩:=gxE (l:=(M.drop (i+1))) (i:=j) hltj;have hy':M[i+1+j]? = some y:=by rw[<-hy,Xb]
   have hxs:=hMl x (Qa hx);have hys:=hMl y (Qa hy');have hll:=hdn i j x hi;have hrl:=Rt (Bz (T.sg) s (IE M x i j));have ef:=uG (x:=x) hy;have co:=Qcv (hMl _ s1) (hMl _ s2) hxs hys hq;by_cases e1:x.id≠s.1.id
   ·have en1:=cX (sg:=T.sg) (s:=s) (m:=(x,y)) (ps:=IE M x i j) (by simp[IV,e1]);rw[<-ef]at en1;have hm9:∀z∈[YE (Eo (T.sg) s.1 s.2 x y)],z.length=9:=λz hz=>by rw[Qo.1 hz];rfl
    refine go tt [.T,.x (U4 hx),.g 43 true (decide_eq_true e1),.t rfl,.x (U4 hx),.x (U4 hy'),.k co,.s (sz:=9) hm9] rfl (by simp[Uw,hrl] <;> omega) ?_;exact rd (j+1) (by omega) hltj (by rw[en1];simp[Fp];rfl)
   by_cases e2:y.id≠s.2.id
   ·have en1:=cX (sg:=T.sg) (s:=s) (m:=(x,y)) (ps:=IE M x i j) (by simp[IV,e2]);rw[<-ef]at en1;have hm9:∀z∈[YE (Eo (T.sg) s.1 s.2 x y)],z.length=9:=λz hz=>by rw[Qo.1 hz];rfl
    refine go tt [.T,.x (U4 hx),.g 43 false (decide_eq_false e1),.x (U4 hy'),.t (decide_eq_true e2),.x (U4 hx),.x (U4 hy'),.k co,.s (sz:=9) hm9] rfl (by simp[Uw,hrl] <;> omega) ?_;exact rd (j+1) (by omega) hltj (by rw[en1];simp[Fp];rfl)
   ·have en1:=Qjr (sg:=T.sg) (s:=s) (m:=(x,y)) (ps:=IE M x i j) (by simp[IV,Kn.1 e1,Kn.1 e2]);rw[<-ef]at en1;refine go tt [.T,.x (U4 hx),.g 43 false (decide_eq_false e1),.x (U4 hy'),.f (decide_eq_false e2)] rfl (by simp[Uw] <;> omega) ?_;exact rd (j+1) (by omega) hltj (by rw[en1];rfl)
  ·have e:=lL hx (Yj hltj);rw[e];refine go tt [.F] rfl (by simp[Uw] <;> omega) ?_;exact rd (i+1) (by omega) hlt rfl
 ·obtain rfl:i=M.length:=by omega
  exact Uf [.F,.k c9] rfl rfl (by simp[Uw] <;> omega)
abbrev zrw(r:Un):Us:=r.map λp=>[rp (zp p)]
def OE(M:List Un):Us:=M.map λr=>[.row (zrw r)]
theorem yH(M:List Un):(OE M).length=M.length:=by simp[OE]
theorem yS{r:Un}{i:Nat}{p:Um}(h:r[i]? = some p):(zrw r)[i]? = some [rp (zp p)]:=He h
theorem MX{l:List Un}{i:Nat}{r:Un}(h:l[i]? = some r):(OE l)[i]? = some [.row (zrw r)]:=He h
theorem tR{α:Type}{R:List α}{j k:Nat}{x:α}(h:R[j]? = some x):(R.take (j+1)).eraseIdx k=if j=k then(R.take j).eraseIdx k else(R.take j).eraseIdx k++[x]:=by
 have hj:=(Qf.1 h).1;have hl:(R.take j).length=j:=by rw[Qq];omega
 rw[Xd,h,X7];rcases Vw k j with hk|hk|hk
 ·rw[if_neg (by omega),List.eraseIdx_append_of_lt_length (by omega)]
 ·subst hk;rw[if_pos rfl,Kr (by omega),hl,J4,V7 (l:=R.take k) (by omega)];show R.take k++[]=_;rw[Xi]
 ·rw[if_neg (by omega),Kr (by omega),hl,V7 (l:=[x]) (by simp;omega),V7 (by omega)]
def Ho(M:List Un)(k:Nat):List Un:=(M.drop 1).map (·.eraseIdx k)
theorem wG{M:List Un}{i k:Nat}{R:Un}(h:M[i]? = some R)(h0:0<i):Ho (M.take (i+1)) k=Ho (M.take i) k++[R.eraseIdx k]:=by
 have hi:=(Qf.1 h).1;unfold Ho;rw[Xd,h,X7,Vr (by rw[Qq];omega),Xm];rfl
theorem sS{M:List Un}{i k:Nat}(hi:i<=M.length):(Ho (M.take i) k).length=i-1:=by
 unfold Ho;rw[List.length_map,List.length_drop,List.length_take];omega
theorem Qcr{M:List Un}{k:Nat}(hn:M.length≤100)(hM:∀R∈M,R.length≤100):Uj 351 [.one (.row (OE M)),.oi 0,.oi k] [.one (.row (OE (Ho M k)))]:=by
 have hrl:=yH M;refine Hz func351 rfl ?_;refine Ud [.o 7 29 1] rfl ?_;refine Ui (S:=Nat) 1 (λL1 i=>(13,.v (.oi i))::(7,.v (.one (.orow 0 1 none)))::L1) (λi=>[.row false 29 1 (OE (Ho (M.take i) k))]) (λi=>M.length-i) (λi=>i<=M.length) 0 (Qg _) rfl rfl λi hi=>?_
 have hml:(OE (Ho (M.take i) k)).length=i-1:=by rw[yH,sS hi]
 by_cases hlt:i<M.length
 ·obtain⟨r,hr⟩:=gxE (l:=M) (i:=i) hlt;have hm:=hM r (Qa hr);have hql:(zrw r).length=r.length:=by simp
  by_cases h0:i=0
  ·subst h0;have e:Ho (M.take 1) k=Ho (M.take 0) k:=by unfold Ho;simp
   refine Ud [.T,.t rfl] rfl ?_ (by simp[Uw]);exact rd 1 (by omega) hlt (by rw[e];rfl)
  ·have e:=wG (k:=k) hr (by omega);refine go tt [.T,.F,.o 9 28 1,.x (MX hr)] rfl (by simp[Uw] <;> omega) ?_;refine Ui (S:=Nat) 2 (λL1 c=>(24,.v (.oi c))::(9,.v (.one (.orow 1 1 none)))::L1) (λc=>[.row false 29 1 (OE (Ho (M.take i) k)),.row false 28 1 (zrw ((r.take c).eraseIdx k))]) (λc=>r.length-c) (λc=>c<=r.length) 0 (Qg _) rfl rfl λc hc=>?_
   have hzl:((r.take c).eraseIdx k).length<=c:=by
    exact Qc (List.eraseIdx_sublist ..).length_le (by rw[Qq];omega)
   by_cases hcl:c<r.length
   ·obtain⟨p,hp⟩:=gxE (l:=r) (i:=c) hcl;have e2:=tR (k:=k) hp;by_cases hck:c=k
    ·rw[if_pos hck]at e2;refine go tt [.T,.F] rfl (by simp[Uw] <;> omega) ?_;exact rd (c+1) (by omega) hcl (by rw[e2];rfl)
    ·rw[if_neg hck]at e2;have hs1:∀y∈[[rp (zp p)]],y.length=1:=λy hy=>by rw[Qo.1 hy];rfl
     refine go tt [.T,.T,.x (MX hr),.x (yS hp),.s (sz:=1) hs1] rfl (by simp[Uw] <;> omega) ?_;exact rd (c+1) (by omega) hcl (by rw[e2];simp[zrw];rfl)
   ·obtain rfl:c=r.length:=by omega
    rw[Q7];have hs1:∀y∈[[LV.row (zrw (r.eraseIdx k))]],y.length=1:=λy hy=>by rw[Qo.1 hy];rfl
    refine Ud [.F] rfl ?_;refine gz 1 rfl rfl ?_;refine go tt [.s (sz:=1) hs1] rfl (by simp[Uw] <;> omega) ?_;exact rd (i+1) (by omega) hlt (by rw[e];simp[OE];rfl)
 ·obtain rfl:i=M.length:=by omega
  rw[Q7];exact Uf [.F] rfl
def A8(k:Nat)(p:Um):Um:=if k % 2=1 then P0 p else p
def Ee(f:List Un->Um)(M:List Un):Nat->Um
 | 0=>[]
 |k+1=>S6 (Ee f M k) (A8 k (U9 ((M.getD 0 []).getD k []) (f (Ho M k))))
def By:Nat->List Un->Um
 | 0,_=>[1]
 |n+1,M=>Ee (By n) M (n+1)
structure SqR(s:Nat)(ds:List Nat)(M:List (List (List Int))):Prop where
 l:M.length=ds.length
 w:∀r∈M,r.length=ds.length
 b:∀r∈M,∀p∈r,Bd s p
 n:∀r∈M,∀(j:Nat) (p:List Int),r[j]? = some p->p.length≤ds.getD j 0+1
theorem L8:∀{ds:Uo} {k:Nat},k<ds.length->(ds.eraseIdx k).sum+ds.getD k 0=ds.sum
 | [],_,h=>by simp at h
 |d::ds,0,_=>by simp[J0]
 |
  d::ds,k+1,h=>by
  have:=L8 (ds:=ds) (k:=k) (by simpa using h);simp only[List.eraseIdx_cons_succ,V9,Qz];omega
theorem SqR.minor{s:Nat}{ds:Uo}{M:List Un}(h:SqR s ds M){k:Nat}(hk:k<ds.length):SqR s (ds.eraseIdx k) (Ho M k):=by
 have hl:=h.l;unfold Ho;refine⟨by rw[Q8,Xs,Jt hk];omega,λr hr=>?_,λr hr p hp=>?_,λr hr j p hp=>?_⟩
 all_goals obtain⟨q,hq,rfl⟩:=Zw.1 hr
 all_goals have hq:=Q5 hq
 ·rw[Jt (by rw[h.w q hq];exact hk),Jt hk,h.w q hq]
 ·exact h.b q hq p (List.mem_of_mem_eraseIdx hp)
 ·rw[List.getElem?_eraseIdx]at hp;rw[Qd,List.getElem?_eraseIdx]
  split at hp <;> rename_i hj
  ·rw[if_pos hj,<-Qd];exact h.n q hq j p hp
  ·rw[if_neg hj,<-Qd];exact h.n q hq (j+1) p hp
theorem SqR.at{s:Nat}{ds:Uo}{M:List Un}(h:SqR s ds M){k:Nat}(hk:k<ds.length):∃r p,M[0]? = some r/\r[k]? = some p/\(M.getD 0 []).getD k []=p/\Bd s p/\p.length<=ds.getD k 0+1:=by
 obtain⟨r,hr⟩:=gxE (l:=M) (i:=0) (by rw[h.l];omega);have hm:=Qa hr;obtain⟨p,hp⟩:=gxE (l:=r) (i:=k) (by rw[h.w r hm];exact hk);refine⟨r,p,hr,hp,?_,h.b r hm p (Qa hp),h.n r hm k p hp⟩;rw[Qd (l:=M),hr,Ve,Qd,hp];rfl
theorem Qlx{k s:Nat}{p:Um}(h:Bd s p):Bd s (A8 k p):=by
 unfold A8;split
 ·exact Oe h
 ·exact h
theorem Qgy(k:Nat)(p:Um):(A8 k p).length<=p.length:=by
 unfold A8;split
 ·exact B9 _
 ·exact Qj _
theorem NU{s B:Nat}{ds:Uo}{f:List Un->Um}{M:List Un}(h:SqR s ds M)(hs:ds.sum<64)(hf:∀k,k<ds.length->Bd B (f (Ho M k))/\(f (Ho M k)).length<=(ds.eraseIdx k).sum+1):∀i,i<=ds.length->Bd (s+B+7+i) (Ee f M i)/\(Ee f M i).length<=ds.sum+1
 | 0,_=>⟨λz hz=>(by cases hz),Qg _⟩
 |
  i+1,hi=>by
  obtain⟨h2,h3⟩:=NU h hs hf i (by omega);obtain⟨r,p,_,_,e,b,l⟩:=h.at (k:=i) (by omega);obtain⟨f1,f2⟩:=hf i (by omega);have hd:=L8 (ds:=ds) (k:=i) (by omega);have hp1:Bd (s+B+7) (U9 p (f (Ho M i))):=Tc b f1 (Z8 l (by omega));have hp2:=Re p (f (Ho M i));have hp3:=Qgy i (U9 p (f (Ho M i)));simp only[Ee];rw[e];exact⟨Uv (Od h2 (Qlx hp1)) (by omega),Qc (El _ _) (by omega)⟩
theorem bO{s:Nat}:∀(n:Nat) (ds:Uo) (M:List Un),ds.length=n->ds.sum<64->SqR s ds M->Bd (n*(s+20)+1) (By n M)/\(By n M).length<=ds.sum+1/\n<=9\/9<n
 | 0,ds,M,_,_,_=>.inl ⟨λz hz=>(by simp[By]at hz;subst hz;rw[Yh];decide),by simp[By],by omega⟩
 |
  n+1,ds,M,hl,hs,h=>by
  by_cases h9:9<n+1
  ·exact .inr h9
  have hsum:=λk (hk:k<ds.length)=>L8 (ds:=ds) (k:=k) hk
  have:=NU (f:=By n) (B:=n*(s+20)+1) h hs (λk hk=>by
   have hd:=hsum k hk;rcases bO n (ds.eraseIdx k) (Ho M k) (by rw[Jt hk];omega) (by omega) (h.minor hk)with h'|h'
   ·exact⟨h'.1,h'.2.1⟩
   ·omega) (n+1) (by omega)
  have e1:(n+1)*(s+20)=n*(s+20)+(s+20):=Xa ..;exact .inl ⟨Uv this.1 (by omega),this.2,by omega⟩
theorem rL{s:Nat}(hs:s<=1000000):∀(n:Nat) (ds:Uo) (M:List Un),n<=4->ds.length=n->ds.sum<64->SqR s ds M->Uj 274 [.one (.row (OE M))] [.one (rp (zp (By n M)))]
 |
  0,ds,M,_,hl,_,h=>by
  have e:=Qh (h.l.trans hl);subst e;exact Ug func274 rfl [.t rfl,.k rB] rfl
 |
  n+1,ds,M,hn,hl,hd,h=>by
  have hrl:=yH M;have hMl:=h.l;have ih:=λk (hk:k<ds.length)=>rL hs n (ds.eraseIdx k) (Ho M k) (by omega) (by rw[Jt hk];omega) (by have:=L8 (ds:=ds) (k:=k) hk;omega) (h.minor hk)
  have hb:n*(s+20)+1<=3*1000020+1:=Nat.add_le_add_right (Zs (by omega) (by omega)) 1;have hok:∀k,k<ds.length->Bd (n*(s+20)+1) (By n (Ho M k))/\(By n (Ho M k)).length<=(ds.eraseIdx k).sum+1:=λk hk=>by
   have hd':=L8 (ds:=ds) (k:=k) hk;rcases bO n (ds.eraseIdx k) (Ho M k) (by rw[Jt hk];omega) (by omega) (h.minor hk)with h'|h'
   ·exact⟨h'.1,h'.2.1⟩
   ·omega
  have hds:=NU (f:=By n) (B:=n*(s+20)+1) h hd hok;have cm:=λk=>Qcr (M:=M) (k:=k) (by omega) (λr hr=>by rw[h.w r hr];omega)
  show Uj 274 [.one (.row (OE M))] [.one (rp (zp (Ee (By n) M (n+1))))];obtain⟨f,hf⟩:=nmE (By n);rw[<-hf]at hds hok ih ⊢;refine Hz func274 rfl ?_;refine Ud [.F,.z 3] rfl ?_;refine Ui (S:=Nat) 0 (λL1 i=>(13,.v (.oi i))::(3,.v (.one (rp (zp (Ee f M i)))))::L1) (λ_=>[]) (λi=>M.length-i) (λi=>i<=M.length) 0 (Qg _) rfl rfl λi hi=>?_
  obtain⟨d2,d3⟩:=hds i (by omega);by_cases hlt:i<M.length
  ·obtain⟨r,p,hr,hp,e,b,l⟩:=h.at (k:=i) (by omega);obtain⟨k2,k3⟩:=hok i (by omega);have hse:=L8 (ds:=ds) (k:=i) (by omega);have ci:=ih i (by omega);have cp:=Au (p:=p) (q:=f (Ho M i)) (by omega) (by omega) b k2 (by omega);have hmb:Bd (s+(n*(s+20)+1)+7) (U9 p (f (Ho M i))):=Tc b k2 (Z8 l (by omega));have hml:=Re p (f (Ho M i));by_cases h2:i % 2=1
   ·have es:Ee f M (i+1)=S6 (Ee f M i) (P0 (U9 p (f (Ho M i)))):=by simp only[Ee,A8];rw[e,if_pos h2]
    have hnl:=B9 (U9 p (f (Ho M i)));refine go tt [.T,.x (MX hr),.x (yS hp),.k (cm i),.k ci,.k cp,.r 28 (eI (b:=((i % 2:Nat):Int)) rfl),.T,.k (rS (Uv hmb (by omega)) (by omega)),.k (SL (p:=Ee f M i) (q:=P0 (U9 p (f (Ho M i)))) (Uv d2 (by omega)) (Uv (Oe hmb) (by omega)) (by omega) (by omega))] rfl (by simp[Uw] <;> omega) ?_;exact rd (i+1) (by omega) hlt (by rw[es];rfl)
   ·have es:Ee f M (i+1)=S6 (Ee f M i) (U9 p (f (Ho M i))):=by simp only[Ee,A8];rw[e,if_neg h2]
    refine go tt [.T,.x (MX hr),.x (yS hp),.k (cm i),.k ci,.k cp,.r 28 (eI (b:=((i % 2:Nat):Int)) rfl),.F,.k (SL (p:=Ee f M i) (q:=U9 p (f (Ho M i))) (Uv d2 (by omega)) (Uv hmb (by omega)) (by omega) (by omega))] rfl (by simp[Uw] <;> omega) ?_;exact rd (i+1) (by omega) hlt (by rw[es];rfl)
  ·obtain rfl:i=n+1:=by omega
   exact Uf [.F] rfl
theorem Qfi{a b c:Crv}(ha:Rs a)(hb:Rs b)(hc:Rs c):SqR 100000 [15,15,0] (Iw a b c):=by
 have key:∀k:Crv,Rs k->(∀p∈[k.x,k.y,[k.d]],Bd 100000 p)/\∀(j:Nat) (p:Um),[k.x,k.y,[k.d]][j]? = some p->p.length≤[15,15,0].getD j 0+1:=λk hk=>by
  refine⟨λp hp=>?_,λj p hp=>?_⟩
  ·simp only[Qt,Yx,or_false]at hp;rcases hp with rfl|rfl|rfl
   ·exact hk.c.x
   ·exact hk.c.y
   ·exact Qbe hk.c.d
  ·match j,hp with
   | 0,hp=>injection hp with hp;subst hp;exact hk.c.lx
   | 1,hp=>injection hp with hp;subst hp;exact hk.c.ly
   | 2,hp=>injection hp with hp;subst hp;exact Qj _
   |j+3,hp=>simp at hp
 have h3:∀r∈Iw a b c,r=[a.x,a.y,[a.d]]\/r=[b.x,b.y,[b.d]]\/r=[c.x,c.y,[c.d]]:=λr hr=>by
  simpa[Iw]using hr
 refine⟨rfl,λr hr=>?_,λr hr=>?_,λr hr=>?_⟩
 ·rcases h3 r hr with rfl|rfl|rfl <;> rfl
 ·rcases h3 r hr with rfl|rfl|rfl
  ·exact(key a ha).1
  ·exact(key b hb).1
  ·exact(key c hc).1
 ·rcases h3 r hr with rfl|rfl|rfl
  ·exact(key a ha).2
  ·exact(key b hb).2
  ·exact(key c hc).2
def Pq(a b c:Crv):Um:=By 3 (Iw a b c)
theorem aO{a b c:Crv}(ha:Rs a)(hb:Rs b)(hc:Rs c):Uj 176 [.agg (P5 a),.agg (P5 b),.agg (P5 c)] [.one (rp (zp (Pq a b c)))]:=by
 have cd:=rL (by decide) 3 [15,15,0] (Iw a b c) (by decide) rfl (by decide) (Qfi ha hb hc);have x0:[P5 a,P5 b,P5 c][0]? = some (P5 a):=rfl;have x1:[P5 a,P5 b,P5 c][1]? = some (P5 b):=rfl;have x2:[P5 a,P5 b,P5 c][2]? = some (P5 c):=rfl;have hs1:∀k:Crv,∀y∈[[LV.row (zrw [k.x,k.y,[k.d]])]],y.length=1:=λk y hy=>by rw[Qo.1 hy];rfl
 refine Hz func176 rfl ?_;refine Ud [.o 7 29 1] rfl ?_;refine Ui (S:=Nat) 4 (λL1 i=>(18,.v (.oi i))::(7,.v (.one (.orow 3 1 none)))::L1) (λi=>[.blk 133 (P5 a),.blk 133 (P5 b),.blk 133 (P5 c),.row false 29 1 (OE ((Iw a b c).take i))]) (λi=>3-i) (λi=>i<=3) 0 (by decide) rfl rfl λi hi=>?_
 rcases(show i=0\/i=1\/i=2\/i=3 by omega)with rfl|rfl|rfl|rfl
 ·exact go tt [.t rfl,.x x0,.k (Nt ha),.s (sz:=1) (hs1 a)] rfl (by simp[Uw,OE,Iw]) (rd 1 (by omega) (by omega) rfl)
 ·exact go tt [.t rfl,.x x1,.k (Nt hb),.s (sz:=1) (hs1 b)] rfl (by simp[Uw,OE,Iw]) (rd 2 (by omega) (by omega) rfl)
 ·exact go tt [.t rfl,.x x2,.k (Nt hc),.s (sz:=1) (hs1 c)] rfl (by simp[Uw,OE,Iw]) (rd 3 (by omega) (by omega) rfl)
 ·exact Uf [.f rfl,.k cd] rfl
end Orr
namespace Orq
open Orr Go
def Qsf(sg:Um->Int)(a b c:Pt):Bool:=decide (0<Gl sg (Gh a.c b.c c.c))
def Pn(C:List Pt):List (Pt×Pt):=C.zip (C.drop 1++C.take 1)
def GI(e:Pt×Pt)(c:Pt):Bool:=decide (c.id≠e.1.id) && decide (c.id≠e.2.id)
def Quh(l:List Pt):Un:=l.flatMap λx=>l.flatMap λy=>l.map λz=>Gh x.c y.c z.c
theorem kS{C:List Pt}{e:Pt×Pt}(h:e∈Pn C):e.1∈C/\e.2∈C:=by
 unfold Pn at h;have h1:=List.of_mem_zip (show(e.1,e.2)∈_ from h);refine⟨h1.1,?_⟩;rcases Qr.1 h1.2 with h|h
 ·exact Q5 h
 ·exact Ql h
theorem BX{α β:Type}(f:α->List β)(n:Nat):∀(m:List α),(∀x∈m,(f x).length≤n)->(m.flatMap f).length≤m.length*n
 | [],_=>by simp
 |
  x::m,h=>by
  have:=BX f n m λy hy=>h y (Qp _ hy)
  have:=h x (by simp);rw[List.flatMap_cons,Q3,Zc,Xa];omega
end Orq
namespace Orr
open Go Go.Proofs Tryz Orq
set_option maxRecDepth 10000
theorem kT{C:List Pt}{i:Nat}{a b:Pt}(ha:C[i]? = some a)(hb:C[(i+1) % C.length]? = some b):(Pn C)[i]? = some (a,b):=by
 have hi:=(Qf.1 ha).1;unfold Pn;rw[List.getElem?_zip_eq_some];refine⟨ha,?_⟩;by_cases h:i+1<C.length
 ·rw[X5 h]at hb;rw[Q6 (by rw[Xs];omega),Xb,J0];exact hb
 ·have e:i+1=C.length:=by omega
  rw[e,Nat.mod_self]at hb;rw[Zp (by rw[Xs];omega),Xs,show i-(C.length-1)=0 by omega,Jj (by omega)];exact hb
theorem RR(C:List Pt):(Pn C).length=C.length:=by
 unfold Pn;rw[List.length_zip,Q3,Xs,Qq];omega
theorem DN{α β:Type}{f:α->List β}{l:List α}{i:Nat}{x:α}(h:l[i]? = some x):(l.take (i+1)).flatMap f=(l.take i).flatMap f++f x:=by
 rw[Xd,h];simp
theorem HN{α β:Type}{f:α->β}{p:α->Bool}{l:List α}{i:Nat}{x:α}(h:l[i]? = some x):((l.take (i+1)).filter p).map f=((l.take i).filter p).map f++if p x=true then [f x]else []:=by
 rw[Xd,h,Ym,Xm];congr 1;simp only[Option.toList];by_cases hp:p x=true
 ·rw[if_pos hp,List.filter_cons_of_pos hp];rfl
 ·rw[if_neg hp,List.filter_cons_of_neg hp];rfl
theorem RN{α β:Type}{f:α->List β}{n:Nat}(hf:∀x,(f x).length<=n)(l:List α):(l.flatMap f).length<=l.length*n:=BX f n l λx _=>hf x
def DY(a b:Crv):Bool:=decide ((DX (Ob a.x a.d) (Ob b.x b.d)).length=0) && decide ((DX (Ob a.y a.d) (Ob b.y b.d)).length=0)
theorem Qi7{a b:Crv}(ha:Rs a)(hb:Rs b):Uj 272 [.agg (P5 a),.agg (P5 b)] [.one (.bool (DY a b))]:=by
 have lx1:=ha.c.lx;have ly1:=ha.c.ly;have lx2:=hb.c.lx;have ly2:=hb.c.ly;have cx:=rC (p:=Ob a.x a.d) (q:=Ob b.x b.d) (VI (Uv ha.c.x (by decide)) (Qc ha.c.d (by decide)) (by decide)) (VI (Uv hb.c.x (by decide)) (Qc hb.c.d (by decide)) (by decide)) (by rw[Nq];omega) (by rw[Nq];omega);have cy:=rC (p:=Ob a.y a.d) (q:=Ob b.y b.d) (VI (Uv ha.c.y (by decide)) (Qc ha.c.d (by decide)) (by decide)) (VI (Uv hb.c.y (by decide)) (Qc hb.c.d (by decide)) (by decide)) (by rw[Nq];omega) (by rw[Nq];omega);unfold DY;generalize DX (Ob a.x a.d) (Ob b.x b.d)=X at *;generalize DX (Ob a.y a.d) (Ob b.y b.d)=Y at *;have hX:(frow X).length=X.length:=by simp[frow]
 have hY:(frow Y).length=Y.length:=by simp[frow]
 by_cases h:X.length=0
 ·by_cases h':Y.length=0
  ·rw[decide_eq_true h,decide_eq_true h'];exact Ug func272 rfl [.k cx,.g 12 true Ul,.k cy,.g 19 true Ul] rfl
  ·rw[decide_eq_true h,decide_eq_false h'];exact Ug func272 rfl [.k cx,.g 12 true Ul,.k cy,.g 19 false Uk] rfl
 ·rw[decide_eq_false h];exact Ug func272 rfl [.k cx,.g 12 false Uk] rfl
def SH(out:List Pt)(p:Pt):List Pt:=if (out.any λo=>DY o.c p.c)=true then out else out++[p]
def Nl(l:List Pt):List Pt:=(Fg Hf l).foldl SH []
theorem UL:∀(M O:List Pt),(∀p∈M.foldl SH O,p∈O\/p∈M)/\(M.foldl SH O).length≤O.length+M.length
 | [],O=>⟨λp hp=>.inl hp,by simp⟩
 |
  x::M,O=>by
  obtain⟨h1,h2⟩:=UL M (SH O x);have e1:(SH O x).length<=O.length+1:=by unfold SH;split <;> simp
  refine⟨λp hp=>?_,by rw[Xl,Zc];omega⟩;rcases h1 p hp with h|h
  ·unfold SH at h
   split at h
   ·exact .inl h
   ·rcases Qr.1 h with h|h
    ·exact .inl h
    ·exact .inr (by rw[Qo.1 h];simp)
  ·exact .inr (Qp _ h)
theorem I9{l:List Pt}{p:Pt}(h:p∈Nl l):p∈l:=by
 rcases(UL (Fg Hf l) []).1 p h with h|h
 ·cases h
 ·exact Hd.1 h
theorem YK(l:List Pt):(Nl l).length<=l.length:=by
 have:=(UL (Fg Hf l) []).2;rw[Gq,Y5,Zz]at this;exact this
theorem Qhk{α:Type}{f:α->Bool}{l:List α}{i:Nat}{x:α}(h:l[i]? = some x):(l.take (i+1)).any f=((l.take i).any f || f x):=by
 rw[Xd,h,List.any_append];simp
theorem Qi8{l:List Pt}(hl:∀p∈l,Rs p.c)(hn:l.length≤1000):Uj 174 [.one (.row (Fl l))] [.one (.row (Fl (Nl l)))]:=by
 have c1:=KE (l:=l) (by omega);have hML:(Fg Hf l).length=l.length:=Gq _ _;have hMl:∀p∈Fg Hf l,Rs p.c:=λp hp=>hl p (Hd.1 hp)
 unfold Nl;obtain⟨M,hM⟩:=nmE (Fg Hf l);rw[<-hM]at c1 hML hMl ⊢;have hcl:=Gk M;refine Hz func174 rfl ?_;refine Ud [.o 3 135 7,.k c1] rfl ?_;refine Ui (S:=Nat) 1 (λL1 i=>(11,.v (.oi i))::(3,.v (.one (.orow 0 7 none)))::L1) (λi=>[.row false 135 7 (Fl ((M.take i).foldl SH []))]) (λi=>M.length-i) (λi=>i<=M.length) 0 (Qg _) rfl rfl λi hi=>?_
 by_cases hlt:i<M.length
 ·obtain⟨p,hp⟩:=gxE (l:=M) (i:=i) hlt;have hpr:=hMl p (Qa hp);have hst:=No SH [] M hp;have hsub:=UL (M.take i) [];obtain⟨O,hO⟩:=nmE ((M.take i).foldl SH []);rw[<-hO]at hst hsub ⊢;have hOl:O.length<=1000:=by have:=hsub.2;rw[Y5,Qq]at this;omega
  have hOm:∀o∈O,Rs o.c:=λo ho=>by
   rcases hsub.1 o ho with h|h
   ·cases h
   ·exact hMl o (Ql h)
  have hrl:=Gk O;refine Ud [.T] rfl ?_;refine Ui (S:=Nat) 1 (λL1 k=>(16,.v (.oi k))::(5,.v (.one (.bool ((O.take k).any λo=>DY o.c p.c))))::L1) (λ_=>[.row false 135 7 (Fl O)]) (λk=>O.length-k) (λk=>k<=O.length) 0 (Qg _) rfl rfl λk hk=>?_
  by_cases hkl:k<O.length
  ·obtain⟨o,ho⟩:=gxE (l:=O) (i:=k) hkl;have ha:=Qhk (f:=λo=>DY o.c p.c) ho;cases hb:(O.take k).any λo=>DY o.c p.c with
   |
    true =>
    rw[hb,K6]at ha;refine go tt [.T,.g 20 true rfl] rfl (by simp[Uw] <;> omega) ?_;exact rd (k+1) (by omega) hkl (by rw[ha];rfl)
   |
    false =>
    rw[hb,Vi]at ha;refine go tt [.T,.g 20 false rfl,.i k,.x (U4 ho),.x (U4 hp),.k (Qi7 (hOm o (Qa ho)) hpr)] rfl (by simp[Uw] <;> omega) ?_;exact rd (k+1) (by omega) hkl (by rw[ha];rfl)
  ·obtain rfl:k=O.length:=by omega
   rw[Q7];have h7z:∀y∈[Ht p],y.length=7:=λy hy=>by rw[Qo.1 hy];rfl
   cases hb:O.any λo=>DY o.c p.c with
   |
    true =>
    have e:SH O p=O:=if_pos hb;refine go tt [.F,.f rfl] rfl (by simp[Uw] <;> omega) ?_;exact rd (i+1) (by omega) hlt (by rw[hst,e];rfl)
   |
    false =>
    have e:SH O p=O++[p]:=if_neg (by rw[hb];decide);refine go tt [.F,.t rfl,.x (U4 hp),.s (sz:=7) h7z] rfl (by simp[Uw] <;> omega) ?_;exact rd (i+1) (by omega) hlt (by rw[hst,e];simp[Fl];rfl)
 ·obtain rfl:i=M.length:=by omega
  rw[Q7];exact Uf [.F] rfl
end Orr
namespace Orr
open Go Go.Proofs Tryz Orq
theorem JD(p:Um)(q:Rat):Ux (A8 0 p) q=Ux p q:=rfl
theorem HQ(p:Um)(q:Rat):Ux (A8 1 p) q=-Ux p q:=I1 p q
theorem IR(p:Um)(q:Rat):Ux (A8 2 p) q=Ux p q:=rfl
theorem Qfo(p:Um)(q:Rat):Ux (By 1 [[p]]) q=Ux p q:=by
 show Ux (S6 [] (A8 0 (U9 p [1]))) q=_;rw[Pz,JD,U6,G9];show(0:Rat)+_=_;grind
theorem sE(p r s t:Um)(q:Rat):Ux (By 2 [[p,r],[s,t]]) q=Ux p q*Ux t q-Ux r q*Ux s q:=by
 show Ux (S6 (S6 [] (A8 0 (U9 p (By 1 [[t]])))) (A8 1 (U9 r (By 1 [[s]])))) q=_;rw[Pz,Pz,JD,HQ,U6,U6,Qfo,Qfo];show(0:Rat)+_+_=_;grind
theorem CU(a1 a2 a3 b1 b2 b3 c1 c2 c3:Um)(q:Rat):Ux (By 3 [[a1,a2,a3],[b1,b2,b3],[c1,c2,c3]]) q=Ux a1 q*(Ux b2 q*Ux c3 q-Ux b3 q*Ux c2 q)-Ux a2 q*(Ux b1 q*Ux c3 q-Ux b3 q*Ux c1 q)+Ux a3 q*(Ux b1 q*Ux c2 q-Ux b2 q*Ux c1 q):=by
 show Ux (S6 (S6 (S6 [] (A8 0 (U9 a1 (By 2 [[b2,b3],[c2,c3]])))) (A8 1 (U9 a2 (By 2 [[b1,b3],[c1,c3]])))) (A8 2 (U9 a3 (By 2 [[b1,b2],[c1,c2]])))) q=_;rw[Pz,Pz,Pz,JD,HQ,IR,U6,U6,U6,sE,sE,sE];show(0:Rat)+_+_+_=_;grind
theorem FC{f:Nat->Um}{rows:List Un}:∀i,Uz (Bs f rows i)
 | 0=>rfl
 |
  i+1=>by
  simp only[Bs]
  split
  ·exact FC i
  ·split
   ·exact U7 _ _
   ·exact U7 _ _
theorem sC(a b c:Crv):Pq a b c=Gh a b c:=by
 refine Ao (U7 _ _) (FC 3) λq=>?_
 show Ux (By 3 [[a.x,a.y,[a.d]],[b.x,b.y,[b.d]],[c.x,c.y,[c.d]]]) q=Ux (M9 3 [[a.x,a.y,[a.d]],[b.x,b.y,[b.d]],[c.x,c.y,[c.d]]]) q;rw[CU,XH];grind
end Orr
namespace Orr
open Go Go.Proofs Tryz Orq
set_option maxRecDepth 10000
theorem MI{a b c:Crv}(ha:Sc a)(hb:Sc b)(hc:Sc c):Uj 176 [.agg (P5 a),.agg (P5 b),.agg (P5 c)] [.one (rp (zp (Pq a b c)))]:=aO ha.rs hb.rs hc.rs
theorem XG{a b c:Crv}(ha:Sc a)(hb:Sc b)(hc:Sc c):Cp (Pq a b c):=by
 rw[sC];exact EN ha hb hc
theorem vH{l:List Pt}(hl:∀p∈l,Sc p.c)(hn:l.length≤1000):Uj 174 [.one (.row (Fl l))] [.one (.row (Fl (Nl l)))]:=Qi8 (λp hp=>(hl p hp).rs) hn
def Qbh(sg:Um->Int)(a b c:Pt):Bool:=(Sk sg a c && Sk sg c b) || (Sk sg b c && Sk sg c a)
def M7(sg:Um->Int)(a b c:Pt):Bool:=decide (c.id=a.id) || (decide (c.id=b.id) || !(decide (Gl sg (Pq a.c b.c c.c)<0) || (decide (Gl sg (Pq a.c b.c c.c)=0) && !Qbh sg a b c)))
def Ow(sg:Um->Int)(a b:Pt)(l:List Pt):Bool:=l.all (M7 sg a b)
set_option maxHeartbeats 1000000 in
theorem MO{a b:Pt}{l:List Pt}{T:Ti}(ha:Sc a.c)(hb:Sc b.c)(hl:∀p∈l,Sc p.c)(hn:l.length≤1000)(hq:RT T):Uj 175 [.agg (Ht a),.agg (Ht b),.one (.row (Fl l)),.agg (T.tl)] [.one (.bool (Ow T.sg a b l))]:=by
 have hcl:=Gk l;refine Hz func175 rfl ?_;refine Ud [] rfl ?_;refine Ui (S:=Nat) 3 (λL1 i=>(14,.v (.oi i))::L1) (λ_=>[.blk 135 (Ht a),.blk 135 (Ht b),.blk 36 (T.tl)]) (λi=>l.length-i) (λi=>i<=l.length/\Ow T.sg a b l=Ow T.sg a b (l.drop i)) 0 ⟨Qg _,rfl⟩ rfl rfl λi ⟨hi,he⟩=>?_
 by_cases hlt:i<l.length
 ·obtain⟨c,hc⟩:=gxE (l:=l) (i:=i) hlt;have hcr:=hl c (Qa hc);have hdr:Ow T.sg a b (l.drop i)=(M7 T.sg a b c && Ow T.sg a b (l.drop (i+1))):=by
   obtain⟨h1,h2⟩:=Qf.1 hc;rw[Zt h1,h2];rfl
  have co:=MI ha hb hcr;have hsz:=XG ha hb hcr;have cA:=hq.a hsz.dp;have b1:=Ec ha hcr hq;have b2:=Ec hcr hb hq;have b3:=Ec hb hcr hq;have b4:=Ec hcr ha hq;by_cases h1:c.id=a.id
  ·have e:M7 T.sg a b c=true:=by simp[M7,h1]
   rw[e,Yi]at hdr;refine go tt [.T,.x (U4 hc),.g 26 true (decide_eq_true h1),.t rfl] rfl (by simp[Uw] <;> omega) ?_;exact rd (i+1) (by omega) ⟨hlt,by rw[he,hdr]⟩ rfl
  by_cases h2:c.id=b.id
  ·have e:M7 T.sg a b c=true:=by simp[M7,h2]
   rw[e,Yi]at hdr;refine go tt [.T,.x (U4 hc),.g 26 false (decide_eq_false h1),.t (decide_eq_true h2)] rfl (by simp[Uw] <;> omega) ?_;exact rd (i+1) (by omega) ⟨hlt,by rw[he,hdr]⟩ rfl
  have e0:M7 T.sg a b c = !(decide (Gl T.sg (Pq a.c b.c c.c)<0) || (decide (Gl T.sg (Pq a.c b.c c.c)=0) && !Qbh T.sg a b c)):=by unfold M7;rw[decide_eq_false h1,decide_eq_false h2,Bool.false_or,Bool.false_or]
  generalize Gl T.sg (Pq a.c b.c c.c)=s at *;by_cases hs:s<0
  ·rw[decide_eq_true hs,K6]at e0;rw[e0]at hdr;rw[he,hdr];exact Uf [.T,.x (U4 hc),.g 26 false (decide_eq_false h1),.f (decide_eq_false h2),.k co,.k cA,.g 44 true (decide_eq_true hs),.t rfl] rfl
  rw[decide_eq_false hs,Vi]at e0;by_cases hz:s=0
  ·rw[decide_eq_true hz,Yi,Bool.not_not]at e0;unfold Qbh at e0;cases k1:Sk T.sg a c with
   |
    true =>
    rw[k1]at b1 e0;cases k2:Sk T.sg c b with
    |
     true =>
     rw[k2]at b2 e0;have e0:M7 T.sg a b c=true:=e0;rw[e0,Yi]at hdr;refine go tt [.T,.x (U4 hc),.g 26 false (decide_eq_false h1),.f (decide_eq_false h2),.k co,.k cA,.g 44 false (decide_eq_false hs),.g 47 true (decide_eq_true hz),.k b1,.g 52 true rfl,.k b2,.g 58 true rfl,.f rfl] rfl (by simp[Uw] <;> omega) ?_;exact rd (i+1) (by omega) ⟨hlt,by rw[he,hdr]⟩ rfl
    |
     false =>
     rw[k2,Bool.and_false,Vi]at e0;rw[k2]at b2;cases k3:Sk T.sg b c with
     |
      true =>
      rw[k3]at b3 e0;cases k4:Sk T.sg c a with
      |
       true =>
       rw[k4]at b4 e0;have e0:M7 T.sg a b c=true:=e0;rw[e0,Yi]at hdr;refine go tt [.T,.x (U4 hc),.g 26 false (decide_eq_false h1),.f (decide_eq_false h2),.k co,.k cA,.g 44 false (decide_eq_false hs),.g 47 true (decide_eq_true hz),.k b1,.g 52 true rfl,.k b2,.g 58 false rfl,.k b3,.g 63 true rfl,.k b4,.f rfl] rfl (by simp[Uw] <;> omega) ?_;exact rd (i+1) (by omega) ⟨hlt,by rw[he,hdr]⟩ rfl
      |
       false =>
       rw[k4]at b4 e0;have e0:M7 T.sg a b c=false:=e0;rw[e0,Yl]at hdr;rw[he,hdr];exact Uf [.T,.x (U4 hc),.g 26 false (decide_eq_false h1),.f (decide_eq_false h2),.k co,.k cA,.g 44 false (decide_eq_false hs),.g 47 true (decide_eq_true hz),.k b1,.g 52 true rfl,.k b2,.g 58 false rfl,.k b3,.g 63 true rfl,.k b4,.t rfl] rfl
     |
      false =>
      rw[k3]at b3 e0;have e0:M7 T.sg a b c=false:=e0;rw[e0,Yl]at hdr;rw[he,hdr];exact Uf [.T,.x (U4 hc),.g 26 false (decide_eq_false h1),.f (decide_eq_false h2),.k co,.k cA,.g 44 false (decide_eq_false hs),.g 47 true (decide_eq_true hz),.k b1,.g 52 true rfl,.k b2,.g 58 false rfl,.k b3,.g 63 false rfl,.t rfl] rfl
   |
    false =>
    rw[k1,Yl,Vi]at e0;rw[k1]at b1;cases k3:Sk T.sg b c with
    |
     true =>
     rw[k3]at b3 e0;cases k4:Sk T.sg c a with
     |
      true =>
      rw[k4]at b4 e0;have e0:M7 T.sg a b c=true:=e0;rw[e0,Yi]at hdr;refine go tt [.T,.x (U4 hc),.g 26 false (decide_eq_false h1),.f (decide_eq_false h2),.k co,.k cA,.g 44 false (decide_eq_false hs),.g 47 true (decide_eq_true hz),.k b1,.g 52 false rfl,.g 58 false rfl,.k b3,.g 63 true rfl,.k b4,.f rfl] rfl (by simp[Uw] <;> omega) ?_;exact rd (i+1) (by omega) ⟨hlt,by rw[he,hdr]⟩ rfl
     |
      false =>
      rw[k4]at b4 e0;have e0:M7 T.sg a b c=false:=e0;rw[e0,Yl]at hdr;rw[he,hdr];exact Uf [.T,.x (U4 hc),.g 26 false (decide_eq_false h1),.f (decide_eq_false h2),.k co,.k cA,.g 44 false (decide_eq_false hs),.g 47 true (decide_eq_true hz),.k b1,.g 52 false rfl,.g 58 false rfl,.k b3,.g 63 true rfl,.k b4,.t rfl] rfl
    |
     false =>
     rw[k3]at b3 e0;have e0:M7 T.sg a b c=false:=e0;rw[e0,Yl]at hdr;rw[he,hdr];exact Uf [.T,.x (U4 hc),.g 26 false (decide_eq_false h1),.f (decide_eq_false h2),.k co,.k cA,.g 44 false (decide_eq_false hs),.g 47 true (decide_eq_true hz),.k b1,.g 52 false rfl,.g 58 false rfl,.k b3,.g 63 false rfl,.t rfl] rfl
  ·rw[decide_eq_false hz,Yl]at e0;have e0:M7 T.sg a b c=true:=e0;rw[e0,Yi]at hdr;refine go tt [.T,.x (U4 hc),.g 26 false (decide_eq_false h1),.f (decide_eq_false h2),.k co,.k cA,.g 44 false (decide_eq_false hs),.g 47 false (decide_eq_false hz),.f rfl] rfl (by simp[Uw] <;> omega) ?_;exact rd (i+1) (by omega) ⟨hlt,by rw[he,hdr]⟩ rfl
 ·obtain rfl:i=l.length:=by omega
  rw[he,List.drop_length];exact Uf [.F] rfl
def XK(sg:Um->Int)(W:List Pt)(a:Pt):Option Pt:=W.find? λp=>decide (p.id≠a.id) && Ow sg a p W
def M6(sg:Um->Int)(W:List Pt)(s0:Pt):Nat->Pt->List Pt->List Pt
 | 0,_,O=>O
 |
  k+1,a,O=>match XK sg W a with
  |none=>O
  |some b=>if b.id=s0.id then O else M6 sg W s0 k b (O++[b])
def Oo(sg:Um->Int)(l:List Pt):List Pt:=if (Nl l).length<2 then Nl l else
 match Fg (Sk sg) (Nl l)with
 | []=>[]
 |s::_=>M6 sg (Nl l) s (Nl l).length s [s]
theorem CQ{sg:Um->Int}{W:List Pt}{a b:Pt}(h:XK sg W a=some b):b∈W/\b.id≠a.id:=by
 have h1:=List.find?_some h;simp only[Zm,decide_eq_true_eq]at h1;exact⟨List.mem_of_find?_eq_some h,h1.1⟩
theorem EM{sg:Um->Int}{W:List Pt}{s0:Pt}:∀(k:Nat) (a:Pt) (O:List Pt),(∀p∈O,p∈W)->(∀p∈M6 sg W s0 k a O,p∈W)/\(M6 sg W s0 k a O).length≤O.length+k
 | 0,_,O,h=>⟨h,Qj _⟩
 |
  k+1,a,O,h=>by
  unfold M6;cases hb:XK sg W a with
  |none=>exact⟨h,Vd _ _⟩
  |
   some b =>
   have hm:=(CQ hb).1;dsimp only
   split
   ·exact⟨h,Vd _ _⟩
   ·obtain⟨h1,h2⟩:=EM (sg:=sg) (s0:=s0) k b (O++[b]) (λp hp=>(Qr.1 hp).elim (h p) λhp=>by rw[Qo.1 hp];exact hm);rw[Q3,Jc]at h2;exact⟨h1,by omega⟩
theorem JJ(sg:Um->Int)(l:List Pt):(∀p∈Oo sg l,p∈l)/\(Oo sg l).length≤l.length+1:=by
 have hw:=YK l;unfold Oo
 split
 ·exact⟨λp hp=>I9 hp,by omega⟩
 ·split
  ·exact⟨λp hp=>(by cases hp),Qg _⟩
  ·rename_i s S hS;have hs:s∈Nl l:=Hd.1 (show s∈Fg (Sk sg) (Nl l) by rw[hS];simp);obtain⟨h1,h2⟩:=EM (sg:=sg) (s0:=s) (Nl l).length s [s] (λp hp=>by rw[Qo.1 hp];exact hs);exact⟨λp hp=>I9 (h1 p hp),by rw[Jc]at h2;omega⟩
theorem oR{sg:Um->Int}{W:List Pt}{a b:Pt}(h:XK sg W a=some b):∃j:Nat,W[j]? = some b/\b.id≠a.id/\Ow sg a b W=true/\∀(i:Nat) (p:Pt),i<j->W[i]? = some p->p.id=a.id\/Ow sg a p W=false:=by
 unfold XK at h;obtain⟨h1,u,v,hW,h3⟩:=List.find?_eq_some_iff_append.1 h;simp only[Zm,decide_eq_true_eq]at h1;refine⟨u.length,by rw[hW,Zp (Qj _),J4];rfl,h1.1,h1.2,λi p hi hp=>?_⟩;have hp':u[i]? = some p:=by rw[<-hp,hW,Q6 hi]
 have:=h3 p (Qa hp');simp only[Bool.not_eq_true',Bool.and_eq_false_iff,decide_eq_false_iff_not,Kn]at this;exact this
theorem oS{sg:Um->Int}{W:List Pt}{a:Pt}(h:XK sg W a=none):∀p∈W,p.id=a.id\/Ow sg a p W=false:=λp hp=>by
 have:=List.find?_eq_none.1 h p hp;simp only[Bool.not_eq_true,Bool.and_eq_false_iff,decide_eq_false_iff_not,Kn]at this;exact this
set_option maxHeartbeats 4000000 in
theorem vF{l:List Pt}{T:Ti}(hl:∀p∈l,Sc p.c)(hn:l.length≤1000)(hq:RT T):Uj 66 [.one (.row (Fl l)),.agg (T.tl)] [.one (.row (Fl (Oo T.sg l)))]:=by
 have c1:=vH hl hn;have hWl:∀p∈Nl l,Sc p.c:=λp hp=>hl p (I9 hp)
 have hWn:=YK l;unfold Oo;obtain⟨W,hW⟩:=nmE (Nl l);rw[<-hW]at c1 hWl hWn ⊢;have hcl:=Gk W;by_cases h2:W.length<2
 ·rw[if_pos h2];exact Ug func66 rfl [.k c1,.T] rfl
 rw[if_neg h2];have c2:=VV (l:=W) hWl (by omega) hq;obtain⟨s,S,hS⟩:∃s S,Fg (Sk T.sg) W=s::S:=by
  have:(Fg (Sk T.sg) W).length=W.length:=Gq _ _;cases hs:Fg (Sk T.sg) W with
  |nil=>rw[hs]at this;simp at this;omega
  |cons s S=>exact⟨s,S,rfl⟩
 have hsW:s∈W:=Hd.1 (show s∈Fg (Sk T.sg) W by rw[hS];simp);rw[hS]at c2 ⊢;show Uj 66 _ [.one (.row (Fl (M6 T.sg W s W.length s [s])))];have hx0:(Fl (s::S))[0]? = some (Ht s):=rfl;refine Hz func66 rfl ?_;refine Ud [.k c1,.F,.k c2,.x hx0,.lo] rfl ?_;refine sb [(7,.v (.one (.orow 1 7 none))),(6,.v (.one (.row (Fl (s::S))))),(5,.v (.one (.row (Fl W)))),(3,.v (.one (.ow 0 0)))] [.blk 36 (T.tl),.row false 135 7 (Fl [s])] rfl rfl ?_;refine Ui (S:=List Pt) 2 (λL1 _=>(7,.v (.one (.orow 1 7 none)))::L1) (λO=>[.blk 36 (T.tl),.row false 135 7 (Fl O)]) (λO=>W.length+1-O.length) (λO=>O.length<=W.length+1/\∃a,a∈W/\O[O.length-1]? = some a/\M6 T.sg W s (W.length+1-O.length) a O=M6 T.sg W s W.length s [s]) [s] ⟨by show 1<=_;omega,s,hsW,rfl,rfl⟩ rfl rfl λO ⟨hO,a,haW,hla,he⟩=>?_
 have har:=hWl a haW;have hrl:=Gk O;have hO1:0<O.length:=by
  have:=(Qf.1 hla).1;omega
 by_cases hlt:O.length<=W.length
 ·obtain⟨k,hk⟩:∃k,W.length+1-O.length=k+1:=⟨W.length-O.length,by omega⟩;rw[hk]at he;refine go tt [.T,.r 31 (eI (b:=((O.length-1:Nat):Int)) (by omega)),.i (O.length-1),.x (U4 hla)] rfl (by simp[Uw] <;> omega) ?_;cases hb:XK T.sg W a with
  |
   none =>
   have hno:=oS hb;have ef:M6 T.sg W s W.length s [s]=O:=by rw[<-he];unfold M6;rw[hb]
   rw[ef];refine Ui (S:=Nat) 3 (λL1 i=>(36,.v (.oi i))::L1) (λ_=>[.blk 36 (T.tl),.row false 135 7 (Fl O),.blk 135 (Ht a)]) (λi=>W.length-i) (λi=>i<=W.length) 0 (Qg _) rfl rfl λi hi=>?_
   by_cases hil:i<W.length
   ·obtain⟨p,hp⟩:=gxE (l:=W) (i:=i) hil;have hpm:=Qa hp;by_cases h1:p.id=a.id
    ·refine go tt [.T,.x (U4 hp),.g 47 false (decide_eq_false (by simpa using h1)),.f rfl] rfl (by simp[Uw] <;> omega) ?_;exact rd (i+1) (by omega) hil rfl
    ·have ce:=MO har (hWl p hpm) hWl (by omega) hq;rw[(hno p hpm).resolve_left h1]at ce;refine go tt [.T,.x (U4 hp),.g 47 true (decide_eq_true h1),.x (U4 hp),.k ce,.f rfl] rfl (by simp[Uw] <;> omega) ?_;exact rd (i+1) (by omega) hil rfl
   ·by_cases h3:a.id=s.id
    ·exact Uf [.F,.x hx0,.g 69 true (decide_eq_true h3),.t rfl] rfl rfl (by simp[Uw] <;> omega)
    ·exact Uf [.F,.x hx0,.g 69 false (decide_eq_false h3),.r 75 (eI (b:=((O.length-1:Nat):Int)) (by omega)),.i (O.length-1),.x (U4 hla),.t (decide_eq_true rfl)] rfl rfl (by simp[Uw] <;> omega)
  |
   some b =>
   obtain⟨j,hj,hba,heb,hjb⟩:=oR hb;have hbW:=(CQ hb).1;have hjl:=(Qf.1 hj).1;have hbr:=hWl b hbW;have h7z:∀y∈[Ht b],y.length=7:=λy hy=>by rw[Qo.1 hy];rfl
   have cb:=MO har hbr hWl (by omega) hq;rw[heb]at cb;refine Ui (S:=Nat) 3 (λL1 i=>(36,.v (.oi i))::L1) (λ_=>[.blk 36 (T.tl),.row false 135 7 (Fl O),.blk 135 (Ht a)]) (λi=>j-i) (λi=>i<=j) 0 (Qg _) rfl rfl λi hi=>?_
   by_cases hij:i<j
   ·obtain⟨p,hp⟩:=gxE (l:=W) (i:=i) (by omega);have hpm:=Qa hp;by_cases h1:p.id=a.id
    ·refine go tt [.T,.x (U4 hp),.g 47 false (decide_eq_false (by simpa using h1)),.f rfl] rfl (by simp[Uw] <;> omega) ?_;exact rd (i+1) (by omega) hij rfl
    ·have ce:=MO har (hWl p hpm) hWl (by omega) hq;rw[(hjb i p hij hp).resolve_left h1]at ce;refine go tt [.T,.x (U4 hp),.g 47 true (decide_eq_true h1),.x (U4 hp),.k ce,.f rfl] rfl (by simp[Uw] <;> omega) ?_;exact rd (i+1) (by omega) hij rfl
   ·obtain rfl:i=j:=by omega
    by_cases h3:b.id=s.id
    ·have ef:M6 T.sg W s W.length s [s]=O:=by rw[<-he];unfold M6;rw[hb];exact if_pos h3
     rw[ef];exact Uf [.T,.x (U4 hj),.g 47 true (decide_eq_true hba),.x (U4 hj),.k cb,.t rfl,.x (U4 hj),.x hx0,.g 69 true (decide_eq_true h3),.t rfl] rfl rfl (by simp[Uw] <;> omega)
    ·have ef:M6 T.sg W s k b (O++[b])=M6 T.sg W s W.length s [s]:=by
      rw[<-he];show _=(match XK T.sg W a with|none=>O|some b=>if b.id=s.id then O else M6 T.sg W s k b (O++[b]));rw[hb];exact(if_neg h3).symm
     refine go tt [.T,.x (U4 hj),.g 47 true (decide_eq_true hba),.x (U4 hj),.k cb,.t rfl,.x (U4 hj),.x hx0,.g 69 false (decide_eq_false h3),.r 75 (eI (b:=((O.length-1:Nat):Int)) (by omega)),.i (O.length-1),.x (U4 hla),.f (decide_eq_false hba),.s (sz:=7) h7z] rfl (by simp[Uw] <;> omega) ?_;have hl1:(O++[b]).length=O.length+1:=by simp
     exact rd (O++[b]) (by omega) ⟨by omega,b,hbW,by rw[hl1,J1,Zp (Qj _),J4];rfl,by rw[hl1,show W.length+1-(O.length+1)=k by omega];exact ef⟩ (by simp[Fl];rfl)
 ·rw[show W.length+1-O.length=0 by omega]at he;have ef:M6 T.sg W s W.length s [s]=O:=he.symm;rw[ef];exact Uf [.F] rfl
def P9(sg:Um->Int)(a b c:Pt):Ct:=⟨3,a.id,b.id,c.id,0,Pq a.c b.c c.c,Gl sg (Pq a.c b.c c.c)⟩
theorem Qcs{l:List Ct}(hn:l.length<=1000000):Ab prog 225 [.one (.row (Fp l))] [] [.one (.orow 0 9 none)] [.row false 47 9 (Fp (Fg Tr l))]:=by
 have hcl:=Rt l;refine Hz func225 rfl ?_;refine Ud [.o 3 47 9] rfl ?_;refine Ui (S:=Nat) 1 (λL1 i=>(8,.v (.oi i))::(3,.v (.one (.orow 0 9 none)))::L1) (λi=>[.row false 47 9 (Fp (Fg Tr (l.take i)))]) (λi=>l.length-i) (λi=>i<=l.length) 0 (Qg _) rfl rfl λi hi=>?_
 by_cases hlt:i<l.length
 ·obtain⟨c,hc⟩:=gxE (l:=l) (i:=i) hlt;have hst:Fg Tr (l.take (i+1))=E9 Tr (Fg Tr (l.take i)) c:=E6 hc;obtain⟨O,hO⟩:=nmE (Fg Tr (l.take i));have hOl:O.length=i:=by rw[hO,Gq,Qq];omega
  have hrl:=Rt O;rw[<-hO]at hst ⊢;refine Ud [.T] rfl ?_;refine Ui (S:=Nat) 1 (λL1 k=>(5,.v (.oi k))::L1) (λ_=>[.row false 47 9 (Fp O)]) id (λk=>k<=O.length/\Mb Tr O c k=Mb Tr O c O.length) (Fp O).length ⟨by omega,by rw[hrl]⟩ rfl rfl λk ⟨hk,hp⟩=>?_
  have h7:=TS O;have h7z:∀y∈[YE c],y.length=9:=λy hy=>by rw[Qo.1 hy];rfl
  cases k with
  |
   zero =>
   have hp:Mb Tr O c O.length=0:=by rw[<-hp];rfl
   refine Ue [.g 15 false (by simp),.f rfl,.i 0,.x (Sw hc),.lo,.i 0,.s (sz:=9) (λy hy=>h7 y (Ql hy)),.s (sz:=9) (λy hy=>(Qr.1 hy).elim (h7z y) λhy=>h7 y (Ql hy))] rfl ?_;exact rd (i+1) (by omega) hlt (by rw[hst,<-WG hp];rfl)
  |
   succ k =>
   obtain⟨x,hx⟩:=gxE (l:=O) (i:=k) (by omega);have cb:=bV (k:=c.kind) (i0:=c.i0) (i1:=c.i1) (i2:=c.i2) (i3:=c.i3) (l:=x.kind) (j0:=x.i0) (j1:=x.i1) (j2:=x.i2) (j3:=x.i3);by_cases hlc:Tr c x=true
   ·refine Ue [.g 15 true (by simp),.x (Sw hc),.r 23 (eI (b:=(k:Int)) (by simp)),.i k,.x (Sw hx),.k cb,.t hlc,.r 30 (eI (b:=(k:Int)) (by simp))] rfl ?_;exact rd k (by simp) ⟨by omega,by rw[<-hp,WE hx hlc]⟩ rfl
   ·have hlc:Tr c x=false:=by simpa using hlc
    have hp:Mb Tr O c O.length=k+1:=by rw[<-hp,XT hx hlc]
    refine Ue [.g 15 true (by simp),.x (Sw hc),.r 23 (eI (b:=(k:Int)) (by simp)),.i k,.x (Sw hx),.k cb,.f hlc,.i (k+1),.x (Sw hc),.lo,.i (k+1),.s (sz:=9) (λy hy=>h7 y (Q5 (Ql hy))),.s (sz:=9) (λy hy=>(Qr.1 hy).elim (h7z y) λhy=>h7 y (Q5 (Ql hy)))] rfl ?_;exact rd (i+1) (by omega) hlt (by rw[hst,<-WG hp];rfl)
 ·obtain rfl:i=l.length:=by omega
  rw[Q7];exact Uh [] [0] [.F] rfl
theorem aE{a b u:Pt}{T:Ti}(ha:Sc a.c)(hb:Sc b.c)(hu:Sc u.c)(hq:RT T):Uj 348 [.oi 3,.agg (T.tl),.one (.row [Ht a,Ht b,Ht u])] [.agg (YE (P9 (T.sg) a b u)),.one (.bool true)]:=by
 have x0:[Ht a,Ht b,Ht u][0]? = some (Ht a):=rfl;have x1:[Ht a,Ht b,Ht u][1]? = some (Ht b):=rfl;have x2:[Ht a,Ht b,Ht u][2]? = some (Ht u):=rfl;have cf:=MI ha hb hu;have hsz:=XG ha hb hu;have cg:=hq.a hsz.dp;have e:YE (P9 (T.sg) a b u)=[.int .i64 3,.int .i64 a.id,.int .i64 b.id,.int .i64 u.id,.int .i64 0,rp (zp (Pq a.c b.c u.c)),.int .i64 (Gl T.sg (Pq a.c b.c u.c)),.row [],.bool false]:=by simp only[P9,YE]
 rw[e];generalize Pq a.c b.c u.c=F at *;refine Hz func348 rfl ?_;refine Ud [.g 14 false rfl,.g 18 false rfl,.x (l:=[[.int .i64 0],[.int .i64 2],[.int .i64 2],[.int .i64 3],[.int .i64 4],[.int .i64 4]]) (i:=3) (xs:=[.int .i64 3]) rfl,.f rfl] rfl ?_;refine Ui (S:=Nat) 3 (λL1 i=>(33,.v (.oi i))::L1) (λi=>[.blk 36 (T.tl),.blk 47 rzc,.blk 47 [.int .i64 3,.int .i64 (if 0<i then a.id else 0),.int .i64 (if 1<i then b.id else 0),.int .i64 (if 2<i then u.id else 0),.int .i64 0,.nils,.int .i64 0,.nils,.bool false]]) (λi=>3-i) (λi=>i<=3) 0 (by decide) rfl rfl λi hi=>?_
 rcases(show i=0\/i=1\/i=2\/i=3 by omega)with rfl|rfl|rfl|rfl
 ·exact go tt [.t rfl,.x x0,.i 0] rfl (by simp[Uw]) (rd 1 (by omega) (by omega) rfl)
 ·exact go tt [.t rfl,.x x1,.i 1] rfl (by simp[Uw]) (rd 2 (by omega) (by omega) rfl)
 ·exact go tt [.t rfl,.x x2,.i 2] rfl (by simp[Uw]) (rd 3 (by omega) (by omega) rfl)
 exact Uf [.f rfl,.f rfl,.f rfl,.t rfl,.x x0,.x x1,.x x2,.k cf,.k cg] rfl
theorem vP{a b u:Pt}{T:Ti}(ha:Sc a.c)(hb:Sc b.c)(hu:Sc u.c)(hq:RT T):Uj 263 [.oi 3,.agg (T.tl),.one (.row [Ht a,Ht b,Ht u])] [.agg (YE (P9 (T.sg) a b u))] :=
 Ug func263 rfl [.k (aE ha hb hu hq)] rfl
theorem MA{l:List Pt}{T:Ti}(hl:∀p∈l,Sc p.c)(hn:l.length≤1000)(hq:RT T):Ab prog 161 [.one (.row (Fl l)),.agg (T.tl)] [] [.one (.orow 0 9 none)] [.row false 47 9 (Fp (Ey T.sg l))]:=by
 have c1:=VV hl (by omega) hq;have hML:(Fg (Sk T.sg) l).length=l.length:=Gq _ _;have hMl:∀p∈Fg (Sk T.sg) l,Sc p.c:=λp hp=>hl p (Hd.1 hp)
 unfold Ey;obtain⟨M,hM⟩:=nmE (Fg (Sk T.sg) l);rw[<-hM]at c1 hML hMl ⊢;have hcl:=Gk M;have hrl:=JI (T.sg) M;have c2:=Qcs (l:=Ck (T.sg) M) (by omega);refine Hz func161 rfl ?_;refine Ud [.k c1,.o 6 47 9] rfl ?_;refine Ui (S:=Nat) 2 (λL1 i=>(7,.v (.oi i))::(6,.v (.one (.orow 1 9 none)))::L1) (λi=>[.blk 36 (T.tl),.row false 47 9 (Fp ((Ck (T.sg) M).take i))]) (λi=>M.length-i) (λi=>i<=M.length-1) 0 (Qg _) rfl rfl λi hi=>?_
 have htl:(Fp ((Ck (T.sg) M).take i)).length=i:=by rw[Rt,Qq];omega
 by_cases hlt:i+1<M.length
 ·obtain⟨a,ha⟩:=gxE (l:=M) (i:=i) (by omega);obtain⟨b,hb⟩:=gxE (l:=M) (i:=i+1) hlt;have hg:=HF (T.sg) ha hb;have hm:∀y∈[YE (Al (T.sg) a b)],y.length=9:=λy hy=>by rw[Qo.1 hy];rfl
  refine go tt [.T,.x (U4 ha),.x (U4 hb),.k (vS (hMl a (Qa ha)) (hMl b (Qa hb)) hq),.s (sz:=9) hm] rfl (by simp[Uw,htl];omega) ?_;exact rd (i+1) (by omega) (by omega) (by rw[hg];simp[Fp];rfl)
 ·have e:(Ck (T.sg) M).take i=Ck (T.sg) M:=Qn (by omega);rw[e];exact Uh [] [2] [.F,.p 1,.c [2] c2] rfl (by simp[Uw];omega)
def B5(sg:Um->Int)(l:List Pt)(e:Pt×Pt):List Ct:=(l.filter (GI e)).map λc=>P9 (sg) e.1 e.2 c
def Oz(sg:Um->Int)(l C:List Pt):List Ct:=if C.length<2 then []else(Pn C).flatMap (B5 sg l)
def VD(sg:Um->Int)(l:List Pt):List Ct:=Fg Tr (Ey sg l++Oz sg l (Oo sg l))
theorem RH{sg:Um->Int}{l:List Pt}(x:Pt×Pt):(B5 sg l x).length<=l.length:=by unfold B5;rw[List.length_map];exact List.length_filter_le _ _
theorem RA{sg:Um->Int}{l C:List Pt}(hn:l.length<=10)(hC:C.length<=11):(Oz sg l C).length<=110:=by
 unfold Oz
 split
 ·exact Qg _
 ·have h1:=RN (f:=B5 sg l) RH (Pn C);rw[RR]at h1;have h2:C.length*l.length<=11*10:=Zs hC hn;omega
theorem VL(sg:Um->Int)(l:List Pt):(Ey sg l).length<=l.length:=by
 unfold Ey;rw[Gq];have:=JI (sg) (Fg (Sk sg) l);rw[Gq]at this;omega
theorem pN(sg:Um->Int){l:List Pt}(hn:l.length<=10):(VD sg l).length<=1000000:=by
 unfold VD;have h1:=VL sg l;have h2:=RA (sg:=sg) (C:=Oo sg l) hn (Qc (JJ sg l).2 (by omega));rw[Gq,Q3];omega
set_option maxHeartbeats 4000000 in
theorem LX{l:List Pt}{T:Ti}(hl:∀p∈l,Sc p.c)(hn:l.length≤10)(hq:RT T):Uj 163 [.one (.row (Fl l)),.agg (T.tl)] [.one (.row (Fp (VD T.sg l)))]:=by
 have c1:=MA hl (by omega) hq;have c2:=vF hl (by omega) hq;obtain⟨hCm,hCl⟩:=JJ T.sg l;have hrl:=VL T.sg l;have hhl:=RA (sg:=T.sg) (C:=Oo T.sg l) hn (by omega);unfold VD;obtain⟨C,hC⟩:=nmE (Oo T.sg l);obtain⟨cs0,hc0⟩:=nmE (Ey T.sg l);rw[<-hC]at c2 hCm hCl hhl ⊢;rw[<-hc0]at c1 hrl ⊢;have c9:=KA (l:=cs0++Oz T.sg l C) (by rw[Q3];omega);have hcp:=Gk C;have hlp:=Gk l;refine Hz func163 rfl ?_;refine Ud [.c [1] c1,.k c2] rfl ?_;by_cases h2:C.length<2
 ·have e:Oz T.sg l C=[]:=if_pos h2;rw[e,Xi]at c9 ⊢;refine Ui (S:=Unit) 2 (λL1 _=>(7,.v (.oi 0))::(5,.v (.one (.orow 1 9 none)))::L1) (λ_=>[.blk 36 (T.tl),.row false 47 9 (Fp cs0)]) (λ_=>0) (λ_=>True) () trivial rfl rfl λ_ _=>?_
  by_cases h0:C.length=0
  ·exact Uf [.g 21 false Uk,.f rfl,.k c9] rfl rfl (by simp[Uw] <;> omega)
  ·exact Uf [.g 21 true Ul,.F,.k c9] rfl rfl (by simp[Uw] <;> omega)
 have e:Oz T.sg l C=(Pn C).flatMap (B5 T.sg l):=if_neg h2;rw[e]at c9 ⊢;refine sb [(7,.v (.oi 0)),(6,.v (.one (.row (Fl C)))),(5,.v (.one (.orow 1 9 none))),(3,.v (.one (.ow 0 0))),(0,.v (.one (.row (Fl l))))] [.blk 36 (T.tl),.row false 47 9 (Fp cs0)] rfl rfl ?_;rw[show Fp cs0=Fp (cs0++((Pn C).take 0).flatMap (B5 T.sg l)) by simp];refine Ui (S:=Nat) 2 (λL1 i=>(7,.v (.oi i))::(5,.v (.one (.orow 1 9 none)))::L1) (λi=>[.blk 36 (T.tl),.row false 47 9 (Fp (cs0++((Pn C).take i).flatMap (B5 T.sg l)))]) (λi=>C.length-i) (λi=>i<=C.length) 0 (Qg _) rfl rfl λi hi=>?_
 by_cases hlt:i<C.length
 ·obtain⟨x,hx⟩:=gxE (l:=C) (i:=i) hlt;obtain⟨y,hy⟩:=gxE (l:=C) (i:=(i+1) % C.length) (Xe _ (by omega));have he:=kT hx hy;have sx:=hl x (hCm x (Qa hx));have sy:=hl y (hCm y (Qa hy));have hflat:=DN (f:=B5 T.sg l) he;obtain⟨F,hF⟩:=nmE (cs0++((Pn C).take i).flatMap (B5 T.sg l));have hFl:F.length<=10+20*10:=by
   have h1:=RN (f:=B5 T.sg l) RH ((Pn C).take i);have h2:((Pn C).take i).length*l.length<=20*10:=Zs (by rw[Qq];omega) hn;rw[hF,Q3];omega
  have hmod:(((i+1:Nat):Int)).tmod ((Fl C).length:Int)=(((i+1) % C.length:Nat):Int):=by rw[hcp];exact(Int.ofNat_tmod _ _).symm
  have hm0:=Vj ((i+1:Nat):Int) (show(C.length:Int)≠0 by omega);have hm1:=Y0 ((i+1:Nat):Int) (show(0:Int)<C.length by omega);have hnext:cs0++((Pn C).take (i+1)).flatMap (B5 T.sg l)=F++(l.filter (GI (x,y))).map λc=>P9 (T.sg) x y c:=by rw[hflat,<-Zk,<-hF];rfl
  rw[<-hF];refine go tt [.g 21 true Ul,.T,.x (U4 hx),.r 34 (eI (b:=((i+1:Nat):Int)) (by simp)),.r 37 (eI (b:=(((i+1) % C.length:Nat):Int)) hmod),.x (U4 hy)] rfl (by simp only[Uw];omega) ?_;rw[show Fp F=Fp (F++((l.take 0).filter (GI (x,y))).map λc=>P9 (T.sg) x y c) by simp];refine Ui (S:=Nat) 4 (λL1 k=>(42,.v (.oi k))::(5,.v (.one (.orow 1 9 none)))::L1) (λk=>[.blk 36 (T.tl),.row false 47 9 (Fp (F++((l.take k).filter (GI (x,y))).map λc=>P9 (T.sg) x y c)),.blk 135 (Ht x),.blk 135 (Ht y)]) (λk=>l.length-k) (λk=>k<=l.length) 0 (Qg _) rfl rfl λk hk=>?_
  by_cases hlk:k<l.length
  ·obtain⟨z,hz⟩:=gxE (l:=l) (i:=k) hlk;have sz:=hl z (Qa hz);have hflt:=HN (f:=λc=>P9 (T.sg) x y c) (p:=GI (x,y)) hz;obtain⟨G,hG⟩:=nmE (((l.take k).filter (GI (x,y))).map λc=>P9 (T.sg) x y c);have hGl:G.length<=10:=by
    have h1:=Jk (GI (x,y)) (l.take k);rw[Qq]at h1;rw[hG,Q8];omega
   have hrF:=Rt (F++G);rw[Q3]at hrF;rw[<-hG]at hflt ⊢;by_cases h1:z.id=x.id
   ·rw[if_neg (show ¬GI (x,y) z=true by simp[GI,h1]),Xi]at hflt;refine go tt [.T,.x (U4 hz),.g 53 false (decide_eq_false (by simp[h1])),.f rfl] rfl (by simp[Uw] <;> omega) ?_;exact rd (k+1) (by omega) hlk (by rw[hflt];rfl)
   ·by_cases h2:z.id=y.id
    ·rw[if_neg (show ¬GI (x,y) z=true by simp[GI,h2]),Xi]at hflt;refine go tt [.T,.x (U4 hz),.g 53 true (decide_eq_true h1),.x (U4 hz),.f (decide_eq_false (by simp[h2]))] rfl (by simp[Uw] <;> omega) ?_;exact rd (k+1) (by omega) hlk (by rw[hflt];rfl)
    ·rw[if_pos (show GI (x,y) z=true by simp[GI,h1,h2])]at hflt;have hm:∀v∈[YE (P9 (T.sg) x y z)],v.length=9:=λv hv=>by rw[Qo.1 hv];rfl
     refine go tt [.T,.x (U4 hz),.g 53 true (decide_eq_true h1),.x (U4 hz),.t (decide_eq_true h2),.x (U4 hz),.k (vP sx sy sz hq),.s (sz:=9) hm] rfl (by simp[Uw,hrF] <;> omega) ?_;have e3:Fp (F++(G++[P9 (T.sg) x y z]))=Fp (F++G)++[YE (P9 (T.sg) x y z)]:=by simp[Fp]
     exact rd (k+1) (by omega) hlk (by rw[hflt,e3];rfl)
  ·obtain rfl:k=l.length:=by omega
   rw[Q7,<-hnext];refine go tt [.F] rfl (by simp[Uw] <;> omega) ?_;exact rd (i+1) (by omega) hlt rfl
 ·obtain rfl:i=C.length:=by omega
  rw[Qn (by rw[RR];exact Qj _)];exact Uf [.g 21 false Uk,.f rfl,.k c9] rfl rfl (by simp[Uw] <;> omega)
def YN(k:Crv):Un:=[U9 k.x [k.d],U9 k.y [k.d],S6 (U9 k.x k.x) (U9 k.y k.y),U9 [k.d] [k.d]]
def Av(a b c d:Crv):List Un:=[YN a,YN b,YN c,YN d]
def YM(a b c d:Crv):Um:=By 4 (Av a b c d)
theorem kQ{k:Crv}(hk:Rs k):(∀p∈YN k,Bd 300000 p)/\∀(j:Nat) (p:Um),(YN k)[j]? = some p->p.length≤[15,15,30,0].getD j 0+1:=by
 have nV:Bd 100000 [k.d]:=Qbe hk.c.d;have l1:=Re k.x [k.d];have l2:=Re k.y [k.d];have l3:=Re k.x k.x;have l4:=Re k.y k.y;have l5:=Re [k.d] [k.d];have l6:=El (U9 k.x k.x) (U9 k.y k.y);have hx:=hk.c.lx;have hy:=hk.c.ly;have e1:[k.d].length=1:=rfl;have m1:Bd 200005 (U9 k.x [k.d]):=Tc (u:=5) hk.c.x nV (by omega);have m2:Bd 200005 (U9 k.y [k.d]):=Tc (u:=5) hk.c.y nV (by omega);have m3:Bd 200005 (U9 k.x k.x):=Tc (u:=5) hk.c.x hk.c.x (by omega);have m4:Bd 200005 (U9 k.y k.y):=Tc (u:=5) hk.c.y hk.c.y (by omega);have m5:Bd 200005 (U9 [k.d] [k.d]):=Tc (u:=5) nV nV (by omega);refine⟨λp hp=>?_,λj p hp=>?_⟩
 ·simp only[YN,Qt,Yx,or_false]at hp;rcases hp with rfl|rfl|rfl|rfl
  ·exact Uv m1 (by decide)
  ·exact Uv m2 (by decide)
  ·exact Uv (Od m3 m4) (by decide)
  ·exact Uv m5 (by decide)
 ·match j,hp with
  | 0,hp=>injection hp with hp;subst hp;show _<=16;omega
  | 1,hp=>injection hp with hp;subst hp;show _<=16;omega
  | 2,hp=>injection hp with hp;subst hp;show _<=31;omega
  | 3,hp=>injection hp with hp;subst hp;show _<=1;omega
  |j+4,hp=>simp[YN]at hp
theorem iW{a b c d:Crv}(ha:Rs a)(hb:Rs b)(hc:Rs c)(hd:Rs d):SqR 300000 [15,15,30,0] (Av a b c d):=by
 have hr:∀r∈Av a b c d,∃k:Crv,Rs k/\r=YN k:=λr hr=>by
  simp only[Av,Qt,Yx,or_false]at hr;rcases hr with rfl|rfl|rfl|rfl
  ·exact⟨a,ha,rfl⟩
  ·exact⟨b,hb,rfl⟩
  ·exact⟨c,hc,rfl⟩
  ·exact⟨d,hd,rfl⟩
 refine⟨rfl,λr h=>?_,λr h=>?_,λr h=>?_⟩
 all_goals obtain⟨k,hk,rfl⟩:=hr r h
 ·rfl
 ·exact(kQ hk).1
 ·exact(kQ hk).2
theorem Qi5{a b c d:Crv}(ha:Rs a)(hb:Rs b)(hc:Rs c)(hd:Rs d):Uj 177 [.agg (P5 a),.agg (P5 b),.agg (P5 c),.agg (P5 d)] [.one (rp (zp (YM a b c d)))]:=by
 have cd:=rL (by decide) 4 [15,15,30,0] (Av a b c d) (by decide) rfl (by decide) (iW ha hb hc hd);have x0:[P5 a,P5 b,P5 c,P5 d][0]? = some (P5 a):=rfl;have x1:[P5 a,P5 b,P5 c,P5 d][1]? = some (P5 b):=rfl;have x2:[P5 a,P5 b,P5 c,P5 d][2]? = some (P5 c):=rfl;have x3:[P5 a,P5 b,P5 c,P5 d][3]? = some (P5 d):=rfl;have hs1:∀k:Crv,∀y∈[[LV.row (zrw (YN k))]],y.length=1:=λk y hy=>by rw[Qo.1 hy];rfl
 have nV:∀{k:Crv},Rs k->Bd 100000 [k.d]:=λhk=>Qbe hk.c.d
 have q1:=λ{k:Crv} (hk:Rs k)=>Au (p:=k.x) (q:=k.x) (by have:=hk.c.lx;omega) (by have:=hk.c.lx;omega) hk.c.x hk.c.x (by decide)
 have q2:=λ{k:Crv} (hk:Rs k)=>Au (p:=k.y) (q:=k.y) (by have:=hk.c.ly;omega) (by have:=hk.c.ly;omega) hk.c.y hk.c.y (by decide)
 have q3:=λ{k:Crv} (hk:Rs k)=>Au (p:=k.x) (q:=[k.d]) (by have:=hk.c.lx;omega) (by show 1<=1000000;decide) hk.c.x (nV hk) (by decide)
 have q4:=λ{k:Crv} (hk:Rs k)=>Au (p:=k.y) (q:=[k.d]) (by have:=hk.c.ly;omega) (by show 1<=1000000;decide) hk.c.y (nV hk) (by decide)
 have q5:=λ{k:Crv} (hk:Rs k)=>Au (p:=[k.d]) (q:=[k.d]) (by show 1<=1000000;decide) (by show 1<=1000000;decide) (nV hk) (nV hk) (by decide)
 have q6:=λ{k:Crv} (hk:Rs k)=>SL (p:=U9 k.x k.x) (q:=U9 k.y k.y) (Uv (Tc (u:=5) hk.c.x hk.c.x (by have:=hk.c.lx;omega)) (by decide)) (Uv (Tc (u:=5) hk.c.y hk.c.y (by have:=hk.c.ly;omega)) (by decide)) (by have:=Re k.x k.x;have:=hk.c.lx;omega) (by have:=Re k.y k.y;have:=hk.c.ly;omega)
 refine Hz func177 rfl ?_;refine Ud [.o 9 29 1] rfl ?_;refine Ui (S:=Nat) 5 (λL1 i=>(22,.v (.oi i))::(9,.v (.one (.orow 4 1 none)))::L1) (λi=>[.blk 133 (P5 a),.blk 133 (P5 b),.blk 133 (P5 c),.blk 133 (P5 d),.row false 29 1 (OE ((Av a b c d).take i))]) (λi=>4-i) (λi=>i<=4) 0 (by decide) rfl rfl λi hi=>?_
 rcases(show i=0\/i=1\/i=2\/i=3\/i=4 by omega)with rfl|rfl|rfl|rfl|rfl
 ·exact go tt [.t rfl,.x x0,.k (Nt ha),.k (q1 ha),.k (q2 ha),.k (q6 ha),.k (q3 ha),.k (q4 ha),.k (q5 ha),.s (sz:=1) (hs1 a)] rfl (by simp[Uw,OE,Av]) (rd 1 (by omega) (by omega) rfl)
 ·exact go tt [.t rfl,.x x1,.k (Nt hb),.k (q1 hb),.k (q2 hb),.k (q6 hb),.k (q3 hb),.k (q4 hb),.k (q5 hb),.s (sz:=1) (hs1 b)] rfl (by simp[Uw,OE,Av]) (rd 2 (by omega) (by omega) rfl)
 ·exact go tt [.t rfl,.x x2,.k (Nt hc),.k (q1 hc),.k (q2 hc),.k (q6 hc),.k (q3 hc),.k (q4 hc),.k (q5 hc),.s (sz:=1) (hs1 c)] rfl (by simp[Uw,OE,Av]) (rd 3 (by omega) (by omega) rfl)
 ·exact go tt [.t rfl,.x x3,.k (Nt hd),.k (q1 hd),.k (q2 hd),.k (q6 hd),.k (q3 hd),.k (q4 hd),.k (q5 hd),.s (sz:=1) (hs1 d)] rfl (by simp[Uw,OE,Av]) (rd 4 (by omega) (by omega) rfl)
 ·exact Uf [.f rfl,.k cd] rfl
def A3(sg:Um->Int)(a b c d:Pt):Ct:=⟨4,a.id,b.id,c.id,d.id,YM a.c b.c c.c d.c,Gl sg (YM a.c b.c c.c d.c)⟩
variable(sg:Um->Int)
def cK(W:List Pt)(x y z:Pt)(k n:Nat):List Ct:=P9 sg x y z::((W.drop (k+1)).take n).map (A3 sg x y z)
def cJ(W:List Pt)(x y:Pt)(j:Nat):Nat->List Ct
 | 0=>[]
 |n+1=>cJ W x y j n++match W[j+1+n]? with|none=>[]|some z=>cK sg W x y z (j+1+n) (W.length-(j+1+n)-1)
def cI(W:List Pt)(x:Pt)(i:Nat):Nat->List Ct
 | 0=>[]
 |n+1=>cI W x i n++match W[i+1+n]? with|none=>[]|some y=>cJ sg W x y (i+1+n) (W.length-(i+1+n)-1)
def cW(W:List Pt):Nat->List Ct
 | 0=>[]
 |n+1=>cW W n++match W[n]? with|none=>[]|some x=>cI sg W x n (W.length-n-1)
variable{sg:Um->Int}
theorem Qbi{W:List Pt}{x y z:Pt}{k n:Nat}(h:n<=5):(cK sg W x y z k n).length<=6:=by
 unfold cK;rw[Zc,Q8,Qq];omega
theorem Qir{W:List Pt}{x y z v:Pt}{k n:Nat}(h:W[k+1+n]? = some v):cK sg W x y z k (n+1)=cK sg W x y z k n++[A3 sg x y z v]:=by
 unfold cK;rw[Xv,Xb,h];simp
theorem Qiq{W:List Pt}{x y z:Pt}{j n:Nat}(h:W[j+1+n]? = some z):cJ sg W x y j (n+1)=cJ sg W x y j n++cK sg W x y z (j+1+n) (W.length-(j+1+n)-1):=by
 show cJ sg W x y j n++(match W[j+1+n]? with|none=>[]|some z=>cK sg W x y z (j+1+n) (W.length-(j+1+n)-1))=_;rw[h]
theorem Qip{W:List Pt}{x y:Pt}{i n:Nat}(h:W[i+1+n]? = some y):cI sg W x i (n+1)=cI sg W x i n++cJ sg W x y (i+1+n) (W.length-(i+1+n)-1):=by
 show cI sg W x i n++(match W[i+1+n]? with|none=>[]|some y=>cJ sg W x y (i+1+n) (W.length-(i+1+n)-1))=_;rw[h]
theorem Qis{W:List Pt}{x:Pt}{n:Nat}(h:W[n]? = some x):cW sg W (n+1)=cW sg W n++cI sg W x n (W.length-n-1):=by
 show cW sg W n++(match W[n]? with|none=>[]|some x=>cI sg W x n (W.length-n-1))=_;rw[h]
theorem hQ{W:List Pt}{x y:Pt}{j:Nat}(hW:W.length<=6):∀n,(cJ sg W x y j n).length<=n*6
 | 0=>Qj _
 |
  n+1=>by
  have ih:=hQ (x:=x) (y:=y) (j:=j) hW n;unfold cJ;rw[Q3];cases h:W[j+1+n]? with
  |none=>show _+0<=_;omega
  |
   some z =>
   have hk:=Qbi (sg:=sg) (W:=W) (x:=x) (y:=y) (z:=z) (k:=j+1+n) (n:=W.length-(j+1+n)-1) (by omega);dsimp only;omega
theorem gI{W:List Pt}{x:Pt}{i:Nat}(hW:W.length<=6):∀n,(cI sg W x i n).length<=n*36
 | 0=>Qj _
 |
  n+1=>by
  have ih:=gI (x:=x) (i:=i) hW n;unfold cI;rw[Q3];cases h:W[i+1+n]? with
  |none=>show _+0<=_;omega
  |
   some y =>
   have hk:=hQ (sg:=sg) (x:=x) (y:=y) (j:=i+1+n) hW (W.length-(i+1+n)-1);dsimp only;omega
theorem qZ{W:List Pt}(hW:W.length<=6):∀n,(cW sg W n).length<=n*216
 | 0=>Qj _
 |
  n+1=>by
  have ih:=qZ hW n;unfold cW;rw[Q3];cases h:W[n]? with
  |none=>show _+0<=_;omega
  |
   some x =>
   have hk:=gI (sg:=sg) (x:=x) (i:=n) hW (W.length-n-1);dsimp only;omega
end Orr
namespace Orq
open Orr Go
def QH(a:Crv):Un:=[Fc a.x a.d,Fc a.y a.d,S6 (U9 a.x a.x) (U9 a.y a.y),[a.d*a.d]]
def kZ(a b c d:Crv):List Un:=[QH a,QH b,QH c,QH d]
def An(a b c d:Crv):Um:=M9 4 (kZ a b c d)
theorem WC{s:Nat}{k:Crv}(hn:gZ k)(hc:Cs s 3 k):(∀p∈QH k,Uz p/\Bd (s+s+3) p)/\∀(j:Nat) (p:Um),(QH k)[j]? = some p->p.length≤[2,2,4,0].getD j 0+1:=by
 have l1:=Ft k.x k.d;have l2:=Ft k.y k.d;have l3:=Re k.x k.x;have l4:=Re k.y k.y;have l5:=El (U9 k.x k.x) (U9 k.y k.y);have kx:=hc.lx;have ky:=hc.ly;have bx:Bd (s+s+2) (U9 k.x k.x):=Tc hc.x hc.x (by omega);have by_:Bd (s+s+2) (U9 k.y k.y):=Tc hc.y hc.y (by omega);have hd:=hn.2.2.1;have hd0:k.d*k.d≠0:=λe=>by rcases Jy.1 e with e|e <;> omega
 have td:Uz [k.d*k.d]:=by unfold Uz;simp[trim,hd0]
 refine⟨λp hp=>?_,λj p hp=>?_⟩
 ·simp only[QH,Qt,Yx,or_false]at hp;rcases hp with rfl|rfl|rfl|rfl
  ·exact⟨U7 _ _,Uv (Fw hc.x hc.d) (by omega)⟩
  ·exact⟨U7 _ _,Uv (Fw hc.y hc.d) (by omega)⟩
  ·exact⟨U7 _ _,Uv (Od bx by_) (by omega)⟩
  ·refine⟨td,λz hz=>?_⟩;rw[Qo.1 hz];have:=Ga k.d k.d;have:=hc.d;omega
 ·match j,hp with
  | 0,hp=>injection hp with hp;subst hp;show _<=3;omega
  | 1,hp=>injection hp with hp;subst hp;show _<=3;omega
  | 2,hp=>injection hp with hp;subst hp;show _<=5;omega
  | 3,hp=>injection hp with hp;subst hp;exact Qj _
  |j+4,hp=>simp[QH]at hp
theorem fY{s:Nat}{a b c d:Crv}(na:gZ a)(nb:gZ b)(nc:gZ c)(nd:gZ d)(ca:Cs s 3 a)(cb:Cs s 3 b)(cc:Cs s 3 c)(cd:Cs s 3 d):Sq (s+s+3) [2,2,4,0] 4 4 (kZ a b c d):=by
 have hr:∀r∈kZ a b c d,∃k:Crv,gZ k/\Cs s 3 k/\r=QH k:=λr hr=>by
  simp only[kZ,Qt,Yx,or_false]at hr;rcases hr with rfl|rfl|rfl|rfl
  ·exact⟨a,na,ca,rfl⟩
  ·exact⟨b,nb,cb,rfl⟩
  ·exact⟨c,nc,cc,rfl⟩
  ·exact⟨d,nd,cd,rfl⟩
 refine⟨rfl,λr h=>?_,λr h p hp=>?_,λr h p hp=>?_,λr h j p hp=>?_⟩
 all_goals obtain⟨k,kn,kc,rfl⟩:=hr r h
 ·rfl
 ·exact((WC kn kc).1 p hp).1
 ·exact((WC kn kc).1 p hp).2
 ·exact(WC kn kc).2 j p hp
theorem bL{a b c d:Crv}(ha:Sc a)(hb:Sc b)(hc:Sc c)(hd:Sc d):Cp (An a b c d):=by
 obtain⟨h1,h2,h3⟩:=PT 4 [2,2,4,0] (kZ a b c d) (by decide) rfl (by decide) (fY ha.n hb.n hc.n hd.n ha.c hb.c hc.c hd.c);exact⟨h1,Qc h3 (by decide),Uv h2 (by decide)⟩
abbrev P3:=Pt×(Pt×Pt)
abbrev P4:=Pt×P3
def Ib:Nat->List Pt->List P3
 | 0,_=>[]
 |_+1,[]=>[]
 |k+1,x::l=>(Hi l).map (λm=>(x,m))++Ib k l
def Lo(l:List Pt):List P3:=Ib l.length l
def Qsw:Nat->List Pt->List P4
 | 0,_=>[]
 |_+1,[]=>[]
 |k+1,x::l=>(Lo l).map (λm=>(x,m))++Qsw k l
def Qsx(l:List Pt):List P4:=Qsw l.length l
theorem YJ:∀(l:List Pt) (i:Nat) (x:Pt),l[i]? = some x->Ib (i+1) l=Ib i l++(Hi (l.drop (i+1))).map (λm=>(x,m))
 | [],i,x,h=>by simp at h
 |y::l,0,x,h=>by simp at h;subst h;simp[Ib]
 |
  y::l,i+1,x,h=>by
  have ih:=YJ l i x (by simpa using h);show(Hi l).map _++Ib (i+1) l=((Hi l).map _++Ib i l)++_;rw[ih,Zk];rfl
theorem eP{l:List Pt}(h:l.length<=6):(Lo l).length<=20/\(Qsx l).length<=15:=by
 match l,h with
 | [],_=>exact⟨Zf rfl,Zf rfl⟩
 | [_],_=>exact⟨Zf rfl,Zf rfl⟩
 | [_,_],_=>exact⟨Zf rfl,Zf rfl⟩
 | [_,_,_],_=>exact⟨Zf rfl,Zf rfl⟩
 | [_,_,_,_],_=>exact⟨Zf rfl,Zf rfl⟩
 | [_,_,_,_,_],_=>exact⟨Zf rfl,Zf rfl⟩
 | [_,_,_,_,_,_],_=>exact⟨Zf rfl,Zf rfl⟩
 |_::_::_::_::_::_::_::_,h=>simp at h
theorem JP{x s:Int}(hx:-1<=x/\x<=1)(hs:-1<=s/\s<=1):-9223372036854775808<=x*s/\x*s<=9223372036854775807:=by
 have h:x=-1\/x=0\/x=1:=by omega
 rcases h with rfl|rfl|rfl <;> omega
end Orq
namespace Orr
open Go Go.Proofs Tryz Orq
def D3(b2 b3 b4 c2 c3 c4 d2 d3 d4:Rat):Rat:=b2*(c3*d4-d3*c4)-c2*(b3*d4-d3*b4)+d2*(b3*c4-c3*b4)
def D4(a1 a2 a3 a4 b1 b2 b3 b4 c1 c2 c3 c4 d1 d2 d3 d4:Rat):Rat:=a1*D3 b2 b3 b4 c2 c3 c4 d2 d3 d4-b1*D3 a2 a3 a4 c2 c3 c4 d2 d3 d4+c1*D3 a2 a3 a4 b2 b3 b4 d2 d3 d4-d1*D3 a2 a3 a4 b2 b3 b4 c2 c3 c4
theorem Qfq(a1 a2 a3 a4 b1 b2 b3 b4 c1 c2 c3 c4 d1 d2 d3 d4:Um)(q:Rat):Ux (M9 4 [[a1,a2,a3,a4],[b1,b2,b3,b4],[c1,c2,c3,c4],[d1,d2,d3,d4]]) q=D4 (Ux a1 q) (Ux a2 q) (Ux a3 q) (Ux a4 q) (Ux b1 q) (Ux b2 q) (Ux b3 q) (Ux b4 q) (Ux c1 q) (Ux c2 q) (Ux c3 q) (Ux c4 q) (Ux d1 q) (Ux d2 q) (Ux d3 q) (Ux d4 q):=by
 show Ux (Bs (λi=>M9 3 (XJ [[a1,a2,a3,a4],[b1,b2,b3,b4],[c1,c2,c3,c4],[d1,d2,d3,d4]] i)) [[a1,a2,a3,a4],[b1,b2,b3,b4],[c1,c2,c3,c4],[d1,d2,d3,d4]] (0+1+1+1+1)) q=_;rw[Nh,Nh,Nh,Nh];show(0:Rat)+1*(Ux a1 q*Ux (M9 3 [[b2,b3,b4],[c2,c3,c4],[d2,d3,d4]]) q)+(-1)*(Ux b1 q*Ux (M9 3 [[a2,a3,a4],[c2,c3,c4],[d2,d3,d4]]) q)+1*(Ux c1 q*Ux (M9 3 [[a2,a3,a4],[b2,b3,b4],[d2,d3,d4]]) q)+(-1)*(Ux d1 q*Ux (M9 3 [[a2,a3,a4],[b2,b3,b4],[c2,c3,c4]]) q)=_;rw[XH,XH,XH,XH];unfold D4 D3;grind
theorem Qp2(a1 a2 a3 a4 b1 b2 b3 b4 c1 c2 c3 c4 d1 d2 d3 d4:Um)(q:Rat):Ux (By 4 [[a1,a2,a3,a4],[b1,b2,b3,b4],[c1,c2,c3,c4],[d1,d2,d3,d4]]) q=D4 (Ux a1 q) (Ux a2 q) (Ux a3 q) (Ux a4 q) (Ux b1 q) (Ux b2 q) (Ux b3 q) (Ux b4 q) (Ux c1 q) (Ux c2 q) (Ux c3 q) (Ux c4 q) (Ux d1 q) (Ux d2 q) (Ux d3 q) (Ux d4 q):=by
 show Ux (S6 (S6 (S6 (S6 [] (A8 0 (U9 a1 (By 3 [[b2,b3,b4],[c2,c3,c4],[d2,d3,d4]])))) (A8 1 (U9 a2 (By 3 [[b1,b3,b4],[c1,c3,c4],[d1,d3,d4]])))) (A8 2 (U9 a3 (By 3 [[b1,b2,b4],[c1,c2,c4],[d1,d2,d4]])))) (A8 3 (U9 a4 (By 3 [[b1,b2,b3],[c1,c2,c3],[d1,d2,d3]])))) q=_;have k3:∀p:Um,Ux (A8 3 p) q=-Ux p q:=λp=>I1 p q
 rw[Pz,Pz,Pz,Pz,JD,HQ,IR,k3,U6,U6,U6,U6,CU,CU,CU,CU];show(0:Rat)+_+_+_+_=_;unfold D4 D3;grind
theorem iY(a b c d:Crv):Uz (An a b c d):=FC 4
theorem Qfp(a b c d:Crv)(q:Rat):Ux (An a b c d) q=D4 (Ux (Fc a.x a.d) q) (Ux (Fc a.y a.d) q) (Ux (S6 (U9 a.x a.x) (U9 a.y a.y)) q) (Ux [a.d*a.d] q) (Ux (Fc b.x b.d) q) (Ux (Fc b.y b.d) q) (Ux (S6 (U9 b.x b.x) (U9 b.y b.y)) q) (Ux [b.d*b.d] q) (Ux (Fc c.x c.d) q) (Ux (Fc c.y c.d) q) (Ux (S6 (U9 c.x c.x) (U9 c.y c.y)) q) (Ux [c.d*c.d] q) (Ux (Fc d.x d.d) q) (Ux (Fc d.y d.d) q) (Ux (S6 (U9 d.x d.x) (U9 d.y d.y)) q) (Ux [d.d*d.d] q):=Qfq ..
theorem Qc6(a b c d:Crv):YM a b c d=An a b c d:=by
 refine Ao (U7 _ _) (iY ..) λq=>?_
 rw[Qfp];show Ux (By 4 [[U9 a.x [a.d],U9 a.y [a.d],S6 (U9 a.x a.x) (U9 a.y a.y),U9 [a.d] [a.d]],[U9 b.x [b.d],U9 b.y [b.d],S6 (U9 b.x b.x) (U9 b.y b.y),U9 [b.d] [b.d]],[U9 c.x [c.d],U9 c.y [c.d],S6 (U9 c.x c.x) (U9 c.y c.y),U9 [c.d] [c.d]],[U9 d.x [d.d],U9 d.y [d.d],S6 (U9 d.x d.x) (U9 d.y d.y),U9 [d.d] [d.d]]]) q=_;have e1:∀(p:Um) (z:Int),Ux (U9 p [z]) q=Ux (Fc p z) q:=λp z=>by rw[U6,Tj,lF]
 have e2:∀z:Int,Ux (U9 [z] [z]) q=Ux [z*z] q:=λz=>by rw[U6,lF,lF];push_cast;rfl
 rw[Qp2];rw[e2 a.d,e2 b.d,e2 c.d,e2 d.d];simp only[e1]
end Orr
namespace Orr
open Go Go.Proofs Tryz Orq
set_option maxRecDepth 10000
theorem Qcp{a b c d:Crv}(ha:Sc a)(hb:Sc b)(hc:Sc c)(hd:Sc d):Uj 177 [.agg (P5 a),.agg (P5 b),.agg (P5 c),.agg (P5 d)] [.one (rp (zp (YM a b c d)))]:=Qi5 ha.rs hb.rs hc.rs hd.rs
theorem ER{a b c d:Crv}(ha:Sc a)(hb:Sc b)(hc:Sc c)(hd:Sc d):Cp (YM a b c d):=by
 rw[Qc6];exact bL ha hb hc hd
theorem aA{a b u v:Pt}{T:Ti}(ha:Sc a.c)(hb:Sc b.c)(hu:Sc u.c)(hv:Sc v.c)(hq:RT T):Uj 348 [.oi 4,.agg (T.tl),.one (.row [Ht a,Ht b,Ht u,Ht v])] [.agg (YE (A3 (T.sg) a b u v)),.one (.bool true)]:=by
 have x0:[Ht a,Ht b,Ht u,Ht v][0]? = some (Ht a):=rfl;have x1:[Ht a,Ht b,Ht u,Ht v][1]? = some (Ht b):=rfl;have x2:[Ht a,Ht b,Ht u,Ht v][2]? = some (Ht u):=rfl;have x3:[Ht a,Ht b,Ht u,Ht v][3]? = some (Ht v):=rfl;have cf:=Qcp ha hb hu hv;have hsz:=ER ha hb hu hv;have cg:=hq.a hsz.dp;have e:YE (A3 (T.sg) a b u v)=[.int .i64 4,.int .i64 a.id,.int .i64 b.id,.int .i64 u.id,.int .i64 v.id,rp (zp (YM a.c b.c u.c v.c)),.int .i64 (Gl T.sg (YM a.c b.c u.c v.c)),.row [],.bool false]:=by simp only[A3,YE]
 rw[e];generalize YM a.c b.c u.c v.c=F at *;refine Hz func348 rfl ?_;refine Ud [.g 14 false rfl,.g 18 false rfl,.x (l:=[[.int .i64 0],[.int .i64 2],[.int .i64 2],[.int .i64 3],[.int .i64 4],[.int .i64 4]]) (i:=4) (xs:=[.int .i64 4]) rfl,.f rfl] rfl ?_;refine Ui (S:=Nat) 3 (λL1 i=>(33,.v (.oi i))::L1) (λi=>[.blk 36 (T.tl),.blk 47 rzc,.blk 47 [.int .i64 4,.int .i64 (if 0<i then a.id else 0),.int .i64 (if 1<i then b.id else 0),.int .i64 (if 2<i then u.id else 0),.int .i64 (if 3<i then v.id else 0),.nils,.int .i64 0,.nils,.bool false]]) (λi=>4-i) (λi=>i<=4) 0 (by decide) rfl rfl λi hi=>?_
 rcases(show i=0\/i=1\/i=2\/i=3\/i=4 by omega)with rfl|rfl|rfl|rfl|rfl
 ·exact go tt [.t rfl,.x x0,.i 0] rfl (by simp[Uw]) (rd 1 (by omega) (by omega) rfl)
 ·exact go tt [.t rfl,.x x1,.i 1] rfl (by simp[Uw]) (rd 2 (by omega) (by omega) rfl)
 ·exact go tt [.t rfl,.x x2,.i 2] rfl (by simp[Uw]) (rd 3 (by omega) (by omega) rfl)
 ·exact go tt [.t rfl,.x x3,.i 3] rfl (by simp[Uw]) (rd 4 (by omega) (by omega) rfl)
 exact Uf [.f rfl,.f rfl,.f rfl,.f rfl,.t rfl,.x x0,.x x1,.x x2,.x x3,.k cf,.k cg] rfl
theorem Qcu{a b u v:Pt}{T:Ti}(ha:Sc a.c)(hb:Sc b.c)(hu:Sc u.c)(hv:Sc v.c)(hq:RT T):Uj 263 [.oi 4,.agg (T.tl),.one (.row [Ht a,Ht b,Ht u,Ht v])] [.agg (YE (A3 (T.sg) a b u v))] :=
 Ug func263 rfl [.k (aA ha hb hu hv hq)] rfl
def VE(sg:Um->Int)(l:List Pt):List Ct:=Fg Tr (cW (sg) (Nl l) (Nl l).length)
theorem pB(sg:Um->Int){l:List Pt}(hn:l.length<=6):(VE sg l).length<=1000000:=by
 have hw:=YK l;have h:=qZ (sg:=sg) (W:=Nl l) (by omega) (Nl l).length;unfold VE;rw[Gq];omega
set_option maxHeartbeats 8000000 in
theorem LY{l:List Pt}{T:Ti}(hl:∀p∈l,Sc p.c)(hn:l.length≤6)(hq:RT T):Uj 165 [.one (.row (Fl l)),.agg (T.tl)] [.one (.row (Fp (VE T.sg l)))]:=by
 have c1:=vH hl (by omega);have hw:=YK l;have hW:∀p∈Nl l,Sc p.c:=λp hp=>hl p (I9 hp)
 unfold VE;obtain⟨W,hWe⟩:=nmE (Nl l);rw[<-hWe]at c1 hw hW ⊢;have hW6:W.length<=6:=by omega
 have hwl:=qZ (sg:=T.sg) hW6 W.length;have c9:=KA (l:=cW (T.sg) W W.length) (by omega);have hrl:=Gk W;refine Hz func165 rfl ?_;refine Ud [.k c1,.o 6 47 9] rfl ?_;refine Ui (S:=Nat) 2 (λL1 i=>(15,.v (.oi i))::(6,.v (.one (.orow 1 9 none)))::L1) (λi=>[.blk 36 (T.tl),.row false 47 9 (Fp (cW (T.sg) W i))]) (λi=>W.length-i) (λi=>i<=W.length) 0 (Qg _) rfl rfl λi hi=>?_
 by_cases hlt:i<W.length
 ·obtain⟨x,hx⟩:=gxE (l:=W) (i:=i) hlt;have sx:=hW x (Qa hx);have hnx:=Qis (sg:=T.sg) hx;have hl1:=qZ (sg:=T.sg) hW6 i;obtain⟨F,hF⟩:=nmE (cW (T.sg) W i);rw[<-hF]at hnx hl1 ⊢;refine go tt [.T,.r 19 (eI (b:=((i+1+0:Nat):Int)) (by simp))] rfl (by simp[Uw] <;> omega) ?_;rw[show Fp F=Fp (F++cI (T.sg) W x i 0) by simp[cI]];refine Ui (S:=Nat) 2 (λL1 n=>(8,.v (.oi ((i+1+n:Nat):Int)))::(6,.v (.one (.orow 1 9 none)))::L1) (λn=>[.blk 36 (T.tl),.row false 47 9 (Fp (F++cI (T.sg) W x i n))]) (λn=>W.length-i-n) (λn=>n<=W.length-i-1) 0 (Qg _) rfl rfl λn hnn=>?_
  by_cases hlj:i+1+n<W.length
  ·obtain⟨y,hy⟩:=gxE (l:=W) (i:=i+1+n) hlj;have sy:=hW y (Qa hy);have hnx2:=Qip (sg:=T.sg) (x:=x) hy;have hl2:=gI (sg:=T.sg) (x:=x) (i:=i) hW6 n;obtain⟨G,hG⟩:=nmE (F++cI (T.sg) W x i n);have hGl:G.length<=1296+216:=by rw[hG,Q3];omega
   have hnx3:F++cI (T.sg) W x i (n+1)=G++cJ (T.sg) W x y (i+1+n) (W.length-(i+1+n)-1):=by rw[hnx2,hG,Zk]
   rw[<-hG];obtain⟨j,hj⟩:=nmE (i+1+n);rw[<-hj]at hlj hy hnx3 ⊢;refine go tt [.T,.r 27 (eI (b:=((j+1+0:Nat):Int)) (by simp))] rfl (by simp[Uw] <;> omega) ?_;rw[show Fp G=Fp (G++cJ (T.sg) W x y j 0) by simp[cJ]];refine Ui (S:=Nat) 2 (λL1 m=>(9,.v (.oi ((j+1+m:Nat):Int)))::(6,.v (.one (.orow 1 9 none)))::L1) (λm=>[.blk 36 (T.tl),.row false 47 9 (Fp (G++cJ (T.sg) W x y j m))]) (λm=>W.length-j-m) (λm=>m<=W.length-j-1) 0 (Qg _) rfl rfl λm hm=>?_
   by_cases hlk:j+1+m<W.length
   ·obtain⟨z,hz⟩:=gxE (l:=W) (i:=j+1+m) hlk;have sz:=hW z (Qa hz);have hnx4:=Qiq (sg:=T.sg) (x:=x) (y:=y) hz;have hl3:=hQ (sg:=T.sg) (x:=x) (y:=y) (j:=j) hW6 m;obtain⟨H,hH⟩:=nmE (G++cJ (T.sg) W x y j m);have hHl:H.length<=1296+216+36:=by rw[hH,Q3];omega
    have hnx5:G++cJ (T.sg) W x y j (m+1)=H++cK (T.sg) W x y z (j+1+m) (W.length-(j+1+m)-1):=by rw[hnx4,hH,Zk]
    rw[<-hH];obtain⟨k,hk⟩:=nmE (j+1+m);rw[<-hk]at hlk hz hnx5 ⊢;have hrH:=Rt H;have h9:∀v∈[YE (P9 (T.sg) x y z)],v.length=9:=λv hv=>by rw[Qo.1 hv];rfl
    refine go tt [.T,.x (U4 hx),.x (U4 hy),.x (U4 hz),.k (vP sx sy sz hq),.s (sz:=9) h9,.r 53 (eI (b:=((k+1+0:Nat):Int)) (by simp))] rfl (by simp[Uw,hrH] <;> omega) ?_;have h0:Fp (H++cK (T.sg) W x y z k 0)=Fp H++[YE (P9 (T.sg) x y z)]:=by simp[cK,Fp]
    refine lp (S:=Nat) 2 (λL1 p=>(10,.v (.oi ((k+1+p:Nat):Int)))::(6,.v (.one (.orow 1 9 none)))::L1.filter λe => !Nat.beq e.1 51) (λp=>[.blk 36 (T.tl),.row false 47 9 (Fp (H++cK (T.sg) W x y z k p))]) (λp=>W.length-k-p) (λp=>p<=W.length-k-1) 0 (Qg _) rfl (λ_ _=>rfl) (by rw[h0];rfl) λp hp=>?_
    by_cases hlm:k+1+p<W.length
    ·obtain⟨v,hv⟩:=gxE (l:=W) (i:=k+1+p) hlm;have sv:=hW v (Qa hv);have hnx6:=Qir (sg:=T.sg) (x:=x) (y:=y) (z:=z) hv;have hl4:=Qbi (sg:=T.sg) (W:=W) (x:=x) (y:=y) (z:=z) (k:=k) (n:=p) (by omega);have hrK:=Rt (H++cK (T.sg) W x y z k p);rw[Q3]at hrK;have h9v:∀w∈[YE (A3 (T.sg) x y z v)],w.length=9:=λw hw=>by rw[Qo.1 hw];rfl
     have e3:Fp (H++cK (T.sg) W x y z k (p+1))=Fp (H++cK (T.sg) W x y z k p)++[YE (A3 (T.sg) x y z v)]:=by rw[hnx6];simp[Fp]
     refine go tt [.T,.x (U4 hx),.x (U4 hy),.x (U4 hz),.x (U4 hv),.k (Qcu sx sy sz sv hq),.s (sz:=9) h9v,.r 59 (eI (b:=((k+1+(p+1):Nat):Int)) (by simp <;> omega))] rfl (by simp[Uw,hrK] <;> omega) ?_;exact rd (p+1) (by omega) (by omega) (by rw[e3];rfl)
    ·obtain rfl:p=W.length-k-1:=by omega
     rw[<-hnx5];refine go tt [.F,.r 33 (eI (b:=((j+1+(m+1):Nat):Int)) (by simp <;> omega))] rfl (by simp[Uw] <;> omega) ?_;exact rd (m+1) (by omega) (by omega) rfl
   ·obtain rfl:m=W.length-j-1:=by omega
    rw[<-hnx3];refine go tt [.F,.r 25 (eI (b:=((i+1+(n+1):Nat):Int)) (by simp <;> omega))] rfl (by simp[Uw] <;> omega) ?_;exact rd (n+1) (by omega) (by omega) rfl
  ·obtain rfl:n=W.length-i-1:=by omega
   rw[<-hnx];refine go tt [.F] rfl (by simp[Uw] <;> omega) ?_;exact rd (i+1) (by omega) hlt rfl
 ·obtain rfl:i=W.length:=by omega
  exact Uf [.F,.k c9] rfl rfl (by simp[Uw] <;> omega)
end Orr
namespace Orq
open Go Go.Proofs Tryz Orr
set_option maxRecDepth 10000
theorem Qsj{t:Tm}(h:t.lo<t.hi):t.point=false:=by
 unfold Tm.point;refine decide_eq_false λh'=>?_
 rcases Int.lt_or_eq_of_le h' with h1|h1
 ·have:=Nn.1 h1;grind
 ·have:=Td.1 h1.symm;grind
theorem Qn0{t:Tm}{C:Un}{N:Nat}(va:Va t)(ck:Cok C)(hl:t.lo<t.hi)(V:Vt (cz t.p) (C.map cz) t.lo t.hi)(an:Anc t.p)(g:∃D M k,Gr D M k t.lo/\Gr D M k t.hi/\0<M/\Ff (D:Int)+Ff (M:Int)+k<=N):AT t C N (Ax t.p t.lo t.hi) t.hi:=by
 obtain⟨D,M,k,g1,g2,g3,g4⟩:=g;have hne:Hl t.lo t.hi≠0:=λh=>by have:=Td.1 h;grind
 by_cases h0:Fy t.p t.hi=0
 ·have e:Ax t.p t.lo t.hi=t.hi:=by unfold Ax;rw[if_pos ⟨hne,h0⟩]
  rw[e];refine⟨va,ck,.inl ⟨rfl,?_⟩,λ_=>an,D,M,k,g2,g2,g3,g4⟩;rw[Tt hl];unfold cq;rw[if_neg (by grind),if_neg Ws,if_pos (by rw[H7]at h0;rw[Uy];exact h0)]
 ·have e:Ax t.p t.lo t.hi=t.lo:=by unfold Ax;rw[if_neg λh=>h0 h.2]
  rw[e];exact⟨va,ck,.inr ⟨Qsj hl,V,λq=>(Tt hl q).symm,h0⟩,λ_=>an,D,M,k,g1,g2,g3,g4⟩
theorem _root_.Orr.TnOk.at_{p q:Um}{c:Un}{l:List Tm}(h:TnOk p q c l){t:Tm}(ht:t∈l):AT t c 82000 (Ax q t.lo t.hi) t.hi:=by
 obtain⟨e1,e2,V⟩:=h.vt t ht;rw[<-e1]at V;have:=Qn0 (h.va t ht) h.ck e2 V (by rw[e1];exact h.sz.1) (h.gr t ht);rwa[e1]at this
end Orq
namespace Orr
open Go Go.Proofs Tryz Orq
set_option maxRecDepth 10000
abbrev XD(n d:Int):Rat:=H4 (Da n 61-30) (1+Da d 6)
theorem Qak(n d:Int):Qs 100 (XD n d):=by
 have h1:Da n 61=n % 61:=rfl;have h2:Da d 6=d % 6:=rfl;unfold XD H4;rw[if_neg (by omega)];exact Qs.divInt (Qc (Tg.2 (show(Da n 61-30).natAbs<2^10 by omega)) (by decide)) (Qc (Tg.2 (show(1+Da d 6).natAbs<2^10 by omega)) (by decide)) (by decide)
theorem zF{l:Um}{i:Nat}{z:Int}(h:l[i]? = some z):(Ic l)[i]? = some [.int .i64 z]:=He (f:=λz:Int=>[LV.int .i64 z]) h
theorem Qm6{l:Um}(hl:l.length≤1000)(hb:∀z∈l,-1000000000≤z/\z≤1000000000):Uj 54 [.one (ids l)] [.one (rp (zp (trim l)))]:=by
 have cc:=On (p:=zp l);rw[Ns]at cc;have hil:(Ic l).length=l.length:=by simp[Ic]
 show Uj 54 [.one (.row (Ic l))] _;refine Hz func54 rfl ?_;refine Ud [.o 3 34 4] rfl ?_;refine Ui (S:=Nat) 1 (λL1 i=>(7,.v (.oi i))::(3,.v (.one (.orow 0 4 none)))::L1) (λi=>[.row false 34 4 (frow ((zp l).take i))]) (λi=>l.length-i) (λi=>i<=l.length) 0 (Qg _) rfl rfl λi hi=>?_
 by_cases h:i<l.length
 ·obtain⟨z,hz⟩:=gxE (l:=l) (i:=i) h;have hzb:=hb z (Qa hz);have htl:(frow ((zp l).take i)).length=i:=by rw[To,Qq,Sf];omega
  have hnx:(zp l).take (i+1)=(zp l).take i++[(z:Rat)]:=by
   rw[Xv,zp,Ze,hz];rfl
  refine go tt [.T,.x (zF hz),.k (VJ (n:=z) (by omega)),.s (sz:=4) (wM _)] rfl (by simp[Uw,htl];omega) ?_;exact rd (i+1) (by omega) h (by rw[hnx,GY];rfl)
 ·obtain rfl:i=l.length:=by omega
  rw[Qn (by rw[Sf];exact Qj _)];exact Uf [.F,.k cc] rfl
structure RtOk(q:List Int)(c:List (List Int))(l:List Tm):Prop where
 n:l.length<=67
 ck:Cok c
 va:∀t∈l,Va t
 vt:∀t∈l,t.p=q/\t.lo<t.hi/\Vt (cz q) (c.map cz) t.lo t.hi
 sz:Anc q/\q.length<=9
 gr:∀t∈l,∃D M k,Gr D M k t.lo/\Gr D M k t.hi/\0<M/\Ff (D:Int)+Ff (M:Int)+k≤82000
theorem Qae{p:Um}(ok:Okp 9 1110 p)(l2:2<=p.length):∃q c l,RtOk q c l/\Uj 57 [.one (rp (zp p))] [.one (.row (MV q c l))]:=by
 have okb:Okp 9 1180 p:=⟨PH,ok.t,ok.nz,ok.l,Uv ok.b (by decide)⟩;obtain⟨q,L,o,hpt,hS,ck,hCh,s1,s2,⟨g,sq⟩,q2,qp,bq⟩:=EH okb l2;obtain⟨q',c,l,r1,r2,r3,_,hRI,hva,_,_,hz⟩:=uE (by decide) ok;obtain rfl:q'=q:=Option.some.inj (r1.symm.trans s1);obtain rfl:c=q'::L:=Option.some.inj (r2.symm.trans s2);have De:=ok.l;have hall:=EG (ok.pb (by decide)) r2 sq.pq.n;have hld:U8 q'≠0:=by have:=sq.pq.l;omega
 obtain⟨D,M,hM,gb,hD,hMs⟩:=Qbg hld bq;have hb1:=Ig hld;have hrun:E3 q' (q'::L) 100000 (-Ge q') (Ge q') (jU (q'::L))=some l:=by
  unfold CO at r3;rw[r2,Yk,r1,Yk]at r3;obtain⟨b,hb',r3⟩:=Qi.1 r3;have:Ge q'=b:=by
   unfold bR at hb'
   split at hb'
   ·injection hb' with hb'
   ·cases hb'
  rw[<-this]at r3;exact r3
 have hbw:(-Ge q')<Ge q':=by grind
 have hsr:=jB hM 100000 0 _ _ _ l hrun hbw (by rw[OJ hS hall,Sy (Qm hbw)]) (Qei gb) gb (by omega);have hln:l.length<=67:=by
  have h1:=hRI.len;have h2:=Qhu ((q'::L).map cz) (-Ge q');have h3:=(Orr.chain_ok (ok.pb (by decide)) r2).1;rw[Q8]at h2;omega
 obtain⟨⟨m',f',kF,kP,eq_⟩,_⟩:=id hCh;have cr:=Qci ok.t (Uv ok.b (by decide)) (by omega) l2 kF kP eq_ hCh sq.pq.t q2 (by omega) (Uv bq (by decide)) ck hsr (by omega);obtain⟨pp,hl,hb⟩:=ok.pr;have e1:∀t,Ux (U5 p) t=Ux q' t*Ux g t:=λt=>by rw[sq.e];grind
 have anc:Anc q':=⟨U5 p,g,pp.t,pp.n,by omega,hb,sq.pg.t,e1⟩;refine⟨q',q'::L,l,⟨hln,ck,hva,λt ht=>?_,⟨anc,by omega⟩,λt ht=>?_⟩,cr⟩
 ·obtain⟨h1,h2⟩:=Qp8 hRI ht;exact⟨h2,(hz t ht).2.1,h1⟩
 ·obtain⟨_,_,_,D,M,k,x1,x2,x3,x4,x5,x6⟩:=hz t ht;exact⟨D,M,k,x1,x2,x3,by omega⟩
theorem RtOk.at_{q:Um}{c:Un}{l:List Tm}(h:RtOk q c l){t:Tm}(ht:t∈l):AT t c 82000 (Ax q t.lo t.hi) t.hi:=by
 obtain⟨e1,e2,V⟩:=h.vt t ht;rw[<-e1]at V;have:=Qn0 (h.va t ht) h.ck e2 V (by rw[e1];exact h.sz.1) (h.gr t ht);rwa[e1]at this
structure Pk(t:Tm)(C:List (List Int)):Prop where
 va:Va t
 rt:RT ⟨t.p,C,t.lo,t.hi,Rh t⟩
 to:Uj 19 [.agg (ax t.p C t.lo t.hi)] [.agg (ta t)]
theorem rD{p:Um}{C:Un}{lo hi:Rat}(hp:Bd 8000000 p)(lp:p.length<=60)(tp:Uz p)(ql:Qs 2000000 lo)(qh:Qs 2000000 hi):Uj 19 [.agg (ax p C lo hi)] [.agg (ta ⟨p,lo,hi⟩)]:=by
 have c1:=bX (p:=p) (Uv hp (by decide)) (by omega);have c2:=Qm5 (q:=lo) (ql.mono (by decide));have c3:=Qm5 (q:=hi) (qh.mono (by decide));exact Ug func19 rfl [.k c1,.k c2,.k c3] rfl
theorem Qtg{t:Tm}(h:Va t)(h0:Fy t.p t.hi=0):Va ⟨t.p,t.hi,t.hi⟩:=by
 have hpt:(⟨t.p,t.hi,t.hi⟩:Tm).point=true:=Pd.2 Qk;have no:∀{P:Prop},(⟨t.p,t.hi,t.hi⟩:Tm).point=false->P:=λh=>by rw[hpt]at h;cases h
 obtain⟨D,M,k,g1,g2,hM,hs⟩:=h.g;have hl:dL t<=3300000:=by unfold dL;split <;> omega
 refine⟨.inl ⟨rfl,?_⟩,h.tr,h.n,h.n2,h.b,no,no,D,M,k,g2,g2,hM,?_⟩
 ·rw[H7]at h0;exact Gm.1 h0
 ·have:dL ⟨t.p,t.hi,t.hi⟩=3300000:=by unfold dL;rw[if_pos hpt]
  omega
theorem RtOk.pk{q:Um}{c:Un}{l:List Tm}(h:RtOk q c l){t:Tm}(ht:t∈l):∃u:Tm,Pk u c/\axr q c t=ax u.p c u.lo u.hi:=by
 have hat:=h.at_ ht;obtain⟨e1,e2,V⟩:=h.vt t ht;have va:=h.va t ht;have b8:Bd 8000000 t.p:=Uv (by rw[e1];exact h.sz.1.bd (by rw[<-e1];exact va.tr)) (show 1179<=8000000 by decide);have n9:=va.n;have hne:Hl t.lo t.hi≠0:=λh=>by have:=Td.1 h;grind
 obtain⟨ql,qh⟩:=hat.qs (by decide);by_cases h0:Fy q t.hi=0
 ·have e:Ax q t.lo t.hi=t.hi:=by unfold Ax;rw[if_pos ⟨hne,h0⟩]
  have v2:=Qtg va (by rw[e1];exact h0);obtain⟨D,M,k,g1,g2,hM,hs⟩:=h.gr t ht;have at2:AT ⟨t.p,t.hi,t.hi⟩ c 82000 t.hi t.hi:=⟨v2,h.ck,.inl ⟨rfl,by rw[Lh rfl];exact Bh _⟩,λ_=>by rw[show(⟨t.p,t.hi,t.hi⟩:Tm).p=q from e1];exact h.sz.1,D,M,k,g2,g2,hM,hs⟩;exact⟨⟨t.p,t.hi,t.hi⟩,⟨v2,Qnu at2 (by decide),rD (p:=t.p) b8 (by omega) va.tr qh qh⟩,by show ax q c (Ax q t.lo t.hi) t.hi=ax t.p c t.hi t.hi;rw[e,e1]⟩
 ·have e:Ax q t.lo t.hi=t.lo:=by unfold Ax;rw[if_neg λh=>h0 h.2]
  rw[e]at hat ql;exact⟨t,⟨va,Qnu hat (by decide),rD b8 (by omega) va.tr ql qh⟩,by show ax q c (Ax q t.lo t.hi) t.hi=ax t.p c t.lo t.hi;rw[e,e1]⟩
theorem Qsu{q:Rat}{c:Un}(hq:Qs 1640000 q):Pk (tq q) c:=by
 refine⟨Qu9 hq,⟨λ{p} hp=>?_⟩,rD (Uv (Qmw hq) (by decide)) (by show 2<=60;decide) (jC q) (hq.mono (by decide)) (hq.mono (by decide))⟩;show Uj 16 [.one (rp (zp p)),.agg (aq q c)] [.oi (Gl (Rh (tq q)) p)];rw[Qef];exact Qcf (Uv (qD hp) (by decide)) (by have:=hp.l;omega) (hq.mono (by decide))
theorem HO{v n:Int}(h:0<n):0<=Da v n/\Da v n<n:=by
 unfold Da;rw[if_neg (by omega)];exact⟨Vj _ (by omega),Y0 _ h⟩
theorem mD(z:Int):-9223372036854775808<=IntKind.i64.wrap z/\IntKind.i64.wrap z<=9223372036854775807:=by
 simp[IntKind.wrap,IntKind.bits,IntKind.signed];omega
def xC(z:Int):Int:=Da (IntKind.i64.wrap (z+6)) 13-6
theorem Qp3(z:Int):-6<=xC z/\xC z<=6:=by
 have:=HO (v:=IntKind.i64.wrap (z+6)) (n:=13) (by decide);unfold xC;omega
theorem Qbu{l:Um}{k:Int}(hl:∀z∈l,-9223372036854775808≤z/\z≤9223372036854775807)(hk:-9223372036854775808≤k/\k≤9223372036854775807)(hn:l.length<9223372036854775808):∃t C,Pk t C/\Uj 13 [.one (.row (Ic l)),.oi k] [.agg (ax t.p C t.lo t.hi)]:=by
 have hil:(Ic l).length=l.length:=by simp[Ic]
 obtain⟨c,hc⟩:=nmE ((l.take 5).map xC);have hcl:c.length<=5:=by rw[hc,Q8,Qq];omega
 have hcb:∀z∈c,-6≤z/\z≤6:=λz hz=>by
  rw[hc]at hz;obtain⟨u,_,rfl⟩:=Zw.1 hz;exact Qp3 u
 have co:=Qm6 (l:=c) (by omega) λz hz=>by have:=hcb z hz;omega
 have hq0:=Qak k (l.length:Int);have cs:=nS (n:=k) (d:=(l.length:Int)) hk (by omega);rw[show H4 (Da k 61-30) (1+Da (l.length:Int) 6)=XD k (l.length:Int) from rfl]at cs;have cr:=RU (q:=XD k (l.length:Int)) (hq0.mono (by decide)) (Qnp (hq0.mono (by decide)));have pkq:=Qsu (q:=XD k (l.length:Int)) (c:=[[-(XD k (l.length:Int)).num,((XD k (l.length:Int)).den:Int)],[1]]) (hq0.mono (by decide));obtain⟨q,hq⟩:=nmE (XD k (l.length:Int));rw[<-hq]at cs cr pkq;have hfl:=VF (trim c);have htl:=Ri c;have step:∀i z,l[i]? = some z->i<5->(l.take (i+1)).map xC=(l.take i).map xC++[xC z]:=λi z hz _=>by
  rw[Xv,hz,X7,Xm];rfl
 have XF:∀z:Int,∀y∈[[LV.int .i64 z]],y.length=1:=λz y hy=>by rw[Qo.1 hy];rfl
 by_cases h2:(trim c).length<2
 ·refine⟨tq q,_,pkq,?_⟩;refine Hz func13 rfl ?_;refine Ud [.o 5 3 1] rfl ?_;refine Ui (S:=Nat) 2 (λL1 i=>(6,.v (.oi i))::(5,.v (.one (.orow 1 1 none)))::L1) (λi=>[.blk 36 [.nils,.nils,.nils,.bool false,.nils,.bool false,.nils,.bool false,.nils,.bool false],.row false 3 1 (Ic ((l.take i).map xC))]) (λi=>5-i) (λi=>i<=5/\i<=l.length) 0 ⟨by decide,Qg _⟩ rfl rfl λi ⟨hi,hi2⟩=>?_
  have hrl:(Ic ((l.take i).map xC)).length=i:=by simp[Ic];omega
  by_cases h:i<l.length/\i<5
  ·obtain⟨z,hz⟩:=gxE (l:=l) (i:=i) h.1;have cw:=Dk (v:=IntKind.i64.wrap (z+6)) (n:=13) (mD _) (by decide);have wb:=HO (v:=IntKind.i64.wrap (z+6)) (n:=13) (by decide);refine go tt [.g 13 true Ul,.T,.x (zF hz),.w 0,.k cw,.s (sz:=1) (XF _)] rfl (by simp[Uw,hrl];omega) ?_;exact rd (i+1) (by omega) ⟨h.2,h.1⟩ (by rw[step i z hz h.2];simp[Ic,xC];rfl)
  have e:(l.take i).map xC=c:=by
   rw[hc];by_cases h1:i<l.length
   ·rw[show i=5 by omega]
   ·rw[Qn (by omega),Qn (by omega)]
  rw[e];by_cases h1:i<l.length
  ·exact Uf [.g 13 true Ul,.F,.k co,.T,.r 36 (eI (b:=(l.length:Int)) (by omega)),.k cs,.k cr] rfl rfl (by simp[Uw])
  ·exact Uf [.g 13 false Uk,.f rfl,.k co,.T,.r 36 (eI (b:=(l.length:Int)) (by omega)),.k cs,.k cr] rfl rfl (by simp[Uw])
 have okp:Okp 9 1110 (trim c):=⟨⟨by decide,by decide⟩,Hj c,by omega,by omega,Si λz hz=>by
  have:=hcb z hz;refine Qc (Tg.2 (show z.natAbs<2^3 by omega)) (by decide)⟩
 obtain⟨rq,rc_,r,rok,crt⟩:=Qae okp (by omega);have hrr:(MV rq rc_ r).length=r.length:=Q8 _;have hr67:=rok.n;by_cases h0:r.length=0
 ·refine⟨tq q,_,pkq,?_⟩;refine Hz func13 rfl ?_;refine Ud [.o 5 3 1] rfl ?_;refine Ui (S:=Nat) 2 (λL1 i=>(6,.v (.oi i))::(5,.v (.one (.orow 1 1 none)))::L1) (λi=>[.blk 36 [.nils,.nils,.nils,.bool false,.nils,.bool false,.nils,.bool false,.nils,.bool false],.row false 3 1 (Ic ((l.take i).map xC))]) (λi=>5-i) (λi=>i<=5/\i<=l.length) 0 ⟨by decide,Qg _⟩ rfl rfl λi ⟨hi,hi2⟩=>?_
  have hrl:(Ic ((l.take i).map xC)).length=i:=by simp[Ic];omega
  by_cases h:i<l.length/\i<5
  ·obtain⟨z,hz⟩:=gxE (l:=l) (i:=i) h.1;have cw:=Dk (v:=IntKind.i64.wrap (z+6)) (n:=13) (mD _) (by decide);have wb:=HO (v:=IntKind.i64.wrap (z+6)) (n:=13) (by decide);refine go tt [.g 13 true Ul,.T,.x (zF hz),.w 0,.k cw,.s (sz:=1) (XF _)] rfl (by simp[Uw,hrl];omega) ?_;exact rd (i+1) (by omega) ⟨h.2,h.1⟩ (by rw[step i z hz h.2];simp[Ic,xC];rfl)
  have e:(l.take i).map xC=c:=by
   rw[hc];by_cases h1:i<l.length
   ·rw[show i=5 by omega]
   ·rw[Qn (by omega),Qn (by omega)]
  rw[e];by_cases h1:i<l.length
  ·exact Uf [.g 13 true Ul,.F,.k co,.F,.k crt,.T,.r 46 (eI (b:=(l.length:Int)) (by omega)),.k cs,.k cr] rfl rfl (by simp[Uw])
  ·exact Uf [.g 13 false Uk,.f rfl,.k co,.F,.k crt,.T,.r 46 (eI (b:=(l.length:Int)) (by omega)),.k cs,.k cr] rfl rfl (by simp[Uw])
 have wn:=HO (v:=k) (n:=(r.length:Int)) (by omega);obtain⟨j,hj⟩:∃j:Nat,Da k (r.length:Int)=(j:Int):=⟨(Da k (r.length:Int)).toNat,by omega⟩;obtain⟨u,hu⟩:=gxE (l:=r) (i:=j) (by omega);have cwk:=Dk (v:=k) (n:=(r.length:Int)) hk (by omega);rw[hj]at cwk;obtain⟨t,hp,ht⟩:=rok.pk (Qa hu);have hgu:(MV rq rc_ r)[j]? = some (ax t.p rc_ t.lo t.hi):=by rw[<-ht];exact He hu
 refine⟨t,rc_,hp,?_⟩;refine Hz func13 rfl ?_;refine Ud [.o 5 3 1] rfl ?_;refine Ui (S:=Nat) 2 (λL1 i=>(6,.v (.oi i))::(5,.v (.one (.orow 1 1 none)))::L1) (λi=>[.blk 36 [.nils,.nils,.nils,.bool false,.nils,.bool false,.nils,.bool false,.nils,.bool false],.row false 3 1 (Ic ((l.take i).map xC))]) (λi=>5-i) (λi=>i<=5/\i<=l.length) 0 ⟨by decide,Qg _⟩ rfl rfl λi ⟨hi,hi2⟩=>?_
 have hrl:(Ic ((l.take i).map xC)).length=i:=by simp[Ic];omega
 by_cases h:i<l.length/\i<5
 ·obtain⟨z,hz⟩:=gxE (l:=l) (i:=i) h.1;have cw:=Dk (v:=IntKind.i64.wrap (z+6)) (n:=13) (mD _) (by decide);have wb:=HO (v:=IntKind.i64.wrap (z+6)) (n:=13) (by decide);refine go tt [.g 13 true Ul,.T,.x (zF hz),.w 0,.k cw,.s (sz:=1) (XF _)] rfl (by simp[Uw,hrl];omega) ?_;exact rd (i+1) (by omega) ⟨h.2,h.1⟩ (by rw[step i z hz h.2];simp[Ic,xC];rfl)
 have e:(l.take i).map xC=c:=by
  rw[hc];by_cases h1:i<l.length
  ·rw[show i=5 by omega]
  ·rw[Qn (by omega),Qn (by omega)]
 rw[e];by_cases h1:i<l.length
 ·exact Uf [.g 13 true Ul,.F,.k co,.F,.k crt,.F,.r 52 (eI (b:=(r.length:Int)) (by omega)),.k cwk,.x hgu] rfl rfl (by simp[Uw])
 ·exact Uf [.g 13 false Uk,.f rfl,.k co,.F,.k crt,.F,.r 52 (eI (b:=(r.length:Int)) (by omega)),.k cwk,.x hgu] rfl rfl (by simp[Uw])
structure Cw(sg:List Int->Int)(c:Ct):Prop where
 p:Cp c.p
 w:Gl sg c.p=c.want
theorem iK{a b:Pt}(ha:Sc a.c)(hb:Sc b.c):Cp (BE a b):=ED (Dm hb ha) (Dn hb ha)
theorem kJ{sg:Um->Int}:∀{l:List Pt},(∀p∈l,Sc p.c)->∀c∈Ck sg l,Cw sg c
 | [],_,c,hc=>by cases hc
 | [_],_,c,hc=>by cases hc
 |
  a::b::l,h,c,hc=>by
  rcases Qt.1 hc with rfl|hc
  ·exact⟨Qda (h a (by simp)) (h b (by simp)),rfl⟩
  ·exact kJ (l:=b::l) (λp hp=>h p (Qp _ hp)) c hc
section
variable{sg:Um->Int}
theorem Qdf{a b c:Pt}(ha:Sc a.c)(hb:Sc b.c)(hc:Sc c.c):Cw sg (P9 sg a b c):=by
 have h:=XG ha hb hc;unfold P9;generalize Pq a.c b.c c.c=F at *;exact⟨h,rfl⟩
theorem Qo1{a b c d:Pt}(ha:Sc a.c)(hb:Sc b.c)(hc:Sc c.c)(hd:Sc d.c):Cw sg (A3 sg a b c d):=by
 have h:=ER ha hb hc hd;unfold A3;generalize YM a.c b.c c.c d.c=F at *;exact⟨h,rfl⟩
theorem Qjk{a b c d:Pt}(ha:Sc a.c)(hb:Sc b.c)(hc:Sc c.c)(hd:Sc d.c):Cw sg (Eo sg a b c d):=by
 have h:=NJ ha hb hc hd;unfold Eo;generalize Ro a.c b.c c.c d.c=F at *;exact⟨h,rfl⟩
variable{l:List Pt}(hl:∀p∈l,Sc p.c)
include hl
theorem bI:∀c∈Ey sg l,Cw sg c:=λc hc=>kJ (λp hp=>hl p (Hd.1 hp)) c (Hd.1 hc)
theorem Qjo:∀c∈O6 sg l,Cw sg c:=λc hc=>by
 unfold O6 at hc
 split at hc
 ·cases hc
 ·rename_i h0;obtain⟨m,hm,rfl⟩:=Zw.1 (Hd.1 hc);have hs:(Fg Hf l).length=l.length:=Gq _ _;obtain⟨_,b2,_⟩:=VX (Cx sg) (Fg Hf l).length (Fg Hf l) (by omega) (Qj _);obtain⟨m1,m2⟩:=b2 m hm;exact⟨iK (hl _ (Hd.1 m1)) (hl _ (Hd.1 m2)),rfl⟩
theorem Qjn:∀c∈Ez sg l,Cw sg c:=λc hc=>by
 unfold Ez at hc;have hs:∀p∈Fg Hf l,Sc p.c:=λp hp=>hl p (Hd.1 hp)
 generalize Fg Hf l=M at *
 match M,hc,hs with
 | [],hc,_=>cases hc
 | [_],hc,_=>cases hc
 |
  a::b::M,hc,hs =>
  obtain⟨m,hm,rfl⟩:=iT (Hd.1 hc);obtain⟨s1,s2⟩:=Am sg (l:=a::b::M) (Hi (a::b::M)) (a,b) ⟨by simp,by simp⟩ (Es _ _);obtain⟨m1,m2⟩:=Es _ _ _ hm;exact Qjk (hs _ s1) (hs _ s2) (hs _ m1) (hs _ m2)
theorem Qjl:∀c∈VD sg l,Cw sg c:=λc hc=>by
 rcases Qr.1 (Hd.1 hc)with h|h
 ·exact bI hl c h
 ·unfold Oz at h
  split at h
  ·cases h
  ·obtain⟨e,he,hce⟩:=Yw.1 h;obtain⟨x,hx,rfl⟩:=Zw.1 hce;obtain⟨m1,m2⟩:=kS he;exact Qdf (hl _ ((JJ sg l).1 _ m1)) (hl _ ((JJ sg l).1 _ m2)) (hl _ (Y6.1 hx).1)
omit hl
theorem Qrm{W:List Pt}(hW:∀p∈W,Sc p.c){x y z:Pt}(hx:Sc x.c)(hy:Sc y.c)(hz:Sc z.c)(k n:Nat):∀c∈cK sg W x y z k n,Cw sg c:=λc hc=>by
 rcases Qt.1 hc with rfl|hc
 ·exact Qdf hx hy hz
 ·obtain⟨v,hv,rfl⟩:=Zw.1 hc;exact Qo1 hx hy hz (hW _ (Q5 (Ql hv)))
theorem Qmz{W:List Pt}(hW:∀p∈W,Sc p.c){x y:Pt}(hx:Sc x.c)(hy:Sc y.c)(j:Nat):∀n,∀c∈cJ sg W x y j n,Cw sg c
 | 0,c,hc=>by cases hc
 |
  n+1,c,hc=>by
  rcases Qr.1 hc with h|h
  ·exact Qmz hW hx hy j n c h
  ·cases hz:W[j+1+n]? with
   |none=>rw[hz]at h;cases h
   |some z=>rw[hz]at h;exact Qrm hW hx hy (hW z (Qa hz)) _ _ c h
theorem Qmy{W:List Pt}(hW:∀p∈W,Sc p.c){x:Pt}(hx:Sc x.c)(i:Nat):∀n,∀c∈cI sg W x i n,Cw sg c
 | 0,c,hc=>by cases hc
 |
  n+1,c,hc=>by
  rcases Qr.1 hc with h|h
  ·exact Qmy hW hx i n c h
  ·cases hz:W[i+1+n]? with
   |none=>rw[hz]at h;cases h
   |some z=>rw[hz]at h;exact Qmz hW hx (hW z (Qa hz)) _ _ c h
theorem Qm0{W:List Pt}(hW:∀p∈W,Sc p.c):∀n,∀c∈cW sg W n,Cw sg c
 | 0,c,hc=>by cases hc
 |
  n+1,c,hc=>by
  rcases Qr.1 hc with h|h
  ·exact Qm0 hW n c h
  ·cases hz:W[n]? with
   |none=>rw[hz]at h;cases h
   |some z=>rw[hz]at h;exact Qmy hW (hW z (Qa hz)) _ _ c h
include hl
theorem Qjm:∀c∈VE sg l,Cw sg c:=λc hc=>Qm0 (λp hp=>hl p (I9 hp)) _ c (Hd.1 hc)
end
def rCS(sg:Um->Int)(k:Nat)(l:List Pt):List Ct:=match k with
 | 0=>Ey sg l
 | 1=>O6 sg l
 | 2=>VD sg l
 | 3=>Ez sg l
 |_=>VE sg l
theorem rQ{k:Nat}(hk:k<5){l:List Pt}{T:Ti}(hl:∀p∈l,Sc p.c)(hn:l.length≤6)(hq:RT T):Uj 14 [.oi k,.one (.row (Fl l)),.agg T.tl] [.one (.row (Fp (rCS T.sg k l)))]:=by
 rcases(show k=0\/k=1\/k=2\/k=3\/k=4 by omega)with rfl|rfl|rfl|rfl|rfl
 ·have c:Uj 58 [.oi 0,.one (.row (Fl l)),.agg T.tl] [.one (.row (Fp (Ey T.sg l)))]:=Ug func58 rfl [.t rfl,.k (LJ hl (by omega) hq)] rfl;exact Ug func14 rfl [.k c] rfl
 ·have c:Uj 58 [.oi 1,.one (.row (Fl l)),.agg T.tl] [.one (.row (Fp (O6 T.sg l)))]:=Ug func58 rfl [.f rfl,.t rfl,.k (LU hl (by omega) hq)] rfl;exact Ug func14 rfl [.k c] rfl
 ·have c:Uj 58 [.oi 2,.one (.row (Fl l)),.agg T.tl] [.one (.row (Fp (VD T.sg l)))]:=Ug func58 rfl [.f rfl,.f rfl,.t rfl,.k (LX hl (by omega) hq)] rfl;exact Ug func14 rfl [.k c] rfl
 ·have c:Uj 58 [.oi 3,.one (.row (Fl l)),.agg T.tl] [.one (.row (Fp (Ez T.sg l)))]:=Ug func58 rfl [.f rfl,.f rfl,.f rfl,.t rfl,.k (LK hl (by omega) hq)] rfl;exact Ug func14 rfl [.k c] rfl
 ·have c:Uj 58 [.oi 4,.one (.row (Fl l)),.agg T.tl] [.one (.row (Fp (VE T.sg l)))]:=Ug func58 rfl [.f rfl,.f rfl,.f rfl,.f rfl,.k (LY hl hn hq)] rfl;exact Ug func14 rfl [.k c] rfl
theorem Qp6{sg:Um->Int}{k:Nat}{l:List Pt}(hl:∀p∈l,Sc p.c):∀c∈rCS sg k l,Cw sg c:=by
 match k with
 | 0=>exact bI hl
 | 1=>exact Qjo hl
 | 2=>exact Qjl hl
 | 3=>exact Qjn hl
 |k+4=>exact Qjm hl
theorem Qlf{sg:Um->Int}{k:Nat}{l:List Pt}(hn:l.length<=6):(rCS sg k l).length<=1000000:=by
 match k with
 | 0=>exact Qc (VL sg l) (by omega)
 | 1=>exact pD sg (by omega)
 | 2=>exact pN sg (by omega)
 | 3=>exact pC sg (by omega)
 |k+4=>exact pB sg hn
theorem Qov{l:List Ct}(hc:∀c∈l,Cp c.p)(hn:l.length≤1000000):Uj 17 [.one (.row (Fp l))] [.one (.row (YB l))]:=by
 have hcl:=Rt l;refine Hz func17 rfl ?_;refine Ud [.o 3 144 7] rfl ?_;refine Ui (S:=Nat) 1 (λL1 i=>(7,.v (.oi i))::(3,.v (.one (.orow 0 7 none)))::L1) (λi=>[.row false 144 7 (YB (l.take i))]) (λi=>l.length-i) (λi=>i<=l.length) 0 (Qg _) rfl rfl λi hi=>?_
 have htl:(YB (l.take i)).length=i:=by rw[Qdd,Qq];omega
 by_cases h:i<l.length
 ·obtain⟨c,hx⟩:=gxE (l:=l) (i:=i) h;have cp:=hc c (Qa hx);have c1:=bX (p:=c.p) (Uv cp.b (by decide)) (by have:=cp.l;omega);have hm:∀y∈[Qff c],y.length=7:=λy hy=>by rw[Qo.1 hy];rfl
  have hnx:YB (l.take (i+1))=YB (l.take i)++[Qff c]:=by
   rw[Xv,hx];simp[YB]
  refine go tt [.T,.x (Sw hx),.x (Sw hx),.k c1,.x (Sw hx),.s (sz:=7) hm] rfl (by simp[Uw,htl];omega) ?_;exact rd (i+1) (by omega) h (by rw[hnx];rfl)
 ·obtain rfl:i=l.length:=by omega
  rw[Q7];exact Uf [.F] rfl
end Orr
namespace Orr
open Go Go.Proofs Tryz Orq
set_option maxRecDepth 10000
end Orr
namespace Orq
open Orr Go
section
variable{α:Type}{lt lt':α->α->Bool}
end
structure LowC(X Y:Pt->Rat)(R L:List Pt):Prop where
 hd:L.head? = R.head?
 la:L.getLast? = R.getLast?
 srt:L.Pairwise (lx X Y)
 mem:∀p∈L,p∈R
 edg:Edg (λa b=>∀p∈R,0≤ori X Y a b p) L
 cnv:Cnv (λa b c=>0<ori X Y a b c) L
structure Soon(l:List Pt)(a:Tm)(q:Rat):Prop where
 g:∀p∈Qui l++Quh l,Gl (Rh a) p=Fj (Ux p q)
 b:∀u∈l,∀v∈l,(Sl (Rh a) u v=true↔Qux q u v)
 o:∀u∈l,∀v∈l,∀w∈l,Gl (Rh a) (Gh u.c v.c w.c)=Fj (ori (px · q) (py · q) u v w)
 t:∀u∈l,∀v∈l,∀w∈l,(Qsf (Rh a) u v w=true↔0<ori (px · q) (py · q) u v w)
 r:(Qqc a (Qqz l)).Pairwise (lx (px · q) (py · q))
end Orq
namespace Orr
open Go Go.Proofs Tryz Orq
theorem Sc.pt{p:Pt}(h:Sc p.c):Qn2 4294967294 1073741824 p:=⟨h.n,h.c.mono (by decide) (by decide)⟩
end Orr
namespace Orr
open Go Go.Proofs Tryz Orq
set_option maxRecDepth 10000
def bcP(l:List Pt)(a:Tm):List Ct:=Qst (Rh a) l
abbrev brP(l:List Pt)(a:Tm):Us:=Gx (Qss (Rh a) l)
end Orr
namespace Orr
open Go
end Orr
namespace Orq
open Orr Go
end Orq
namespace Orr
open Orq Go
end Orr
namespace Orq
open Orr Go
structure MOk(M:List Pt):Prop where
 sc:∀p∈M,Sc p.c
 ln:M.length<=6
 so:mI M
structure Knd(β:Type) where
 bc:List Pt->Tm->List Ct
 br:List Pt->Tm->β
 al:List Pt->List (List Int)
structure KndOk{β:Type}(k:Knd β):Prop where
 st:∀M,MOk M->Stab (k.bc M) (k.br M)
 cp:∀M,MOk M->∀p∈k.al M,Cp p
 al:∀M a,∀x∈k.bc M a,x.p∈k.al M
 ln:∀M,MOk M->(k.al M).length<=1000000
abbrev kP:Knd Us:=⟨bcP,brP,Qug⟩
structure At{β:Type}(k:Knd β)(M:List Pt)(q:Rat)(c:Cr):Prop where
 now:c.now=tq q
 st:KSt (k.bc M) (k.br M) c (k.br M (tq q))
section
variable{β:Type}{k:Knd β}(ok:KndOk k){M M':List Pt}{q t:Rat}{c:Cr}
include ok
end
end Orq
namespace Orq
open Orr Go
section
variable{M:List Pt}(hM:MOk M){a:Tm}(ha:Va a)
include hM ha
end
section
variable{M:List Pt}(hM:MOk M){a:Tm}(ha:Va a)
include hM ha
end
end Orq
namespace Orq
open Orr Go
structure DgC(D:Nat)(k:Crv):Prop where
 x:k.x.length<=D+1
 y:k.y.length<=D+1
section
variable{D:Nat}{a b c d:Crv}
end
section
variable{M:List Pt}{D:Nat}(hM:MOk M)(hd:∀p∈M,DgC D p.c)
include hM hd
end
end Orq
namespace Orq
open Orr Go
end Orq
namespace Orr
open Go Go.Proofs Tryz Orq
end Orr
namespace Orq
open Orr Go
section
variable{M:List Pt}(hM:MOk M){a:Tm}(ha:Va a)
include hM ha
end
end Orq
namespace Orr
open Go Go.Proofs Tryz Orq
set_option maxRecDepth 10000
abbrev gG(t:Tm):OB:=.blk 59 (ta t)
abbrev yP(p:Pt):OB:=.blk 76 (Sa p)
section
variable{M:List Pt}{t:Tm}(hd:Qub M)(hs:∀p∈M,Sc p.c)(hn:M.length≤1000000)(ht:Va t)
include hd hs hn ht
end
end Orr
namespace Orq
open Orr Go
variable{X Y:Pt->Rat}
section
variable{M:List Pt}{a:Tm}{q:Rat}(S:Soon M a q)
include S
theorem Qu2:∀x∈Qqc a (Qqz M),∀y∈Qqc a (Qqz M),y≠x->px y q≠px x q\/py y q≠py x q:=λx hx y hy hne=>by
 have key:∀(l:List Pt),l.Pairwise (lx (px · q) (py · q))->∀x∈l,∀y∈l,y≠x->lx (px · q) (py · q) x y\/lx (px · q) (py · q) y x:=by
  intro l
  induction l with
  |nil=>intro _ x hx;cases hx
  |
   cons w l ih =>
   intro h x hx y hy hne;obtain⟨h1,h2⟩:=Vk.1 h;rcases Qt.1 hx with e|hx'
   ·rcases Qt.1 hy with e'|hy'
    ·exact absurd (e'.trans e.symm) hne
    ·rw[e];exact .inl (h1 y hy')
   ·rcases Qt.1 hy with e'|hy'
    ·rw[e'];exact .inr (h1 x hx')
    ·exact ih h2 x hx' y hy' hne
 rcases key _ S.r x hx y hy hne with h|h <;> unfold lx at h <;> grind
end
end Orq
namespace Orq
open Orr Go
def Qmi(sg:Um->Int)(a b c:Pt):Prop:=Gl sg (Gh a.c b.c c.c)=0/\(Sl sg a c=true/\Sl sg c b=true\/Sl sg b c=true/\Sl sg c a=true)
def sX(sg:Um->Int)(a b c x:Pt):Prop:=Gl sg (Gh a.c b.c c.c)≠0/\0<=Gl sg (Gh a.c b.c x.c)*Gl sg (Gh a.c b.c c.c)/\0<=Gl sg (Gh b.c c.c x.c)*Gl sg (Gh a.c b.c c.c)/\0<=Gl sg (Gh c.c a.c x.c)*Gl sg (Gh a.c b.c c.c)
def MJ(sg:Um->Int)(x:Pt)(l:List Pt):Prop:=∀(i j:Nat) (a b:Pt),j<i->l[i]? = some a->l[j]? = some b->a.id≠x.id->b.id≠x.id->¬Qmi sg a b x/\∀(k:Nat) (c:Pt),k<j->l[k]? = some c->c.id≠x.id->¬sX sg a b c x
theorem eS{u v:Rat}:0<=Fj u*Fj v↔0<=u*v:=by
 rcases Gv u with⟨e1,h1⟩|⟨e1,h1⟩|⟨e1,h1⟩ <;> rcases Gv v with⟨e2,h2⟩|⟨e2,h2⟩|⟨e2,h2⟩ <;> rw[e1,e2]
 ·have:=Yz (show 0 < -u by grind) (show 0 < -v by grind);exact⟨λ_=>by grind,λ_=>by decide⟩
 ·rw[h2,Rat.mul_zero];exact⟨λ_=>Qk,λ_=>by decide⟩
 ·have:=Yz (show 0 < -u by grind) h2;exact⟨λh=>absurd h (by decide),λh=>by exfalso;grind⟩
 ·rw[h1,Rat.zero_mul];exact⟨λ_=>Qk,λ_=>by decide⟩
 ·rw[h1,Rat.zero_mul];exact⟨λ_=>Qk,λ_=>by decide⟩
 ·rw[h1,Rat.zero_mul];exact⟨λ_=>Qk,λ_=>by decide⟩
 ·have:=Yz h1 (show 0 < -v by grind);exact⟨λh=>absurd h (by decide),λh=>by exfalso;grind⟩
 ·rw[h2,Rat.mul_zero];exact⟨λ_=>Qk,λ_=>by decide⟩
 ·have:=Yz h1 h2;exact⟨λ_=>by grind,λ_=>by decide⟩
section
variable{M:List Pt}{a:Tm}{q:Rat}(S:Soon M a q)
include S
end
end Orq
namespace Orr
open Orq
end Orr
namespace Orq
open Orr Go
def Ht(s:Um)(i:Nat):Pt:=⟨⟨trim [(i:Int)],trim [s.getD i 0,(i:Int)],1⟩,10-(i:Int)⟩
end Orq
namespace Orr
end Orr
namespace Orq
open Orr Go
section
variable{α:Type}{s:α->α->α->Bool}{S:α->Prop}
end
def hfn(s:Um)(same:Bool)(i:Nat):Um:=if same=true then [3,2]else trim [s.getD i 0,(i:Int)]
def hpt(s:Um)(same:Bool)(i:Nat):Pt:=⟨⟨hfn s same i,S6 (hfn s same i) (hfn s same i),1⟩,(i:Int)⟩
def De(s:Um)(t:Int)(i:Nat):Int:=s.getD i 0+(i:Int)*t
end Orq
namespace Orq
open Orr Go
noncomputable def cd0(P:Prop):Bool := @decide P (Classical.propDecidable P)
theorem EU{P:Prop}(h:P):cd0 P=true := @decide_eq_true P (Classical.propDecidable P) h
theorem YP{P:Prop}(h:¬P):cd0 P=false := @decide_eq_false P (Classical.propDecidable P) h
def p3j(W:List Pt)(x:Pt)(i j:Nat):List P3:=Ib i W++(H6 j (W.drop (i+1))).map (λm=>(x,m))
def LD(W:List Pt)(x y:Pt)(i j k:Nat):List P3:=Ib i W++(H6 j (W.drop (i+1))++(((W.drop (i+1)).drop (j+1)).take k).map (λz=>(y,z))).map (λm=>(x,m))
theorem wC(W:List Pt)(x:Pt)(i:Nat):p3j W x i 0=Ib i W:=by simp[p3j,H6]
theorem wL(W:List Pt)(x y:Pt)(i j:Nat):LD W x y i j 0=p3j W x i j:=by simp[LD,p3j]
theorem Qfl{W:List Pt}{x y z:Pt}{i j k:Nat}(h:((W.drop (i+1)).drop (j+1))[k]? = some z):LD W x y i j (k+1)=LD W x y i j k++[(x,y,z)]:=by
 unfold LD;rw[Xd,h];simp
theorem Qk0{W:List Pt}{x y:Pt}{i j k:Nat}(hy:(W.drop (i+1))[j]? = some y)(hk:((W.drop (i+1)).drop (j+1)).length<=k):LD W x y i j k=p3j W x i (j+1):=by
 unfold LD p3j;rw[Qn hk,Ds _ j y hy]
theorem Qkz{W:List Pt}{x:Pt}{i j:Nat}(hx:W[i]? = some x)(hj:j=(W.drop (i+1)).length):p3j W x i j=Ib (i+1) W:=by
 unfold p3j;rw[hj,YJ W i x hx];rfl
theorem Qmb{W:List Pt}{i:Nat}(h:i=W.length):Ib i W=Lo W:=by rw[h];rfl
theorem VN:∀(k:Nat) (l:List Pt),∃r,Hi l=H6 k l++r
 | 0,l=>⟨Hi l,rfl⟩
 |k+1,[]=>⟨[],rfl⟩
 |
  k+1,x::l=>by
  obtain⟨r,h⟩:=VN k l;exact⟨r,by show l.map _++H6 l.length l=l.map _++H6 k l++r;rw[show H6 l.length l=Hi l from rfl,h,Zk]⟩
theorem DC:∀(k:Nat) (l:List Pt),∃r,Lo l=Ib k l++r
 | 0,l=>⟨Lo l,rfl⟩
 |k+1,[]=>⟨[],rfl⟩
 |
  k+1,x::l=>by
  obtain⟨r,h⟩:=DC k l;exact⟨r,by show(Hi l).map _++Ib l.length l=(Hi l).map _++Ib k l++r;rw[show Ib l.length l=Lo l from rfl,h,Zk]⟩
theorem Qk1{W:List Pt}(h6:W.length<=6){x y:Pt}{i j k:Nat}(hx:W[i]? = some x)(hy:(W.drop (i+1))[j]? = some y):(LD W x y i j k).length<=20:=by
 have h0:=(eP h6).1;obtain⟨r,hr⟩:=DC (i+1) W;rw[YJ W i x hx]at hr;obtain⟨r2,hr2⟩:=VN (j+1) (W.drop (i+1));rw[Ds _ j y hy]at hr2;have e1:=congrArg List.length hr;have e2:=congrArg List.length hr2;have e3:(((W.drop (i+1)).drop (j+1)).take k).length<=((W.drop (i+1)).drop (j+1)).length:=by rw[Qq];exact Nat.min_le_right _ _
 unfold LD;simp only[Q3,Q8]at e1 e2 ⊢;omega
theorem IA(p:Um)(q:Rat):-1<=Fy p q/\Fy p q<=1:=by
 rw[H7];unfold Fj
 split
 ·exact⟨by decide,by decide⟩
 ·split <;> exact⟨by decide,by decide⟩
theorem Qg4{p:Um}{a:Tm}{s:Int}(h:YO p a=some s):-1<=s/\s<=1:=by
 unfold YO at h
 split at h
 ·injection h with h;subst h;exact⟨by decide,by decide⟩
 ·split at h
  ·injection h with h;subst h;exact IA _ _
  ·obtain⟨g,_,h⟩:=Qi.1 h
   split at h
   ·injection h with h;subst h;exact⟨by decide,by decide⟩
   ·obtain⟨c,_,h⟩:=Qi.1 h;obtain⟨x,_,h⟩:=Qi.1 h;injection h with h;subst h;exact IA _ _
theorem Iq(a:Tm)(p:Um):-1<=Gl (Rh a) p/\Gl (Rh a) p<=1:=by
 have hs:∀p,-1<=Rh a p/\Rh a p<=1:=λp=>by
  unfold Rh;cases h:YO p a with
  |none=>exact⟨by decide,by decide⟩
  |some s=>exact Qg4 h
 have key:∀(k:Nat) (p:Um),-1<=Tf (Rh a) k p/\Tf (Rh a) k p<=1:=by
  intro k
  induction k with
  |zero=>intro p;exact⟨by simp[Tf],by simp[Tf]⟩
  |
   succ k ih =>
   intro p;simp only[Tf]
   split
   ·exact⟨by decide,by decide⟩
   ·split
    ·exact ih _
    ·exact hs p
 exact key _ p
end Orq
namespace Orr
open Go Go.Proofs Tryz Orq
set_option maxRecDepth 10000
def Qhx(sg:Um->Int)(a b c:Pt):Bool:=decide (Gl sg (Gh a.c b.c c.c)=0) && ((Sl sg a c && Sl sg c b) || (Sl sg b c && Sl sg c a))
theorem fE{sg:Um->Int}{a b c:Pt}:Qhx sg a b c=true↔Qmi sg a b c:=by
 unfold Qhx Qmi;simp
def Qep(sg:Um->Int)(a b c x:Pt):Bool := !decide (Gl sg (Gh a.c b.c c.c)=0) && (decide (0<=Gl sg (Gh a.c b.c x.c)*Gl sg (Gh a.c b.c c.c)) && (decide (0<=Gl sg (Gh b.c c.c x.c)*Gl sg (Gh a.c b.c c.c)) && decide (0<=Gl sg (Gh c.c a.c x.c)*Gl sg (Gh a.c b.c c.c))))
theorem wQ{sg:Um->Int}{a b c x:Pt}:Qep sg a b c x=true↔sX sg a b c x:=by
 unfold Qep sX;simp
section
variable{l:List Pt}{t:Tm}{x:Pt}
def Gd1(sg:Um->Int)(x:Pt)(l:List Pt)(j:Nat)(a b:Pt):Prop:=a.id≠x.id->b.id≠x.id->¬Qmi sg a b x/\∀(k:Nat) (c:Pt),k<j->l[k]? = some c->c.id≠x.id->¬sX sg a b c x
end
end Orr
namespace Orr
open Go Go.Proofs Tryz Orq
def Qjt(sg:Um->Int)(W:List Pt)(m:P3):Bool:=decide (Gl sg (Gh m.1.c m.2.1.c m.2.2.c)≠0) && W.all λd=>decide (d.id=m.1.id\/d.id=m.2.1.id\/d.id=m.2.2.id) || !decide (0<Gl sg (Gh m.1.c m.2.1.c m.2.2.c)*Gl sg (An m.1.c m.2.1.c m.2.2.c d.c))
end Orr
namespace Orr
open Go Go.Proofs Tryz Orq
set_option maxRecDepth 10000
def Qsi(M:List Pt)(x:Pt):Bool:=M.all λy=>decide (x.id<=y.id) || !WQ x.c y.c
section
variable{M:List Pt}{t:Tm}(hs:mI M)(hsc:∀p∈M,Sc p.c)(hn:M.length≤1000000)
include hsc hn
include hs in
end
end Orr
