import Derived.Test.YtenbfolapbibpaaGreatPart04
import Derived.Test.YtenbfolapbibpaaGreatPart00
set_option linter.all false
namespace Orr
open Go Go.Proofs Tryz
set_option maxRecDepth 10000
theorem rM{p q:U6}:U3 230 [pr p,pr q] [pr (Ao p q)]:=by
 by_cases h:0<p.length
 ·exact Uy func230 rfl [.t Fo] rfl (by simp only[Ao];rw[if_pos h]) trivial
 ·exact Uy func230 rfl [.f (by simp;exact Qi Fj)] rfl (by simp only[Ao];rw[if_neg h]) trivial
theorem Qed:U3 229 [.oi 1] [.oi 2]:=Uy func229 rfl [.t rfl,.t rfl] rfl
theorem Qee:U3 229 [.oi 2] [.oi 2]:=Uy func229 rfl [.f rfl,.t rfl] rfl
theorem Qef:U3 229 [.oi 3] [.oi 3]:=Uy func229 rfl [.f rfl,.f rfl,.t rfl] rfl
theorem Qeg:U3 229 [.oi 4] [.oi 4]:=Uy func229 rfl [.f rfl,.f rfl,.f rfl,.t rfl,.t rfl] rfl
theorem Qeh:U3 229 [.oi 5] [.oi 4]:=Uy func229 rfl [.f rfl,.f rfl,.f rfl,.f rfl,.t rfl] rfl
theorem Qhk{k i0 i1 i2 i3 l j0 j1 j2 j3:Int}:U3 267 [.agg [.int .i64 k,.int .i64 i0,.int .i64 i1,.int .i64 i2,.int .i64 i3],.agg [.int .i64 l,.int .i64 j0,.int .i64 j1,.int .i64 j2,.int .i64 j3]] [.one (.bool (Ly [k,i0,i1,i2,i3] [l,j0,j1,j2,j3]))]:=by
 by_cases hk:k=l
 ·subst hk;rw[show Ly [k,i0,i1,i2,i3] [k,j0,j1,j2,j3]=Ly [i0,i1,i2,i3] [j0,j1,j2,j3] from by simp[Ly]];refine G5 func267 rfl ?_;refine Uv [.f Fp] rfl ?_;refine U0 (S:=Nat) 2 (λL1 i=>(19,.v (.oi i))::L1) (λ_=>[.blk 166 [.int .i64 k,.int .i64 i0,.int .i64 i1,.int .i64 i2,.int .i64 i3],.blk 166 [.int .i64 k,.int .i64 j0,.int .i64 j1,.int .i64 j2,.int .i64 j3]]) (λi=>4-i) (λi=>i<=4/\Ly ([i0,i1,i2,i3].drop i) ([j0,j1,j2,j3].drop i)=Ly [i0,i1,i2,i3] [j0,j1,j2,j3]) 0 ⟨Fj,rfl⟩ rfl rfl λi ⟨hi,he⟩=>?_
  rw[<-he];rcases(show i=0\/i=1\/i=2\/i=3\/i=4 by omega)with rfl|rfl|rfl|rfl|rfl
  ·by_cases h:i0=j0
   ·exact go tt [.t rfl,.i 0,.i 0,.f (by simpa using h)] rfl Fw (rd 1 Fj ⟨Fj,by simp[Ly,h]⟩ rfl)
   ·exact Ux [.t rfl,.i 0,.i 0,.t (by simpa using h),.i 0] rfl (by simp[Ly,h]) trivial
  ·by_cases h:i1=j1
   ·exact go tt [.t rfl,.i 1,.i 1,.f (by simpa using h)] rfl Fw (rd 2 Fj ⟨Fj,by simp[Ly,h]⟩ rfl)
   ·exact Ux [.t rfl,.i 1,.i 1,.t (by simpa using h),.i 1] rfl (by simp[Ly,h]) trivial
  ·by_cases h:i2=j2
   ·exact go tt [.t rfl,.i 2,.i 2,.f (by simpa using h)] rfl Fw (rd 3 Fj ⟨Fj,by simp[Ly,h]⟩ rfl)
   ·exact Ux [.t rfl,.i 2,.i 2,.t (by simpa using h),.i 2] rfl (by simp[Ly,h]) trivial
  ·by_cases h:i3=j3
   ·exact go tt [.t rfl,.i 3,.i 3,.f (by simpa using h)] rfl Fw (rd 4 Fj ⟨Fj,by simp[Ly,h]⟩ rfl)
   ·exact Ux [.t rfl,.i 3,.i 3,.t (by simpa using h),.i 3] rfl (by simp[Ly,h]) trivial
  ·exact Ux [.f rfl] rfl (by simp[Ly]) trivial
 ·exact Uy func267 rfl [.t (by simpa using hk)] rfl (by simp[Ly,hk]) trivial
abbrev zCt:Fb:=[.int .i64 0,.int .i64 0,.int .i64 0,.int .i64 0,.int .i64 0,.nils,.int .i64 0]
def Gg(l:List Ct):Fc:=l.map Lt
variable{l:List Ct}
theorem YJ{i:Nat}{c:Ct}(h:l[i]? = some c):(Gg l)[i]? = some (Lt c):=Rm h
theorem Mx(l:List Ct):(Gg l).length=l.length:=by simp[Gg]
theorem QB(l:List Ct):∀c∈Gg l,c.length=7:=λc hc=>by
 obtain⟨x,_,rfl⟩:=Q8.1 hc;rfl
theorem Qlb{O:List Ct}{z:Fb}{c:Ct}{k m:Nat}{l2:Fc}(hk:k<=O.length)(hp:VT O c O.length=k)(hm:m=O.length-k)(h2:l2.take m=((Gg O++[z]).drop k).take m) :
 ((Gg O++[z]).take (k+1)++(l2.take m++(Gg O++[z]).drop (k+1+m))).set k (Lt c)=Gg (UI O c):=by
 rw[h2,<-Za,sM (Gg O) z (Lt c) (by rw[Mx];omega) (by rw[Mx];omega)];simp[UI,hp,Gg,Yf,Vd]
theorem SL(hl:∀c∈l,Pb c.p)(hn:l.length≤1000000):U3 224 [.one (.row (Gg l))] [.one (.row (Gg (Gu l)))]:=by
 have hcl:=Mx l;refine G5 func224 rfl ?_;refine Uv [.o 3 168 7] rfl ?_;refine U0 (S:=Nat) 1 (λL1 i=>(9,.v (.oi i))::(3,.v (.one (.orow 0 7 none)))::L1) (λi=>[.row false 168 7 (Gg (Gu (l.take i)))]) (λi=>l.length-i) (λi=>i<=l.length) 0 (Qg _) rfl rfl λi hi=>?_
 by_cases hlt:i<l.length
 ·obtain⟨c,hc⟩:=gxE (l:=l) (i:=i) hlt;have hst:=iJ hc;have hcp:=hl c (Qa hc);obtain⟨O,hO⟩:=nmE (Gu (l.take i));have hOl:O.length=i:=by rw[hO,Bt,Qq];omega
  rw[<-hO]at hst ⊢;refine Uv [.t (by simp[hcl];omega),.x (YJ hc)] rfl ?_;refine U0 (S:=Nat) 2 (λL1 k=>(6,.v (.oi k))::L1) (λk=>[.row false 168 7 (Gg O),.blk 168 (Lt c)]) id (λk=>k<=O.length/\VT O c k=VT O c O.length) (Gg O).length ⟨by rw[Mx];exact Qm _,by rw[Mx]⟩ rfl rfl λk ⟨hk,hp⟩=>?_
  have hz:∀y∈[zCt],y.length=7:=λy hy=>by rw[Ql.1 hy];rfl
  have h77:∀y∈Gg O++[zCt],y.length=7:=λy hy=>by
   rcases Qp.1 hy with hy|hy
   ·exact QB O y hy
   ·exact hz y hy
  cases k with
  |
   zero =>
   have hp:VT O c O.length=0:=by rw[<-hp];rfl
   refine go tt [.g 17 false Fp,.f rfl,.s (sz:=7) hz,.r 36 (eI (b:=((0+1:Nat):Int)) Fp),.i (0+1),.i (0),.s (sz:=7) (λy hy=>h77 y (Qn hy)),.i (O.length),.k (Ti hcp.t (by have:=hcp.l;omega) (Fz hcp.b Fj)),.i (0)] rfl (by simp[Gd,Mx];omega) ?_;exact rd (i+1) Fj hlt (by rw[hst,<-Qlb (z:=zCt) (l2:=(Gg O++[zCt]).take ((Gg O++[zCt]).length-0)) (k:=0) (m:=O.length) Fj hp Fj (by congr 1;exact Qo Fp)];rfl)
  |
   succ k =>
   obtain⟨x,hx⟩:=gxE (l:=O) (i:=k) Fj;by_cases hlc:sE c x=true
   ·refine go tt [.g 17 true Fp,.r 22 (eI (b:=(k:Int)) Fp),.i k,.x (YJ hx),.k Qhk,.t hlc,.r 29 (eI (b:=(k:Int)) Fp)] rfl (by simp[Gd,Mx];omega) ?_;exact rd k Fp ⟨Fj,by rw[<-hp,Qs5 hx hlc]⟩ rfl
   ·have hlc:sE c x=false:=by simpa using hlc
    have hp:VT O c O.length=k+1:=by rw[<-hp,Qms hx hlc]
    refine go tt [.g 17 true Fp,.r 22 (eI (b:=(k:Int)) Fp),.i k,.x (YJ hx),.k Qhk,.f hlc,.s (sz:=7) hz,.r 36 (eI (b:=((k+1+1:Nat):Int)) Fp),.i (k+1+1),.i (k+1),.s (sz:=7) (λy hy=>h77 y (Qx (Qn hy))),.i (O.length-(k+1)),.k (Ti hcp.t (by have:=hcp.l;omega) (Fz hcp.b Fj)),.i (k+1)] rfl (by simp[Gd,Mx];omega) ?_;exact rd (i+1) Fj hlt (by rw[hst,<-Qlb (z:=zCt) (l2:=((Gg O++[zCt]).drop (k+1)).take ((Gg O++[zCt]).length-(k+1))) (k:=k+1) (m:=O.length-(k+1)) Fj hp Fj (by congr 1;exact Qo Fp)];rfl)
 ·obtain rfl:i=l.length:=Fj;rw[Q6];exact Ux [.f (by simp[hcl])] rfl
end Orr
namespace Orr
def Gz(p:U6):Int:=p.getD (p.length-1) 0
def zO(p:U6):Option U6:=if p.length<=64/\(p.all λz=>Nat.ble (Gl z) 16777216)=true then some p else none
def chq(q:Rat):Option Rat:=if Gl q.num<=16777216/\Gl (q.den:Int)<=16777216 then some q else none
def Ms(p:U6):Int:=(Sx p:Nat)
def L6(p:U6)(c:Int):U6:=trim (p.map (· / c))
def Tf(p:U6):Int:=if Gz p<0 then -Ms p else Ms p
def Gq(p:U6):U6:=if p.length=0 then []else L6 p (Tf p)
def mono(i:Nat)(x:Int):U6:=List.replicate i 0++[x]
def mF(b:U6)(c:Int):Nat->U6×U6->U6×U6
 | 0,s=>s
 |
  i+1,(q,r) =>
  mF b c i (Eh (Gy q c) (mono i (if r.length=b.length+i then Gz r else 0)),B7 (Gy r c) (Hg (trim (mono i (if r.length=b.length+i then Gz r else 0))) b))
def Nu(a b:U6):U6:=(mF b (Gz b) (a.length+1-b.length) ([],a)).2
def Dq(a b r:U6):U6:=if (a.length+1-b.length) % 2=1/\Gz b<0 then Pp r else r
def UX(r:U6):U6:=if r.length=0 then []else L6 r (Ms r)
def S6(a b:U6):U6:=UX (Dq a b (Nu a b))
def uU(b:U6):Nat->U6->U6->Option U6
 | 0,a,q=>if a.length=0 then some q else none
 |i+1,a,q=>if a.length<b.length+i then uU b i a q else if Gz a % Gz b=0 then uU b i (B7 a (Hg (trim (mono i (Gz a / Gz b))) b)) (q.set i (Gz a / Gz b))else none
def VS(a b:U6):Option U6:=if b.length=0 then none else(uU b (a.length+1-b.length) a (List.replicate (a.length+1-b.length) 0)).bind λq=>zO (trim q)
def ME:Nat->U6->U6->Option U6
 | 0,_,_=>none
 |k+1,a,b=>if b.length=0 then some a else(zO (S6 a b)).bind λr=>ME k b r
def VM(a b:U6):Option U6:=(ME 66 (Gq a) (Gq b)).map Gq
def uG(a b:U6):Option U6:=(VM [] a).bind λg=>VM g b
def M4(a:U6):Option U6:=if (Gq a).length<2 then some (Gq a)else(zO (H5 (Gq a))).bind λd=>(VM (Gq a) d).bind λg=>VS (Gq a) g
def PE:Nat->U6->Option U7
 | 0,_=>none
 |k+1,g=>if g.length<2 then some []else(zO (H5 g)).bind λd=>(VM g d).bind λh=>(VS g h).bind λw=>(PE k h).bind λl=>some (w::l)
def qI:U7->Option U7
 | []=>some []
 | [w]=>some [w]
 |w::v::l=>(VS w v).bind λf=>(qI (v::l)).bind λr=>some (f::r)
def RP:Nat->U6->U7->Option U6
 |_,p,[]=>some p
 |i,p,f::l=>if i % 2=0 then(zO (Hg p f)).bind λq=>RP (i+1) q l else RP (i+1) p l
def aX(a:U6):Option U6:=if (Gq a).length=0 then some []else(PE 66 (Gq a)).bind λl=>(qI l).bind λfs=>RP 0 [1] fs
def bF:Nat->U6->U6->Option U7
 | 0,_,_=>none
 |k+1,a,b=>if b.length=0 then some []else(zO (S6 a b)).bind λr=>(bF k b (Pp r)).bind λl=>some (b::l)
def Lu(p:U6):Option U7:=(M4 p).bind λa=>if a.length=0 then none else(zO (H5 a)).bind λd=>(bF 66 a (Gq d)).bind λl=>some (a::l)
def Na(sg:U6->Int)(s:Nat×Int)(p:U6):Nat×Int:=if sg p=0 then s else(if s.2=-(sg p)then s.1+1 else s.1,sg p)
def Lp(sg:U6->Int)(l:U7):Nat:=(l.foldl (Na sg) (0,0)).1
def Lq(l:U7)(q:Rat):Nat:=Lp (λp=>Rp p q) l
def Pg(l:U7)(lo hi:Rat):Int:=if Rx hi lo<0 then 0 else(Lq l lo:Int)-(Lq l hi:Int)
def HG(p:U6):Int:=Int.sign (Gz p)
def JC(p:U6):Int:=if p.length % 2=0 then -Int.sign (Gz p)else Int.sign (Gz p)
def FN(l:U7):Int:=(Lp JC l:Int)-(Lp HG l:Int)
def most:U6->Nat:=λl=>l.foldl (λm z=>if m<z.natAbs then z.natAbs else m) 0
def H9(p:U6):Rat:=Rat.divInt (((Gz p).natAbs:Int)+(most (p.take (p.length-1)):Int)) ((Gz p).natAbs:Int)
def mid(a b:Rat):Rat:=Rat.divInt (a.num*(b.den:Int)+b.num*(a.den:Int)) ((a.den:Int)*(b.den:Int)*2)
def O8(p:U6)(c:U7):Nat->Rat->Rat->Int->Option (List Tm)
 | 0,_,_,_=>none
 |k+1,lo,hi,n=>if n=0 then some []else if n=1 then some [⟨p,lo,hi⟩]else(chq (mid lo hi)).bind λm=>(O8 p c k lo m (Pg c lo m)).bind λl=>(O8 p c k m hi (n-Pg c lo m)).bind λr=>some (l++r)
def BK(p:U6):Option (List Tm):=(Lu p).bind λc=>(M4 p).bind λq=>(chq (H9 q)).bind λb=>O8 q c 100000 (-b) b (FN c)
def Tm.point(a:Tm):Bool:=decide (0<=Rx a.lo a.hi)
def low(p:U6)(q:Rat):Int:=if Rp p q≠0 then Rp p q else Rp (H5 p) q
def HB(p:U6)(lo hi:Rat):Bool:=decide (Rp p hi=0\/Rp p hi≠low p lo)
def Gx(a:Tm)(t:Rat):Int :=
 if a.point=true then Rx a.lo t else if Rx t a.lo<=0 then 1 else if 0<Rx t a.hi then -1 else if Rp a.p t=0 then 0 else if Rp a.p t=low a.p a.lo then 1 else -1
def wK(a:Tm):Option Tm:=if a.point=true then some a else(chq (mid a.lo a.hi)).bind λm =>
 some (if Gx a m=0 then ⟨a.p,m,m⟩else if Gx a m=-1 then ⟨a.p,a.lo,m⟩else ⟨a.p,m,a.hi⟩)
def Rq(p:U6):Nat:=p.foldl (λn z=>max n (Gl z)) 0
def Nn(a b:Tm):Nat:=64+2*(Gl a.lo.num+Gl a.hi.num+Gl b.lo.num+Gl b.hi.num)+4*(a.p.length+b.p.length)*(Rq a.p+Rq b.p+(a.p.length+b.p.length)+8)
def OA(a b:Rat):Rat:=Rat.divInt (a.num*(b.den:Int)-b.num*(a.den:Int)) ((a.den:Int)*(b.den:Int))
def E3(a b:Tm):Bool:=decide (Rx a.hi b.lo<=0/\¬((a.point=true/\b.point=true)/\Rx a.hi b.lo=0))
def qB:Nat->Tm->Tm->Option (Tm×Tm×Int)
 | 0,a,b=>some (a,b,0)
 |
  k+1,a,b=>if E3 a b=true then some (a,b,-1)else if E3 b a=true then some (a,b,1)else
  if 0<=Rx (OA a.hi a.lo) (OA b.hi b.lo)then(wK a).bind λx=>qB k x b else(wK b).bind λx=>qB k a x
def GE(a b:Tm):Option Int:=if a.point=true then some (-Gx b a.lo)else if b.point=true then some (Gx a b.lo)else
 let lo:=if 0<Rx b.lo a.lo then b.lo else a.lo
 let hi:=if Rx b.hi a.hi<0 then b.hi else a.hi
 if Rx lo hi<0 then(uG a.p b.p).bind λg=>if 1<g.length/\HB g lo hi=true then some 0 else(qB (Nn a b) a b).bind λr=>some r.2.2
 else(qB (Nn a b) a b).bind λr=>some r.2.2
def sgF(c:U7):Nat->Tm->Option Tm
 | 0,a=>some a
 |k+1,a=>if a.point=true\/Pg c a.lo a.hi=0 then some a else(wK a).bind λx=>sgF c k x
def UV(p:U6)(a:Tm):Option Int:=if p.length=0 then some 0 else if a.point=true then some (Rp p a.lo)else
 (uG p a.p).bind λg=>if 1<g.length/\HB g a.lo a.hi=true then some 0 else(Lu p).bind λc=>(sgF c (64+2*(Gl a.lo.num+Gl a.hi.num)+4*(a.p.length+p.length)*(Rq a.p+Rq p+(a.p.length+p.length)+8)) a).bind λx=>some (Rp p x.hi)
def XD:Tm->List Tm->Option Tm
 |b,[]=>some b
 |b,a::l=>(GE a b).bind λc=>XD (if c<0 then a else b) l
def UZ(a:Tm):List Tm->Option (Option Tm)
 | []=>some none
 |r::l=>(GE r a).bind λc=>if 0<c then some (some r)else UZ a l
def GQ(p:U6):Option (List Tm):=(aX p).bind λq=>if q.length=0 then some []else BK q
def BZ(p:U6)(a:Tm):Option (Option Tm):=(GQ p).bind λl=>UZ a l
end Orr
namespace Orr
open Go Go.Proofs Tryz
set_option maxRecDepth 10000
variable{p:U6}
theorem A4(tp:Gk p)(h:p.length≠0):Gz p≠0:=Tt tp Fj
theorem IP(h:p.length≠0):Gz p∈p:=Qa (Sr Fj)
variable{s:Nat}
theorem Cd(h:Bd s p):Gl (Gz p)<=s:=G0 h _
theorem Il:∀z∈p,Ms p∣z:=YH
theorem VF(tp:Gk p)(h:p.length≠0):Ms p≠0:=λh0=>A4 tp h (Int.zero_dvd.1 (h0 ▸ Il _ (IP h)))
theorem KA(h:Bd 4294967295 p):Gl (Ms p)<=4294967295:=CE h
theorem Qci(tp:Gk p)(h:p.length≠0):Tf p≠0:=by
 have:=VF tp h;unfold Tf;split <;> omega
theorem TQ:∀z∈p,Tf p∣z:=λz hz=>by
 unfold Tf;split
 ·exact Uu.2 (Il z hz)
 ·exact Il z hz
theorem Qlg(h:Bd 4294967295 p):Gl (Tf p)<=4294967295:=by
 unfold Tf;split
 ·rw[Te];exact KA h
 ·exact KA h
theorem LN(h:Bd s p)(c:Int):Bd s (L6 p c):=Mg (SS h c)
theorem jG(p:U6)(c:Int):(L6 p c).length<=p.length:=Qc (Sw _) Fp
theorem JK(p:U6)(c:Int):Gk (L6 p c):=Sj _
theorem Qml(h:Pb p)(c:Int):Pb (L6 p c):=⟨JK _ _,Qc (jG _ _) h.l,LN h.b c⟩
theorem MV:Pb []:=⟨rfl,Fp,UG⟩
theorem Sv(h:Pb p):Pb (Gq p):=by
 unfold Gq;split
 ·exact MV
 ·exact Qml h _
theorem Pb.bd(h:Pb p):Bd 4294967295 p:=Fz h.b Fj
theorem Pb.ln(h:Pb p):p.length<274877906944:=Xe h.l Fj
theorem Pb.ln'(h:Pb p):p.length<8589934592:=Xe h.l Fj
variable{q:U6}
theorem XG(tp:Gk p)(h:zO p=some q):q=p/\Pb p:=by
 unfold zO at h
 split at h
 ·rename_i hc;injection h with h;refine⟨h.symm,tp,hc.1,λz hz=>?_⟩;have:=Jc.1 hc.2 z hz;exact Zi this
 ·cases h
theorem Qae{g:Int}(hl:p.length<274877906944)(hp:Bd 4294967295 p)(hg:Gl g≤4294967295)(h0:g≠0)(hd:∀z∈p,g∣z):U3 293 [pr p,.agg (Rj g)] [pr (L6 p g)]:=by
 refine G5 func293 rfl ?_;refine Uw [.r 9 (eI (b:=(p.length:Int)) Fp),.i p.length,.i p.length,.r 12 (eI (b:=(p.length:Int)) Fp)] rfl ?_;rw[I1 λk=>Rj (p.getD k 0 / g)];refine U0 (S:=Nat) 2 (λL1 k=>(13,.v (.oi k))::L1) (λk=>[.blk 35 (Rj g),.row false 35 2 (qS (λk=>Rj (p.getD k 0 / g)) [.bool false,.nils] p.length k)]) (λk=>p.length-k) (λk=>k<=p.length) 0 (Qg _) rfl rfl λk hk=>?_
 by_cases hlt:k<p.length
 ·have hg2:=Sr hlt;refine go tt [.t Fo,.x (M3 hg2),.k (Oq (Fy _) (Fy _) (G0 hp k) hg h0 (Yg (hd _ (Qa hg2)))),.i k] rfl (by simp[Gd,O2];omega) ?_;have e:=XM (λk=>Rj (p.getD k 0 / g)) [.bool false,.nils] hlt;rw[e];exact rd (k+1) Fj hlt rfl
 ·obtain rfl:k=p.length:=Fj;have e:qS (λk=>Rj (p.getD k 0 / g)) [.bool false,.nils] p.length p.length=(p.map (· / g)).map Rj:=by
   rw[XP];refine X4 λi=>?_
   by_cases hi:i<p.length
   ·simp[Jl hi,List.getD,Qf hi]
   ·simp[Qy,hi]
  rw[e];exact Ux [.f Fp,.k (D5 (Rk (p.map (· / g))) (by simp;exact hl) (SS hp g))] rfl
theorem SB(hl:p.length<8589934592)(hp:Bd 4294967295 p):U3 291 [.one (.row [[pl p]])] [.agg (Rj (Ms p))]:=by
 refine G5 func291 rfl ?_;refine Uv [.o 3 35 2] rfl ?_;refine U0 (S:=Nat) 2 (λL1 i=>(8,.v (.oi i))::(3,.v (.one (.orow 1 2 none)))::L1) (λi=>[.blk 35 [.bool false,.nils],.row false 35 2 (if i=0 then []else p.map Rj)]) (λi=>1-i) (λi=>i<=1) 0 (Qg _) rfl rfl λi hi=>?_
 rcases(show i=0\/i=1 by omega)with rfl|rfl
 ·refine Uw [.t rfl,.x (i:=0) (xs:=[pl p]) rfl,.s (OW p)] rfl ?_;exact rd 1 Fj Fj rfl
 ·exact Ux [.f rfl,.k (Qhg (Rk p) hp)] rfl
theorem Qiy(tp:Gk p)(hl':p.length<8589934592)(hp:Bd 4294967295 p):U3 252 [pr p] [.agg (Rj (if p.length=0 then 0 else Tf p)),pr (Gq p)]:=by
 have hl:p.length<274877906944:=Fj;have cn:=Ti tp hl hp;by_cases h0:p.length=0
 ·have e:p=[]:=Qi h0;subst e;exact Uy func252 rfl [.k cn,.t rfl] rfl (by simp[Af,Gq];rfl) trivial
 ·have hpf:Gq p=L6 p (Tf p):=by unfold Gq;rw[if_neg h0]
  rw[if_neg h0,hpf];have co:=Qae hl hp (Qlg hp) (Qci tp h0) TQ;by_cases hneg:Gz p<0
  ·have e:Tf p=-Ms p:=by unfold Tf;rw[if_pos hneg]
   rw[e]at co ⊢;exact Uy func252 rfl [.k cn,.f (by simpa using h0),.k (SB hl' hp),.k (En tp hl hp),.t (by simpa[Gz]using hneg),.k (EQ (Fy _) (KA hp)),.k co] rfl
  ·have e:Tf p=Ms p:=by unfold Tf;rw[if_neg hneg]
   rw[e]at co ⊢;exact Uy func252 rfl [.k cn,.f (by simpa using h0),.k (SB hl' hp),.k (En tp hl hp),.f (by simpa[Gz]using hneg),.k co] rfl
theorem Ot(hp:Pb p):U3 289 [pr p] [pr (Gq p)] :=
 Uy func289 rfl [.k (Qiy hp.t hp.ln' hp.bd)] rfl
theorem Np(p:U6):U3 119 [pr p] [.oi ((p.length:Int)-1)]:=by
 have h:U3 119 [pr p] [.oi (((p.map Rj).length:Int)-1)]:=G5 func119 rfl (ln 0 rfl rfl λhl=>Ux [] rfl rfl (by simp[Gd]at hl ⊢;omega));rw[Ze]at h;exact h
theorem ZJ(i:Nat)(x:Int):(mono i x).length=i+1:=by simp[mono]
variable{i:Nat}{x:Int}
theorem LP(h:Gl x<=s):Bd s (mono i x):=λz hz=>by
 simp only[mono,Qp,Ql]at hz;rcases hz with hz|rfl
 ·rw[(List.mem_replicate.1 hz).2,Ce];exact Qg _
 ·exact h
def stq(c:Int)(i:Nat)(x:Int)(q:U6):U6:=Eh (Gy q c) (mono i x)
def str(b:U6)(c:Int)(i:Nat)(x:Int)(r:U6):U6:=B7 (Gy r c) (Hg (trim (mono i x)) b)
variable{c:Int}
theorem Qwh{u t:Nat}(hq:Bd u q)(hc:Gl c<=t)(hx:Gl x<=u):Bd (u+t+8) (stq c i x q) :=
 Fz (KV (Hi hq hc) (LP hx)) Fj
theorem Qsc:(stq c i x q).length<=max q.length (i+1):=by
 have h:=ZQ (Gy q c) (mono i x);have h1:=G8 q c;rw[ZJ]at h;unfold stq;omega
variable{b:U6}
theorem wH:(Hg (trim (mono i x)) b).length<=i+b.length:=by
 have h:=Pm (trim (mono i x)) b;have h1:=Sw (mono i x);rw[ZJ]at h1;omega
theorem oK{u t:Nat}(hb:Bd t b)(hx:Gl x<=u)(hi:i<=64):Bd (u+t+7) (Hg (trim (mono i x)) b) :=
 Mv (Mg (LP hx)) hb (Xe (Sw _) (by rw[ZJ];omega))
variable{r:U6}
theorem cJ{u t:Nat}(hr:Bd u r)(hb:Bd t b)(hc:Gl c<=t)(hx:Gl x<=u)(hi:i<=64):Bd (u+t+8) (str b c i x r) :=
 Fz (El (Hi hr hc) (oK hb hx hi)) Fj
theorem wR:(str b c i x r).length<=max r.length (i+b.length):=by
 have h:=Cg (Gy r c) (Hg (trim (mono i x)) b);have h1:=G8 r c;have h2:=wH (i:=i) (x:=x) (b:=b);unfold str;omega
theorem pW(i:Nat)(x:Int):((List.replicate (i+1) (0:Int)).map Rj).set i (Rj x)=(mono i x).map Rj:=by
 rw[aZ,mono];congr 1;refine X4 λj=>?_
 simp only[Y8,List.getElem?_append,Yi,Jx];by_cases h:j=i
 ·subst h;simp
 ·rw[if_neg Fj];by_cases h2:j<i
  ·simp[h2];omega
  ·rw[if_neg Fj,if_neg h2];cases hj:j-i with
   |zero=>omega
   |succ m=>simp
theorem Qb4(i:Nat){y:Fb}(h:y.map RF=Rj x):(((List.replicate (i+1) [LV.bool false,LV.nils]).set i y).map λc=>c.map RF)=(mono i x).map Rj:=by
 rw[Kc,DC,h];exact pW i x
theorem VP(hx:x=if r.length=b.length+i then Gz r else 0):mF b c (i+1) (q,r)=mF b c i (stq c i x q,str b c i x r):=by
 subst hx;rfl
theorem Qhw{a:U6}(ha:Pb a)(hb:Pb b)(h0:b.length≠0):U3 294 [pr a,pr b] [pr (mF b (Gz b) (a.length+1-b.length) ([],a)).1,pr (Nu a b),.oi ((a.length+1-b.length:Nat):Int),.oi 0]:=by
 have hal:=ha.l;have hbl:=hb.l;have hlb:Gl (Gz b)<=16777216:=Cd hb.b;obtain⟨c,hc⟩:=nmE (Gz b);have cl:=En hb.t hb.ln hb.bd;rw[show b.getD (b.length-1) 0=c from hc.symm]at cl;obtain⟨k,hk⟩:=nmE (a.length+1-b.length);unfold Nu;rw[<-hc,<-hk];rw[<-hc]at hlb;refine G5 func294 rfl ?_;refine Uw [.z 4,.k (Ti ha.t ha.ln ha.bd),.k (Ti hb.t hb.ln hb.bd),.f (by simpa using h0),.k cl,.k (Np a),.k (Np b),.r 27 (eI (b:=(k:Int)) Fj)] rfl ?_;refine U0 (S:=Nat×U6×U6) 1 (λL1 s=>(4,.v (pr s.2.1))::(5,.v (pr s.2.2))::(9,.v (.oi ((s.1:Int)-1)))::L1) (λ_=>[.blk 35 (Rj c)]) (λs=>s.1) (λs=>s.1<=k/\Gk s.2.2/\s.2.1.length<=66/\s.2.2.length<=a.length/\Bd (16777216+(k-s.1)*16777224) s.2.1/\Bd (16777216+(k-s.1)*16777224) s.2.2/\mF b c s.1 s.2=mF b c k ([],a)) (k,[],a) ⟨Qm _,ha.t,Fp,Qm _,UG,by simpa using ha.b,rfl⟩ rfl rfl λ⟨i,q,r⟩ ⟨j1,j2,j3,j4,j5,j6,j7⟩=>?_
 dsimp only at j1 j2 j3 j4 j5 j6 j7 ⊢;rw[<-j7];cases i with
 |zero=>exact Ux [.f Fp] rfl
 |
  succ i =>
  obtain⟨x,hx⟩:=nmE (if r.length=b.length+i then Gz r else 0);obtain⟨u,hu⟩:=nmE (16777216+(k-(i+1))*16777224);rw[<-hu]at j5 j6;have hub:u<=1107296256:=by
   have:(k-(i+1))*16777224<=64*16777224:=Q3 _ Fj;omega
  have hxs:Gl x<=u:=by
   rw[hx];split
   ·exact Cd j6
   ·rw[Ce];exact Qg _
  have cs:=M6 (p:=q) (c:=c) Fj (Fz j5 Fj) Fj;have cs2:=M6 (p:=r) (c:=c) Fj (Fz j6 Fj) Fj;have l1:=G8 q c;have l2:=G8 r c;have ca:=EJ (p:=Gy q c) (q:=mono i x) Fj (by rw[ZJ];omega) (Fz (Hi j5 hlb) Fj) (Fz (LP hxs) Fj);have cm:=vL (p0:=mono i x) hb.t (by rw[ZJ];omega) Fj (LP hxs) hb.b Fj;have l3:=wH (i:=i) (x:=x) (b:=b);have cb:=SD (p:=Gy r c) (q:=Hg (trim (mono i x)) b) Fj Fj (Fz (Hi j6 hlb) Fj) (Fz (oK hb.b hxs Fj) Fj);have hst:=VP (b:=b) (c:=c) (q:=q) hx;have hI:i<=k/\Gk (str b c i x r)/\(stq c i x q).length<=66/\(str b c i x r).length<=a.length/\Bd (16777216+(k-i)*16777224) (stq c i x q)/\Bd (16777216+(k-i)*16777224) (str b c i x r):=by
   have l5:=Qsc (c:=c) (x:=x) (i:=i) (q:=q);have l6:=wR (c:=c) (x:=x) (i:=i) (b:=b) (r:=r);have hku:u+16777216+8=16777216+(k-i)*16777224:=by
    rw[hu,show k-i=(k-(i+1))+1 from Fj,Jn];omega
   refine⟨Fj,Gw _ _,Fj,Fj,?_,?_⟩
   ·rw[<-hku];exact Qwh j5 hlb hxs
   ·rw[<-hku];exact cJ j6 hb.b hlb hxs Fj
  rw[hst];by_cases h:r.length=b.length+i
  ·refine Uw [.t (by simp <;> omega),.k (Np r),.k (Np b),.t Fo,.k (En j2 Fj (Fz j6 Fj)),.r 44 (eI (b:=((i+1:Nat):Int)) Fj),.i (i+1),.i (i+1),.r 47 (eI (b:=(i:Int)) Fj),.i i] rfl ?_;refine nl 2 rfl rfl rfl ?_;rw[Qb4 i (x:=x) (by rw[hx,if_pos h];rfl)];refine Uw [.k cs,.k ca,.k cs2,.k cm,.k cb,.r 33 (eI (b:=(i:Int)-1) Fj)] rfl ?_;exact rd (i,stq c i x q,str b c i x r) Ft ⟨hI.1,hI.2.1,hI.2.2.1,hI.2.2.2.1,hI.2.2.2.2.1,hI.2.2.2.2.2,rfl⟩ rfl
  ·refine Uw [.t (by simp <;> omega),.k (Np r),.k (Np b),.f Fo,.r 44 (eI (b:=((i+1:Nat):Int)) Fj),.i (i+1),.i (i+1),.r 47 (eI (b:=(i:Int)) Fj),.i i] rfl ?_;refine nl 2 rfl rfl rfl ?_;rw[Qb4 i (x:=x) (by rw[hx,if_neg h,Af];rfl)];refine Uw [.k cs,.k ca,.k cs2,.k cm,.k cb,.r 33 (eI (b:=(i:Int)-1) Fj)] rfl ?_;exact rd (i,stq c i x q,str b c i x r) Ft ⟨hI.1,hI.2.1,hI.2.2.1,hI.2.2.2.1,hI.2.2.2.2.1,hI.2.2.2.2.2,rfl⟩ rfl
theorem Qmv{b:U6}{c:Int}(hb:Bd 16777216 b)(hc:Gl c<=16777216){n:Nat}:∀(i u:Nat) (q r:U6),i<=64->i+b.length<=n+1->Gk r->r.length<=n->Bd u r->Gk (mF b c i (q,r)).2/\(mF b c i (q,r)).2.length<=n/\Bd (u+i*16777224) (mF b c i (q,r)).2
 | 0,u,q,r,_,_,h1,h2,h3=>⟨h1,h2,by simpa[mF]using h3⟩
 |
  i+1,u,q,r,hi,hn,h1,h2,h3=>by
  rw[VP rfl];have hx:Gl (if r.length=b.length+i then Gz r else 0)<=u:=by
   split
   ·exact Cd h3
   ·rw[Ce];exact Qg _
  have l6:=wR (c:=c) (x:=if r.length=b.length+i then Gz r else 0) (i:=i) (b:=b) (r:=r);have:=Qmv hb hc (n:=n) i (u+16777216+8) (stq c i (if r.length=b.length+i then Gz r else 0) q) (str b c i (if r.length=b.length+i then Gz r else 0) r) Fj Fj (Gw _ _) Fj (cJ h3 hb hc hx Fj);exact⟨this.1,this.2.1,Fz this.2.2 Fj⟩
theorem Qcl{a:U6}(ha:Pb a)(hb:Pb b)(h0:b.length≠0):Gk (Nu a b)/\(Nu a b).length<=a.length/\Bd 1107296256 (Nu a b):=by
 have hal:=ha.l;by_cases h:b.length<=a.length+1
 ·obtain⟨h1,h2,h3⟩:=Qmv hb.b (Cd hb.b) (n:=a.length) (a.length+1-b.length) 16777216 [] a Fj Fj ha.t (Qm _) ha.b;refine⟨h1,h2,Fz h3 ?_⟩;have:(a.length+1-b.length)*16777224<=64*16777224:=Q3 _ Fj;omega
 ·have e:Nu a b=a:=by unfold Nu;rw[show a.length+1-b.length=0 from Fj];rfl
  rw[e];exact⟨ha.t,Qm _,Fz ha.b Fj⟩
theorem TY{a:U6}{n:Nat}(h1:Gk r)(h2:r.length<=n)(h3:Bd s r):Gk (Dq a b r)/\(Dq a b r).length<=n/\Bd s (Dq a b r):=by
 unfold Dq;split
 ·exact⟨Gw _ _,Qc (ZZ r) h2,CJ h3⟩
 ·exact⟨h1,h2,h3⟩
theorem OF{n:Nat}(h2:r.length<=n)(h3:Bd s r):Gk (UX r)/\(UX r).length<=n/\Bd s (UX r):=by
 unfold UX;split
 ·exact⟨rfl,Fp,UG⟩
 ·exact⟨JK _ _,Qc (jG _ _) h2,LN h3 _⟩
theorem TX{a:U6}(ha:Pb a)(hb:Pb b)(h0:b.length≠0):Gk (S6 a b)/\(S6 a b).length<=a.length/\Bd 1107296256 (S6 a b):=by
 obtain⟨h1,h2,h3⟩:=Qcl ha hb h0;obtain⟨h4,h5,h6⟩:=TY (a:=a) (b:=b) h1 h2 h3;exact OF h5 h6
theorem Qh1{a:U6}(ha:Pb a)(hb:Pb b)(h0:b.length≠0):U3 253 [pr a,pr b] [pr (S6 a b),.oi 0]:=by
 obtain⟨h1,h2,h3⟩:=Qcl ha hb h0;obtain⟨h4,h5,h6⟩:=TY (a:=a) (b:=b) h1 h2 h3;have hal:=ha.l;have cp:=Qhw ha hb h0;have cl:=En hb.t hb.ln hb.bd;have cn:=Qhs (p:=Nu a b) Fj (Fz h3 Fj);unfold S6;obtain⟨r,hr⟩:=nmE (Dq a b (Nu a b));have cc:=SB (p:=r) (by rw[hr];omega) (by rw[hr];exact Fz h6 Fj);rw[<-hr]at h4 h5 h6 ⊢;obtain⟨k,hk⟩:=nmE (a.length+1-b.length);rw[<-hk]at cp;have em:((k:Int).tmod 2)=((k % 2:Nat):Int):=by rw[Vq Fj];omega
 have key:UX r=if r.length=0 then []else L6 r (Ms r):=rfl
 by_cases hz:r.length=0
 ·rw[key,if_pos hz];by_cases hodd:k % 2=1
  ·by_cases hneg:Gz b<0
   ·have e:r=Pp (Nu a b):=by rw[hr];unfold Dq;rw[if_pos ⟨by rw[<-hk];exact hodd,hneg⟩]
    rw[e]at hz;exact Uy func253 rfl [.k cp,.f Fp,.r 22 (eI em),.t Fo,.k cl,.t (by simpa[Gz]using hneg),.k cn,.t (by simpa using hz)] rfl rfl Fw
   ·have e:r=Nu a b:=by rw[hr];unfold Dq;rw[if_neg (λh=>hneg h.2)]
    rw[e]at hz;exact Uy func253 rfl [.k cp,.f Fp,.r 22 (eI em),.t Fo,.k cl,.f (by simpa[Gz]using hneg),.t (by simpa using hz)] rfl rfl Fw
  ·have e:r=Nu a b:=by rw[hr];unfold Dq;rw[if_neg (λh=>hodd (by rw[hk];exact h.1))]
   rw[e]at hz;exact Uy func253 rfl [.k cp,.f Fp,.r 22 (eI em),.f Fo,.f rfl,.t (by simpa using hz)] rfl rfl Fw
 ·rw[key,if_neg hz];have cd:=Qae (p:=r) (g:=Ms r) Fj (Fz h6 Fj) (KA (Fz h6 Fj)) (VF h4 hz) Il;by_cases hodd:k % 2=1
  ·by_cases hneg:Gz b<0
   ·have e:r=Pp (Nu a b):=by rw[hr];unfold Dq;rw[if_pos ⟨by rw[<-hk];exact hodd,hneg⟩]
    rw[e]at hz cc cd ⊢;exact Uy func253 rfl [.k cp,.f Fp,.r 22 (eI em),.t Fo,.k cl,.t (by simpa[Gz]using hneg),.k cn,.f (by simpa using hz),.k cc,.k cd] rfl rfl Fw
   ·have e:r=Nu a b:=by rw[hr];unfold Dq;rw[if_neg (λh=>hneg h.2)]
    rw[e]at hz cc cd ⊢;exact Uy func253 rfl [.k cp,.f Fp,.r 22 (eI em),.t Fo,.k cl,.f (by simpa[Gz]using hneg),.f (by simpa using hz),.k cc,.k cd] rfl rfl Fw
  ·have e:r=Nu a b:=by rw[hr];unfold Dq;rw[if_neg (λh=>hodd (by rw[hk];exact h.1))]
   rw[e]at hz cc cd ⊢;exact Uy func253 rfl [.k cp,.f Fp,.r 22 (eI em),.f Fo,.f rfl,.f (by simpa using hz),.k cc,.k cd] rfl rfl Fw
variable{x:Int}
theorem Qsa{s:Nat}(h:Gl x<=s)(g:Int):Gl (x / g)<=s:=SS (p:=[x]) (λz hz=>by rw[Ql.1 hz];exact h) g _ Fp
def sta(b:U6)(i:Nat)(x:Int)(a:U6):U6:=B7 a (Hg (trim (mono i x)) b)
variable{b a:U6}
theorem Qwg{u t i:Nat}(ha:Bd u a)(hb:Bd t b)(hx:Gl x<=u)(hi:i<=64):Bd (u+t+8) (sta b i x a) :=
 Fz (El ha (oK hb hx hi)) Fj
theorem Qbv{i:Nat}:(sta b i x a).length<=max a.length (i+b.length):=by
 have h:=Cg a (Hg (trim (mono i x)) b);have h2:=wH (i:=i) (x:=x) (b:=b);unfold sta;omega
theorem Qpu(s n:Nat):Bd s (List.replicate n 0):=λz hz=>by rw[(List.mem_replicate.1 hz).2,Ce];exact Qg _
theorem Qwf{s i:Nat}{l:U6}(h:Bd s l)(hx:Gl x<=s):Bd s (l.set i x):=λz hz=>by
 rcases J9 hz with hz|rfl
 ·exact h z hz
 ·exact hx
theorem Qhq{q:U6}(ha:Pb a)(hb:Pb b)(h:VS a b=some q):U3 311 [pr a,pr b] [pr q,.oi 0]:=by
 unfold VS at h
 split at h
 ·cases h
 rename_i h0;obtain⟨k,hk⟩:=nmE (a.length+1-b.length);rw[<-hk]at h;obtain⟨q',hq,hq2⟩:=Qe.1 h;obtain⟨rfl,hpb⟩:=XG (Sj _) hq2;have hal:=ha.l;have hbl:=hb.l;refine G5 func311 rfl ?_;refine Uw [.k (Ti ha.t ha.ln ha.bd),.k (Ti hb.t hb.ln hb.bd),.f (by simpa using h0),.r 24 (eI (b:=(k:Int)) Fo),.i k,.i k,.r 27 (eI (b:=(k:Int)) Fp)] rfl ?_;refine nl 0 rfl rfl rfl ?_;rw[DC];refine U0 (S:=Nat×U6×U6) 1 (λL1 s=>(0,.v (pr s.2.1))::(7,.v (.oi ((s.1:Int)-1)))::L1) (λs=>[.row false 35 2 (s.2.2.map Rj)]) (λs=>s.1) (λs=>s.1<=k/\Gk s.2.1/\s.2.1.length<=a.length/\Bd (16777216+(k-s.1)*16777224) s.2.1/\s.2.2.length=k/\Bd 1107296256 s.2.2/\uU b s.1 s.2.1 s.2.2=some q') (k,a,List.replicate k 0) ⟨Qm _,ha.t,Qm _,by simpa using ha.b,Fp,Qpu _ _,hq⟩ rfl rfl λ⟨i,A,Q⟩ ⟨j1,j2,j3,j4,j5,j7,j6⟩=>?_
 dsimp only at j1 j2 j3 j4 j5 j6 j7 ⊢;cases i with
 |
  zero =>
  simp only[uU]at j6
  split at j6
  ·rename_i hA;injection j6 with j6;subst j6;exact Ux [.f Fp,.f (by simpa using hA),.k (D5 (Rk Q) Fj (Fz j7 Fj))] rfl
  ·cases j6
 |
  succ i =>
  obtain⟨u,hu⟩:=nmE (16777216+(k-(i+1))*16777224);rw[<-hu]at j4;have hub:u<=1107296256:=by
   have:(k-(i+1))*16777224<=64*16777224:=Q3 _ Fj;omega
  have hku:u+16777216+8=16777216+(k-i)*16777224:=by
   rw[hu,show k-i=(k-(i+1))+1 from Fj,Jn];omega
  simp only[uU]at j6;by_cases hlt:A.length<b.length+i
  ·rw[if_pos hlt]at j6;refine Uw [.t (by simp <;> omega),.k (Np A),.k (Np b),.t Fo,.r 32 (eI (b:=(i:Int)-1) Fj)] rfl ?_;exact rd (i,A,Q) Ft ⟨Ft,j2,j3,Fz j4 Ft,j5,j7,j6⟩ rfl
  ·rw[if_neg hlt]at j6
   split at j6
   ·rename_i hdv;obtain⟨x,hx⟩:=nmE (Gz A / Gz b);rw[<-hx]at j6;have hxs:Gl x<=u:=by rw[hx];exact Qsa (Cd j4) _
    have ce:=Oq (Fy (Gz A)) (Fy (Gz b)) (Qc (Cd j4) Fj) (Qc (Cd hb.b) Fj) (A4 hb.t h0) hdv;rw[<-hx]at ce;have cm:U3 182 [.one (.row ((mono i x).map Rj)),pr b] [pr (Hg (trim (mono i x)) b)]:=vL (p0:=mono i x) hb.t (by rw[ZJ];omega) Fj (LP hxs) hb.b Fj;have l3:=wH (i:=i) (x:=x) (b:=b);have l4:=Qbv (i:=i) (x:=x) (b:=b) (a:=A);have cb:=SD (p:=A) (q:=Hg (trim (mono i x)) b) Fj Fj (Fz j4 Fj) (Fz (oK hb.b hxs Fj) Fj);refine Uw [.t (by simp <;> omega),.k (Np A),.k (Np b),.f Fo,.k (En j2 Fj (Fz j4 Fj)),.k (En hb.t hb.ln hb.bd),.k ce,.f rfl,.r 51 (eI (b:=(i:Int)) Fj),.i i,.r 55 (eI (b:=((i+1:Nat):Int)) Fj),.i (i+1),.i (i+1),.r 58 (eI (b:=(i:Int)) Fj)] rfl ?_;refine nl 2 rfl rfl rfl ?_;rw[DC,aZ];rw[<-pW i x]at cm;refine Uw [.i i,.k cm,.k cb,.r 32 (eI (b:=(i:Int)-1) Fj)] rfl ?_;exact rd (i,sta b i x A,Q.set i x) Ft ⟨Ft,Gw _ _,Ft,by dsimp only;rw[<-hku];exact Qwg j4 hb.b hxs Fj,by simpa using j5,Qwf j7 (Nat.le_trans hxs hub),j6⟩ rfl
   ·cases j6
theorem eO{q:U6}(h:VS a b=some q):Pb q:=by
 unfold VS at h
 split at h
 ·cases h
 ·obtain⟨q',_,hq2⟩:=Qe.1 h;obtain⟨rfl,hpb⟩:=XG (Sj _) hq2;exact hpb
theorem Qi3{q:U6}(ha:Pb a)(hb:Pb b)(h:VS a b=some q):U3 290 [pr a,pr b] [pr q] :=
 Uy func290 rfl [.k (Qhq ha hb h)] rfl
theorem fS:∀{k:Nat} {a b g:U6},Pb a->Pb b->ME k a b=some g->Pb g
 | 0,_,_,_,_,_,h=>by cases h
 |
  k+1,a,b,g,ha,hb,h=>by
  simp only[ME]at h
  split at h
  ·injection h with h;subst h;exact ha
  ·rename_i h0;obtain⟨r,hr,h⟩:=Qe.1 h;obtain⟨rfl,hpb⟩:=XG (TX ha hb h0).1 hr;exact fS hb hpb h
theorem Qam{g:U6}(ha:Pb a)(hb:Pb b)(h:VM a b=some g):U3 249 [pr a,pr b] [pr g]:=by
 unfold VM at h;obtain⟨g',h2,rfl⟩:=Vl.1 h;have hg:=fS (Sv ha) (Sv hb) h2;refine G5 func249 rfl ?_;refine Uv [.k (Ot ha),.k (Ot hb)] rfl ?_;refine U0 (S:=Nat×U6×U6) 0 (λL1 s=>(0,.v (pr s.2.1))::(1,.v (pr s.2.2))::L1) (λ_=>[]) (λs=>s.1) (λs=>Pb s.2.1/\Pb s.2.2/\ME s.1 s.2.1 s.2.2=some g') (66,Gq a,Gq b) ⟨Sv ha,Sv hb,h2⟩ rfl rfl λ⟨k,A,C⟩ ⟨j1,j2,j3⟩=>?_
 dsimp only at j1 j2 j3 ⊢;cases k with
 |zero=>cases j3
 |
  succ k =>
  simp only[ME]at j3
  split at j3
  ·rename_i h0;injection j3 with j3;subst j3;exact Ux [.f (by simpa using h0),.k (Ot j1)] rfl
  ·rename_i h0;obtain⟨r,hr,j3⟩:=Qe.1 j3;obtain⟨rfl,hpb⟩:=XG (TX j1 j2 h0).1 hr;refine Uv [.t Fo,.k (Qh1 j1 j2 h0)] rfl ?_;exact rd (k,C,S6 A C) Ft ⟨j2,hpb,j3⟩ rfl
theorem MW{g:U6}(ha:Pb a)(hb:Pb b)(h:VM a b=some g):Pb g:=by
 unfold VM at h;obtain⟨g',h2,rfl⟩:=Vl.1 h;exact Sv (fS (Sv ha) (Sv hb) h2)
theorem Qhr{g:U6}(ha:Pb a)(hb:Pb b)(h:uG a b=some g):U3 200 [.one (.row (Mp [a,b]))] [pr g]:=by
 unfold uG at h;obtain⟨g1,h1,h2⟩:=Qe.1 h;have hg1:=MW MV ha h1;refine G5 func200 rfl ?_;refine Uv [.z 3] rfl ?_;refine U0 (S:=Nat) 0 (λL1 i=>(8,.v (.oi i))::(3,.v (pr (if i=0 then []else if i=1 then g1 else g)))::L1) (λ_=>[]) (λi=>2-i) (λi=>i<=2) 0 (Qg _) rfl rfl λi hi=>?_
 rcases(show i=0\/i=1\/i=2 by omega)with rfl|rfl|rfl
 ·refine Uv [.t rfl,.x (Si (i:=0) (p:=a) rfl),.k (Qam MV ha h1)] rfl ?_ Fw;exact rd 1 Fj Fj rfl
 ·refine Uv [.t rfl,.x (Si (i:=1) (p:=b) rfl),.k (Qam hg1 hb h2)] rfl ?_ Fw;exact rd 2 Fj Fj rfl
 ·exact Ux [.f rfl] rfl
theorem Qmi{g:U6}(ha:Pb a)(hb:Pb b)(h:uG a b=some g):Pb g:=by
 unfold uG at h;obtain⟨g1,h1,h2⟩:=Qe.1 h;exact MW (MW MV ha h1) hb h2
variable{p:U6}
theorem OJ{d:U6}(h:zO (H5 p)=some d):d=H5 p/\Pb (H5 p):=XG (Gw _ _) h
theorem EK{g:U6}(ha:Pb a)(h:M4 a=some g):U3 251 [pr a] [pr g]:=by
 have hp:=Sv ha;unfold M4 at h
 split at h
 ·rename_i h0;injection h with h;subst h;exact Uy func251 rfl [.k (Ot ha),.k (Np _),.t Fo] rfl
 ·rename_i h0;obtain⟨d,h1,h⟩:=Qe.1 h;obtain⟨rfl,hd⟩:=OJ h1;obtain⟨g1,h1,h⟩:=Qe.1 h;exact Uy func251 rfl [.k (Ot ha),.k (Np _),.f Fo,.k (QS hp.ln hp.bd),.k (Qam hp hd h1),.k (Qi3 hp (MW hp hd h1) h)] rfl
theorem MK{g:U6}(ha:Pb a)(h:M4 a=some g):Pb g:=by
 unfold M4 at h
 split at h
 ·injection h with h;subst h;exact Sv ha
 ·obtain⟨d,h1,h⟩:=Qe.1 h;obtain⟨g1,h1,h⟩:=Qe.1 h;exact eO h
theorem Qmj(h:Pb p):Pb (Pp p):=⟨Gw _ _,Qc (ZZ p) h.l,CJ h.b⟩
theorem dM:∀{k:Nat} {a b:U6} {l:U7},Pb a->Pb b->bF k a b=some l->l.length≤k/\∀p∈l,Pb p
 | 0,_,_,_,_,_,h=>by cases h
 |
  k+1,a,b,l,ha,hb,h=>by
  simp only[bF]at h
  split at h
  ·injection h with h;subst h;exact⟨Fp,λp hp=>by cases hp⟩
  ·rename_i h0;obtain⟨r,hr,h⟩:=Qe.1 h;obtain⟨rfl,hpb⟩:=XG (TX ha hb h0).1 hr;obtain⟨l',h1,h⟩:=Qe.1 h;injection h with h;subst h;obtain⟨i1,i2⟩:=dM hb (Qmj hpb) h1;refine⟨by simp;exact i1,λp hp=>?_⟩;rcases Qk.1 hp with rfl|hp
   ·exact hb
   ·exact i2 p hp
theorem chain_ok{l:U7}(hp:Pb p)(h:Lu p=some l):l.length≤67/\∀q∈l,Pb q:=by
 unfold Lu at h;obtain⟨a,h1,h⟩:=Qe.1 h;have ha:=MK hp h1
 split at h
 ·cases h
 ·obtain⟨d,h2,h⟩:=Qe.1 h;obtain⟨rfl,hd⟩:=OJ h2;obtain⟨l',h3,h⟩:=Qe.1 h;injection h with h;subst h;obtain⟨i1,i2⟩:=dM ha (Sv hd) h3;refine⟨Fo,λp hp=>?_⟩;rcases Qk.1 hp with rfl|hp
  ·exact ha
  ·exact i2 p hp
theorem OU(l:U7)(p:U6):Mp l++[[pl p]]=Mp (l++[p]):=by simp[Mp]
theorem Io(l:U7):(Mp l).length=l.length:=by simp[Mp]
theorem Qh4{l:U7}(hp:Pb p)(h:Lu p=some l):U3 202 [pr p] [.one (.sh [.row (Mp l)]),.oi 0]:=by
 unfold Lu at h;obtain⟨a,h1,h⟩:=Qe.1 h;have ha:=MK hp h1
 split at h
 ·cases h
 rename_i h0;obtain⟨d,h2,h⟩:=Qe.1 h;obtain⟨rfl,hd⟩:=OJ h2;obtain⟨l',h3,h⟩:=Qe.1 h;injection h with h;subst h;refine G5 func202 rfl ?_;refine Uv [.k (EK hp h1),.f (by simpa using h0),.lo,.k (QS ha.ln ha.bd),.k (Qiy hd.t hd.ln' hd.bd)] rfl ?_ Fw;obtain⟨z,hz⟩:=nmE (if (H5 a).length=0 then 0 else Tf (H5 a));rw[<-hz];refine sb [(4,.v (pr a)),(7,.v (pr (Gq (H5 a)))),(5,.v (.one (.ow 1 0)))] [.row false 32 1 [[pl a]],.blk 323 [.orow 0 1 none],.blk 35 (Rj z)] rfl rfl ?_;have hll:=(dM ha (Sv hd) h3).1;refine U0 (S:=Nat×U7×U6×U6) 3 (λL1 s=>(4,.v (pr s.2.2.1))::(7,.v (pr s.2.2.2))::L1) (λs=>[.row false 32 1 (Mp s.2.1),.blk 323 [.orow 0 1 none],.blk 35 (Rj z)]) (λs=>s.1) (λs=>Pb s.2.2.1/\Pb s.2.2.2/\∃m,bF s.1 s.2.2.1 s.2.2.2=some m/\s.2.1++m=a::l') (66,[a],a,Gq (H5 a)) ⟨ha,Sv hd,l',h3,rfl⟩ rfl rfl λ⟨k,out,A,C⟩ ⟨j1,j2,m,j3,j4⟩=>?_
 dsimp only at j1 j2 j3 j4 ⊢;have hol:out.length<=67:=by have:=congrArg List.length j4;simp at this;omega
 cases k with
 |zero=>cases j3
 |
  succ k =>
  simp only[bF]at j3
  split at j3
  ·rename_i h0;injection j3 with j3;subst j3;rw[Zw]at j4;rw[<-j4];exact Ux [.f (by simpa using h0)] rfl
  ·rename_i h0;obtain⟨r,hr,j3⟩:=Qe.1 j3;obtain⟨rfl,hpb⟩:=XG (TX j1 j2 h0).1 hr;obtain⟨m',j6,j5⟩:=Qe.1 j3;injection j5 with j5;subst j5;refine go tt [.t Fo,.s (sz:=1) (λc hc=>by rw[Ql.1 hc];rfl),.k (Qh1 j1 j2 h0),.k (Qhs hpb.ln hpb.bd)] rfl (by simp[Gd,Io];omega) ?_;exact rd (k,out++[C],C,Pp (S6 A C)) Ft ⟨j2,Qmj hpb,m',j6,by rw[<-j4];simp⟩ (by rw[OU];rfl)
structure Tb(t:Tm):Prop where
 p:Pb t.p
 lo:Qb t.lo
 hi:Qb t.hi
theorem Qax(x y:Int):-1<=E5 x y/\E5 x y<=1:=by unfold E5;split <;> (try split) <;> omega
theorem XH(a b:Rat):-1<=Rx a b/\Rx a b<=1:=Qax _ _
theorem ZM(p:U6)(q:Rat):-1<=Rp p q/\Rp p q<=1:=Qax _ _
theorem eZ(p:U6)(q:Rat):-1<=low p q/\low p q<=1:=by unfold low;split <;> exact ZM _ _
variable{q:Rat}
theorem Qb.s31(h:Qb q):Qs 2147483647 q:=h.mono Fl
theorem Qb.s32(h:Qb q):Qs 4294967295 q:=h.mono Fl
variable{p:U6}
theorem BP(hp:Pb p)(hq:Qb q):U3 199 [pr p,.agg (rl q)] [.oi (Rp p q)]:=by
 have hm:p.length*(16777216+1)<=64*16777217:=Q3 _ hp.l;exact oP hp.t hp.ln hp.b hq Fj
theorem Q07(hp:Pb p)(hq:Qb q):U3 199 [pr (H5 p),.agg (rl q)] [.oi (Rp (H5 p) q)]:=by
 have hl:=Qc (Cf p) (show p.length-1<=64 by have:=hp.l;omega);have hm:(H5 p).length*(16777216+1)<=64*16777217:=Q3 _ hl;exact oP (Gw _ _) (Xe hl Fj) (vN (t:=6) hp.b hp.l) hq Fj
variable{t:Tm}
theorem E4(ht:Tb t):U3 198 [.agg (ta t)] [.one (.bool t.point)] :=
 Uy func198 rfl [.k (Ee ht.lo.s31 ht.hi.s31)] rfl
theorem CG(ht:Tb t):U3 197 [.agg (ta t)] [.agg (ta t)] :=
 Uy func197 rfl [.k (Ti ht.p.t ht.p.ln ht.p.bd),.k (Cx ht.lo.s32),.k (Cx ht.hi.s32)] rfl
theorem Qja(ht:Tb t):U3 268 [.agg (ta t)] [.agg (ta t)]:=Uy func268 rfl [.k (CG ht)] rfl
theorem Qir(hp:Pb p)(hq:Qb q):U3 250 [pr p,.agg (rl q)] [.oi (low p q)]:=by
 unfold low;by_cases h:Rp p q=0
 ·rw[if_neg (by simpa using h)];exact Uy func250 rfl [.k (BP hp hq),.f (by simpa using h),.k (QS hp.ln hp.bd),.k (Q07 hp hq)] rfl
 ·rw[if_pos h];exact Uy func250 rfl [.k (BP hp hq),.t (by simpa using h)] rfl
theorem Qip{lo hi:Rat}(hp:Pb p)(hl:Qb lo)(hh:Qb hi):U3 201 [pr p,.agg (rl lo),.agg (rl hi)] [.one (.bool (HB p lo hi))]:=by
 by_cases h:Rp p hi=0
 ·exact Uy func201 rfl [.k (BP hp hh),.t (by simpa using h)] rfl (by simp[HB,h]) trivial
 ·exact Uy func201 rfl [.k (BP hp hh),.f (by simpa using h),.k (Qir hp hl)] rfl (by simp[HB,h]) trivial
theorem Ec(ht:Tb t)(hq:Qb q):U3 227 [.agg (ta t),.agg (rl q)] [.oi (Gx t q)]:=by
 have cp:=E4 ht;unfold Gx;by_cases h1:t.point=true
 ·rw[if_pos h1];exact Uy func227 rfl [.k cp,.t h1,.k (Ee ht.lo.s31 hq.s31)] rfl
 rw[if_neg h1];have h1:t.point=false:=by simpa using h1
 have c1:=Ee hq.s31 ht.lo.s31;have c2:=Ee hq.s31 ht.hi.s31;by_cases h2:Rx q t.lo<=0
 ·rw[if_pos h2];exact Uy func227 rfl [.k cp,.f h1,.k c1,.t (by simpa using h2)] rfl
 rw[if_neg h2];by_cases h3:0<Rx q t.hi
 ·rw[if_pos h3];exact Uy func227 rfl [.k cp,.f h1,.k c1,.f (by simpa using h2),.k c2,.t (by simpa using h3)] rfl
 rw[if_neg h3];by_cases h4:Rp t.p q=0
 ·rw[if_pos h4];exact Uy func227 rfl [.k cp,.f h1,.k c1,.f (by simpa using h2),.k c2,.f (by simpa using h3),.k (BP ht.p hq),.t (by simpa using h4)] rfl
 rw[if_neg h4];by_cases h5:Rp t.p q=low t.p t.lo
 ·rw[if_pos h5];exact Uy func227 rfl [.k cp,.f h1,.k c1,.f (by simpa using h2),.k c2,.f (by simpa using h3),.k (BP ht.p hq),.f (by simpa using h4),.k (Qir ht.p ht.lo),.t (by simpa using h5)] rfl
 ·rw[if_neg h5];exact Uy func227 rfl [.k cp,.f h1,.k c1,.f (by simpa using h2),.k c2,.f (by simpa using h3),.k (BP ht.p hq),.f (by simpa using h4),.k (Qir ht.p ht.lo),.f (by simpa using h5)] rfl
theorem Qrk(t:Tm)(q:Rat):-1<=Gx t q/\Gx t q<=1:=by
 unfold Gx;have:=XH t.lo q
 repeat' split
 all_goals omega
theorem Qrr(q:Rat):0<(q.den:Int):=by have:=q.den_pos;omega
theorem Qu1{a b:Rat}(ha:Qb a)(hb:Qb b):U3 257 [.agg (rl a),.agg (rl b)] [.agg (rl (mid a b))]:=by
 have h1:Gl (a.num*(b.den:Int))<=33554432:=Qc (Hb _ _) (by have:=ha.1;have:=hb.2;omega);have h2:Gl (b.num*(a.den:Int))<=33554432:=Qc (Hb _ _) (by have:=hb.1;have:=ha.2;omega);have h3:Gl ((a.den:Int)*(b.den:Int))<=33554432:=Qc (Hb _ _) (by have:=ha.2;have:=hb.2;omega);have h4:Gl (2:Int)<=2:=Fl;have h5:Gl (a.num*(b.den:Int)+b.num*(a.den:Int))<=33554433:=Qc (XC _ _) Fj;have h6:Gl ((a.den:Int)*(b.den:Int)*2)<=33554434:=Qc (Hb _ _) Fj;have h0:(a.den:Int)*(b.den:Int)*2≠0:=by
  have:=Int.mul_pos (Qrr a) (Qrr b);omega
 exact Uy func257 rfl [.k (kQ ha.s31 hb.s31),.k (UP (Fy _) (Fy _) Fj Fj),.k (EZ (z:=2) Fl),.k (Nj (Fy _) (Fy _) Fj Fj),.k (YQ h0 Fj Fj)] rfl
theorem kY{a b:Rat}(ha:Qb a)(hb:Qb b):U3 269 [.agg (rl a),.agg (rl b)] [.agg (rl (OA a b))]:=by
 have h1:Gl (a.num*(b.den:Int))<=33554432:=Qc (Hb _ _) (by have:=ha.1;have:=hb.2;omega);have h2:Gl (b.num*(a.den:Int))<=33554432:=Qc (Hb _ _) (by have:=hb.1;have:=ha.2;omega);have h3:Gl ((a.den:Int)*(b.den:Int))<=33554432:=Qc (Hb _ _) (by have:=ha.2;have:=hb.2;omega);have h5:Gl (a.num*(b.den:Int)-b.num*(a.den:Int))<=33554433:=Qc (wG _ _) Fj;have h0:(a.den:Int)*(b.den:Int)≠0:=by
  have:=Int.mul_pos (Qrr a) (Qrr b);omega
 exact Uy func269 rfl [.k (kQ ha.s31 hb.s31),.k (Qif (Fy _) (Fy _) Fj Fj),.k (YQ h0 Fj Fj)] rfl
theorem ED{r:Rat}(h:chq q=some r):r=q/\Qb q:=by
 unfold chq at h
 split at h
 ·rename_i hc;injection h with h;exact⟨h.symm,hc⟩
 ·cases h
theorem dF{u:Tm}(ht:Tb t)(h:wK t=some u):U3 205 [.agg (ta t)] [.agg (ta u)]:=by
 have cp:=E4 ht;unfold wK at h
 split at h
 ·rename_i h1;injection h with h;subst h;exact Uy func205 rfl [.k cp,.t h1] rfl
 ·rename_i h1;have h1:t.point=false:=by simpa using h1
  obtain⟨m,hm0,h⟩:=Qe.1 h;obtain⟨rfl,hm⟩:=ED hm0;injection h with h;subst h;have cm:=Qu1 ht.lo ht.hi;have cc:=Ec ht hm;by_cases h2:Gx t (mid t.lo t.hi)=0
  ·rw[if_pos h2];exact Uy func205 rfl [.k cp,.f h1,.k cm,.k cc,.t (by simpa using h2)] rfl
  rw[if_neg h2];by_cases h3:Gx t (mid t.lo t.hi)=-1
  ·rw[if_pos h3];exact Uy func205 rfl [.k cp,.f h1,.k cm,.k cc,.f (by simpa using h2),.t (by simpa using h3)] rfl
  ·rw[if_neg h3];exact Uy func205 rfl [.k cp,.f h1,.k cm,.k cc,.f (by simpa using h2),.f (by simpa using h3)] rfl
theorem fV{u:Tm}(ht:Tb t)(h:wK t=some u):Tb u:=by
 unfold wK at h
 split at h
 ·injection h with h;subst h;exact ht
 ·obtain⟨m,hm0,h⟩:=Qe.1 h;obtain⟨rfl,hm⟩:=ED hm0;injection h with h;subst h
  repeat' split
  ·exact⟨ht.p,hm,hm⟩
  ·exact⟨ht.p,ht.lo,hm⟩
  ·exact⟨ht.p,hm,ht.hi⟩
variable{z:Int}
theorem XJ(h:Gl z<=4294967296):U3 242 [.one (mg z)] [.oi (Gl z:Int)]:=by
 have h1:=cI (l:=He z.natAbs) (Ak _) (by rw[Ro];exact h);rw[Ro]at h1;exact h1
theorem OP{i:Nat}(h:p[i]? = some z):Rq (p.take (i+1))=max (Rq (p.take i)) (Gl z):=by
 unfold Rq;rw[List.take_succ,h,Option.toList_some,List.foldl_append];rfl
theorem Bb{p:U6}{s:Nat}(h:Bd s p):∀i,Rq (p.take i)<=s
 | 0=>by simp[Rq]
 |
  i+1=>by
  cases hz:p[i]? with
  |
   none =>
   rw[Qo (by have:=J6.1 hz;omega),<-Qo (l:=p) (i:=i) (by have:=J6.1 hz;omega)];exact Bb h i
  |some z=>rw[OP hz];have:=Bb h i;have:=Qg6 h hz;omega
theorem kV(hp:Pb p):U3 255 [pr p] [.oi (Rq p:Int)]:=by
 have hl:=hp.l;refine G5 func255 rfl ?_;refine Uv [] rfl ?_;refine U0 (S:=Nat) 0 (λL1 i=>(8,.v (.oi i))::(3,.v (.oi (Rq (p.take i):Int)))::L1) (λ_=>[]) (λi=>p.length-i) (λi=>i<=p.length) 0 (Qg _) rfl rfl λi hi=>?_
 by_cases hlt:i<p.length
 ·have hg:=Sr hlt;have hz:=G0 hp.b i;have hs:=OP hg;refine Uw [.t Fo,.x (M3 hg),.k (XJ Fj),.r 16 (eI (b:=(Rq (p.take (i+1)):Int)) (by rw[hs];omega))] rfl ?_;exact rd (i+1) Fj hlt rfl
 ·obtain rfl:i=p.length:=Fj;rw[Q6];exact Ux [.f Fp] rfl
theorem Qra{a:Tm}{b:Tm}(ha:Tb a)(hb:Tb b):U3 203 [.agg (ta a),.agg (ta b)] [.oi (Nn a b:Nat)]:=by
 have l1:=ha.p.l;have l2:=hb.p.l;have b1:=ha.lo.1;have b2:=ha.hi.1;have b3:=hb.lo.1;have b4:=hb.hi.1;have s1:Rq a.p<=16777216:=by have:=Bb ha.p.b a.p.length;rwa[Q6]at this
 have s2:Rq b.p<=16777216:=by have:=Bb hb.p.b b.p.length;rwa[Q6]at this
 obtain⟨N,hN⟩:=nmE (4*(a.p.length+b.p.length));obtain⟨S,hS⟩:=nmE (Rq a.p+Rq b.p+(a.p.length+b.p.length)+8);have hNS:N*S<=512*33554568:=Zg Fj Fj;have h0:(N:Int)*(S:Int)=((N*S:Nat):Int):=(V2 _ _).symm;have hst:Nn a b=64+2*(Gl a.lo.num+Gl a.hi.num+Gl b.lo.num+Gl b.hi.num)+N*S:=by rw[hN,hS];rfl
 rw[hst];exact Uy func203 rfl [.k (XJ (z:=a.lo.num) Fj),.k (XJ (z:=a.hi.num) Fj),.k (XJ (z:=b.lo.num) Fj),.k (XJ (z:=b.hi.num) Fj),.r 41 (eI (b:=(N:Int)) (by rw[hN];simp)),.k (kV ha.p),.k (kV hb.p),.r 51 (eI (b:=(S:Int)) (by rw[hS];simp)),.r 52 (eI (b:=((N*S:Nat):Int)) h0)] rfl Fp (by rw[h0];simp[Gd];omega)
def iU(p:U6)(a:Tm):Nat:=64+2*(Gl a.lo.num+Gl a.hi.num)+4*(a.p.length+p.length)*(Rq a.p+Rq p+(a.p.length+p.length)+8)
theorem oU:U3 242 [lr []] [.oi 0]:=cI (l:=[]) (by simp[Sm]) Fl
theorem Qi7{a:Tm}(ha:Tb a)(hp:Pb p):U3 203 [.agg (ta a),.agg ([pl p,.bool false,.row [],.bool false,.row [],.bool false,.row [],.bool false,.row []])] [.oi (iU p a:Nat)]:=by
 have l1:=ha.p.l;have l2:=hp.l;have b1:=ha.lo.1;have b2:=ha.hi.1;have s1:Rq a.p<=16777216:=by have:=Bb ha.p.b a.p.length;rwa[Q6]at this
 have s2:Rq p<=16777216:=by have:=Bb hp.b p.length;rwa[Q6]at this
 obtain⟨N,hN⟩:=nmE (4*(a.p.length+p.length));obtain⟨S,hS⟩:=nmE (Rq a.p+Rq p+(a.p.length+p.length)+8);have hNS:N*S<=512*33554568:=Zg Fj Fj;have h0:(N:Int)*(S:Int)=((N*S:Nat):Int):=(V2 _ _).symm;have hst:iU p a=64+2*(Gl a.lo.num+Gl a.hi.num)+N*S:=by rw[hN,hS];rfl
 rw[hst];exact Uy func203 rfl [.k (XJ (z:=a.lo.num) Fj),.k (XJ (z:=a.hi.num) Fj),.k oU,.k oU,.r 41 (eI (b:=(N:Int)) (by rw[hN];simp)),.k (kV ha.p),.k (kV hp),.r 51 (eI (b:=(S:Int)) (by rw[hS];simp)),.r 52 (eI (b:=((N*S:Nat):Int)) h0)] rfl Fp (by rw[h0];simp[Gd];omega)
def WE(sg:U6->Int)(l:U7)(i:Nat):Nat×Int:=(l.take i).foldl (Na sg) (0,0)
theorem fG{sg:U6->Int}(hs:∀p,-1<=sg p/\sg p<=1)(l:U7):∀i,(WE sg l i).1<=i/\-1<=(WE sg l i).2/\(WE sg l i).2<=1
 | 0=>⟨Qm _,show(-1:Int)<=0 by decide,show(0:Int)<=1 by decide⟩
 |
  i+1=>by
  obtain⟨h1,h2,h3⟩:=fG hs l i;cases h:l[i]? with
  |
   none =>
   have:WE sg l (i+1)=WE sg l i:=by unfold WE;rw[List.take_of_length_le (by have:=List.getElem?_eq_none_iff.1 h;omega),List.take_of_length_le (List.getElem?_eq_none_iff.1 h)]
   rw[this];omega
  |
   some p =>
   have:WE sg l (i+1)=Na sg (WE sg l i) p:=Px _ _ _ h;rw[this];have:=hs p;unfold Na
   split
   ·omega
   ·dsimp only;split <;> omega
variable{l:U7}
theorem Qrd{fid:Nat}{l1:Fb}{sg:U6->Int}(hl:l.length≤1000)(hs:∀p,-1≤sg p/\sg p≤1)(h:∀p∈l,qM prog fid [pr p,.one (.sh l1)] [.oi (sg p)]):U3 296 [.one (.sh [.row (Mp l)]),.one (.fn fid [] [.sh l1])] [.oi (Lp sg l:Nat)]:=by
 have Dz:=Io l;refine G5 func296 rfl ?_;refine Uv [] rfl ?_;refine U0 (S:=Nat) 0 (λL1 i=>(15,.v (.oi i))::(5,.v (.oi ((WE sg l i).1:Int)))::(6,.v (.one (.int .i64 (WE sg l i).2)))::L1) (λ_=>[]) (λi=>l.length-i) (λi=>i<=l.length) 0 (Qg _) rfl rfl λi hi=>?_
 by_cases hlt:i<l.length
 ·obtain⟨p,hp⟩:=gxE (l:=l) (i:=i) hlt;have hst:WE sg l (i+1)=Na sg (WE sg l i) p:=Px _ _ _ hp;obtain⟨b1,b2,b3⟩:=fG hs l i;have b4:=hs p;by_cases h0:sg p=0
  ·refine Uw [.t (by simp[Dz];omega),.x (Si hp),.k (h p (Qa hp)),.t (by simpa using h0)] rfl ?_;exact rd (i+1) Fj hlt (by rw[hst,show Na sg (WE sg l i) p=WE sg l i from by unfold Na;rw[if_pos h0]];rfl)
  ·by_cases h1:(WE sg l i).2=-(sg p)
   ·refine Uw [.t (by simp[Dz];omega),.x (Si hp),.k (h p (Qa hp)),.f (by simpa using h0),.t (by simpa using h1)] rfl ?_;exact rd (i+1) Fj hlt (by rw[hst,show Na sg (WE sg l i) p=((WE sg l i).1+1,sg p) from by unfold Na;rw[if_neg h0,if_pos h1]];rfl)
   ·refine Uw [.t (by simp[Dz];omega),.x (Si hp),.k (h p (Qa hp)),.f (by simpa using h0),.f (by simpa using h1)] rfl ?_;exact rd (i+1) Fj hlt (by rw[hst,show Na sg (WE sg l i) p=((WE sg l i).1,sg p) from by unfold Na;rw[if_neg h0,if_neg h1]];rfl)
 ·obtain rfl:i=l.length:=Fj;refine Ux [.f (by simp[Dz])] rfl ?_ trivial;unfold WE Lp;rw[List.take_length]
variable{q:Rat}
theorem Qid{p:U6}(hp:Pb p)(hq:Qb q):U3 297 [pr p,.one (.sh (rl q))] [.oi (Rp p q)]:=Uy func297 rfl [.k (BP hp hq)] rfl
theorem oL(hl:l.length≤1000)(hp:∀p∈l,Pb p)(hq:Qb q):U3 256 [.one (.sh [.row (Mp l)]),.agg (rl q)] [.oi (Lq l q:Nat)] :=
 Uy func256 rfl [.k (Qrd (fid:=297) (l1:=rl q) (sg:=λp=>Rp p q) hl (λp=>ZM p q) λp h=>Qid (hp p h) hq)] rfl
theorem Am{sg:U6->Int}(hs:∀p,-1<=sg p/\sg p<=1)(l:U7):Lp sg l<=l.length:=by
 have:=(fG hs l l.length).1;unfold WE at this;rwa[List.take_length]at this
theorem zH{lo hi:Rat}(hl:l.length≤1000)(hp:∀p∈l,Pb p)(ql:Qb lo)(qh:Qb hi):U3 204 [.one (.sh [.row (Mp l)]),.agg (rl lo),.agg (rl hi)] [.oi (Pg l lo hi)]:=by
 have b1:Lq l lo<=l.length:=Am (λp=>ZM p lo) l;have b2:Lq l hi<=l.length:=Am (λp=>ZM p hi) l;have c1:=Ee qh.s31 ql.s31;unfold Pg;by_cases h:Rx hi lo<0
 ·rw[if_pos h];exact Uy func204 rfl [.k c1,.t (by simpa using h)] rfl
 ·rw[if_neg h];exact Uy func204 rfl [.k c1,.f (by simpa using h),.k (oL hl hp ql),.k (oL hl hp qh)] rfl rfl Fu
def zTm:Fb:=[.nils,.bool false,.nils,.bool false,.nils,.bool false,.nils,.bool false,.nils]
theorem Qf6{a b:Tm}(ha:Tb a)(hb:Tb b):Nn a b<=17179938816+200000000:=by
 have l1:=ha.p.l;have l2:=hb.p.l;have b1:=ha.lo.1;have b2:=ha.hi.1;have b3:=hb.lo.1;have b4:=hb.hi.1;have s1:Rq a.p<=16777216:=by have:=Bb ha.p.b a.p.length;rwa[Q6]at this
 have s2:Rq b.p<=16777216:=by have:=Bb hb.p.b b.p.length;rwa[Q6]at this
 have:4*(a.p.length+b.p.length)*(Rq a.p+Rq b.p+(a.p.length+b.p.length)+8)<=512*33554568:=Zg Fj Fj;unfold Nn;omega
theorem Qtf{a b:Rat}(ha:Qb a)(hb:Qb b):Qs 2147483647 (OA a b):=by
 have h1:Gl (a.num*(b.den:Int))<=33554432:=Qc (Hb _ _) (by have:=ha.1;have:=hb.2;omega);have h2:Gl (b.num*(a.den:Int))<=33554432:=Qc (Hb _ _) (by have:=hb.1;have:=ha.2;omega);have h3:Gl ((a.den:Int)*(b.den:Int))<=33554432:=Qc (Hb _ _) (by have:=ha.2;have:=hb.2;omega);have h5:Gl (a.num*(b.den:Int)-b.num*(a.den:Int))<=33554433:=Qc (wG _ _) Fj;exact(Qs.divInt (s:=33554433) h5 Fj Fj).mono Fj
theorem vA{a b:Tm}{r:Tm×Tm×Int}(ha:Tb a)(hb:Tb b)(h:qB (Nn a b) a b=some r):U3 228 [.agg (ta a),.agg (ta b)] [.agg (ta r.1),.agg (ta r.2.1),.oi r.2.2]:=by
 have hsb:=Qf6 ha hb;refine G5 func228 rfl ?_;refine Uv [.k (Qra ha hb)] rfl ?_;obtain⟨n,hn⟩:=nmE (Nn a b);rw[<-hn]at h hsb ⊢;refine sb [(10,.v (.oi 0)),(9,.v (.oi n)),(5,.v (.one (.ow 3 0))),(4,.v (.one (.ow 2 0))),(3,.v (.one (.ow 1 0))),(2,.v (.one (.ow 0 0)))] [.blk 75 (ta a),.blk 75 (ta b),.blk 75 zTm,.blk 75 zTm] rfl rfl ?_;refine U0 (S:=Nat×Tm×Tm) 4 (λL1 s=>(10,.v (.oi (s.1:Int)))::L1) (λs=>[.blk 75 (ta s.2.1),.blk 75 (ta s.2.2),.blk 75 zTm,.blk 75 zTm]) (λs=>n-s.1) (λs=>s.1<=n/\Tb s.2.1/\Tb s.2.2/\qB (n-s.1) s.2.1 s.2.2=some r) (0,a,b) ⟨Qg _,ha,hb,h⟩ rfl rfl λ⟨i,u,v⟩ ⟨j1,j2,j3,j4⟩=>?_
 dsimp only at j1 j2 j3 j4 ⊢;by_cases hi:i<n
 ·obtain⟨k,hk⟩:∃k,n-i=k+1:=⟨n-i-1,Fj⟩;have hk':n-(i+1)=k:=Fj;rw[hk]at j4;have c1:=Ee j2.hi.s31 j3.lo.s31;have c2:=Ee j3.hi.s31 j2.lo.s31;have pu:=E4 j2;have pv:=E4 j3;have hlt:decide ((i:Int)<(n:Int))=true:=Fo;simp only[qB]at j4;refine Uv [.t hlt] rfl ?_;refine ct 3 (S:=Unit) (λ_=>[(10,.v (.oi i)),(9,.v (.oi n)),(5,.v (.one (.ow 3 0))),(4,.v (.one (.ow 2 0))),(3,.v (.one (.ow 1 0))),(2,.v (.one (.ow 0 0)))]) (λ_=>[.blk 75 (ta u),.blk 75 (ta v),.blk 75 zTm,.blk 75 zTm]) (λ_=>¬E3 u v=true/\¬E3 v u=true) rfl ?_ ?_
  ·have bA:E3 u v=(decide (Rx u.hi v.lo<=0) && !(u.point && v.point && decide (Rx u.hi v.lo=0))):=by
    unfold E3;cases u.point <;> cases v.point <;> simp
   have bB:E3 v u=(decide (Rx v.hi u.lo<=0) && !(u.point && v.point && decide (Rx v.hi u.lo=0))):=by
    unfold E3;cases u.point <;> cases v.point <;> simp
   obtain⟨a0,A'⟩:∃b,decide (Rx u.hi v.lo<=0)=b:=⟨_,rfl⟩;obtain⟨b0,B'⟩:∃b,decide (Rx v.hi u.lo<=0)=b:=⟨_,rfl⟩;obtain⟨p0,P'⟩:∃b,u.point=b:=⟨_,rfl⟩;obtain⟨q0,Q'⟩:∃b,v.point=b:=⟨_,rfl⟩;obtain⟨x0,X'⟩:∃b,decide (Rx u.hi v.lo=0)=b:=⟨_,rfl⟩;obtain⟨y0,Y'⟩:∃b,decide (Rx v.hi u.lo=0)=b:=⟨_,rfl⟩;rw[A',P',Q',X']at bA;rw[B',P',Q',Y']at bB;have r1:E3 u v=true->(u,v,-1)=r:=λh=>by rw[if_pos h]at j4;injection j4
   have r2:¬E3 u v=true->E3 v u=true->(u,v,1)=r:=λh h'=>by rw[if_neg h,if_pos h']at j4;injection j4
   clear j4;cases a0
   ·cases b0
    ·exact go tt [.k c1,.g 19 false A',.f rfl,.k c2,.g 45 false B',.f rfl] rfl trivial (rc () ⟨by rw[bA];simp,by rw[bB];simp⟩ rfl)
    ·cases p0
     ·obtain rfl:=r2 (by rw[bA];simp) (by rw[bB];rfl);exact Ux [.k c1,.g 19 false A',.f rfl,.k c2,.g 45 true B',.k pu,.g 48 false P',.g 52 false rfl,.t rfl] rfl
     ·cases q0
      ·obtain rfl:=r2 (by rw[bA];simp) (by rw[bB];rfl);exact Ux [.k c1,.g 19 false A',.f rfl,.k c2,.g 45 true B',.k pu,.g 48 true P',.k pv,.g 52 false Q',.t rfl] rfl
      ·cases y0
       ·obtain rfl:=r2 (by rw[bA];simp) (by rw[bB];rfl);exact Ux [.k c1,.g 19 false A',.f rfl,.k c2,.g 45 true B',.k pu,.g 48 true P',.k pv,.g 52 true Q',.k c2,.t (by simpa using Y')] rfl
       ·exact go tt [.k c1,.g 19 false A',.f rfl,.k c2,.g 45 true B',.k pu,.g 48 true P',.k pv,.g 52 true Q',.k c2,.f (by simpa using Y')] rfl trivial (rc () ⟨by rw[bA];simp,by rw[bB];simp⟩ rfl)
   ·cases p0
    ·obtain rfl:=r1 (by rw[bA];rfl);exact Ux [.k c1,.g 19 true A',.k pu,.g 22 false P',.g 26 false rfl,.t rfl] rfl
    ·cases q0
     ·obtain rfl:=r1 (by rw[bA];rfl);exact Ux [.k c1,.g 19 true A',.k pu,.g 22 true P',.k pv,.g 26 false Q',.t rfl] rfl
     ·cases x0
      ·obtain rfl:=r1 (by rw[bA];rfl);exact Ux [.k c1,.g 19 true A',.k pu,.g 22 true P',.k pv,.g 26 true Q',.k c1,.t (by simpa using X')] rfl
      ·cases b0
       ·exact go tt [.k c1,.g 19 true A',.k pu,.g 22 true P',.k pv,.g 26 true Q',.k c1,.f (by simpa using X'),.k c2,.g 45 false B',.f rfl] rfl trivial (rc () ⟨by rw[bA];simp,by rw[bB];simp⟩ rfl)
       ·cases y0
        ·obtain rfl:=r2 (by rw[bA];simp) (by rw[bB];rfl);exact Ux [.k c1,.g 19 true A',.k pu,.g 22 true P',.k pv,.g 26 true Q',.k c1,.f (by simpa using X'),.k c2,.g 45 true B',.k pu,.g 48 true P',.k pv,.g 52 true Q',.k c2,.t (by simpa using Y')] rfl
        ·exact go tt [.k c1,.g 19 true A',.k pu,.g 22 true P',.k pv,.g 26 true Q',.k c1,.f (by simpa using X'),.k c2,.g 45 true B',.k pu,.g 48 true P',.k pv,.g 52 true Q',.k c2,.f (by simpa using Y')] rfl trivial (rc () ⟨by rw[bA];simp,by rw[bB];simp⟩ rfl)
  ·rintro _ ⟨n1,n2⟩
   rw[if_neg n1,if_neg n2]at j4;have qr:∀{x y:Rat},Qb x->Qb y->Qs 2147483647 (OA x y):=λh1 h2=>Qtf h1 h2
   have cc:=Ee (qr j2.hi j2.lo) (qr j3.hi j3.lo);by_cases D:0<=Rx (OA u.hi u.lo) (OA v.hi v.lo)
   ·rw[if_pos D]at j4;obtain⟨x,x1,x2⟩:=Qe.1 j4;refine Uw [.k (kY j2.hi j2.lo),.k (kY j3.hi j3.lo),.k cc,.t (by simpa using D),.k (dF j2 x1)] rfl ?_;exact rd (i+1,x,v) Ft ⟨hi,fV j2 x1,j3,by dsimp only;rw[hk'];exact x2⟩ rfl
   ·rw[if_neg D]at j4;obtain⟨x,x1,x2⟩:=Qe.1 j4;refine Uw [.k (kY j2.hi j2.lo),.k (kY j3.hi j3.lo),.k cc,.f (by simpa using D),.k (dF j3 x1)] rfl ?_;exact rd (i+1,u,x) Ft ⟨hi,j2,fV j3 x1,by dsimp only;rw[hk'];exact x2⟩ rfl
 ·obtain rfl:i=n:=Fj;rw[K0]at j4;simp only[qB]at j4;injection j4 with j4;subst j4;exact Ux [.f Fp] rfl
theorem Qq9{a b:Rat}(ha:Qb a)(hb:Qb b):U3 53 [.agg (rl a),.one (.row [rl b])] [.agg (rl (if 0<Rx b a then b else a))]:=by
 have ca:=CU (Fy a.num) (Fy (a.den:Int)) ha.s32.1 ha.s32.2;have cb:=CU (Fy b.num) (Fy (b.den:Int)) hb.s32.1 hb.s32.2;rw[Po]at ca cb;have cc:=Ee hb.s31 ha.s31;refine G5 func53 rfl ?_;refine Uv [.k ca] rfl ?_;refine U0 (S:=Nat) 3 (λL1 i=>(12,.v (.oi i))::L1) (λi=>[.blk 41 (rl a),.blk 41 [.bool false,.nils,.bool false,.nils],.blk 41 (rl (if i=0 then a else if 0<Rx b a then b else a))]) (λi=>1-i) (λi=>i<=1) 0 (Qg _) rfl rfl λi hi=>?_
 rcases(show i=0\/i=1 by omega)with rfl|rfl
 ·by_cases h:0<Rx b a
  ·refine Uv [.t rfl,.x (i:=0) (xs:=rl b) rfl,.k cc,.t (by simpa using h),.k cb] rfl ?_ Fw;exact rd 1 Fj Fj (by rw[if_pos h];rfl)
  ·refine Uv [.t rfl,.x (i:=0) (xs:=rl b) rfl,.k cc,.f (by simpa using h)] rfl ?_ Fw;exact rd 1 Fj Fj (by rw[if_neg h];rfl)
 ·exact Ux [.f rfl] rfl
theorem UH{a b:Tm}{c:Int}(ha:Tb a)(hb:Tb b)(h:GE a b=some c):U3 160 [.agg (ta a),.agg (ta b)] [.oi c]:=by
 have ca:=CG ha;have cb:=CG hb;have pa:=E4 ha;have pb:=E4 hb;unfold GE at h;by_cases h1:a.point=true
 ·rw[if_pos h1]at h;injection h with h;subst h;have:=Qrk b a.lo;exact Uy func160 rfl [.k ca,.k cb,.k pa,.t h1,.k (Ec hb ha.lo)] rfl rfl Fu
 rw[if_neg h1]at h;have h1:a.point=false:=by simpa using h1
 by_cases h2:b.point=true
 ·rw[if_pos h2]at h;injection h with h;subst h;exact Uy func160 rfl [.k ca,.k cb,.k pa,.f h1,.k pb,.t h2,.k (Ec ha hb.lo)] rfl
 rw[if_neg h2]at h;have h2:b.point=false:=by simpa using h2
 obtain⟨lo,hlo⟩:=nmE (if 0<Rx b.lo a.lo then b.lo else a.lo);obtain⟨hi,hhi⟩:=nmE (if Rx b.hi a.hi<0 then b.hi else a.hi);have h:(if Rx lo hi<0 then(uG a.p b.p).bind λg=>if 1<g.length/\HB g lo hi=true then some 0 else(qB (Nn a b) a b).bind λr=>some r.2.2 else(qB (Nn a b) a b).bind λr=>some r.2.2)=some c:=by rw[hlo,hhi];exact h
 have qlo:Qb lo:=by rw[hlo];split;exact hb.lo;exact ha.lo
 have qhi:Qb hi:=by rw[hhi];split;exact hb.hi;exact ha.hi
 have cm:=Qq9 ha.lo hb.lo;rw[<-hlo]at cm;have cc1:=Ee hb.hi.s31 ha.hi.s31;have cc2:=Ee qlo.s31 qhi.s31;refine G5 func160 rfl ?_;refine Uv [.k ca,.k cb,.k pa,.f h1,.k pb,.f h2,.k cm] rfl ?_;refine ct 2 (S:=Unit) (λ_=>[(6,.v (.one (.ow 3 0))),(5,.v (.one (.ow 2 0))),(4,.v (.oi 0)),(3,.v (.one (.ow 1 0))),(2,.v (.one (.ow 0 0)))]) (λ_=>[.blk 75 (ta a),.blk 75 (ta b),.blk 41 (rl lo),.blk 41 (rl hi)]) (λ_=>True) rfl ?_ ?_
 ·by_cases D:Rx b.hi a.hi<0
  ·rw[if_pos D]at hhi;subst hhi;exact go tt [.k cc1,.t (by simpa using D)] rfl trivial (rc () trivial rfl)
  ·rw[if_neg D]at hhi;subst hhi;exact go tt [.k cc1,.f (by simpa using D)] rfl trivial (rc () trivial rfl)
 ·rintro _ _
  by_cases D:Rx lo hi<0
  ·rw[if_pos D]at h;obtain⟨g,g1,h⟩:=Qe.1 h;have cg:=Qhr ha.p hb.p g1;have pg:=Qmi ha.p hb.p g1;have ch:=Qip pg qlo qhi;by_cases G:1<g.length
   ·by_cases R:HB g lo hi=true
    ·rw[if_pos ⟨G,R⟩]at h;injection h with h;subst h;exact Ux [.k cc2,.t (by simpa using D),.k cg,.k (Np g),.g 58 true Fo,.k ch,.t R] rfl
    ·rw[if_neg λh=>R h.2]at h;obtain⟨r,r1,h⟩:=Qe.1 h;injection h with h;subst h;exact Ux [.k cc2,.t (by simpa using D),.k cg,.k (Np g),.g 58 true Fo,.k ch,.f (by simpa using R),.k (vA ha hb r1)] rfl
   ·rw[if_neg λh=>G h.1]at h;obtain⟨r,r1,h⟩:=Qe.1 h;injection h with h;subst h;exact Ux [.k cc2,.t (by simpa using D),.k cg,.k (Np g),.g 58 false Fo,.f rfl,.k (vA ha hb r1)] rfl
  ·rw[if_neg D]at h;obtain⟨r,r1,h⟩:=Qe.1 h;injection h with h;subst h;exact Ux [.k cc2,.f (by simpa using D),.k (vA ha hb r1)] rfl
theorem Qpw{p:U6}{a:Tm}{s:Int}(hp:Pb p)(ha:Tb a)(h:UV p a=some s):U3 147 [pr p,.agg (ta a)] [.oi s]:=by
 have ca:=CG ha;have pa:=E4 ha;have cn:=Ti hp.t hp.ln hp.bd;unfold UV at h;by_cases h0:p.length=0
 ·rw[if_pos h0]at h;injection h with h;subst h;exact Uy func147 rfl [.k cn,.k ca,.t (by simp;exact Qi h0)] rfl
 rw[if_neg h0]at h;have h0:p≠[]:=λe=>h0 (by rw[e];rfl)
 by_cases h1:a.point=true
 ·rw[if_pos h1]at h;injection h with h;subst h;exact Uy func147 rfl [.k cn,.k ca,.f (by simpa using h0),.k pa,.t h1,.k (BP hp ha.lo)] rfl
 rw[if_neg h1]at h;have h1:a.point=false:=by simpa using h1
 obtain⟨g,g1,h⟩:=Qe.1 h;have cg:=Qhr hp ha.p g1;have pg:=Qmi hp ha.p g1;have ch:=Qip pg ha.lo ha.hi;by_cases G:1<g.length/\HB g a.lo a.hi=true
 ·rw[if_pos G]at h;injection h with h;subst h;exact Uy func147 rfl [.k cn,.k ca,.f (by simpa using h0),.k pa,.f h1,.k cg,.k (Np g),.g 29 true Fo,.k ch,.t G.2] rfl
 rw[if_neg G]at h;obtain⟨c,c1,h⟩:=Qe.1 h;obtain⟨u,u1,h⟩:=Qe.1 h;injection h with h;subst h;obtain⟨cl,call⟩:=chain_ok hp c1;obtain⟨n,hn⟩:=nmE (64+2*(Gl a.lo.num+Gl a.hi.num)+4*(a.p.length+p.length)*(Rq a.p+Rq p+(a.p.length+p.length)+8));have cst:=Qi7 ha hp;rw[show iU p a=n from hn.symm]at cst;rw[<-hn]at u1;have hnb:n<=17179938816+200000000:=by
  have l1:=ha.p.l;have l2:=hp.l;have b1:=ha.lo.1;have b2:=ha.hi.1;have s1:Rq a.p<=16777216:=by have:=Bb ha.p.b a.p.length;rwa[Q6]at this
  have s2:Rq p<=16777216:=by have:=Bb hp.b p.length;rwa[Q6]at this
  have:4*(a.p.length+p.length)*(Rq a.p+Rq p+(a.p.length+p.length)+8)<=512*33554568:=Zg Fj Fj;omega
 refine G5 func147 rfl ?_;refine Uv [.k cn,.k ca,.f (by simpa using h0),.k pa,.f h1,.k cg] rfl ?_;refine ct 2 (S:=Unit) (λ_=>[(3,.v (.one (.ow 0 0))),(0,.v (pr p))]) (λ_=>[.blk 75 (ta a)]) (λ_=>True) rfl ?_ ?_
 ·by_cases G1:1<g.length
  ·exact go tt [.k (Np g),.g 29 true Fo,.k ch,.f (by simpa using λh=>G ⟨G1,h⟩)] rfl trivial (rc () trivial rfl)
  ·exact go tt [.k (Np g),.g 29 false Fo,.f rfl] rfl trivial (rc () trivial rfl)
 rintro _ _
 refine Uv [.k (Qh4 hp c1),.k cst] rfl ?_;refine U0 (S:=Nat×Tm) 1 (λL1 s=>(46,.v (.oi (s.1:Int)))::L1) (λs=>[.blk 75 (ta s.2)]) (λs=>n-s.1) (λs=>s.1<=n/\Tb s.2/\sgF c (n-s.1) s.2=some u) (0,a) ⟨Qg _,ha,u1⟩ rfl rfl λ⟨i,x⟩ ⟨j1,j2,j3⟩=>?_
 dsimp only at j1 j2 j3 ⊢;by_cases hi:i<n
 ·obtain⟨k,hk⟩:∃k,n-i=k+1:=⟨n-i-1,Fj⟩;have hk':n-(i+1)=k:=Fj;rw[hk]at j3;simp only[sgF]at j3;have px:=E4 j2;have cb:=zH Fj call j2.lo j2.hi;have hlt:decide ((i:Int)<(n:Int))=true:=Fo;by_cases X:x.point=true
  ·rw[if_pos (.inl X)]at j3;injection j3 with j3;subst j3;exact Ux [.t hlt,.k px,.g 50 true X,.t rfl,.k (BP hp j2.hi)] rfl
  ·have X':x.point=false:=by simpa using X
   by_cases Z:Pg c x.lo x.hi=0
   ·rw[if_pos (.inr Z)]at j3;injection j3 with j3;subst j3;exact Ux [.t hlt,.k px,.g 50 false X',.k cb,.t (by simpa using Z),.k (BP hp j2.hi)] rfl
   ·rw[if_neg (by rintro (h|h);exact X h;exact Z h)]at j3;obtain⟨v,v1,v2⟩:=Qe.1 j3;refine Uw [.t hlt,.k px,.g 50 false X',.k cb,.f (by simpa using Z),.k (dF j2 v1)] rfl ?_;exact rd (i+1,v) Ft ⟨hi,fV j2 v1,by dsimp only;rw[hk'];exact v2⟩ rfl
 ·obtain rfl:i=n:=Fj;rw[K0]at j3;simp only[sgF]at j3;injection j3 with j3;subst j3;exact Ux [.f Fp,.k (BP hp j2.hi)] rfl
abbrev tas(l:List Tm):LV:=.row (l.map λt=>ta t)
variable{l:List Tm}
theorem LJ{i:Nat}{t:Tm}(h:l[i]? = some t):(l.map λt=>ta t)[i]? = some (ta t):=Rm h
def zTr:Fb:=[.row [],.bool false,.row [],.bool false,.row [],.bool false,.row [],.bool false,.row []]
theorem rG:U3 226 [.one (.row [])] [.agg zTr,.one (.bool false)]:=Uy func226 rfl [.t rfl] rfl
theorem Mi{b:Tm}{m:Tm}(hb:Tb b)(hl:∀t∈l,Tb t)(hn:l.length≤1000000)(h:XD b l=some m):U3 226 [.one (tas (b::l))] [.agg (ta m),.one (.bool true)]:=by
 refine G5 func226 rfl ?_;refine go tt [.f Fo,.x (i:=0) (xs:=ta b) rfl,.i 1] rfl (by simp[Gd];exact⟨rfl,λ_ _=>rfl⟩) ?_;refine U0 (S:=Nat×Tm) 2 (λL1 s=>(17,.v (.oi (s.1:Int)))::L1) (λs=>[.blk 75 zTm,.blk 75 (ta s.2)]) (λs=>l.length-s.1) (λs=>s.1<=l.length/\Tb s.2/\XD s.2 (l.drop s.1)=some m) (0,b) ⟨Qg _,hb,h⟩ rfl rfl λ⟨i,x⟩ ⟨j1,j2,j3⟩=>?_
 dsimp only at j1 j2 j3 ⊢;by_cases hi:i<l.length
 ·obtain⟨a,ha⟩:=gxE (l:=l) (i:=i) hi;have hdr:l.drop i=a::l.drop (i+1):=by
   rw[Zq hi];congr 1;have:=Qf hi;rw[ha]at this;injection this with this;exact this.symm
  rw[hdr]at j3;simp only[XD]at j3;obtain⟨c,c1,j3⟩:=Qe.1 j3;have ta':=hl a (Qa ha);by_cases hc:c<0
  ·rw[if_pos hc]at j3;refine Uw [.t Fo,.x (LJ ha),.k (UH ta' j2 c1),.t (by simpa using hc)] rfl ?_;exact rd (i+1,a) Ft ⟨hi,ta',j3⟩ rfl
  ·rw[if_neg hc]at j3;refine Uw [.t Fo,.x (LJ ha),.k (UH ta' j2 c1),.f (by simpa using hc)] rfl ?_;exact rd (i+1,x) Ft ⟨hi,j2,j3⟩ rfl
 ·obtain rfl:i=l.length:=Fj;rw[Vh]at j3;simp only[XD]at j3;injection j3 with j3;subst j3;exact Ux [.f Fp,.k (Qja j2)] rfl
end Orr
namespace Orq
def Gs(x:Rat):Rat:=if x<0 then -x else x
theorem Tl(x:Rat):0<=Gs x:=by unfold Gs;split <;> grind
variable{x:Rat}
theorem Be{b:Rat}:Gs x<=b↔-b<=x/\x<=b:=by unfold Gs;split <;> constructor <;> grind
theorem uB{b:Rat}:Gs x<b↔-b<x/\x<b:=by unfold Gs;split <;> constructor <;> grind
theorem P9(x y:Rat):Gs (x+y)<=Gs x+Gs y:=by unfold Gs;split <;> split <;> split <;> grind
theorem Qcs(x y:Rat):Gs (x-y)=Gs (y-x):=by unfold Gs;split <;> split <;> grind
theorem A9(x:Rat):Gs (-x)=Gs x:=by unfold Gs;split <;> split <;> grind
theorem Ty:Gs 0=0:=Fl
theorem Ll(h:x≠0):0<Gs x:=by unfold Gs;split <;> grind
theorem Qtd(h:Gs x=0):x=0:=by unfold Gs at h;split at h <;> grind
theorem Dc{y:Rat}(h1:0<=x)(h2:0<=y):0<=x*y:=Jg h1 h2
theorem QF{y:Rat}(h1:0<x)(h2:0<y):0<x*y:=Xm h1 h2
theorem Lf{a b c d:Rat}(h0:0<=a)(h1:a<=b)(h2:0<=c)(h3:c<=d):a*c<=b*d:=by
 have e1:=Zh h1 h2;have e2:=Xc h3 (Zl h0 h1);exact Zl e1 e2
theorem O7(x y:Rat):Gs (x*y)=Gs x*Gs y:=by
 unfold Gs;by_cases h1:x<0 <;> by_cases h2:y<0
 ·have:=QF (x:=-x) (y:=-y) Fq Fq;simp only[h1,h2,if_true];split <;> grind
 ·have:=Dc (x:=-x) (y:=y) Fq Fq;simp only[h1,h2,if_true,if_false];split <;> grind
 ·have:=Dc (x:=x) (y:=-y) Fq Fq;simp only[h1,h2,if_true,if_false];split <;> grind
 ·have:=Dc (x:=x) (y:=y) Fq Fq;simp only[h1,h2,if_false];split <;> grind
theorem Rt{y a b:Rat}(h1:Gs x<=a)(h2:Gs y<=b):Gs (x*y)<=a*b:=by
 rw[O7];exact Lf (Tl x) h1 (Tl y) h2
theorem Iz{y:Rat}(h1:0<x)(h2:0<y):0<x / y:=by rw[Yo];exact QF h1 (Rat.inv_pos.2 h2)
theorem Ru{y:Rat}(h2:0<y):x / y*y=x:=Zj Fq
theorem Rw{b d:Rat}(hb:0<=b)(hd:0<d):∃e:Rat,0<e/\e<=1/\e*b<d:=by
 have h1:0<d / (b+1):=Iz hd Fq;have h2:d / (b+1)*(b+1)=d:=Ru Fq;rcases Kf (a:=d / (b+1)) (b:=1)with h|h
 ·exact⟨d / (b+1),h1,h,by
   have:d / (b+1)*(b+1)=d / (b+1)*b+d / (b+1):=Fq;grind⟩
 ·refine⟨1,Fl,Fl,?_⟩;have:1*(b+1)<=d / (b+1)*(b+1):=Zh h Fq;grind
def ev:U9->Rat->Rat
 | [],_=>0
 |a::p,t=>a+t*ev p t
def dv:U9->Rat->Rat
 | [],_=>0
 |_::p,t=>ev p t+t*dv p t
def dq:U9->Rat->Rat->Rat
 | [],_,_=>0
 |_::p,x,y=>ev p x+y*dq p x y
def dd:U9->Rat->Rat->Rat
 | [],_,_=>0
 |_::p,x,y=>dq p x y+y*dd p x y
theorem xG(x y:Rat):∀p,ev p x-ev p y=(x-y)*dq p x y
 | []=>by simp only[ev,dq];grind
 |a::p=>by have:=xG x y p;simp only[ev,dq];grind
theorem kN(y:Rat):∀p,dq p y y=dv p y
 | []=>rfl
 |a::p=>by simp only[dq,dv,kN y p]
theorem Qve(x y:Rat):∀p,dq p x y-dv p y=(x-y)*dd p x y
 | []=>by simp only[dv,dq,dd];grind
 |
  a::p=>by
  have h1:=Qve x y p;have h2:=xG x y p;simp only[dv,dq,dd];grind
theorem Qvh(p:U9)(x y:Rat):ev p x-ev p y=(x-y)*dv p y+(x-y)*(x-y)*dd p x y:=by
 have h1:=xG x y p;have h2:=Qve x y p;grind
def tO(R:Rat):U9->Rat
 | []=>0
 |a::p=>Gs a+R*tO R p
def qL(R:Rat):U9->Rat
 | []=>0
 |_::p=>tO R p+R*qL R p
def ddB(R:Rat):U9->Rat
 | []=>0
 |_::p=>qL R p+R*ddB R p
theorem YF{R:Rat}(hR:0<=R):∀p,0<=tO R p
 | []=>by simp only[tO];grind
 |a::p=>by have:=Dc hR (YF hR p);have:=Tl a;simp only[tO];grind
theorem B5{R:Rat}(hR:0<=R):∀p,0<=qL R p
 | []=>by simp only[qL];grind
 |a::p=>by have:=Dc hR (B5 hR p);have:=YF hR p;simp only[qL];grind
theorem AX{R:Rat}(hR:0<=R):∀p,0<=ddB R p
 | []=>by simp only[ddB];grind
 |a::p=>by have:=Dc hR (AX hR p);have:=B5 hR p;simp only[ddB];grind
theorem NR{R x:Rat}(hx:Gs x<=R):∀p,Gs (ev p x)<=tO R p
 | []=>by simp only[ev,tO,Ty];grind
 |
  a::p=>by
  have h1:=P9 a (x*ev p x);have h2:=Rt hx (NR hx p);simp only[ev,tO];grind
theorem tH{R x y:Rat}(hx:Gs x<=R)(hy:Gs y<=R):∀p,Gs (dq p x y)<=qL R p
 | []=>by simp only[dq,qL,Ty];grind
 |
  a::p=>by
  have h1:=P9 (ev p x) (y*dq p x y);have h2:=Rt hy (tH hx hy p);have h3:=NR hx p;simp only[dq,qL];grind
theorem Qju{R x y:Rat}(hx:Gs x<=R)(hy:Gs y<=R):∀p,Gs (dd p x y)<=ddB R p
 | []=>by simp only[dd,ddB,Ty];grind
 |
  a::p=>by
  have h1:=P9 (dq p x y) (y*dd p x y);have h2:=Rt hy (Qju hx hy p);have h3:=tH hx hy p;simp only[dd,ddB];grind
theorem Qx8{R y:Rat}(hx:Gs x<=R)(hy:Gs y<=R)(p:U9):Gs (ev p x-ev p y)<=Gs (x-y)*qL R p:=by
 rw[xG,O7];exact Lf (Tl _) Qr (Tl _) (tH hx hy p)
def Ma:U9->U9->U9
 | [],q=>q
 |a::p,[]=>a::p
 |a::p,b::q=>(a+b)::Ma p q
def Ey(c:Rat)(p:U9):U9:=p.map (c * ·)
def Rl:U9->U9->U9
 | [],_=>[]
 |a::p,q=>Ma (Ey a q) (0::Rl p q)
def De:U9->U9
 | []=>[]
 |_::p=>Ma p (0::De p)
theorem Rf(t:Rat):∀p q,ev (Ma p q) t=ev p t+ev q t
 | [],q=>by simp only[Ma,ev];grind
 |a::p,[]=>by simp only[Ma,ev];grind
 |a::p,b::q=>by have:=Rf t p q;simp only[Ma,ev];grind
theorem Hx(c t:Rat):∀p,ev (Ey c p) t=c*ev p t
 | []=>by simp only[Ey,Jq,ev];grind
 |a::p=>by have:=Hx c t p;simp only[Ey,Xa,ev]at *;grind
theorem Gp(t:Rat):∀p q,ev (Rl p q) t=ev p t*ev q t
 | [],q=>by simp only[Rl,ev];grind
 |a::p,q=>by have:=Gp t p q;simp only[Rl,Rf,Hx,ev];grind
theorem Pi(t:Rat):∀p,ev (De p) t=dv p t
 | []=>rfl
 |a::p=>by have:=Pi t p;simp only[De,Rf,ev,dv];grind
theorem kC(t:Rat):∀p q,dv (Ma p q) t=dv p t+dv q t
 | [],q=>by simp only[Ma,dv];grind
 |a::p,[]=>by simp only[Ma,dv];grind
 |a::p,b::q=>by have:=kC t p q;have:=Rf t p q;simp only[Ma,dv];grind
theorem PU(c t:Rat):∀p,dv (Ey c p) t=c*dv p t
 | []=>by simp only[Ey,Jq,dv];grind
 |a::p=>by have:=PU c t p;have:=Hx c t p;simp only[Ey,Xa,dv]at *;grind
theorem kL(t:Rat):∀p q,dv (Rl p q) t=dv p t*ev q t+ev p t*dv q t
 | [],q=>by simp only[Rl,dv,ev];grind
 |a::p,q=>by have:=kL t p q;have:=Gp t p q;simp only[Rl,kC,PU,dv,ev];grind
theorem Qa9:∀{p:U9},(∀x∈p,x=0)->∀t,ev p t=0
 | [],_,t=>rfl
 |
  a::p,h,t=>by
  have h1:=Qa9 (p:=p) (λx hx=>h x (Qh _ hx)) t;have h2:=h a (Qw ..);simp only[ev,h1,h2];grind
theorem Qa4:∀{p:U9},(∀x∈p,x=0)->∀t,dv p t=0
 | [],_,t=>rfl
 |
  a::p,h,t=>by
  have h0:=λx hx=>h x (Qh _ hx)
  have h1:=Qa9 (p:=p) h0 t;have h2:=Qa4 (p:=p) h0 t;simp only[dv,h1,h2];grind
theorem GY:∀{p:U9},(∀t,0<t->t<1->ev p t=0)->∀x∈p,x=0
 | [],_=>λx hx=>by cases hx
 |
  a::p,h=>by
  have ha:a=0:=by
   rcases Classical.em (a=0)with h0|h0
   ·exact h0
   ·obtain⟨e,e1,e2,e3⟩:=Rw (YF (R:=1) Fl p) (Ll h0);obtain⟨f,f1,f2,f3⟩:=Rw (b:=1) (d:=e) Fl e1;have h1:=h f f1 Fq;have h2:=NR (R:=1) (x:=f) (by unfold Gs;split <;> grind) p;have h3:=O7 f (ev p f);have h4:Gs f=f:=by unfold Gs;split <;> grind
    have h5:a=-(f*ev p f):=by simp only[ev]at h1;grind
    have h6:Gs a=f*Gs (ev p f):=by rw[h5,A9,h3,h4]
    have h7:f*Gs (ev p f)<=e*tO 1 p:=Lf (Qt f1) Fq (Tl _) h2;grind
  intro x hx;rcases Qk.1 hx with rfl|hx
  ·exact ha
  ·refine GY (p:=p) (λt h1 h2=>?_) x hx;have:=h t h1 h2;simp only[ev,ha]at this;have h3:t*ev p t=0:=Fq;rcases X3.1 h3 with h4|h4
   ·grind
   ·exact h4
theorem Qj2{p q:U9}(h:∀t,ev p t=ev q t)(t:Rat):dv p t=dv q t:=by
 have h1:=Qa4 (p:=Ma p (Ey (-1) q)) (GY λt _ _=>by rw[Rf,Hx,h t];grind) t;rw[kC,PU]at h1;grind
def Gn(x:Rat):Int:=if x<0 then -1 else if 0<x then 1 else 0
variable{x:Rat}
theorem Hd:Gn x=0↔x=0:=by
 unfold Gn;constructor
 ·intro h;split at h <;> (try split at h) <;> grind
 ·intro h;subst h;rfl
theorem Tj:Gn x=1↔0<x:=by
 unfold Gn;constructor
 ·intro h;split at h <;> (try split at h) <;> grind
 ·intro h;rw[if_neg Fq,if_pos h]
theorem Mr:Gn x=-1↔x<0:=by
 unfold Gn;constructor
 ·intro h;split at h <;> (try split at h) <;> grind
 ·intro h;rw[if_pos h]
theorem G6(x:Rat):Gn x=-1/\x<0\/Gn x=0/\x=0\/Gn x=1/\0<x:=by
 rcases Kf (a:=x) (b:=0)with h|h
 ·rcases Classical.em (x=0)with h0|h0
  ·exact .inr (.inl ⟨Hd.2 h0,h0⟩)
  ·exact .inl ⟨Mr.2 Fq,Fq⟩
 ·rcases Classical.em (x=0)with h0|h0
  ·exact .inr (.inl ⟨Hd.2 h0,h0⟩)
  ·exact .inr (.inr ⟨Tj.2 Fq,Fq⟩)
theorem Mc(x y:Rat):Gn (x*y)=Gn x*Gn y:=by
 rcases G6 x with⟨e1,h1⟩|⟨e1,h1⟩|⟨e1,h1⟩ <;> rcases G6 y with⟨e2,h2⟩|⟨e2,h2⟩|⟨e2,h2⟩ <;> rw[e1,e2]
 ·have:=QF (x:=-x) (y:=-y) Fq Fq;exact Tj.2 Fq
 ·subst h2;exact Hd.2 Fq
 ·have:=QF (x:=-x) (y:=y) Fq Fq;exact Mr.2 Fq
 ·subst h1;exact Hd.2 Fq
 ·subst h1;exact Hd.2 Fq
 ·subst h1;exact Hd.2 Fq
 ·have:=QF (x:=x) (y:=-y) Fq Fq;exact Mr.2 Fq
 ·subst h2;exact Hd.2 Fq
 ·exact Tj.2 (QF h1 h2)
theorem Nh{a b d:Rat}(h1:d<=Gs a)(h2:Gs (b-a)<d):Gn b=Gn a/\Gn a≠0:=by
 rw[uB]at h2;rcases G6 a with⟨e,h⟩|⟨e,h⟩|⟨e,h⟩
 ·rw[e,Mr];unfold Gs at h1;rw[if_pos h]at h1;exact⟨Fq,Fl⟩
 ·subst h;rw[Ty]at h1;grind
 ·rw[e,Tj];unfold Gs at h1;rw[if_neg Fq]at h1;exact⟨Fq,Fl⟩
def tc(x:Rat):Int->Fa->Nat
 |_,[]=>0
 |s,p::l=>if Gn (ev p x)=0 then tc x s l else(if s=-(Gn (ev p x))then 1 else 0)+tc x (Gn (ev p x)) l
inductive SCl:List Rat->List Rat->List (List Rat)->Prop
 |base {f g:List Rat} {c:Rat} (hc:c≠0) (hg:∀t,ev g t=c):SCl f g []
 |step {f g h:List Rat} {l:List (List Rat)} {a b:Rat} {q:List Rat} (ha:0<a) (hb:0<b) (he:∀t,a*ev f t=ev q t*ev g t-b*ev h t) (hl:SCl g h l):SCl f g (h::l)
variable{s:Int}{l:Fa}
theorem Qoa{g h:U9}(hh:Gn (ev h x)=-s)(hs:s≠0):tc x s (g::h::l)=1+tc x (-s) l:=by
 have h3:Gn (ev h x)≠0:=Fj;have hv:s=1\/s=-1:=by rcases G6 (ev h x)with⟨e,_⟩|⟨e,_⟩|⟨e,_⟩ <;> omega
 simp only[tc,if_neg h3,hh];rcases G6 (ev g x)with⟨e,_⟩|⟨e,_⟩|⟨e,_⟩ <;> rw[e] <;> rcases hv with rfl|rfl <;> simp
theorem TC{p:U9}(h:Gn (ev p x)≠0):tc x s (p::l)=(if s=-(Gn (ev p x))then 1 else 0)+tc x (Gn (ev p x)) l:=by rw[tc,if_neg h]
theorem Nx{R y e d:Rat}{p:U9}(hx:Gs x<=R)(hy:Gs y<=R)(hR:0<=R)(h:Gs (y-x)<=e)(hd:e*qL R p<d):Gs (ev p y-ev p x)<d:=by
 have h1:=Qx8 hy hx p;have h2:=Zh h (B5 hR p);grind
theorem jR{a y:Rat}(ha:0<a)(h:a*x<a*y):x<y:=by
 rcases Kf (a:=y) (b:=x)with h'|h'
 ·have:=Xc h' (Qt ha);grind
 ·rcases Classical.em (x=y)with e|e
  ·subst e;grind
  ·grind
theorem Qzs{a b d d' B f g h q:Rat}(ha:0<a)(hb:0<b)(dp:0<d)(h7:B*d+a*d<b*d')(hq:Gs q<=B)(hg:Gs g<d)(hh:d'<=Gs h)(he:a*f=q*g-b*h)(hd':0<d'):Gn h=-Gn f/\d<=Gs f:=by
 have h4:=Rt hq (Qt hg);rw[Be]at h4;have had:=QF ha dp;have h8:=Xc hh (Qt hb);rcases G6 h with⟨s,p⟩|⟨s,p⟩|⟨s,p⟩
 ·have:Gs h=-h:=by unfold Gs;rw[if_pos p]
  rw[this]at h8;have h10:d<f:=jR ha Fq;rw[s,Tj.2 (show 0<f by grind)];exact⟨rfl,by unfold Gs;split <;> grind⟩
 ·rw[p,Ty]at hh;grind
 ·have:Gs h=h:=by unfold Gs;rw[if_neg Fq]
  rw[this]at h8;have h10:f < -d:=jR ha Fq;rw[s,Mr.2 (show f<0 by grind)];exact⟨rfl,by unfold Gs;split <;> grind⟩
theorem min2{a b:Rat}(ha:0<a)(hb:0<b):∃e:Rat,0<e/\e<=a/\e<=b:=by
 rcases Kf (a:=a) (b:=b)with h|h
 ·exact⟨a,ha,Qr,h⟩
 ·exact⟨b,hb,h,Qr⟩
theorem Hl(a b:Rat):a<=b\/b<a:=by
 rcases Kf (a:=a) (b:=b)with h|h
 ·exact .inl h
 ·rcases Classical.em (a=b)with e|e
  ·exact .inl Fq
  ·exact .inr Fq
theorem Qyu{R:Rat}(hR:0<=R){f g:U9}(hc:SCl f g l):∃d e:Rat,0<d/\0<e/\∀x y,Gs x<=R->Gs y<=R->Gs (y-x)<=e ->
 (d<=Gs (ev f x)\/d<=Gs (ev g x))/\(d<=Gs (ev f x)->Gn (ev f y)=Gn (ev f x)/\Gn (ev f x)≠0)/\(d<=Gs (ev g x)->Gn (ev g y)=Gn (ev g x)/\Gn (ev g x)≠0) /\
 (Gn (ev f y)=Gn (ev f x)->Gn (ev f x)≠0->tc x (Gn (ev f x)) (g::l)=tc y (Gn (ev f x)) (g::l)) /\
 (Gn (ev g y)=Gn (ev g x)->Gn (ev g x)≠0->tc x (Gn (ev g x)) l=tc y (Gn (ev g x)) l):=by
 induction hc with
 |
  @base f g c hc hg =>
  have hd:=Ll hc;obtain⟨e,e1,e2,e3⟩:=Rw (B5 hR f) hd;refine⟨Gs c,e,hd,e1,λx y hx hy hxy=>⟨.inr (by rw[hg];exact Qr),λh=>Nh h (Nx hx hy hR hxy e3),λh=>?_,λ_ _=>?_,λ_ _=>rfl⟩⟩
  ·rw[hg,hg];exact⟨rfl,λh=>hc (Hd.1 h)⟩
  ·simp only[tc,hg]
 |
  @step f g h l a b q ha hb he hl ih =>
  obtain⟨d',e',hd',he',ih⟩:=ih;obtain⟨d1,d1p,_,d1b⟩:=Rw (b:=tO R q+a) (d:=b*d') (by have:=YF hR q;grind) (QF hb hd');obtain⟨d,dp,hd1,hdd⟩:=min2 d1p hd';obtain⟨ef,ef1,_,ef3⟩:=Rw (B5 hR f) dp;obtain⟨eg,eg1,_,eg3⟩:=Rw (B5 hR g) dp;obtain⟨e0,e0p,h1,h2⟩:=min2 ef1 eg1;obtain⟨e,ep,h0,h3⟩:=min2 e0p he';have h1:=Zl h0 h1;have h2:=Zl h0 h2;refine⟨d,e,dp,ep,λx y hx hy hxy=>?_⟩;obtain⟨i1,i2,i3,i4,i5⟩:=ih x y hx hy (Zl hxy h3);have hsm:Gs (ev g x)<d->d'<=Gs (ev h x)/\Gn (ev h x)=-Gn (ev f x)/\d<=Gs (ev f x):=λhg=>by
   have hh:d'<=Gs (ev h x):=by
    rcases i1 with i|i
    ·exact absurd (Zl hdd i) (Yb.2 hg)
    ·exact i
   have h6:d*(tO R q+a)<=d1*(tO R q+a):=Zh hd1 (by have:=YF hR q;clear ih i1 i2 i3 i4 i5 he;grind);have h7:tO R q*d+a*d<b*d':=by clear ih i1 i2 i3 i4 i5 he;grind
   exact⟨hh,Qzs ha hb dp h7 (NR hx q) hg hh (he x) hd'⟩
  have hfs:d<=Gs (ev f x)->Gn (ev f y)=Gn (ev f x)/\Gn (ev f x)≠0:=λh=>Nh h (Nx hx hy hR (Zl hxy h1) ef3)
  have hgs:d<=Gs (ev g x)->Gn (ev g y)=Gn (ev g x)/\Gn (ev g x)≠0:=λh=>Nh h (Nx hx hy hR (Zl hxy h2) eg3)
  refine⟨?_,hfs,hgs,λs1 s2=>?_,i4⟩
  ·rcases Hl d (Gs (ev g x))with h|h
   ·exact .inr h
   ·exact .inl (hsm h).2.2
  ·rcases Hl d (Gs (ev g x))with h|h
   ·obtain⟨g1,g2⟩:=hgs h;rw[TC (x:=x) (p:=g) g2,TC (x:=y) (p:=g) (by rw[g1];exact g2),g1,i4 g1 g2]
   ·obtain⟨h4,h5,_⟩:=hsm h;obtain⟨h6,h7⟩:=i3 h4;have i5:=i5 h6 h7;rw[Qoa h5 s2,Qoa (h6.trans h5) s2,<-h5,i5]
def M7(p:U9)(x:Rat):Int:=if Gn (ev p x)≠0 then Gn (ev p x)else Gn (dv p x)
def vv(L:Fa)(x:Rat):Nat:=tc x 0 L
def SU(f:U9)(L:Fa):Prop:=(∃c:Rat,c≠0/\(∀t,ev f t=c)/\L=[f])\/∃g l,∃k:Rat,0<k/\(∀t,ev g t=k*dv f t)/\SCl f g l/\L=f::g::l
structure Sm(w:List Rat)(x y:Rat):Prop where
 s:Gn (ev w y)=M7 w x
 l:M7 w y=M7 w x
 n:M7 w x≠0
variable{p:U9}{x:Rat}
theorem I7(h:Gn (ev p x)≠0):M7 p x=Gn (ev p x):=by unfold M7;rw[if_pos h]
theorem eJ(h:Gn (ev p x)=0):M7 p x=Gn (dv p x):=by unfold M7;rw[if_neg (by simpa using h)]
theorem nV{y:Rat}(h:Gn (ev p y)=Gn (ev p x))(h0:Gn (ev p x)≠0):Sm p x y:=by
 have h1:=I7 h0;have h2:=I7 (p:=p) (x:=y) (by rw[h];exact h0);exact⟨by rw[h,h1],by rw[h2,h1,h],by rw[h1];exact h0⟩
theorem XS{f w u:U9}(h:∀t,ev f t=ev w t*ev u t)(x:Rat):dv f x=dv w x*ev u x+ev w x*dv u x:=by
 rw[<-kL];exact Qj2 (λt=>by rw[h,Gp]) x
theorem Qbz{f w u:U9}(h:∀t,ev f t=ev w t*ev u t)(hu:Gn (ev u x)≠0):M7 f x=M7 w x*Gn (ev u x):=by
 by_cases hw:Gn (ev w x)=0
 ·have hw0:=Hd.1 hw;have e1:ev f x=0:=by rw[h,hw0];grind
  have e2:dv f x=dv w x*ev u x:=by rw[XS h,hw0];grind
  rw[eJ hw,eJ (Hd.2 e1),e2,Mc]
 ·have e1:Gn (ev f x)=Gn (ev w x)*Gn (ev u x):=by rw[h,Mc]
  rw[I7 hw,I7 (by rw[e1];exact Jy hw hu),e1]
theorem Qzt{f w u:U9}{y:Rat}(h:∀t,ev f t=ev w t*ev u t)(hu:Gn (ev u y)=Gn (ev u x))(h0:Gn (ev u x)≠0)(hf:Sm f x y):Sm w x y:=by
 have e1:=Qbz h h0;have e2:=Qbz (x:=y) h (by rw[hu];exact h0);have e3:Gn (ev f y)=Gn (ev w y)*Gn (ev u y):=by rw[h,Mc]
 obtain⟨s,l,n⟩:=hf;rw[hu]at e2 e3;refine⟨?_,?_,λh=>n (by rw[e1,h,Vm])⟩
 ·rw[e3,e1]at s;exact Vp h0 s
 ·rw[e2,e1]at l;exact Vp h0 l
theorem tc0{s:Int}{f g:U9}{l:Fa}(h:Gn (ev g x)=s)(hs:s≠0):tc x 0 (f::g::l)=(if Gn (ev f x)=-s then 1 else 0)+tc x s l:=by
 have hv:s=1\/s=-1:=by rcases G6 (ev g x)with⟨e,_⟩|⟨e,_⟩|⟨e,_⟩ <;> omega
 have hg:Gn (ev g x)≠0:=Fj;rw[tc];rcases G6 (ev f x)with⟨e,_⟩|⟨e,_⟩|⟨e,_⟩ <;> rw[e] <;> rcases hv with rfl|rfl <;> simp[TC hg,h]
theorem IL{R y e d:Rat}(hx:Gs x<=R)(hy:Gs y<=R)(hR:0<=R)(hxy:x<y)(h:y-x<=e)(hd:d<=Gs (dv p x))(he:e*ddB R p<d):Gn (ev p y-ev p x)=Gn (dv p x):=by
 have h1:=Qvh p y x;have h2:ev p y-ev p x=(y-x)*(dv p x+(y-x)*dd p y x):=by rw[h1];grind
 have h3:=Rt (x:=y-x) (y:=dd p y x) (a:=e) (b:=ddB R p) (by rw[Be];constructor <;> grind) (Qju hy hx p);have h4:=Nh (b:=dv p x+(y-x)*dd p y x) hd (by
  have:dv p x+(y-x)*dd p y x-dv p x=(y-x)*dd p y x:=Fq;rw[this];exact Yb.1 λh=>absurd (Zl h h3) (Yb.2 he))
 rw[h2,Mc,Tj.2 (show 0<y-x by grind),h4.1,Wc]
def Qgr(f w:U9)(L:Fa)(x y:Rat):Prop :=
 (vv L x=vv L y/\Sm f x y/\Sm w x y)\/(vv L x=vv L y+1/\M7 f x≠0/\M7 f y=-M7 f x/\Gn (ev f x)=M7 f x/\(Gn (ev f y)=0\/Gn (ev f y)=-M7 f x))
theorem Qvk{R d:Rat}(hR:0<=R)(hd:0<d){f w u:U9}(h:∀t,ev f t=ev w t*ev u t):∃e:Rat,0<e/\∀x y,Gs x<=R->Gs y<=R->Gs (y-x)<=e->d<=Gs (ev f x)->Sm f x y/\Sm w x y:=by
 obtain⟨ef,ef1,_,ef3⟩:=Rw (B5 hR f) hd;obtain⟨d1,d1p,_,d1b⟩:=Rw (YF hR u) hd;obtain⟨ew,ew1,_,ew3⟩:=Rw (B5 hR w) d1p;obtain⟨e,ep,e1,e2⟩:=min2 ef1 ew1;refine⟨e,ep,λx y hx hy hxy hf=>⟨?_,?_⟩⟩
 ·have:=Nh hf (Nx hx hy hR (Zl hxy e1) ef3);exact nV this.1 this.2
 ·have hw:d1<=Gs (ev w x):=by
   rcases Hl d1 (Gs (ev w x))with h'|h'
   ·exact h'
   ·have h5:=Rt (Qt h') (NR hx u);rw[<-h]at h5;exact absurd (Zl hf h5) (Yb.2 d1b)
  have:=Nh hw (Nx hx hy hR (Zl hxy e2) ew3);exact nV this.1 this.2
theorem loc{R:Rat}(hR:0<=R){f w u:U9}{L:Fa}(hc:SU f L)(h:∀t,ev f t=ev w t*ev u t):∃e:Rat,0<e/\∀x y,Gs x<=R->Gs y<=R->x<y->y-x<=e->Qgr f w L x y:=by
 rcases hc with⟨c,hc,hf,rfl⟩|⟨g,l,k,hk,hg,hc,rfl⟩
 ·obtain⟨e,ep,h1⟩:=Qvk hR (Ll hc) h;refine⟨e,ep,λx y hx hy hxy he=>.inl ⟨?_,h1 x y hx hy (by rw[Be];constructor <;> grind) (by rw[hf];exact Qr)⟩⟩;simp only[vv,tc,hf]
 ·obtain⟨d,e1,dp,e1p,h1⟩:=Qyu hR hc;obtain⟨e2,e2p,h2⟩:=Qvk hR dp h;obtain⟨d3,d3p,_,d3b⟩:=Rw (b:=k) (d:=d) (Qt hk) dp;obtain⟨e3,e3p,_,e3b⟩:=Rw (AX hR f) d3p;obtain⟨d4,d4p,_,d4b⟩:=Rw (b:=qL R w+qL R u) (d:=d3) (by have:=B5 hR w;have:=B5 hR u;grind) d3p;obtain⟨e4,e4p,_,e4b⟩:=Rw (B5 hR w) d4p;obtain⟨e5,e5p,_,e5b⟩:=Rw (B5 hR u) d4p;obtain⟨a1,a1p,a11,a12⟩:=min2 e1p e2p;obtain⟨a2,a2p,a21,a22⟩:=min2 e3p e4p;obtain⟨a3,a3p,a31,a32⟩:=min2 a1p a2p;obtain⟨e,ep,b1,b2⟩:=min2 a3p e5p;refine⟨e,ep,λx y hx hy hxy he=>?_⟩;have hab:Gs (y-x)<=e:=by rw[Be];clear h1 h2;constructor <;> grind
  have hab1:Gs (y-x)<=e1:=by clear h1 h2;grind
  have hab2:Gs (y-x)<=e2:=by clear h1 h2;grind
  obtain⟨i1,i2,i3,i4,i5⟩:=h1 x y hx hy hab1;rcases Hl d (Gs (ev f x))with hf|hf
  ·obtain⟨s1,s2⟩:=h2 x y hx hy hab2 hf;obtain⟨j1,j2⟩:=i2 hf;refine .inl ⟨?_,s1,s2⟩;have:=i4 j1 j2;simp only[vv];rw[TC (x:=x) (p:=f) j2,TC (x:=y) (p:=f) (by rw[j1];exact j2),j1,this]
  ·have hg1:d<=Gs (ev g x):=by
    rcases i1 with i|i
    ·exact absurd i (Yb.2 hf)
    ·exact i
   obtain⟨g1,g2⟩:=i3 hg1;have i5:=i5 g1 g2;have hD:d3<=Gs (dv f x):=by
    rcases Hl d3 (Gs (dv f x))with h'|h'
    ·exact h'
    ·have h5:=Rt (x:=k) (a:=k) (by unfold Gs;split <;> clear h1 h2 <;> grind) (Rat.le_of_lt h');rw[<-hg]at h5;have:k*d3=d3*k:=Fq;exact absurd (Zl hg1 h5) (Yb.2 (by rw[this];exact d3b))
   have hm:=IL hx hy hR hxy (by clear h1 h2;grind:y-x<=e3) hD e3b;have s1:Gn (ev g x)=Gn (dv f x):=by rw[hg,Mc,Tj.2 hk,Wc]
   have s2:Gn (ev g y)=Gn (dv f y):=by rw[hg,Mc,Tj.2 hk,Wc]
   obtain⟨s,hs⟩:=nmE (Gn (ev g x));rw[<-hs]at g1 g2 i5 s1;rw[g1]at s2;have v1:=tc0 (f:=f) (l:=l) hs.symm g2;have v2:=tc0 (f:=f) (l:=l) g1 g2;rw[<-i5]at v2;rw[<-s1]at hm;have hw:Sm f x y->Sm w x y:=λhf=>by
    rcases Hl d4 (Gs (ev u x))with hu|hu
    ·have hu:=Nh hu (Nx hx hy hR (Zl hab b2) e5b);exact Qzt h hu.1 hu.2 hf
    ·have hw:d4<=Gs (ev w x):=by
      rcases Hl d4 (Gs (ev w x))with h'|h'
      ·exact h'
      ·have q1:=Rt (x:=dv w x) (y:=ev u x) (a:=qL R w) (by rw[<-kN];exact tH hx hx w) (Qt hu);have q2:=Rt (x:=ev w x) (y:=dv u x) (b:=qL R u) (Qt h') (by rw[<-kN];exact tH hx hx u);have q3:=P9 (dv w x*ev u x) (ev w x*dv u x);rw[<-XS h]at q3;have:d4*(qL R w+qL R u)=qL R w*d4+d4*qL R u:=Fq;rw[this]at d4b;exact absurd (Zl hD (Zl q3 (by clear h1 h2;grind:_<=qL R w*d4+d4*qL R u))) (Yb.2 d4b)
     have hw:=Nh hw (Nx hx hy hR (Zl hab (by clear h1 h2;grind)) e4b);exact nV hw.1 hw.2
   have lx:M7 f x=if Gn (ev f x)≠0 then Gn (ev f x)else s:=by rw[s1];rfl
   have ly:M7 f y=if Gn (ev f y)≠0 then Gn (ev f y)else s:=by rw[s2];rfl
   clear h1 h2 i1 i2 i3 i4;have hsv:s=1\/s=-1:=by rcases G6 (ev g x)with⟨e,_⟩|⟨e,_⟩|⟨e,_⟩ <;> omega
   unfold Qgr;simp only[vv,v1,v2];rcases hsv with rfl|rfl
   ·have hm:=Tj.1 hm;rcases G6 (ev f x)with⟨p1,p2⟩|⟨p1,p2⟩|⟨p1,p2⟩
    ·rcases G6 (ev f y)with⟨q1,q2⟩|⟨q1,q2⟩|⟨q1,q2⟩
     ·rw[p1,q1];have hsm:=nV (p:=f) (x:=x) (y:=y) (by rw[p1,q1]) (by rw[p1];decide);exact .inl ⟨rfl,hsm,hw hsm⟩
     ·rw[lx,ly,p1,q1];refine .inr ⟨Fo,Fl,Fl,Fl,Fl⟩
     ·rw[lx,ly,p1,q1];refine .inr ⟨Fo,Fl,Fl,Fl,Fl⟩
    ·have q1:=Tj.2 (show 0<ev f y by grind);have hsm:Sm f x y:=⟨by rw[lx,q1,p1];rfl,by rw[lx,ly,q1,p1];rfl,by rw[lx,p1];decide⟩;rw[p1,q1];exact .inl ⟨rfl,hsm,hw hsm⟩
    ·have q1:=Tj.2 (show 0<ev f y by grind);have hsm:Sm f x y:=⟨by rw[lx,q1,p1];rfl,by rw[lx,ly,q1,p1],by rw[lx,p1];decide⟩;rw[p1,q1];exact .inl ⟨rfl,hsm,hw hsm⟩
   ·have hm:=Mr.1 hm;rcases G6 (ev f x)with⟨p1,p2⟩|⟨p1,p2⟩|⟨p1,p2⟩
    ·have q1:=Mr.2 (show ev f y<0 by grind);have hsm:Sm f x y:=⟨by rw[lx,q1,p1];rfl,by rw[lx,ly,q1,p1],by rw[lx,p1];decide⟩;rw[p1,q1];exact .inl ⟨rfl,hsm,hw hsm⟩
    ·have q1:=Mr.2 (show ev f y<0 by grind);have hsm:Sm f x y:=⟨by rw[lx,q1,p1];rfl,by rw[lx,ly,q1,p1];rfl,by rw[lx,p1];decide⟩;rw[p1,q1];exact .inl ⟨rfl,hsm,hw hsm⟩
    ·rcases G6 (ev f y)with⟨q1,q2⟩|⟨q1,q2⟩|⟨q1,q2⟩
     ·rw[lx,ly,p1,q1];refine .inr ⟨Fo,Fl,Fl,Fl,Fl⟩
     ·rw[lx,ly,p1,q1];refine .inr ⟨Fo,Fl,Fl,Fl,Fl⟩
     ·rw[p1,q1];have hsm:=nV (p:=f) (x:=x) (y:=y) (by rw[p1,q1]) (by rw[p1];decide);exact .inl ⟨rfl,hsm,hw hsm⟩
theorem Q3v(z:Rat):∃n:Nat,z<=(n:Rat):=by
 refine⟨z.ceil.toNat,?_⟩;have h1:z<=(z.ceil:Rat):=Rat.le_ceil;have h2:(z.ceil:Rat)<=((z.ceil.toNat:Int):Rat):=Ju.2 (Int.self_le_toNat _);exact Zl h1 h2
theorem JA{z e:Rat}(he:0<e):∃n:Nat,z<=(n:Rat)*e:=by
 obtain⟨n,hn⟩:=Q3v (z / e);exact⟨n,by have:=Zh hn (Qt he);rwa[Ru he]at this⟩
variable{x y:Rat}
theorem HL{R t:Rat}(hx:Gs x<=R)(hy:Gs y<=R)(h1:x<=t)(h2:t<=y):Gs t<=R:=by
 rw[Be]at *;constructor <;> grind
def Qdi(f w:U9)(L:Fa)(x y:Rat):Prop :=
 vv L y<=vv L x/\(vv L x=vv L y->Sm f x y/\Sm w x y)/\(vv L x=vv L y+1->M7 f x≠0/\M7 f y=-M7 f x)
variable{f:U9}{L:Fa}
theorem Qbx{w:U9}(h:Qgr f w L x y):Qdi f w L x y:=by
 rcases h with⟨h1,h2,h3⟩|⟨h1,h2,h3,_⟩
 ·exact⟨Fj,λ_=>⟨h2,h3⟩,λh=>Fj⟩
 ·exact⟨Fj,λh=>Fj,λ_=>⟨h2,h3⟩⟩
theorem nK{w:U9}{z:Rat}(h1:Sm w x y)(h2:Sm w y z):Sm w x z:=⟨by rw[h2.s,h1.l],by rw[h2.l,h1.l],h1.n⟩
theorem eQ{w:U9}{z:Rat}(h:Qdi f w L x y)(h':Qdi f w L y z):Qdi f w L x z:=by
 obtain⟨a1,a2,a3⟩:=h;obtain⟨b1,b2,b3⟩:=h';refine⟨Fj,λh=>?_,λh=>?_⟩
 ·obtain⟨s1,s2⟩:=a2 Fj;obtain⟨s3,s4⟩:=b2 Fj;exact⟨nK s1 s3,nK s2 s4⟩
 ·by_cases e:vv L x=vv L y
  ·obtain⟨s1,_⟩:=a2 e;obtain⟨s3,s4⟩:=b3 Fj;exact⟨s1.n,by rw[s4,s1.l]⟩
  ·obtain⟨s3,s4⟩:=a3 Fj;obtain⟨s1,_⟩:=b2 Fj;exact⟨s3,by rw[s1.l,s4]⟩
theorem Qyi{R:Rat}(hR:0<=R){w u:U9}(hc:SU f L)(h:∀t,ev f t=ev w t*ev u t)(hx:Gs x<=R)(hy:Gs y<=R)(hxy:x<y):Qdi f w L x y:=by
 obtain⟨e,ep,hl⟩:=loc hR hc h;have key:∀n:Nat,∀x,Gs x<=R->x<y->y-x<=(n:Rat)*e->Qdi f w L x y:=by
  intro n
  induction n with
  |zero =>
   intro x hx hxy h;exfalso;have:((0:Nat):Rat)*e=0:=Fp;grind
  |
   succ n ih =>
   intro x hx hxy hn;rcases Hl (y-x) e with h1|h1
   ·exact Qbx (hl x y hx hy hxy h1)
   ·have hm:Gs (x+e)<=R:=HL hx hy (by clear hl ih;grind) (by clear hl ih;grind);have hn':(((n+1:Nat):Rat))=(n:Rat)+1:=by push_cast;rfl
    refine eQ (Qbx (hl x (x+e) hx hm (by clear hl ih;grind) (by clear hl ih;grind))) (ih (x+e) hm (by clear hl ih;grind) ?_);rw[hn']at hn;clear hl ih;grind
 obtain⟨n,hn⟩:=JA (z:=y-x) ep;exact key n x hx hxy hn
theorem vG(x y:Rat):∃R:Rat,0<=R/\Gs x<=R/\Gs y<=R:=by
 refine⟨Gs x+Gs y,?_,?_,?_⟩ <;> (have:=Tl x;have:=Tl y;grind)
theorem S7(t:Rat):ev [1] t=1:=by simp only[ev];grind
theorem Oj(hc:SU f L)(hxy:x<y):vv L y<=vv L x:=by
 obtain⟨R,hR,hx,hy⟩:=vG x y;exact(Qyi hR hc (w:=f) (u:=[1]) (λt=>by rw[S7];grind) hx hy hxy).1
theorem UK{w u:U9}(hc:SU f L)(h:∀t,ev f t=ev w t*ev u t)(hxy:x<y)(he:vv L x=vv L y):Sm w x y:=by
 obtain⟨R,hR,hx,hy⟩:=vG x y;exact((Qyi hR hc h hx hy hxy).2.1 he).2
theorem fB(hc:SU f L)(hxy:x<y)(he:vv L x=vv L y):Sm f x y :=
 UK hc (w:=f) (u:=[1]) (λt=>by rw[S7];grind) hxy he
theorem fN(hc:SU f L)(hxy:x<y)(he:vv L x=vv L y+1):M7 f x≠0/\M7 f y=-M7 f x:=by
 obtain⟨R,hR,hx,hy⟩:=vG x y;exact(Qyi hR hc (w:=f) (u:=[1]) (λt=>by rw[S7];grind) hx hy hxy).2.2 he
theorem Qoi(hc:SU f L)(R:Rat)(hR:0<=R):∃e:Rat,0<e/\∀x y,Gs x<=R->Gs y<=R->x<y->y-x<=e->vv L x<=vv L y+1:=by
 obtain⟨e,ep,hl⟩:=loc hR hc (w:=f) (u:=[1]) (λt=>by rw[S7];grind);refine⟨e,ep,λx y hx hy hxy he=>?_⟩;rcases hl x y hx hy hxy he with⟨h,_⟩|⟨h,_⟩ <;> omega
variable{p:U9}
theorem GI(h:Gn (ev p x)≠0):∃e:Rat,0<e/\∀y,Gs (y-x)<=e->Gn (ev p y)=Gn (ev p x):=by
 have hd:=Ll (x:=ev p x) λh0=>h (Hd.2 h0)
 have hR:0<=Gs x+1:=by have:=Tl x;grind
 obtain⟨e,e1,e2,e3⟩:=Rw (B5 hR p) hd;refine⟨e,e1,λy hy=>(Nh Qr (Nx (x:=x) Fq ?_ hR hy e3)).1⟩;have:=P9 (y-x) x;have e:y-x+x=y:=Fq;rw[e]at this;grind
theorem Qvu{R M:Rat}{p:U9}(hM:M=ddB R p)(hR:0<=R){h:Rat}(hh:0<h):∀(n:Nat) (x:Rat),Gs x<=R->Gs (x+(n:Rat)*h)<=R->(∀t,x<=t->t<=x+(n:Rat)*h->0<=dv p t)->ev p x-(n:Rat)*(h*h*M)<=ev p (x+(n:Rat)*h)
 |
  0,x,_,_,_=>by
  have e1:x+((0:Nat):Rat)*h=x:=by rw[show((0:Nat):Rat)=0 from rfl];grind
  have e2:((0:Nat):Rat)*(h*h*M)=0:=Fp;rw[e1,e2];grind
 |
  n+1,x,hx,hy,hd=>by
  have hn':(((n+1:Nat):Rat))=(n:Rat)+1:=by push_cast;rfl
  rw[hn']at hy hd ⊢;have hn0:(0:Rat)<=(n:Rat):=Xz;have hnh:=Dc hn0 (Qt hh);have e1:x+((n:Rat)+1)*h=(x+h)+(n:Rat)*h:=Fq;rw[e1]at hy hd ⊢;have hxh:Gs (x+h)<=R:=HL hx hy (by clear hd;grind) (by clear hd;grind);have ih:=Qvu hM hR hh n (x+h) hxh hy λt h1 h2=>hd t (by clear hd;grind) h2
  have h0:=hd x Qr (by clear hd;grind);have h1:=Qvh p (x+h) x;have h2:=Qju hxh hx p;rw[<-hM,Be]at h2;have h3:=Xc h2.1 (Dc (Qt hh) (Qt hh));have h4:=Dc (Qt hh) h0;have e2:x+h-x=h:=Fq;rw[e2]at h1;clear hd hx hy hxh;grind
theorem Q2f(hxy:x<y)(hd:∀t,x<=t->t<=y->0<=dv p t):ev p x<=ev p y:=by
 obtain⟨R,hR,hx,hy⟩:=vG x y;rcases Hl (ev p x) (ev p y)with h|h
 ·exact h
 ·exfalso;obtain⟨M,hM⟩:=nmE (ddB R p);have hM0:=AX hR p;rw[<-hM]at hM0;obtain⟨e,ep,_,he⟩:=Rw (b:=(y-x)*M) (d:=ev p x-ev p y) (Dc Fq hM0) Fq;obtain⟨n,hn⟩:=JA (z:=y-x) ep;have hn0:0<(n:Rat):=by
   rcases Hl (n:Rat) 0 with h'|h'
   ·have:=Zh h' (Qt ep);clear hd;grind
   ·exact h'
  have hh:0<(y-x) / n:=Iz Fq hn0;have e1:(n:Rat)*((y-x) / n)=y-x:=by rw[Un];exact Ru hn0
  have e2:x+(n:Rat)*((y-x) / n)=y:=by rw[e1];grind
  have h1:=Qvu hM hR hh n x hx (by rw[e2];exact hy) (by rw[e2];exact hd);rw[e2]at h1;have h2:(y-x) / n<=e:=by
   rcases Hl ((y-x) / n) e with h'|h'
   ·exact h'
   ·have:=Rat.mul_lt_mul_of_pos_left h' hn0;clear hd;grind
  have h3:(n:Rat)*((y-x) / n*((y-x) / n)*M)=((y-x) / n)*((y-x)*M):=by
   have:(n:Rat)*((y-x) / n*((y-x) / n)*M)=((n:Rat)*((y-x) / n))*(((y-x) / n)*M):=Fq;rw[this,e1];grind
  have h4:=Zh h2 (Dc (x:=y-x) (y:=M) Fq hM0);rw[h3]at h1;clear hd;grind
theorem Qtn(hxy:x<y)(hd:∀t,x<=t->t<=y->0<dv p t):ev p x<ev p y:=by
 have hx:=hd x Qr Fq;have hR:0<=Gs x+1:=by have:=Tl x;grind
 obtain⟨e,e1,e2,e3⟩:=Rw (AX hR p) hx;obtain⟨f,f1,f2,f3⟩:=min2 (a:=e) (b:=y-x) e1 Fq;have hq:Gs (x+f)<=Gs x+1:=by
  have:=P9 x f;have:Gs f=f:=by unfold Gs;split <;> grind
  clear hd;grind
 have h1:=IL (p:=p) (x:=x) (y:=x+f) (R:=Gs x+1) (e:=e) (d:=dv p x) (by clear hd;grind) hq hR Fq Fq (by unfold Gs;split <;> clear hd <;> grind) e3;rw[Tj.2 hx,Tj]at h1;rcases Classical.em (x+f=y)with e|e
 ·rw[<-e];clear hd;grind
 ·have:=Q2f (p:=p) (x:=x+f) (y:=y) (by clear hd;grind) λt h1 h2=>Qt (hd t (by clear hd;grind) h2)
  clear hd;grind
structure Cut(c:Rat->Int):Prop where
 val:∀q,c q=1\/c q=0\/c q=-1
 mono:∀q r,q<r->c q≠1->c r=-1
 up:∀q,c q=1->∃r,q<r/\c r=1
 dn:∀q,c q=-1->∃r,r<q/\c r=-1
 lo:∃q,c q=1
 hi:∃q,c q=-1
variable{c:Rat->Int}
theorem Cut.mono'(h:Cut c){q r:Rat}(hqr:q<r)(hr:c r≠-1):c q=1:=by
 rcases Classical.em (c q=1)with e|e
 ·exact e
 ·exact absurd (h.mono q r hqr e) hr
theorem Cut.lt(h:Cut c){q r:Rat}(hq:c q=1)(hr:c r=-1):q<r:=by
 rcases Hl r q with e|e
 ·rcases Classical.em (r=q)with e'|e'
  ·rw[e']at hr;omega
  ·have:=h.mono r q Fq Fj;omega
 ·exact e
variable{e:Rat}
theorem Cut.near(h:Cut c)(he:0<e):∃x y,c x=1/\c y=-1/\y-x<=e:=by
 obtain⟨a,ha⟩:=h.lo;obtain⟨b,hb⟩:=h.hi;have he2:0<e / 2:=Iz he Fl;have h2:e / 2*2=e:=Ru Fl;have key:∀(n:Nat) (a:Rat),c a=1->b-a<=(n:Rat)*(e / 2)->∃x y,c x=1/\c y=-1/\y-x<=e:=by
  intro n
  induction n with
  |
   zero =>
   intro a ha hn;have:=h.lt ha hb;rw[show((0:Nat):Rat)=0 from rfl]at hn;exfalso;grind
  |
   succ n ih =>
   intro a ha hn;have hn':(((n+1:Nat):Rat))=(n:Rat)+1:=by push_cast;rfl
   rw[hn']at hn;rcases h.val (a+e / 2)with h1|h1|h1
   ·exact ih _ h1 Fq
   ·exact⟨a,a+e,ha,h.mono (a+e / 2) _ Fq Fj,Fq⟩
   ·exact⟨a,a+e / 2,ha,h1,Fq⟩
 obtain⟨n,hn⟩:=JA (z:=b-a) he2;exact key n a ha hn
def QT(p:U9)(c:Rat->Int):Prop:=∀d:Rat,0<d->∃x y,c x=1/\c y=-1/\∀q,x<=q->q<=y->Gs (ev p q)<d
def NZ(p:U9)(c:Rat->Int)(s:Int):Prop:=∃d:Rat,0<d/\∃x y,c x=1/\c y=-1/\∀q,x<=q->q<=y->Gn (ev p q)=s/\d<=Gs (ev p q)
def Nr(c:Rat->Int)(P:Rat->Prop):Prop:=∃x y,c x=1/\c y=-1/\∀q,x<=q->q<=y->P q
variable{P:Rat->Prop}
theorem eN{Q:Rat->Prop}(h1:Nr c P)(h2:Nr c Q):Nr c λq=>P q/\Q q:=by
 obtain⟨x,y,a1,a2,a3⟩:=h1;obtain⟨x',y',b1,b2,b3⟩:=h2;refine⟨if x<=x' then x' else x,if y<=y' then y else y',by split <;> assumption,by split <;> assumption,λq q1 q2=>⟨a3 q ?_ ?_,b3 q ?_ ?_⟩⟩ <;> clear a3 b3 <;> grind
theorem DY{Q:Rat->Prop}(h1:Nr c P)(h:∀q,P q->Q q):Nr c Q:=by
 obtain⟨x,y,a1,a2,a3⟩:=h1;exact⟨x,y,a1,a2,λq q1 q2=>h q (a3 q q1 q2)⟩
theorem pH(hc:Cut c)(h1:Nr c P):∃q,P q/\c q=1:=by
 obtain⟨x,y,a1,a2,a3⟩:=h1;exact⟨x,a3 x Qr (Qt (hc.lt a1 a2)),a1⟩
theorem Ql7(hc:Cut c)(he:0<e)(h1:Nr c P):∃x y,c x=1/\c y=-1/\y-x<=e/\x<y/\∀q,x<=q->q<=y->P q:=by
 obtain⟨x,y,a1,a2,a3⟩:=h1;obtain⟨x',y',b1,b2,b3⟩:=hc.near he;refine⟨if x<=x' then x' else x,if y<=y' then y else y',by split <;> assumption,by split <;> assumption,by clear a3;grind,hc.lt (by split <;> assumption) (by split <;> assumption),λq q1 q2=>a3 q ?_ ?_⟩ <;> clear a3 <;> grind
theorem Qvs(hc:Cut c):∃R:Rat,0<=R/\Nr c λq=>Gs q<=R:=by
 obtain⟨x,y,a1,a2,_⟩:=hc.near (e:=1) Fl;obtain⟨R,hR,h1,h2⟩:=vG x y;exact⟨R,hR,x,y,a1,a2,λq q1 q2=>HL h1 h2 q1 q2⟩
theorem KQ(hc:Cut c)(p:U9):QT p c\/∃s,s≠0/\NZ p c s:=by
 rcases Classical.em (QT p c)with h|h
 ·exact .inl h
 ·refine .inr ?_;obtain⟨d,hd0⟩:=Classical.not_forall.1 h;obtain⟨dp,hd⟩:=Classical.not_imp.1 hd0;have hd:∀x y,c x=1->c y=-1->∃q,x<=q/\q<=y/\d<=Gs (ev p q):=λx y hx hy=>by
   rcases Classical.em (∃q,x<=q/\q<=y/\d<=Gs (ev p q))with h'|h'
   ·exact h'
   ·refine absurd ⟨x,y,hx,hy,λq h1 h2=>?_⟩ hd;rcases Hl d (Gs (ev p q))with h3|h3
    ·exact absurd ⟨q,h1,h2,h3⟩ h'
    ·exact h3
  obtain⟨R,hR,hn⟩:=Qvs hc;have hd2:0<d / 2:=Iz dp Fl;have h2:d / 2*2=d:=Ru Fl;obtain⟨e,e1,_,e3⟩:=Rw (B5 hR p) hd2;obtain⟨x,y,hx,hy,hxy,_,hq⟩:=Ql7 hc e1 hn;obtain⟨r,r1,r2,r3⟩:=hd x y hx hy;have key:∀q,x<=q->q<=y->Gs (ev p q-ev p r)<d / 2:=λq q1 q2 =>
   Nx (hq r r1 r2) (hq q q1 q2) hR (by rw[Be];clear hq hd;constructor <;> grind) e3
  refine⟨Gn (ev p r),λh0=>?_,d / 2,hd2,x,y,hx,hy,λq q1 q2=>⟨(Nh (d:=d) r3 ?_).1,?_⟩⟩
  ·rw[Hd.1 h0,Ty]at r3;clear hq hd key;grind
  ·have:=key q q1 q2;clear hq hd key;grind
  ·have h3:=key q q1 q2;have h4:=P9 (ev p r-ev p q) (ev p q);rw[show ev p r-ev p q+ev p q=ev p r from by clear hq hd key;grind,Qcs]at h4;clear hq hd key;grind
variable{p:U9}{s:Int}
theorem Qz8(hc:Cut c)(h1:QT p c)(h2:NZ p c s):False:=by
 obtain⟨d,dp,h2⟩:=h2;obtain⟨q,⟨a,b⟩,_⟩:=pH hc (eN (h1 d dp) h2);exact absurd b.2 (Yb.2 a)
theorem Ns(hc:Cut c){f q:U9}(hf:∀t,ev f t=ev p t*ev q t)(h:QT p c):QT f c:=by
 intro d dp;obtain⟨R,hR,hn⟩:=Qvs hc;obtain⟨e,e1,_,e3⟩:=Rw (YF hR q) dp;refine DY (eN hn (h e e1)) λt ⟨h1,h2⟩=>?_
 rw[hf];have:=Rt (Qt h2) (NR h1 q);exact Yb.1 λh=>absurd (Zl h this) (Yb.2 e3)
theorem LY{f q:U9}(hf:∀t,ev f t=ev p t+ev q t)(h:QT p c)(h':QT q c):QT f c:=by
 intro d dp;have hd2:0<d / 2:=Iz dp Fl;have h2:d / 2*2=d:=Ru Fl;refine DY (eN (h _ hd2) (h' _ hd2)) λt ⟨h1,h2⟩=>?_
 rw[hf];have:=P9 (ev p t) (ev q t);grind
def RS(p:U9)(c:Rat->Int)(s:Int):Prop:=∃y,c y=-1/\∀q,c q=-1->q<=y->Gn (ev p q)=s
def LS(p:U9)(c:Rat->Int)(s:Int):Prop:=∃x,c x=1/\∀q,c q=1->x<=q->Gn (ev p q)=s
theorem yP(hc:Cut c)(h:NZ p c s):RS p c s:=by
 obtain⟨d,dp,x,y,a1,a2,a3⟩:=h;exact⟨y,a2,λq h1 h2=>(a3 q (Qt (hc.lt a1 h1)) h2).1⟩
theorem Qb1(hc:Cut c)(h:NZ p c s):LS p c s:=by
 obtain⟨d,dp,x,y,a1,a2,a3⟩:=h;exact⟨x,a1,λq h1 h2=>(a3 q h2 (Qt (hc.lt h1 a2))).1⟩
theorem TG{s':Int}(h:RS p c s)(h':RS p c s'):s=s':=by
 obtain⟨y,a1,a2⟩:=h;obtain⟨y',b1,b2⟩:=h';rcases Hl y y' with e|e
 ·rw[<-a2 y a1 Qr,<-b2 y a1 e]
 ·rw[<-a2 y' b1 (Qt e),<-b2 y' b1 Qr]
theorem Qvx(hc:Cut c)(hv:QT p c){y:Rat}(hy:c y=-1)(h:∀q,c q=-1->q<=y->0<dv p q)(q:Rat)(hq:c q=-1)(hqy:q<=y):0<ev p q:=by
 rcases Hl (ev p q) 0 with h0|h0
 ·exfalso;obtain⟨r,r1,r2⟩:=hc.dn q hq;have hr:ev p r<ev p q:=Qtn r1 λt t1 t2=>h t (by
   rcases Classical.em (r=t)with e|e
   ·rw[<-e];exact r2
   ·exact hc.mono r t (by clear h;grind) Fj) (Zl t2 hqy)
  obtain⟨a,b,ha,hb,hab⟩:=hv (-ev p r) (by clear h;grind);obtain⟨m,hm1,hm2,hm3⟩:∃m,c m=-1/\m<=b/\m<=r:=by
   rcases Hl b r with e|e
   ·exact⟨b,hb,Qr,e⟩
   ·exact⟨r,r2,Qt e,Qr⟩
  have h1:=hab m (Qt (hc.lt ha hm1)) hm2;have h2:ev p m<=ev p r:=by
   rcases Classical.em (m=r)with e|e
   ·rw[e];exact Qr
   ·exact Qt (Qtn (by clear h hab;grind) λt t1 t2=>h t (by
     rcases Classical.em (m=t)with e|e
     ·rw[<-e];exact hm1
     ·exact hc.mono m t (by clear h hab;grind) Fj) (by clear h hab;grind))
  rw[uB]at h1;clear h hab;grind
 ·exact h0
theorem uA(hc:Cut c)(hv:QT p c)(h:RS (De p) c s)(hs:s≠0):RS p c s:=by
 obtain⟨y,hy,h⟩:=h;have hsv:s=1\/s=-1:=by
  have:=h y hy Qr;rcases G6 (ev (De p) y)with⟨e,_⟩|⟨e,_⟩|⟨e,_⟩ <;> omega
 rcases hsv with rfl|rfl
 ·refine⟨y,hy,λq h1 h2=>Tj.2 (Qvx hc hv hy (λq h1 h2=>?_) q h1 h2)⟩;rw[<-Pi];exact Tj.1 (h q h1 h2)
 ·refine⟨y,hy,λq h1 h2=>Mr.2 ?_⟩;have:=Qvx hc (p:=Ey (-1) p) (y:=y) (λd dp=>DY (hv d dp) λq hq=>by rw[Hx,show -1*ev p q=-ev p q by grind,A9];exact hq) hy (λq h1 h2=>by
   rw[PU,<-Pi];have:=Mr.1 (h q h1 h2);grind) q h1 h2
  rw[Hx]at this;grind
variable{c:Rat->Int}{p:U9}
theorem Qvp(hc:Cut c)(hv:QT p c){x:Rat}(hx:c x=1)(h:∀q,c q=1->x<=q->0<dv p q)(q:Rat)(hq:c q=1)(hxq:x<=q):ev p q<0:=by
 rcases Hl 0 (ev p q)with h0|h0
 ·exfalso;obtain⟨r,r1,r2⟩:=hc.up q hq;have hr:ev p q<ev p r:=Qtn r1 λt t1 t2=>h t (by
   rcases Classical.em (t=r)with e|e
   ·rw[e];exact r2
   ·exact hc.mono' (q:=t) (r:=r) (by clear h;grind) Fj) (Zl hxq t1)
  obtain⟨a,b,ha,hb,hab⟩:=hv (ev p r) (by clear h;grind);obtain⟨m,hm1,hm2,hm3⟩:∃m,c m=1/\a<=m/\r<=m:=by
   rcases Hl a r with e|e
   ·exact⟨r,r2,e,Qr⟩
   ·exact⟨a,ha,Qr,Qt e⟩
  have h1:=hab m hm2 (Qt (hc.lt hm1 hb));have h2:ev p r<=ev p m:=by
   rcases Classical.em (r=m)with e|e
   ·rw[e];exact Qr
   ·exact Qt (Qtn (by clear h hab;grind) λt t1 t2=>h t (by
     rcases Classical.em (t=m)with e|e
     ·rw[e];exact hm1
     ·exact hc.mono' (q:=t) (r:=m) (by clear h hab;grind) Fj) (by clear h hab;grind))
  rw[uB]at h1;clear h hab;grind
 ·exact h0
variable{s:Int}
theorem Qlq(hc:Cut c)(hv:QT p c)(h:LS (De p) c s)(hs:s≠0):LS p c (-s):=by
 obtain⟨x,hx,h⟩:=h;have hsv:s=1\/s=-1:=by
  have:=h x hx Qr;rcases G6 (ev (De p) x)with⟨e,_⟩|⟨e,_⟩|⟨e,_⟩ <;> omega
 rcases hsv with rfl|rfl
 ·refine⟨x,hx,λq h1 h2=>Mr.2 (Qvp hc hv hx (λq h1 h2=>?_) q h1 h2)⟩;rw[<-Pi];exact Tj.1 (h q h1 h2)
 ·refine⟨x,hx,λq h1 h2=>Tj.2 ?_⟩;have:=Qvp hc (p:=Ey (-1) p) (x:=x) (λd dp=>DY (hv d dp) λq hq=>by rw[Hx,show -1*ev p q=-ev p q by grind,A9];exact hq) hx (λq h1 h2=>by
   rw[PU,<-Pi];have:=Mr.1 (h q h1 h2);grind) q h1 h2
  rw[Hx]at this;grind
variable{f:U9}
theorem Qtu(hc:Cut c){g:U9}{l:Fa}(h:SCl f g l):QT f c->QT g c->False:=by
 induction h with
 |
  @base f g k hk hg =>
  intro _ hv;obtain⟨q,hq,_⟩:=pH hc (hv (Gs k) (Ll hk));rw[hg]at hq;grind
 |
  @step f g h l a b q ha hb he hl ih =>
  intro hf hg;refine ih hg ?_;have h1:QT (Rl q g) c:=Ns hc (p:=g) (q:=q) (λt=>by rw[Gp];grind) hg;have h2:QT (Ey (-a) f) c:=Ns hc (p:=f) (q:=[-a]) (λt=>by rw[Hx];simp only[ev];grind) hf;have h3:QT (Ma (Rl q g) (Ey (-a) f)) c:=LY (λt=>Rf t _ _) h1 h2;refine Ns hc (p:=Ma (Rl q g) (Ey (-a) f)) (q:=[1 / b]) (λt=>?_) h3;have:=he t;rw[Rf,Gp,Hx];simp only[ev];have hbb:1 / b*b=1:=Ru hb;have:ev q t*ev g t+-a*ev f t=b*ev h t:=by rw[show -a*ev f t=-(a*ev f t) by grind,he t];grind
  rw[this];have:b*ev h t*(1 / b+t*0)=ev h t*(1 / b*b):=Fq;rw[this,hbb];grind
theorem vW(hc:Cut c){g:U9}{k:Rat}(h:∀t,ev g t=k*ev f t)(hv:QT f c):QT g c :=
 Ns hc (p:=f) (q:=[k]) (λt=>by rw[h];simp only[ev];grind) hv
variable{L:Fa}
theorem Qt3(hc:Cut c)(h:SU f L)(hv:QT f c):∃s,s≠0/\NZ (De f) c s:=by
 rcases KQ hc (De f)with h1|h1
 ·exfalso;rcases h with⟨k,hk,hf,_⟩|⟨g,l,k,hk,hg,h,_⟩
  ·obtain⟨q,hq,_⟩:=pH hc (hv (Gs k) (Ll hk));rw[hf]at hq;grind
  ·exact Qtu hc h hv (vW hc (λt=>by rw[hg,Pi]) h1)
 ·exact h1
theorem Qa2(hc:Cut c){w u:U9}(h:SU f L)(hf:∀t,ev f t=ev w t*ev u t)(hv:QT w c):∃s,s≠0/\NZ (De w) c s:=by
 rcases KQ hc (De w)with h1|h1
 ·exfalso;obtain⟨s,_,hs⟩:=Qt3 hc h (Ns hc hf hv);refine Qz8 hc ?_ hs;have a1:QT (Rl (De w) u) c:=Ns hc (λt=>Gp t _ _) h1;have a2:QT (Rl w (De u)) c:=Ns hc (λt=>Gp t _ _) hv;refine LY (λt=>?_) a1 a2;rw[Pi,XS hf,Gp,Gp,Pi,Pi]
 ·exact h1
variable{q:Rat}
theorem Qjr(hc:Cut c)(h:c q=0){x y:Rat}(hx:c x=1)(hy:c y=-1):x<=q/\q<=y:=by
 constructor
 ·rcases Hl x q with e|e
  ·exact e
  ·have:=hc.mono q x e Fj;omega
 ·rcases Hl q y with e|e
  ·exact e
  ·have:=hc.mono y q e Fj;omega
theorem MO(hc:Cut c)(h:c q=0)(hv:QT p c):ev p q=0:=by
 rcases Classical.em (ev p q=0)with e|e
 ·exact e
 ·obtain⟨x,y,hx,hy,hq⟩:=hv _ (Ll e);obtain⟨h1,h2⟩:=Qjr hc h hx hy;have:=hq q h1 h2;grind
theorem pR(hc:Cut c)(h:c q=0)(hv:NZ p c s):Gn (ev p q)=s:=by
 obtain⟨d,dp,x,y,hx,hy,hq⟩:=hv;obtain⟨h1,h2⟩:=Qjr hc h hx hy;exact(hq q h1 h2).1
theorem dD(hc:Cut c){y z:Rat}(hy:c y=-1)(hz:c z=-1):∃q,c q=-1/\q<y/\q<z:=by
 obtain⟨a,a1,a2⟩:=hc.dn y hy;obtain⟨b,b1,b2⟩:=hc.dn z hz;rcases Hl a b with e|e
 ·exact⟨a,a2,a1,Fq⟩
 ·exact⟨b,b2,Fq,b1⟩
theorem AQ(hc:Cut c){y z:Rat}(hy:c y=1)(hz:c z=1):∃q,c q=1/\y<q/\z<q:=by
 obtain⟨a,a1,a2⟩:=hc.up y hy;obtain⟨b,b1,b2⟩:=hc.up z hz;rcases Hl a b with e|e
 ·exact⟨b,b2,Fq,b1⟩
 ·exact⟨a,a2,a1,Fq⟩
theorem Ql6{w u:U9}(h:SU f L)(hf:∀t,ev f t=ev w t*ev u t){x y:Rat}(hv:vv L x=vv L y)(hc:Cut c)(hx:c x=1)(hy:c y≠1):¬QT w c:=λhw=>by
 have hxy:x<y:=by
  rcases Hl y x with e|e
  ·rcases Classical.em (y=x)with e'|e'
   ·rw[e']at hy;exact absurd hx hy
   ·have:=hc.mono y x Fq hy;omega
  ·exact e
 have hwv:=UK h hf hxy hv;rcases hc.val y with e|e|e
 ·exact hy e
 ·have:=MO hc e hw;have:=hwv.s;rw[Hd.2 (by assumption)]at this;exact hwv.n this.symm
 ·obtain⟨s,hs,hd⟩:=Qa2 hc h hf hw;obtain⟨a,ha,hal⟩:=Qlq hc hw (Qb1 hc hd) hs;obtain⟨b,hb,hbr⟩:=uA hc hw (yP hc hd) hs;obtain⟨q,q1,q2,q3⟩:=AQ hc hx ha;obtain⟨r,r1,r2,r3⟩:=dD hc hb e;have e1:=hal q q1 (Qt q3);have e2:=hbr r r1 (Qt r2);have hqr:=hc.lt q1 r1;have v1:vv L q<=vv L x:=Oj h q2;have v2:vv L y<=vv L r:=Oj h r3;have v3:vv L r<=vv L q:=Oj h hqr;have s1:=(UK h hf q2 Fj).s;have s2:=(UK h hf (x:=x) (y:=r) Fq Fj).s;omega
theorem fH(h:SU f L){x y:Rat}(hxy:x<y)(hv:vv L x≠vv L y){d:Rat}(dp:0<d):∃q,x<=q/\q<=y/\Gs (ev f q)<d:=by
 obtain⟨R,hR,hx,hy⟩:=vG x y;obtain⟨e1,e1p,hl⟩:=loc hR h (w:=f) (u:=[1]) (λt=>by rw[S7];grind);obtain⟨e2,e2p,_,e2b⟩:=Rw (B5 hR f) dp;obtain⟨e,ep,h1,h2⟩:=min2 e1p e2p;have key:∀n:Nat,∀x,Gs x<=R->x<y->vv L x≠vv L y->y-x<=(n:Rat)*e->∃q,x<=q/\q<=y/\Gs (ev f q)<d:=by
  intro n
  induction n with
  |zero=>intro x hx hxy _ hn;rw[show((0:Nat):Rat)=0 from rfl]at hn;exfalso;clear hl;grind
  |
   succ n ih =>
   intro x hx hxy hv hn;have hstep:∀z,Gs z<=R->x<z->z-x<=e->vv L x≠vv L z->Gs (ev f z)<d:=λz hz hxz hze hv=>by
    rcases hl x z hx hz hxz (Zl hze h1)with⟨p,_⟩|⟨_,p1,p2,p3,p4⟩
    ·exact absurd p hv
    ·have hd:=Nx (p:=f) hx hz hR (e:=e2) (d:=d) (by rw[Be];clear hl ih;constructor <;> grind) e2b;rw[<-p3]at p1 p4;clear hl ih p2 p3;rw[uB]at *;rcases G6 (ev f x)with⟨a,a'⟩|⟨a,a'⟩|⟨a,a'⟩ <;> rcases G6 (ev f z)with⟨b,b'⟩|⟨b,b'⟩|⟨b,b'⟩ <;> rw[a,b]at p4 <;> first|(exfalso;revert p4;decide)|skip
     all_goals first|(constructor <;> grind)|(exfalso;omega)
   rcases Hl (y-x) e with h3|h3
   ·exact⟨y,Qt hxy,Qr,hstep y hy hxy h3 hv⟩
   ·have hm:Gs (x+e)<=R:=HL hx hy (by clear hl ih hstep;grind) (by clear hl ih hstep;grind);rcases Classical.em (vv L x=vv L (x+e))with e0|e0
    ·have hn':(((n+1:Nat):Rat))=(n:Rat)+1:=by push_cast;rfl
     rw[hn']at hn;obtain⟨q,q1,q2,q3⟩:=ih (x+e) hm (by clear hl ih hstep;grind) Fj (by clear hl ih hstep;grind);exact⟨q,by clear hl ih hstep;grind,q2,q3⟩
    ·exact⟨x+e,by clear hl ih hstep;grind,by clear hl ih hstep;grind,hstep (x+e) hm (by clear hl ih hstep;grind) (by clear hl ih hstep;grind) e0⟩
 obtain⟨n,hn⟩:=JA (z:=y-x) ep;exact key n x hx hxy hv hn
theorem Q1y{p:U9}{x:Rat}(h:M7 p x≠0):∃e:Rat,0<e/\∀y,x<y->y-x<=e->Gn (ev p y)=M7 p x:=by
 by_cases h0:Gn (ev p x)=0
 ·have hx:=Hd.1 h0;rw[eJ h0]at h ⊢;have hR:0<=Gs x+1:=by have:=Tl x;grind
  obtain⟨e,e1,e2,e3⟩:=Rw (AX hR p) (Ll (x:=dv p x) λh'=>h (Hd.2 h'));refine⟨e,e1,λy h1 h2=>?_⟩;have hy:Gs y<=Gs x+1:=by
   have:=P9 x (y-x);have e:x+(y-x)=y:=Fq;have e':Gs (y-x)=y-x:=by unfold Gs;split <;> grind
   rw[e,e']at this;grind
  have:=IL (p:=p) Fq hy hR h1 h2 Qr e3;rw[hx]at this;rw[<-this];congr 1;grind
 ·rw[I7 h0]at h ⊢;obtain⟨e,e1,e2⟩:=GI h;exact⟨e,e1,λy h1 h2=>e2 y (by rw[Be];constructor <;> grind)⟩
def cq(P:U9)(lo hi q:Rat):Int:=if q<=lo then 1 else if hi<q then -1 else if Gn (ev P q)=0 then 0 else if Gn (ev P q)=M7 P lo then 1 else -1
structure Vt(P:List Rat)(L:List (List Rat))(lo hi:Rat):Prop where
 s:SU P L
 l:lo<hi
 v:vv L lo=vv L hi+1
variable{P:U9}{L:Fa}{lo hi:Rat}
variable{q:Rat}
theorem Iy(h:q<=lo):cq P lo hi q=1:=by unfold cq;rw[if_pos h]
theorem GO(h:lo<hi)(h':hi<q):cq P lo hi q=-1:=by unfold cq;rw[if_neg Fq,if_pos h']
theorem QJ(h1:lo<q)(h2:q<=hi):cq P lo hi q=if Gn (ev P q)=0 then 0 else if Gn (ev P q)=M7 P lo then 1 else -1:=by
 unfold cq;rw[if_neg Fq,if_neg Fq]
theorem Vt.two(V:Vt P L lo hi)(h1:lo<q)(h2:q<=hi):vv L q=vv L lo/\cq P lo hi q=1/\Gn (ev P q)=M7 P lo\/vv L q=vv L hi/\cq P lo hi q≠1/\M7 P q=-M7 P lo/\M7 P lo≠0:=by
 have a:=Oj V.s h1;have b:vv L hi<=vv L q:=by
  rcases Classical.em (q=hi)with e|e
  ·rw[e];exact Qm _
  ·exact Oj V.s Fq
 have hv:=V.v;rcases(show vv L q=vv L lo\/vv L q=vv L hi by omega)with e|e
 ·have hs:=fB V.s h1 e.symm;refine .inl ⟨e,?_,hs.s⟩;rw[QJ h1 h2,hs.s,if_neg hs.n,if_pos rfl]
 ·obtain⟨o1,o2⟩:=fN V.s h1 Fj;refine .inr ⟨e,?_,o2,o1⟩;rw[QJ h1 h2]
  split
  ·decide
  ·rename_i h0;rw[I7 h0]at o2;rw[if_neg Fj];decide
theorem Vt.lowlo(V:Vt P L lo hi):M7 P lo≠0:=(fN V.s V.l V.v).1
theorem Vt.eq_lo(V:Vt P L lo hi)(h1:lo<q)(h2:q<=hi)(h:cq P lo hi q=1):vv L q=vv L lo:=by
 rcases V.two h1 h2 with⟨e,_⟩|⟨_,e,_⟩
 ·exact e
 ·exact absurd h e
theorem Vt.eq_hi(V:Vt P L lo hi)(h1:lo<q)(h2:q<=hi)(h:cq P lo hi q≠1):vv L q=vv L hi:=by
 rcases V.two h1 h2 with⟨_,e,_⟩|⟨e,_⟩
 ·exact absurd e h
 ·exact e
theorem Vt.hi1(V:Vt P L lo hi):cq P lo hi hi≠1:=λh=>by have:=V.eq_lo V.l Qr h;have:=V.v;omega
theorem Vt.cut(V:Vt P L lo hi):Cut (cq P lo hi) where
 val q:=by unfold cq;split <;> (try split) <;> (try split) <;> (try split) <;> simp
 mono q r h h1:=by
  have hq:lo<q:=by
   rcases Hl q lo with e|e
   ·exact absurd (Iy e) h1
   ·exact e
  rcases Hl r hi with e|e
  ·have e1:=V.eq_hi hq Fq h1;rcases V.two (q:=r) Fq e with⟨e2,_⟩|⟨e2,_,e3,e4⟩
   ·have:=Oj V.s h;have:=V.v;omega
   ·have hs:=fB V.s h Fj;rcases V.two hq Fq with⟨e5,_⟩|⟨_,_,e5,_⟩
    ·have:=V.v;omega
    ·rw[QJ Fq e,hs.s,if_neg hs.n,e5,if_neg Fj]
  ·exact GO V.l e
 up q h:=by
  rcases Hl q lo with e|e
  ·obtain⟨d,dp,hd⟩:=Q1y V.lowlo;obtain⟨f,fp,f1,f2⟩:=min2 (a:=d) (b:=hi-lo) dp (by have:=V.l;grind);have h1:lo<lo+f:=by clear hd;grind
   have h2:lo+f<=hi:=by clear hd;grind
   have:=hd (lo+f) h1 (by clear hd;grind);exact⟨lo+f,by clear hd;grind,by rw[QJ h1 h2,this,if_neg V.lowlo,if_pos rfl]⟩
  ·have hh:q<=hi:=by
    rcases Hl q hi with e'|e'
    ·exact e'
    ·have:=GO (P:=P) V.l e';omega
   rcases V.two e hh with⟨e1,_,e2⟩|⟨_,e1,_⟩
   ·have hn:q≠hi:=λh=>by rw[h]at e1;have:=V.v;omega
    obtain⟨d,dp,hd⟩:=GI (p:=P) (x:=q) (by rw[e2];exact V.lowlo);obtain⟨f,fp,f1,f2⟩:=min2 (a:=d) (b:=hi-q) dp (by clear hd;grind);have:=hd (q+f) (by rw[Be];clear hd;constructor <;> grind);exact⟨q+f,by clear hd;grind,by rw[QJ (by clear hd;grind) (by clear hd;grind),this,e2,if_neg V.lowlo,if_pos rfl]⟩
   ·exact absurd h e1
 dn q h:=by
  have hq:lo<q:=by
   rcases Hl q lo with e|e
   ·have:=Iy (P:=P) (hi:=hi) e;omega
   ·exact e
  rcases Hl q hi with e|e
  ·rw[QJ hq e]at h
   split at h
   ·cases h
   rename_i h0
   split at h
   ·cases h
   rename_i h1;obtain⟨d,dp,hd⟩:=GI h0;obtain⟨f,fp,f1,f2⟩:=min2 (a:=d) (b:=(q-lo) / 2) dp (Iz (by clear hd;grind) Fl);have h2:(q-lo) / 2*2=q-lo:=Ru Fl;have:=hd (q-f) (by rw[Be];clear hd;constructor <;> grind);exact⟨q-f,by clear hd;grind,by rw[QJ (by clear hd;grind) (by clear hd;grind),this,if_neg h0,if_neg h1]⟩
  ·have h2:(q-hi) / 2*2=q-hi:=Ru Fl;exact⟨q-(q-hi) / 2,Fq,GO V.l Fq⟩
 lo:=⟨lo,Iy Qr⟩
 hi:=⟨hi+1,GO V.l Fq⟩
theorem Vt.van(V:Vt P L lo hi):QT P (cq P lo hi):=by
 have hc:=V.cut;rcases KQ hc P with h|⟨s,hs,h⟩
 ·exact h
 ·exfalso;have e1:s=M7 P lo:=by
   obtain⟨x,hx,hx1⟩:=Qb1 hc h;obtain⟨q,q1,q2,q3⟩:=AQ hc hx (Iy (P:=P) (hi:=hi) (Qr (a:=lo)));have hq:q<=hi:=by
    rcases Hl q hi with e|e
    ·exact e
    ·have:=GO (P:=P) V.l e;omega
   rcases V.two q3 hq with⟨_,_,e⟩|⟨_,e,_⟩
   ·rw[<-hx1 q q1 (Qt q2),e]
   ·exact absurd q1 e
  rcases hc.val hi with e|e|e
  ·exact V.hi1 e
  ·have h0:=pR hc e h;rw[QJ V.l Qr]at e
   split at e
   ·omega
   ·split at e <;> omega
  ·obtain⟨y,hy,hy1⟩:=yP hc h;obtain⟨q,q1,q2,q3⟩:=dD hc hy e;have hq:lo<q:=hc.lt (Iy (P:=P) (hi:=hi) (Qr (a:=lo))) q1;have:=hy1 q q1 (Qt q2);rw[QJ hq (Qt q3),this,if_neg hs,if_pos e1]at q1;cases q1
def lS(w:U9)(lo hi:Rat):Prop:=Gn (ev w hi)=0\/Gn (ev w hi)≠M7 w lo
theorem Vt.has(V:Vt P L lo hi){w u:U9}(hf:∀t,ev P t=ev w t*ev u t){a b:Rat}(h1:lo<=a)(h2:a<b)(h3:b<=hi):lS w a b↔QT w (cq P lo hi)/\cq P lo hi a=1/\cq P lo hi b≠1:=by
 have hc:=V.cut;have smno:vv L a=vv L b->¬lS w a b:=λh hh=>by
  have:=UK V.s hf h2 h;rcases hh with e|e
  ·rw[this.s]at e;exact this.n e
  ·exact e this.s
 by_cases ha:cq P lo hi a=1
 ·by_cases hb:cq P lo hi b=1
  ·have e1:=V.eq_lo Fq h3 hb;have e2:vv L a=vv L lo:=by
    rcases Classical.em (lo=a)with e|e
    ·rw[e]
    ·exact V.eq_lo Fq Fq ha
   exact⟨λh=>absurd h (smno Fj),λh=>absurd hb h.2.2⟩
  ·have e1:=V.eq_hi Fq h3 hb;have e2:vv L a=vv L lo:=by
    rcases Classical.em (lo=a)with e|e
    ·rw[e]
    ·exact V.eq_lo Fq Fq ha
   have left:∀s,LS w (cq P lo hi) s->s=M7 w a:=λs hs=>by
    obtain⟨x,hx,hx1⟩:=hs;obtain⟨q,q1,q2,q3⟩:=AQ hc hx ha;have hqb:q<b:=by
     rcases Hl b q with e|e
     ·rcases Classical.em (b=q)with e'|e'
      ·rw[e']at hb;exact absurd q1 hb
      ·have:=hc.mono b q (by clear hx1 smno;grind) hb;omega
     ·exact e
    have:=V.eq_lo (q:=q) (by clear hx1 smno;grind) (by clear hx1 smno;grind) q1;rw[<-(UK V.s hf q3 Fj).s,hx1 q q1 (Qt q2)]
   have right:∀s,RS w (cq P lo hi) s->cq P lo hi b=-1->s=Gn (ev w b):=λs hs hb=>by
    obtain⟨y,hy,hy1⟩:=hs;obtain⟨q,q1,q2,q3⟩:=dD hc hy hb;have hqa:=hc.lt ha q1;have:=V.eq_hi (q:=q) (by clear hy1 smno;grind) (by clear hy1 smno;grind) Fj;have hs:=UK V.s hf q3 Fj;have hl:=hy1 q q1 (Qt q2);have h0:Gn (ev w q)≠0:=by
     have hs2:=UK V.s hf (x:=q) (y:=b) q3 Fj;intro h0;obtain⟨r,r1,r2⟩:=hc.dn q q1;have har:=hc.lt ha r2;have:=V.eq_hi (q:=r) (by clear hy1 smno;grind) (by clear hy1 smno;grind) Fj;have hs3:=UK V.s hf (x:=r) (y:=q) r1 Fj;have hs4:=hs3.s;rw[h0]at hs4;exact hs3.n hs4.symm
    rw[hs.s,I7 h0,hl]
   refine⟨λh=>⟨?_,ha,hb⟩,λ⟨hw,_,_⟩=>?_⟩
   ·rcases KQ hc w with e|⟨s,qP,hs⟩
    ·exact e
    ·exfalso;have l1:=left s (Qb1 hc hs);have r1:Gn (ev w b)=s:=by
      rcases hc.val b with e|e|e
      ·exact absurd e hb
      ·exact pR hc e hs
      ·exact(right s (yP hc hs) e).symm
     rcases h with h|h
     ·exact qP (by rw[<-r1];exact h)
     ·exact h (by rw[r1,l1])
   ·rcases hc.val b with e|e|e
    ·exact absurd e hb
    ·exact .inl (Hd.2 (MO hc e hw))
    ·obtain⟨s,qP,hs⟩:=Qa2 hc V.s hf hw;have l1:=left _ (Qlq hc hw (Qb1 hc hs) qP);have r1:=right _ (uA hc hw (yP hc hs) qP) e;exact .inr (by rw[<-l1,<-r1];omega)
 ·have hla:lo<a:=by
   rcases Classical.em (lo=a)with e|e
   ·rw[<-e]at ha;exact absurd (Iy Qr) ha
   ·grind
  have hb:cq P lo hi b≠1:=by have:=hc.mono a b h2 ha;omega
  have e1:=V.eq_hi hla Fq ha;have e2:=V.eq_hi (q:=b) Fq h3 hb;exact⟨λh=>absurd h (smno Fj),λh=>absurd h.2.1 ha⟩
theorem tJ{c c':Rat->Int}(hc:Cut c)(hc':Cut c')(h:c q≠c' q):∃r,(c r=-1/\c' r=1)\/(c r=1/\c' r=-1):=by
 rcases hc.val q with e|e|e <;> rcases hc'.val q with e'|e'|e'
 ·omega
 ·obtain⟨r,r1,r2⟩:=hc.up q e;exact⟨r,.inr ⟨r2,hc'.mono q r r1 Fj⟩⟩
 ·exact⟨q,.inr ⟨e,e'⟩⟩
 ·obtain⟨r,r1,r2⟩:=hc'.up q e';exact⟨r,.inl ⟨hc.mono q r r1 Fj,r2⟩⟩
 ·omega
 ·obtain⟨r,r1,r2⟩:=hc'.dn q e';exact⟨r,.inr ⟨hc.mono' r1 Fj,r2⟩⟩
 ·exact⟨q,.inl ⟨e,e'⟩⟩
 ·obtain⟨r,r1,r2⟩:=hc.dn q e;exact⟨r,.inl ⟨r2,hc'.mono' r1 Fj⟩⟩
 ·omega
theorem Vt.uniq(V:Vt P L lo hi){c:Rat->Int}(hc:Cut c)(h1:c lo=1)(h2:c hi≠1)(hv:QT P c)(q:Rat):c q=cq P lo hi q:=by
 rcases Classical.em (c q=cq P lo hi q)with e|e
 ·exact e
 ·exfalso;obtain⟨r,⟨r1,r2⟩|⟨r1,r2⟩⟩:=tJ hc V.cut e
  ·have hl:=hc.lt h1 r1;have hh:r<=hi:=by
    rcases Hl r hi with e|e
    ·exact e
    ·have:=GO (P:=P) V.l e;omega
   have:=V.eq_lo hl hh r2;exact Ql6 V.s (w:=P) (u:=[1]) (λt=>by rw[S7];grind) (x:=lo) (y:=r) Fj hc h1 Fj hv
  ·have hl:lo<r:=by
    rcases Hl r lo with e|e
    ·have:=Iy (P:=P) (hi:=hi) e;omega
    ·exact e
   have hh:r<=hi:=by
    rcases Hl r hi with e|e
    ·exact e
    ·have:=hc.mono hi r e h2;omega
   have:=V.eq_hi hl hh Fj;exact Ql6 V.s (w:=P) (u:=[1]) (λt=>by rw[S7];grind) (x:=r) (y:=hi) Fj hc r1 h2 hv
theorem Vt.same(V:Vt P L lo hi){P':U9}{L':Fa}{lo' hi':Rat}(V':Vt P' L' lo' hi'){g u u' U W:U9}{k:Rat}(hk:k≠0)(h1:∀t,ev P t=ev g t*ev u t)(h2:∀t,ev P' t=ev g t*ev u' t)(h3:∀t,k*ev g t=ev U t*ev P t+ev W t*ev P' t){a b:Rat}(ha1:lo<=a)(ha2:lo'<=a)(ha:a=lo\/a=lo')(hb1:b<=hi)(hb2:b<=hi')(hb:b=hi\/b=hi'):(a<b/\lS g a b)↔∀q,cq P lo hi q=cq P' lo' hi' q:=by
 have hc:=V.cut;have hc':=V'.cut;constructor
 ·rintro⟨hab,hg⟩
  obtain⟨g1,g2,g3⟩:=(V.has h1 ha1 hab hb1).1 hg;obtain⟨g4,g5,g6⟩:=(V'.has h2 ha2 hab hb2).1 hg;intro q;refine(V.uniq hc' (by
   rcases Classical.em (lo=a)with e|e
   ·rw[e];exact g5
   ·exact hc'.mono' (q:=lo) (r:=a) Fq Fj) (λh=>?_) (Ns hc' h1 g4) q).symm
  rcases Classical.em (b=hi)with e|e
  ·rw[<-e]at h;exact g6 h
  ·have:=hc'.mono b hi Fq g6;omega
 ·intro h;have hcc:cq P' lo' hi'=cq P lo hi:=funext λq=>(h q).symm
  have e1:cq P lo hi a=1:=by
   rcases ha with rfl|rfl
   ·exact Iy Qr
   ·rw[h];exact Iy Qr
  have e2:cq P lo hi b≠1:=by
   rcases hb with rfl|rfl
   ·exact V.hi1
   ·rw[h];exact V'.hi1
  have hab:a<b:=by
   rcases Hl b a with e|e
   ·rcases Classical.em (b=a)with e'|e'
    ·rw[e']at e2;exact absurd e1 e2
    ·have:=hc.mono b a Fq e2;omega
   ·exact e
  have v1:=V.van;have v2:=V'.van;rw[hcc]at v2;have hg:QT g (cq P lo hi):=by
   have a1:QT (Rl U P) (cq P lo hi):=Ns hc (p:=P) (q:=U) (λt=>by rw[Gp];grind) v1;have a2:QT (Rl W P') (cq P lo hi):=Ns hc (p:=P') (q:=W) (λt=>by rw[Gp];grind) v2;have a3:=LY (λt=>Rf t _ _) a1 a2;refine vW hc (k:=1 / k) (λt=>?_) a3;rw[Rf,Gp,Gp,<-h3];have:1 / k*(k*ev g t)=1 / k*k*ev g t:=Fq;rw[this,show 1 / k*k=1 from Zj hk];grind
  exact⟨hab,(V.has h1 ha1 hab hb1).2 ⟨hg,e1,e2⟩⟩
end Orq
namespace Orq
theorem Qmo:∀(M:Nat) (f:Nat->Nat),(∀i,i<=M->f i<M)->∃i j,i<j/\j<=M/\f i=f j
 | 0,f,h=>absurd (h 0 (Qm _)) (Y5 _)
 |
  M+1,f,h=>by
  rcases Classical.em (∃i,i<=M/\f i=f (M+1))with⟨i,h1,h2⟩|hn
  ·exact⟨i,M+1,Fj,Qm _,h2⟩
  ·have hne:∀i,i<=M->f i≠f (M+1):=λi hi e=>hn ⟨i,hi,e⟩
   obtain⟨i,j,h1,h2,h3⟩:=Qmo M (λi=>if f i=M then f (M+1)else f i) λi hi=>by
    have a1:=h i Fj;have a2:=h (M+1) (Qm _);have a3:=hne i hi;show(if f i=M then f (M+1)else f i)<M
    split <;> omega
   refine⟨i,j,h1,Fj,?_⟩;have a1:=hne i Fj;have a2:=hne j h2
   split at h3 <;> split at h3 <;> omega
def dg(B k i:Nat):Nat:=k / B^i % B
theorem Qaz(B k i:Nat):dg B k (i+1)=dg B (k / B) i:=by unfold dg;rw[Nat.pow_succ,Nat.mul_comm,Nat.div_div_eq_div_mul]
theorem Qjv{B:Nat}:∀(N:Nat) {k k':Nat},k<B^N->k'<B^N->(∀i,i<N->dg B k i=dg B k' i)->k=k'
 | 0,k,k',h,h',_=>by rw[Vx]at h h';omega
 |
  N+1,k,k',h,h',he=>by
  have h0:=he 0 Fj;unfold dg at h0;rw[Vx,Nat.div_one,Nat.div_one]at h0;have hB:0<B:=by
   rcases Q4 B with e|e
   ·rw[e,Zs,Vn]at h;omega
   ·exact e
  have h1:=Qjv N (k:=k / B) (k':=k' / B) (Jr (by rw[Zr,<-Zs];exact h)) (Jr (by rw[Zr,<-Zs];exact h')) λi hi=>by
   rw[<-Qaz,<-Qaz];exact he (i+1) Fj
  rw[<-Wy k B,<-Wy k' B,h0,h1]
def cd(B:Nat):Nat->(Nat->Nat)->Nat
 | 0,_=>0
 |E+1,x=>x 0+B*cd B E λe=>x (e+1)
theorem Qvb{B:Nat}:∀(E:Nat) {x:Nat->Nat},(∀e,e<E->x e<B)->cd B E x<B^E
 | 0,_,_=>by simp[cd]
 |
  E+1,x,h=>by
  have h1:=h 0 Fj;have h2:=Qvb E (x:=λe=>x (e+1)) λe he=>h (e+1) Fj
  simp only[cd];have h3:B*cd B E (λe=>x (e+1))+B<=B*B^E:=by
   rw[<-Uk];exact Zv _ h2
  rw[Zs,Zr (B^E)];omega
theorem Qje{B:Nat}:∀(E:Nat) {x y:Nat->Nat},(∀e,e<E->x e<B)->(∀e,e<E->y e<B)->cd B E x=cd B E y->∀e,e<E->x e=y e
 | 0,_,_,_,_,_,e,he=>Fj
 |
  E+1,x,y,hx,hy,h,e,he=>by
  have h1:=hx 0 Fj;have h2:=hy 0 Fj;simp only[cd]at h;have e0:x 0=y 0:=by
   have:=congrArg (· % B) h;simp only[Kt]at this;rwa[Xk h1,Xk h2]at this
  have e1:cd B E (λe=>x (e+1))=cd B E (λe=>y (e+1)):=Nat.eq_of_mul_eq_mul_left (by omega:0<B) Fj;cases e with
  |zero=>exact e0
  |succ e=>exact Qje E (λe he=>hx (e+1) Fj) (λe he=>hy (e+1) Fj) e1 e Fj
def sm:Nat->(Nat->Int)->Int
 | 0,_=>0
 |n+1,f=>sm n f+f n
theorem Qnx(f g:Nat->Int):∀n,sm n (λi=>f i-g i)=sm n f-sm n g
 | 0=>rfl
 |n+1=>by simp only[sm,Qnx f g n];omega
theorem Aj{f g:Nat->Int}:∀n,(∀i,i<n->f i=g i)->sm n f=sm n g
 | 0,_=>rfl
 |n+1,h=>by simp only[sm,Aj n (λi hi=>h i Fj),h n Fj]
theorem Qnw{f:Nat->Int}{b:Nat}:∀n,(∀i,i<n->(f i).natAbs<=b)->(sm n f).natAbs<=n*b
 | 0,_=>by simp[sm]
 |
  n+1,h=>by
  have h1:=Qnw n λi hi=>h i Fj
  have h2:=h n Fj;simp only[sm];rw[Xp];omega
theorem WF{f:Nat->Int}:∀n,(∀i,i<n->f i=0)->sm n f=0
 | 0,_=>rfl
 |n+1,h=>by simp only[sm,WF n (λi hi=>h i Fj),h n Fj];rfl
theorem aO(f:Nat->Int)(m:Nat):∀n,sm (m+n) f=sm m f+sm n λi=>f (m+i)
 | 0=>by simp[sm]
 |n+1=>by rw[<-Ve];simp only[sm,aO f m n];omega
theorem iQ(f:Nat->Int)(J:Nat):∀b,sm (b*J) f=sm b λi=>sm J λj=>f (i*J+j)
 | 0=>by simp[sm]
 |b+1=>by rw[Xp,aO,iQ f J b];rfl
theorem qQ{f:Nat->Int}{k:Nat}:∀n,k<n->(∀i,i<n->i≠k->f i=0)->sm n f=f k
 | 0,h,_=>Fj
 |
  n+1,h,h1=>by
  simp only[sm];rcases V5 (Nat.le_of_lt_succ h)with e|e
  ·rw[qQ n e λi hi=>h1 i Fj,h1 n Fj Fj];omega
  ·subst e;rw[WF k λi hi=>h1 i Fj Fj];omega
theorem Qzr{M:Nat->Nat->Int}{h N E H:Nat}(hM:∀e i,(M e i).natAbs<=h)(hc:(2*(N*(h*H))+1)^E<(H+1)^N) :
 ∃v:Nat->Int,(∀i,(v i).natAbs<=H)/\(∃i,i<N/\v i≠0)/\∀e,e<E->sm N (λi=>M e i*v i)=0:=by
 obtain⟨T,hT⟩:=nmE (N*(h*H));rw[<-hT]at hc;have hv:∀k i,dg (H+1) k i<=H:=λk i=>Nat.le_of_lt_succ (Xi _ Fj)
 have hs:∀k e,(sm N λi=>M e i*(dg (H+1) k i:Int)).natAbs<=T:=λk e=>by
  rw[hT];refine Qnw N λi _=>?_
  rw[Ys,Xw];exact Zg (hM e i) (hv k i)
 have him:∀k e,((sm N λi=>M e i*(dg (H+1) k i:Int))+T).toNat<2*T+1:=λk e=>by have:=hs k e;omega
 obtain⟨i,j,h1,h2,h3⟩:=Qmo ((2*T+1)^E) (λk=>cd (2*T+1) E λe=>((sm N λi=>M e i*(dg (H+1) k i:Int))+T).toNat) λk _=>Qvb E λe _=>him k e
 have h4:=Qje E (λe _=>him i e) (λe _=>him j e) h3;refine⟨λn=>(dg (H+1) i n:Int)-dg (H+1) j n,λn=>?_,?_,λe he=>?_⟩
 ·have a1:=hv i n;have a2:=hv j n;show((dg (H+1) i n:Int)-dg (H+1) j n).natAbs<=H;omega
 ·rcases Classical.em (∃n,n<N/\(dg (H+1) i n:Int)-dg (H+1) j n≠0)with e|e
  ·exact e
  ·exfalso;have:i=j:=Qjv (B:=H+1) N Fj Fj λn hn=>by
    rcases Classical.em (dg (H+1) i n=dg (H+1) j n)with e'|e'
    ·exact e'
    ·exact absurd ⟨n,hn,Fj⟩ e
   omega
 ·have a1:=h4 e he;have a2:=hs i e;have a3:=hs j e;have:(sm N λn=>M e n*(dg (H+1) i n:Int))=sm N λn=>M e n*(dg (H+1) j n:Int):=Fj
  have e1:=Qnx (λn=>M e n*(dg (H+1) i n:Int)) (λn=>M e n*(dg (H+1) j n:Int)) N;rw[this]at e1;rw[Aj N (g:=λn=>M e n*(dg (H+1) i n:Int)-M e n*(dg (H+1) j n:Int)) λn _=>Int.mul_sub _ _ _,e1];omega
def Gf:U6->Rat->Rat
 | [],_=>0
 |a::p,t=>(a:Rat)+t*Gf p t
def sq:Nat->(Nat->Rat)->Rat
 | 0,_=>0
 |n+1,f=>sq n f+f n
theorem M9{f g:Nat->Rat}:∀n,(∀i,i<n->f i=g i)->sq n f=sq n g
 | 0,_=>rfl
 |n+1,h=>by simp only[sq,M9 n (λi hi=>h i Fj),h n Fj]
theorem iW(f g:Nat->Rat):∀n,sq n (λi=>f i+g i)=sq n f+sq n g
 | 0=>by simp only[sq];grind
 |n+1=>by simp only[sq,iW f g n];grind
theorem VL(c:Rat)(f:Nat->Rat):∀n,sq n (λi=>c*f i)=c*sq n f
 | 0=>by simp only[sq];grind
 |n+1=>by simp only[sq,VL c f n];grind
theorem Lo{f:Nat->Rat}:∀n,(∀i,i<n->f i=0)->sq n f=0
 | 0,_=>rfl
 |n+1,h=>by simp only[sq,Lo n (λi hi=>h i Fj),h n Fj];grind
theorem ZL(f:Nat->Rat):∀n,sq (n+1) f=f 0+sq n λi=>f (i+1)
 | 0=>by simp only[sq];grind
 |n+1=>by rw[sq,ZL f n];simp only[sq];grind
theorem Qv2{f:Nat->Rat}{b:Rat}:∀n,(∀i,i<n->Gs (f i)<=b)->Gs (sq n f)<=(n:Rat)*b
 | 0,_=>by rw[show((0:Nat):Rat)=0 from rfl];simp only[sq,Ty];grind
 |
  n+1,h=>by
  have h1:=Qv2 n λi hi=>h i Fj
  have h2:=h n Fj;have h3:=P9 (sq n f) (f n);have hn':(((n+1:Nat):Rat))=(n:Rat)+1:=by push_cast;rfl
  rw[hn'];simp only[sq];clear h;grind
def gc:U6->Nat->Nat->Int
 | [],_,_=>0
 |c::B,k,j=>(if k=0/\j=0 then c else 0)+(if k=0 then 0 else gc B (k-1) j)-(if j=0 then 0 else gc B k (j-1))
def gB:U6->Nat
 | []=>0
 |c::B=>max c.natAbs (2*gB B)
theorem CL:∀(B:U6) (k j:Nat),B.length<=k+j->gc B k j=0
 | [],_,_,_=>rfl
 |
  c::B,k,j,h=>by
  simp only[Q5]at h;simp only[gc];rw[if_neg Fj];have e1:(if k=0 then 0 else gc B (k-1) j)=0:=by
   split
   ·rfl
   ·exact CL B _ _ Fj
  have e2:(if j=0 then 0 else gc B k (j-1))=0:=by
   split
   ·rfl
   ·exact CL B _ _ Fj
  rw[e1,e2];rfl
theorem Qks:∀(B:U6) (k j:Nat),(gc B k j).natAbs<=gB B
 | [],_,_=>Qg _
 |
  c::B,k,j=>by
  have h1:=Qks B (k-1) j;have h2:=Qks B k (j-1);simp only[gc,gB];by_cases hk:k=0 <;> by_cases hj:j=0 <;> simp only[hk,hj,true_and,and_true,false_and,and_false,if_true,if_false] <;> (try subst hk) <;> (try subst hj) <;> omega
theorem Qkt:∀(B:U6) (b:Nat),B.length=b+1->(gc B 0 b).natAbs=(B.getD b 0).natAbs
 | [],_,h=>by simp at h
 | [c],0,_=>by simp[gc]
 |c::d::B,0,h=>by simp at h
 |
  c::B,b+1,h=>by
  have ih:=Qkt B b (by simpa using h);simp only[gc];simp only[Yu,Q7];rw[if_pos trivial,if_neg (Nat.succ_ne_zero b),<-ih];omega
def E2(F:Nat->Nat->Int)(K J:Nat)(x y:Rat):Rat:=sq K λk=>sq J λj=>(F k j:Rat)*(y^k*x^j)
theorem dI(F G:Nat->Nat->Int)(K J:Nat)(x y:Rat):E2 (λk j=>F k j+G k j) K J x y=E2 F K J x y+E2 G K J x y:=by
 unfold E2;rw[<-iW];refine M9 K λk _=>?_
 rw[<-iW];exact M9 J λj _=>by push_cast;grind
theorem Qj3(c:Int)(F:Nat->Nat->Int)(K J:Nat)(x y:Rat):E2 (λk j=>F k j*c) K J x y=(c:Rat)*E2 F K J x y:=by
 unfold E2;rw[<-VL];refine M9 K λk _=>?_
 rw[<-VL];exact M9 J λj _=>by push_cast;grind
theorem Qj4(φ:Nat->Nat->Nat->Int)(v:Nat->Int)(K J:Nat)(x y:Rat):∀N,E2 (λk j=>sm N λn=>φ n k j*v n) K J x y=sq N λn=>(v n:Rat)*E2 (φ n) K J x y
 |
  0=>by
  simp only[sq,sm];unfold E2;refine Lo K λk _=>Lo J λj _=>?_
  rw[show((0:Int):Rat)=0 from rfl];grind
 |
  N+1=>by
  simp only[sq];rw[<-Qj4 φ v K J x y N,<-Qj3,<-dI];rfl
theorem TU(t:Rat)(i:Nat):∀k,t^(i+k)=t^i*t^k
 | 0=>by rw[X5,Xv];grind
 |k+1=>by rw[<-Ve,Xo,Xo,TU t i k];grind
theorem qJ(f:Nat->Rat):∀(i n:Nat),sq (i+n) (λk=>if i<=k then f (k-i)else 0)=sq n f
 |i,0=>Lo _ λk hk=>by rw[if_neg Fj]
 |
  i,n+1=>by
  rw[<-Ve];simp only[sq];rw[qJ f i n,if_pos Fj,J3]
def BA(i j':Nat)(F:Nat->Nat->Int)(k j:Nat):Int:=if i<=k then(if j'<=j then F (k-i) (j-j')else 0)else 0
theorem AM(F:Nat->Nat->Int)(i j' K J:Nat)(x y:Rat):E2 (BA i j' F) (i+K) (j'+J) x y=y^i*x^j'*E2 F K J x y:=by
 unfold E2;rw[<-VL,<-qJ _ i K];refine M9 _ λk _=>?_
 by_cases hk:i<=k
 ·rw[if_pos hk,<-VL,<-qJ _ j' J];refine M9 _ λj _=>?_
  unfold BA;rw[if_pos hk];by_cases hj:j'<=j
  ·rw[if_pos hj,if_pos hj];have e1:y^k=y^i*y^(k-i):=by rw[<-TU];congr 1;omega
   have e2:x^j=x^j'*x^(j-j'):=by rw[<-TU];congr 1;omega
   rw[e1,e2];grind
  ·rw[if_neg hj,if_neg hj,show((0:Int):Rat)=0 from rfl];grind
 ·rw[if_neg hk];refine Lo _ λj _=>?_
  unfold BA;rw[if_neg hk,show((0:Int):Rat)=0 from rfl];grind
def fA(A:U6)(k j:Nat):Int:=if j=0 then A.getD k 0 else 0
theorem Qmn(y:Rat):∀(A:U6) (K:Nat),A.length<=K->sq K (λk=>((A.getD k 0:Int):Rat)*y^k)=Gf A y
 | [],K,_=>by rw[Lo];rfl;intro i _;simp
 |a::A,0,h=>by simp at h
 |
  a::A,K+1,h=>by
  have ih:=Qmn y A K (by simpa using h);rw[ZL];simp only[Gf,Zu,Q7,Xv];rw[<-ih,<-VL];have:(sq K λi=>((A.getD i 0:Int):Rat)*y^(i+1))=sq K λi=>y*(((A.getD i 0:Int):Rat)*y^i):=M9 K λi _=>by rw[Xo];grind
  rw[this];grind
theorem Q1t(A:U6)(K J:Nat)(x y:Rat)(h:A.length<=K):E2 (fA A) K (J+1) x y=Gf A y:=by
 rw[<-Qmn y A K h];refine M9 K λk _=>?_
 rw[ZL,Lo]
 ·simp only[fA,if_true,Xv];grind
 ·intro j _;simp only[fA];rw[if_neg Fj,show((0:Int):Rat)=0 from rfl];grind
theorem Qxz(x y:Rat):∀(B:U6) (K J:Nat),B.length<=K->B.length<=J->E2 (gc B) K J x y=Gf B (y-x)
 |
  [],K,J,_,_=>by
  unfold E2;simp only[gc,Gf];exact Lo K λk _=>Lo J λj _=>by rw[show((0:Int):Rat)=0 from rfl];grind
 |c::B,0,J,h,_=>by simp at h
 |c::B,K+1,0,_,h=>by simp at h
 |
  c::B,K+1,J+1,h1,h2=>by
  have i1:=Qxz x y B K (J+1) (by simpa using h1) (by simp at h2;omega);have i2:=Qxz x y B (K+1) J (by simp at h1;omega) (by simpa using h2);have s1:=AM (gc B) 1 0 K (J+1) x y;have s2:=AM (gc B) 0 1 (K+1) J x y;rw[Z9,Ye 1 K]at s1;rw[Z9,Ye 1 J]at s2;rw[i1]at s1;rw[i2]at s2;have e0:E2 (fA [c]) (K+1) (J+1) x y=(c:Rat):=by rw[Q1t [c] (K+1) J x y Fp];simp only[Gf];grind
  have e1:gc (c::B)=λk j=>(fA [c] k j+BA 1 0 (gc B) k j)+BA 0 1 (gc B) k j*(-1):=by
   funext k j;simp only[gc,fA,BA];by_cases hk:k=0 <;> by_cases hj:j=0
   ·subst hk;subst hj;simp
   ·subst hk;simp[hj,show 1<=j by omega]
    try omega
   ·subst hj;obtain⟨m,rfl⟩:∃m,k=m+1:=⟨k-1,Fj⟩;simp
   ·obtain⟨m,rfl⟩:∃m,k=m+1:=⟨k-1,Fj⟩;obtain⟨i,rfl⟩:∃i,j=i+1:=⟨j-1,Fj⟩;simp;omega
  rw[e1,dI (λk j=>fA [c] k j+BA 1 0 (gc B) k j) (λk j=>BA 0 1 (gc B) k j*(-1)),dI (fA [c]) (BA 1 0 (gc B)),Qj3,e0,s1,s2];simp only[Gf,Xv,show y^1=y by rw[Xo,Xv];grind,show x^1=x by rw[Xo,Xv];grind];rw[show(((-1:Int)):Rat)=-1 from rfl];grind
def zV(A B:U6)(b J J' n k j:Nat):Int:=if n<b*J then BA (n / J) (n % J) (fA A) k j else BA ((n-b*J) / J') ((n-b*J) % J') (gc B) k j
theorem Qnq{F:Nat->Nat->Int}{h:Nat}(hF:∀k j,(F k j).natAbs<=h)(i j' k j:Nat):(BA i j' F k j).natAbs<=h:=by
 unfold BA;split
 ·split
  ·exact hF _ _
  ·exact Qg _
 ·exact Qg _
theorem Qvo{i b J j:Nat}(hi:i<b)(hj:j<J):i*J+j<b*J:=by
 have:(i+1)*J<=b*J:=Q3 J hi;rw[Xp]at this;omega
theorem PC{i J j:Nat}(hj:j<J):(i*J+j) / J=i/\(i*J+j) % J=j:=by
 rw[Zr,Ur Fj,Us,Ki hj,Xk hj];exact⟨Fj,rfl⟩
theorem vQ(A B:U6)(a b J J':Nat)(v:Nat->Int)(k j:Nat):sm (b*J+a*J') (λn=>zV A B b J J' n k j*v n) =
 (sm b λi=>sm J λj1=>BA i j1 (fA A) k j*v (i*J+j1))+sm a λi=>sm J' λj1=>BA i j1 (gc B) k j*v (b*J+(i*J'+j1)):=by
 rw[aO,iQ,iQ];congr 1
 ·refine Aj b λi hi=>Aj J λj1 hj=>?_
  unfold zV;rw[if_pos (Qvo hi hj),(PC hj).1,(PC hj).2]
 ·refine Aj a λi hi=>Aj J' λj1 hj=>?_
  unfold zV;rw[if_neg Fj,J3,(PC hj).1,(PC hj).2]
theorem Q1j(A:U6)(v:Nat->Int){i J k j:Nat}(hj:j<J):(sm J λj1=>BA i j1 (fA A) k j*v (i*J+j1))=if i<=k then A.getD (k-i) 0*v (i*J+j)else 0:=by
 rw[qQ (k:=j) J hj λj1 _ hne=>?_]
 ·unfold BA fA;by_cases h:i<=k
  ·rw[if_pos h,if_pos h,if_pos (Qm _),if_pos (K0 _)]
  ·rw[if_neg h,if_neg h,Vm]
 ·unfold BA fA;by_cases h:i<=k
  ·rw[if_pos h];by_cases h':j1<=j
   ·rw[if_pos h',if_neg Fj,Vm]
   ·rw[if_neg h',Vm]
  ·rw[if_neg h,Vm]
section
variable{A B:U6}{a b J J':Nat}(hA:A.length=a+1)(hB:B.length=b+1)(lA:A.getD a 0≠0)(lB:B.getD b 0≠0)(hJ:J=J'+b){v:Nat->Int}(hW:∀k j,k<a+b->j<J->sm (b*J+a*J') (λn=>zV A B b J J' n k j*v n)=0)
include hA lA hW in
theorem Qvd{jj:Nat}(hj:jj<J)(hV:∀k,a<=k->k<a+b->(sm a λi=>sm J' λj1=>BA i j1 (gc B) k jj*v (b*J+(i*J'+j1)))=0):∀d i,i<b->b-i<=d->v (i*J+jj)=0:=by
 intro d
 induction d with
 |zero=>intro i hi hd;omega
 |
  succ d ih =>
  intro i hi hd;have h1:=hW (i+a) jj Fj hj;rw[vQ,hV (i+a) Fj Fj]at h1;rw[Aj b (λi' hi'=>Q1j A v hj)]at h1;rw[qQ (k:=i) b hi λi' hi' hne=>?_]at h1
  ·rw[if_pos Fj,J3,Int.add_zero]at h1;rcases Yy.1 h1 with h2|h2
   ·exact absurd h2 lA
   ·exact h2
  ·rcases Zc i i' with h|h
   ·rw[ih i' hi' Fj];simp
   ·rw[if_pos Fj,Qj,Qy Fj];simp
include hA hB lA lB hJ hW in
theorem Q1r:∀d js,js<J'->J'-js<=d->∀i,i<a->v (b*J+(i*J'+js))=0:=by
 intro d
 induction d with
 |zero=>intro js hi hd;omega
 |
  succ d ih =>
  intro js hjs hd i hi;have hin:∀i' k,i'<a->(sm J' λj1=>BA i' j1 (gc B) k (js+b)*v (b*J+(i'*J'+j1)))=if i'=k then gc B 0 b*v (b*J+(i'*J'+js))else 0:=λi' k hi'=>by
   rw[qQ (k:=js) J' hjs λj1 hj1 hne=>?_]
   ·unfold BA;by_cases h:i'<=k
    ·rw[if_pos h,if_pos Fj,J3];by_cases h':i'=k
     ·rw[if_pos h',h',K0]
     ·rw[if_neg h',CL B _ _ Fj,Vm]
    ·rw[if_neg h,if_neg Fj,Vm]
   ·rcases Zc js j1 with h|h
    ·rw[ih j1 hj1 Fj i' hi',Wu]
    ·unfold BA;by_cases h':i'<=k
     ·rw[if_pos h',if_pos Fj,CL B _ _ Fj,Vm]
     ·rw[if_neg h',Vm]
  have hU:=Qvd hA lA hW (jj:=js+b) Fj (λk hk hk'=>WF a λi' hi'=>by rw[hin i' k hi',if_neg Fj]) (b+1);have h1:=hW i (js+b) Fj Fj;rw[vQ,Aj a (λi' hi'=>hin i' i hi')]at h1;rw[WF b λi' hi'=>by
   rw[Q1j A v Fj,hU i' hi' Fj];simp]at h1
  rw[qQ (k:=i) a hi λi' hi' hne=>if_neg hne,if_pos rfl,Int.zero_add]at h1;rcases Yy.1 h1 with h2|h2
  ·have:=Qkt B b hB;rw[h2]at this;omega
  ·exact h2
include hA hB lA lB hJ hW in
theorem Qgx:∀n,n<b*J+a*J'->v n=0:=by
 intro n hn;have hV:=Q1r hA hB lA lB hJ hW;rcases Zc n (b*J)with h|h
 ·have hJp:0<J:=by
   rcases Q4 J with e|e
   ·rw[e,Vn]at h;omega
   ·exact e
  have e1:=Xi n hJp;have e2:n / J<b:=Jr (by rw[Zr];exact h);have:=Qvd hA lA hW e1 (λk _ _=>WF a λi hi=>WF J' λj1 hj1=>by rw[hV J' j1 hj1 Fj i hi,Wu]) (b+1) (n / J) e2 (Qc (Nat.sub_le _ _) (Nat.le_succ _));rwa[Zr,Xt]at this
 ·have hJp:0<J':=by
   rcases Q4 J' with e|e
   ·rw[e,Vn]at hn;omega
   ·exact e
  have e1:=Xi (n-b*J) hJp;have e2:(n-b*J) / J'<a:=Jr (by rw[Zr J' a];omega);have:=hV J' _ e1 Fj _ e2;rw[Zr ((n-b*J) / J'),Xt]at this;rwa[show b*J+(n-b*J)=n by omega]at this
end
theorem WW{R x:Rat}(h1:1<=R)(hx:Gs x<=R):∀k:Nat,Gs (x^k)<=R^k/\1<=R^k
 | 0=>by rw[Xv,Xv];exact⟨Fl,Fl⟩
 |
  k+1=>by
  obtain⟨i1,i2⟩:=WW h1 hx k;rw[Xo,Xo];have:=Lf (a:=1) (c:=1) Fl i2 Fl h1;exact⟨Rt i1 hx,Fq⟩
theorem Qct{R:Rat}(h1:1<=R){i:Nat}:∀k,i<=k->R^i<=R^k
 | 0,h=>by rw[show i=0 by omega];exact Qr
 |
  k+1,h=>by
  rcases V5 h with e|e
  ·have:=Qct h1 (i:=i) k Fj;have h2:=(WW h1 (x:=0) (by rw[Ty];grind) k).2;rw[Xo];have:=Lf (a:=R^k) (b:=R^k) (c:=1) (d:=R) Fq Qr Fl h1;grind
  ·rw[e];exact Qr
theorem Qnp{F:Nat->Nat->Int}{i j' K J:Nat}{x y R X:Rat}{K2 J2:Nat}(h1:1<=R)(hx:Gs x<=R)(hy:Gs y<=R)(hK:K=i+K2)(hJ:J=j'+J2)(hF:E2 F K2 J2 x y=X):Gs (E2 (BA i j' F) K J x y)<=R^(K+J)*Gs X:=by
 subst hK;subst hJ;rw[AM,hF,O7];have a1:=(WW h1 hy i).1;have a2:=(WW h1 hx j').1;have a3:=Rt a1 a2;rw[<-TU]at a3;have a4:=Qct h1 (i:=i+j') (i+K2+(j'+J2)) Fj;exact Lf (Tl _) (Zl a3 a4) (Tl _) Qr
theorem Qzm{A B:U6}{a b h:Nat}(hA:A.length=a+1)(hB:B.length=b+1)(lA:A.getD a 0≠0)(lB:B.getD b 0≠0)(ha:0<a)(hb:0<b)(h0:1<=h)(bA:∀k,(A.getD k 0).natAbs<=h)(bB:gB B<=h){J J' N H:Nat}(hJ:J=2*(a*b))(hJ':J=J'+b)(hN:N=b*J+a*J')(hH:H=(2*(N*h))^(2*(a+b-1))) :
 ∃w:Nat->Int,(∃j,j<J/\w j≠0)/\(∀j,(w j).natAbs<=N*(h*H))/\∀R:Rat,1<=R->∃C:Rat,0<=C/\∀x y,Gs x<=R->Gs y<=R->Gs (sq J λj=>(w j:Rat)*x^j)<=C*(Gs (Gf A y)+Gs (Gf B (y-x))):=by
 have hab:0<a*b:=Yn ha hb;have hbd:∀n k j,(zV A B b J J' n k j).natAbs<=h:=λn k j=>by
  unfold zV
  split
  ·exact Qnq (λk j=>by unfold fA;split;exact bA k;exact Nat.zero_le _) _ _ _ _
  ·exact Qnq (λk j=>Qc (Qks B k j) bB) _ _ _ _
 have hJp:0<J:=Fj;have hNp:1<=N:=by
  have:0<b*J:=Yn hb hJp;omega
 have hNh:1<=N*h:=Yn hNp h0;obtain⟨E,hE⟩:=nmE ((a+b-1)*J);have hNE:N=E+a*b:=by
  have e1:(a+b-1)*J+J=(a+b)*J:=by
   rw[<-Xp];congr 1;omega
  have e2:a*J=a*J'+a*b:=by rw[hJ',X1]
  rw[Jn]at e1;omega
 have hc:(2*(N*(h*H))+1)^E<(H+1)^N:=by
  have c1:2*(N*(h*H))+1<=2*(N*h)*(H+1):=by
   rw[X1,Vk,Jh 2,Jh N];omega
  refine Xe (Nat.pow_le_pow_left c1 E) ?_;rw[Nat.mul_pow,hNE,Xu,Zr];refine Nat.mul_lt_mul_of_pos_left ?_ (Xd Fj);have e1:(2*(N*h))^E=H^(a*b):=by
   rw[hH,<-We,hE,hJ];congr 1;rw[Zr 2 (a+b-1),Jh]
  rw[<-hNE,e1];exact Nat.pow_lt_pow_left Fj Fj
 obtain⟨v,v1,⟨n0,n1,n2⟩,v3⟩:=Qzr (M:=λe n=>zV A B b J J' n (e / J+1) (e % J)) (h:=h) (N:=N) (E:=E) (H:=H) (λe n=>hbd n _ _) hc;have hW:∀k j,1<=k->k<a+b->j<J->sm N (λn=>zV A B b J J' n k j*v n)=0:=λk j k1 k2 hj=>by
  have:=v3 ((k-1)*J+j) (by rw[hE];exact Qvo Fj hj);rwa[(PC hj).1,(PC hj).2,show k-1+1=k by omega]at this
 refine⟨λj=>sm N λn=>zV A B b J J' n 0 j*v n,?_,λj=>?_,λR hR=>?_⟩
 ·rcases Classical.em (∃j,j<J/\(sm N λn=>zV A B b J J' n 0 j*v n)≠0)with e|e
  ·exact e
  ·exfalso;refine n2 (Qgx hA hB lA lB hJ' (v:=v) (λk j hk hj=>?_) n0 (by rw[<-hN];exact n1));rw[<-hN];rcases Q4 k with e'|e'
   ·subst e';rcases Classical.em ((sm N λn=>zV A B b J J' n 0 j*v n)=0)with e2|e2
    ·exact e2
    ·exact absurd ⟨j,hj,e2⟩ e
   ·exact hW k j e' hk hj
 ·refine Qnw N λn _=>?_
  rw[Ys];exact Zg (hbd n 0 j) (v1 n)
 ·have hRp:∀k:Nat,1<=R^k:=λk=>(WW hR (x:=0) (by rw[Ty];grind) k).2
  have hHn:(0:Rat)<=(H:Rat):=Xz;have hNn:(0:Rat)<=(N:Rat):=Xz;refine⟨(N:Rat)*((H:Rat)*R^(a+b+J)),Dc hNn (Dc hHn (by have:=hRp (a+b+J);grind)),λx y hx hy=>?_⟩;have e1:(sq J λj=>((sm N λn=>zV A B b J J' n 0 j*v n:Int):Rat)*x^j)=E2 (λk j=>sm N λn=>zV A B b J J' n k j*v n) (a+b) J x y:=by
   unfold E2;obtain⟨m,hm⟩:∃m,a+b=m+1:=⟨a+b-1,Fj⟩;rw[hm,ZL,Lo (n:=m)]
   ·have:(sq J λj=>((sm N λn=>zV A B b J J' n 0 j*v n:Int):Rat)*(y^0*x^j))=sq J λj=>((sm N λn=>zV A B b J J' n 0 j*v n:Int):Rat)*x^j:=M9 J λj _=>by rw[Xv];grind
    rw[this];grind
   ·intro k hk;refine Lo J λj hj=>?_
    show((sm N λn=>zV A B b J J' n (k+1) j*v n:Int):Rat)*_=0;rw[hW (k+1) j Fj Fj hj,show((0:Int):Rat)=0 from rfl];grind
  rw[e1,Qj4];have key:∀n,n<N->Gs ((v n:Rat)*E2 (zV A B b J J' n) (a+b) J x y)<=(H:Rat)*(R^(a+b+J)*(Gs (Gf A y)+Gs (Gf B (y-x)))):=λn hn=>by
   have hvn:Gs (v n:Rat)<=(H:Rat):=by
    have h1:=v1 n;have h2:(v n)<=(H:Int):=Fj;have h3:-(H:Int)<=v n:=Fj;have h2:=Ju.2 h2;have h3:=Ju.2 h3;rw[V6]at h3;rw[Be];exact⟨h3,h2⟩
   refine Rt hvn ?_;have hRk:=hRp (a+b+J);have n1:=Tl (Gf A y);have n2:=Tl (Gf B (y-x));rcases Zc n (b*J)with h|h
   ·have e:zV A B b J J' n=BA (n / J) (n % J) (fA A):=by funext k j;unfold zV;rw[if_pos h]
    have d1:n / J<b:=Jr (by rw[Zr];exact h);have d2:=Xi n hJp;rw[e];refine Zl (Qnp (K2:=a+b-n / J) (J2:=J-n % J) hR hx hy Fj Fj (X:=Gf A y) ?_) (Lf Fq Qr n1 Fq);obtain⟨m,hm⟩:∃m,J-n % J=m+1:=⟨J-n % J-1,Fj⟩;rw[hm];exact Q1t A _ _ x y Fj
   ·have e:zV A B b J J' n=BA ((n-b*J) / J') ((n-b*J) % J') (gc B):=by funext k j;unfold zV;rw[if_neg Fj]
    have hJp':0<J':=by
     rcases Q4 J' with e|e
     ·rw[e,Vn]at hN;omega
     ·exact e
    have d1:(n-b*J) / J'<a:=Jr (by rw[Zr J' a];omega);have d2:=Xi (n-b*J) hJp';rw[e];refine Zl (Qnp (K2:=a+b-(n-b*J) / J') (J2:=J-(n-b*J) % J') hR hx hy Fj Fj (X:=Gf B (y-x)) ?_) (Lf Fq Qr n2 Fq);exact Qxz x y B _ _ Fj Fj
  have:=Qv2 N key;refine Zl this ?_;have:(N:Rat)*((H:Rat)*(R^(a+b+J)*(Gs (Gf A y)+Gs (Gf B (y-x)))))=(N:Rat)*((H:Rat)*R^(a+b+J))*(Gs (Gf A y)+Gs (Gf B (y-x))):=Fq;rw[this];exact Qr
end Orq
namespace Orq
theorem Qn0{w:Nat->Int}{x:Rat}{D:Rat}(hx:Gs x*2<=1)(hw:∀j,Gs (w j:Rat)<=D):∀J (k:Nat),Gs (sq J λj=>(w (k+j):Rat)*x^j)<=2*D
 | 0,k=>by have:=hw 0;have:=Tl (w 0:Rat);simp only[sq,Ty];clear hw;grind
 |
  J+1,k=>by
  have ih:=Qn0 hx hw J (k+1);rw[ZL];have e:(sq J λi=>(w (k+(i+1)):Rat)*x^(i+1))=x*sq J λi=>(w (k+1+i):Rat)*x^i:=by
   rw[<-VL];exact M9 J λi _=>by rw[Xo,show k+(i+1)=k+1+i by omega];grind
  rw[e,Xv,X5];have h1:=hw k;have h2:=P9 ((w k:Rat)*1) (x*sq J λi=>(w (k+1+i):Rat)*x^i);have h3:=Rt (x:=x) (y:=sq J λi=>(w (k+1+i):Rat)*x^i) Qr ih;have h4:=Zh hx (show(0:Rat)<=D by have:=Tl (w k:Rat);clear hw;grind);have h5:(w k:Rat)*1=w k:=Fq;rw[h5]at h2 ⊢;clear hw;grind
theorem FU{z:Int}(h:z≠0):1<=Gs (z:Rat):=by
 unfold Gs;rcases Kw h with h|h
 ·have:((z:Int):Rat)<((0:Int):Rat):=J5.2 h;have h2:((1:Int):Rat)<=((-z:Int):Rat):=Ju.2 Fj;rw[if_pos (by simpa using this)];rw[V6]at h2;simpa using h2
 ·have:((0:Int):Rat)<((z:Int):Rat):=J5.2 h;have h2:((1:Int):Rat)<=((z:Int):Rat):=Ju.2 Fj;rw[if_neg (by
   have:(0:Rat)<z:=by simpa using this
   grind)]
  simpa using h2
theorem eZ{w:Nat->Int}{x:Rat}{D:Rat}(hD:1<=D)(hx0:0<Gs x)(hx:Gs x*(4*D)<=1)(hw:∀j,Gs (w j:Rat)<=D):∀J (k:Nat),(∃j,j<J/\w (k+j)≠0)->Gs x^J / 2<=Gs (sq J λj=>(w (k+j):Rat)*x^j)
 | 0,k,⟨j,h,_⟩=>Fj
 |
  J+1,k,⟨j,h1,h2⟩=>by
  have hx2:Gs x*2<=1:=by
   have:=Lf (a:=Gs x) (c:=2) (Qt hx0) Qr Fl (show(2:Rat)<=4*D by clear hw;grind);exact Zl this hx
  have hx1:Gs x<=1:=by clear hw;grind
  have hp:∀k:Nat,Gs x^k<=1/\0<=Gs x^k:=λk=>by
   induction k with
   |zero=>rw[Xv];exact⟨Fl,Fl⟩
   |
    succ k ih =>
    rw[Xo];have:=Lf ih.2 ih.1 (Qt hx0) hx1;have:=Dc ih.2 (Qt hx0);constructor <;> (clear hw;grind)
  rw[ZL];have e:(sq J λi=>(w (k+(i+1)):Rat)*x^(i+1))=x*sq J λi=>(w (k+1+i):Rat)*x^i:=by
   rw[<-VL];exact M9 J λi _=>by rw[Xo,show k+(i+1)=k+1+i by omega];grind
  rw[e,Xv,X5 k,show(w k:Rat)*1=w k by grind];by_cases h0:w k=0
  ·have hj:j≠0:=λe=>h2 (by rw[e];exact h0)
   have ih:=eZ hD hx0 hx hw J (k+1) ⟨j-1,Fj,by rw[show k+1+(j-1)=k+j by omega];exact h2⟩;rw[h0,show((0:Int):Rat)+x*(sq J λi=>(w (k+1+i):Rat)*x^i)=x*sq J λi=>(w (k+1+i):Rat)*x^i by rw[show((0:Int):Rat)=0 from rfl];grind,O7,Xo];have:=Xc ih (Qt hx0);have e2:Gs x*(Gs x^J / 2)=Gs x^J*Gs x / 2:=by rw[Yo,Yo];grind
   rw[e2]at this;exact this
  ·have a1:=FU h0;have a2:=Qn0 hx2 hw J (k+1);have a3:=Rt (x:=x) (y:=sq J λi=>(w (k+1+i):Rat)*x^i) Qr a2;have a4:=P9 ((w k:Rat)+x*sq J λi=>(w (k+1+i):Rat)*x^i) (-(x*sq J λi=>(w (k+1+i):Rat)*x^i));rw[A9,show(w k:Rat)+(x*sq J λi=>(w (k+1+i):Rat)*x^i)+-(x*sq J λi=>(w (k+1+i):Rat)*x^i)=w k by grind]at a4;have a5:=(hp (J+1)).1;have a6:Gs x^(J+1) / 2*2=Gs x^(J+1):=Ru Fl;have a7:Gs x*(2*D)*2=Gs x*(4*D):=Fq;clear hw hp;grind
theorem Qyf{A B:U6}{a b h:Nat}(hA:A.length=a+1)(hB:B.length=b+1)(lA:A.getD a 0≠0)(lB:B.getD b 0≠0)(ha:0<a)(hb:0<b)(h0:1<=h)(bA:∀k,(A.getD k 0).natAbs<=h)(bB:gB B<=h){N D:Nat}(hN:b*(2*(a*b))+a*(2*(a*b)-b)=N)(hD:N*(h*(2*(N*h))^(2*(a+b-1)))<=D){R d:Rat}(hR:1<=R)(dp:0<d)
 (hs:∀e:Rat,0<e->∃q r,Gs q<=R/\Gs r<=R/\d<=Gs (q-r)/\Gs (q-r)*(4*(D:Rat))<=1/\Gs (Gf A q)<e/\Gs (Gf B r)<e):False:=by
 have hab:0<a*b:=Yn ha hb;have hbab:b<=a*b:=by
  have:=Q3 b (show 1<=a from ha);omega
 obtain⟨w,⟨j,hj,hw0⟩,hw,hC⟩:=Qzm hA hB lA lB ha hb h0 bA bB (J:=2*(a*b)) (J':=2*(a*b)-b) rfl Fj hN.symm rfl;obtain⟨C,hC0,hC⟩:=hC (2*R) Fq;have hw':∀j,Gs (w j:Rat)<=(D:Rat):=λj=>by
  have h1:=Qc (hw j) hD;have h2:w j<=(D:Int):=Fj;have h3:-(D:Int)<=w j:=Fj;have h2:=Ju.2 h2;have h3:=Ju.2 h3;rw[V6]at h3;rw[Be];exact⟨h3,h2⟩
 have hD1:(1:Rat)<=(D:Rat):=by
  have:=FU hw0;exact Zl this (hw' j)
 have hdJ:0<d^(2*(a*b)) / 2:=Iz (Rat.pow_pos dp) Fl;obtain⟨e,ep,_,he⟩:=Rw (b:=C*2) (d:=d^(2*(a*b)) / 2) Fq hdJ;obtain⟨q,r,q1,r1,d1,d2,aq,br⟩:=hs e ep;have h1:=hC (q-r) q (by
  have:=P9 q (-r);rw[A9]at this;have:q-r=q+-r:=Fq;grind) Fq
 rw[show q-(q-r)=r by grind]at h1;have h2:=eZ (x:=q-r) hD1 Fq d2 hw' (2*(a*b)) 0 ⟨j,hj,by rw[Z9];exact hw0⟩;simp only[Z9]at h2;have h3:C*(Gs (Gf A q)+Gs (Gf B r))<=C*(e+e):=Xc Fq hC0;have h4:d^(2*(a*b))<=Gs (q-r)^(2*(a*b)):=by
  generalize 2*(a*b)=J
  induction J with
  |zero=>rw[Xv,Xv];exact Qr
  |
   succ J ih =>
   rw[Xo,Xo];exact Lf (Qt (Rat.pow_pos dp)) ih (Qt dp) d1
 have h5:d^(2*(a*b)) / 2*2=d^(2*(a*b)):=Ru Fl;have h6:Gs (q-r)^(2*(a*b)) / 2*2=Gs (q-r)^(2*(a*b)):=Ru Fl;clear hC hs hw hw';grind
end Orq
