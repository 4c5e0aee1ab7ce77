import Derived.Test.YtpbfkdfffbfabaaGreatPart04
import Derived.Test.YtpbfkdfffbfabaaGreatPart00
set_option linter.all false
namespace Orr
open Go Go.Proofs Tryz
set_option maxRecDepth 10000
theorem pG{p q:U8}:U5 224 [pr p,pr q] [pr (A8 p q)]:=by
 by_cases h:0<p.length
 .exact U0 func224 rfl [.t Fq] rfl (by simp only[A8];rw[if_pos h]) trivial
 .exact U0 func224 rfl [.f (by simp;exact Qg Fo)] rfl (by simp only[A8];rw[if_neg h]) trivial
theorem Qgl:U5 223 [.oi 1] [.oi 2]:=U0 func223 rfl [.t rfl,.t rfl] rfl
theorem Qgm:U5 223 [.oi 2] [.oi 2]:=U0 func223 rfl [.f rfl,.t rfl] rfl
theorem Qgn:U5 223 [.oi 3] [.oi 3]:=U0 func223 rfl [.f rfl,.f rfl,.t rfl] rfl
theorem Qgo:U5 223 [.oi 4] [.oi 4]:=U0 func223 rfl [.f rfl,.f rfl,.f rfl,.t rfl,.t rfl] rfl
theorem Qgp:U5 223 [.oi 5] [.oi 4]:=U0 func223 rfl [.f rfl,.f rfl,.f rfl,.f rfl,.t rfl] rfl
theorem Qju{k i0 i1 i2 i3 l d b a c:Int}:U5 263 [.agg [.int .i64 k,.int .i64 i0,.int .i64 i1,.int .i64 i2,.int .i64 i3],.agg [.int .i64 l,.int .i64 d,.int .i64 b,.int .i64 a,.int .i64 c]] [.one (.bool (Eh [k,i0,i1,i2,i3] [l,d,b,a,c]))]:=by
 by_cases e:k=l
 .subst e;rw[show Eh [k,i0,i1,i2,i3] [k,d,b,a,c]=Eh [i0,i1,i2,i3] [d,b,a,c] from by simp[Eh]];refine G7 func263 rfl ?_;refine Ux [.f Ft] rfl ?_;refine U4 (S:=Nat) 2 (λL1 i=>(19,.v (.oi i))::L1) (λ_=>[.blk 64 [.int .i64 k,.int .i64 i0,.int .i64 i1,.int .i64 i2,.int .i64 i3],.blk 64 [.int .i64 k,.int .i64 d,.int .i64 b,.int .i64 a,.int .i64 c]]) (λi=>4-i) (λi=>i<=4/\Eh ([i0,i1,i2,i3].drop i) ([d,b,a,c].drop i)=Eh [i0,i1,i2,i3] [d,b,a,c]) 0 ⟨Fo,rfl⟩ rfl rfl λi ⟨hi,he⟩=>?_
  rw[<-he];rcases(show i=0\/i=1\/i=2\/i=3\/i=4 by omega)with rfl|rfl|rfl|rfl|rfl
  .by_cases h:i0=d
   .exact go tt [.t rfl,.i 0,.i 0,.f (by simpa using h)] rfl Fy (rd 1 Fo ⟨Fo,by simp[Eh,h]⟩ rfl)
   .exact Uz [.t rfl,.i 0,.i 0,.t (by simpa using h),.i 0] rfl (by simp[Eh,h]) trivial
  .by_cases h:i1=b
   .exact go tt [.t rfl,.i 1,.i 1,.f (by simpa using h)] rfl Fy (rd 2 Fo ⟨Fo,by simp[Eh,h]⟩ rfl)
   .exact Uz [.t rfl,.i 1,.i 1,.t (by simpa using h),.i 1] rfl (by simp[Eh,h]) trivial
  .by_cases h:i2=a
   .exact go tt [.t rfl,.i 2,.i 2,.f (by simpa using h)] rfl Fy (rd 3 Fo ⟨Fo,by simp[Eh,h]⟩ rfl)
   .exact Uz [.t rfl,.i 2,.i 2,.t (by simpa using h),.i 2] rfl (by simp[Eh,h]) trivial
  .by_cases h:i3=c
   .exact go tt [.t rfl,.i 3,.i 3,.f (by simpa using h)] rfl Fy (rd 4 Fo ⟨Fo,by simp[Eh,h]⟩ rfl)
   .exact Uz [.t rfl,.i 3,.i 3,.t (by simpa using h),.i 3] rfl (by simp[Eh,h]) trivial
  .exact Uz [.f rfl] rfl (by simp[Eh]) trivial
 .exact U0 func263 rfl [.t (by simpa using e)] rfl (by simp[Eh,e]) trivial
abbrev zCt:Fe:=[.int .i64 0,.int .i64 0,.int .i64 0,.int .i64 0,.int .i64 0,.nils,.int .i64 0]
def Gk(l:List Ct):Ff:=l.map Ey
variable{l:List Ct}
theorem P5{i:Nat}{c:Ct}(h:l[i]? = some c):(Gk l)[i]? = some (Ey c):=Ra h
theorem Nf(l:List Ct):(Gk l).length=l.length:=by simp[Gk]
theorem XX(l:List Ct):∀c∈Gk l,c.length=7:=λc hc=>by
 obtain⟨x,_,rfl⟩:=Q8.1 hc;rfl
theorem Qnh{O:List Ct}{z:Fe}{c:Ct}{k m:Nat}{l2:Ff}(a:k<=O.length)(hp:WZ O c O.length=k)(hm:m=O.length-k)(h2:l2.take m=((Gk O++[z]).drop k).take m) :
 ((Gk O++[z]).take (k+1)++(l2.take m++(Gk O++[z]).drop (k+1+m))).set k (Ey c)=Gk (GM O c):=by
 rw[h2,<-Zh,nU (Gk O) z (Ey c) (by rw[Nf];omega) (by rw[Nf];omega)];simp[GM,hp,Gk,Yd,Vv]
theorem MZ(hl:∀c∈l,Pb c.p)(hn:l.length≤1000000):U5 219 [.one (.row (Gk l))] [.one (.row (Gk (Gv l)))]:=by
 have q:=Nf l;refine G7 func219 rfl ?_;refine Ux [.o 3 66 7] rfl ?_;refine U4 (S:=Nat) 1 (λL1 i=>(9,.v (.oi i))::(3,.v (.one (.orow 0 7 none)))::L1) (λi=>[.row false 66 7 (Gk (Gv (l.take i)))]) (λi=>l.length-i) (λi=>i<=l.length) 0 (Qj _) rfl rfl λi hi=>?_
 by_cases h:i<l.length
 .obtain⟨c,hc⟩:=gxE (l:=l) (i:=i) h;have j:=Qa4 hc;have d:=hl c (Qc hc);obtain⟨O,u⟩:=nmE (Gv (l.take i));have w:O.length=i:=by rw[u,Cc,Qt];omega
  rw[<-u]at j ⊢;refine Ux [.t (by simp[q];omega),.x (P5 hc)] rfl ?_;refine U4 (S:=Nat) 2 (λL1 k=>(6,.v (.oi k))::L1) (λk=>[.row false 66 7 (Gk O),.blk 66 (Ey c)]) id (λk=>k<=O.length/\WZ O c k=WZ O c O.length) (Gk O).length ⟨by rw[Nf];exact Ql _,by rw[Nf]⟩ rfl rfl λk ⟨A,hp⟩=>?_
  have hz:∀y∈[zCt],y.length=7:=λy e=>by rw[Qk.1 e];rfl
  have n:∀y∈Gk O++[zCt],y.length=7:=λy e=>by
   rcases Qr.1 e with e|e
   .exact XX O y e
   .exact hz y e
  cases k with
  |
   zero =>
   have hp:WZ O c O.length=0:=by rw[<-hp];rfl
   refine go tt [.g 17 false Ft,.f rfl,.s (sz:=7) hz,.r 36 (eI (b:=((0+1:Nat):Int)) Ft),.i (0+1),.i (0),.s (sz:=7) (λy e=>n y (Qn e)),.i (O.length),.k (Tq d.t (by have:=d.l;omega) (Fz d.b Fo)),.i (0)] rfl (by simp[Gi,Nf];omega) ?_;exact rd (i+1) Fo h (by rw[j,<-Qnh (z:=zCt) (l2:=(Gk O++[zCt]).take ((Gk O++[zCt]).length-0)) (k:=0) (m:=O.length) Fo hp Fo (by congr 1;exact Qo Ft)];rfl)
  |
   succ k =>
   obtain⟨x,hx⟩:=gxE (l:=O) (i:=k) Fo;by_cases a:nR c x=true
   .refine go tt [.g 17 true Ft,.r 22 (eI (b:=(k:Int)) Ft),.i k,.x (P5 hx),.k Qju,.t a,.r 29 (eI (b:=(k:Int)) Ft)] rfl (by simp[Gi,Nf];omega) ?_;exact rd k Ft ⟨Fo,by rw[<-hp,Qu6 hx a]⟩ rfl
   .have a:nR c x=false:=by simpa using a
    have hp:WZ O c O.length=k+1:=by rw[<-hp,Qo0 hx a]
    refine go tt [.g 17 true Ft,.r 22 (eI (b:=(k:Int)) Ft),.i k,.x (P5 hx),.k Qju,.f a,.s (sz:=7) hz,.r 36 (eI (b:=((k+1+1:Nat):Int)) Ft),.i (k+1+1),.i (k+1),.s (sz:=7) (λy e=>n y (Q3 (Qn e))),.i (O.length-(k+1)),.k (Tq d.t (by have:=d.l;omega) (Fz d.b Fo)),.i (k+1)] rfl (by simp[Gi,Nf];omega) ?_;exact rd (i+1) Fo h (by rw[j,<-Qnh (z:=zCt) (l2:=((Gk O++[zCt]).drop (k+1)).take ((Gk O++[zCt]).length-(k+1))) (k:=k+1) (m:=O.length-(k+1)) Fo hp Fo (by congr 1;exact Qo Ft)];rfl)
 .obtain rfl:i=l.length:=Fo;rw[Q6];exact Uz [.f (by simp[q])] rfl
end Orr
namespace Orr
def Gp(p:U8):Int:=p.getD (p.length-1) 0
def xF(p:U8):Option U8:=if p.length<=64/\(p.all λz=>Nat.ble (Gm z) 16777216)=true then some p else none
def chq(q:Rat):Option Rat:=if Gm q.num<=16777216/\Gm (q.den:Int)<=16777216 then some q else none
def Py(p:U8):Int:=(S8 p:Nat)
def Ej(p:U8)(c:Int):U8:=trim (p.map (· / c))
def Ro(p:U8):Int:=if Gp p<0 then -Py p else Py p
def Gj(p:U8):U8:=if p.length=0 then []else Ej p (Ro p)
def mono(i:Nat)(x:Int):U8:=List.replicate i 0++[x]
def cF(b:U8)(c:Int):Nat->U8×U8->U8×U8
 | 0,s=>s
 |
  i+1,(q,r) =>
  cF b c i (QW (G5 q c) (mono i (if r.length=b.length+i then Gp r else 0)),Mh (G5 r c) (Hb (trim (mono i (if r.length=b.length+i then Gp r else 0))) b))
def Bb(a b:U8):U8:=(cF b (Gp b) (a.length+1-b.length) ([],a)).2
def Ck(a b r:U8):U8:=if (a.length+1-b.length) % 2=1/\Gp b<0 then Bt r else r
def QQ(r:U8):U8:=if r.length=0 then []else Ej r (Py r)
def Rz(a b:U8):U8:=QQ (Ck a b (Bb a b))
def rF(b:U8):Nat->U8->U8->Option U8
 | 0,a,q=>if a.length=0 then some q else none
 |i+1,a,q=>if a.length<b.length+i then rF b i a q else if Gp a % Gp b=0 then rF b i (Mh a (Hb (trim (mono i (Gp a / Gp b))) b)) (q.set i (Gp a / Gp b))else none
def XA(a b:U8):Option U8:=if b.length=0 then none else(rF b (a.length+1-b.length) a (List.replicate (a.length+1-b.length) 0)).bind λq=>xF (trim q)
def BX:Nat->U8->U8->Option U8
 | 0,_,_=>none
 |k+1,a,b=>if b.length=0 then some a else(xF (Rz a b)).bind λr=>BX k b r
def XI(a b:U8):Option U8:=(BX 66 (Gj a) (Gj b)).map Gj
def rH(a b:U8):Option U8:=(XI [] a).bind λg=>XI g b
def Ma(a:U8):Option U8:=if (Gj a).length<2 then some (Gj a)else(xF (Hh (Gj a))).bind λd=>(XI (Gj a) d).bind λg=>XA (Gj a) g
def YO:Nat->U8->Option U9
 | 0,_=>none
 |k+1,g=>if g.length<2 then some []else(xF (Hh g)).bind λd=>(XI g d).bind λh=>(XA g h).bind λw=>(YO k h).bind λl=>some (w::l)
def DF:U9->Option U9
 | []=>some []
 | [w]=>some [w]
 |w::v::l=>(XA w v).bind λf=>(DF (v::l)).bind λr=>some (f::r)
def VZ:Nat->U8->U9->Option U8
 |_,p,[]=>some p
 |i,p,f::l=>if i % 2=0 then(xF (Hb p f)).bind λq=>VZ (i+1) q l else VZ (i+1) p l
def DC(a:U8):Option U8:=if (Gj a).length=0 then some []else(YO 66 (Gj a)).bind λl=>(DF l).bind λfs=>VZ 0 [1] fs
def xU:Nat->U8->U8->Option U9
 | 0,_,_=>none
 |k+1,a,b=>if b.length=0 then some []else(xF (Rz a b)).bind λr=>(xU k b (Bt r)).bind λl=>some (b::l)
def chain(p:U8):Option U9:=(Ma p).bind λa=>if a.length=0 then none else(xF (Hh a)).bind λd=>(xU 66 a (Gj d)).bind λl=>some (a::l)
def Pf(sg:U8->Int)(s:Nat×Int)(p:U8):Nat×Int:=if sg p=0 then s else(if s.2=-(sg p)then s.1+1 else s.1,sg p)
def De(sg:U8->Int)(l:U9):Nat:=(l.foldl (Pf sg) (0,0)).1
def Mw(l:U9)(q:Rat):Nat:=De (λp=>Hp p q) l
def Hw(l:U9)(lo hi:Rat):Int:=if Hu hi lo<0 then 0 else(Mw l lo:Int)-(Mw l hi:Int)
def TY(p:U8):Int:=Int.sign (Gp p)
def YA(p:U8):Int:=if p.length % 2=0 then -Int.sign (Gp p)else Int.sign (Gp p)
def WW(l:U9):Int:=(De YA l:Int)-(De TY l:Int)
def most:U8->Nat:=λl=>l.foldl (λm z=>if m<z.natAbs then z.natAbs else m) 0
def Hm(p:U8):Rat:=Rat.divInt (((Gp p).natAbs:Int)+(most (p.take (p.length-1)):Int)) ((Gp p).natAbs:Int)
def NY(a b:Rat):Rat:=Rat.divInt (a.num*(b.den:Int)+b.num*(a.den:Int)) ((a.den:Int)*(b.den:Int)*2)
def Az(p:U8)(c:U9):Nat->Rat->Rat->Int->Option (List Tm)
 | 0,_,_,_=>none
 |k+1,lo,hi,n=>if n=0 then some []else if n=1 then some [⟨p,lo,hi⟩]else(chq (NY lo hi)).bind λm=>(Az p c k lo m (Hw c lo m)).bind λl=>(Az p c k m hi (n-Hw c lo m)).bind λr=>some (l++r)
def WV(p:U8):Option (List Tm):=(chain p).bind λc=>(Ma p).bind λq=>(chq (Hm q)).bind λb=>Az q c 100000 (-b) b (WW c)
def Tm.point(a:Tm):Bool:=decide (0<=Hu a.lo a.hi)
def low(p:U8)(q:Rat):Int:=if Hp p q≠0 then Hp p q else Hp (Hh p) q
def TG(p:U8)(lo hi:Rat):Bool:=decide (Hp p hi=0\/Hp p hi≠low p lo)
def Gt(a:Tm)(t:Rat):Int :=
 if a.point=true then Hu a.lo t else if Hu t a.lo<=0 then 1 else if 0<Hu t a.hi then -1 else if Hp a.p t=0 then 0 else if Hp a.p t=low a.p a.lo then 1 else -1
def half(a:Tm):Option Tm:=if a.point=true then some a else(chq (NY a.lo a.hi)).bind λm =>
 some (if Gt a m=0 then ⟨a.p,m,m⟩else if Gt a m=-1 then ⟨a.p,a.lo,m⟩else ⟨a.p,m,a.hi⟩)
def Rm(p:U8):Nat:=p.foldl (λn z=>max n (Gm z)) 0
def Be(a b:Tm):Nat:=64+2*(Gm a.lo.num+Gm a.hi.num+Gm b.lo.num+Gm b.hi.num)+4*(a.p.length+b.p.length)*(Rm a.p+Rm b.p+(a.p.length+b.p.length)+8)
def zM(a b:Rat):Rat:=Rat.divInt (a.num*(b.den:Int)-b.num*(a.den:Int)) ((a.den:Int)*(b.den:Int))
def Ak(a b:Tm):Bool:=decide (Hu a.hi b.lo<=0/\¬((a.point=true/\b.point=true)/\Hu a.hi b.lo=0))
def xP:Nat->Tm->Tm->Option (Tm×Tm×Int)
 | 0,a,b=>some (a,b,0)
 |
  k+1,a,b=>if Ak a b=true then some (a,b,-1)else if Ak b a=true then some (a,b,1)else
  if 0<=Hu (zM a.hi a.lo) (zM b.hi b.lo)then(half a).bind λx=>xP k x b else(half b).bind λx=>xP k a x
def RE(a b:Tm):Option Int:=if a.point=true then some (-Gt b a.lo)else if b.point=true then some (Gt a b.lo)else
 let lo:=if 0<Hu b.lo a.lo then b.lo else a.lo
 let hi:=if Hu b.hi a.hi<0 then b.hi else a.hi
 if Hu lo hi<0 then(rH a.p b.p).bind λg=>if 1<g.length/\TG g lo hi=true then some 0 else(xP (Be a b) a b).bind λr=>some r.2.2
 else(xP (Be a b) a b).bind λr=>some r.2.2
def sgF(c:U9):Nat->Tm->Option Tm
 | 0,a=>some a
 |k+1,a=>if a.point=true\/Hw c a.lo a.hi=0 then some a else(half a).bind λx=>sgF c k x
def FD(p:U8)(a:Tm):Option Int:=if p.length=0 then some 0 else if a.point=true then some (Hp p a.lo)else
 (rH p a.p).bind λg=>if 1<g.length/\TG g a.lo a.hi=true then some 0 else(chain p).bind λc=>(sgF c (64+2*(Gm a.lo.num+Gm a.hi.num)+4*(a.p.length+p.length)*(Rm a.p+Rm p+(a.p.length+p.length)+8)) a).bind λx=>some (Hp p x.hi)
def O1:Tm->List Tm->Option Tm
 |b,[]=>some b
 |b,a::l=>(RE a b).bind λc=>O1 (if c<0 then a else b) l
def QO(a:Tm):List Tm->Option (Option Tm)
 | []=>some none
 |r::l=>(RE r a).bind λc=>if 0<c then some (some r)else QO a l
def Ik(p:U8):Option (List Tm):=(DC p).bind λq=>if q.length=0 then some []else WV q
def CW(p:U8)(a:Tm):Option (Option Tm):=(Ik p).bind λl=>QO a l
end Orr
namespace Orr
open Go Go.Proofs Tryz
set_option maxRecDepth 10000
variable{p:U8}
theorem Do(a:Gg p)(h:p.length≠0):Gp p≠0:=Tg a Fo
theorem qK(h:p.length≠0):Gp p∈p:=Qc (S9 Fo)
variable{s:Nat}
theorem Nn(h:Bd s p):Gm (Gp p)<=s:=Gz h _
theorem Oc:∀z∈p,Py p∣z:=VA
theorem XN(a:Gg p)(h:p.length≠0):Py p≠0:=λh0=>Do a h (Int.zero_dvd.1 (h0 ▸ Oc _ (qK h)))
theorem UU(h:Bd 4294967295 p):Gm (Py p)<=4294967295:=LL h
theorem Qeq(a:Gg p)(h:p.length≠0):Ro p≠0:=by
 have:=XN a h;unfold Ro;split <;> omega
theorem SU:∀z∈p,Ro p∣z:=λz hz=>by
 unfold Ro;split
 .exact Uv.2 (Oc z hz)
 .exact Oc z hz
theorem Qnm(h:Bd 4294967295 p):Gm (Ro p)<=4294967295:=by
 unfold Ro;split
 .rw[Rq];exact UU h
 .exact UU h
theorem AZ(h:Bd s p)(c:Int):Bd s (Ej p c):=Pv (PI h c)
theorem vV(p:U8)(c:Int):(Ej p c).length<=p.length:=Qa (Tu _) Ft
theorem YH(p:U8)(c:Int):Gg (Ej p c):=Tp _
theorem Qou(h:Pb p)(c:Int):Pb (Ej p c):=⟨YH _ _,Qa (vV _ _) h.l,AZ h.b c⟩
theorem NW:Pb []:=⟨rfl,Ft,Om⟩
theorem Pd(h:Pb p):Pb (Gj p):=by
 unfold Gj;split
 .exact NW
 .exact Qou h _
theorem Pb.bd(h:Pb p):Bd 4294967295 p:=Fz h.b Fo
theorem Pb.ln(h:Pb p):p.length<274877906944:=Xe h.l Fo
theorem Pb.ln'(h:Pb p):p.length<8589934592:=Xe h.l Fo
variable{q:U8}
theorem JD(a:Gg p)(h:xF p=some q):q=p/\Pb p:=by
 unfold xF at h
 split at h
 .rename_i hc;injection h with h;refine⟨h.symm,a,hc.1,λz hz=>?_⟩;have:=Ya.1 hc.2 z hz;exact Zj this
 .cases h
theorem Qcf{g:Int}(hl:p.length<274877906944)(hp:Bd 4294967295 p)(hg:Gm g≤4294967295)(h0:g≠0)(hd:∀z∈p,g∣z):U5 288 [pr p,.agg (Rr g)] [pr (Ej p g)]:=by
 refine G7 func288 rfl ?_;refine Uy [.r 9 (eI (b:=(p.length:Int)) Ft),.i p.length,.i p.length,.r 12 (eI (b:=(p.length:Int)) Ft)] rfl ?_;rw[Ow λk=>Rr (p.getD k 0 / g)];refine U4 (S:=Nat) 2 (λL1 k=>(13,.v (.oi k))::L1) (λk=>[.blk 35 (Rr g),.row false 35 2 (xG (λk=>Rr (p.getD k 0 / g)) [.bool false,.nils] p.length k)]) (λk=>p.length-k) (λk=>k<=p.length) 0 (Qj _) rfl rfl λk d=>?_
 by_cases a:k<p.length
 .have c:=S9 a;refine go tt [.t Fq,.x (Ni c),.k (QG (Gb _) (Gb _) (Gz hp k) hg h0 (Yh (hd _ (Qc c)))),.i k] rfl (by simp[Gi,QA];omega) ?_;have e:=JO (λk=>Rr (p.getD k 0 / g)) [.bool false,.nils] a;rw[e];exact rd (k+1) Fo a rfl
 .obtain rfl:k=p.length:=Fo;have e:xG (λk=>Rr (p.getD k 0 / g)) [.bool false,.nils] p.length p.length=(p.map (· / g)).map Rr:=by
   rw[JI];refine Xu λi=>?_
   by_cases hi:i<p.length
   .simp[Jh hi,List.getD,Qf hi]
   .simp[Qu,hi]
  rw[e];exact Uz [.f Ft,.k (Lo (H5 (p.map (· / g))) (by simp;exact hl) (PI hp g))] rfl
theorem PO(hl:p.length<8589934592)(hp:Bd 4294967295 p):U5 289 [.one (.row [[pl p]])] [.agg (Rr (Py p))]:=by
 refine G7 func289 rfl ?_;refine Ux [.o 3 35 2] rfl ?_;refine U4 (S:=Nat) 2 (λL1 i=>(8,.v (.oi i))::(3,.v (.one (.orow 1 2 none)))::L1) (λi=>[.blk 35 [.bool false,.nils],.row false 35 2 (if i=0 then []else p.map Rr)]) (λi=>1-i) (λi=>i<=1) 0 (Qj _) rfl rfl λi hi=>?_
 rcases(show i=0\/i=1 by omega)with rfl|rfl
 .refine Uy [.t rfl,.x (i:=0) (xs:=[pl p]) rfl,.s (zQ p)] rfl ?_;exact rd 1 Fo Fo rfl
 .exact Uz [.f rfl,.k (Qjp (H5 p) hp)] rfl
theorem Qk1(d:Gg p)(b:p.length<8589934592)(hp:Bd 4294967295 p):U5 284 [pr p] [.agg (Rr (if p.length=0 then 0 else Ro p)),pr (Gj p)]:=by
 have hl:p.length<274877906944:=Fo;have h:=Tq d hl hp;by_cases h0:p.length=0
 .have e:p=[]:=Qg h0;subst e;exact U0 func284 rfl [.k h,.t rfl] rfl (by simp[Av,Gj];rfl) trivial
 .have g:Gj p=Ej p (Ro p):=by unfold Gj;rw[if_neg h0]
  rw[if_neg h0,g];have c:=Qcf hl hp (Qnm hp) (Qeq d h0) SU;by_cases a:Gp p<0
  .have e:Ro p=-Py p:=by unfold Ro;rw[if_pos a]
   rw[e]at c ⊢;exact U0 func284 rfl [.k h,.f (by simpa using h0),.k (PO b hp),.k (Aa d hl hp),.t (by simpa[Gp]using a),.k (AB (Gb _) (UU hp)),.k c] rfl
  .have e:Ro p=Py p:=by unfold Ro;rw[if_neg a]
   rw[e]at c ⊢;exact U0 func284 rfl [.k h,.f (by simpa using h0),.k (PO b hp),.k (Aa d hl hp),.f (by simpa[Gp]using a),.k c] rfl
theorem QR(hp:Pb p):U5 251 [pr p] [pr (Gj p)] :=
 U0 func251 rfl [.k (Qk1 hp.t hp.ln' hp.bd)] rfl
theorem Bh(p:U8):U5 136 [pr p] [.oi ((p.length:Int)-1)]:=by
 have h:U5 136 [pr p] [.oi (((p.map Rr).length:Int)-1)]:=G7 func136 rfl (ln 0 rfl rfl λhl=>Uz [] rfl rfl (by simp[Gi]at hl ⊢;omega));rw[Ze]at h;exact h
theorem XH(i:Nat)(x:Int):(mono i x).length=i+1:=by simp[mono]
variable{i:Nat}{x:Int}
theorem EO(h:Gm x<=s):Bd s (mono i x):=λz hz=>by
 simp only[mono,Qr,Qk]at hz;rcases hz with hz|rfl
 .rw[(List.mem_replicate.1 hz).2,C0];exact Qj _
 .exact h
def stq(c:Int)(i:Nat)(x:Int)(q:U8):U8:=QW (G5 q c) (mono i x)
def str(b:U8)(c:Int)(i:Nat)(x:Int)(r:U8):U8:=Mh (G5 r c) (Hb (trim (mono i x)) b)
variable{c:Int}
theorem Qyt{u t:Nat}(a:Bd u q)(hc:Gm c<=t)(hx:Gm x<=u):Bd (u+t+8) (stq c i x q) :=
 Fz (WC (Hj a hc) (EO hx)) Fo
theorem Qub:(stq c i x q).length<=max q.length (i+1):=by
 have h:=XG (G5 q c) (mono i x);have h1:=Ha q c;rw[XH]at h;unfold stq;omega
variable{b:U8}
theorem fM:(Hb (trim (mono i x)) b).length<=i+b.length:=by
 have h:=P8 (trim (mono i x)) b;have h1:=Tu (mono i x);rw[XH]at h1;omega
theorem Qbx{u t:Nat}(hb:Bd t b)(hx:Gm x<=u)(hi:i<=64):Bd (u+t+7) (Hb (trim (mono i x)) b) :=
 Mv (Pv (EO hx)) hb (Xe (Tu _) (by rw[XH];omega))
variable{r:U8}
theorem eW{u t:Nat}(hr:Bd u r)(hb:Bd t b)(hc:Gm c<=t)(hx:Gm x<=u)(hi:i<=64):Bd (u+t+8) (str b c i x r) :=
 Fz (E9 (Hj hr hc) (Qbx hb hx hi)) Fo
theorem fN:(str b c i x r).length<=max r.length (i+b.length):=by
 have h:=No (G5 r c) (Hb (trim (mono i x)) b);have h1:=Ha r c;have h2:=fM (i:=i) (x:=x) (b:=b);unfold str;omega
theorem nE(i:Nat)(x:Int):((List.replicate (i+1) (0:Int)).map Rr).set i (Rr x)=(mono i x).map Rr:=by
 rw[oI,mono];congr 1;refine Xu λj=>?_
 simp only[Ju,List.getElem?_append,Yj,Ji];by_cases h:j=i
 .subst h;simp
 .rw[if_neg Fo];by_cases h2:j<i
  .simp[h2];omega
  .rw[if_neg Fo,if_neg h2];cases a:j-i with
   |zero=>omega
   |succ m=>simp
theorem Qea(i:Nat){y:Fe}(h:y.map SQ=Rr x):(((List.replicate (i+1) [LV.bool false,LV.nils]).set i y).map λc=>c.map SQ)=(mono i x).map Rr:=by
 rw[Kd,EU,h];exact nE i x
theorem WJ(hx:x=if r.length=b.length+i then Gp r else 0):cF b c (i+1) (q,r)=cF b c i (stq c i x q,str b c i x r):=by
 subst hx;rfl
theorem Qj6{a:U8}(ha:Pb a)(hb:Pb b)(h0:b.length≠0):U5 285 [pr a,pr b] [pr (cF b (Gp b) (a.length+1-b.length) ([],a)).1,pr (Bb a b),.oi ((a.length+1-b.length:Nat):Int),.oi 0]:=by
 have B:=ha.l;have hbl:=hb.l;have g:Gm (Gp b)<=16777216:=Nn hb.b;obtain⟨c,hc⟩:=nmE (Gp b);have cl:=Aa hb.t hb.ln hb.bd;rw[show b.getD (b.length-1) 0=c from hc.symm]at cl;obtain⟨k,y⟩:=nmE (a.length+1-b.length);unfold Bb;rw[<-hc,<-y];rw[<-hc]at g;refine G7 func285 rfl ?_;refine Uy [.z 4,.k (Tq ha.t ha.ln ha.bd),.k (Tq hb.t hb.ln hb.bd),.f (by simpa using h0),.k cl,.k (Bh a),.k (Bh b),.r 27 (eI (b:=(k:Int)) Fo)] rfl ?_;refine U4 (S:=Nat×U8×U8) 1 (λL1 s=>(4,.v (pr s.2.1))::(5,.v (pr s.2.2))::(9,.v (.oi ((s.1:Int)-1)))::L1) (λ_=>[.blk 35 (Rr c)]) (λs=>s.1) (λs=>s.1<=k/\Gg s.2.2/\s.2.1.length<=66/\s.2.2.length<=a.length/\Bd (16777216+(k-s.1)*16777224) s.2.1/\Bd (16777216+(k-s.1)*16777224) s.2.2/\cF b c s.1 s.2=cF b c k ([],a)) (k,[],a) ⟨Ql _,ha.t,Ft,Ql _,Om,by simpa using ha.b,rfl⟩ rfl rfl λ⟨i,q,r⟩ ⟨j1,j2,j3,j4,j5,j6,j7⟩=>?_
 dsimp only at j1 j2 j3 j4 j5 j6 j7 ⊢;rw[<-j7];cases i with
 |zero=>exact Uz [.f Ft] rfl
 |
  succ i =>
  obtain⟨x,hx⟩:=nmE (if r.length=b.length+i then Gp r else 0);obtain⟨u,hu⟩:=nmE (16777216+(k-(i+1))*16777224);rw[<-hu]at j5 j6;have A:u<=1107296256:=by
   have:(k-(i+1))*16777224<=64*16777224:=Qz _ Fo;omega
  have e:Gm x<=u:=by
   rw[hx];split
   .exact Nn j6
   .rw[C0];exact Qj _
  have cs:=Nl (p:=q) (c:=c) Fo (Fz j5 Fo) Fo;have j:=Nl (p:=r) (c:=c) Fo (Fz j6 Fo) Fo;have l1:=Ha q c;have l2:=Ha r c;have w:=AL (p:=G5 q c) (q:=mono i x) Fo (by rw[XH];omega) (Fz (Hj j5 g) Fo) (Fz (EO e) Fo);have o:=uX (p0:=mono i x) hb.t (by rw[XH];omega) Fo (EO e) hb.b Fo;have l3:=fM (i:=i) (x:=x) (b:=b);have cb:=MQ (p:=G5 r c) (q:=Hb (trim (mono i x)) b) Fo Fo (Fz (Hj j6 g) Fo) (Fz (Qbx hb.b e Fo) Fo);have n:=WJ (b:=b) (c:=c) (q:=q) hx;have d:i<=k/\Gg (str b c i x r)/\(stq c i x q).length<=66/\(str b c i x r).length<=a.length/\Bd (16777216+(k-i)*16777224) (stq c i x q)/\Bd (16777216+(k-i)*16777224) (str b c i x r):=by
   have C:=Qub (c:=c) (x:=x) (i:=i) (q:=q);have D:=fN (c:=c) (x:=x) (i:=i) (b:=b) (r:=r);have m:u+16777216+8=16777216+(k-i)*16777224:=by
    rw[hu,show k-i=(k-(i+1))+1 from Fo,Jj];omega
   refine⟨Fo,Gs _ _,Fo,Fo,?_,?_⟩
   .rw[<-m];exact Qyt j5 g e
   .rw[<-m];exact eW j6 hb.b g e Fo
  rw[n];by_cases h:r.length=b.length+i
  .refine Uy [.t (by simp <;> omega),.k (Bh r),.k (Bh b),.t Fq,.k (Aa j2 Fo (Fz j6 Fo)),.r 44 (eI (b:=((i+1:Nat):Int)) Fo),.i (i+1),.i (i+1),.r 47 (eI (b:=(i:Int)) Fo),.i i] rfl ?_;refine nl 2 rfl rfl rfl ?_;rw[Qea i (x:=x) (by rw[hx,if_pos h];rfl)];refine Uy [.k cs,.k w,.k j,.k o,.k cb,.r 33 (eI (b:=(i:Int)-1) Fo)] rfl ?_;exact rd (i,stq c i x q,str b c i x r) Fv ⟨d.1,d.2.1,d.2.2.1,d.2.2.2.1,d.2.2.2.2.1,d.2.2.2.2.2,rfl⟩ rfl
  .refine Uy [.t (by simp <;> omega),.k (Bh r),.k (Bh b),.f Fq,.r 44 (eI (b:=((i+1:Nat):Int)) Fo),.i (i+1),.i (i+1),.r 47 (eI (b:=(i:Int)) Fo),.i i] rfl ?_;refine nl 2 rfl rfl rfl ?_;rw[Qea i (x:=x) (by rw[hx,if_neg h,Av];rfl)];refine Uy [.k cs,.k w,.k j,.k o,.k cb,.r 33 (eI (b:=(i:Int)-1) Fo)] rfl ?_;exact rd (i,stq c i x q,str b c i x r) Fv ⟨d.1,d.2.1,d.2.2.1,d.2.2.2.1,d.2.2.2.2.1,d.2.2.2.2.2,rfl⟩ rfl
theorem Qo3{b:U8}{c:Int}(hb:Bd 16777216 b)(hc:Gm c<=16777216){n:Nat}:∀(i u:Nat) (q r:U8),i<=64->i+b.length<=n+1->Gg r->r.length<=n->Bd u r->Gg (cF b c i (q,r)).2/\(cF b c i (q,r)).2.length<=n/\Bd (u+i*16777224) (cF b c i (q,r)).2
 | 0,u,q,r,_,_,h1,h2,h3=>⟨h1,h2,by simpa[cF]using h3⟩
 |
  i+1,u,q,r,hi,hn,h1,h2,h3=>by
  rw[WJ rfl];have hx:Gm (if r.length=b.length+i then Gp r else 0)<=u:=by
   split
   .exact Nn h3
   .rw[C0];exact Qj _
  have a:=fN (c:=c) (x:=if r.length=b.length+i then Gp r else 0) (i:=i) (b:=b) (r:=r);have:=Qo3 hb hc (n:=n) i (u+16777216+8) (stq c i (if r.length=b.length+i then Gp r else 0) q) (str b c i (if r.length=b.length+i then Gp r else 0) r) Fo Fo (Gs _ _) Fo (eW h3 hb hc hx Fo);exact⟨this.1,this.2.1,Fz this.2.2 Fo⟩
theorem Qev{a:U8}(ha:Pb a)(hb:Pb b)(h0:b.length≠0):Gg (Bb a b)/\(Bb a b).length<=a.length/\Bd 1107296256 (Bb a b):=by
 have c:=ha.l;by_cases h:b.length<=a.length+1
 .obtain⟨h1,h2,h3⟩:=Qo3 hb.b (Nn hb.b) (n:=a.length) (a.length+1-b.length) 16777216 [] a Fo Fo ha.t (Ql _) ha.b;refine⟨h1,h2,Fz h3 ?_⟩;have:(a.length+1-b.length)*16777224<=64*16777224:=Qz _ Fo;omega
 .have e:Bb a b=a:=by unfold Bb;rw[show a.length+1-b.length=0 from Fo];rfl
  rw[e];exact⟨ha.t,Ql _,Fz ha.b Fo⟩
theorem SS{a:U8}{n:Nat}(h1:Gg r)(h2:r.length<=n)(h3:Bd s r):Gg (Ck a b r)/\(Ck a b r).length<=n/\Bd s (Ck a b r):=by
 unfold Ck;split
 .exact⟨Gs _ _,Qa (O2 r) h2,RJ h3⟩
 .exact⟨h1,h2,h3⟩
theorem zX{n:Nat}(h2:r.length<=n)(h3:Bd s r):Gg (QQ r)/\(QQ r).length<=n/\Bd s (QQ r):=by
 unfold QQ;split
 .exact⟨rfl,Ft,Om⟩
 .exact⟨YH _ _,Qa (vV _ _) h2,AZ h3 _⟩
theorem SH{a:U8}(ha:Pb a)(hb:Pb b)(h0:b.length≠0):Gg (Rz a b)/\(Rz a b).length<=a.length/\Bd 1107296256 (Rz a b):=by
 obtain⟨h1,h2,h3⟩:=Qev ha hb h0;obtain⟨h4,h5,c⟩:=SS (a:=a) (b:=b) h1 h2 h3;exact zX h5 c
theorem Qkb{a:U8}(ha:Pb a)(hb:Pb b)(h0:b.length≠0):U5 252 [pr a,pr b] [pr (Rz a b),.oi 0]:=by
 obtain⟨h1,h2,h3⟩:=Qev ha hb h0;obtain⟨h4,h5,n⟩:=SS (a:=a) (b:=b) h1 h2 h3;have q:=ha.l;have cp:=Qj6 ha hb h0;have cl:=Aa hb.t hb.ln hb.bd;have o:=Qj2 (p:=Bb a b) Fo (Fz h3 Fo);unfold Rz;obtain⟨r,hr⟩:=nmE (Ck a b (Bb a b));have i:=PO (p:=r) (by rw[hr];omega) (by rw[hr];exact Fz n Fo);rw[<-hr]at h4 h5 n ⊢;obtain⟨k,j⟩:=nmE (a.length+1-b.length);rw[<-j]at cp;have em:((k:Int).tmod 2)=((k % 2:Nat):Int):=by rw[Vj Fo];omega
 have m:QQ r=if r.length=0 then []else Ej r (Py r):=rfl
 by_cases hz:r.length=0
 .rw[m,if_pos hz];by_cases d:k % 2=1
  .by_cases c:Gp b<0
   .have e:r=Bt (Bb a b):=by rw[hr];unfold Ck;rw[if_pos ⟨by rw[<-j];exact d,c⟩]
    rw[e]at hz;exact U0 func252 rfl [.k cp,.f Ft,.r 22 (eI em),.t Fq,.k cl,.t (by simpa[Gp]using c),.k o,.t (by simpa using hz)] rfl rfl Fy
   .have e:r=Bb a b:=by rw[hr];unfold Ck;rw[if_neg (λh=>c h.2)]
    rw[e]at hz;exact U0 func252 rfl [.k cp,.f Ft,.r 22 (eI em),.t Fq,.k cl,.f (by simpa[Gp]using c),.t (by simpa using hz)] rfl rfl Fy
  .have e:r=Bb a b:=by rw[hr];unfold Ck;rw[if_neg (λh=>d (by rw[j];exact h.1))]
   rw[e]at hz;exact U0 func252 rfl [.k cp,.f Ft,.r 22 (eI em),.f Fq,.f rfl,.t (by simpa using hz)] rfl rfl Fy
 .rw[m,if_neg hz];have cd:=Qcf (p:=r) (g:=Py r) Fo (Fz n Fo) (UU (Fz n Fo)) (XN h4 hz) Oc;by_cases d:k % 2=1
  .by_cases c:Gp b<0
   .have e:r=Bt (Bb a b):=by rw[hr];unfold Ck;rw[if_pos ⟨by rw[<-j];exact d,c⟩]
    rw[e]at hz i cd ⊢;exact U0 func252 rfl [.k cp,.f Ft,.r 22 (eI em),.t Fq,.k cl,.t (by simpa[Gp]using c),.k o,.f (by simpa using hz),.k i,.k cd] rfl rfl Fy
   .have e:r=Bb a b:=by rw[hr];unfold Ck;rw[if_neg (λh=>c h.2)]
    rw[e]at hz i cd ⊢;exact U0 func252 rfl [.k cp,.f Ft,.r 22 (eI em),.t Fq,.k cl,.f (by simpa[Gp]using c),.f (by simpa using hz),.k i,.k cd] rfl rfl Fy
  .have e:r=Bb a b:=by rw[hr];unfold Ck;rw[if_neg (λh=>d (by rw[j];exact h.1))]
   rw[e]at hz i cd ⊢;exact U0 func252 rfl [.k cp,.f Ft,.r 22 (eI em),.f Fq,.f rfl,.f (by simpa using hz),.k i,.k cd] rfl rfl Fy
variable{x:Int}
theorem Qt9{s:Nat}(h:Gm x<=s)(g:Int):Gm (x / g)<=s:=PI (p:=[x]) (λz hz=>by rw[Qk.1 hz];exact h) g _ Ft
def sta(b:U8)(i:Nat)(x:Int)(a:U8):U8:=Mh a (Hb (trim (mono i x)) b)
variable{b a:U8}
theorem Qys{u t i:Nat}(ha:Bd u a)(hb:Bd t b)(hx:Gm x<=u)(hi:i<=64):Bd (u+t+8) (sta b i x a) :=
 Fz (E9 ha (Qbx hb hx hi)) Fo
theorem Qd4{i:Nat}:(sta b i x a).length<=max a.length (i+b.length):=by
 have h:=No a (Hb (trim (mono i x)) b);have h2:=fM (i:=i) (x:=x) (b:=b);unfold sta;omega
theorem Qrv(s n:Nat):Bd s (List.replicate n 0):=λz hz=>by rw[(List.mem_replicate.1 hz).2,C0];exact Qj _
theorem Qyr{s i:Nat}{l:U8}(h:Bd s l)(hx:Gm x<=s):Bd s (l.set i x):=λz hz=>by
 rcases J7 hz with hz|rfl
 .exact h z hz
 .exact hx
theorem Qj0{q:U8}(ha:Pb a)(hb:Pb b)(h:XA a b=some q):U5 313 [pr a,pr b] [pr q,.oi 0]:=by
 unfold XA at h
 split at h
 .cases h
 rename_i h0;obtain⟨k,F⟩:=nmE (a.length+1-b.length);rw[<-F]at h;obtain⟨H,E,m⟩:=Qd.1 h;obtain⟨rfl,G⟩:=JD (Tp _) m;have I:=ha.l;have hbl:=hb.l;refine G7 func313 rfl ?_;refine Uy [.k (Tq ha.t ha.ln ha.bd),.k (Tq hb.t hb.ln hb.bd),.f (by simpa using h0),.r 24 (eI (b:=(k:Int)) Fq),.i k,.i k,.r 27 (eI (b:=(k:Int)) Ft)] rfl ?_;refine nl 0 rfl rfl rfl ?_;rw[EU];refine U4 (S:=Nat×U8×U8) 1 (λL1 s=>(0,.v (pr s.2.1))::(7,.v (.oi ((s.1:Int)-1)))::L1) (λs=>[.row false 35 2 (s.2.2.map Rr)]) (λs=>s.1) (λs=>s.1<=k/\Gg s.2.1/\s.2.1.length<=a.length/\Bd (16777216+(k-s.1)*16777224) s.2.1/\s.2.2.length=k/\Bd 1107296256 s.2.2/\rF b s.1 s.2.1 s.2.2=some H) (k,a,List.replicate k 0) ⟨Ql _,ha.t,Ql _,by simpa using ha.b,Ft,Qrv _ _,E⟩ rfl rfl λ⟨i,A,Q⟩ ⟨j1,w,B,e,o,j,c⟩=>?_
 dsimp only at j1 w B e o c j ⊢;cases i with
 |
  zero =>
  simp only[rF]at c
  split at c
  .rename_i hA;injection c with c;subst c;exact Uz [.f Ft,.f (by simpa using hA),.k (Lo (H5 Q) Fo (Fz j Fo))] rfl
  .cases c
 |
  succ i =>
  obtain⟨u,hu⟩:=nmE (16777216+(k-(i+1))*16777224);rw[<-hu]at e;have y:u<=1107296256:=by
   have:(k-(i+1))*16777224<=64*16777224:=Qz _ Fo;omega
  have z:u+16777216+8=16777216+(k-i)*16777224:=by
   rw[hu,show k-i=(k-(i+1))+1 from Fo,Jj];omega
  simp only[rF]at c;by_cases g:A.length<b.length+i
  .rw[if_pos g]at c;refine Uy [.t (by simp <;> omega),.k (Bh A),.k (Bh b),.t Fq,.r 32 (eI (b:=(i:Int)-1) Fo)] rfl ?_;exact rd (i,A,Q) Fv ⟨Fv,w,B,Fz e Fv,o,j,c⟩ rfl
  .rw[if_neg g]at c
   split at c
   .rename_i n;obtain⟨x,hx⟩:=nmE (Gp A / Gp b);rw[<-hx]at c;have d:Gm x<=u:=by rw[hx];exact Qt9 (Nn e) _
    have D:=QG (Gb (Gp A)) (Gb (Gp b)) (Qa (Nn e) Fo) (Qa (Nn hb.b) Fo) (Do hb.t h0) n;rw[<-hx]at D;have C:U5 199 [.one (.row ((mono i x).map Rr)),pr b] [pr (Hb (trim (mono i x)) b)]:=uX (p0:=mono i x) hb.t (by rw[XH];omega) Fo (EO d) hb.b Fo;have l3:=fM (i:=i) (x:=x) (b:=b);have J:=Qd4 (i:=i) (x:=x) (b:=b) (a:=A);have cb:=MQ (p:=A) (q:=Hb (trim (mono i x)) b) Fo Fo (Fz e Fo) (Fz (Qbx hb.b d Fo) Fo);refine Uy [.t (by simp <;> omega),.k (Bh A),.k (Bh b),.f Fq,.k (Aa w Fo (Fz e Fo)),.k (Aa hb.t hb.ln hb.bd),.k D,.f rfl,.r 51 (eI (b:=(i:Int)) Fo),.i i,.r 55 (eI (b:=((i+1:Nat):Int)) Fo),.i (i+1),.i (i+1),.r 58 (eI (b:=(i:Int)) Fo)] rfl ?_;refine nl 2 rfl rfl rfl ?_;rw[EU,oI];rw[<-nE i x]at C;refine Uy [.i i,.k C,.k cb,.r 32 (eI (b:=(i:Int)-1) Fo)] rfl ?_;exact rd (i,sta b i x A,Q.set i x) Fv ⟨Fv,Gs _ _,Fv,by dsimp only;rw[<-z];exact Qys e hb.b d Fo,by simpa using o,Qyr j (Nat.le_trans d y),c⟩ rfl
   .cases c
theorem oN{q:U8}(h:XA a b=some q):Pb q:=by
 unfold XA at h
 split at h
 .cases h
 .obtain⟨e,_,c⟩:=Qd.1 h;obtain⟨rfl,d⟩:=JD (Tp _) c;exact d
theorem Qla{q:U8}(ha:Pb a)(hb:Pb b)(h:XA a b=some q):U5 304 [pr a,pr b] [pr q] :=
 U0 func304 rfl [.k (Qj0 ha hb h)] rfl
theorem tC:∀{k:Nat} {a b g:U8},Pb a->Pb b->BX k a b=some g->Pb g
 | 0,_,_,_,_,_,h=>by cases h
 |
  k+1,a,b,g,ha,hb,h=>by
  simp only[BX]at h
  split at h
  .injection h with h;subst h;exact ha
  .rename_i h0;obtain⟨r,hr,h⟩:=Qd.1 h;obtain⟨rfl,c⟩:=JD (SH ha hb h0).1 hr;exact tC hb c h
theorem Qcq{g:U8}(ha:Pb a)(hb:Pb b)(h:XI a b=some g):U5 210 [pr a,pr b] [pr g]:=by
 unfold XI at h;obtain⟨i,h2,rfl⟩:=Js.1 h;have hg:=tC (Pd ha) (Pd hb) h2;refine G7 func210 rfl ?_;refine Ux [.k (QR ha),.k (QR hb)] rfl ?_;refine U4 (S:=Nat×U8×U8) 0 (λL1 s=>(0,.v (pr s.2.1))::(1,.v (pr s.2.2))::L1) (λ_=>[]) (λs=>s.1) (λs=>Pb s.2.1/\Pb s.2.2/\BX s.1 s.2.1 s.2.2=some i) (66,Gj a,Gj b) ⟨Pd ha,Pd hb,h2⟩ rfl rfl λ⟨k,A,C⟩ ⟨j1,d,c⟩=>?_
 dsimp only at j1 d c ⊢;cases k with
 |zero=>cases c
 |
  succ k =>
  simp only[BX]at c
  split at c
  .rename_i h0;injection c with c;subst c;exact Uz [.f (by simpa using h0),.k (QR j1)] rfl
  .rename_i h0;obtain⟨r,hr,c⟩:=Qd.1 c;obtain⟨rfl,e⟩:=JD (SH j1 d h0).1 hr;refine Ux [.t Fq,.k (Qkb j1 d h0)] rfl ?_;exact rd (k,C,Rz A C) Fv ⟨d,e,c⟩ rfl
theorem NF{g:U8}(ha:Pb a)(hb:Pb b)(h:XI a b=some g):Pb g:=by
 unfold XI at h;obtain⟨c,h2,rfl⟩:=Js.1 h;exact Pd (tC (Pd ha) (Pd hb) h2)
theorem Qj1{g:U8}(ha:Pb a)(hb:Pb b)(h:rH a b=some g):U5 165 [.one (.row (M5 [a,b]))] [pr g]:=by
 unfold rH at h;obtain⟨d,h1,h2⟩:=Qd.1 h;have c:=NF NW ha h1;refine G7 func165 rfl ?_;refine Ux [.z 3] rfl ?_;refine U4 (S:=Nat) 0 (λL1 i=>(8,.v (.oi i))::(3,.v (pr (if i=0 then []else if i=1 then d else g)))::L1) (λ_=>[]) (λi=>2-i) (λi=>i<=2) 0 (Qj _) rfl rfl λi hi=>?_
 rcases(show i=0\/i=1\/i=2 by omega)with rfl|rfl|rfl
 .refine Ux [.t rfl,.x (Sr (i:=0) (p:=a) rfl),.k (Qcq NW ha h1)] rfl ?_ Fy;exact rd 1 Fo Fo rfl
 .refine Ux [.t rfl,.x (Sr (i:=1) (p:=b) rfl),.k (Qcq c hb h2)] rfl ?_ Fy;exact rd 2 Fo Fo rfl
 .exact Uz [.f rfl] rfl
theorem Qor{g:U8}(ha:Pb a)(hb:Pb b)(h:rH a b=some g):Pb g:=by
 unfold rH at h;obtain⟨c,h1,h2⟩:=Qd.1 h;exact NF (NF NW ha h1) hb h2
variable{p:U8}
theorem qL{d:U8}(h:xF (Hh p)=some d):d=Hh p/\Pb (Hh p):=JD (Gs _ _) h
theorem AI{g:U8}(ha:Pb a)(h:Ma a=some g):U5 293 [pr a] [pr g]:=by
 have hp:=Pd ha;unfold Ma at h
 split at h
 .rename_i h0;injection h with h;subst h;exact U0 func293 rfl [.k (QR ha),.k (Bh _),.t Fq] rfl
 .rename_i h0;obtain⟨d,h1,h⟩:=Qd.1 h;obtain⟨rfl,hd⟩:=qL h1;obtain⟨b,h1,h⟩:=Qd.1 h;exact U0 func293 rfl [.k (QR ha),.k (Bh _),.f Fq,.k (ZI hp.ln hp.bd),.k (Qcq hp hd h1),.k (Qla hp (NF hp hd h1) h)] rfl
theorem NU{g:U8}(ha:Pb a)(h:Ma a=some g):Pb g:=by
 unfold Ma at h
 split at h
 .injection h with h;subst h;exact Pd ha
 .obtain⟨d,h1,h⟩:=Qd.1 h;obtain⟨b,h1,h⟩:=Qd.1 h;exact oN h
theorem Qos(h:Pb p):Pb (Bt p):=⟨Gs _ _,Qa (O2 p) h.l,RJ h.b⟩
theorem aP:∀{k:Nat} {a b:U8} {l:U9},Pb a->Pb b->xU k a b=some l->l.length≤k/\∀p∈l,Pb p
 | 0,_,_,_,_,_,h=>by cases h
 |
  k+1,a,b,l,ha,hb,h=>by
  simp only[xU]at h
  split at h
  .injection h with h;subst h;exact⟨Ft,λp hp=>by cases hp⟩
  .rename_i h0;obtain⟨r,hr,h⟩:=Qd.1 h;obtain⟨rfl,c⟩:=JD (SH ha hb h0).1 hr;obtain⟨l',h1,h⟩:=Qd.1 h;injection h with h;subst h;obtain⟨i1,i2⟩:=aP hb (Qos c) h1;refine⟨by simp;exact i1,λp hp=>?_⟩;rcases Qm.1 hp with rfl|hp
   .exact hb
   .exact i2 p hp
theorem chain_ok{l:U9}(hp:Pb p)(h:chain p=some l):l.length≤67/\∀q∈l,Pb q:=by
 unfold chain at h;obtain⟨a,h1,h⟩:=Qd.1 h;have ha:=NU hp h1
 split at h
 .cases h
 .obtain⟨d,h2,h⟩:=Qd.1 h;obtain⟨rfl,hd⟩:=qL h2;obtain⟨l',h3,h⟩:=Qd.1 h;injection h with h;subst h;obtain⟨i1,i2⟩:=aP ha (Pd hd) h3;refine⟨Fq,λp hp=>?_⟩;rcases Qm.1 hp with rfl|hp
  .exact ha
  .exact i2 p hp
theorem zZ(l:U9)(p:U8):M5 l++[[pl p]]=M5 (l++[p]):=by simp[M5]
theorem Od(l:U9):(M5 l).length=l.length:=by simp[M5]
theorem Qke{l:U9}(hp:Pb p)(h:chain p=some l):U5 270 [pr p] [.one (.sh [.row (M5 l)]),.oi 0]:=by
 unfold chain at h;obtain⟨a,h1,h⟩:=Qd.1 h;have ha:=NU hp h1
 split at h
 .cases h
 rename_i h0;obtain⟨d,h2,h⟩:=Qd.1 h;obtain⟨rfl,hd⟩:=qL h2;obtain⟨l',h3,h⟩:=Qd.1 h;injection h with h;subst h;refine G7 func270 rfl ?_;refine Ux [.k (AI hp h1),.f (by simpa using h0),.lo,.k (ZI ha.ln ha.bd),.k (Qk1 hd.t hd.ln' hd.bd)] rfl ?_ Fy;obtain⟨z,hz⟩:=nmE (if (Hh a).length=0 then 0 else Ro (Hh a));rw[<-hz];refine sb [(4,.v (pr a)),(7,.v (pr (Gj (Hh a)))),(5,.v (.one (.ow 1 0)))] [.row false 32 1 [[pl a]],.blk 366 [.orow 0 1 none],.blk 35 (Rr z)] rfl rfl ?_;have j:=(aP ha (Pd hd) h3).1;refine U4 (S:=Nat×U9×U8×U8) 3 (λL1 s=>(4,.v (pr s.2.2.1))::(7,.v (pr s.2.2.2))::L1) (λs=>[.row false 32 1 (M5 s.2.1),.blk 366 [.orow 0 1 none],.blk 35 (Rr z)]) (λs=>s.1) (λs=>Pb s.2.2.1/\Pb s.2.2.2/\∃m,xU s.1 s.2.2.1 s.2.2.2=some m/\s.2.1++m=a::l') (66,[a],a,Gj (Hh a)) ⟨ha,Pd hd,l',h3,rfl⟩ rfl rfl λ⟨k,out,A,C⟩ ⟨j1,j2,m,b,j4⟩=>?_
 dsimp only at j1 j2 b j4 ⊢;have n:out.length<=67:=by have:=congrArg List.length j4;simp at this;omega
 cases k with
 |zero=>cases b
 |
  succ k =>
  simp only[xU]at b
  split at b
  .rename_i h0;injection b with b;subst b;rw[Zx]at j4;rw[<-j4];exact Uz [.f (by simpa using h0)] rfl
  .rename_i h0;obtain⟨r,hr,b⟩:=Qd.1 b;obtain⟨rfl,e⟩:=JD (SH j1 j2 h0).1 hr;obtain⟨m',i,g⟩:=Qd.1 b;injection g with g;subst g;refine go tt [.t Fq,.s (sz:=1) (λc hc=>by rw[Qk.1 hc];rfl),.k (Qkb j1 j2 h0),.k (Qj2 e.ln e.bd)] rfl (by simp[Gi,Od];omega) ?_;exact rd (k,out++[C],C,Bt (Rz A C)) Fv ⟨j2,Qos e,m',i,by rw[<-j4];simp⟩ (by rw[zZ];rfl)
structure Tb(t:Tm):Prop where
 p:Pb t.p
 lo:Qb t.lo
 hi:Qb t.hi
theorem Qc0(x y:Int):-1<=Dv x y/\Dv x y<=1:=by unfold Dv;split <;> (try split) <;> omega
theorem JL(a b:Rat):-1<=Hu a b/\Hu a b<=1:=Qc0 _ _
theorem Lz(p:U8)(q:Rat):-1<=Hp p q/\Hp p q<=1:=Qc0 _ _
theorem oJ(p:U8)(q:Rat):-1<=low p q/\low p q<=1:=by unfold low;split <;> exact Lz _ _
variable{q:Rat}
theorem Qb.s31(h:Qb q):Qs 2147483647 q:=h.mono Fp
theorem Qb.s32(h:Qb q):Qs 4294967295 q:=h.mono Fp
variable{p:U8}
theorem DV(hp:Pb p)(a:Qb q):U5 208 [pr p,.agg (rl q)] [.oi (Hp p q)]:=by
 have hm:p.length*(16777216+1)<=64*16777217:=Qz _ hp.l;exact Qb7 hp.t hp.ln hp.b a Fo
theorem Q3a(hp:Pb p)(a:Qb q):U5 208 [pr (Hh p),.agg (rl q)] [.oi (Hp (Hh p) q)]:=by
 have hl:=Qa (P7 p) (show p.length-1<=64 by have:=hp.l;omega);have hm:(Hh p).length*(16777216+1)<=64*16777217:=Qz _ hl;exact Qb7 (Gs _ _) (Xe hl Fo) (LX (t:=6) hp.b hp.l) a Fo
variable{t:Tm}
theorem Am(ht:Tb t):U5 163 [.agg (ta t)] [.one (.bool t.point)] :=
 U0 func163 rfl [.k (Er ht.lo.s31 ht.hi.s31)] rfl
theorem LH(ht:Tb t):U5 162 [.agg (ta t)] [.agg (ta t)] :=
 U0 func162 rfl [.k (Tq ht.p.t ht.p.ln ht.p.bd),.k (Dk ht.lo.s32),.k (Dk ht.hi.s32)] rfl
theorem Qlh(ht:Tb t):U5 99 [.agg (ta t)] [.agg (ta t)]:=U0 func99 rfl [.k (LH ht)] rfl
theorem Qkv(hp:Pb p)(a:Qb q):U5 209 [pr p,.agg (rl q)] [.oi (low p q)]:=by
 unfold low;by_cases h:Hp p q=0
 .rw[if_neg (by simpa using h)];exact U0 func209 rfl [.k (DV hp a),.f (by simpa using h),.k (ZI hp.ln hp.bd),.k (Q3a hp a)] rfl
 .rw[if_pos h];exact U0 func209 rfl [.k (DV hp a),.t (by simpa using h)] rfl
theorem Qkt{lo hi:Rat}(hp:Pb p)(hl:Qb lo)(a:Qb hi):U5 166 [pr p,.agg (rl lo),.agg (rl hi)] [.one (.bool (TG p lo hi))]:=by
 by_cases h:Hp p hi=0
 .exact U0 func166 rfl [.k (DV hp a),.t (by simpa using h)] rfl (by simp[TG,h]) trivial
 .exact U0 func166 rfl [.k (DV hp a),.f (by simpa using h),.k (Qkv hp hl)] rfl (by simp[TG,h]) trivial
theorem Eo(ht:Tb t)(a:Qb q):U5 164 [.agg (ta t),.agg (rl q)] [.oi (Gt t q)]:=by
 have cp:=Am ht;unfold Gt;by_cases h1:t.point=true
 .rw[if_pos h1];exact U0 func164 rfl [.k cp,.t h1,.k (Er ht.lo.s31 a.s31)] rfl
 rw[if_neg h1];have h1:t.point=false:=by simpa using h1
 have b:=Er a.s31 ht.lo.s31;have c:=Er a.s31 ht.hi.s31;by_cases h2:Hu q t.lo<=0
 .rw[if_pos h2];exact U0 func164 rfl [.k cp,.f h1,.k b,.t (by simpa using h2)] rfl
 rw[if_neg h2];by_cases h3:0<Hu q t.hi
 .rw[if_pos h3];exact U0 func164 rfl [.k cp,.f h1,.k b,.f (by simpa using h2),.k c,.t (by simpa using h3)] rfl
 rw[if_neg h3];by_cases h4:Hp t.p q=0
 .rw[if_pos h4];exact U0 func164 rfl [.k cp,.f h1,.k b,.f (by simpa using h2),.k c,.f (by simpa using h3),.k (DV ht.p a),.t (by simpa using h4)] rfl
 rw[if_neg h4];by_cases h5:Hp t.p q=low t.p t.lo
 .rw[if_pos h5];exact U0 func164 rfl [.k cp,.f h1,.k b,.f (by simpa using h2),.k c,.f (by simpa using h3),.k (DV ht.p a),.f (by simpa using h4),.k (Qkv ht.p ht.lo),.t (by simpa using h5)] rfl
 .rw[if_neg h5];exact U0 func164 rfl [.k cp,.f h1,.k b,.f (by simpa using h2),.k c,.f (by simpa using h3),.k (DV ht.p a),.f (by simpa using h4),.k (Qkv ht.p ht.lo),.f (by simpa using h5)] rfl
theorem Qth(t:Tm)(q:Rat):-1<=Gt t q/\Gt t q<=1:=by
 unfold Gt;have:=JL t.lo q
 repeat' split
 all_goals omega
theorem Qtq(q:Rat):0<(q.den:Int):=by have:=q.den_pos;omega
theorem Qw6{a b:Rat}(ha:Qb a)(hb:Qb b):U5 255 [.agg (rl a),.agg (rl b)] [.agg (rl (NY a b))]:=by
 have h1:Gm (a.num*(b.den:Int))<=33554432:=Qa (G9 _ _) (by have:=ha.1;have:=hb.2;omega);have h2:Gm (b.num*(a.den:Int))<=33554432:=Qa (G9 _ _) (by have:=hb.1;have:=ha.2;omega);have h3:Gm ((a.den:Int)*(b.den:Int))<=33554432:=Qa (G9 _ _) (by have:=ha.2;have:=hb.2;omega);have h4:Gm (2:Int)<=2:=Fp;have h5:Gm (a.num*(b.den:Int)+b.num*(a.den:Int))<=33554433:=Qa (YZ _ _) Fo;have c:Gm ((a.den:Int)*(b.den:Int)*2)<=33554434:=Qa (G9 _ _) Fo;have h0:(a.den:Int)*(b.den:Int)*2≠0:=by
  have:=W7 (Qtq a) (Qtq b);omega
 exact U0 func255 rfl [.k (uK ha.s31 hb.s31),.k (GV (Gb _) (Gb _) Fo Fo),.k (AD (z:=2) Fp),.k (Nx (Gb _) (Gb _) Fo Fo),.k (VF h0 Fo Fo)] rfl
theorem uT{a b:Rat}(ha:Qb a)(hb:Qb b):U5 212 [.agg (rl a),.agg (rl b)] [.agg (rl (zM a b))]:=by
 have h1:Gm (a.num*(b.den:Int))<=33554432:=Qa (G9 _ _) (by have:=ha.1;have:=hb.2;omega);have h2:Gm (b.num*(a.den:Int))<=33554432:=Qa (G9 _ _) (by have:=hb.1;have:=ha.2;omega);have h3:Gm ((a.den:Int)*(b.den:Int))<=33554432:=Qa (G9 _ _) (by have:=ha.2;have:=hb.2;omega);have h5:Gm (a.num*(b.den:Int)-b.num*(a.den:Int))<=33554433:=Qa (LI _ _) Fo;have h0:(a.den:Int)*(b.den:Int)≠0:=by
  have:=W7 (Qtq a) (Qtq b);omega
 exact U0 func212 rfl [.k (uK ha.s31 hb.s31),.k (Qkp (Gb _) (Gb _) Fo Fo),.k (VF h0 Fo Fo)] rfl
theorem IN{r:Rat}(h:chq q=some r):r=q/\Qb q:=by
 unfold chq at h
 split at h
 .rename_i hc;injection h with h;exact⟨h.symm,hc⟩
 .cases h
theorem aR{u:Tm}(ht:Tb t)(h:half t=some u):U5 213 [.agg (ta t)] [.agg (ta u)]:=by
 have cp:=Am ht;unfold half at h
 split at h
 .rename_i h1;injection h with h;subst h;exact U0 func213 rfl [.k cp,.t h1] rfl
 .rename_i h1;have h1:t.point=false:=by simpa using h1
  obtain⟨m,a,h⟩:=Qd.1 h;obtain⟨rfl,hm⟩:=IN a;injection h with h;subst h;have c:=Qw6 ht.lo ht.hi;have b:=Eo ht hm;by_cases h2:Gt t (NY t.lo t.hi)=0
  .rw[if_pos h2];exact U0 func213 rfl [.k cp,.f h1,.k c,.k b,.t (by simpa using h2)] rfl
  rw[if_neg h2];by_cases h3:Gt t (NY t.lo t.hi)=-1
  .rw[if_pos h3];exact U0 func213 rfl [.k cp,.f h1,.k c,.k b,.f (by simpa using h2),.t (by simpa using h3)] rfl
  .rw[if_neg h3];exact U0 func213 rfl [.k cp,.f h1,.k c,.k b,.f (by simpa using h2),.f (by simpa using h3)] rfl
theorem tU{u:Tm}(ht:Tb t)(h:half t=some u):Tb u:=by
 unfold half at h
 split at h
 .injection h with h;subst h;exact ht
 .obtain⟨m,a,h⟩:=Qd.1 h;obtain⟨rfl,hm⟩:=IN a;injection h with h;subst h
  repeat' split
  .exact⟨ht.p,hm,hm⟩
  .exact⟨ht.p,ht.lo,hm⟩
  .exact⟨ht.p,hm,ht.hi⟩
variable{z:Int}
theorem JH(h:Gm z<=4294967296):U5 247 [.one (mg z)] [.oi (Gm z:Int)]:=by
 have h1:=eL (l:=He z.natAbs) (A4 _) (by rw[Re];exact h);rw[Re]at h1;exact h1
theorem zU{i:Nat}(h:p[i]? = some z):Rm (p.take (i+1))=max (Rm (p.take i)) (Gm z):=by
 unfold Rm;rw[List.take_succ,h,Option.toList_some,List.foldl_append];rfl
theorem Bu{p:U8}{s:Nat}(h:Bd s p):∀i,Rm (p.take i)<=s
 | 0=>by simp[Rm]
 |
  i+1=>by
  cases hz:p[i]? with
  |
   none =>
   rw[Qo (by have:=J6.1 hz;omega),<-Qo (l:=p) (i:=i) (by have:=J6.1 hz;omega)];exact Bu h i
  |some z=>rw[zU hz];have:=Bu h i;have:=Qjc h hz;omega
theorem uS(hp:Pb p):U5 253 [pr p] [.oi (Rm p:Int)]:=by
 have hl:=hp.l;refine G7 func253 rfl ?_;refine Ux [] rfl ?_;refine U4 (S:=Nat) 0 (λL1 i=>(8,.v (.oi i))::(3,.v (.oi (Rm (p.take i):Int)))::L1) (λ_=>[]) (λi=>p.length-i) (λi=>i<=p.length) 0 (Qj _) rfl rfl λi hi=>?_
 by_cases a:i<p.length
 .have hg:=S9 a;have hz:=Gz hp.b i;have hs:=zU hg;refine Uy [.t Fq,.x (Ni hg),.k (JH Fo),.r 16 (eI (b:=(Rm (p.take (i+1)):Int)) (by rw[hs];omega))] rfl ?_;exact rd (i+1) Fo a rfl
 .obtain rfl:i=p.length:=Fo;rw[Q6];exact Uz [.f Ft] rfl
theorem Qta{a:Tm}{b:Tm}(ha:Tb a)(hb:Tb b):U5 211 [.agg (ta a),.agg (ta b)] [.oi (Be a b:Nat)]:=by
 have l1:=ha.p.l;have l2:=hb.p.l;have b1:=ha.lo.1;have i:=ha.hi.1;have m:=hb.lo.1;have h:=hb.hi.1;have g:Rm a.p<=16777216:=by have:=Bu ha.p.b a.p.length;rwa[Q6]at this
 have j:Rm b.p<=16777216:=by have:=Bu hb.p.b b.p.length;rwa[Q6]at this
 obtain⟨N,d⟩:=nmE (4*(a.p.length+b.p.length));obtain⟨S,e⟩:=nmE (Rm a.p+Rm b.p+(a.p.length+b.p.length)+8);have f:N*S<=512*33554568:=Zf Fo Fo;have h0:(N:Int)*(S:Int)=((N*S:Nat):Int):=(Vw _ _).symm;have c:Be a b=64+2*(Gm a.lo.num+Gm a.hi.num+Gm b.lo.num+Gm b.hi.num)+N*S:=by rw[d,e];rfl
 rw[c];exact U0 func211 rfl [.k (JH (z:=a.lo.num) Fo),.k (JH (z:=a.hi.num) Fo),.k (JH (z:=b.lo.num) Fo),.k (JH (z:=b.hi.num) Fo),.r 41 (eI (b:=(N:Int)) (by rw[d];simp)),.k (uS ha.p),.k (uS hb.p),.r 51 (eI (b:=(S:Int)) (by rw[e];simp)),.r 52 (eI (b:=((N*S:Nat):Int)) h0)] rfl Ft (by rw[h0];simp[Gi];omega)
def Qba(p:U8)(a:Tm):Nat:=64+2*(Gm a.lo.num+Gm a.hi.num)+4*(a.p.length+p.length)*(Rm a.p+Rm p+(a.p.length+p.length)+8)
theorem Qb0:U5 247 [lr []] [.oi 0]:=eL (l:=[]) (by simp[Sm]) Fp
theorem Qle{a:Tm}(ha:Tb a)(hp:Pb p):U5 211 [.agg (ta a),.agg ([pl p,.bool false,.row [],.bool false,.row [],.bool false,.row [],.bool false,.row []])] [.oi (Qba p a:Nat)]:=by
 have l1:=ha.p.l;have l2:=hp.l;have b1:=ha.lo.1;have h:=ha.hi.1;have g:Rm a.p<=16777216:=by have:=Bu ha.p.b a.p.length;rwa[Q6]at this
 have i:Rm p<=16777216:=by have:=Bu hp.b p.length;rwa[Q6]at this
 obtain⟨N,e⟩:=nmE (4*(a.p.length+p.length));obtain⟨S,d⟩:=nmE (Rm a.p+Rm p+(a.p.length+p.length)+8);have f:N*S<=512*33554568:=Zf Fo Fo;have h0:(N:Int)*(S:Int)=((N*S:Nat):Int):=(Vw _ _).symm;have c:Qba p a=64+2*(Gm a.lo.num+Gm a.hi.num)+N*S:=by rw[e,d];rfl
 rw[c];exact U0 func211 rfl [.k (JH (z:=a.lo.num) Fo),.k (JH (z:=a.hi.num) Fo),.k Qb0,.k Qb0,.r 41 (eI (b:=(N:Int)) (by rw[e];simp)),.k (uS ha.p),.k (uS hp),.r 51 (eI (b:=(S:Int)) (by rw[d];simp)),.r 52 (eI (b:=((N*S:Nat):Int)) h0)] rfl Ft (by rw[h0];simp[Gi];omega)
def Oi(sg:U8->Int)(l:U9)(i:Nat):Nat×Int:=(l.take i).foldl (Pf sg) (0,0)
theorem xJ{sg:U8->Int}(hs:∀p,-1<=sg p/\sg p<=1)(l:U9):∀i,(Oi sg l i).1<=i/\-1<=(Oi sg l i).2/\(Oi sg l i).2<=1
 | 0=>⟨Ql _,show(-1:Int)<=0 by decide,show(0:Int)<=1 by decide⟩
 |
  i+1=>by
  obtain⟨h1,h2,h3⟩:=xJ hs l i;cases h:l[i]? with
  |
   none =>
   have:Oi sg l (i+1)=Oi sg l i:=by unfold Oi;rw[List.take_of_length_le (by have:=List.getElem?_eq_none_iff.1 h;omega),List.take_of_length_le (List.getElem?_eq_none_iff.1 h)]
   rw[this];omega
  |
   some p =>
   have:Oi sg l (i+1)=Pf sg (Oi sg l i) p:=Ph _ _ _ h;rw[this];have:=hs p;unfold Pf
   split
   .omega
   .dsimp only;split <;> omega
variable{l:U9}
theorem Qtd{fid:Nat}{l1:Fe}{sg:U8->Int}(hl:l.length≤1000)(hs:∀p,-1≤sg p/\sg p≤1)(h:∀p∈l,xR prog fid [pr p,.one (.sh l1)] [.oi (sg p)]):U5 305 [.one (.sh [.row (M5 l)]),.one (.fn fid [] [.sh l1])] [.oi (De sg l:Nat)]:=by
 have b:=Od l;refine G7 func305 rfl ?_;refine Ux [] rfl ?_;refine U4 (S:=Nat) 0 (λL1 i=>(15,.v (.oi i))::(5,.v (.oi ((Oi sg l i).1:Int)))::(6,.v (.one (.int .i64 (Oi sg l i).2)))::L1) (λ_=>[]) (λi=>l.length-i) (λi=>i<=l.length) 0 (Qj _) rfl rfl λi hi=>?_
 by_cases a:i<l.length
 .obtain⟨p,hp⟩:=gxE (l:=l) (i:=i) a;have c:Oi sg l (i+1)=Pf sg (Oi sg l i) p:=Ph _ _ _ hp;obtain⟨b1,e,g⟩:=xJ hs l i;have d:=hs p;by_cases h0:sg p=0
  .refine Uy [.t (by simp[b];omega),.x (Sr hp),.k (h p (Qc hp)),.t (by simpa using h0)] rfl ?_;exact rd (i+1) Fo a (by rw[c,show Pf sg (Oi sg l i) p=Oi sg l i from by unfold Pf;rw[if_pos h0]];rfl)
  .by_cases h1:(Oi sg l i).2=-(sg p)
   .refine Uy [.t (by simp[b];omega),.x (Sr hp),.k (h p (Qc hp)),.f (by simpa using h0),.t (by simpa using h1)] rfl ?_;exact rd (i+1) Fo a (by rw[c,show Pf sg (Oi sg l i) p=((Oi sg l i).1+1,sg p) from by unfold Pf;rw[if_neg h0,if_pos h1]];rfl)
   .refine Uy [.t (by simp[b];omega),.x (Sr hp),.k (h p (Qc hp)),.f (by simpa using h0),.f (by simpa using h1)] rfl ?_;exact rd (i+1) Fo a (by rw[c,show Pf sg (Oi sg l i) p=((Oi sg l i).1,sg p) from by unfold Pf;rw[if_neg h0,if_neg h1]];rfl)
 .obtain rfl:i=l.length:=Fo;refine Uz [.f (by simp[b])] rfl ?_ trivial;unfold Oi De;rw[List.take_length]
variable{q:Rat}
theorem Qkn{p:U8}(hp:Pb p)(a:Qb q):U5 306 [pr p,.one (.sh (rl q))] [.oi (Hp p q)]:=U0 func306 rfl [.k (DV hp a)] rfl
theorem Qcc(hl:l.length≤1000)(hp:∀p∈l,Pb p)(a:Qb q):U5 294 [.one (.sh [.row (M5 l)]),.agg (rl q)] [.oi (Mw l q:Nat)] :=
 U0 func294 rfl [.k (Qtd (fid:=306) (l1:=rl q) (sg:=λp=>Hp p q) hl (λp=>Lz p q) λp h=>Qkn (hp p h) a)] rfl
theorem Df{sg:U8->Int}(hs:∀p,-1<=sg p/\sg p<=1)(l:U9):De sg l<=l.length:=by
 have:=(xJ hs l l.length).1;unfold Oi at this;rwa[List.take_length]at this
theorem jH{lo hi:Rat}(hl:l.length≤1000)(hp:∀p∈l,Pb p)(ql:Qb lo)(qh:Qb hi):U5 271 [.one (.sh [.row (M5 l)]),.agg (rl lo),.agg (rl hi)] [.oi (Hw l lo hi)]:=by
 have b1:Mw l lo<=l.length:=Df (λp=>Lz p lo) l;have b:Mw l hi<=l.length:=Df (λp=>Lz p hi) l;have a:=Er qh.s31 ql.s31;unfold Hw;by_cases h:Hu hi lo<0
 .rw[if_pos h];exact U0 func271 rfl [.k a,.t (by simpa using h)] rfl
 .rw[if_neg h];exact U0 func271 rfl [.k a,.f (by simpa using h),.k (Qcc hl hp ql),.k (Qcc hl hp qh)] rfl rfl Fw
def zTm:Fe:=[.nils,.bool false,.nils,.bool false,.nils,.bool false,.nils,.bool false,.nils]
theorem Qid{a b:Tm}(ha:Tb a)(hb:Tb b):Be a b<=17179938816+200000000:=by
 have l1:=ha.p.l;have l2:=hb.p.l;have b1:=ha.lo.1;have c:=ha.hi.1;have g:=hb.lo.1;have e:=hb.hi.1;have d:Rm a.p<=16777216:=by have:=Bu ha.p.b a.p.length;rwa[Q6]at this
 have f:Rm b.p<=16777216:=by have:=Bu hb.p.b b.p.length;rwa[Q6]at this
 have:4*(a.p.length+b.p.length)*(Rm a.p+Rm b.p+(a.p.length+b.p.length)+8)<=512*33554568:=Zf Fo Fo;unfold Be;omega
theorem Qvi{a b:Rat}(ha:Qb a)(hb:Qb b):Qs 2147483647 (zM a b):=by
 have h1:Gm (a.num*(b.den:Int))<=33554432:=Qa (G9 _ _) (by have:=ha.1;have:=hb.2;omega);have h2:Gm (b.num*(a.den:Int))<=33554432:=Qa (G9 _ _) (by have:=hb.1;have:=ha.2;omega);have h3:Gm ((a.den:Int)*(b.den:Int))<=33554432:=Qa (G9 _ _) (by have:=ha.2;have:=hb.2;omega);have h5:Gm (a.num*(b.den:Int)-b.num*(a.den:Int))<=33554433:=Qa (LI _ _) Fo;exact(Qs.divInt (s:=33554433) h5 Fo Fo).mono Fo
theorem uV{a b:Tm}{r:Tm×Tm×Int}(ha:Tb a)(hb:Tb b)(h:xP (Be a b) a b=some r):U5 167 [.agg (ta a),.agg (ta b)] [.agg (ta r.1),.agg (ta r.2.1),.oi r.2.2]:=by
 have C:=Qid ha hb;refine G7 func167 rfl ?_;refine Ux [.k (Qta ha hb)] rfl ?_;obtain⟨n,hn⟩:=nmE (Be a b);rw[<-hn]at h C ⊢;refine sb [(10,.v (.oi 0)),(9,.v (.oi n)),(5,.v (.one (.ow 3 0))),(4,.v (.one (.ow 2 0))),(3,.v (.one (.ow 1 0))),(2,.v (.one (.ow 0 0)))] [.blk 72 (ta a),.blk 72 (ta b),.blk 72 zTm,.blk 72 zTm] rfl rfl ?_;refine U4 (S:=Nat×Tm×Tm) 4 (λL1 s=>(10,.v (.oi (s.1:Int)))::L1) (λs=>[.blk 72 (ta s.2.1),.blk 72 (ta s.2.2),.blk 72 zTm,.blk 72 zTm]) (λs=>n-s.1) (λs=>s.1<=n/\Tb s.2.1/\Tb s.2.2/\xP (n-s.1) s.2.1 s.2.2=some r) (0,a,b) ⟨Qj _,ha,hb,h⟩ rfl rfl λ⟨i,u,v⟩ ⟨j1,j2,j3,j4⟩=>?_
 dsimp only at j1 j2 j3 j4 ⊢;by_cases hi:i<n
 .obtain⟨k,I⟩:∃k,n-i=k+1:=⟨n-i-1,Fo⟩;have w:n-(i+1)=k:=Fo;rw[I]at j4;have c:=Er j2.hi.s31 j3.lo.s31;have j:=Er j3.hi.s31 j2.lo.s31;have e:=Am j2;have pv:=Am j3;have B:decide ((i:Int)<(n:Int))=true:=Fq;simp only[xP]at j4;refine Ux [.t B] rfl ?_;refine ct 3 (S:=Unit) (λ_=>[(10,.v (.oi i)),(9,.v (.oi n)),(5,.v (.one (.ow 3 0))),(4,.v (.one (.ow 2 0))),(3,.v (.one (.ow 1 0))),(2,.v (.one (.ow 0 0)))]) (λ_=>[.blk 72 (ta u),.blk 72 (ta v),.blk 72 zTm,.blk 72 zTm]) (λ_=>¬Ak u v=true/\¬Ak v u=true) rfl ?_ ?_
  .have m:Ak u v=(decide (Hu u.hi v.lo<=0) && !(u.point && v.point && decide (Hu u.hi v.lo=0))):=by
    unfold Ak;cases u.point <;> cases v.point <;> simp
   have p:Ak v u=(decide (Hu v.hi u.lo<=0) && !(u.point && v.point && decide (Hu v.hi u.lo=0))):=by
    unfold Ak;cases u.point <;> cases v.point <;> simp
   obtain⟨a0,l⟩:∃b,decide (Hu u.hi v.lo<=0)=b:=⟨_,rfl⟩;obtain⟨b0,q⟩:∃b,decide (Hu v.hi u.lo<=0)=b:=⟨_,rfl⟩;obtain⟨p0,d⟩:∃b,u.point=b:=⟨_,rfl⟩;obtain⟨H,o⟩:∃b,v.point=b:=⟨_,rfl⟩;obtain⟨J,A⟩:∃b,decide (Hu u.hi v.lo=0)=b:=⟨_,rfl⟩;obtain⟨E,z⟩:∃b,decide (Hu v.hi u.lo=0)=b:=⟨_,rfl⟩;rw[l,d,o,A]at m;rw[q,d,o,z]at p;have r1:Ak u v=true->(u,v,-1)=r:=λh=>by rw[if_pos h]at j4;injection j4
   have r2:¬Ak u v=true->Ak v u=true->(u,v,1)=r:=λh K=>by rw[if_neg h,if_pos K]at j4;injection j4
   clear j4;cases a0
   .cases b0
    .exact go tt [.k c,.g 19 false l,.f rfl,.k j,.g 45 false q,.f rfl] rfl trivial (rc () ⟨by rw[m];simp,by rw[p];simp⟩ rfl)
    .cases p0
     .obtain rfl:=r2 (by rw[m];simp) (by rw[p];rfl);exact Uz [.k c,.g 19 false l,.f rfl,.k j,.g 45 true q,.k e,.g 48 false d,.g 52 false rfl,.t rfl] rfl
     .cases H
      .obtain rfl:=r2 (by rw[m];simp) (by rw[p];rfl);exact Uz [.k c,.g 19 false l,.f rfl,.k j,.g 45 true q,.k e,.g 48 true d,.k pv,.g 52 false o,.t rfl] rfl
      .cases E
       .obtain rfl:=r2 (by rw[m];simp) (by rw[p];rfl);exact Uz [.k c,.g 19 false l,.f rfl,.k j,.g 45 true q,.k e,.g 48 true d,.k pv,.g 52 true o,.k j,.t (by simpa using z)] rfl
       .exact go tt [.k c,.g 19 false l,.f rfl,.k j,.g 45 true q,.k e,.g 48 true d,.k pv,.g 52 true o,.k j,.f (by simpa using z)] rfl trivial (rc () ⟨by rw[m];simp,by rw[p];simp⟩ rfl)
   .cases p0
    .obtain rfl:=r1 (by rw[m];rfl);exact Uz [.k c,.g 19 true l,.k e,.g 22 false d,.g 26 false rfl,.t rfl] rfl
    .cases H
     .obtain rfl:=r1 (by rw[m];rfl);exact Uz [.k c,.g 19 true l,.k e,.g 22 true d,.k pv,.g 26 false o,.t rfl] rfl
     .cases J
      .obtain rfl:=r1 (by rw[m];rfl);exact Uz [.k c,.g 19 true l,.k e,.g 22 true d,.k pv,.g 26 true o,.k c,.t (by simpa using A)] rfl
      .cases b0
       .exact go tt [.k c,.g 19 true l,.k e,.g 22 true d,.k pv,.g 26 true o,.k c,.f (by simpa using A),.k j,.g 45 false q,.f rfl] rfl trivial (rc () ⟨by rw[m];simp,by rw[p];simp⟩ rfl)
       .cases E
        .obtain rfl:=r2 (by rw[m];simp) (by rw[p];rfl);exact Uz [.k c,.g 19 true l,.k e,.g 22 true d,.k pv,.g 26 true o,.k c,.f (by simpa using A),.k j,.g 45 true q,.k e,.g 48 true d,.k pv,.g 52 true o,.k j,.t (by simpa using z)] rfl
        .exact go tt [.k c,.g 19 true l,.k e,.g 22 true d,.k pv,.g 26 true o,.k c,.f (by simpa using A),.k j,.g 45 true q,.k e,.g 48 true d,.k pv,.g 52 true o,.k j,.f (by simpa using z)] rfl trivial (rc () ⟨by rw[m];simp,by rw[p];simp⟩ rfl)
  .rintro _ ⟨n1,n2⟩
   rw[if_neg n1,if_neg n2]at j4;have F:∀{x y:Rat},Qb x->Qb y->Qs 2147483647 (zM x y):=λh1 h2=>Qvi h1 h2
   have G:=Er (F j2.hi j2.lo) (F j3.hi j3.lo);by_cases D:0<=Hu (zM u.hi u.lo) (zM v.hi v.lo)
   .rw[if_pos D]at j4;obtain⟨x,x1,x2⟩:=Qd.1 j4;refine Uy [.k (uT j2.hi j2.lo),.k (uT j3.hi j3.lo),.k G,.t (by simpa using D),.k (aR j2 x1)] rfl ?_;exact rd (i+1,x,v) Fv ⟨hi,tU j2 x1,j3,by dsimp only;rw[w];exact x2⟩ rfl
   .rw[if_neg D]at j4;obtain⟨x,x1,x2⟩:=Qd.1 j4;refine Uy [.k (uT j2.hi j2.lo),.k (uT j3.hi j3.lo),.k G,.f (by simpa using D),.k (aR j3 x1)] rfl ?_;exact rd (i+1,u,x) Fv ⟨hi,j2,tU j3 x1,by dsimp only;rw[w];exact x2⟩ rfl
 .obtain rfl:i=n:=Fo;rw[K0]at j4;simp only[xP]at j4;injection j4 with j4;subst j4;exact Uz [.f Ft] rfl
theorem Qs9{a b:Rat}(ha:Qb a)(hb:Qb b):U5 37 [.agg (rl a),.one (.row [rl b])] [.agg (rl (if 0<Hu b a then b else a))]:=by
 have d:=LG (Gb a.num) (Gb (a.den:Int)) ha.s32.1 ha.s32.2;have cb:=LG (Gb b.num) (Gb (b.den:Int)) hb.s32.1 hb.s32.2;rw[Mk]at d cb;have c:=Er hb.s31 ha.s31;refine G7 func37 rfl ?_;refine Ux [.k d] rfl ?_;refine U4 (S:=Nat) 3 (λL1 i=>(12,.v (.oi i))::L1) (λi=>[.blk 41 (rl a),.blk 41 [.bool false,.nils,.bool false,.nils],.blk 41 (rl (if i=0 then a else if 0<Hu b a then b else a))]) (λi=>1-i) (λi=>i<=1) 0 (Qj _) rfl rfl λi hi=>?_
 rcases(show i=0\/i=1 by omega)with rfl|rfl
 .by_cases h:0<Hu b a
  .refine Ux [.t rfl,.x (i:=0) (xs:=rl b) rfl,.k c,.t (by simpa using h),.k cb] rfl ?_ Fy;exact rd 1 Fo Fo (by rw[if_pos h];rfl)
  .refine Ux [.t rfl,.x (i:=0) (xs:=rl b) rfl,.k c,.f (by simpa using h)] rfl ?_ Fy;exact rd 1 Fo Fo (by rw[if_neg h];rfl)
 .exact Uz [.f rfl] rfl
theorem GZ{a b:Tm}{c:Int}(ha:Tb a)(hb:Tb b)(h:RE a b=some c):U5 98 [.agg (ta a),.agg (ta b)] [.oi c]:=by
 have q:=LH ha;have cb:=LH hb;have n:=Am ha;have pb:=Am hb;unfold RE at h;by_cases h1:a.point=true
 .rw[if_pos h1]at h;injection h with h;subst h;have:=Qth b a.lo;exact U0 func98 rfl [.k q,.k cb,.k n,.t h1,.k (Eo hb ha.lo)] rfl rfl Fw
 rw[if_neg h1]at h;have h1:a.point=false:=by simpa using h1
 by_cases h2:b.point=true
 .rw[if_pos h2]at h;injection h with h;subst h;exact U0 func98 rfl [.k q,.k cb,.k n,.f h1,.k pb,.t h2,.k (Eo ha hb.lo)] rfl
 rw[if_neg h2]at h;have h2:b.point=false:=by simpa using h2
 obtain⟨lo,i⟩:=nmE (if 0<Hu b.lo a.lo then b.lo else a.lo);obtain⟨hi,d⟩:=nmE (if Hu b.hi a.hi<0 then b.hi else a.hi);have h:(if Hu lo hi<0 then(rH a.p b.p).bind λg=>if 1<g.length/\TG g lo hi=true then some 0 else(xP (Be a b) a b).bind λr=>some r.2.2 else(xP (Be a b) a b).bind λr=>some r.2.2)=some c:=by rw[i,d];exact h
 have j:Qb lo:=by rw[i];split;exact hb.lo;exact ha.lo
 have l:Qb hi:=by rw[d];split;exact hb.hi;exact ha.hi
 have s:=Qs9 ha.lo hb.lo;rw[<-i]at s;have m:=Er hb.hi.s31 ha.hi.s31;have e:=Er j.s31 l.s31;refine G7 func98 rfl ?_;refine Ux [.k q,.k cb,.k n,.f h1,.k pb,.f h2,.k s] rfl ?_;refine ct 2 (S:=Unit) (λ_=>[(6,.v (.one (.ow 3 0))),(5,.v (.one (.ow 2 0))),(4,.v (.oi 0)),(3,.v (.one (.ow 1 0))),(2,.v (.one (.ow 0 0)))]) (λ_=>[.blk 72 (ta a),.blk 72 (ta b),.blk 41 (rl lo),.blk 41 (rl hi)]) (λ_=>True) rfl ?_ ?_
 .by_cases D:Hu b.hi a.hi<0
  .rw[if_pos D]at d;subst d;exact go tt [.k m,.t (by simpa using D)] rfl trivial (rc () trivial rfl)
  .rw[if_neg D]at d;subst d;exact go tt [.k m,.f (by simpa using D)] rfl trivial (rc () trivial rfl)
 .rintro _ _
  by_cases D:Hu lo hi<0
  .rw[if_pos D]at h;obtain⟨g,u,h⟩:=Qd.1 h;have o:=Qj1 ha.p hb.p u;have pg:=Qor ha.p hb.p u;have ch:=Qkt pg j l;by_cases G:1<g.length
   .by_cases R:TG g lo hi=true
    .rw[if_pos ⟨G,R⟩]at h;injection h with h;subst h;exact Uz [.k e,.t (by simpa using D),.k o,.k (Bh g),.g 58 true Fq,.k ch,.t R] rfl
    .rw[if_neg λh=>R h.2]at h;obtain⟨r,r1,h⟩:=Qd.1 h;injection h with h;subst h;exact Uz [.k e,.t (by simpa using D),.k o,.k (Bh g),.g 58 true Fq,.k ch,.f (by simpa using R),.k (uV ha hb r1)] rfl
   .rw[if_neg λh=>G h.1]at h;obtain⟨r,r1,h⟩:=Qd.1 h;injection h with h;subst h;exact Uz [.k e,.t (by simpa using D),.k o,.k (Bh g),.g 58 false Fq,.f rfl,.k (uV ha hb r1)] rfl
  .rw[if_neg D]at h;obtain⟨r,r1,h⟩:=Qd.1 h;injection h with h;subst h;exact Uz [.k e,.f (by simpa using D),.k (uV ha hb r1)] rfl
theorem Qry{p:U8}{a:Tm}{s:Int}(hp:Pb p)(ha:Tb a)(h:FD p a=some s):U5 233 [pr p,.agg (ta a)] [.oi s]:=by
 have m:=LH ha;have q:=Am ha;have j:=Tq hp.t hp.ln hp.bd;unfold FD at h;by_cases h0:p.length=0
 .rw[if_pos h0]at h;injection h with h;subst h;exact U0 func233 rfl [.k j,.k m,.t (by simp;exact Qg h0)] rfl
 rw[if_neg h0]at h;have h0:p≠[]:=λe=>h0 (by rw[e];rfl)
 by_cases h1:a.point=true
 .rw[if_pos h1]at h;injection h with h;subst h;exact U0 func233 rfl [.k j,.k m,.f (by simpa using h0),.k q,.t h1,.k (DV hp ha.lo)] rfl
 rw[if_neg h1]at h;have h1:a.point=false:=by simpa using h1
 obtain⟨g,A,h⟩:=Qd.1 h;have z:=Qj1 hp ha.p A;have pg:=Qor hp ha.p A;have ch:=Qkt pg ha.lo ha.hi;by_cases G:1<g.length/\TG g a.lo a.hi=true
 .rw[if_pos G]at h;injection h with h;subst h;exact U0 func233 rfl [.k j,.k m,.f (by simpa using h0),.k q,.f h1,.k z,.k (Bh g),.g 29 true Fq,.k ch,.t G.2] rfl
 rw[if_neg G]at h;obtain⟨c,w,h⟩:=Qd.1 h;obtain⟨u,r,h⟩:=Qd.1 h;injection h with h;subst h;obtain⟨cl,call⟩:=chain_ok hp w;obtain⟨n,hn⟩:=nmE (64+2*(Gm a.lo.num+Gm a.hi.num)+4*(a.p.length+p.length)*(Rm a.p+Rm p+(a.p.length+p.length)+8));have cst:=Qle ha hp;rw[show Qba p a=n from hn.symm]at cst;rw[<-hn]at r;have E:n<=17179938816+200000000:=by
  have l1:=ha.p.l;have l2:=hp.l;have b1:=ha.lo.1;have I:=ha.hi.1;have H:Rm a.p<=16777216:=by have:=Bu ha.p.b a.p.length;rwa[Q6]at this
  have J:Rm p<=16777216:=by have:=Bu hp.b p.length;rwa[Q6]at this
  have:4*(a.p.length+p.length)*(Rm a.p+Rm p+(a.p.length+p.length)+8)<=512*33554568:=Zf Fo Fo;omega
 refine G7 func233 rfl ?_;refine Ux [.k j,.k m,.f (by simpa using h0),.k q,.f h1,.k z] rfl ?_;refine ct 2 (S:=Unit) (λ_=>[(3,.v (.one (.ow 0 0))),(0,.v (pr p))]) (λ_=>[.blk 72 (ta a)]) (λ_=>True) rfl ?_ ?_
 .by_cases F:1<g.length
  .exact go tt [.k (Bh g),.g 29 true Fq,.k ch,.f (by simpa using λh=>G ⟨F,h⟩)] rfl trivial (rc () trivial rfl)
  .exact go tt [.k (Bh g),.g 29 false Fq,.f rfl] rfl trivial (rc () trivial rfl)
 rintro _ _
 refine Ux [.k (Qke hp w),.k cst] rfl ?_;refine U4 (S:=Nat×Tm) 1 (λL1 s=>(46,.v (.oi (s.1:Int)))::L1) (λs=>[.blk 72 (ta s.2)]) (λs=>n-s.1) (λs=>s.1<=n/\Tb s.2/\sgF c (n-s.1) s.2=some u) (0,a) ⟨Qj _,ha,r⟩ rfl rfl λ⟨i,x⟩ ⟨j1,j2,j3⟩=>?_
 dsimp only at j1 j2 j3 ⊢;by_cases hi:i<n
 .obtain⟨k,D⟩:∃k,n-i=k+1:=⟨n-i-1,Fo⟩;have o:n-(i+1)=k:=Fo;rw[D]at j3;simp only[sgF]at j3;have px:=Am j2;have cb:=jH Fo call j2.lo j2.hi;have d:decide ((i:Int)<(n:Int))=true:=Fq;by_cases X:x.point=true
  .rw[if_pos (.inl X)]at j3;injection j3 with j3;subst j3;exact Uz [.t d,.k px,.g 50 true X,.t rfl,.k (DV hp j2.hi)] rfl
  .have B:x.point=false:=by simpa using X
   by_cases Z:Hw c x.lo x.hi=0
   .rw[if_pos (.inr Z)]at j3;injection j3 with j3;subst j3;exact Uz [.t d,.k px,.g 50 false B,.k cb,.t (by simpa using Z),.k (DV hp j2.hi)] rfl
   .rw[if_neg (by rintro (h|h);exact X h;exact Z h)]at j3;obtain⟨v,y,C⟩:=Qd.1 j3;refine Uy [.t d,.k px,.g 50 false B,.k cb,.f (by simpa using Z),.k (aR j2 y)] rfl ?_;exact rd (i+1,v) Fv ⟨hi,tU j2 y,by dsimp only;rw[o];exact C⟩ rfl
 .obtain rfl:i=n:=Fo;rw[K0]at j3;simp only[sgF]at j3;injection j3 with j3;subst j3;exact Uz [.f Ft,.k (DV hp j2.hi)] rfl
abbrev tas(l:List Tm):LV:=.row (l.map λt=>ta t)
variable{l:List Tm}
theorem EN{i:Nat}{t:Tm}(h:l[i]? = some t):(l.map λt=>ta t)[i]? = some (ta t):=Ra h
def zTr:Fe:=[.row [],.bool false,.row [],.bool false,.row [],.bool false,.row [],.bool false,.row []]
theorem AN:U5 48 [.one (.row [])] [.agg zTr,.one (.bool false)]:=U0 func48 rfl [.t rfl] rfl
theorem Me{b:Tm}{m:Tm}(hb:Tb b)(hl:∀t∈l,Tb t)(hn:l.length≤1000000)(h:O1 b l=some m):U5 48 [.one (tas (b::l))] [.agg (ta m),.one (.bool true)]:=by
 refine G7 func48 rfl ?_;refine go tt [.f Fq,.x (i:=0) (xs:=ta b) rfl,.i 1] rfl (by simp[Gi];exact⟨rfl,λ_ _=>rfl⟩) ?_;refine U4 (S:=Nat×Tm) 2 (λL1 s=>(17,.v (.oi (s.1:Int)))::L1) (λs=>[.blk 72 zTm,.blk 72 (ta s.2)]) (λs=>l.length-s.1) (λs=>s.1<=l.length/\Tb s.2/\O1 s.2 (l.drop s.1)=some m) (0,b) ⟨Qj _,hb,h⟩ rfl rfl λ⟨i,x⟩ ⟨j1,g,d⟩=>?_
 dsimp only at j1 g d ⊢;by_cases hi:i<l.length
 .obtain⟨a,ha⟩:=gxE (l:=l) (i:=i) hi;have j:l.drop i=a::l.drop (i+1):=by
   rw[Zo hi];congr 1;have:=Qf hi;rw[ha]at this;injection this with this;exact this.symm
  rw[j]at d;simp only[O1]at d;obtain⟨c,n,d⟩:=Qd.1 d;have e:=hl a (Qc ha);by_cases hc:c<0
  .rw[if_pos hc]at d;refine Uy [.t Fq,.x (EN ha),.k (GZ e g n),.t (by simpa using hc)] rfl ?_;exact rd (i+1,a) Fv ⟨hi,e,d⟩ rfl
  .rw[if_neg hc]at d;refine Uy [.t Fq,.x (EN ha),.k (GZ e g n),.f (by simpa using hc)] rfl ?_;exact rd (i+1,x) Fv ⟨hi,g,d⟩ rfl
 .obtain rfl:i=l.length:=Fo;rw[Vf]at d;simp only[O1]at d;injection d with d;subst d;exact Uz [.f Ft,.k (Qlh g)] rfl
end Orr
namespace Orq
def Gw(x:Rat):Rat:=if x<0 then -x else x
theorem Tr(x:Rat):0<=Gw x:=by unfold Gw;split <;> grind
variable{x:Rat}
theorem Nj{b:Rat}:Gw x<=b↔-b<=x/\x<=b:=by unfold Gw;split <;> constructor <;> grind
theorem rC{b:Rat}:Gw x<b↔-b<x/\x<b:=by unfold Gw;split <;> constructor <;> grind
theorem Mj(x y:Rat):Gw (x+y)<=Gw x+Gw y:=by unfold Gw;split <;> split <;> split <;> grind
theorem Qe2(x y:Rat):Gw (x-y)=Gw (y-x):=by unfold Gw;split <;> split <;> grind
theorem I3(x:Rat):Gw (-x)=Gw x:=by unfold Gw;split <;> split <;> grind
theorem Sl:Gw 0=0:=Fp
theorem L8(h:x≠0):0<Gw x:=by unfold Gw;split <;> grind
theorem Qvg(h:Gw x=0):x=0:=by unfold Gw at h;split at h <;> grind
theorem Dy{y:Rat}(h1:0<=x)(h2:0<=y):0<=x*y:=Kg h1 h2
theorem ZS{y:Rat}(h1:0<x)(h2:0<y):0<x*y:=Xx h1 h2
theorem Bq{a b c d:Rat}(h0:0<=a)(h1:a<=b)(h2:0<=c)(h3:c<=d):a*c<=b*d:=by
 have f:=Zb h1 h2;have e:=Xb h3 (Zn h0 h1);exact Zn f e
theorem I2(x y:Rat):Gw (x*y)=Gw x*Gw y:=by
 unfold Gw;by_cases h1:x<0 <;> by_cases h2:y<0
 .have:=ZS (x:=-x) (y:=-y) Fu Fu;simp only[h1,h2,if_true];split <;> grind
 .have:=Dy (x:=-x) (y:=y) Fu Fu;simp only[h1,h2,if_true,if_false];split <;> grind
 .have:=Dy (x:=x) (y:=-y) Fu Fu;simp only[h1,h2,if_true,if_false];split <;> grind
 .have:=Dy (x:=x) (y:=y) Fu Fu;simp only[h1,h2,if_false];split <;> grind
theorem Rw{y a b:Rat}(h1:Gw x<=a)(h2:Gw y<=b):Gw (x*y)<=a*b:=by
 rw[I2];exact Bq (Tr x) h1 (Tr y) h2
theorem Ev{y:Rat}(h1:0<x)(h2:0<y):0<x / y:=by rw[Yw];exact ZS h1 (Rat.inv_pos.2 h2)
theorem Hq{y:Rat}(h2:0<y):x / y*y=x:=Zg Fu
theorem Ta{b d:Rat}(hb:0<=b)(hd:0<d):∃e:Rat,0<e/\e<=1/\e*b<d:=by
 have h1:0<d / (b+1):=Ev hd Fu;have h2:d / (b+1)*(b+1)=d:=Hq Fu;rcases Vq (a:=d / (b+1)) (b:=1)with h|h
 .exact⟨d / (b+1),h1,h,by
   have:d / (b+1)*(b+1)=d / (b+1)*b+d / (b+1):=Fu;grind⟩
 .refine⟨1,Fp,Fp,?_⟩;have:1*(b+1)<=d / (b+1)*(b+1):=Zb h Fu;grind
def ev:Fb->Rat->Rat
 | [],_=>0
 |a::p,t=>a+t*ev p t
def dv:Fb->Rat->Rat
 | [],_=>0
 |_::p,t=>ev p t+t*dv p t
def dq:Fb->Rat->Rat->Rat
 | [],_,_=>0
 |_::p,x,y=>ev p x+y*dq p x y
def dd:Fb->Rat->Rat->Rat
 | [],_,_=>0
 |_::p,x,y=>dq p x y+y*dd p x y
theorem yU(x y:Rat):∀p,ev p x-ev p y=(x-y)*dq p x y
 | []=>by simp only[ev,dq];grind
 |a::p=>by have:=yU x y p;simp only[ev,dq];grind
theorem uE(y:Rat):∀p,dq p y y=dv p y
 | []=>rfl
 |a::p=>by simp only[dq,dv,uE y p]
theorem Qxj(x y:Rat):∀p,dq p x y-dv p y=(x-y)*dd p x y
 | []=>by simp only[dv,dq,dd];grind
 |
  a::p=>by
  have h1:=Qxj x y p;have h2:=yU x y p;simp only[dv,dq,dd];grind
theorem Qxn(p:Fb)(x y:Rat):ev p x-ev p y=(x-y)*dv p y+(x-y)*(x-y)*dd p x y:=by
 have h1:=yU x y p;have h2:=Qxj x y p;grind
def mB(R:Rat):Fb->Rat
 | []=>0
 |a::p=>Gw a+R*mB R p
def xE(R:Rat):Fb->Rat
 | []=>0
 |_::p=>mB R p+R*xE R p
def ddB(R:Rat):Fb->Rat
 | []=>0
 |_::p=>xE R p+R*ddB R p
theorem VL{R:Rat}(b:0<=R):∀p,0<=mB R p
 | []=>by simp only[mB];grind
 |a::p=>by have:=Dy b (VL b p);have:=Tr a;simp only[mB];grind
theorem Co{R:Rat}(b:0<=R):∀p,0<=xE R p
 | []=>by simp only[xE];grind
 |a::p=>by have:=Dy b (Co b p);have:=VL b p;simp only[xE];grind
theorem IA{R:Rat}(b:0<=R):∀p,0<=ddB R p
 | []=>by simp only[ddB];grind
 |a::p=>by have:=Dy b (IA b p);have:=Co b p;simp only[ddB];grind
theorem BB{R x:Rat}(hx:Gw x<=R):∀p,Gw (ev p x)<=mB R p
 | []=>by simp only[ev,mB,Sl];grind
 |
  a::p=>by
  have h1:=Mj a (x*ev p x);have h2:=Rw hx (BB hx p);simp only[ev,mB];grind
theorem mF{R x y:Rat}(hx:Gw x<=R)(b:Gw y<=R):∀p,Gw (dq p x y)<=xE R p
 | []=>by simp only[dq,xE,Sl];grind
 |
  a::p=>by
  have h1:=Mj (ev p x) (y*dq p x y);have h2:=Rw b (mF hx b p);have h3:=BB hx p;simp only[dq,xE];grind
theorem Qly{R x y:Rat}(hx:Gw x<=R)(b:Gw y<=R):∀p,Gw (dd p x y)<=ddB R p
 | []=>by simp only[dd,ddB,Sl];grind
 |
  a::p=>by
  have h1:=Mj (dq p x y) (y*dd p x y);have h2:=Rw b (Qly hx b p);have h3:=mF hx b p;simp only[dd,ddB];grind
theorem Q0c{R y:Rat}(hx:Gw x<=R)(a:Gw y<=R)(p:Fb):Gw (ev p x-ev p y)<=Gw (x-y)*xE R p:=by
 rw[yU,I2];exact Bq (Tr _) Qp (Tr _) (mF hx a p)
def Ty:Fb->Fb->Fb
 | [],q=>q
 |a::p,[]=>a::p
 |a::p,b::q=>(a+b)::Ty p q
def Nq(c:Rat)(p:Fb):Fb:=p.map (c * ·)
def Hz:Fb->Fb->Fb
 | [],_=>[]
 |a::p,q=>Ty (Nq a q) (0::Hz p q)
def Cv:Fb->Fb
 | []=>[]
 |_::p=>Ty p (0::Cv p)
theorem Hg(t:Rat):∀p q,ev (Ty p q) t=ev p t+ev q t
 | [],q=>by simp only[Ty,ev];grind
 |a::p,[]=>by simp only[Ty,ev];grind
 |a::p,b::q=>by have:=Hg t p q;simp only[Ty,ev];grind
theorem G8(c t:Rat):∀p,ev (Nq c p) t=c*ev p t
 | []=>by simp only[Nq,X8,ev];grind
 |a::p=>by have:=G8 c t p;simp only[Nq,Xa,ev]at *;grind
theorem Gl(t:Rat):∀p q,ev (Hz p q) t=ev p t*ev q t
 | [],q=>by simp only[Hz,ev];grind
 |a::p,q=>by have:=Gl t p q;simp only[Hz,Hg,G8,ev];grind
theorem Si(t:Rat):∀p,ev (Cv p) t=dv p t
 | []=>rfl
 |a::p=>by have:=Si t p;simp only[Cv,Hg,ev,dv];grind
theorem uI(t:Rat):∀p q,dv (Ty p q) t=dv p t+dv q t
 | [],q=>by simp only[Ty,dv];grind
 |a::p,[]=>by simp only[Ty,dv];grind
 |a::p,b::q=>by have:=uI t p q;have:=Hg t p q;simp only[Ty,dv];grind
theorem MH(c t:Rat):∀p,dv (Nq c p) t=c*dv p t
 | []=>by simp only[Nq,X8,dv];grind
 |a::p=>by have:=MH c t p;have:=G8 c t p;simp only[Nq,Xa,dv]at *;grind
theorem uO(t:Rat):∀p q,dv (Hz p q) t=dv p t*ev q t+ev p t*dv q t
 | [],q=>by simp only[Hz,dv,ev];grind
 |a::p,q=>by have:=uO t p q;have:=Gl t p q;simp only[Hz,uI,MH,dv,ev];grind
theorem Qdg:∀{p:Fb},(∀x∈p,x=0)->∀t,ev p t=0
 | [],_,t=>rfl
 |
  a::p,h,t=>by
  have h1:=Qdg (p:=p) (λx hx=>h x (Qi _ hx)) t;have h2:=h a (Qy ..);simp only[ev,h1,h2];grind
theorem Qda:∀{p:Fb},(∀x∈p,x=0)->∀t,dv p t=0
 | [],_,t=>rfl
 |
  a::p,h,t=>by
  have h0:=λx hx=>h x (Qi _ hx)
  have h1:=Qdg (p:=p) h0 t;have h2:=Qda (p:=p) h0 t;simp only[dv,h1,h2];grind
theorem HC:∀{p:Fb},(∀t,0<t->t<1->ev p t=0)->∀x∈p,x=0
 | [],_=>λx hx=>by cases hx
 |
  a::p,h=>by
  have ha:a=0:=by
   rcases Classical.em (a=0)with h0|h0
   .exact h0
   .obtain⟨e,c,g,i⟩:=Ta (VL (R:=1) Fp p) (L8 h0);obtain⟨f,f1,f2,f3⟩:=Ta (b:=1) (d:=e) Fp c;have h1:=h f f1 Fu;have h2:=BB (R:=1) (x:=f) (by unfold Gw;split <;> grind) p;have h3:=I2 f (ev p f);have h4:Gw f=f:=by unfold Gw;split <;> grind
    have h5:a=-(f*ev p f):=by simp only[ev]at h1;grind
    have j:Gw a=f*Gw (ev p f):=by rw[h5,I3,h3,h4]
    have k:f*Gw (ev p f)<=e*mB 1 p:=Bq (Qq f1) Fu (Tr _) h2;grind
  intro x hx;rcases Qm.1 hx with rfl|hx
  .exact ha
  .refine HC (p:=p) (λt h1 h2=>?_) x hx;have:=h t h1 h2;simp only[ev,ha]at this;have h3:t*ev p t=0:=Fu;rcases Yo.1 h3 with h4|h4
   .grind
   .exact h4
theorem Ql6{p q:Fb}(h:∀t,ev p t=ev q t)(t:Rat):dv p t=dv q t:=by
 have h1:=Qda (p:=Ty p (Nq (-1) q)) (HC λt _ _=>by rw[Hg,G8,h t];grind) t;rw[uI,MH]at h1;grind
def Gu(x:Rat):Int:=if x<0 then -1 else if 0<x then 1 else 0
variable{x:Rat}
theorem Hy:Gu x=0↔x=0:=by
 unfold Gu;constructor
 .intro h;split at h <;> (try split at h) <;> grind
 .intro h;subst h;rfl
theorem Tt:Gu x=1↔0<x:=by
 unfold Gu;constructor
 .intro h;split at h <;> (try split at h) <;> grind
 .intro h;rw[if_neg Fu,if_pos h]
theorem M8:Gu x=-1↔x<0:=by
 unfold Gu;constructor
 .intro h;split at h <;> (try split at h) <;> grind
 .intro h;rw[if_pos h]
theorem Hd(x:Rat):Gu x=-1/\x<0\/Gu x=0/\x=0\/Gu x=1/\0<x:=by
 rcases Vq (a:=x) (b:=0)with h|h
 .rcases Classical.em (x=0)with h0|h0
  .exact .inr (.inl ⟨Hy.2 h0,h0⟩)
  .exact .inl ⟨M8.2 Fu,Fu⟩
 .rcases Classical.em (x=0)with h0|h0
  .exact .inr (.inl ⟨Hy.2 h0,h0⟩)
  .exact .inr (.inr ⟨Tt.2 Fu,Fu⟩)
theorem Mn(x y:Rat):Gu (x*y)=Gu x*Gu y:=by
 rcases Hd x with⟨b,h1⟩|⟨b,h1⟩|⟨b,h1⟩ <;> rcases Hd y with⟨a,h2⟩|⟨a,h2⟩|⟨a,h2⟩ <;> rw[b,a]
 .have:=ZS (x:=-x) (y:=-y) Fu Fu;exact Tt.2 Fu
 .subst h2;exact Hy.2 Fu
 .have:=ZS (x:=-x) (y:=y) Fu Fu;exact M8.2 Fu
 .subst h1;exact Hy.2 Fu
 .subst h1;exact Hy.2 Fu
 .subst h1;exact Hy.2 Fu
 .have:=ZS (x:=x) (y:=-y) Fu Fu;exact M8.2 Fu
 .subst h2;exact Hy.2 Fu
 .exact Tt.2 (ZS h1 h2)
theorem Nw{a b d:Rat}(h1:d<=Gw a)(h2:Gw (b-a)<d):Gu b=Gu a/\Gu a≠0:=by
 rw[rC]at h2;rcases Hd a with⟨e,h⟩|⟨e,h⟩|⟨e,h⟩
 .rw[e,M8];unfold Gw at h1;rw[if_pos h]at h1;exact⟨Fu,Fp⟩
 .subst h;rw[Sl]at h1;grind
 .rw[e,Tt];unfold Gw at h1;rw[if_neg Fu]at h1;exact⟨Fu,Fp⟩
def tc(x:Rat):Int->Fc->Nat
 |_,[]=>0
 |s,p::l=>if Gu (ev p x)=0 then tc x s l else(if s=-(Gu (ev p x))then 1 else 0)+tc x (Gu (ev p x)) l
inductive SCl:List Rat->List Rat->List (List Rat)->Prop
 |base {f g:List Rat} {c:Rat} (hc:c≠0) (hg:∀t,ev g t=c):SCl f g []
 |step {f g h:List Rat} {l:List (List Rat)} {a b:Rat} {q:List Rat} (ha:0<a) (hb:0<b) (he:∀t,a*ev f t=ev q t*ev g t-b*ev h t) (hl:SCl g h l):SCl f g (h::l)
variable{s:Int}{l:Fc}
theorem Qqk{g h:Fb}(a:Gu (ev h x)=-s)(hs:s≠0):tc x s (g::h::l)=1+tc x (-s) l:=by
 have h3:Gu (ev h x)≠0:=Fo;have hv:s=1\/s=-1:=by rcases Hd (ev h x)with⟨e,_⟩|⟨e,_⟩|⟨e,_⟩ <;> omega
 simp only[tc,if_neg h3,a];rcases Hd (ev g x)with⟨e,_⟩|⟨e,_⟩|⟨e,_⟩ <;> rw[e] <;> rcases hv with rfl|rfl <;> simp
theorem PK{p:Fb}(h:Gu (ev p x)≠0):tc x s (p::l)=(if s=-(Gu (ev p x))then 1 else 0)+tc x (Gu (ev p x)) l:=by rw[tc,if_neg h]
theorem Bp{R y e d:Rat}{p:Fb}(hx:Gw x<=R)(b:Gw y<=R)(a:0<=R)(h:Gw (y-x)<=e)(hd:e*xE R p<d):Gw (ev p y-ev p x)<d:=by
 have h1:=Q0c b hx p;have h2:=Zb h (Co a p);grind
theorem vW{a y:Rat}(ha:0<a)(h:a*x<a*y):x<y:=by
 rcases Vq (a:=y) (b:=x)with h'|h'
 .have:=Xb h' (Qq ha);grind
 .rcases Classical.em (x=y)with e|e
  .subst e;grind
  .grind
theorem Q1r{a b d d' B f g h q:Rat}(ha:0<a)(hb:0<b)(dp:0<d)(m:B*d+a*d<b*d')(j:Gw q<=B)(hg:Gw g<d)(e:d'<=Gw h)(he:a*f=q*g-b*h)(l:0<d'):Gu h=-Gu f/\d<=Gw f:=by
 have h4:=Rw j (Qq hg);rw[Nj]at h4;have k:=ZS ha dp;have i:=Xb e (Qq hb);rcases Hd h with⟨s,p⟩|⟨s,p⟩|⟨s,p⟩
 .have:Gw h=-h:=by unfold Gw;rw[if_pos p]
  rw[this]at i;have c:d<f:=vW ha Fu;rw[s,Tt.2 (show 0<f by grind)];exact⟨rfl,by unfold Gw;split <;> grind⟩
 .rw[p,Sl]at e;grind
 .have:Gw h=h:=by unfold Gw;rw[if_neg Fu]
  rw[this]at i;have c:f < -d:=vW ha Fu;rw[s,M8.2 (show f<0 by grind)];exact⟨rfl,by unfold Gw;split <;> grind⟩
theorem min2{a b:Rat}(ha:0<a)(hb:0<b):∃e:Rat,0<e/\e<=a/\e<=b:=by
 rcases Vq (a:=a) (b:=b)with h|h
 .exact⟨a,ha,Qp,h⟩
 .exact⟨b,hb,h,Qp⟩
theorem Hk(a b:Rat):a<=b\/b<a:=by
 rcases Vq (a:=a) (b:=b)with h|h
 .exact .inl h
 .rcases Classical.em (a=b)with e|e
  .exact .inl Fu
  .exact .inr Fu
theorem Q0w{R:Rat}(k:0<=R){f g:Fb}(hc:SCl f g l):∃d e:Rat,0<d/\0<e/\∀x y,Gw x<=R->Gw y<=R->Gw (y-x)<=e ->
 (d<=Gw (ev f x)\/d<=Gw (ev g x))/\(d<=Gw (ev f x)->Gu (ev f y)=Gu (ev f x)/\Gu (ev f x)≠0)/\(d<=Gw (ev g x)->Gu (ev g y)=Gu (ev g x)/\Gu (ev g x)≠0) /\
 (Gu (ev f y)=Gu (ev f x)->Gu (ev f x)≠0->tc x (Gu (ev f x)) (g::l)=tc y (Gu (ev f x)) (g::l)) /\
 (Gu (ev g y)=Gu (ev g x)->Gu (ev g x)≠0->tc x (Gu (ev g x)) l=tc y (Gu (ev g x)) l):=by
 induction hc with
 |
  @base f g c hc hg =>
  have hd:=L8 hc;obtain⟨e,O,V,N⟩:=Ta (Co k f) hd;refine⟨Gw c,e,hd,O,λx y hx r j=>⟨.inr (by rw[hg];exact Qp),λh=>Nw h (Bp hx r k j N),λh=>?_,λ_ _=>?_,λ_ _=>rfl⟩⟩
  .rw[hg,hg];exact⟨rfl,λh=>hc (Hy.1 h)⟩
  .simp only[tc,hg]
 |
  @step f g h l a b q ha hb he hl n =>
  obtain⟨d',e',m,A,n⟩:=n;obtain⟨P,B,_,Q⟩:=Ta (b:=mB R q+a) (d:=b*d') (by have:=VL k q;grind) (ZS hb m);obtain⟨d,dp,E,C⟩:=min2 B m;obtain⟨T,J,_,z⟩:=Ta (Co k f) dp;obtain⟨U,H,_,v⟩:=Ta (Co k g) dp;obtain⟨W,F,h1,h2⟩:=min2 J H;obtain⟨e,ep,h0,h3⟩:=min2 F A;have h1:=Zn h0 h1;have h2:=Zn h0 h2;refine⟨d,e,dp,ep,λx y hx r j=>?_⟩;obtain⟨i1,i2,i3,u,t⟩:=n x y hx r (Zn j h3);have o:Gw (ev g x)<d->d'<=Gw (ev h x)/\Gu (ev h x)=-Gu (ev f x)/\d<=Gw (ev f x):=λhg=>by
   have L:d'<=Gw (ev h x):=by
    rcases i1 with i|i
    .exact absurd (Zn C i) (Jp.2 hg)
    .exact i
   have D:d*(mB R q+a)<=P*(mB R q+a):=Zb E (by have:=VL k q;clear n i1 i2 i3 u t he;grind);have K:mB R q*d+a*d<b*d':=by clear n i1 i2 i3 u t he;grind
   exact⟨L,Q1r ha hb dp K (BB hx q) hg L (he x) m⟩
  have I:d<=Gw (ev f x)->Gu (ev f y)=Gu (ev f x)/\Gu (ev f x)≠0:=λh=>Nw h (Bp hx r k (Zn j h1) z)
  have s:d<=Gw (ev g x)->Gu (ev g y)=Gu (ev g x)/\Gu (ev g x)≠0:=λh=>Nw h (Bp hx r k (Zn j h2) v)
  refine⟨?_,I,s,λS M=>?_,u⟩
  .rcases Hk d (Gw (ev g x))with h|h
   .exact .inr h
   .exact .inl (o h).2.2
  .rcases Hk d (Gw (ev g x))with h|h
   .obtain⟨G,w⟩:=s h;rw[PK (x:=x) (p:=g) w,PK (x:=y) (p:=g) (by rw[G];exact w),G,u G w]
   .obtain⟨h4,h5,_⟩:=o h;obtain⟨D,K⟩:=i3 h4;have t:=t D K;rw[Qqk h5 M,Qqk (D.trans h5) M,<-h5,t]
def Np(p:Fb)(x:Rat):Int:=if Gu (ev p x)≠0 then Gu (ev p x)else Gu (dv p x)
def vv(L:Fc)(x:Rat):Nat:=tc x 0 L
def HL(f:Fb)(L:Fc):Prop:=(∃c:Rat,c≠0/\(∀t,ev f t=c)/\L=[f])\/∃g l,∃k:Rat,0<k/\(∀t,ev g t=k*dv f t)/\SCl f g l/\L=f::g::l
structure Sm(w:List Rat)(x y:Rat):Prop where
 s:Gu (ev w y)=Np w x
 l:Np w y=Np w x
 n:Np w x≠0
variable{p:Fb}{x:Rat}
theorem O3(h:Gu (ev p x)≠0):Np p x=Gu (ev p x):=by unfold Np;rw[if_pos h]
theorem oY(h:Gu (ev p x)=0):Np p x=Gu (dv p x):=by unfold Np;rw[if_neg (by simpa using h)]
theorem dG{y:Rat}(h:Gu (ev p y)=Gu (ev p x))(h0:Gu (ev p x)≠0):Sm p x y:=by
 have h1:=O3 h0;have h2:=O3 (p:=p) (x:=y) (by rw[h];exact h0);exact⟨by rw[h,h1],by rw[h2,h1,h],by rw[h1];exact h0⟩
theorem ZV{f w u:Fb}(h:∀t,ev f t=ev w t*ev u t)(x:Rat):dv f x=dv w x*ev u x+ev w x*dv u x:=by
 rw[<-uO];exact Ql6 (λt=>by rw[h,Gl]) x
theorem Qd6{f w u:Fb}(h:∀t,ev f t=ev w t*ev u t)(hu:Gu (ev u x)≠0):Np f x=Np w x*Gu (ev u x):=by
 by_cases b:Gu (ev w x)=0
 .have a:=Hy.1 b;have c:ev f x=0:=by rw[h,a];grind
  have d:dv f x=dv w x*ev u x:=by rw[ZV h,a];grind
  rw[oY b,oY (Hy.2 c),d,Mn]
 .have c:Gu (ev f x)=Gu (ev w x)*Gu (ev u x):=by rw[h,Mn]
  rw[O3 b,O3 (by rw[c];exact Jw b hu),c]
theorem Q1s{f w u:Fb}{y:Rat}(h:∀t,ev f t=ev w t*ev u t)(hu:Gu (ev u y)=Gu (ev u x))(h0:Gu (ev u x)≠0)(d:Sm f x y):Sm w x y:=by
 have a:=Qd6 h h0;have b:=Qd6 (x:=y) h (by rw[hu];exact h0);have c:Gu (ev f y)=Gu (ev w y)*Gu (ev u y):=by rw[h,Mn]
 obtain⟨s,l,n⟩:=d;rw[hu]at b c;refine⟨?_,?_,λh=>n (by rw[a,h,Y4])⟩
 .rw[c,a]at s;exact Vi h0 s
 .rw[b,a]at l;exact Vi h0 l
theorem tc0{s:Int}{f g:Fb}{l:Fc}(h:Gu (ev g x)=s)(hs:s≠0):tc x 0 (f::g::l)=(if Gu (ev f x)=-s then 1 else 0)+tc x s l:=by
 have hv:s=1\/s=-1:=by rcases Hd (ev g x)with⟨e,_⟩|⟨e,_⟩|⟨e,_⟩ <;> omega
 have hg:Gu (ev g x)≠0:=Fo;rw[tc];rcases Hd (ev f x)with⟨e,_⟩|⟨e,_⟩|⟨e,_⟩ <;> rw[e] <;> rcases hv with rfl|rfl <;> simp[PK hg,h]
theorem qT{R y e d:Rat}(hx:Gw x<=R)(f:Gw y<=R)(g:0<=R)(c:x<y)(h:y-x<=e)(hd:d<=Gw (dv p x))(he:e*ddB R p<d):Gu (ev p y-ev p x)=Gu (dv p x):=by
 have h1:=Qxn p y x;have h2:ev p y-ev p x=(y-x)*(dv p x+(y-x)*dd p y x):=by rw[h1];grind
 have h3:=Rw (x:=y-x) (y:=dd p y x) (a:=e) (b:=ddB R p) (by rw[Nj];constructor <;> grind) (Qly f hx p);have h4:=Nw (b:=dv p x+(y-x)*dd p y x) hd (by
  have:dv p x+(y-x)*dd p y x-dv p x=(y-x)*dd p y x:=Fu;rw[this];exact Jp.1 λh=>absurd (Zn h h3) (Jp.2 he))
 rw[h2,Mn,Tt.2 (show 0<y-x by grind),h4.1,Vn]
def Qiz(f w:Fb)(L:Fc)(x y:Rat):Prop :=
 (vv L x=vv L y/\Sm f x y/\Sm w x y)\/(vv L x=vv L y+1/\Np f x≠0/\Np f y=-Np f x/\Gu (ev f x)=Np f x/\(Gu (ev f y)=0\/Gu (ev f y)=-Np f x))
theorem Qxr{R d:Rat}(a:0<=R)(hd:0<d){f w u:Fb}(h:∀t,ev f t=ev w t*ev u t):∃e:Rat,0<e/\∀x y,Gw x<=R->Gw y<=R->Gw (y-x)<=e->d<=Gw (ev f x)->Sm f x y/\Sm w x y:=by
 obtain⟨v,k,_,i⟩:=Ta (Co a f) hd;obtain⟨o,l,_,c⟩:=Ta (VL a u) hd;obtain⟨s,j,_,g⟩:=Ta (Co a w) l;obtain⟨e,ep,r,q⟩:=min2 k j;refine⟨e,ep,λx y hx n b m=>⟨?_,?_⟩⟩
 .have:=Nw m (Bp hx n a (Zn b r) i);exact dG this.1 this.2
 .have p:o<=Gw (ev w x):=by
   rcases Hk o (Gw (ev w x))with h'|h'
   .exact h'
   .have h5:=Rw (Qq h') (BB hx u);rw[<-h]at h5;exact absurd (Zn m h5) (Jp.2 c)
  have:=Nw p (Bp hx n a (Zn b q) g);exact dG this.1 this.2
theorem loc{R:Rat}(o:0<=R){f w u:Fb}{L:Fc}(hc:HL f L)(h:∀t,ev f t=ev w t*ev u t):∃e:Rat,0<e/\∀x y,Gw x<=R->Gw y<=R->x<y->y-x<=e->Qiz f w L x y:=by
 rcases hc with⟨c,hc,q,rfl⟩|⟨g,l,k,hk,hg,hc,rfl⟩
 .obtain⟨e,ep,h1⟩:=Qxr o (L8 hc) h;refine⟨e,ep,λx y hx v C he=>.inl ⟨?_,h1 x y hx v (by rw[Nj];constructor <;> grind) (by rw[q];exact Qp)⟩⟩;simp only[vv,tc,q]
 .obtain⟨d,e1,dp,U,h1⟩:=Q0w o hc;obtain⟨e2,e2p,h2⟩:=Qxr o dp h;obtain⟨I,D,_,Z⟩:=Ta (b:=k) (d:=d) (Qq hk) dp;obtain⟨e3,P,_,Y⟩:=Ta (IA o f) D;obtain⟨r,A,_,E⟩:=Ta (b:=xE R w+xE R u) (d:=I) (by have:=Co o w;have:=Co o u;grind) D;obtain⟨e4,e4p,_,X⟩:=Ta (Co o w) A;obtain⟨e5,e5p,_,V⟩:=Ta (Co o u) A;obtain⟨a1,T,a11,a12⟩:=min2 U e2p;obtain⟨a2,a2p,a21,a22⟩:=min2 P e4p;obtain⟨a3,a3p,a31,a32⟩:=min2 T a2p;obtain⟨e,ep,b1,b2⟩:=min2 a3p e5p;refine⟨e,ep,λx y hx v C he=>?_⟩;have J:Gw (y-x)<=e:=by rw[Nj];clear h1 h2;constructor <;> grind
  have F:Gw (y-x)<=e1:=by clear h1 h2;grind
  have G:Gw (y-x)<=e2:=by clear h1 h2;grind
  obtain⟨i1,i2,i3,i4,N⟩:=h1 x y hx v F;rcases Hk d (Gw (ev f x))with q|q
  .obtain⟨B,M⟩:=h2 x y hx v G q;obtain⟨Q,W⟩:=i2 q;refine .inl ⟨?_,B,M⟩;have:=i4 Q W;simp only[vv];rw[PK (x:=x) (p:=f) W,PK (x:=y) (p:=f) (by rw[Q];exact W),Q,this]
  .have H:d<=Gw (ev g x):=by
    rcases i1 with i|i
    .exact absurd i (Jp.2 q)
    .exact i
   obtain⟨O,K⟩:=i3 H;have N:=N O K;have hD:I<=Gw (dv f x):=by
    rcases Hk I (Gw (dv f x))with h'|h'
    .exact h'
    .have h5:=Rw (x:=k) (a:=k) (by unfold Gw;split <;> clear h1 h2 <;> grind) (Rat.le_of_lt h');rw[<-hg]at h5;have:k*I=I*k:=Fu;exact absurd (Zn H h5) (Jp.2 (by rw[this];exact Z))
   have hm:=qT hx v o C (by clear h1 h2;grind:y-x<=e3) hD Y;have B:Gu (ev g x)=Gu (dv f x):=by rw[hg,Mn,Tt.2 hk,Vn]
   have M:Gu (ev g y)=Gu (dv f y):=by rw[hg,Mn,Tt.2 hk,Vn]
   obtain⟨s,hs⟩:=nmE (Gu (ev g x));rw[<-hs]at O K N B;rw[O]at M;have v1:=tc0 (f:=f) (l:=l) hs.symm K;have v2:=tc0 (f:=f) (l:=l) O K;rw[<-N]at v2;rw[<-B]at hm;have n:Sm f x y->Sm w x y:=λq=>by
    rcases Hk r (Gw (ev u x))with hu|hu
    .have hu:=Nw hu (Bp hx v o (Zn J b2) V);exact Q1s h hu.1 hu.2 q
    .have n:r<=Gw (ev w x):=by
      rcases Hk r (Gw (ev w x))with h'|h'
      .exact h'
      .have m:=Rw (x:=dv w x) (y:=ev u x) (a:=xE R w) (by rw[<-uE];exact mF hx hx w) (Qq hu);have z:=Rw (x:=ev w x) (y:=dv u x) (b:=xE R u) (Qq h') (by rw[<-uE];exact mF hx hx u);have q3:=Mj (dv w x*ev u x) (ev w x*dv u x);rw[<-ZV h]at q3;have:r*(xE R w+xE R u)=xE R w*r+r*xE R u:=Fu;rw[this]at E;exact absurd (Zn hD (Zn q3 (by clear h1 h2;grind:_<=xE R w*r+r*xE R u))) (Jp.2 E)
     have n:=Nw n (Bp hx v o (Zn J (by clear h1 h2;grind)) X);exact dG n.1 n.2
   have lx:Np f x=if Gu (ev f x)≠0 then Gu (ev f x)else s:=by rw[B];rfl
   have ly:Np f y=if Gu (ev f y)≠0 then Gu (ev f y)else s:=by rw[M];rfl
   clear h1 h2 i1 i2 i3 i4;have S:s=1\/s=-1:=by rcases Hd (ev g x)with⟨e,_⟩|⟨e,_⟩|⟨e,_⟩ <;> omega
   unfold Qiz;simp only[vv,v1,v2];rcases S with rfl|rfl
   .have hm:=Tt.1 hm;rcases Hd (ev f x)with⟨p1,p2⟩|⟨p1,p2⟩|⟨p1,p2⟩
    .rcases Hd (ev f y)with⟨m,z⟩|⟨m,z⟩|⟨m,z⟩
     .rw[p1,m];have j:=dG (p:=f) (x:=x) (y:=y) (by rw[p1,m]) (by rw[p1];decide);exact .inl ⟨rfl,j,n j⟩
     .rw[lx,ly,p1,m];refine .inr ⟨Fq,Fp,Fp,Fp,Fp⟩
     .rw[lx,ly,p1,m];refine .inr ⟨Fq,Fp,Fp,Fp,Fp⟩
    .have m:=Tt.2 (show 0<ev f y by grind);have j:Sm f x y:=⟨by rw[lx,m,p1];rfl,by rw[lx,ly,m,p1];rfl,by rw[lx,p1];decide⟩;rw[p1,m];exact .inl ⟨rfl,j,n j⟩
    .have m:=Tt.2 (show 0<ev f y by grind);have j:Sm f x y:=⟨by rw[lx,m,p1];rfl,by rw[lx,ly,m,p1],by rw[lx,p1];decide⟩;rw[p1,m];exact .inl ⟨rfl,j,n j⟩
   .have hm:=M8.1 hm;rcases Hd (ev f x)with⟨p1,p2⟩|⟨p1,p2⟩|⟨p1,p2⟩
    .have m:=M8.2 (show ev f y<0 by grind);have j:Sm f x y:=⟨by rw[lx,m,p1];rfl,by rw[lx,ly,m,p1],by rw[lx,p1];decide⟩;rw[p1,m];exact .inl ⟨rfl,j,n j⟩
    .have m:=M8.2 (show ev f y<0 by grind);have j:Sm f x y:=⟨by rw[lx,m,p1];rfl,by rw[lx,ly,m,p1];rfl,by rw[lx,p1];decide⟩;rw[p1,m];exact .inl ⟨rfl,j,n j⟩
    .rcases Hd (ev f y)with⟨m,z⟩|⟨m,z⟩|⟨m,z⟩
     .rw[lx,ly,p1,m];refine .inr ⟨Fq,Fp,Fp,Fp,Fp⟩
     .rw[lx,ly,p1,m];refine .inr ⟨Fq,Fp,Fp,Fp,Fp⟩
     .rw[p1,m];have j:=dG (p:=f) (x:=x) (y:=y) (by rw[p1,m]) (by rw[p1];decide);exact .inl ⟨rfl,j,n j⟩
theorem Q5v(z:Rat):∃n:Nat,z<=(n:Rat):=by
 refine⟨z.ceil.toNat,?_⟩;have h1:z<=(z.ceil:Rat):=Rat.le_ceil;have h2:(z.ceil:Rat)<=((z.ceil.toNat:Int):Rat):=Jt.2 (Int.self_le_toNat _);exact Zn h1 h2
theorem VK{z e:Rat}(he:0<e):∃n:Nat,z<=(n:Rat)*e:=by
 obtain⟨n,hn⟩:=Q5v (z / e);exact⟨n,by have:=Zb hn (Qq he);rwa[Hq he]at this⟩
variable{x y:Rat}
theorem TP{R t:Rat}(hx:Gw x<=R)(a:Gw y<=R)(h1:x<=t)(h2:t<=y):Gw t<=R:=by
 rw[Nj]at *;constructor <;> grind
def Qfs(f w:Fb)(L:Fc)(x y:Rat):Prop :=
 vv L y<=vv L x/\(vv L x=vv L y->Sm f x y/\Sm w x y)/\(vv L x=vv L y+1->Np f x≠0/\Np f y=-Np f x)
variable{f:Fb}{L:Fc}
theorem Qd5{w:Fb}(h:Qiz f w L x y):Qfs f w L x y:=by
 rcases h with⟨h1,h2,h3⟩|⟨h1,h2,h3,_⟩
 .exact⟨Fo,λ_=>⟨h2,h3⟩,λh=>Fo⟩
 .exact⟨Fo,λh=>Fo,λ_=>⟨h2,h3⟩⟩
theorem dH{w:Fb}{z:Rat}(h1:Sm w x y)(h2:Sm w y z):Sm w x z:=⟨by rw[h2.s,h1.l],by rw[h2.l,h1.l],h1.n⟩
theorem oZ{w:Fb}{z:Rat}(h:Qfs f w L x y)(i:Qfs f w L y z):Qfs f w L x z:=by
 obtain⟨a1,a2,g⟩:=h;obtain⟨b1,d,k⟩:=i;refine⟨Fo,λh=>?_,λh=>?_⟩
 .obtain⟨a,j⟩:=a2 Fo;obtain⟨c,b⟩:=d Fo;exact⟨dH a c,dH j b⟩
 .by_cases e:vv L x=vv L y
  .obtain⟨a,_⟩:=a2 e;obtain⟨c,b⟩:=k Fo;exact⟨a.n,by rw[b,a.l]⟩
  .obtain⟨c,b⟩:=g Fo;obtain⟨a,_⟩:=d Fo;exact⟨c,by rw[a.l,b]⟩
theorem Q0l{R:Rat}(g:0<=R){w u:Fb}(hc:HL f L)(h:∀t,ev f t=ev w t*ev u t)(hx:Gw x<=R)(d:Gw y<=R)(a:x<y):Qfs f w L x y:=by
 obtain⟨e,ep,hl⟩:=loc g hc h;have c:∀n:Nat,∀x,Gw x<=R->x<y->y-x<=(n:Rat)*e->Qfs f w L x y:=by
  intro n
  induction n with
  |zero =>
   intro x hx a h;exfalso;have:((0:Nat):Rat)*e=0:=Ft;grind
  |
   succ n ih =>
   intro x hx a hn;rcases Hk (y-x) e with h1|h1
   .exact Qd5 (hl x y hx d a h1)
   .have hm:Gw (x+e)<=R:=TP hx d (by clear hl ih;grind) (by clear hl ih;grind);have b:(((n+1:Nat):Rat))=(n:Rat)+1:=by push_cast;rfl
    refine oZ (Qd5 (hl x (x+e) hx hm (by clear hl ih;grind) (by clear hl ih;grind))) (ih (x+e) hm (by clear hl ih;grind) ?_);rw[b]at hn;clear hl ih;grind
 obtain⟨n,hn⟩:=VK (z:=y-x) ep;exact c n x hx a hn
theorem wM(x y:Rat):∃R:Rat,0<=R/\Gw x<=R/\Gw y<=R:=by
 refine⟨Gw x+Gw y,?_,?_,?_⟩ <;> (have:=Tr x;have:=Tr y;grind)
theorem S7(t:Rat):ev [1] t=1:=by simp only[ev];grind
theorem Iq(hc:HL f L)(a:x<y):vv L y<=vv L x:=by
 obtain⟨R,b,hx,c⟩:=wM x y;exact(Q0l b hc (w:=f) (u:=[1]) (λt=>by rw[S7];grind) hx c a).1
theorem FI{w u:Fb}(hc:HL f L)(h:∀t,ev f t=ev w t*ev u t)(a:x<y)(he:vv L x=vv L y):Sm w x y:=by
 obtain⟨R,b,hx,c⟩:=wM x y;exact((Q0l b hc h hx c a).2.1 he).2
theorem sQ(hc:HL f L)(a:x<y)(he:vv L x=vv L y):Sm f x y :=
 FI hc (w:=f) (u:=[1]) (λt=>by rw[S7];grind) a he
theorem tO(hc:HL f L)(a:x<y)(he:vv L x=vv L y+1):Np f x≠0/\Np f y=-Np f x:=by
 obtain⟨R,b,hx,c⟩:=wM x y;exact(Q0l b hc (w:=f) (u:=[1]) (λt=>by rw[S7];grind) hx c a).2.2 he
theorem Qqs(hc:HL f L)(R:Rat)(b:0<=R):∃e:Rat,0<e/\∀x y,Gw x<=R->Gw y<=R->x<y->y-x<=e->vv L x<=vv L y+1:=by
 obtain⟨e,ep,hl⟩:=loc b hc (w:=f) (u:=[1]) (λt=>by rw[S7];grind);refine⟨e,ep,λx y hx c a he=>?_⟩;rcases hl x y hx c a he with⟨h,_⟩|⟨h,_⟩ <;> omega
variable{p:Fb}
theorem cont(h:Gu (ev p x)≠0):∃e:Rat,0<e/\∀y,Gw (y-x)<=e->Gu (ev p y)=Gu (ev p x):=by
 have hd:=L8 (x:=ev p x) λh0=>h (Hy.2 h0)
 have a:0<=Gw x+1:=by have:=Tr x;grind
 obtain⟨e,c,f,b⟩:=Ta (Co a p) hd;refine⟨e,c,λy d=>(Nw Qp (Bp (x:=x) Fu ?_ a d b)).1⟩;have:=Mj (y-x) x;have e:y-x+x=y:=Fu;rw[e]at this;grind
theorem Qx2{R M:Rat}{p:Fb}(hM:M=ddB R p)(i:0<=R){h:Rat}(b:0<h):∀(n:Nat) (x:Rat),Gw x<=R->Gw (x+(n:Rat)*h)<=R->(∀t,x<=t->t<=x+(n:Rat)*h->0<=dv p t)->ev p x-(n:Rat)*(h*h*M)<=ev p (x+(n:Rat)*h)
 |
  0,x,_,_,_=>by
  have d:x+((0:Nat):Rat)*h=x:=by rw[show((0:Nat):Rat)=0 from rfl];grind
  have f:((0:Nat):Rat)*(h*h*M)=0:=Ft;rw[d,f];grind
 |
  n+1,x,hx,hy,hd=>by
  have e:(((n+1:Nat):Rat))=(n:Rat)+1:=by push_cast;rfl
  rw[e]at hy hd ⊢;have c:(0:Rat)<=(n:Rat):=Xm;have g:=Dy c (Qq b);have d:x+((n:Rat)+1)*h=(x+h)+(n:Rat)*h:=Fu;rw[d]at hy hd ⊢;have a:Gw (x+h)<=R:=TP hx hy (by clear hd;grind) (by clear hd;grind);have j:=Qx2 hM i b n (x+h) a hy λt h1 h2=>hd t (by clear hd;grind) h2
  have h0:=hd x Qp (by clear hd;grind);have h1:=Qxn p (x+h) x;have h2:=Qly a hx p;rw[<-hM,Nj]at h2;have h3:=Xb h2.1 (Dy (Qq b) (Qq b));have h4:=Dy (Qq b) h0;have f:x+h-x=h:=Fu;rw[f]at h1;clear hd hx hy a;grind
theorem Q4f(k:x<y)(hd:∀t,x<=t->t<=y->0<=dv p t):ev p x<=ev p y:=by
 obtain⟨R,g,hx,l⟩:=wM x y;rcases Hk (ev p x) (ev p y)with h|h
 .exact h
 .exfalso;obtain⟨M,hM⟩:=nmE (ddB R p);have c:=IA g p;rw[<-hM]at c;obtain⟨e,ep,_,he⟩:=Ta (b:=(y-x)*M) (d:=ev p x-ev p y) (Dy Fu c) Fu;obtain⟨n,hn⟩:=VK (z:=y-x) ep;have a:0<(n:Rat):=by
   rcases Hk (n:Rat) 0 with h'|h'
   .have:=Zb h' (Qq ep);clear hd;grind
   .exact h'
  have j:0<(y-x) / n:=Ev Fu a;have i:(n:Rat)*((y-x) / n)=y-x:=by rw[Up];exact Hq a
  have f:x+(n:Rat)*((y-x) / n)=y:=by rw[i];grind
  have h1:=Qx2 hM g j n x hx (by rw[f];exact l) (by rw[f];exact hd);rw[f]at h1;have h2:(y-x) / n<=e:=by
   rcases Hk ((y-x) / n) e with h'|h'
   .exact h'
   .have:=Rat.mul_lt_mul_of_pos_left h' a;clear hd;grind
  have h3:(n:Rat)*((y-x) / n*((y-x) / n)*M)=((y-x) / n)*((y-x)*M):=by
   have:(n:Rat)*((y-x) / n*((y-x) / n)*M)=((n:Rat)*((y-x) / n))*(((y-x) / n)*M):=Fu;rw[this,i];grind
  have h4:=Zb h2 (Dy (x:=y-x) (y:=M) Fu c);rw[h3]at h1;clear hd;grind
theorem Qvp(i:x<y)(hd:∀t,x<=t->t<=y->0<dv p t):ev p x<ev p y:=by
 have hx:=hd x Qp Fu;have c:0<=Gw x+1:=by have:=Tr x;grind
 obtain⟨e,j,k,h⟩:=Ta (IA c p) hx;obtain⟨f,f1,f2,f3⟩:=min2 (a:=e) (b:=y-x) j Fu;have g:Gw (x+f)<=Gw x+1:=by
  have:=Mj x f;have:Gw f=f:=by unfold Gw;split <;> grind
  clear hd;grind
 have h1:=qT (p:=p) (x:=x) (y:=x+f) (R:=Gw x+1) (e:=e) (d:=dv p x) (by clear hd;grind) g c Fu Fu (by unfold Gw;split <;> clear hd <;> grind) h;rw[Tt.2 hx,Tt]at h1;rcases Classical.em (x+f=y)with e|e
 .rw[<-e];clear hd;grind
 .have:=Q4f (p:=p) (x:=x+f) (y:=y) (by clear hd;grind) λt h1 h2=>Qq (hd t (by clear hd;grind) h2)
  clear hd;grind
structure Cut(c:Rat->Int):Prop where
 val:∀q,c q=1\/c q=0\/c q=-1
 mono:∀q r,q<r->c q≠1->c r=-1
 up:∀q,c q=1->∃r,q<r/\c r=1
 dn:∀q,c q=-1->∃r,r<q/\c r=-1
 lo:∃q,c q=1
 hi:∃q,c q=-1
variable{c:Rat->Int}
theorem Cut.mono'(h:Cut c){q r:Rat}(a:q<r)(hr:c r≠-1):c q=1:=by
 rcases Classical.em (c q=1)with e|e
 .exact e
 .exact absurd (h.mono q r a e) hr
theorem Cut.lt(h:Cut c){q r:Rat}(a:c q=1)(hr:c r=-1):q<r:=by
 rcases Hk r q with e|e
 .rcases Classical.em (r=q)with e'|e'
  .rw[e']at hr;omega
  .have:=h.mono r q Fu Fo;omega
 .exact e
variable{e:Rat}
theorem Cut.near(h:Cut c)(he:0<e):∃x y,c x=1/\c y=-1/\y-x<=e:=by
 obtain⟨a,ha⟩:=h.lo;obtain⟨b,hb⟩:=h.hi;have d:0<e / 2:=Ev he Fp;have h2:e / 2*2=e:=Hq Fp;have g:∀(n:Nat) (a:Rat),c a=1->b-a<=(n:Rat)*(e / 2)->∃x y,c x=1/\c y=-1/\y-x<=e:=by
  intro n
  induction n with
  |
   zero =>
   intro a ha hn;have:=h.lt ha hb;rw[show((0:Nat):Rat)=0 from rfl]at hn;exfalso;grind
  |
   succ n ih =>
   intro a ha hn;have f:(((n+1:Nat):Rat))=(n:Rat)+1:=by push_cast;rfl
   rw[f]at hn;rcases h.val (a+e / 2)with h1|h1|h1
   .exact ih _ h1 Fu
   .exact⟨a,a+e,ha,h.mono (a+e / 2) _ Fu Fo,Fu⟩
   .exact⟨a,a+e / 2,ha,h1,Fu⟩
 obtain⟨n,hn⟩:=VK (z:=b-a) d;exact g n a ha hn
def Il(p:Fb)(c:Rat->Int):Prop:=∀d:Rat,0<d->∃x y,c x=1/\c y=-1/\∀q,x<=q->q<=y->Gw (ev p q)<d
def NZ(p:Fb)(c:Rat->Int)(s:Int):Prop:=∃d:Rat,0<d/\∃x y,c x=1/\c y=-1/\∀q,x<=q->q<=y->Gu (ev p q)=s/\d<=Gw (ev p q)
def Nr(c:Rat->Int)(P:Rat->Prop):Prop:=∃x y,c x=1/\c y=-1/\∀q,x<=q->q<=y->P q
variable{P:Rat->Prop}
theorem oU{Q:Rat->Prop}(h1:Nr c P)(h2:Nr c Q):Nr c λq=>P q/\Q q:=by
 obtain⟨x,y,a1,a2,e⟩:=h1;obtain⟨d,b,b1,h,a⟩:=h2;refine⟨if x<=d then d else x,if y<=b then y else b,by split <;> assumption,by split <;> assumption,λq f g=>⟨e q ?_ ?_,a q ?_ ?_⟩⟩ <;> clear e a <;> grind
theorem EZ{Q:Rat->Prop}(h1:Nr c P)(h:∀q,P q->Q q):Nr c Q:=by
 obtain⟨x,y,a1,a2,d⟩:=h1;exact⟨x,y,a1,a2,λq a b=>h q (d q a b)⟩
theorem vN(hc:Cut c)(h1:Nr c P):∃q,P q/\c q=1:=by
 obtain⟨x,y,a1,a2,a⟩:=h1;exact⟨x,a x Qp (Qq (hc.lt a1 a2)),a1⟩
theorem Qog(hc:Cut c)(he:0<e)(h1:Nr c P):∃x y,c x=1/\c y=-1/\y-x<=e/\x<y/\∀q,x<=q->q<=y->P q:=by
 obtain⟨x,y,a1,a2,a⟩:=h1;obtain⟨d,b,b1,h,i⟩:=hc.near he;refine⟨if x<=d then d else x,if y<=b then y else b,by split <;> assumption,by split <;> assumption,by clear a;grind,hc.lt (by split <;> assumption) (by split <;> assumption),λq f g=>a q ?_ ?_⟩ <;> clear a <;> grind
theorem Qx0(hc:Cut c):∃R:Rat,0<=R/\Nr c λq=>Gw q<=R:=by
 obtain⟨x,y,a1,a2,_⟩:=hc.near (e:=1) Fp;obtain⟨R,a,h1,h2⟩:=wM x y;exact⟨R,a,x,y,a1,a2,λq b d=>TP h1 h2 b d⟩
theorem WP(hc:Cut c)(p:Fb):Il p c\/∃s,s≠0/\NZ p c s:=by
 rcases Classical.em (Il p c)with h|h
 .exact .inl h
 .refine .inr ?_;obtain⟨d,k⟩:=Classical.not_forall.1 h;obtain⟨dp,hd⟩:=Classical.not_imp.1 k;have hd:∀x y,c x=1->c y=-1->∃q,x<=q/\q<=y/\d<=Gw (ev p q):=λx y hx j=>by
   rcases Classical.em (∃q,x<=q/\q<=y/\d<=Gw (ev p q))with h'|h'
   .exact h'
   .refine absurd ⟨x,y,hx,j,λq h1 h2=>?_⟩ hd;rcases Hk d (Gw (ev p q))with h3|h3
    .exact absurd ⟨q,h1,h2,h3⟩ h'
    .exact h3
  obtain⟨R,m,hn⟩:=Qx0 hc;have f:0<d / 2:=Ev dp Fp;have h2:d / 2*2=d:=Hq Fp;obtain⟨e,t,_,n⟩:=Ta (Co m p) f;obtain⟨x,y,hx,j,o,_,b⟩:=Qog hc t hn;obtain⟨r,r1,r2,l⟩:=hd x y hx j;have a:∀q,x<=q->q<=y->Gw (ev p q-ev p r)<d / 2:=λq g i =>
   Bp (b r r1 r2) (b q g i) m (by rw[Nj];clear b hd;constructor <;> grind) n
  refine⟨Gu (ev p r),λh0=>?_,d / 2,f,x,y,hx,j,λq g i=>⟨(Nw (d:=d) l ?_).1,?_⟩⟩
  .rw[Hy.1 h0,Sl]at l;clear b hd a;grind
  .have:=a q g i;clear b hd a;grind
  .have h3:=a q g i;have h4:=Mj (ev p r-ev p q) (ev p q);rw[show ev p r-ev p q+ev p q=ev p r from by clear b hd a;grind,Qe2]at h4;clear b hd a;grind
variable{p:Fb}{s:Int}
theorem Q17(hc:Cut c)(h1:Il p c)(h2:NZ p c s):False:=by
 obtain⟨d,dp,h2⟩:=h2;obtain⟨q,⟨a,b⟩,_⟩:=vN hc (oU (h1 d dp) h2);exact absurd b.2 (Jp.2 a)
theorem Nk(hc:Cut c){f q:Fb}(g:∀t,ev f t=ev p t*ev q t)(h:Il p c):Il f c:=by
 intro d dp;obtain⟨R,a,hn⟩:=Qx0 hc;obtain⟨e,b,_,i⟩:=Ta (VL a q) dp;refine EZ (oU hn (h e b)) λt ⟨h1,h2⟩=>?_
 rw[g];have:=Rw (Qq h2) (BB h1 q);exact Jp.1 λh=>absurd (Zn h this) (Jp.2 i)
theorem EB{f q:Fb}(e:∀t,ev f t=ev p t+ev q t)(h:Il p c)(b:Il q c):Il f c:=by
 intro d dp;have a:0<d / 2:=Ev dp Fp;have h2:d / 2*2=d:=Hq Fp;refine EZ (oU (h _ a) (b _ a)) λt ⟨h1,h2⟩=>?_
 rw[e];have:=Mj (ev p t) (ev q t);grind
def RS(p:Fb)(c:Rat->Int)(s:Int):Prop:=∃y,c y=-1/\∀q,c q=-1->q<=y->Gu (ev p q)=s
def LS(p:Fb)(c:Rat->Int)(s:Int):Prop:=∃x,c x=1/\∀q,c q=1->x<=q->Gu (ev p q)=s
theorem kE(hc:Cut c)(h:NZ p c s):RS p c s:=by
 obtain⟨d,dp,x,y,a1,a2,a⟩:=h;exact⟨y,a2,λq h1 h2=>(a q (Qq (hc.lt a1 h1)) h2).1⟩
theorem Qd8(hc:Cut c)(h:NZ p c s):LS p c s:=by
 obtain⟨d,dp,x,y,a1,a2,a⟩:=h;exact⟨x,a1,λq h1 h2=>(a q h2 (Qq (hc.lt h1 a2))).1⟩
theorem SE{s':Int}(h:RS p c s)(d:RS p c s'):s=s':=by
 obtain⟨y,a1,a2⟩:=h;obtain⟨a,b1,b⟩:=d;rcases Hk y a with e|e
 .rw[<-a2 y a1 Qp,<-b y a1 e]
 .rw[<-a2 a b1 (Qq e),<-b a b1 Qp]
theorem Qx5(hc:Cut c)(hv:Il p c){y:Rat}(o:c y=-1)(h:∀q,c q=-1->q<=y->0<dv p q)(q:Rat)(k:c q=-1)(g:q<=y):0<ev p q:=by
 rcases Hk (ev p q) 0 with h0|h0
 .exfalso;obtain⟨r,r1,r2⟩:=hc.dn q k;have hr:ev p r<ev p q:=Qvp r1 λt n j=>h t (by
   rcases Classical.em (r=t)with e|e
   .rw[<-e];exact r2
   .exact hc.mono r t (by clear h;grind) Fo) (Zn j g)
  obtain⟨a,b,ha,hb,d⟩:=hv (-ev p r) (by clear h;grind);obtain⟨m,f,i,l⟩:∃m,c m=-1/\m<=b/\m<=r:=by
   rcases Hk b r with e|e
   .exact⟨b,hb,Qp,e⟩
   .exact⟨r,r2,Qq e,Qp⟩
  have h1:=d m (Qq (hc.lt ha f)) i;have h2:ev p m<=ev p r:=by
   rcases Classical.em (m=r)with e|e
   .rw[e];exact Qp
   .exact Qq (Qvp (by clear h d;grind) λt n j=>h t (by
     rcases Classical.em (m=t)with e|e
     .rw[<-e];exact f
     .exact hc.mono m t (by clear h d;grind) Fo) (by clear h d;grind))
  rw[rC]at h1;clear h d;grind
 .exact h0
theorem rI(hc:Cut c)(hv:Il p c)(h:RS (Cv p) c s)(hs:s≠0):RS p c s:=by
 obtain⟨y,a,h⟩:=h;have b:s=1\/s=-1:=by
  have:=h y a Qp;rcases Hd (ev (Cv p) y)with⟨e,_⟩|⟨e,_⟩|⟨e,_⟩ <;> omega
 rcases b with rfl|rfl
 .refine⟨y,a,λq h1 h2=>Tt.2 (Qx5 hc hv a (λq h1 h2=>?_) q h1 h2)⟩;rw[<-Si];exact Tt.1 (h q h1 h2)
 .refine⟨y,a,λq h1 h2=>M8.2 ?_⟩;have:=Qx5 hc (p:=Nq (-1) p) (y:=y) (λd dp=>EZ (hv d dp) λq f=>by rw[G8,show -1*ev p q=-ev p q by grind,I3];exact f) a (λq h1 h2=>by
   rw[MH,<-Si];have:=M8.1 (h q h1 h2);grind) q h1 h2
  rw[G8]at this;grind
variable{c:Rat->Int}{p:Fb}
theorem Qxv(hc:Cut c)(hv:Il p c){x:Rat}(hx:c x=1)(h:∀q,c q=1->x<=q->0<dv p q)(q:Rat)(l:c q=1)(g:x<=q):ev p q<0:=by
 rcases Hk 0 (ev p q)with h0|h0
 .exfalso;obtain⟨r,r1,r2⟩:=hc.up q l;have hr:ev p q<ev p r:=Qvp r1 λt j k=>h t (by
   rcases Classical.em (t=r)with e|e
   .rw[e];exact r2
   .exact hc.mono' (q:=t) (r:=r) (by clear h;grind) Fo) (Zn g j)
  obtain⟨a,b,ha,hb,d⟩:=hv (ev p r) (by clear h;grind);obtain⟨m,f,i,n⟩:∃m,c m=1/\a<=m/\r<=m:=by
   rcases Hk a r with e|e
   .exact⟨r,r2,e,Qp⟩
   .exact⟨a,ha,Qp,Qq e⟩
  have h1:=d m i (Qq (hc.lt f hb));have h2:ev p r<=ev p m:=by
   rcases Classical.em (r=m)with e|e
   .rw[e];exact Qp
   .exact Qq (Qvp (by clear h d;grind) λt j k=>h t (by
     rcases Classical.em (t=m)with e|e
     .rw[e];exact f
     .exact hc.mono' (q:=t) (r:=m) (by clear h d;grind) Fo) (by clear h d;grind))
  rw[rC]at h1;clear h d;grind
 .exact h0
variable{s:Int}
theorem Qnv(hc:Cut c)(hv:Il p c)(h:LS (Cv p) c s)(hs:s≠0):LS p c (-s):=by
 obtain⟨x,hx,h⟩:=h;have a:s=1\/s=-1:=by
  have:=h x hx Qp;rcases Hd (ev (Cv p) x)with⟨e,_⟩|⟨e,_⟩|⟨e,_⟩ <;> omega
 rcases a with rfl|rfl
 .refine⟨x,hx,λq h1 h2=>M8.2 (Qxv hc hv hx (λq h1 h2=>?_) q h1 h2)⟩;rw[<-Si];exact Tt.1 (h q h1 h2)
 .refine⟨x,hx,λq h1 h2=>Tt.2 ?_⟩;have:=Qxv hc (p:=Nq (-1) p) (x:=x) (λd dp=>EZ (hv d dp) λq b=>by rw[G8,show -1*ev p q=-ev p q by grind,I3];exact b) hx (λq h1 h2=>by
   rw[MH,<-Si];have:=M8.1 (h q h1 h2);grind) q h1 h2
  rw[G8]at this;grind
variable{f:Fb}
theorem Qvy(hc:Cut c){g:Fb}{l:Fc}(h:SCl f g l):Il f c->Il g c->False:=by
 induction h with
 |
  @base f g k hk hg =>
  intro _ hv;obtain⟨q,e,_⟩:=vN hc (hv (Gw k) (L8 hk));rw[hg]at e;grind
 |
  @step f g h l a b q ha hb he hl ih =>
  intro i hg;refine ih hg ?_;have h1:Il (Hz q g) c:=Nk hc (p:=g) (q:=q) (λt=>by rw[Gl];grind) hg;have h2:Il (Nq (-a) f) c:=Nk hc (p:=f) (q:=[-a]) (λt=>by rw[G8];simp only[ev];grind) i;have h3:Il (Ty (Hz q g) (Nq (-a) f)) c:=EB (λt=>Hg t _ _) h1 h2;refine Nk hc (p:=Ty (Hz q g) (Nq (-a) f)) (q:=[1 / b]) (λt=>?_) h3;have:=he t;rw[Hg,Gl,G8];simp only[ev];have d:1 / b*b=1:=Hq hb;have:ev q t*ev g t+-a*ev f t=b*ev h t:=by rw[show -a*ev f t=-(a*ev f t) by grind,he t];grind
  rw[this];have:b*ev h t*(1 / b+t*0)=ev h t*(1 / b*b):=Fu;rw[this,d];grind
theorem wS(hc:Cut c){g:Fb}{k:Rat}(h:∀t,ev g t=k*ev f t)(hv:Il f c):Il g c :=
 Nk hc (p:=f) (q:=[k]) (λt=>by rw[h];simp only[ev];grind) hv
variable{L:Fc}
theorem Qv9(hc:Cut c)(h:HL f L)(hv:Il f c):∃s,s≠0/\NZ (Cv f) c s:=by
 rcases WP hc (Cv f)with h1|h1
 .exfalso;rcases h with⟨k,a,d,_⟩|⟨g,l,k,a,hg,h,_⟩
  .obtain⟨q,b,_⟩:=vN hc (hv (Gw k) (L8 a));rw[d]at b;grind
  .exact Qvy hc h hv (wS hc (λt=>by rw[hg,Si]) h1)
 .exact h1
theorem Qc5(hc:Cut c){w u:Fb}(h:HL f L)(a:∀t,ev f t=ev w t*ev u t)(hv:Il w c):∃s,s≠0/\NZ (Cv w) c s:=by
 rcases WP hc (Cv w)with h1|h1
 .exfalso;obtain⟨s,_,hs⟩:=Qv9 hc h (Nk hc a hv);refine Q17 hc ?_ hs;have a1:Il (Hz (Cv w) u) c:=Nk hc (λt=>Gl t _ _) h1;have a2:Il (Hz w (Cv u)) c:=Nk hc (λt=>Gl t _ _) hv;refine EB (λt=>?_) a1 a2;rw[Si,ZV a,Gl,Gl,Si,Si]
 .exact h1
variable{q:Rat}
theorem Qlv(hc:Cut c)(h:c q=0){x y:Rat}(hx:c x=1)(a:c y=-1):x<=q/\q<=y:=by
 constructor
 .rcases Hk x q with e|e
  .exact e
  .have:=hc.mono q x e Fo;omega
 .rcases Hk q y with e|e
  .exact e
  .have:=hc.mono y q e Fo;omega
theorem HB(hc:Cut c)(h:c q=0)(hv:Il p c):ev p q=0:=by
 rcases Classical.em (ev p q=0)with e|e
 .exact e
 .obtain⟨x,y,hx,b,a⟩:=hv _ (L8 e);obtain⟨h1,h2⟩:=Qlv hc h hx b;have:=a q h1 h2;grind
theorem bX(hc:Cut c)(h:c q=0)(hv:NZ p c s):Gu (ev p q)=s:=by
 obtain⟨d,dp,x,y,hx,b,a⟩:=hv;obtain⟨h1,h2⟩:=Qlv hc h hx b;exact(a q h1 h2).1
theorem aC(hc:Cut c){y z:Rat}(f:c y=-1)(hz:c z=-1):∃q,c q=-1/\q<y/\q<z:=by
 obtain⟨a,a1,a2⟩:=hc.dn y f;obtain⟨b,b1,d⟩:=hc.dn z hz;rcases Hk a b with e|e
 .exact⟨a,a2,a1,Fu⟩
 .exact⟨b,d,Fu,b1⟩
theorem IL(hc:Cut c){y z:Rat}(f:c y=1)(hz:c z=1):∃q,c q=1/\y<q/\z<q:=by
 obtain⟨a,a1,a2⟩:=hc.up y f;obtain⟨b,b1,d⟩:=hc.up z hz;rcases Hk a b with e|e
 .exact⟨b,d,Fu,b1⟩
 .exact⟨a,a2,a1,Fu⟩
theorem oW{w u:Fb}(h:HL f L)(j:∀t,ev f t=ev w t*ev u t){x y:Rat}(hv:vv L x=vv L y)(hc:Cut c)(hx:c x=1)(g:c y≠1):¬Il w c:=λi=>by
 have k:x<y:=by
  rcases Hk y x with e|e
  .rcases Classical.em (y=x)with e'|e'
   .rw[e']at g;exact absurd hx g
   .have:=hc.mono y x Fu g;omega
  .exact e
 have d:=FI h j k hv;rcases hc.val y with e|e|e
 .exact g e
 .have:=HB hc e i;have:=d.s;rw[Hy.2 (by assumption)]at this;exact d.n this.symm
 .obtain⟨s,hs,hd⟩:=Qc5 hc h j i;obtain⟨a,ha,o⟩:=Qnv hc i (Qd8 hc hd) hs;obtain⟨b,hb,l⟩:=rI hc i (kE hc hd) hs;obtain⟨q,p,v,A⟩:=IL hc hx ha;obtain⟨r,r1,r2,z⟩:=aC hc hb e;have E:=o q p (Qq A);have G:=l r r1 (Qq r2);have m:=hc.lt p r1;have D:vv L q<=vv L x:=Iq h v;have B:vv L y<=vv L r:=Iq h z;have H:vv L r<=vv L q:=Iq h m;have C:=(FI h j v Fo).s;have F:=(FI h j (x:=x) (y:=r) Fu Fo).s;omega
theorem tM(h:HL f L){x y:Rat}(g:x<y)(hv:vv L x≠vv L y){d:Rat}(dp:0<d):∃q,x<=q/\q<=y/\Gw (ev f q)<d:=by
 obtain⟨R,s,hx,C⟩:=wM x y;obtain⟨H,l,hl⟩:=loc s h (w:=f) (u:=[1]) (λt=>by rw[S7];grind);obtain⟨F,o,_,i⟩:=Ta (Co s f) dp;obtain⟨e,ep,h1,h2⟩:=min2 l o;have r:∀n:Nat,∀x,Gw x<=R->x<y->vv L x≠vv L y->y-x<=(n:Rat)*e->∃q,x<=q/\q<=y/\Gw (ev f q)<d:=by
  intro n
  induction n with
  |zero=>intro x hx g _ hn;rw[show((0:Nat):Rat)=0 from rfl]at hn;exfalso;clear hl;grind
  |
   succ n ih =>
   intro x hx g hv hn;have c:∀z,Gw z<=R->x<z->z-x<=e->vv L x≠vv L z->Gw (ev f z)<d:=λz hz j v hv=>by
    rcases hl x z hx hz j (Zn v h1)with⟨p,_⟩|⟨_,p1,p2,B,m⟩
    .exact absurd p hv
    .have hd:=Bp (p:=f) hx hz s (e:=F) (d:=d) (by rw[Nj];clear hl ih;constructor <;> grind) i;rw[<-B]at p1 m;clear hl ih p2 B;rw[rC]at *;rcases Hd (ev f x)with⟨a,A⟩|⟨a,A⟩|⟨a,A⟩ <;> rcases Hd (ev f z)with⟨b,b'⟩|⟨b,b'⟩|⟨b,b'⟩ <;> rw[a,b]at m <;> first|(exfalso;revert m;decide)|skip
     all_goals first|(constructor <;> grind)|(exfalso;omega)
   rcases Hk (y-x) e with h3|h3
   .exact⟨y,Qq g,Qp,c y C g h3 hv⟩
   .have hm:Gw (x+e)<=R:=TP hx C (by clear hl ih c;grind) (by clear hl ih c;grind);rcases Classical.em (vv L x=vv L (x+e))with e0|e0
    .have k:(((n+1:Nat):Rat))=(n:Rat)+1:=by push_cast;rfl
     rw[k]at hn;obtain⟨q,G,D,E⟩:=ih (x+e) hm (by clear hl ih c;grind) Fo (by clear hl ih c;grind);exact⟨q,by clear hl ih c;grind,D,E⟩
    .exact⟨x+e,by clear hl ih c;grind,by clear hl ih c;grind,c (x+e) hm (by clear hl ih c;grind) (by clear hl ih c;grind) e0⟩
 obtain⟨n,hn⟩:=VK (z:=y-x) ep;exact r n x hx g hv hn
theorem Q3w{p:Fb}{x:Rat}(h:Np p x≠0):∃e:Rat,0<e/\∀y,x<y->y-x<=e->Gu (ev p y)=Np p x:=by
 by_cases h0:Gu (ev p x)=0
 .have hx:=Hy.1 h0;rw[oY h0]at h ⊢;have c:0<=Gw x+1:=by have:=Tr x;grind
  obtain⟨e,a,b,d⟩:=Ta (IA c p) (L8 (x:=dv p x) λf=>h (Hy.2 f));refine⟨e,a,λy h1 h2=>?_⟩;have g:Gw y<=Gw x+1:=by
   have:=Mj x (y-x);have e:x+(y-x)=y:=Fu;have e':Gw (y-x)=y-x:=by unfold Gw;split <;> grind
   rw[e,e']at this;grind
  have:=qT (p:=p) Fu g c h1 h2 Qp d;rw[hx]at this;rw[<-this];congr 1;grind
 .rw[O3 h0]at h ⊢;obtain⟨e,a,b⟩:=cont h;exact⟨e,a,λy h1 h2=>b y (by rw[Nj];constructor <;> grind)⟩
def cq(P:Fb)(lo hi q:Rat):Int:=if q<=lo then 1 else if hi<q then -1 else if Gu (ev P q)=0 then 0 else if Gu (ev P q)=Np P lo then 1 else -1
structure Vt(P:List Rat)(L:List (List Rat))(lo hi:Rat):Prop where
 s:HL P L
 l:lo<hi
 v:vv L lo=vv L hi+1
variable{P:Fb}{L:Fc}{lo hi:Rat}
variable{q:Rat}
theorem Cf(h:q<=lo):cq P lo hi q=1:=by unfold cq;rw[if_pos h]
theorem VP(h:lo<hi)(a:hi<q):cq P lo hi q=-1:=by unfold cq;rw[if_neg Fu,if_pos a]
theorem A7(h1:lo<q)(h2:q<=hi):cq P lo hi q=if Gu (ev P q)=0 then 0 else if Gu (ev P q)=Np P lo then 1 else -1:=by
 unfold cq;rw[if_neg Fu,if_neg Fu]
theorem Vt.two(V:Vt P L lo hi)(h1:lo<q)(h2:q<=hi):vv L q=vv L lo/\cq P lo hi q=1/\Gu (ev P q)=Np P lo\/vv L q=vv L hi/\cq P lo hi q≠1/\Np P q=-Np P lo/\Np P lo≠0:=by
 have a:=Iq V.s h1;have b:vv L hi<=vv L q:=by
  rcases Classical.em (q=hi)with e|e
  .rw[e];exact Ql _
  .exact Iq V.s Fu
 have hv:=V.v;rcases(show vv L q=vv L lo\/vv L q=vv L hi by omega)with e|e
 .have hs:=sQ V.s h1 e.symm;refine .inl ⟨e,?_,hs.s⟩;rw[A7 h1 h2,hs.s,if_neg hs.n,if_pos rfl]
 .obtain⟨d,c⟩:=tO V.s h1 Fo;refine .inr ⟨e,?_,c,d⟩;rw[A7 h1 h2]
  split
  .decide
  .rename_i h0;rw[O3 h0]at c;rw[if_neg Fo];decide
theorem Vt.lowlo(V:Vt P L lo hi):Np P lo≠0:=(tO V.s V.l V.v).1
theorem Vt.eq_lo(V:Vt P L lo hi)(h1:lo<q)(h2:q<=hi)(h:cq P lo hi q=1):vv L q=vv L lo:=by
 rcases V.two h1 h2 with⟨e,_⟩|⟨_,e,_⟩
 .exact e
 .exact absurd h e
theorem Vt.eq_hi(V:Vt P L lo hi)(h1:lo<q)(h2:q<=hi)(h:cq P lo hi q≠1):vv L q=vv L hi:=by
 rcases V.two h1 h2 with⟨_,e,_⟩|⟨e,_⟩
 .exact absurd e h
 .exact e
theorem Vt.hi1(V:Vt P L lo hi):cq P lo hi hi≠1:=λh=>by have:=V.eq_lo V.l Qp h;have:=V.v;omega
theorem Vt.cut(V:Vt P L lo hi):Cut (cq P lo hi) where
 val q:=by unfold cq;split <;> (try split) <;> (try split) <;> (try split) <;> simp
 mono q r h h1:=by
  have g:lo<q:=by
   rcases Hk q lo with e|e
   .exact absurd (Cf e) h1
   .exact e
  rcases Hk r hi with e|e
  .have i:=V.eq_hi g Fu h1;rcases V.two (q:=r) Fu e with⟨c,_⟩|⟨c,_,o,t⟩
   .have:=Iq V.s h;have:=V.v;omega
   .have hs:=sQ V.s h Fo;rcases V.two g Fu with⟨k,_⟩|⟨_,_,k,_⟩
    .have:=V.v;omega
    .rw[A7 Fu e,hs.s,if_neg hs.n,k,if_neg Fo]
  .exact VP V.l e
 up q h:=by
  rcases Hk q lo with e|e
  .obtain⟨d,dp,hd⟩:=Q3w V.lowlo;obtain⟨f,j,f1,f2⟩:=min2 (a:=d) (b:=hi-lo) dp (by have:=V.l;grind);have h1:lo<lo+f:=by clear hd;grind
   have h2:lo+f<=hi:=by clear hd;grind
   have:=hd (lo+f) h1 (by clear hd;grind);exact⟨lo+f,by clear hd;grind,by rw[A7 h1 h2,this,if_neg V.lowlo,if_pos rfl]⟩
  .have m:q<=hi:=by
    rcases Hk q hi with e'|e'
    .exact e'
    .have:=VP (P:=P) V.l e';omega
   rcases V.two e m with⟨i,_,c⟩|⟨_,i,_⟩
   .have hn:q≠hi:=λh=>by rw[h]at i;have:=V.v;omega
    obtain⟨d,dp,hd⟩:=cont (p:=P) (x:=q) (by rw[c];exact V.lowlo);obtain⟨f,j,f1,f2⟩:=min2 (a:=d) (b:=hi-q) dp (by clear hd;grind);have:=hd (q+f) (by rw[Nj];clear hd;constructor <;> grind);exact⟨q+f,by clear hd;grind,by rw[A7 (by clear hd;grind) (by clear hd;grind),this,c,if_neg V.lowlo,if_pos rfl]⟩
   .exact absurd h i
 dn q h:=by
  have g:lo<q:=by
   rcases Hk q lo with e|e
   .have:=Cf (P:=P) (hi:=hi) e;omega
   .exact e
  rcases Hk q hi with e|e
  .rw[A7 g e]at h
   split at h
   .cases h
   rename_i h0
   split at h
   .cases h
   rename_i h1;obtain⟨d,dp,hd⟩:=cont h0;obtain⟨f,j,f1,f2⟩:=min2 (a:=d) (b:=(q-lo) / 2) dp (Ev (by clear hd;grind) Fp);have h2:(q-lo) / 2*2=q-lo:=Hq Fp;have:=hd (q-f) (by rw[Nj];clear hd;constructor <;> grind);exact⟨q-f,by clear hd;grind,by rw[A7 (by clear hd;grind) (by clear hd;grind),this,if_neg h0,if_neg h1]⟩
  .have h2:(q-hi) / 2*2=q-hi:=Hq Fp;exact⟨q-(q-hi) / 2,Fu,VP V.l Fu⟩
 lo:=⟨lo,Cf Qp⟩
 hi:=⟨hi+1,VP V.l Fu⟩
theorem Vt.van(V:Vt P L lo hi):Il P (cq P lo hi):=by
 have hc:=V.cut;rcases WP hc P with h|⟨s,hs,h⟩
 .exact h
 .exfalso;have j:s=Np P lo:=by
   obtain⟨x,hx,c⟩:=Qd8 hc h;obtain⟨q,b,g,i⟩:=IL hc hx (Cf (P:=P) (hi:=hi) (Qp (a:=lo)));have d:q<=hi:=by
    rcases Hk q hi with e|e
    .exact e
    .have:=VP (P:=P) V.l e;omega
   rcases V.two i d with⟨_,_,e⟩|⟨_,e,_⟩
   .rw[<-c q b (Qq g),e]
   .exact absurd b e
  rcases hc.val hi with e|e|e
  .exact V.hi1 e
  .have h0:=bX hc e h;rw[A7 V.l Qp]at e
   split at e
   .omega
   .split at e <;> omega
  .obtain⟨y,k,f⟩:=kE hc h;obtain⟨q,b,g,i⟩:=aC hc k e;have d:lo<q:=hc.lt (Cf (P:=P) (hi:=hi) (Qp (a:=lo))) b;have:=f q b (Qq g);rw[A7 d (Qq i),this,if_neg hs,if_pos j]at b;cases b
def iP(w:Fb)(lo hi:Rat):Prop:=Gu (ev w hi)=0\/Gu (ev w hi)≠Np w lo
theorem Vt.has(V:Vt P L lo hi){w u:Fb}(i:∀t,ev P t=ev w t*ev u t){a b:Rat}(h1:lo<=a)(h2:a<b)(h3:b<=hi):iP w a b↔Il w (cq P lo hi)/\cq P lo hi a=1/\cq P lo hi b≠1:=by
 have hc:=V.cut;have c:vv L a=vv L b->¬iP w a b:=λh B=>by
  have:=FI V.s i h2 h;rcases B with e|e
  .rw[this.s]at e;exact this.n e
  .exact e this.s
 by_cases ha:cq P lo hi a=1
 .by_cases hb:cq P lo hi b=1
  .have v:=V.eq_lo Fu h3 hb;have z:vv L a=vv L lo:=by
    rcases Classical.em (lo=a)with e|e
    .rw[e]
    .exact V.eq_lo Fu Fu ha
   exact⟨λh=>absurd h (c Fo),λh=>absurd hb h.2.2⟩
  .have v:=V.eq_hi Fu h3 hb;have z:vv L a=vv L lo:=by
    rcases Classical.em (lo=a)with e|e
    .rw[e]
    .exact V.eq_lo Fu Fu ha
   have left:∀s,LS w (cq P lo hi) s->s=Np w a:=λs hs=>by
    obtain⟨x,hx,f⟩:=hs;obtain⟨q,g,o,l⟩:=IL hc hx ha;have E:q<b:=by
     rcases Hk b q with e|e
     .rcases Classical.em (b=q)with e'|e'
      .rw[e']at hb;exact absurd g hb
      .have:=hc.mono b q (by clear f c;grind) hb;omega
     .exact e
    have:=V.eq_lo (q:=q) (by clear f c;grind) (by clear f c;grind) g;rw[<-(FI V.s i l Fo).s,f q g (Qq o)]
   have right:∀s,RS w (cq P lo hi) s->cq P lo hi b=-1->s=Gu (ev w b):=λs hs hb=>by
    obtain⟨y,C,d⟩:=hs;obtain⟨q,g,o,l⟩:=aC hc C hb;have A:=hc.lt ha g;have:=V.eq_hi (q:=q) (by clear d c;grind) (by clear d c;grind) Fo;have hs:=FI V.s i l Fo;have hl:=d q g (Qq o);have h0:Gu (ev w q)≠0:=by
     have F:=FI V.s i (x:=q) (y:=b) l Fo;intro h0;obtain⟨r,r1,r2⟩:=hc.dn q g;have D:=hc.lt ha r2;have:=V.eq_hi (q:=r) (by clear d c;grind) (by clear d c;grind) Fo;have j:=FI V.s i (x:=r) (y:=q) r1 Fo;have k:=j.s;rw[h0]at k;exact j.n k.symm
    rw[hs.s,O3 h0,hl]
   refine⟨λh=>⟨?_,ha,hb⟩,λ⟨m,_,_⟩=>?_⟩
   .rcases WP hc w with e|⟨s,xH,hs⟩
    .exact e
    .exfalso;have l1:=left s (Qd8 hc hs);have r1:Gu (ev w b)=s:=by
      rcases hc.val b with e|e|e
      .exact absurd e hb
      .exact bX hc e hs
      .exact(right s (kE hc hs) e).symm
     rcases h with h|h
     .exact xH (by rw[<-r1];exact h)
     .exact h (by rw[r1,l1])
   .rcases hc.val b with e|e|e
    .exact absurd e hb
    .exact .inl (Hy.2 (HB hc e m))
    .obtain⟨s,xH,hs⟩:=Qc5 hc V.s i m;have l1:=left _ (Qnv hc m (Qd8 hc hs) xH);have r1:=right _ (rI hc m (kE hc hs) xH) e;exact .inr (by rw[<-l1,<-r1];omega)
 .have p:lo<a:=by
   rcases Classical.em (lo=a)with e|e
   .rw[<-e]at ha;exact absurd (Cf Qp) ha
   .grind
  have hb:cq P lo hi b≠1:=by have:=hc.mono a b h2 ha;omega
  have v:=V.eq_hi p Fu ha;have z:=V.eq_hi (q:=b) Fu h3 hb;exact⟨λh=>absurd h (c Fo),λh=>absurd h.2.1 ha⟩
theorem mJ{c c':Rat->Int}(hc:Cut c)(a:Cut c')(h:c q≠c' q):∃r,(c r=-1/\c' r=1)\/(c r=1/\c' r=-1):=by
 rcases hc.val q with e|e|e <;> rcases a.val q with e'|e'|e'
 .omega
 .obtain⟨r,r1,r2⟩:=hc.up q e;exact⟨r,.inr ⟨r2,a.mono q r r1 Fo⟩⟩
 .exact⟨q,.inr ⟨e,e'⟩⟩
 .obtain⟨r,r1,r2⟩:=a.up q e';exact⟨r,.inl ⟨hc.mono q r r1 Fo,r2⟩⟩
 .omega
 .obtain⟨r,r1,r2⟩:=a.dn q e';exact⟨r,.inr ⟨hc.mono' r1 Fo,r2⟩⟩
 .exact⟨q,.inl ⟨e,e'⟩⟩
 .obtain⟨r,r1,r2⟩:=hc.dn q e;exact⟨r,.inl ⟨r2,a.mono' r1 Fo⟩⟩
 .omega
theorem Vt.uniq(V:Vt P L lo hi){c:Rat->Int}(hc:Cut c)(h1:c lo=1)(h2:c hi≠1)(hv:Il P c)(q:Rat):c q=cq P lo hi q:=by
 rcases Classical.em (c q=cq P lo hi q)with e|e
 .exact e
 .exfalso;obtain⟨r,⟨r1,r2⟩|⟨r1,r2⟩⟩:=mJ hc V.cut e
  .have hl:=hc.lt h1 r1;have a:r<=hi:=by
    rcases Hk r hi with e|e
    .exact e
    .have:=VP (P:=P) V.l e;omega
   have:=V.eq_lo hl a r2;exact oW V.s (w:=P) (u:=[1]) (λt=>by rw[S7];grind) (x:=lo) (y:=r) Fo hc h1 Fo hv
  .have hl:lo<r:=by
    rcases Hk r lo with e|e
    .have:=Cf (P:=P) (hi:=hi) e;omega
    .exact e
   have a:r<=hi:=by
    rcases Hk r hi with e|e
    .exact e
    .have:=hc.mono hi r e h2;omega
   have:=V.eq_hi hl a Fo;exact oW V.s (w:=P) (u:=[1]) (λt=>by rw[S7];grind) (x:=r) (y:=hi) Fo hc r1 h2 hv
theorem Vt.same(V:Vt P L lo hi){f:Fb}{y:Fc}{lo' hi':Rat}(m:Vt f y lo' hi'){g u u' U W:Fb}{k:Rat}(z:k≠0)(h1:∀t,ev P t=ev g t*ev u t)(h2:∀t,ev f t=ev g t*ev u' t)(h3:∀t,k*ev g t=ev U t*ev P t+ev W t*ev f t){a b:Rat}(j:lo<=a)(s:lo'<=a)(ha:a=lo\/a=lo')(i:b<=hi)(o:b<=hi')(hb:b=hi\/b=hi'):(a<b/\iP g a b)↔∀q,cq P lo hi q=cq f lo' hi' q:=by
 have hc:=V.cut;have d:=m.cut;constructor
 .rintro⟨c,hg⟩
  obtain⟨G,E,F⟩:=(V.has h1 j c i).1 hg;obtain⟨B,D,w⟩:=(m.has h2 s c o).1 hg;intro q;refine(V.uniq d (by
   rcases Classical.em (lo=a)with e|e
   .rw[e];exact D
   .exact d.mono' (q:=lo) (r:=a) Fu Fo) (λh=>?_) (Nk d h1 B) q).symm
  rcases Classical.em (b=hi)with e|e
  .rw[<-e]at h;exact w h
  .have:=d.mono b hi Fu w;omega
 .intro h;have n:cq f lo' hi'=cq P lo hi:=funext λq=>(h q).symm
  have x:cq P lo hi a=1:=by
   rcases ha with rfl|rfl
   .exact Cf Qp
   .rw[h];exact Cf Qp
  have l:cq P lo hi b≠1:=by
   rcases hb with rfl|rfl
   .exact V.hi1
   .rw[h];exact m.hi1
  have c:a<b:=by
   rcases Hk b a with e|e
   .rcases Classical.em (b=a)with e'|e'
    .rw[e']at l;exact absurd x l
    .have:=hc.mono b a Fu l;omega
   .exact e
  have C:=V.van;have v:=m.van;rw[n]at v;have hg:Il g (cq P lo hi):=by
   have a1:Il (Hz U P) (cq P lo hi):=Nk hc (p:=P) (q:=U) (λt=>by rw[Gl];grind) C;have a2:Il (Hz W f) (cq P lo hi):=Nk hc (p:=f) (q:=W) (λt=>by rw[Gl];grind) v;have A:=EB (λt=>Hg t _ _) a1 a2;refine wS hc (k:=1 / k) (λt=>?_) A;rw[Hg,Gl,Gl,<-h3];have:1 / k*(k*ev g t)=1 / k*k*ev g t:=Fu;rw[this,show 1 / k*k=1 from Zg z];grind
  exact⟨c,(V.has h1 j c i).2 ⟨hg,x,l⟩⟩
end Orq
namespace Orq
theorem Qox:∀(M:Nat) (f:Nat->Nat),(∀i,i<=M->f i<M)->∃i j,i<j/\j<=M/\f i=f j
 | 0,f,h=>absurd (h 0 (Ql _)) (Ut _)
 |
  M+1,f,h=>by
  rcases Classical.em (∃i,i<=M/\f i=f (M+1))with⟨i,h1,h2⟩|hn
  .exact⟨i,M+1,Fo,Ql _,h2⟩
  .have a:∀i,i<=M->f i≠f (M+1):=λi hi e=>hn ⟨i,hi,e⟩
   obtain⟨i,j,h1,h2,h3⟩:=Qox M (λi=>if f i=M then f (M+1)else f i) λi hi=>by
    have a1:=h i Fo;have a2:=h (M+1) (Ql _);have b:=a i hi;show(if f i=M then f (M+1)else f i)<M
    split <;> omega
   refine⟨i,j,h1,Fo,?_⟩;have a1:=a i Fo;have a2:=a j h2
   split at h3 <;> split at h3 <;> omega
def dg(B k i:Nat):Nat:=k / B^i % B
theorem Qc3(B k i:Nat):dg B k (i+1)=dg B (k / B) i:=by unfold dg;rw[Nat.pow_succ,Nat.mul_comm,Nat.div_div_eq_div_mul]
theorem Qlz{B:Nat}:∀(N:Nat) {k k':Nat},k<B^N->k'<B^N->(∀i,i<N->dg B k i=dg B k' i)->k=k'
 | 0,k,k',h,h',_=>by rw[Yu]at h h';omega
 |
  N+1,k,k',h,h',he=>by
  have h0:=he 0 Fo;unfold dg at h0;rw[Yu,Nat.div_one,Nat.div_one]at h0;have a:0<B:=by
   rcases Q0 B with e|e
   .rw[e,Zq,Vg]at h;omega
   .exact e
  have h1:=Qlz N (k:=k / B) (k':=k' / B) (Jo (by rw[Zt,<-Zq];exact h)) (Jo (by rw[Zt,<-Zq];exact h')) λi hi=>by
   rw[<-Qc3,<-Qc3];exact he (i+1) Fo
  rw[<-Wv k B,<-Wv k' B,h0,h1]
def cd(B:Nat):Nat->(Nat->Nat)->Nat
 | 0,_=>0
 |E+1,x=>x 0+B*cd B E λe=>x (e+1)
theorem Qxf{B:Nat}:∀(E:Nat) {x:Nat->Nat},(∀e,e<E->x e<B)->cd B E x<B^E
 | 0,_,_=>by simp[cd]
 |
  E+1,x,h=>by
  have h1:=h 0 Fo;have h2:=Qxf E (x:=λe=>x (e+1)) λe he=>h (e+1) Fo
  simp only[cd];have h3:B*cd B E (λe=>x (e+1))+B<=B*B^E:=by
   rw[<-Uo];exact Zl _ h2
  rw[Zq,Zt (B^E)];omega
theorem Qll{B:Nat}:∀(E:Nat) {x y:Nat->Nat},(∀e,e<E->x e<B)->(∀e,e<E->y e<B)->cd B E x=cd B E y->∀e,e<E->x e=y e
 | 0,_,_,_,_,_,e,he=>Fo
 |
  E+1,x,y,hx,hy,h,e,he=>by
  have h1:=hx 0 Fo;have h2:=hy 0 Fo;simp only[cd]at h;have a:x 0=y 0:=by
   have:=congrArg (· % B) h;simp only[Kt]at this;rwa[X7 h1,X7 h2]at this
  have b:cd B E (λe=>x (e+1))=cd B E (λe=>y (e+1)):=Nat.eq_of_mul_eq_mul_left (by omega:0<B) Fo;cases e with
  |zero=>exact a
  |succ e=>exact Qll E (λe he=>hx (e+1) Fo) (λe he=>hy (e+1) Fo) b e Fo
def sm:Nat->(Nat->Int)->Int
 | 0,_=>0
 |n+1,f=>sm n f+f n
theorem Qp8(f g:Nat->Int):∀n,sm n (λi=>f i-g i)=sm n f-sm n g
 | 0=>rfl
 |n+1=>by simp only[sm,Qp8 f g n];omega
theorem A1{f g:Nat->Int}:∀n,(∀i,i<n->f i=g i)->sm n f=sm n g
 | 0,_=>rfl
 |n+1,h=>by simp only[sm,A1 n (λi hi=>h i Fo),h n Fo]
theorem Qp7{f:Nat->Int}{b:Nat}:∀n,(∀i,i<n->(f i).natAbs<=b)->(sm n f).natAbs<=n*b
 | 0,_=>by simp[sm]
 |
  n+1,h=>by
  have h1:=Qp7 n λi hi=>h i Fo
  have h2:=h n Fo;simp only[sm];rw[Xh];omega
theorem UL{f:Nat->Int}:∀n,(∀i,i<n->f i=0)->sm n f=0
 | 0,_=>rfl
 |n+1,h=>by simp only[sm,UL n (λi hi=>h i Fo),h n Fo];rfl
theorem Qa1(f:Nat->Int)(m:Nat):∀n,sm (m+n) f=sm m f+sm n λi=>f (m+i)
 | 0=>by simp[sm]
 |n+1=>by rw[<-Vd];simp only[sm,Qa1 f m n];omega
theorem Qa2(f:Nat->Int)(J:Nat):∀b,sm (b*J) f=sm b λi=>sm J λj=>f (i*J+j)
 | 0=>by simp[sm]
 |b+1=>by rw[Xh,Qa1,Qa2 f J b];rfl
theorem zB{f:Nat->Int}{k:Nat}:∀n,k<n->(∀i,i<n->i≠k->f i=0)->sm n f=f k
 | 0,h,_=>Fo
 |
  n+1,h,h1=>by
  simp only[sm];rcases V0 (Nat.le_of_lt_succ h)with e|e
  .rw[zB n e λi hi=>h1 i Fo,h1 n Fo Fo];omega
  .subst e;rw[UL k λi hi=>h1 i Fo Fo];omega
theorem Q1q{M:Nat->Nat->Int}{h N E H:Nat}(hM:∀e i,(M e i).natAbs<=h)(hc:(2*(N*(h*H))+1)^E<(H+1)^N) :
 ∃v:Nat->Int,(∀i,(v i).natAbs<=H)/\(∃i,i<N/\v i≠0)/\∀e,e<E->sm N (λi=>M e i*v i)=0:=by
 obtain⟨T,c⟩:=nmE (N*(h*H));rw[<-c]at hc;have hv:∀k i,dg (H+1) k i<=H:=λk i=>Nat.le_of_lt_succ (Xf _ Fo)
 have hs:∀k e,(sm N λi=>M e i*(dg (H+1) k i:Int)).natAbs<=T:=λk e=>by
  rw[c];refine Qp7 N λi _=>?_
  rw[Yf,Xc];exact Zf (hM e i) (hv k i)
 have a:∀k e,((sm N λi=>M e i*(dg (H+1) k i:Int))+T).toNat<2*T+1:=λk e=>by have:=hs k e;omega
 obtain⟨i,j,h1,h2,h3⟩:=Qox ((2*T+1)^E) (λk=>cd (2*T+1) E λe=>((sm N λi=>M e i*(dg (H+1) k i:Int))+T).toNat) λk _=>Qxf E λe _=>a k e
 have h4:=Qll E (λe _=>a i e) (λe _=>a j e) h3;refine⟨λn=>(dg (H+1) i n:Int)-dg (H+1) j n,λn=>?_,?_,λe he=>?_⟩
 .have a1:=hv i n;have a2:=hv j n;show((dg (H+1) i n:Int)-dg (H+1) j n).natAbs<=H;omega
 .rcases Classical.em (∃n,n<N/\(dg (H+1) i n:Int)-dg (H+1) j n≠0)with e|e
  .exact e
  .exfalso;have:i=j:=Qlz (B:=H+1) N Fo Fo λn hn=>by
    rcases Classical.em (dg (H+1) i n=dg (H+1) j n)with e'|e'
    .exact e'
    .exact absurd ⟨n,hn,Fo⟩ e
   omega
 .have a1:=h4 e he;have a2:=hs i e;have d:=hs j e;have:(sm N λn=>M e n*(dg (H+1) i n:Int))=sm N λn=>M e n*(dg (H+1) j n:Int):=Fo
  have b:=Qp8 (λn=>M e n*(dg (H+1) i n:Int)) (λn=>M e n*(dg (H+1) j n:Int)) N;rw[this]at b;rw[A1 N (g:=λn=>M e n*(dg (H+1) i n:Int)-M e n*(dg (H+1) j n:Int)) λn _=>Int.mul_sub _ _ _,b];omega
def Gf:U8->Rat->Rat
 | [],_=>0
 |a::p,t=>(a:Rat)+t*Gf p t
def sq:Nat->(Nat->Rat)->Rat
 | 0,_=>0
 |n+1,f=>sq n f+f n
theorem Ns{f g:Nat->Rat}:∀n,(∀i,i<n->f i=g i)->sq n f=sq n g
 | 0,_=>rfl
 |n+1,h=>by simp only[sq,Ns n (λi hi=>h i Fo),h n Fo]
theorem Qa9(f g:Nat->Rat):∀n,sq n (λi=>f i+g i)=sq n f+sq n g
 | 0=>by simp only[sq];grind
 |n+1=>by simp only[sq,Qa9 f g n];grind
theorem WH(c:Rat)(f:Nat->Rat):∀n,sq n (λi=>c*f i)=c*sq n f
 | 0=>by simp only[sq];grind
 |n+1=>by simp only[sq,WH c f n];grind
theorem Ec{f:Nat->Rat}:∀n,(∀i,i<n->f i=0)->sq n f=0
 | 0,_=>rfl
 |n+1,h=>by simp only[sq,Ec n (λi hi=>h i Fo),h n Fo];grind
theorem JX(f:Nat->Rat):∀n,sq (n+1) f=f 0+sq n λi=>f (i+1)
 | 0=>by simp only[sq];grind
 |n+1=>by rw[sq,JX f n];simp only[sq];grind
theorem Qya{f:Nat->Rat}{b:Rat}:∀n,(∀i,i<n->Gw (f i)<=b)->Gw (sq n f)<=(n:Rat)*b
 | 0,_=>by rw[show((0:Nat):Rat)=0 from rfl];simp only[sq,Sl];grind
 |
  n+1,h=>by
  have h1:=Qya n λi hi=>h i Fo
  have h2:=h n Fo;have h3:=Mj (sq n f) (f n);have a:(((n+1:Nat):Rat))=(n:Rat)+1:=by push_cast;rfl
  rw[a];simp only[sq];clear h;grind
def gc:U8->Nat->Nat->Int
 | [],_,_=>0
 |c::B,k,j=>(if k=0/\j=0 then c else 0)+(if k=0 then 0 else gc B (k-1) j)-(if j=0 then 0 else gc B k (j-1))
def gB:U8->Nat
 | []=>0
 |c::B=>max c.natAbs (2*gB B)
theorem LD:∀(B:U8) (k j:Nat),B.length<=k+j->gc B k j=0
 | [],_,_,_=>rfl
 |
  c::B,k,j,h=>by
  simp only[Q5]at h;simp only[gc];rw[if_neg Fo];have a:(if k=0 then 0 else gc B (k-1) j)=0:=by
   split
   .rfl
   .exact LD B _ _ Fo
  have b:(if j=0 then 0 else gc B k (j-1))=0:=by
   split
   .rfl
   .exact LD B _ _ Fo
  rw[a,b];rfl
theorem Qmt:∀(B:U8) (k j:Nat),(gc B k j).natAbs<=gB B
 | [],_,_=>Qj _
 |
  c::B,k,j=>by
  have h1:=Qmt B (k-1) j;have h2:=Qmt B k (j-1);simp only[gc,gB];by_cases b:k=0 <;> by_cases a:j=0 <;> simp only[b,a,true_and,and_true,false_and,and_false,if_true,if_false] <;> (try subst b) <;> (try subst a) <;> omega
theorem Qmu:∀(B:U8) (b:Nat),B.length=b+1->(gc B 0 b).natAbs=(B.getD b 0).natAbs
 | [],_,h=>by simp at h
 | [c],0,_=>by simp[gc]
 |c::d::B,0,h=>by simp at h
 |
  c::B,b+1,h=>by
  have a:=Qmu B b (by simpa using h);simp only[gc];simp only[Yy,Q4];rw[if_pos trivial,if_neg (Nat.succ_ne_zero b),<-a];omega
def E2(F:Nat->Nat->Int)(K J:Nat)(x y:Rat):Rat:=sq K λk=>sq J λj=>(F k j:Rat)*(y^k*x^j)
theorem aI(F G:Nat->Nat->Int)(K J:Nat)(x y:Rat):E2 (λk j=>F k j+G k j) K J x y=E2 F K J x y+E2 G K J x y:=by
 unfold E2;rw[<-Qa9];refine Ns K λk _=>?_
 rw[<-Qa9];exact Ns J λj _=>by push_cast;grind
theorem Ql7(c:Int)(F:Nat->Nat->Int)(K J:Nat)(x y:Rat):E2 (λk j=>F k j*c) K J x y=(c:Rat)*E2 F K J x y:=by
 unfold E2;rw[<-WH];refine Ns K λk _=>?_
 rw[<-WH];exact Ns J λj _=>by push_cast;grind
theorem Ql8(φ:Nat->Nat->Nat->Int)(v:Nat->Int)(K J:Nat)(x y:Rat):∀N,E2 (λk j=>sm N λn=>φ n k j*v n) K J x y=sq N λn=>(v n:Rat)*E2 (φ n) K J x y
 |
  0=>by
  simp only[sq,sm];unfold E2;refine Ec K λk _=>Ec J λj _=>?_
  rw[show((0:Int):Rat)=0 from rfl];grind
 |
  N+1=>by
  simp only[sq];rw[<-Ql8 φ v K J x y N,<-Ql7,<-aI];rfl
theorem SC(t:Rat)(i:Nat):∀k,t^(i+k)=t^i*t^k
 | 0=>by rw[X1,Xo];grind
 |k+1=>by rw[<-Vd,Xi,Xi,SC t i k];grind
theorem zD(f:Nat->Rat):∀(i n:Nat),sq (i+n) (λk=>if i<=k then f (k-i)else 0)=sq n f
 |i,0=>Ec _ λk a=>by rw[if_neg Fo]
 |
  i,n+1=>by
  rw[<-Vd];simp only[sq];rw[zD f i n,if_pos Fo,J1]
def DL(i j':Nat)(F:Nat->Nat->Int)(k j:Nat):Int:=if i<=k then(if j'<=j then F (k-i) (j-j')else 0)else 0
theorem OW(F:Nat->Nat->Int)(i a K J:Nat)(x y:Rat):E2 (DL i a F) (i+K) (a+J) x y=y^i*x^a*E2 F K J x y:=by
 unfold E2;rw[<-WH,<-zD _ i K];refine Ns _ λk _=>?_
 by_cases c:i<=k
 .rw[if_pos c,<-WH,<-zD _ a J];refine Ns _ λj _=>?_
  unfold DL;rw[if_pos c];by_cases b:a<=j
  .rw[if_pos b,if_pos b];have d:y^k=y^i*y^(k-i):=by rw[<-SC];congr 1;omega
   have e:x^j=x^a*x^(j-a):=by rw[<-SC];congr 1;omega
   rw[d,e];grind
  .rw[if_neg b,if_neg b,show((0:Int):Rat)=0 from rfl];grind
 .rw[if_neg c];refine Ec _ λj _=>?_
  unfold DL;rw[if_neg c,show((0:Int):Rat)=0 from rfl];grind
def fA(A:U8)(k j:Nat):Int:=if j=0 then A.getD k 0 else 0
theorem Qow(y:Rat):∀(A:U8) (K:Nat),A.length<=K->sq K (λk=>((A.getD k 0:Int):Rat)*y^k)=Gf A y
 | [],K,_=>by rw[Ec];rfl;intro i _;simp
 |a::A,0,h=>by simp at h
 |
  a::A,K+1,h=>by
  have b:=Qow y A K (by simpa using h);rw[JX];simp only[Gf,Zu,Q4,Xo];rw[<-b,<-WH];have:(sq K λi=>((A.getD i 0:Int):Rat)*y^(i+1))=sq K λi=>y*(((A.getD i 0:Int):Rat)*y^i):=Ns K λi _=>by rw[Xi];grind
  rw[this];grind
theorem Q3r(A:U8)(K J:Nat)(x y:Rat)(h:A.length<=K):E2 (fA A) K (J+1) x y=Gf A y:=by
 rw[<-Qow y A K h];refine Ns K λk _=>?_
 rw[JX,Ec]
 .simp only[fA,if_true,Xo];grind
 .intro j _;simp only[fA];rw[if_neg Fo,show((0:Int):Rat)=0 from rfl];grind
theorem Qz4(x y:Rat):∀(B:U8) (K J:Nat),B.length<=K->B.length<=J->E2 (gc B) K J x y=Gf B (y-x)
 |
  [],K,J,_,_=>by
  unfold E2;simp only[gc,Gf];exact Ec K λk _=>Ec J λj _=>by rw[show((0:Int):Rat)=0 from rfl];grind
 |c::B,0,J,h,_=>by simp at h
 |c::B,K+1,0,_,h=>by simp at h
 |
  c::B,K+1,J+1,h1,h2=>by
  have i1:=Qz4 x y B K (J+1) (by simpa using h1) (by simp at h2;omega);have i2:=Qz4 x y B (K+1) J (by simp at h1;omega) (by simpa using h2);have a:=OW (gc B) 1 0 K (J+1) x y;have b:=OW (gc B) 0 1 (K+1) J x y;rw[Zw,Yb 1 K]at a;rw[Zw,Yb 1 J]at b;rw[i1]at a;rw[i2]at b;have g:E2 (fA [c]) (K+1) (J+1) x y=(c:Rat):=by rw[Q3r [c] (K+1) J x y Ft];simp only[Gf];grind
  have f:gc (c::B)=λk j=>(fA [c] k j+DL 1 0 (gc B) k j)+DL 0 1 (gc B) k j*(-1):=by
   funext k j;simp only[gc,fA,DL];by_cases e:k=0 <;> by_cases d:j=0
   .subst e;subst d;simp
   .subst e;simp[d,show 1<=j by omega]
    try omega
   .subst d;obtain⟨m,rfl⟩:∃m,k=m+1:=⟨k-1,Fo⟩;simp
   .obtain⟨m,rfl⟩:∃m,k=m+1:=⟨k-1,Fo⟩;obtain⟨i,rfl⟩:∃i,j=i+1:=⟨j-1,Fo⟩;simp;omega
  rw[f,aI (λk j=>fA [c] k j+DL 1 0 (gc B) k j) (λk j=>DL 0 1 (gc B) k j*(-1)),aI (fA [c]) (DL 1 0 (gc B)),Ql7,g,a,b];simp only[Gf,Xo,show y^1=y by rw[Xi,Xo];grind,show x^1=x by rw[Xi,Xo];grind];rw[show(((-1:Int)):Rat)=-1 from rfl];grind
def jJ(A B:U8)(b J J' n k j:Nat):Int:=if n<b*J then DL (n / J) (n % J) (fA A) k j else DL ((n-b*J) / J') ((n-b*J) % J') (gc B) k j
theorem Qp0{F:Nat->Nat->Int}{h:Nat}(c:∀k j,(F k j).natAbs<=h)(i d k j:Nat):(DL i d F k j).natAbs<=h:=by
 unfold DL;split
 .split
  .exact c _ _
  .exact Qj _
 .exact Qj _
theorem Qxt{i b J j:Nat}(hi:i<b)(c:j<J):i*J+j<b*J:=by
 have:(i+1)*J<=b*J:=Qz J hi;rw[Xh]at this;omega
theorem ME{i J j:Nat}(c:j<J):(i*J+j) / J=i/\(i*J+j) % J=j:=by
 rw[Zt,Ur Fo,Us,Kk c,X7 c];exact⟨Fo,rfl⟩
theorem wK(A B:U8)(a b J J':Nat)(v:Nat->Int)(k j:Nat):sm (b*J+a*J') (λn=>jJ A B b J J' n k j*v n) =
 (sm b λi=>sm J λc=>DL i c (fA A) k j*v (i*J+c))+sm a λi=>sm J' λc=>DL i c (gc B) k j*v (b*J+(i*J'+c)):=by
 rw[Qa1,Qa2,Qa2];congr 1
 .refine A1 b λi hi=>A1 J λc d=>?_
  unfold jJ;rw[if_pos (Qxt hi d),(ME d).1,(ME d).2]
 .refine A1 a λi hi=>A1 J' λc d=>?_
  unfold jJ;rw[if_neg Fo,J1,(ME d).1,(ME d).2]
theorem Q3k(A:U8)(v:Nat->Int){i J k j:Nat}(e:j<J):(sm J λc=>DL i c (fA A) k j*v (i*J+c))=if i<=k then A.getD (k-i) 0*v (i*J+j)else 0:=by
 rw[zB (k:=j) J e λc _ hne=>?_]
 .unfold DL fA;by_cases h:i<=k
  .rw[if_pos h,if_pos h,if_pos (Ql _),if_pos (K0 _)]
  .rw[if_neg h,if_neg h,Y4]
 .unfold DL fA;by_cases h:i<=k
  .rw[if_pos h];by_cases d:c<=j
   .rw[if_pos d,if_neg Fo,Y4]
   .rw[if_neg d,Y4]
  .rw[if_neg h,Y4]
section
variable{A B:U8}{a b J J':Nat}(hA:A.length=a+1)(hB:B.length=b+1)(lA:A.getD a 0≠0)(lB:B.getD b 0≠0)(hJ:J=J'+b){v:Nat->Int}(hW:∀k j,k<a+b->j<J->sm (b*J+a*J') (λn=>jJ A B b J J' n k j*v n)=0)
include hA lA hW in
theorem Qxi{jj:Nat}(e:jj<J)(l:∀k,a<=k->k<a+b->(sm a λi=>sm J' λf=>DL i f (gc B) k jj*v (b*J+(i*J'+f)))=0):∀d i,i<b->b-i<=d->v (i*J+jj)=0:=by
 intro d
 induction d with
 |zero=>intro i hi hd;omega
 |
  succ d ih =>
  intro i hi hd;have h1:=hW (i+a) jj Fo e;rw[wK,l (i+a) Fo Fo]at h1;rw[A1 b (λc hi'=>Q3k A v e)]at h1;rw[zB (k:=i) b hi λc hi' g=>?_]at h1
  .rw[if_pos Fo,J1,Int.add_zero]at h1;rcases J5.1 h1 with h2|h2
   .exact absurd h2 lA
   .exact h2
  .rcases Q7 i c with h|h
   .rw[ih c hi' Fo];simp
   .rw[if_pos Fo,Qe,Qu Fo];simp
include hA hB lA lB hJ hW in
theorem Q3p:∀d e,e<J'->J'-e<=d->∀i,i<a->v (b*J+(i*J'+e))=0:=by
 intro d
 induction d with
 |zero=>intro e hi hd;omega
 |
  succ d ih =>
  intro e p hd i hi;have l:∀c k,c<a->(sm J' λg=>DL c g (gc B) k (e+b)*v (b*J+(c*J'+g)))=if c=k then gc B 0 b*v (b*J+(c*J'+e))else 0:=λc k hi'=>by
   rw[zB (k:=e) J' p λg o m=>?_]
   .unfold DL;by_cases h:c<=k
    .rw[if_pos h,if_pos Fo,J1];by_cases f:c=k
     .rw[if_pos f,f,K0]
     .rw[if_neg f,LD B _ _ Fo,Y4]
    .rw[if_neg h,if_neg Fo,Y4]
   .rcases Q7 e g with h|h
    .rw[ih g o Fo c hi',Kx]
    .unfold DL;by_cases f:c<=k
     .rw[if_pos f,if_pos Fo,LD B _ _ Fo,Y4]
     .rw[if_neg f,Y4]
  have r:=Qxi hA lA hW (jj:=e+b) Fo (λk s q=>UL a λc hi'=>by rw[l c k hi',if_neg Fo]) (b+1);have h1:=hW i (e+b) Fo Fo;rw[wK,A1 a (λc hi'=>l c i hi')]at h1;rw[UL b λc hi'=>by
   rw[Q3k A v Fo,r c hi' Fo];simp]at h1
  rw[zB (k:=i) a hi λc hi' m=>if_neg m,if_pos rfl,Int.zero_add]at h1;rcases J5.1 h1 with h2|h2
  .have:=Qmu B b hB;rw[h2]at this;omega
  .exact h2
include hA hB lA lB hJ hW in
theorem Qi4:∀n,n<b*J+a*J'->v n=0:=by
 intro n hn;have l:=Q3p hA hB lA lB hJ hW;rcases Q7 n (b*J)with h|h
 .have c:0<J:=by
   rcases Q0 J with e|e
   .rw[e,Vg]at h;omega
   .exact e
  have g:=Xf n c;have d:n / J<b:=Jo (by rw[Zt];exact h);have:=Qxi hA lA hW g (λk _ _=>UL a λi hi=>UL J' λm f=>by rw[l J' m f Fo i hi,Kx]) (b+1) (n / J) d (Qa (Nat.sub_le _ _) (Nat.le_succ _));rwa[Zt,Xq]at this
 .have c:0<J':=by
   rcases Q0 J' with e|e
   .rw[e,Vg]at hn;omega
   .exact e
  have g:=Xf (n-b*J) c;have d:(n-b*J) / J'<a:=Jo (by rw[Zt J' a];omega);have:=l J' _ g Fo _ d;rw[Zt ((n-b*J) / J'),Xq]at this;rwa[show b*J+(n-b*J)=n by omega]at this
end
theorem UM{R x:Rat}(h1:1<=R)(hx:Gw x<=R):∀k:Nat,Gw (x^k)<=R^k/\1<=R^k
 | 0=>by rw[Xo,Xo];exact⟨Fp,Fp⟩
 |
  k+1=>by
  obtain⟨i1,i2⟩:=UM h1 hx k;rw[Xi,Xi];have:=Bq (a:=1) (c:=1) Fp i2 Fp h1;exact⟨Rw i1 hx,Fu⟩
theorem Qe3{R:Rat}(h1:1<=R){i:Nat}:∀k,i<=k->R^i<=R^k
 | 0,h=>by rw[show i=0 by omega];exact Qp
 |
  k+1,h=>by
  rcases V0 h with e|e
  .have:=Qe3 h1 (i:=i) k Fo;have h2:=(UM h1 (x:=0) (by rw[Sl];grind) k).2;rw[Xi];have:=Bq (a:=R^k) (b:=R^k) (c:=1) (d:=R) Fu Qp Fp h1;grind
  .rw[e];exact Qp
theorem Qpz{F:Nat->Nat->Int}{i c K J:Nat}{x y R X:Rat}{K2 J2:Nat}(h1:1<=R)(hx:Gw x<=R)(g:Gw y<=R)(f:K=i+K2)(hJ:J=c+J2)(e:E2 F K2 J2 x y=X):Gw (E2 (DL i c F) K J x y)<=R^(K+J)*Gw X:=by
 subst f;subst hJ;rw[OW,e,I2];have a1:=(UM h1 g i).1;have a2:=(UM h1 hx c).1;have d:=Rw a1 a2;rw[<-SC]at d;have h:=Qe3 h1 (i:=i+c) (i+K2+(c+J2)) Fo;exact Bq (Tr _) (Zn d h) (Tr _) Qp
theorem Q1l{A B:U8}{a b h:Nat}(hA:A.length=a+1)(hB:B.length=b+1)(lA:A.getD a 0≠0)(lB:B.getD b 0≠0)(ha:0<a)(hb:0<b)(h0:1<=h)(W:∀k,(A.getD k 0).natAbs<=h)(V:gB B<=h){J J' N H:Nat}(hJ:J=2*(a*b))(f:J=J'+b)(u:N=b*J+a*J')(P:H=(2*(N*h))^(2*(a+b-1))) :
 ∃w:Nat->Int,(∃j,j<J/\w j≠0)/\(∀j,(w j).natAbs<=N*(h*H))/\∀R:Rat,1<=R->∃C:Rat,0<=C/\∀x y,Gw x<=R->Gw y<=R->Gw (sq J λj=>(w j:Rat)*x^j)<=C*(Gw (Gf A y)+Gw (Gf B (y-x))):=by
 have Z:0<a*b:=Yt ha hb;have p:∀n k j,(jJ A B b J J' n k j).natAbs<=h:=λn k j=>by
  unfold jJ
  split
  .exact Qp0 (λk j=>by unfold fA;split;exact W k;exact Nat.zero_le _) _ _ _ _
  .exact Qp0 (λk j=>Qa (Qmt B k j) V) _ _ _ _
 have d:0<J:=Fo;have r:1<=N:=by
  have:0<b*J:=Yt hb d;omega
 have S:1<=N*h:=Yt r h0;obtain⟨E,L⟩:=nmE ((a+b-1)*J);have l:N=E+a*b:=by
  have g:(a+b-1)*J+J=(a+b)*J:=by
   rw[<-Xh];congr 1;omega
  have q:a*J=a*J'+a*b:=by rw[f,Xw]
  rw[Jj]at g;omega
 have hc:(2*(N*(h*H))+1)^E<(H+1)^N:=by
  have O:2*(N*(h*H))+1<=2*(N*h)*(H+1):=by
   rw[Xw,Ye,Xy 2,Xy N];omega
  refine Xe (W0 O E) ?_;rw[Nat.mul_pow,l,Xj,Zt];refine Nat.mul_lt_mul_of_pos_left ?_ (Zz Fo);have g:(2*(N*h))^E=H^(a*b):=by
   rw[P,<-Wb,L,hJ];congr 1;rw[Zt 2 (a+b-1),Xy]
  rw[<-l,g];exact Nat.pow_lt_pow_left Fo Fo
 obtain⟨v,I,⟨n0,n1,n2⟩,U⟩:=Q1q (M:=λe n=>jJ A B b J J' n (e / J+1) (e % J)) (h:=h) (N:=N) (E:=E) (H:=H) (λe n=>p n _ _) hc;have hW:∀k j,1<=k->k<a+b->j<J->sm N (λn=>jJ A B b J J' n k j*v n)=0:=λk j k1 k2 c=>by
  have:=U ((k-1)*J+j) (by rw[L];exact Qxt Fo c);rwa[(ME c).1,(ME c).2,show k-1+1=k by omega]at this
 refine⟨λj=>sm N λn=>jJ A B b J J' n 0 j*v n,?_,λj=>?_,λR z=>?_⟩
 .rcases Classical.em (∃j,j<J/\(sm N λn=>jJ A B b J J' n 0 j*v n)≠0)with e|e
  .exact e
  .exfalso;refine n2 (Qi4 hA hB lA lB f (v:=v) (λk j G c=>?_) n0 (by rw[<-u];exact n1));rw[<-u];rcases Q0 k with e'|e'
   .subst e';rcases Classical.em ((sm N λn=>jJ A B b J J' n 0 j*v n)=0)with q|q
    .exact q
    .exact absurd ⟨j,c,q⟩ e
   .exact hW k j e' G c
 .refine Qp7 N λn _=>?_
  rw[Yf];exact Zf (p n 0 j) (I n)
 .have i:∀k:Nat,1<=R^k:=λk=>(UM z (x:=0) (by rw[Sl];grind) k).2
  have s:(0:Rat)<=(H:Rat):=Xm;have t:(0:Rat)<=(N:Rat):=Xm;refine⟨(N:Rat)*((H:Rat)*R^(a+b+J)),Dy t (Dy s (by have:=i (a+b+J);grind)),λx y hx K=>?_⟩;have g:(sq J λj=>((sm N λn=>jJ A B b J J' n 0 j*v n:Int):Rat)*x^j)=E2 (λk j=>sm N λn=>jJ A B b J J' n k j*v n) (a+b) J x y:=by
   unfold E2;obtain⟨m,hm⟩:∃m,a+b=m+1:=⟨a+b-1,Fo⟩;rw[hm,JX,Ec (n:=m)]
   .have:(sq J λj=>((sm N λn=>jJ A B b J J' n 0 j*v n:Int):Rat)*(y^0*x^j))=sq J λj=>((sm N λn=>jJ A B b J J' n 0 j*v n:Int):Rat)*x^j:=Ns J λj _=>by rw[Xo];grind
    rw[this];grind
   .intro k G;refine Ec J λj c=>?_
    show((sm N λn=>jJ A B b J J' n (k+1) j*v n:Int):Rat)*_=0;rw[hW (k+1) j Fo Fo c,show((0:Int):Rat)=0 from rfl];grind
  rw[g,Ql8];have F:∀n,n<N->Gw ((v n:Rat)*E2 (jJ A B b J J' n) (a+b) J x y)<=(H:Rat)*(R^(a+b+J)*(Gw (Gf A y)+Gw (Gf B (y-x)))):=λn hn=>by
   have D:Gw (v n:Rat)<=(H:Rat):=by
    have h1:=I n;have h2:(v n)<=(H:Int):=Fo;have h3:-(H:Int)<=v n:=Fo;have h2:=Jt.2 h2;have h3:=Jt.2 h3;rw[V1]at h3;rw[Nj];exact⟨h3,h2⟩
   refine Rw D ?_;have Q:=i (a+b+J);have n1:=Tr (Gf A y);have n2:=Tr (Gf B (y-x));rcases Q7 n (b*J)with h|h
   .have e:jJ A B b J J' n=DL (n / J) (n % J) (fA A):=by funext k j;unfold jJ;rw[if_pos h]
    have T:n / J<b:=Jo (by rw[Zt];exact h);have Y:=Xf n d;rw[e];refine Zn (Qpz (K2:=a+b-n / J) (J2:=J-n % J) z hx K Fo Fo (X:=Gf A y) ?_) (Bq Fu Qp n1 Fu);obtain⟨m,hm⟩:∃m,J-n % J=m+1:=⟨J-n % J-1,Fo⟩;rw[hm];exact Q3r A _ _ x y Fo
   .have e:jJ A B b J J' n=DL ((n-b*J) / J') ((n-b*J) % J') (gc B):=by funext k j;unfold jJ;rw[if_neg Fo]
    have o:0<J':=by
     rcases Q0 J' with e|e
     .rw[e,Vg]at u;omega
     .exact e
    have T:(n-b*J) / J'<a:=Jo (by rw[Zt J' a];omega);have Y:=Xf (n-b*J) o;rw[e];refine Zn (Qpz (K2:=a+b-(n-b*J) / J') (J2:=J-(n-b*J) % J') z hx K Fo Fo (X:=Gf B (y-x)) ?_) (Bq Fu Qp n2 Fu);exact Qz4 x y B _ _ Fo Fo
  have:=Qya N F;refine Zn this ?_;have:(N:Rat)*((H:Rat)*(R^(a+b+J)*(Gw (Gf A y)+Gw (Gf B (y-x)))))=(N:Rat)*((H:Rat)*R^(a+b+J))*(Gw (Gf A y)+Gw (Gf B (y-x))):=Fu;rw[this];exact Qp
end Orq
namespace Orq
theorem Qqb{w:Nat->Int}{x:Rat}{D:Rat}(hx:Gw x*2<=1)(a:∀j,Gw (w j:Rat)<=D):∀J (k:Nat),Gw (sq J λj=>(w (k+j):Rat)*x^j)<=2*D
 | 0,k=>by have:=a 0;have:=Tr (w 0:Rat);simp only[sq,Sl];clear a;grind
 |
  J+1,k=>by
  have b:=Qqb hx a J (k+1);rw[JX];have e:(sq J λi=>(w (k+(i+1)):Rat)*x^(i+1))=x*sq J λi=>(w (k+1+i):Rat)*x^i:=by
   rw[<-WH];exact Ns J λi _=>by rw[Xi,show k+(i+1)=k+1+i by omega];grind
  rw[e,Xo,X1];have h1:=a k;have h2:=Mj ((w k:Rat)*1) (x*sq J λi=>(w (k+1+i):Rat)*x^i);have h3:=Rw (x:=x) (y:=sq J λi=>(w (k+1+i):Rat)*x^i) Qp b;have h4:=Zb hx (show(0:Rat)<=D by have:=Tr (w k:Rat);clear a;grind);have h5:(w k:Rat)*1=w k:=Fu;rw[h5]at h2 ⊢;clear a;grind
theorem GI{z:Int}(h:z≠0):1<=Gw (z:Rat):=by
 unfold Gw;rcases Kw h with h|h
 .have:((z:Int):Rat)<((0:Int):Rat):=Jc.2 h;have h2:((1:Int):Rat)<=((-z:Int):Rat):=Jt.2 Fo;rw[if_pos (by simpa using this)];rw[V1]at h2;simpa using h2
 .have:((0:Int):Rat)<((z:Int):Rat):=Jc.2 h;have h2:((1:Int):Rat)<=((z:Int):Rat):=Jt.2 Fo;rw[if_neg (by
   have:(0:Rat)<z:=by simpa using this
   grind)]
  simpa using h2
theorem oJ{w:Nat->Int}{x:Rat}{D:Rat}(m:1<=D)(b:0<Gw x)(hx:Gw x*(4*D)<=1)(d:∀j,Gw (w j:Rat)<=D):∀J (k:Nat),(∃j,j<J/\w (k+j)≠0)->Gw x^J / 2<=Gw (sq J λj=>(w (k+j):Rat)*x^j)
 | 0,k,⟨j,h,_⟩=>Fo
 |
  J+1,k,⟨j,h1,h2⟩=>by
  have l:Gw x*2<=1:=by
   have:=Bq (a:=Gw x) (c:=2) (Qq b) Qp Fp (show(2:Rat)<=4*D by clear d;grind);exact Zn this hx
  have g:Gw x<=1:=by clear d;grind
  have hp:∀k:Nat,Gw x^k<=1/\0<=Gw x^k:=λk=>by
   induction k with
   |zero=>rw[Xo];exact⟨Fp,Fp⟩
   |
    succ k f =>
    rw[Xi];have:=Bq f.2 f.1 (Qq b) g;have:=Dy f.2 (Qq b);constructor <;> (clear d;grind)
  rw[JX];have e:(sq J λi=>(w (k+(i+1)):Rat)*x^(i+1))=x*sq J λi=>(w (k+1+i):Rat)*x^i:=by
   rw[<-WH];exact Ns J λi _=>by rw[Xi,show k+(i+1)=k+1+i by omega];grind
  rw[e,Xo,X1 k,show(w k:Rat)*1=w k by grind];by_cases h0:w k=0
  .have q:j≠0:=λe=>h2 (by rw[e];exact h0)
   have f:=oJ m b hx d J (k+1) ⟨j-1,Fo,by rw[show k+1+(j-1)=k+j by omega];exact h2⟩;rw[h0,show((0:Int):Rat)+x*(sq J λi=>(w (k+1+i):Rat)*x^i)=x*sq J λi=>(w (k+1+i):Rat)*x^i by rw[show((0:Int):Rat)=0 from rfl];grind,I2,Xi];have:=Xb f (Qq b);have n:Gw x*(Gw x^J / 2)=Gw x^J*Gw x / 2:=by rw[Yw,Yw];grind
   rw[n]at this;exact this
  .have a1:=GI h0;have a2:=Qqb l d J (k+1);have p:=Rw (x:=x) (y:=sq J λi=>(w (k+1+i):Rat)*x^i) Qp a2;have o:=Mj ((w k:Rat)+x*sq J λi=>(w (k+1+i):Rat)*x^i) (-(x*sq J λi=>(w (k+1+i):Rat)*x^i));rw[I3,show(w k:Rat)+(x*sq J λi=>(w (k+1+i):Rat)*x^i)+-(x*sq J λi=>(w (k+1+i):Rat)*x^i)=w k by grind]at o;have r:=(hp (J+1)).1;have t:Gw x^(J+1) / 2*2=Gw x^(J+1):=Hq Fp;have s:Gw x*(2*D)*2=Gw x*(4*D):=Fu;clear d hp;grind
theorem Q0j{A B:U8}{a b h:Nat}(hA:A.length=a+1)(E:B.length=b+1)(y:A.getD a 0≠0)(F:B.getD b 0≠0)(ha:0<a)(hb:0<b)(h0:1<=h)(v:∀k,(A.getD k 0).natAbs<=h)(t:gB B<=h){N D:Nat}(s:b*(2*(a*b))+a*(2*(a*b)-b)=N)(p:N*(h*(2*(N*h))^(2*(a+b-1)))<=D){R d:Rat}(L:1<=R)(dp:0<d)
 (hs:∀e:Rat,0<e->∃q r,Gw q<=R/\Gw r<=R/\d<=Gw (q-r)/\Gw (q-r)*(4*(D:Rat))<=1/\Gw (Gf A q)<e/\Gw (Gf B r)<e):False:=by
 have H:0<a*b:=Yt ha hb;have o:b<=a*b:=by
  have:=Qz b (show 1<=a from ha);omega
 obtain⟨w,⟨j,u,f⟩,n,g⟩:=Q1l hA E y F ha hb h0 v t (J:=2*(a*b)) (J':=2*(a*b)-b) rfl Fo s.symm rfl;obtain⟨C,i,g⟩:=g (2*R) Fu;have c:∀j,Gw (w j:Rat)<=(D:Rat):=λj=>by
  have h1:=Qa (n j) p;have h2:w j<=(D:Int):=Fo;have h3:-(D:Int)<=w j:=Fo;have h2:=Jt.2 h2;have h3:=Jt.2 h3;rw[V1]at h3;rw[Nj];exact⟨h3,h2⟩
 have m:(1:Rat)<=(D:Rat):=by
  have:=GI f;exact Zn this (c j)
 have l:0<d^(2*(a*b)) / 2:=Ev (Rat.pow_pos dp) Fp;obtain⟨e,ep,_,he⟩:=Ta (b:=C*2) (d:=d^(2*(a*b)) / 2) Fu l;obtain⟨q,r,I,r1,z,G,aq,br⟩:=hs e ep;have h1:=g (q-r) q (by
  have:=Mj q (-r);rw[I3]at this;have:q-r=q+-r:=Fu;grind) Fu
 rw[show q-(q-r)=r by grind]at h1;have h2:=oJ (x:=q-r) m Fu G c (2*(a*b)) 0 ⟨j,u,by rw[Zw];exact f⟩;simp only[Zw]at h2;have h3:C*(Gw (Gf A q)+Gw (Gf B r))<=C*(e+e):=Xb Fu i;have h4:d^(2*(a*b))<=Gw (q-r)^(2*(a*b)):=by
  generalize 2*(a*b)=J
  induction J with
  |zero=>rw[Xo,Xo];exact Qp
  |
   succ J ih =>
   rw[Xi,Xi];exact Bq (Qq (Rat.pow_pos dp)) ih (Qq dp) z
 have h5:d^(2*(a*b)) / 2*2=d^(2*(a*b)):=Hq Fp;have K:Gw (q-r)^(2*(a*b)) / 2*2=Gw (q-r)^(2*(a*b)):=Hq Fp;clear g hs n c;grind
end Orq
