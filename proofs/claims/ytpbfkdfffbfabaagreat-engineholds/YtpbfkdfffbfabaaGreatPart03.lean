import Derived.Test.YtpbfkdfffbfabaaGreatPart02
import Derived.Test.YtpbfkdfffbfabaaGreatPart00
set_option linter.all false
namespace Orr
open Go
def Cut(l:Fa)(m:Nat):Prop:=m<=l.length/\(∀j,m<=j->j<l.length->l[j]? = some 0)/\(0<m->∃x,l[m-1]? = some x/\x≠0)
def val:Fa->Nat
 | []=>0
 |x::l=>x+4294967296*val l
def sH(l:Fa):Prop:=(∀x∈l,x<4294967296)/\(l≠[]->∃x,l[l.length-1]? = some x/\x≠0)
def sz(x:Nat):Nat:=if x=0 then 0 else x.log2+1
variable{x:Nat}
theorem Db{k:Nat}:sz x<=k↔x<2^k:=by
 unfold sz
 split
 .rename_i h;subst h;simp[Nat.pow_pos]
 .rename_i h;rw[Nat.succ_le_iff,Nat.log2_lt h]
theorem TE(x:Nat):x<2^sz x:=Db.1 (Ql _)
variable{y:Nat}
theorem Sk(h:x<=y):sz x<=sz y:=Db.2 (Xe h (TE y))
theorem Q1w(x y:Nat):sz (x+y)<=max (sz x) (sz y)+1:=by
 rw[Db,Zq];have h1:x<2^max (sz x) (sz y):=Db.1 (Nat.le_max_left _ _);have h2:y<2^max (sz x) (sz y):=Db.1 (Ul _ _);omega
theorem Qqh(x y:Nat):sz (x*y)<=sz x+sz y:=by
 rw[Db,Xj];rcases Q0 y with h|h
 .subst h;simp[Zz]
 .exact Nat.mul_lt_mul_of_lt_of_le (TE x) (Ys (TE y)) (by exact Zz Fp)
theorem Q1y(h:0<x):0<sz x:=by
 unfold sz;split
 .omega
 .omega
theorem D6(l r:Fa):val (l++r)=val l+4294967296^l.length*val r:=by
 induction l with
 |nil=>simp[val]
 |cons x l a=>simp only[Xg,val,Q5,a,Zq];grind
theorem BV(k:Nat):val (List.replicate k 0)=0:=by
 induction k with
 |zero=>rfl
 |succ k a=>simp[J4,val,a]
theorem D7(l:Fa)(h:∀x∈l,x<4294967296):val l<4294967296^l.length:=by
 induction l with
 |nil=>simp[val]
 |
  cons x l ih =>
  have h1:=h x (Qy ..);have h2:=ih λy hy=>h y (Qi _ hy)
  simp only[val,Q5,Zq];omega
theorem H7(l:Fa)(i x:Nat)(h:l[i]? = some x):val (l.take (i+1))=val (l.take i)+4294967296^i*x:=by
 have hi:i<l.length:=(Qh.1 h).1;rw[Vb,h,D6];simp only[Option.toList,Qt,Z8 (Ys hi),val];simp
variable{l:Fa}{m:Nat}
theorem Qgz(h:Cut l m):l.drop m=List.replicate (l.length-m) 0:=by
 apply Xu;intro i;rw[Xp,Yj]
 split
 .rename_i hi;exact h.2.1 (m+i) Fo Fo
 .rw[Qu (by have:=h.1;omega)]
theorem Qtp(h:Cut l m):val (l.take m)=val l:=by
 have:l=l.take m++l.drop m:=(Zi m l).symm
 conv=>rhs;rw[this,Qgz h,D6,BV]
 simp
theorem Qto(h:Cut l m)(hl:∀x∈l,x<4294967296):sH (l.take m):=by
 refine⟨λx hx=>hl x (Qn hx),λc=>?_⟩;have hm:0<m:=by
  rcases Q0 m with e|e
  .subst e;simp at c
  .exact e
 obtain⟨x,hx,b⟩:=h.2.2 hm;have a:(l.take m).length=m:=by rw[Qt];have:=h.1;omega
 refine⟨x,?_,b⟩;rw[a,Jl,if_pos Fo,hx]
theorem SX(h:sH l)(a:l≠[]):4294967296^(l.length-1)<=val l:=by
 obtain⟨x,hx,c⟩:=h.2 a;have b:0<l.length:=Yp.2 a;have:=H7 l (l.length-1) x hx;rw[show l.length-1+1=l.length from Fo,Q6]at this;rw[this]
 calc 4294967296^(l.length-1)=4294967296^(l.length-1)*1:=by rw[Ye]
  _<=4294967296^(l.length-1)*x:=Zl _ Fo
  _<=_:=Wu _ _
theorem Qut(h:sH l):32*l.length<=sz (val l)+31:=by
 rcases l with _|⟨x,l⟩
 .simp
 .have h1:=SX h Ft;have h2:=TE (val (x::l));have h3:(4294967296:Nat)^((x::l).length-1)<2^sz (val (x::l)):=Xe h1 h2;rw[show(4294967296:Nat)=2^32 from Fp,<-Wb]at h3;have:=(Nat.pow_lt_pow_iff_right (by decide:1<2)).1 h3;omega
theorem SJ(h:sH l):val l=0↔l=[]:=by
 constructor
 .intro h0;apply Classical.byContradiction;intro a;have:=SX h a;have:0<4294967296^(l.length-1):=Zz Fp;omega
 .rintro rfl;rfl
theorem Qeg:∀{l r:Fa},sH l->sH r->val l=val r->l=r
 | [],r,_,hr,h=>((SJ hr).1 h.symm).symm
 |x::l,[],hl,_,h=>(SJ hl).1 h
 |
  x::l,y::r,hl,hr,h=>by
  have hx:=hl.1 x (Qy ..);have hy:=hr.1 y (Qy ..);simp only[val]at h;have h1:x=y:=Fo;have h2:val l=val r:=Fo;have tail:∀{z:Nat} {l:Fa},sH (z::l)->sH l:=λ{z l} hl=>⟨λu hu=>hl.1 u (Qi _ hu),λb=>by
   obtain⟨u,hu,a⟩:=hl.2 Ft;refine⟨u,?_,a⟩;have:=Yp.2 b;rw[Q5,show l.length+1-1=(l.length-1)+1 from Fo,J0]at hu;exact hu⟩
  rw[h1,Qeg (tail hl) (tail hr) h2]
variable{r:Fa}
theorem Ah(hl:sH l)(hr:sH r)(h:l.length<r.length):val l<val r:=by
 have h1:=D7 l hl.1;have h2:=SX hr (by rintro rfl;simp at h);have:(4294967296:Nat)^l.length<=4294967296^(r.length-1):=Zp Fp Fo;omega
theorem JV(l:Fa)(k x:Nat)(hx:l[k]? = some x):val l=val (l.take k)+4294967296^k*(x+4294967296*val (l.drop (k+1))):=by
 have a:k<l.length:=(Qh.1 hx).1;have e:l=l.take k++(x::l.drop (k+1)):=by
  have h2:l[k]=x:=(Qh.1 hx).2;rw[<-h2,<-Zo a,Zi]
 have h1:(l.take k).length=k:=by rw[Qt];omega
 conv=>lhs;rw[e,D6,h1]
 rfl
theorem Qfn{k:Nat}(hl:∀x∈l,x<4294967296)(hd:l.drop (k+1)=r.drop (k+1))(hx:l[k]? = some x)(hy:r[k]? = some y)(h:x<y):val l<val r:=by
 rw[JV l k x hx,JV r k y hy,hd];have h1:=D7 (l.take k) (λx hx=>hl x (Qn hx));have h2:(l.take k).length<=k:=by rw[Qt];omega
 have h3:(4294967296:Nat)^(l.take k).length<=4294967296^k:=Zp Fp h2;have h4:4294967296^k*(x+1+4294967296*val (r.drop (k+1)))<=4294967296^k*(y+4294967296*val (r.drop (k+1))):=Zl _ Fo;rw[show x+1+4294967296*val (r.drop (k+1))=(x+4294967296*val (r.drop (k+1)))+1 from Fo,Xw,Ye]at h4;omega
theorem Qg6{k:Nat}(hd:l.drop (k+1)=r.drop (k+1))(hx:l[k]? = some x)(hy:r[k]? = some x):l.drop k=r.drop k:=by
 obtain⟨h1,a⟩:=Qh.1 hx;obtain⟨h2,b⟩:=Qh.1 hy;rw[Zo h1,Zo h2,hd,a,b]
def YE(x y:Nat):Int:=if x<y then -1 else if y<x then 1 else 0
theorem LP(h:x<y):YE x y=-1:=by unfold YE;rw[if_pos h]
theorem LR(h:y<x):YE x y=1:=by unfold YE;rw[if_neg Fo,if_pos h]
theorem Qcx(h:x=y):YE x y=0:=by unfold YE;rw[if_neg Fo,if_neg Fo]
theorem Q06{k q:Nat}(a:q<4294967296):(4294967296*k) ||| q=4294967296*k+q:=by
 have:=Ub (i:=32) (b:=q) Fo k;simpa using this.symm
theorem Dc(o:Fa)(i v:Nat):(o.set i v).take i=o.take i:=by
 apply Xu;intro j;rw[Jl,Jl]
 split
 .rw[Y5 Fo]
 .rfl
theorem YS(o:Fa)(i v:Nat)(h:i<o.length):val ((o.set i v).take (i+1))=val (o.take i)+4294967296^i*v:=by
 rw[H7 (o.set i v) i v (by rw[Jr h]),Dc]
theorem Qbe(r:Fa)(i:Nat)(h:r.length<=i):r.take (i+1)=r.take i:=by
 rw[Qo Fo,Qo h]
theorem lU{i:Nat}(hy:r[i]? = some y\/(r.length<=i/\y=0)):val (r.take (i+1))=val (r.take i)+4294967296^i*y:=by
 rcases hy with hy|⟨h,rfl⟩
 .exact H7 r i y hy
 .rw[Qbe r i h];omega
theorem sT{o:Fa}{i s a:Nat}(b:i<o.length)(hx:l[i]? = some x)(hy:r[i]? = some y\/(r.length<=i/\y=0))
 (h:val (o.take i)+a*4294967296^i=val (l.take i)+val (r.take i)) (hs:s=x+a+y) :
 val ((o.set i (s % 4294967296)).take (i+1))+(s / 4294967296)*4294967296^(i+1)=val (l.take (i+1))+val (r.take (i+1)):=by
 rw[YS o i _ b,H7 l i x hx,lU hy,Zq];have e:s=4294967296*(s / 4294967296)+s % 4294967296:=(Xq s 4294967296).symm;generalize s / 4294967296=q at *;generalize s % 4294967296=m at *;generalize 4294967296^i=p at *;grind
theorem D4{o:Fa}(h:∀x∈o,x<4294967296)(i v:Nat)(hv:v<4294967296):∀x∈o.set i v,x<4294967296:=by
 intro x hx;rcases J7 hx with h'|h'
 .exact h x h'
 .omega
theorem Qqg{o:Fa}{i s b:Nat}(j:i<o.length)(hx:l[i]? = some x)(hy:r[i]? = some y\/(r.length<=i/\y=0))(e:x<4294967296)(k:y<4294967296)(hb:b<=1)
 (h:val (o.take i)+val (r.take i)=val (l.take i)+b*4294967296^i) (hs:s=(x+18446744073709551616-b-y) % 18446744073709551616) :
 val ((o.set i (s % 4294967296)).take (i+1))+val (r.take (i+1))=val (l.take (i+1))+(s / 9223372036854775808)*4294967296^(i+1)/\s / 9223372036854775808<=1:=by
 rw[YS o i _ j,H7 l i x hx,lU hy,Zq];by_cases c:x<b+y
 .have g:s=18446744073709551616+x-b-y:=Fo;have a:s / 9223372036854775808=1:=Fo;have f:s % 4294967296+b+y=x+4294967296:=Fo;rw[a];generalize s % 4294967296=m at *;generalize 4294967296^i=p at *;exact⟨Fu,Fo⟩
 .have g:s=x-b-y:=Fo;have a:s / 9223372036854775808=0:=Fo;have f:s % 4294967296+b+y=x:=Fo;rw[a];generalize s % 4294967296=m at *;generalize 4294967296^i=p at *;exact⟨Fu,Fo⟩
theorem xY(o:Fa)(i v z:Nat)(hz:o[i]? = some z):val (o.set i v)+4294967296^i*z=val o+4294967296^i*v:=by
 have hi:i<o.length:=(Qh.1 hz).1;have h1:=JV o i z hz;have h2:=JV (o.set i v) i v (by rw[Jr hi]);have e:(o.set i v).drop (i+1)=o.drop (i+1):=by
  apply Xu;intro j;rw[Xp,Xp,Y5 Fo]
 rw[Dc,e]at h2;rw[h1,h2];generalize 4294967296^i=p;grind
theorem KB(hx:x<4294967296)(hy:y<4294967296):x*y<=18446744065119617025:=by
 have:=Zf (show x<=4294967295 by omega) (show y<=4294967295 by omega);omega
theorem Qn9{a:Fa}{i k z s b V:Nat}(hz:a[i+k]? = some z)(hy:r[k]? = some y)
 (h:val a+b*4294967296^(i+k)=V+4294967296^i*x*val (r.take k)) (hs:s=x*y+z+b) :
 val (a.set (i+k) (s % 4294967296))+(s / 4294967296)*4294967296^(i+(k+1))=V+4294967296^i*x*val (r.take (k+1)):=by
 have h1:=xY a (i+k) (s % 4294967296) z hz;rw[H7 r k y hy,show i+(k+1)=(i+k)+1 from Fo,Zq];have e:s=4294967296*(s / 4294967296)+s % 4294967296:=(Xq s 4294967296).symm;have hp:(4294967296:Nat)^(i+k)=4294967296^i*4294967296^k:=Xj _ _ _;generalize s / 4294967296=q at *;generalize s % 4294967296=m at *;generalize val (a.set (i+k) m)=A at *;rw[hp]at h h1 ⊢;clear hz hy hp;generalize val (r.take k)=R at *;generalize val a=O at *;generalize (4294967296:Nat)^i=pi at *;generalize (4294967296:Nat)^k=pk at *;grind
theorem Qn8{b:Fa}{i a V:Nat}(hz:b[i+r.length]? = some 0)(hx:l[i]? = some x)(c:a<4294967296)(e:V=val (l.take i)*val r)
 (h:val b+a*4294967296^(i+r.length)=V+4294967296^i*x*val (r.take r.length)) :
 val (b.set (i+r.length) (a % 4294967296))=val (l.take (i+1))*val r:=by
 have h1:=xY b (i+r.length) (a % 4294967296) 0 hz;rw[X7 c]at *;rw[Q6]at h;rw[H7 l i x hx];clear hz hx;generalize (4294967296:Nat)^(i+r.length)=p at *;generalize (4294967296:Nat)^i=pi at *;grind
end Orr
namespace Orr
theorem PR(l:Fa)(k x:Nat)(hx:l[k]? = some x):val (l.drop k)=x+4294967296*val (l.drop (k+1)):=by
 obtain⟨h,e⟩:=Qh.1 hx;rw[Zo h,e];rfl
theorem OJ(o:Fa)(i v k:Nat)(h:i<k):(o.set i v).drop k=o.drop k:=by
 apply Xu;intro j;rw[Xp,Xp,Y5 Fo]
variable{l:Fa}
theorem Qok{o:Fa}{k x w r s:Nat}(hx:l[k]? = some x)(c:x<4294967296)(b:k<o.length)(a:0<w)(hr:r<w)
 (h:val (l.drop (k+1))=w*val (o.drop (k+1))+r) (hs:s=r*4294967296+x) :
 s / w<4294967296/\s % w<w/\val (l.drop k)=w*val ((o.set k (s / w % 4294967296)).drop k)+s % w:=by
 have h1:s<w*4294967296:=by
  have:(r+1)*4294967296<=w*4294967296:=Qz _ hr;omega
 have h2:s / w<4294967296:=Jo h1;refine⟨h2,Xf _ a,?_⟩;rw[X7 h2,PR l k x hx,PR (o.set k (s / w)) k (s / w) (Jr b),OJ o k _ (k+1) Fo,h];have e:=Xq s w;generalize s / w=q at *;generalize s % w=m at *;clear hx h;grind
theorem Qhb{B X Y q top nx f h3 c p:Nat}(g:Y=(top*B+nx)*p+f)(r:X=h3*p+c)(j:c<p)(k:q*Y<=X){a x2:Nat}(b:h3=a*B+x2)(i:x2<B)(ht:0<top) :
 q<=a / top:=by
 rw[Wl ht];rcases Q7 a (q*top)with h|h
 .exfalso;have h1:(a+1)*B*p<=q*top*B*p:=Qz _ (Qz _ h);have h2:q*top*B*p<=q*Y:=by
   rw[g,Xw];have:q*((top*B+nx)*p)=q*top*B*p+q*nx*p:=Fu;omega
  have h4:h3*p+p<=(a+1)*B*p:=by
   have:(h3+1)*p<=(a+1)*B*p:=Qz _ (by rw[b,Xh];omega);have e:(h3+1)*p=h3*p+p:=Fu;omega
  omega
 .exact h
variable{i:Nat}
theorem Qmj{B X Y q top nx f h3 p g r a x2:Nat}(k:Y=(top*B+nx)*p+f)(u:X=h3*p+i)(s:i<p)(t:q*Y<=X)(b:h3=a*B+x2)(hg:g*top+r=a)
 (hc:g*nx>r*B+x2) (c:q<=g):q<=g-1:=by
 rcases Vy c with h|h
 .exfalso;subst h;have h1:h3+1<=q*(top*B+nx):=by
   have e:q*(top*B+nx)=q*top*B+q*nx:=Fu;have j:a*B=q*top*B+r*B:=by rw[<-hg];grind
   rw[b,e,j];omega
  have h2:(h3+1)*p<=q*(top*B+nx)*p:=Qz _ h1;have h4:q*(top*B+nx)*p<=q*Y:=by
   have:q*((top*B+nx)*p)=q*(top*B+nx)*p:=Fu;rw[k,Xw q ((top*B+nx)*p) f,this];exact Wg _ _
  have e:(h3+1)*p=h3*p+p:=Fu;omega
 .omega
theorem Qtz{B X Y top nx Yr h3 q p g r a x2:Nat}(i:Y=(top*B+nx)*p+Yr)(f:Yr<p)(s:X=h3*p+q)(b:h3=a*B+x2)(hg:g*top+r=a)(ht:0<top)
 (hc:g*nx<=r*B+x2) (j:g<=B):(g-1)*Y<=X:=by
 rcases Q0 g with h0|h0
 .subst h0;simp
 .obtain⟨k,rfl⟩:∃k,g=k+1:=⟨g-1,Fo⟩;simp only[Yy];have h1:(k+1)*(top*B+nx)<=h3:=by
   have e:(k+1)*(top*B+nx)=(k+1)*top*B+(k+1)*nx:=Fu;have c:a*B=(k+1)*top*B+r*B:=by rw[<-hg];grind
   rw[b,e,c];omega
  have h2:(k+1)*(top*B+nx)*p<=h3*p:=Qz _ h1;have h:k*Yr<=k*p:=Zl _ Fo;have h5:B<=top*B:=Wa _ ht;have h4:k*p<=(top*B+nx)*p:=Qz _ Fo;have t:k*Y=k*(top*B+nx)*p+k*Yr:=by rw[i];grind
  have c:(k+1)*(top*B+nx)*p=k*(top*B+nx)*p+(top*B+nx)*p:=Fu;omega
theorem bZ{o x y:Fa}{u w g c b p s:Nat}(k:i<o.length)(hu:x[i]? = some u)(j:y[i]? = some w)(e:u<4294967296)(hb:b<=1)
 (h:val (o.take i)+g*val (y.take i)=val (x.take i)+(c+b)*4294967296^i) (hp:p=g*w+c)
 (hs:s=((u+18446744073709551616-p % 4294967296) % 18446744073709551616+18446744073709551616-b) % 18446744073709551616) :
 val ((o.set i (s % 4294967296)).take (i+1))+g*val (y.take (i+1))=val (x.take (i+1))+(p / 4294967296+s / 9223372036854775808)*4294967296^(i+1)/\s / 9223372036854775808<=1:=by
 rw[YS o i _ k,H7 x i u hu,H7 y i w j,Zq];have ep:p=4294967296*(p / 4294967296)+p % 4294967296:=(Xq p 4294967296).symm;have f:p % 4294967296<4294967296:=Xf _ Fp;generalize p / 4294967296=ph at *;generalize p % 4294967296=pl at *;have a:s % 4294967296+pl+b=u+(s / 9223372036854775808)*4294967296/\s / 9223372036854775808<=1:=Fo;refine⟨?_,a.2⟩;have r:=a.1;generalize s % 4294967296=m at *;generalize s / 9223372036854775808=b' at *;generalize (4294967296:Nat)^i=P at *;clear hs e hu j k f a;have v:g*(val (y.take i)+P*w)=g*val (y.take i)+P*(g*w):=Fu;have q:g*w+c=4294967296*ph+pl:=Fo;have t:P*(g*w)+P*c=P*(4294967296*ph)+P*pl:=by rw[<-Xw,<-Xw,q]
 have z:P*m+P*pl+P*b=P*u+P*(b'*4294967296):=by rw[<-Xw,<-Xw,<-Xw,r]
 grind
theorem gC{o x y:Fa}{u w g c b:Nat}(f:i<o.length)(hu:x[i]? = some u)(e:y[i]? = some w)(a:u<4294967296)(hb:b<=1)
 (h:val (o.take i)+g*val (y.take i)=val (x.take i)+(c+b)*4294967296^i) {p s:Nat} (hp:p=g*w+c)
 (hs:s=((u+18446744073709551616-p % 4294967296) % 18446744073709551616+18446744073709551616-b) % 18446744073709551616) :
 val ((o.set i (s % 4294967296)).take (i+1))+g*val (y.take (i+1))=val (x.take (i+1))+(p / 2^32+s / 2^63)*4294967296^(i+1)/\s / 2^63<=1 :=
 bZ f hu e a hb h hp hs
theorem Ed{k c:Nat}(hl:l.length=k+1)(hc:l[k]? = some c):val l=val (l.take k)+4294967296^k*c:=by
 rw[<-H7 l k c hc,Qo Fo]
theorem Lf(hb:∀u∈l,u<4294967296){k:Nat}(a:k≤l.length):val (l.take k)<4294967296^k:=by
 have:=D7 (l.take k) (λu hu=>hb u (Qn hu));rwa[Qt,Z8 a]at this
theorem TQ{o x:Fa}(h:o.drop i=x.drop i):o[i]? = x[i]? := by
 have:=congrArg (·[0]?) h;simpa using this
theorem yV{o x:Fa}{v:Nat}(h:o.drop i=x.drop i):(o.set i v).drop (i+1)=x.drop (i+1):=by
 rw[OJ o i v (i+1) Fo];have:=congrArg (List.drop 1) h;simpa[Yg]using this
structure Dig(x l:List Nat)(n top nx xn x1 x2:Nat):Prop where
 hn:2<=n
 hl:l.length=n
 hx:x.length=n+1
 lb:∀u∈l,u<4294967296
 xb:∀u∈x,u<4294967296
 ltop:l[n-1]? = some top
 lnx:l[n-2]? = some nx
 xn:x[n]? = some xn
 x1:x[n-1]? = some x1
 x2:x[n-2]? = some x2
 top0:0<top
 lt:val x<val l*4294967296
section
variable{x l:Fa}{n top nx xn x1 x2:Nat}(D:Dig x l n top nx xn x1 x2)
include D
theorem Dig.parts:∃p f h,val l=(top*4294967296+nx)*p+f/\f<p/\val x=((xn*2^32+x1)*4294967296+x2)*p+h/\h<p:=by
 obtain⟨hn,hl,hx,lb,xb,ltop,lnx,b,a,e,_,_⟩:=D;obtain⟨k,rfl⟩:∃k,n=k+2:=⟨n-2,Fo⟩;simp only[show k+2-1=k+1 from Fo,Yy]at *;refine⟨4294967296^k,val (l.take k),val (x.take k),?_,Lf lb Fo,?_,Lf xb Fo⟩
 .rw[Ed hl ltop,H7 l k nx lnx,Zq];generalize (4294967296:Nat)^k=p;grind
 .have Iw:(2:Nat)^32=4294967296:=Fp;have c:(4294967296:Nat)^(k+1)=4294967296^k*4294967296:=Zq _ _;have g:(4294967296:Nat)^(k+2)=4294967296^k*4294967296*4294967296:=by rw[<-c];exact Zq _ _
  rw[Ed hx b,H7 x (k+1) x1 a,H7 x k x2 e,c,g,Iw];clear c g;generalize (4294967296:Nat)^k=p;grind
theorem Dig.Ypos:0<val l:=by
 obtain⟨p,c,e,b,a,_,_⟩:=D.parts;have h1:0<top*4294967296+nx:=by have:=D.top0;omega
 have:=Yt h1 (show 0<p by omega);omega
theorem Dig.qlt:val x / val l<4294967296:=Jo D.lt
theorem Dig.qle:val x / val l*val l<=val x:=Nat.div_mul_le_self _ _
theorem Dig.bnd:top<4294967296/\nx<4294967296/\xn<4294967296/\x1<4294967296/\x2<4294967296 :=
 ⟨D.lb _ (Qc D.ltop),D.lb _ (Qc D.lnx),D.xb _ (Qc D.xn),D.xb _ (Qc D.x1),D.xb _ (Qc D.x2)⟩
theorem Dig.head_le:xn*2^32+x1<top*4294967296+4294967296:=by
 obtain⟨p,j,k,g,a,c,f⟩:=D.parts;have b:=D.lt;have hb:=D.bnd;have Iw:(2:Nat)^32=4294967296:=Fp;rw[Iw]at c ⊢;rcases Q7 xn (top+1)with h|h
 .omega
 .exfalso;have h1:val l<(top+1)*4294967296*p:=by
   have h2:(top*4294967296+nx+1)*p<=(top+1)*4294967296*p:=Qz _ Fo;have e:(top*4294967296+nx+1)*p=(top*4294967296+nx)*p+p:=Fu;omega
  have h3:(top+1)*4294967296*4294967296*p<=((xn*4294967296+x1)*4294967296+x2)*p:=Qz _ Fo;have h4:val l*4294967296<(top+1)*4294967296*p*4294967296:=X2 h1 Fp;have i:(top+1)*4294967296*p*4294967296=(top+1)*4294967296*4294967296*p:=by
   generalize (4294967296:Nat)=B;grind
  omega
theorem Dig.start:val x / val l<=(xn*2^32+x1) / top:=by
 obtain⟨p,f,g,b,c,e,a⟩:=D.parts;exact Qhb b e a D.qle rfl D.bnd.2.2.2.2 D.top0
theorem Dig.fin{g r:Nat}(hg:g*top+r=xn*2^32+x1)(hc:g*nx<=r*2^32+x2)(f:g<=4294967296):(g-1)*val l<=val x:=by
 obtain⟨p,h,i,b,a,c,e⟩:=D.parts;have Iw:(2:Nat)^32=4294967296:=Fp;rw[Iw]at hc;exact Qtz b a c rfl hg D.top0 hc f
theorem Dig.round{g r:Nat}(hg:g*top+r=xn*2^32+x1)(c:val x / val l<=g)(hc:4294967296<=g\/r*2^32+x2<g*nx) :
 1<=g/\val x / val l<=g-1/\(g-1)*top+(r+top)=xn*2^32+x1/\(4294967296<=r+top->(g-1-1)*val l<=val x/\g-1<=4294967296):=by
 have Iw:(2:Nat)^32=4294967296:=Fp;have hb:=D.bnd;have h1:1<=g:=by
  rcases hc with h|h
  .omega
  .rcases Q0 g with h0|h0
   .subst h0;simp at h
   .exact h0
 have h2:val x / val l<=g-1:=by
  rcases hc with h|h
  .have:=D.qlt;omega
  .obtain⟨p,q,s,i,b,f,a⟩:=D.parts;rw[Iw]at h;exact Qmj i f a D.qle rfl hg h c
 obtain⟨k,rfl⟩:∃k,g=k+1:=⟨g-1,Fo⟩;simp only[Yy]at h2 ⊢;have h3:k*top+(r+top)=xn*2^32+x1:=by rw[<-hg,Xh];omega
 refine⟨h1,h2,h3,λhr=>?_⟩;have e:k<4294967296:=by
  have j:=D.head_le;rcases Q7 k 4294967296 with h|h
  .exact h
  .have:=Qz top h;omega
 refine⟨D.fin h3 ?_ Fo,Fo⟩;have h4:=KB e hb.2.1;rw[Iw];have h5:4294967296*4294967296<=(r+top)*4294967296:=Qz _ hr;omega
theorem Dig.fin0{o:Fa}{g c b s:Nat}(r:o.length=n+1)(hc:c<4294967296)(hb:b<=1)(w:val x / val l<=g)
 (h:val (o.take n)+g*val l=val (x.take n)+(c+b)*4294967296^n)
 (hs:s=((xn+18446744073709551616-c) % 18446744073709551616+18446744073709551616-b) % 18446744073709551616) (xH:s / 2^63=0) :
 g % 4294967296=val x / val l/\val (o.set n (s % 4294967296))=val x % val l:=by
 have u:=D.bnd;have k:(2:Nat)^63=9223372036854775808:=Fp;rw[k]at xH;have t:s=xn-c-b/\c+b<=xn:=Fo;have j:s % 4294967296=xn-c-b:=Fo;have a:(o.set n (s % 4294967296))[n]? = some (s % 4294967296):=by rw[Jr Fo]
 have ev:val (o.set n (s % 4294967296))=val (o.take n)+4294967296^n*(xn-c-b):=by
  rw[Ed (by rw[Xd];exact r) a,Dc,j]
 have q:=Ed D.hx D.xn;have v:val (o.set n (s % 4294967296))+g*val l=val x:=by
  rw[ev,q];obtain⟨m,rfl⟩:∃m,xn=m+(c+b):=⟨xn-(c+b),Fo⟩;rw[show m+(c+b)-c-b=m from Fo];generalize (4294967296:Nat)^n=p at *;have:p*(m+(c+b))=p*m+(c+b)*p:=Fu;omega
 have hg:g<=val x / val l:=by
  rw[Wl D.Ypos];omega
 have i:g=val x / val l:=Fo;have f:=D.qlt;have e:=Xq (val x) (val l);rw[<-i]at e f ⊢;refine⟨X7 f,?_⟩;rw[Zt]at e;omega
theorem Dig.fin1{o:Fa}{g c b s:Nat}(t:o.length=n+1)(f:∀u∈o,u<4294967296)(hc:c<4294967296)(hb:b≤1)(i:(g-1)*val l≤val x)
 (h:val (o.take n)+g*val l=val (x.take n)+(c+b)*4294967296^n)
 (hs:s=((xn+18446744073709551616-c) % 18446744073709551616+18446744073709551616-b) % 18446744073709551616) (xH:¬s / 2^63=0) :
 g=val x / val l+1/\val (o.set n (s % 4294967296))+val l=val x % val l+4294967296^n*4294967296:=by
 have E:=D.bnd;have k:(2:Nat)^63=9223372036854775808:=Fp;rw[k]at xH;have j:s % 4294967296+(c+b)=xn+4294967296:=Fo;have e:(o.set n (s % 4294967296))[n]? = some (s % 4294967296):=by rw[Jr Fo]
 have hm:s % 4294967296<4294967296:=Xf _ Fp;have ev:val (o.set n (s % 4294967296))=val (o.take n)+4294967296^n*(s % 4294967296):=by
  rw[Ed (by rw[Xd];exact t) e,Dc]
 have w:=Ed D.hx D.xn;have z:val (o.take n)<4294967296^n:=Lf f Fo;have r:val (o.set n (s % 4294967296))+g*val l=val x+4294967296^n*4294967296:=by
  rw[ev,w];generalize (4294967296:Nat)^n=p at *;have B:p*(s % 4294967296+(c+b))=p*(xn+4294967296):=by rw[j]
  rw[Xw p (s % 4294967296) (c+b),Xw p xn,Zt p (c+b)]at B;omega
 have v:val (o.set n (s % 4294967296))<4294967296^n*4294967296:=by
  have:=D7 (o.set n (s % 4294967296)) (D4 f _ _ hm);rwa[Xd,t,Zq]at this
 have C:g-1<=val x / val l:=(Wl D.Ypos).2 i;have A:val x / val l<g:=by
  rw[Kf D.Ypos];omega
 have a:g=val x / val l+1:=Fo;refine⟨a,?_⟩;have q:=Xq (val x) (val l);rw[a,Xh]at r;rw[Zt]at q;omega
theorem Dig.fin2{f b:Fa}{v a:Nat}(h1:f.length=n+1)(j:∀u∈f,u<4294967296)(h2:b.length=n+1)(g:∀u∈b,u<4294967296)(hv:f[n]? = some v)(s:a≤1)
 (q:val f+val l=val x % val l+4294967296^n*4294967296) (h:val (b.take n)+a*4294967296^n=val (f.take n)+val l) :
 val (b.set n ((v+a) % 4294967296))=val x % val l:=by
 have c:(b.set n ((v+a) % 4294967296))[n]? = some ((v+a) % 4294967296):=by rw[Jr Fo]
 rw[Ed (by rw[Xd];exact h2) c,Dc];rw[Ed h1 hv]at q;have r:=j _ (Qc hv);have k:val (b.take n)<4294967296^n:=Lf g Fo;have t:val l<4294967296^n:=by have:=D7 l D.lb;rwa[D.hl]at this
 have w:val x % val l<val l:=Xf _ D.Ypos;generalize (4294967296:Nat)^n=p at *;have e:val (b.take n)+p*(v+a)=val x % val l+p*4294967296:=by
  rw[Xw,Zt p a];omega
 have i:v+a=4294967296:=by
  rcases V9 (v+a) 4294967296 with h'|h'|h'
  .have:=Zl p h';rw[Uo]at this;omega
  .exact h'
  .omega
 rw[i]at e ⊢;simp;omega
end
end Orr
namespace Orr
open Go
theorem Q4r{g q:Nat}(h:g=q+1)(a:q<4294967296):IntKind.u32.wrap (((g % 4294967296:Nat):Int)-1)=(q:Int):=by
 subst h;simp[IntKind.wrap,IntKind.bits,IntKind.signed];omega
def HO(o:Fa)(i n:Nat):Fa:=(o.drop i).take (n+1)
theorem FQ(o:Fa)(i n:Nat):o.take i++HO o i n++o.drop (i+n+1)=o:=by
 unfold HO;rw[Zh,show o.drop (i+n+1)=(o.drop i).drop (n+1) from by rw[Yg];congr 1];rw[Zi,Zi]
theorem PT{o:Fa}{i n:Nat}(h:i+n<o.length):(HO o i n).length=n+1:=by
 unfold HO;rw[Qt,Za];omega
theorem Qwj{o:Fa}{i n x:Nat}(h:x∈HO o i n):x∈o:=Q3 (Qn h)
theorem UO(p w q:Fa):val (p++w++q)=val p+4294967296^p.length*(val w+4294967296^w.length*val q):=by
 rw[Zh,D6,D6]
structure Rest(o l:List Nat)(la n m:Nat):Prop where
 ol:o.length=la+1
 ob:∀u∈o,u<4294967296
 ll:l.length=n
 lb:∀u∈l,u<4294967296
 n2:2<=n
 top:4294967296^(n-1)<=val l
 hm:m+n<=la+1
 lt:val o<val l*4294967296^m
section
variable{o l:Fa}{la n m:Nat}
theorem Rest.zero(R:Rest o l la n (m+1)):val (o.drop (m+n+1))=0:=by
 have a:=PT (o:=o) (i:=m) (n:=n) (by have:=R.ol;have:=R.hm;omega);have h1:=UO (o.take m) (HO o m n) (o.drop (m+n+1));rw[FQ,a,Qt,Z8 (by have:=R.ol;have:=R.hm;omega)]at h1;have b:val l<4294967296^n:=by have:=D7 l R.lb;rwa[R.ll]at this
 have c:=R.lt;rcases Q0 (val (o.drop (m+n+1)))with h|h
 .exact h
 .exfalso;have h2:4294967296^m*(4294967296^(n+1)*1)<=4294967296^m*(val (HO o m n)+4294967296^(n+1)*val (o.drop (m+n+1))) :=
   Zl _ (Qa (Zl _ h) (Wu _ _))
  have h3:val l*4294967296^(m+1)<4294967296^n*4294967296^(m+1):=X2 b (Zz Fp);have e:(4294967296:Nat)^n*4294967296^(m+1)=4294967296^m*(4294967296^(n+1)*1):=by
   rw[Ye,<-Xj,<-Xj];congr 1;omega
  omega
theorem Rest.dig(R:Rest o l la n (m+1)):∃top nx xn x1 x2,Dig (HO o m n) l n top nx xn x1 x2:=by
 have j:=PT (o:=o) (i:=m) (n:=n) (by have:=R.ol;have:=R.hm;omega);have hz:=R.zero;obtain⟨ol,ob,ll,lb,n2,r,hm,s⟩:=R;have f:∀k,k<n+1->∃u,(HO o m n)[k]? = some u:=λk t=>⟨_,Qf Fo⟩
 have q:∀k,k<n->∃u,l[k]? = some u:=λk t=>⟨_,Qf Fo⟩
 obtain⟨top,ht⟩:=q (n-1) Fo;obtain⟨nx,c⟩:=q (n-2) Fo;obtain⟨xn,b⟩:=f n Fo;obtain⟨x1,a⟩:=f (n-1) Fo;obtain⟨x2,g⟩:=f (n-2) Fo;have h1:=UO (o.take m) (HO o m n) (o.drop (m+n+1));rw[FQ,hz,Qt,Z8 Fo]at h1;refine⟨top,nx,xn,x1,x2,n2,ll,j,lb,λu hu=>ob u (Qwj hu),ht,c,b,a,g,?_,?_⟩
 .rcases Q0 top with h0|h0
  .exfalso;subst h0;have e:=Ed (l:=l) (k:=n-1) Fo ht;have:=Lf lb (k:=n-1) Fo;omega
  .exact h0
 .rcases Q7 (val (HO o m n)) (val l*4294967296)with h|h
  .exact h
  .exfalso;have h2:4294967296^m*(val l*4294967296)<=4294967296^m*(val (HO o m n)):=Zl _ h;have e:val l*(4294967296:Nat)^(m+1)=4294967296^m*(val l*4294967296):=by
    rw[Zq];generalize (4294967296:Nat)^m=p;grind
   simp only[Vg,X1]at h1;omega
theorem Rest.next(R:Rest o l la n (m+1)){w':Fa}(r:w'.length=(HO o m n).length)(hb:∀u∈w',u<4294967296)(hv:val w'=val (HO o m n) % val l){X0:Nat}{q:Fa}(j:m<q.length)
 (h:val (q.drop (m+1))*4294967296^(m+1)*val l+val o=X0) :
 Rest (o.take m++w'++o.drop (m+n+1)) l la n m/\val ((q.set m (val (HO o m n) / val l)).drop m)*4294967296^m*val l+val (o.take m++w'++o.drop (m+n+1))=X0:=by
 have f:=PT (o:=o) (i:=m) (n:=n) (by have:=R.ol;have:=R.hm;omega);have hz:=R.zero;obtain⟨ol,ob,ll,lb,n2,a,hm,g⟩:=R;have s:0<val l:=Xk (Zz Fp) a;have h1:=UO (o.take m) (HO o m n) (o.drop (m+n+1));have h2:=UO (o.take m) w' (o.drop (m+n+1));rw[FQ,hz,Qt,Z8 Fo]at h1;rw[hz,Qt,Z8 Fo]at h2;simp only[Vg,X1]at h1 h2;have hp:=Lf ob (k:=m) Fo;have hr:val w'<val l:=by rw[hv];exact Xf _ s
 have c:=Xq (val (HO o m n)) (val l);rw[<-hv]at c;refine⟨⟨?_,?_,ll,lb,n2,a,Fo,?_⟩,?_⟩
 .simp only[Qw,Qt,Za,r,f];omega
 .intro u hu;rcases Qr.1 hu with hu|hu
  .rcases Qr.1 hu with hu|hu
   .exact ob u (Qn hu)
   .exact hb u hu
  .exact ob u (Q3 hu)
 .rw[h2];have:4294967296^m*(val w'+1)<=4294967296^m*val l:=Zl _ hr;rw[Zt (val l)];rw[Xw]at this;omega
 .have b:(q.set m (val (HO o m n) / val l))[m]? = some (val (HO o m n) / val l):=by rw[Jr j]
  rw[PR _ m _ b,OJ q m _ (m+1) Fo,h2,<-h,h1,Zq];generalize val (HO o m n) / val l=d at *;generalize (4294967296:Nat)^m=p at *;generalize val (q.drop (m+1))=Q at *;have e:p*val (HO o m n)=p*(val l*d)+p*val w':=by rw[<-c,Xw]
  rw[e];clear h1 h2 h b hp c hv hz f g;generalize val (o.take m)=A;generalize (4294967296:Nat)=B;grind
end
theorem Qam{x y:Nat}{X Y:Fa}{la n s:Nat}(i:val X=x*2^s)(g:val Y=y*2^s)(f:X.length=la+1)(b:∀u∈X,u<4294967296)(c:Y.length=n)(a:∀u∈Y,u<4294967296)(hn:2≤n)
 (hx:x<4294967296^la) (hy:4294967296^(n-1)<=y) (h:n<=la):Rest X Y la n (la-n+1):=by
 have hs:0<2^s:=Zz Fp;refine⟨f,b,c,a,hn,?_,Fo,?_⟩
 .rw[g];have:=Zf hy hs;omega
 .rw[i,g];have h1:x*2^s<4294967296^la*2^s:=X2 hx hs;have h2:4294967296^(n-1)*2^s*4294967296^(la-n+1)<=y*2^s*4294967296^(la-n+1):=Qz _ (Qz _ hy);have e:4294967296^(n-1)*2^s*4294967296^(la-n+1)=4294967296^la*2^s:=by
   rw[Nat.mul_right_comm,<-Xj];congr 2;omega
  omega
theorem Qpf{x y s r:Nat}{q:Fa}(hy:0<y)(h:val q*(y*2^s)+r=x*2^s)(hr:r<y*2^s):val q=x / y/\r=x % y*2^s:=by
 have hs:0<2^s:=Zz Fp;have b:x*2^s / (y*2^s)=val q:=by
  rw[<-h,Zt,Ur (Yt hy hs),Kk hr,X1]
 have a:x*2^s % (y*2^s)=r:=by
  rw[<-h,Zt (val q),Us,X7 hr]
 rw[Nat.mul_div_mul_right _ _ hs]at b;rw[Nat.mul_mod_mul_right]at a;exact⟨b.symm,a.symm⟩
end Orr
namespace Orr
theorem Qbf{o:Fa}{n:Nat}(hn:n<=o.length)(h:val o<4294967296^n):val (o.take n)=val o:=by
 have h1:val o=val (o.take n)+4294967296^(o.take n).length*val (o.drop n):=by rw[<-D6,Zi]
 rw[Qt,Z8 hn]at h1;rcases Q0 (val (o.drop n))with h0|h0
 .rw[h0]at h1;omega
 .have:=Zl (4294967296^n) h0;omega
def Gn(b:Bool)(m:Nat):Int:=if b=true then -(m:Int)else(m:Int)
theorem Sy(b:Bool)(m:Nat):(Gn b m).natAbs=m:=by unfold Gn;split <;> omega
theorem qN(b:Bool)(m:Nat):decide (Gn b m<0)=(b && decide (0<m)):=by
 unfold Gn;cases b <;> simp <;> omega
def Gm(z:Int):Nat:=sz z.natAbs
theorem G9(x y:Int):Gm (x*y)<=Gm x+Gm y:=by unfold Gm;rw[Int.natAbs_mul];exact Qqh _ _
theorem YZ(x y:Int):Gm (x+y)<=max (Gm x) (Gm y)+1:=by
 unfold Gm;exact Qa (Sk (Int.natAbs_add_le x y)) (Q1w _ _)
theorem Rq(x:Int):Gm (-x)=Gm x:=by unfold Gm;rw[Int.natAbs_neg]
theorem LI(x y:Int):Gm (x-y)<=max (Gm x) (Gm y)+1:=by
 rw[Int.sub_eq_add_neg];have:=YZ x (-y);rwa[Rq]at this
theorem Pi{x:Int}{k:Nat}:Gm x<=k↔x.natAbs<2^k:=Db
theorem PZ{x k:Nat}(h:2^k<=x):sz x=k+sz (x / 2^k):=by
 have e:∀m,sz x<=m↔k+sz (x / 2^k)<=m:=by
  intro m;by_cases hm:k<=m
  .obtain⟨j,rfl⟩:=Nat.le.dest hm;rw[Nat.add_le_add_iff_left,Db,Db,Kf (Zz Fp),<-Xj,Yb j k]
  .constructor
   .intro h1;rw[Db]at h1;have:=Nat.pow_lt_pow_right (a:=2) Fp (Um hm);omega
   .intro h1;omega
 exact Vz ((e _).2 (Ql _)) ((e _).1 (Ql _))
theorem Qbd:∀{l:Fa} {y:Nat},sH l->l[l.length-1]? = some y->sz (val l)=32*(l.length-1)+sz y
 | [],y,_,h=>by simp at h
 |
  [x],y,_,h=>by
  simp at h;subst h;simp[val]
 |
  x::z::l,y,hn,h=>by
  have a:(4294967296:Nat)=2^32:=Fp;have b:sH (z::l):=⟨λu hu=>hn.1 u (Qi _ hu),λ_=>by
   obtain⟨u,hu,h0⟩:=hn.2 Ft;exact⟨u,by simpa using hu,h0⟩⟩
  have c:=Qbd b (y:=y) (by simpa using h);have hx:=hn.1 x Ft;have hp:0<val (z::l):=by
   rcases Q0 (val (z::l))with h0|h0
   .exact absurd ((SJ b).1 h0) Ft
   .exact h0
  have e:val (x::z::l)=x+4294967296*val (z::l):=rfl;rw[PZ (k:=32) (by rw[e,<-a];omega),show val (x::z::l) / 2^32=val (z::l) from by rw[e,<-a];omega,c];simp only[Q5];omega
def Dv(x y:Int):Int:=if x<y then -1 else if y<x then 1 else 0
theorem zA{x:Nat}:sz x=0↔x=0:=by
 constructor
 .intro h;have:=TE x;rw[h]at this;simpa using this
 .rintro rfl;rfl
theorem QV(z:Int):(z<0/\Int.sign z=-1)\/(z=0/\Int.sign z=0)\/(0<z/\Int.sign z=1):=by
 rcases Ym z 0 with h|h|h
 .exact .inl ⟨h,X6 h⟩
 .subst h;exact .inr (.inl ⟨rfl,rfl⟩)
 .exact .inr (.inr ⟨h,Jq h⟩)
theorem fX{a b q r:Int}(hb:0<b)(h:r+b*q=a)(h0:0<=r)(h1:r<b):a / b=q/\a % b=r:=(Int.ediv_emod_unique hb).2 ⟨h,h0,h1⟩
theorem fJ{a b q r:Int}(hb:b≠0)(h:r+b*q=a)(h0:0<=r)(h1:r<b.natAbs):a / b=q/\a % b=r:=by
 rcases W9 hb with h'|h'
 .have:=fX (a:=a) (b:=-b) (q:=-q) (r:=r) Fo (by rw[Uq];exact h) h0 Fo;rw[Int.ediv_neg,Int.emod_neg]at this;exact⟨Fo,this.2⟩
 .exact fX h' h h0 Fo
section
variable{x y:Int}{d:Bool}(hy:y=if d=true then -(y.natAbs:Int)else(y.natAbs:Int))(hp:0<y.natAbs)
include hy hp
theorem OZ(hx:x=if false=true then -(x.natAbs:Int)else(x.natAbs:Int)) :
 x / y=Gn (!(false == d)) (x.natAbs / y.natAbs)/\x % y=Gn false (x.natAbs % y.natAbs):=by
 have e:=Xq x.natAbs y.natAbs;have hl:=Xf x.natAbs hp;refine fJ Fo ?_ ?_ ?_
 .generalize x.natAbs / y.natAbs=q at *;generalize x.natAbs % y.natAbs=r at *;generalize y.natAbs=n at *;generalize x.natAbs=m at *;subst hx hy e;unfold Gn;cases d <;> simp[Kq,V2] <;> omega
 .unfold Gn;simp only[Bool.false_eq_true,if_false];exact Int.natCast_nonneg _
 .unfold Gn;simp;omega
theorem DW(hx:x=if true=true then -(x.natAbs:Int)else(x.natAbs:Int))(h0:x.natAbs % y.natAbs=0) :
 x / y=Gn (!(true == d)) (x.natAbs / y.natAbs)/\x % y=Gn false (x.natAbs % y.natAbs):=by
 have e:=Xq x.natAbs y.natAbs;refine fJ Fo ?_ ?_ ?_
 .rw[h0]at e ⊢;generalize x.natAbs / y.natAbs=q at *;generalize y.natAbs=n at *;generalize x.natAbs=m at *;subst hx hy e;unfold Gn;cases d <;> simp[Kq,V2]
 .unfold Gn;simp only[Bool.false_eq_true,if_false];exact Int.natCast_nonneg _
 .unfold Gn;simp;omega
theorem OQ(hx:x=if true=true then -(x.natAbs:Int)else(x.natAbs:Int))(h0:0<x.natAbs % y.natAbs) :
 x / y=Gn (!(true == d)) (x.natAbs / y.natAbs+1)/\x % y=Gn false (y.natAbs-x.natAbs % y.natAbs):=by
 have e:=Xq x.natAbs y.natAbs;have hl:=Xf x.natAbs hp;refine fJ Fo ?_ ?_ ?_
 .generalize x.natAbs / y.natAbs=q at *;generalize x.natAbs % y.natAbs=r at *;generalize y.natAbs=n at *;generalize x.natAbs=m at *;subst hx hy e;unfold Gn;have a:((n-r:Nat):Int)=(n:Int)-(r:Int):=Fo;cases d <;> simp[Kq,V2,Int.mul_add,a] <;> omega
 .unfold Gn;simp only[Bool.false_eq_true,if_false];exact Int.natCast_nonneg _
 .unfold Gn;simp;omega
end
def He(x:Nat):Fa:=if h:x=0 then []else(x % 4294967296)::He (x / 4294967296)
termination_by x
decreasing_by omega
theorem Ru:He 0=[]:=by unfold He;simp
variable{x:Nat}
theorem Oa(h:x≠0):He x=(x % 4294967296)::He (x / 4294967296):=by rw[He];simp[h]
theorem Re(x:Nat):val (He x)=x:=by
 induction x using Nat.strongRecOn with
 |
  _ x ih =>
  rcases Q0 x with h|h
  .subst h;rw[Ru];rfl
  .rw[Oa Fo];simp only[val];rw[ih _ Fo];omega
theorem Lb(x:Nat):sH (He x):=by
 induction x using Nat.strongRecOn with
 |
  _ x ih =>
  rcases Q0 x with h|h
  .subst h;rw[Ru];exact⟨Ft,λh=>absurd rfl h⟩
  .rw[Oa Fo];obtain⟨h1,h2⟩:=ih (x / 4294967296) Fo;refine⟨λu hu=>?_,λ_=>?_⟩
   .rcases Qm.1 hu with rfl|hu
    .omega
    .exact h1 u hu
   .by_cases h3:x / 4294967296=0
    .rw[h3,Ru];exact⟨x % 4294967296,rfl,Fo⟩
    .have h4:He (x / 4294967296)≠[]:=by rw[Oa h3];simp
     obtain⟨u,hu,a⟩:=h2 h4;refine⟨u,?_,a⟩;rcases hl:He (x / 4294967296)with _|⟨y,l⟩
     .exact absurd hl h4
     .rw[hl]at hu;simpa using hu
theorem Qnr{l:Fa}(h:sH l)(hv:val l=x):l=He x:=Qeg h (Lb x) (by rw[hv,Re])
theorem Qp1{o l:Fa}{i s z:Nat}(hs:s<=31)(hx:l[i]? = some x)(e:x<4294967296)(hz:o[i]? = some z)(j:z<2^s)(hi1:i+1<o.length)(h:val (o.take (i+1))=val (l.take i)*2^s):
 z+x*2^s % 4294967296<4294967296/\x*2^s / 2^32<2^s /\
 val (((o.set i (z+x*2^s % 4294967296)).set (i+1) (x*2^s / 2^32 % 4294967296)).take (i+2))=val (l.take (i+1))*2^s/\x*2^s % 4294967296=2^s*(x % 2^(32-s)):=by
 have Iw:(2:Nat)^32=4294967296:=Fp;have ep:(4294967296:Nat)=2^s*2^(32-s):=by rw[<-Xj,<-Iw];congr 1;omega
 have a:0<2^s:=Zz Fp;have g:x*2^s % 4294967296=2^s*(x % 2^(32-s)):=by rw[Zt x,ep,Nat.mul_mod_mul_left]
 have f:x*2^s / 2^32<2^s:=by
  rw[Kf (Zz Fp),Iw,Zt (2^s)];exact X2 e a
 have hm:x % 2^(32-s)<2^(32-s):=Xf _ (Zz Fp);have c:z+x*2^s % 4294967296<4294967296:=by
  rw[g];have:2^s*(x % 2^(32-s)+1)<=2^s*2^(32-s):=Zl _ hm;rw[<-ep,Xw,Ye]at this;omega
 have b:2^s<=4294967296:=by rw[<-Iw];exact Zp Fp Fo
 refine⟨c,f,?_,g⟩;have k:=H7 o i z hz;rw[YS _ (i+1) _ (by simpa using hi1),YS o i _ Fo,H7 l i x hx,X7 (Xk f b),Zq];have p:=Xq (x*2^s) 4294967296;rw[Iw];rw[k]at h;generalize x*2^s / 4294967296=qh at *;generalize x*2^s % 4294967296=ql at *;generalize (4294967296:Nat)^i=P' at *;generalize 2^s=S at *;clear ep g f hm c b k hx hz j Iw a e;have q:P'*(4294967296*qh+ql)=P'*(x*S):=by rw[p]
 have r:(val (l.take i)+P'*x)*S=val (l.take i)*S+P'*(x*S):=Fu;rw[r,<-h,<-q];grind
theorem Qp2{o l:Fa}{i s y:Nat}(hs:s≤31)(hx:l[i]? = some x)(hy:l[i+1]? = some y\/(l.length≤i+1/\y=0))(c:i<o.length)(hb:∀u∈l,u<4294967296)(h:val (o.take i)=val l / 2^s % 4294967296^i):
 val ((o.set i ((x+y*2^32) / 2^s % 4294967296)).take (i+1))=val l / 2^s % 4294967296^(i+1):=by
 rw[YS o i _ c,h,Nat.mod_pow_succ];congr 1;congr 1;have Iw:(2:Nat)^32=4294967296:=Fp;have ep:(4294967296:Nat)=2^s*2^(32-s):=by rw[<-Xj,<-Iw];congr 1;omega
 have a:=JV l i x hx;obtain⟨R,f⟩:∃R,val (l.drop (i+1))=y+4294967296*R:=by
  rcases hy with hy|⟨h1,rfl⟩
  .exact⟨_,PR l (i+1) y hy⟩
  .exact⟨0,by rw[Yq h1];rfl⟩
 have ht:val (l.take i)<4294967296^i:=by
  have:=D7 (l.take i) (λu hu=>hb u (Qn hu));have hi:=(Qh.1 hx).1;rwa[Qt,Z8 Fo]at this
 have b:val l / 2^s / 4294967296^i=(x+4294967296*(y+4294967296*R)) / 2^s:=by
  rw[Nat.div_div_eq_div_mul,Zt,<-Nat.div_div_eq_div_mul,a,f,Ws _ _ (Zz Fp),Kk ht,Zw]
 rw[b];have e:x+4294967296*(y+4294967296*R)=(x+y*2^32)+2^s*(4294967296*(2^(32-s)*R)):=by
  have:2^s*(4294967296*(2^(32-s)*R))=(2^s*2^(32-s))*(4294967296*R):=Fu;rw[this,<-ep,Iw];grind
 rw[e,Ws _ _ (Zz Fp),Kt]
theorem Q1p{s:Nat}(hs:s<=31)(hx:x<4294967296):x*2^s<18446744073709551616:=by
 have h1:2^s<=2^31:=Zp Fp hs;have h2:x*2^s<=4294967295*2^31:=Zf Fo h1;have h3:4294967295*2^31<18446744073709551616:=Fp;omega
end Orr
namespace Orr
open Go
variable{P:Program}
theorem nQ(P:Program):∃k,P.types.size+Made.depth=k+1:=⟨P.types.size+Made.depth-1,by
 have:0<Made.depth:=Fp;omega⟩
variable{info:TypeInfo}
theorem O7{t E f c:Nat}{a e:String}(hi:∀w,(typeInfo t).run P w=.ok info w)(hm:info.methods.find? (·.name == a)=some ⟨e,c,#[],some (f,true)⟩)(hu:P.underlying t=some (.pointer E))(b o:Nat)(w:World):
 (method (P.types.size+Made.depth) t (.pointer (some ⟨b,o,none⟩)) a).run P w=.ok (f,.pointer (some ⟨b,o+0,none⟩)) w:=by
 obtain⟨k,d⟩:=nQ P;rw[d];simp[method,hi,hm,follow,receiverAt,CZ hu,Place.get]
theorem Aq{t S f c i:Nat}{a j:String}{fs:Array Field}{fl:Field}{d:TypeDesc}(hi:∀w,(typeInfo t).run P w=.ok info w)(hm:info.methods.find? (·.name == a)=some ⟨j,c,#[⟨S,i,true⟩],some (f,true)⟩)(m:P.underlying S=some (.struct fs))(g:fs[i]? = some fl)(hu:P.underlying fl.type=some d)(hd:∀E,d≠.pointer E){z:Nat}(hz:∀w,(Go.sizeOf fl.type).run P w=.ok z w)(e:z≠0)(b o:Nat)(w:World):
 (method (P.types.size+Made.depth) t (.pointer (some ⟨b,o,none⟩)) a).run P w=.ok (f,.pointer (some ⟨b,o+fl.offset,none⟩)) w:=by
 obtain⟨k,h⟩:=nQ P;rw[h];have l:∀w,(receiverAt fl.type (.var (Addr.add ⟨b,o,none⟩ fl.offset)) true none).run P w=.ok (.pointer (some ⟨b,o+fl.offset,none⟩)) w:=λw=>by
  unfold receiverAt;simp only[Sem.run_bind,CZ hu,Result.andThen_ok];cases d <;> first|exact absurd rfl (hd _)|simp[Addr.add]
 simp[method,hi,hm,follow,CZ m,g,Place.get,asAddr,fieldPlace,hz,e,l]
end Orr
