/- P1 NI -/
import Derived.Test.YtdcbpgmmopdelaaGreatPart02
import Derived.Test.YtdcbpgmmopdelaaGreatPart00
set_option linter.all false
namespace Orr
open Go
def Cut(l:Fv)(m:Nat):Prop:=m<=l.length/\(∀j,m<=j->j<l.length->l[j]? = some 0)/\(0<m->∃x,l[m-1]? = some x/\x≠0)
def val:Fv->Nat
 | []=>0
 |x::l=>x+4294967296*val l
def fD(l:Fv):Prop:=(∀x∈l,x<4294967296)/\(l≠[]->∃x,l[l.length-1]? = some x/\x≠0)
def sz(x:Nat):Nat:=if x=0 then 0 else x.log2+1
theorem La{x k:Nat}:sz x<=k↔x<2^k:=by
 unfold sz
 split
 ·rename_i h;subst h;simp[Nat.pow_pos]
 ·rename_i h;rw[Nat.succ_le_iff,Nat.log2_lt h]
theorem HM(x:Nat):x<2^sz x:=La.1 (Qn _)
theorem Pi{x y:Nat}(h:x<=y):sz x<=sz y:=La.2 (Xj h (HM y))
theorem Qv0(x y:Nat):sz (x+y)<=max (sz x) (sz y)+1:=by
 rw[La,Zq];have h1:x<2^max (sz x) (sz y):=La.1 (Nat.le_max_left _ _);have h2:y<2^max (sz x) (sz y):=La.1 (Ux _ _);omega
theorem Qmm(x y:Nat):sz (x*y)<=sz x+sz y:=by
 rw[La,Xs];rcases Qx y with h|h
 ·subst h;simp[Zy]
 ·exact Nat.mul_lt_mul_of_lt_of_le (HM x) (Yn (HM y)) (by exact Zy (by decide))
theorem Qv2{x:Nat}(h:0<x):0<sz x:=by
 unfold sz;split
 ·omega
 ·omega
theorem D2(l r:Fv):val (l++r)=val l+4294967296^l.length*val r:=by
 induction l with
 |nil=>simp[val]
 |cons x l ih=>simp only[Xa,val,Zf,ih,Zq];grind
theorem MS(k:Nat):val (List.replicate k 0)=0:=by
 induction k with
 |zero=>rfl
 |succ k ih=>simp[Yh,val,ih]
theorem Ai(l:Fv)(h:∀x∈l,x<4294967296):val l<4294967296^l.length:=by
 induction l with
 |nil=>simp[val]
 |
  cons x l ih =>
  have h1:=h x (Qw ..);have h2:=ih λy hy=>h y (Qi _ hy)
  simp only[val,Zf,Zq];omega
theorem Ra(l:Fv)(i x:Nat)(h:l[i]? = some x):val (l.take (i+1))=val (l.take i)+4294967296^i*x:=by
 have hi:i<l.length:=(Qd.1 h).1;rw[X2,h,D2];simp only[Option.toList,Qz,Z8 (Yn hi),val];simp
theorem Qdy{l:Fv}{m:Nat}(h:Cut l m):l.drop m=List.replicate (l.length-m) 0:=by
 apply X1;intro i;rw[Xi,Yu]
 split
 ·rename_i hi;exact h.2.1 (m+i) (by omega) (by omega)
 ·rw[Qt (by have:=h.1;omega)]
theorem Qot{l:Fv}{m:Nat}(h:Cut l m):val (l.take m)=val l:=by
 have:l=l.take m++l.drop m:=(Zh m l).symm
 conv=>rhs;rw[this,Qdy h,D2,MS]
 simp
theorem Qos{l:Fv}{m:Nat}(h:Cut l m)(hl:∀x∈l,x<4294967296):fD (l.take m):=by
 refine⟨λx hx=>hl x (Qq hx),λhne=>?_⟩;have hm:0<m:=by
  rcases Qx m with e|e
  ·subst e;simp at hne
  ·exact e
 obtain⟨x,hx,hx0⟩:=h.2.2 hm;have hlen:(l.take m).length=m:=by rw[Qz];have:=h.1;omega
 refine⟨x,?_,hx0⟩;rw[hlen,Jv,if_pos (by omega),hx]
theorem HL{l:Fv}(h:fD l)(hne:l≠[]):4294967296^(l.length-1)<=val l:=by
 obtain⟨x,hx,hx0⟩:=h.2 hne;have hlen:0<l.length:=Yx.2 hne;have:=Ra l (l.length-1) x hx;rw[show l.length-1+1=l.length from by omega,Za]at this;rw[this]
 calc 4294967296^(l.length-1)=4294967296^(l.length-1)*1:=by rw[Y0]
  _<=4294967296^(l.length-1)*x:=Zl _ (by omega)
  _<=_:=Nat.le_add_left _ _
theorem Qp4{l:Fv}(h:fD l):32*l.length<=sz (val l)+31:=by
 rcases l with _|⟨x,l⟩
 ·simp
 ·have h1:=HL h (by simp);have h2:=HM (val (x::l));have h3:(4294967296:Nat)^((x::l).length-1)<2^sz (val (x::l)):=Xj h1 h2;rw[show(4294967296:Nat)=2^32 from by decide,<-Fe]at h3;have:=(Nat.pow_lt_pow_iff_right (by decide:1<2)).1 h3;omega
theorem IG{l:Fv}(h:fD l):val l=0↔l=[]:=by
 constructor
 ·intro h0;apply Classical.byContradiction;intro hne;have:=HL h hne;have:0<4294967296^(l.length-1):=Zy (by decide);omega
 ·rintro rfl;rfl
theorem Qbz:∀{l r:Fv},fD l->fD r->val l=val r->l=r
 | [],r,_,hr,h=>((IG hr).1 h.symm).symm
 |x::l,[],hl,_,h=>(IG hl).1 h
 |
  x::l,y::r,hl,hr,h=>by
  have hx:=hl.1 x (Qw ..);have hy:=hr.1 y (Qw ..);simp only[val]at h;have h1:x=y:=by omega
  have h2:val l=val r:=by omega
  have tail:∀{z:Nat} {l:Fv},fD (z::l)->fD l:=λ{z l} hl=>⟨λu hu=>hl.1 u (Qi _ hu),λhne=>by
   obtain⟨u,hu,hu0⟩:=hl.2 (by simp);refine⟨u,?_,hu0⟩;have:=Yx.2 hne;rw[Zf,show l.length+1-1=(l.length-1)+1 from by omega,Yt]at hu;exact hu⟩
  rw[h1,Qbz (tail hl) (tail hr) h2]
theorem Ew{l r:Fv}(hl:fD l)(hr:fD r)(h:l.length<r.length):val l<val r:=by
 have h1:=Ai l hl.1;have h2:=HL hr (by rintro rfl;simp at h);have:(4294967296:Nat)^l.length<=4294967296^(r.length-1):=Zs (by decide) (by omega);omega
theorem XK(l:Fv)(k x:Nat)(hx:l[k]? = some x):val l=val (l.take k)+4294967296^k*(x+4294967296*val (l.drop (k+1))):=by
 have hk:k<l.length:=(Qd.1 hx).1;have e:l=l.take k++(x::l.drop (k+1)):=by
  have h2:l[k]=x:=(Qd.1 hx).2;rw[<-h2,<-Xc hk,Zh]
 have h1:(l.take k).length=k:=by rw[Qz];omega
 conv=>lhs;rw[e,D2,h1]
 rfl
theorem Qc1{l r:Fv}{k x y:Nat}(hl:∀x∈l,x<4294967296)(hd:l.drop (k+1)=r.drop (k+1))(hx:l[k]? = some x)(hy:r[k]? = some y)(h:x<y):val l<val r:=by
 rw[XK l k x hx,XK r k y hy,hd];have h1:=Ai (l.take k) (λx hx=>hl x (Qq hx));have h2:(l.take k).length<=k:=by rw[Qz];omega
 have h3:(4294967296:Nat)^(l.take k).length<=4294967296^k:=Zs (by decide) h2;have h4:4294967296^k*(x+1+4294967296*val (r.drop (k+1)))<=4294967296^k*(y+4294967296*val (r.drop (k+1))):=Zl _ (by omega);rw[show x+1+4294967296*val (r.drop (k+1))=(x+4294967296*val (r.drop (k+1)))+1 from by omega,Jg,Y0]at h4;omega
theorem Qd4{l r:Fv}{k x:Nat}(hd:l.drop (k+1)=r.drop (k+1))(hx:l[k]? = some x)(hy:r[k]? = some x):l.drop k=r.drop k:=by
 obtain⟨h1,e1⟩:=Qd.1 hx;obtain⟨h2,e2⟩:=Qd.1 hy;rw[Xc h1,Xc h2,hd,e1,e2]
def JO(x y:Nat):Int:=if x<y then -1 else if y<x then 1 else 0
theorem BI{x y:Nat}(h:x<y):JO x y=-1:=by unfold JO;rw[if_pos h]
theorem BA{x y:Nat}(h:y<x):JO x y=1:=by unfold JO;rw[if_neg (by omega),if_pos h]
theorem Qac{x y:Nat}(h:x=y):JO x y=0:=by unfold JO;rw[if_neg (by omega),if_neg (by omega)]
theorem Qvb{k q:Nat}(hq:q<4294967296):(4294967296*k) ||| q=4294967296*k+q:=by
 have:=Uo (i:=32) (b:=q) (by omega) k;simpa using this.symm
theorem De(o:Fv)(i v:Nat):(o.set i v).take i=o.take i:=by
 apply X1;intro j;rw[Jv,Jv]
 split
 ·rw[Yq (by omega)]
 ·rfl
theorem JH(o:Fv)(i v:Nat)(h:i<o.length):val ((o.set i v).take (i+1))=val (o.take i)+4294967296^i*v:=by
 rw[Ra (o.set i v) i v (by rw[Jq h]),De]
theorem aB(r:Fv)(i:Nat)(h:r.length<=i):r.take (i+1)=r.take i:=by
 rw[Qp (by omega),Qp h]
theorem nF{r:Fv}{i y:Nat}(hy:r[i]? = some y\/(r.length<=i/\y=0)):val (r.take (i+1))=val (r.take i)+4294967296^i*y:=by
 rcases hy with hy|⟨h,rfl⟩
 ·exact Ra r i y hy
 ·rw[aB r i h];omega
theorem fL{o l r:Fv}{i x y s cy:Nat}(ho:i<o.length)(hx:l[i]? = some x)(hy:r[i]? = some y\/(r.length<=i/\y=0))
 (h:val (o.take i)+cy*4294967296^i=val (l.take i)+val (r.take i)) (hs:s=x+cy+y) :
 val ((o.set i (s % 4294967296)).take (i+1))+(s / 4294967296)*4294967296^(i+1)=val (l.take (i+1))+val (r.take (i+1)):=by
 rw[JH o i _ ho,Ra l i x hx,nF hy,Zq];have e:s=4294967296*(s / 4294967296)+s % 4294967296:=(Xx s 4294967296).symm;generalize s / 4294967296=q at *;generalize s % 4294967296=m at *;generalize 4294967296^i=p at *;grind
theorem Dy{o:Fv}(h:∀x∈o,x<4294967296)(i v:Nat)(hv:v<4294967296):∀x∈o.set i v,x<4294967296:=by
 intro x hx;rcases Y8 hx with h'|h'
 ·exact h x h'
 ·omega
theorem Qml{o l r:Fv}{i x y s b:Nat}(ho:i<o.length)(hx:l[i]? = some x)(hy:r[i]? = some y\/(r.length<=i/\y=0))(hxb:x<4294967296)(hyb:y<4294967296)(hb:b<=1)
 (h:val (o.take i)+val (r.take i)=val (l.take i)+b*4294967296^i) (hs:s=(x+18446744073709551616-b-y) % 18446744073709551616) :
 val ((o.set i (s % 4294967296)).take (i+1))+val (r.take (i+1))=val (l.take (i+1))+(s / 9223372036854775808)*4294967296^(i+1)/\s / 9223372036854775808<=1:=by
 rw[JH o i _ ho,Ra l i x hx,nF hy,Zq];by_cases hlt:x<b+y
 ·have e1:s=18446744073709551616+x-b-y:=by omega
  have e2:s / 9223372036854775808=1:=by omega
  have e3:s % 4294967296+b+y=x+4294967296:=by omega
  rw[e2];generalize s % 4294967296=m at *;generalize 4294967296^i=p at *;exact⟨by grind,by omega⟩
 ·have e1:s=x-b-y:=by omega
  have e2:s / 9223372036854775808=0:=by omega
  have e3:s % 4294967296+b+y=x:=by omega
  rw[e2];generalize s % 4294967296=m at *;generalize 4294967296^i=p at *;exact⟨by grind,by omega⟩
theorem OE(o:Fv)(i v z:Nat)(hz:o[i]? = some z):val (o.set i v)+4294967296^i*z=val o+4294967296^i*v:=by
 have hi:i<o.length:=(Qd.1 hz).1;have h1:=XK o i z hz;have h2:=XK (o.set i v) i v (by rw[Jq hi]);have e:(o.set i v).drop (i+1)=o.drop (i+1):=by
  apply X1;intro j;rw[Xi,Xi,Yq (by omega)]
 rw[De,e]at h2;rw[h1,h2];generalize 4294967296^i=p;grind
theorem VW{x y:Nat}(hx:x<4294967296)(hy:y<4294967296):x*y<=18446744065119617025:=by
 have:=Xl (show x<=4294967295 by omega) (show y<=4294967295 by omega);omega
theorem Qka{o' r:Fv}{i k x y z s cy V:Nat}(hz:o'[i+k]? = some z)(hy:r[k]? = some y)
 (h:val o'+cy*4294967296^(i+k)=V+4294967296^i*x*val (r.take k)) (hs:s=x*y+z+cy) :
 val (o'.set (i+k) (s % 4294967296))+(s / 4294967296)*4294967296^(i+(k+1))=V+4294967296^i*x*val (r.take (k+1)):=by
 have h1:=OE o' (i+k) (s % 4294967296) z hz;rw[Ra r k y hy,show i+(k+1)=(i+k)+1 from by omega,Zq];have e:s=4294967296*(s / 4294967296)+s % 4294967296:=(Xx s 4294967296).symm;have hp:(4294967296:Nat)^(i+k)=4294967296^i*4294967296^k:=Xs _ _ _;generalize s / 4294967296=q at *;generalize s % 4294967296=m at *;generalize val (o'.set (i+k) m)=A at *;rw[hp]at h h1 ⊢;clear hz hy hp;generalize val (r.take k)=R at *;generalize val o'=O at *;generalize (4294967296:Nat)^i=pi at *;generalize (4294967296:Nat)^k=pk at *;grind
theorem Qj9{o' l r:Fv}{i x cy V:Nat}(hz:o'[i+r.length]? = some 0)(hx:l[i]? = some x)(hcy:cy<4294967296)(hV:V=val (l.take i)*val r)
 (h:val o'+cy*4294967296^(i+r.length)=V+4294967296^i*x*val (r.take r.length)) :
 val (o'.set (i+r.length) (cy % 4294967296))=val (l.take (i+1))*val r:=by
 have h1:=OE o' (i+r.length) (cy % 4294967296) 0 hz;rw[Xf hcy]at *;rw[Za]at h;rw[Ra l i x hx];clear hz hx;generalize (4294967296:Nat)^(i+r.length)=p at *;generalize (4294967296:Nat)^i=pi at *;grind
end Orr
namespace Orr
theorem TU(l:Fv)(k x:Nat)(hx:l[k]? = some x):val (l.drop k)=x+4294967296*val (l.drop (k+1)):=by
 obtain⟨h,e⟩:=Qd.1 hx;rw[Xc h,e];rfl
theorem ER(o:Fv)(i v k:Nat)(h:i<k):(o.set i v).drop k=o.drop k:=by
 apply X1;intro j;rw[Xi,Xi,Yq (by omega)]
theorem Qkf{l o:Fv}{k x w r s:Nat}(hx:l[k]? = some x)(hxb:x<4294967296)(ho:k<o.length)(hw:0<w)(hr:r<w)
 (h:val (l.drop (k+1))=w*val (o.drop (k+1))+r) (hs:s=r*4294967296+x) :
 s / w<4294967296/\s % w<w/\val (l.drop k)=w*val ((o.set k (s / w % 4294967296)).drop k)+s % w:=by
 have h1:s<w*4294967296:=by
  have:(r+1)*4294967296<=w*4294967296:=Qy _ hr;omega
 have h2:s / w<4294967296:=Jw h1;refine⟨h2,Xp _ hw,?_⟩;rw[Xf h2,TU l k x hx,TU (o.set k (s / w)) k (s / w) (Jq ho),ER o k _ (k+1) (by omega),h];have e:=Xx s w;generalize s / w=q at *;generalize s % w=m at *;clear hx h;grind
theorem Qd8{B X Y q top nx Yr h3 Xr p:Nat}(hY:Y=(top*B+nx)*p+Yr)(hX:X=h3*p+Xr)(hXr:Xr<p)(hq:q*Y<=X){head x2:Nat}(h3e:h3=head*B+x2)(hx2:x2<B)(ht:0<top) :
 q<=head / top:=by
 rw[Wy ht];rcases Q8 head (q*top)with h|h
 ·exfalso;have h1:(head+1)*B*p<=q*top*B*p:=Qy _ (Qy _ h);have h2:q*top*B*p<=q*Y:=by
   rw[hY,Jg];have:q*((top*B+nx)*p)=q*top*B*p+q*nx*p:=by grind
   omega
  have h4:h3*p+p<=(head+1)*B*p:=by
   have:(h3+1)*p<=(head+1)*B*p:=Qy _ (by rw[h3e,Xq];omega);have e:(h3+1)*p=h3*p+p:=by grind
   omega
  omega
 ·exact h
theorem Qip{B X Y q top nx Yr h3 Xr p g r head x2:Nat}(hY:Y=(top*B+nx)*p+Yr)(hX:X=h3*p+Xr)(hXr:Xr<p)(hq:q*Y<=X)(h3e:h3=head*B+x2)(hg:g*top+r=head)
 (hc:g*nx>r*B+x2) (hle:q<=g):q<=g-1:=by
 rcases V8 hle with h|h
 ·exfalso;subst h;have h1:h3+1<=q*(top*B+nx):=by
   have e:q*(top*B+nx)=q*top*B+q*nx:=by grind
   have e2:head*B=q*top*B+r*B:=by rw[<-hg];grind
   rw[h3e,e,e2];omega
  have h2:(h3+1)*p<=q*(top*B+nx)*p:=Qy _ h1;have h4:q*(top*B+nx)*p<=q*Y:=by
   have:q*((top*B+nx)*p)=q*(top*B+nx)*p:=by grind
   rw[hY,Jg q ((top*B+nx)*p) Yr,this];exact V2 _ _
  have e:(h3+1)*p=h3*p+p:=by grind
  omega
 ·omega
theorem Qo3{B X Y top nx Yr h3 Xr p g r head x2:Nat}(hY:Y=(top*B+nx)*p+Yr)(hYr:Yr<p)(hX:X=h3*p+Xr)(h3e:h3=head*B+x2)(hg:g*top+r=head)(ht:0<top)
 (hc:g*nx<=r*B+x2) (hgB:g<=B):(g-1)*Y<=X:=by
 rcases Qx g with h0|h0
 ·subst h0;simp
 ·obtain⟨k,rfl⟩:∃k,g=k+1:=⟨g-1,by omega⟩;simp only[Ym];have h1:(k+1)*(top*B+nx)<=h3:=by
   have e:(k+1)*(top*B+nx)=(k+1)*top*B+(k+1)*nx:=by grind
   have e2:head*B=(k+1)*top*B+r*B:=by rw[<-hg];grind
   rw[h3e,e,e2];omega
  have h2:(k+1)*(top*B+nx)*p<=h3*p:=Qy _ h1;have h3':k*Yr<=k*p:=Zl _ (by omega);have h5:B<=top*B:=Ws _ ht;have h4:k*p<=(top*B+nx)*p:=Qy _ (by omega);have e1:k*Y=k*(top*B+nx)*p+k*Yr:=by rw[hY];grind
  have e2:(k+1)*(top*B+nx)*p=k*(top*B+nx)*p+(top*B+nx)*p:=by grind
  omega
theorem sE{o x y:Fv}{i u w g c b p s:Nat}(ho:i<o.length)(hu:x[i]? = some u)(hw:y[i]? = some w)(hub:u<4294967296)(hb:b<=1)
 (h:val (o.take i)+g*val (y.take i)=val (x.take i)+(c+b)*4294967296^i) (hp:p=g*w+c)
 (hs:s=((u+18446744073709551616-p % 4294967296) % 18446744073709551616+18446744073709551616-b) % 18446744073709551616) :
 val ((o.set i (s % 4294967296)).take (i+1))+g*val (y.take (i+1))=val (x.take (i+1))+(p / 4294967296+s / 9223372036854775808)*4294967296^(i+1)/\s / 9223372036854775808<=1:=by
 rw[JH o i _ ho,Ra x i u hu,Ra y i w hw,Zq];have ep:p=4294967296*(p / 4294967296)+p % 4294967296:=(Xx p 4294967296).symm;have Ee:p % 4294967296<4294967296:=Xp _ (by decide);generalize p / 4294967296=ph at *;generalize p % 4294967296=pl at *;have key:s % 4294967296+pl+b=u+(s / 9223372036854775808)*4294967296/\s / 9223372036854775808<=1:=by omega
 refine⟨?_,key.2⟩;have k1:=key.1;generalize s % 4294967296=m at *;generalize s / 9223372036854775808=b' at *;generalize (4294967296:Nat)^i=P at *;clear hs hub hu hw ho Ee key;have e1:g*(val (y.take i)+P*w)=g*val (y.take i)+P*(g*w):=by grind
 have e2:g*w+c=4294967296*ph+pl:=by omega
 have e3:P*(g*w)+P*c=P*(4294967296*ph)+P*pl:=by rw[<-Jg,<-Jg,e2]
 have e4:P*m+P*pl+P*b=P*u+P*(b'*4294967296):=by rw[<-Jg,<-Jg,<-Jg,k1]
 grind
theorem kL{o x y:Fv}{i u w g c b:Nat}(ho:i<o.length)(hu:x[i]? = some u)(hw:y[i]? = some w)(hub:u<4294967296)(hb:b<=1)
 (h:val (o.take i)+g*val (y.take i)=val (x.take i)+(c+b)*4294967296^i) {p s:Nat} (hp:p=g*w+c)
 (hs:s=((u+18446744073709551616-p % 4294967296) % 18446744073709551616+18446744073709551616-b) % 18446744073709551616) :
 val ((o.set i (s % 4294967296)).take (i+1))+g*val (y.take (i+1))=val (x.take (i+1))+(p / 2^32+s / 2^63)*4294967296^(i+1)/\s / 2^63<=1 :=
 sE ho hu hw hub hb h hp hs
theorem Ed{l:Fv}{k c:Nat}(hl:l.length=k+1)(hc:l[k]? = some c):val l=val (l.take k)+4294967296^k*c:=by
 rw[<-Ra l k c hc,Qp (by omega)]
theorem Ld{l:Fv}(hb:∀u∈l,u<4294967296){k:Nat}(hk:k≤l.length):val (l.take k)<4294967296^k:=by
 have:=Ai (l.take k) (λu hu=>hb u (Qq hu));rwa[Qz,Z8 hk]at this
theorem GN{o x:Fv}{i:Nat}(h:o.drop i=x.drop i):o[i]? = x[i]? := by
 have:=congrArg (·[0]?) h;simpa using this
theorem zG{o x:Fv}{i v:Nat}(h:o.drop i=x.drop i):(o.set i v).drop (i+1)=x.drop (i+1):=by
 rw[ER o i v (i+1) (by omega)];have:=congrArg (List.drop 1) h;simpa[Kl]using this
structure Dig(x l:List Nat)(n top nx xn x1 x2:Nat):Prop where
 hn:2<=n
 hl:l.length=n
 hx:x.length=n+1
 lb:∀u∈l,u<4294967296
 xb:∀u∈x,u<4294967296
 ltop:l[n-1]? = some top
 lnx:l[n-2]? = some nx
 xn:x[n]? = some xn
 x1:x[n-1]? = some x1
 x2:x[n-2]? = some x2
 top0:0<top
 lt:val x<val l*4294967296
section
variable{x l:Fv}{n top nx xn x1 x2:Nat}(D:Dig x l n top nx xn x1 x2)
include D
theorem Dig.parts:∃p Yr Xr,val l=(top*4294967296+nx)*p+Yr/\Yr<p/\val x=((xn*2^32+x1)*4294967296+x2)*p+Xr/\Xr<p:=by
 obtain⟨hn,hl,hx,lb,xb,ltop,lnx,exn,ex1,ex2,_,_⟩:=D;obtain⟨k,rfl⟩:∃k,n=k+2:=⟨n-2,by omega⟩;simp only[show k+2-1=k+1 from by omega,Ym]at *;refine⟨4294967296^k,val (l.take k),val (x.take k),?_,Ld lb (by omega),?_,Ld xb (by omega)⟩
 ·rw[Ed hl ltop,Ra l k nx lnx,Zq];generalize (4294967296:Nat)^k=p;grind
 ·have Ar:(2:Nat)^32=4294967296:=by decide
  have q1:(4294967296:Nat)^(k+1)=4294967296^k*4294967296:=Zq _ _;have q2:(4294967296:Nat)^(k+2)=4294967296^k*4294967296*4294967296:=by rw[<-q1];exact Zq _ _
  rw[Ed hx exn,Ra x (k+1) x1 ex1,Ra x k x2 ex2,q1,q2,Ar];clear q1 q2;generalize (4294967296:Nat)^k=p;grind
theorem Dig.Ypos:0<val l:=by
 obtain⟨p,Yr,Xr,hY,hYr,_,_⟩:=D.parts;have h1:0<top*4294967296+nx:=by have:=D.top0;omega
 have:=Y3 h1 (show 0<p by omega);omega
theorem Dig.qlt:val x / val l<4294967296:=Jw D.lt
theorem Dig.qle:val x / val l*val l<=val x:=Nat.div_mul_le_self _ _
theorem Dig.bnd:top<4294967296/\nx<4294967296/\xn<4294967296/\x1<4294967296/\x2<4294967296 :=
 ⟨D.lb _ (Qa D.ltop),D.lb _ (Qa D.lnx),D.xb _ (Qa D.xn),D.xb _ (Qa D.x1),D.xb _ (Qa D.x2)⟩
theorem Dig.head_le:xn*2^32+x1<top*4294967296+4294967296:=by
 obtain⟨p,Yr,Xr,hY,hYr,hX,hXr⟩:=D.parts;have hlt:=D.lt;have hb:=D.bnd;have Ar:(2:Nat)^32=4294967296:=by decide
 rw[Ar]at hX ⊢;rcases Q8 xn (top+1)with h|h
 ·omega
 ·exfalso;have h1:val l<(top+1)*4294967296*p:=by
   have h2:(top*4294967296+nx+1)*p<=(top+1)*4294967296*p:=Qy _ (by omega);have e:(top*4294967296+nx+1)*p=(top*4294967296+nx)*p+p:=by grind
   omega
  have h3:(top+1)*4294967296*4294967296*p<=((xn*4294967296+x1)*4294967296+x2)*p:=Qy _ (by omega);have h4:val l*4294967296<(top+1)*4294967296*p*4294967296:=Ji h1 (by decide);have e2:(top+1)*4294967296*p*4294967296=(top+1)*4294967296*4294967296*p:=by
   generalize (4294967296:Nat)=B;grind
  omega
theorem Dig.start:val x / val l<=(xn*2^32+x1) / top:=by
 obtain⟨p,Yr,Xr,hY,hYr,hX,hXr⟩:=D.parts;exact Qd8 hY hX hXr D.qle rfl D.bnd.2.2.2.2 D.top0
theorem Dig.fin{g r:Nat}(hg:g*top+r=xn*2^32+x1)(hc:g*nx<=r*2^32+x2)(hB:g<=4294967296):(g-1)*val l<=val x:=by
 obtain⟨p,Yr,Xr,hY,hYr,hX,hXr⟩:=D.parts;have Ar:(2:Nat)^32=4294967296:=by decide
 rw[Ar]at hc;exact Qo3 hY hYr hX rfl hg D.top0 hc hB
theorem Dig.round{g r:Nat}(hg:g*top+r=xn*2^32+x1)(hq:val x / val l<=g)(hc:4294967296<=g\/r*2^32+x2<g*nx) :
 1<=g/\val x / val l<=g-1/\(g-1)*top+(r+top)=xn*2^32+x1/\(4294967296<=r+top->(g-1-1)*val l<=val x/\g-1<=4294967296):=by
 have Ar:(2:Nat)^32=4294967296:=by decide
 have hb:=D.bnd;have h1:1<=g:=by
  rcases hc with h|h
  ·omega
  ·rcases Qx g with h0|h0
   ·subst h0;simp at h
   ·exact h0
 have h2:val x / val l<=g-1:=by
  rcases hc with h|h
  ·have:=D.qlt;omega
  ·obtain⟨p,Yr,Xr,hY,hYr,hX,hXr⟩:=D.parts;rw[Ar]at h;exact Qip hY hX hXr D.qle rfl hg h hq
 obtain⟨k,rfl⟩:∃k,g=k+1:=⟨g-1,by omega⟩;simp only[Ym]at h2 ⊢;have h3:k*top+(r+top)=xn*2^32+x1:=by rw[<-hg,Xq];omega
 refine⟨h1,h2,h3,λhr=>?_⟩;have hk:k<4294967296:=by
  have hh:=D.head_le;rcases Q8 k 4294967296 with h|h
  ·exact h
  ·have:=Qy top h;omega
 refine⟨D.fin h3 ?_ (by omega),by omega⟩;have h4:=VW hk hb.2.1;rw[Ar];have h5:4294967296*4294967296<=(r+top)*4294967296:=Qy _ hr;omega
theorem Dig.fin0{o:Fv}{g c b s:Nat}(ho:o.length=n+1)(hc:c<4294967296)(hb:b<=1)(hq:val x / val l<=g)
 (h:val (o.take n)+g*val l=val (x.take n)+(c+b)*4294967296^n)
 (hs:s=((xn+18446744073709551616-c) % 18446744073709551616+18446744073709551616-b) % 18446744073709551616) (CY:s / 2^63=0) :
 g % 4294967296=val x / val l/\val (o.set n (s % 4294967296))=val x % val l:=by
 have hbd:=D.bnd;have e63:(2:Nat)^63=9223372036854775808:=by decide
 rw[e63]at CY;have hs1:s=xn-c-b/\c+b<=xn:=by omega
 have hsB:s % 4294967296=xn-c-b:=by omega
 have hset:(o.set n (s % 4294967296))[n]? = some (s % 4294967296):=by rw[Jq (by omega)]
 have ev:val (o.set n (s % 4294967296))=val (o.take n)+4294967296^n*(xn-c-b):=by
  rw[Ed (by rw[Jk];exact ho) hset,De,hsB]
 have eX:=Ed D.hx D.xn;have key:val (o.set n (s % 4294967296))+g*val l=val x:=by
  rw[ev,eX];obtain⟨m,rfl⟩:∃m,xn=m+(c+b):=⟨xn-(c+b),by omega⟩;rw[show m+(c+b)-c-b=m from by omega];generalize (4294967296:Nat)^n=p at *;have:p*(m+(c+b))=p*m+(c+b)*p:=by grind
  omega
 have hg:g<=val x / val l:=by
  rw[Wy D.Ypos];omega
 have hgq:g=val x / val l:=by omega
 have hgB:=D.qlt;have hdm:=Xx (val x) (val l);rw[<-hgq]at hdm hgB ⊢;refine⟨Xf hgB,?_⟩;rw[Zo]at hdm;omega
theorem Dig.fin1{o:Fv}{g c b s:Nat}(ho:o.length=n+1)(hob:∀u∈o,u<4294967296)(hc:c<4294967296)(hb:b≤1)(hg1:(g-1)*val l≤val x)
 (h:val (o.take n)+g*val l=val (x.take n)+(c+b)*4294967296^n)
 (hs:s=((xn+18446744073709551616-c) % 18446744073709551616+18446744073709551616-b) % 18446744073709551616) (CY:¬s / 2^63=0) :
 g=val x / val l+1/\val (o.set n (s % 4294967296))+val l=val x % val l+4294967296^n*4294967296:=by
 have hbd:=D.bnd;have e63:(2:Nat)^63=9223372036854775808:=by decide
 rw[e63]at CY;have hsB:s % 4294967296+(c+b)=xn+4294967296:=by omega
 have hset:(o.set n (s % 4294967296))[n]? = some (s % 4294967296):=by rw[Jq (by omega)]
 have hm:s % 4294967296<4294967296:=Xp _ (by decide);have ev:val (o.set n (s % 4294967296))=val (o.take n)+4294967296^n*(s % 4294967296):=by
  rw[Ed (by rw[Jk];exact ho) hset,De]
 have eX:=Ed D.hx D.xn;have hlt:val (o.take n)<4294967296^n:=Ld hob (by omega);have key:val (o.set n (s % 4294967296))+g*val l=val x+4294967296^n*4294967296:=by
  rw[ev,eX];generalize (4294967296:Nat)^n=p at *;have e1:p*(s % 4294967296+(c+b))=p*(xn+4294967296):=by rw[hsB]
  rw[Jg p (s % 4294967296) (c+b),Jg p xn,Zo p (c+b)]at e1;omega
 have hvlt:val (o.set n (s % 4294967296))<4294967296^n*4294967296:=by
  have:=Ai (o.set n (s % 4294967296)) (Dy hob _ _ hm);rwa[Jk,ho,Zq]at this
 have hq1:g-1<=val x / val l:=(Wy D.Ypos).2 hg1;have hq2:val x / val l<g:=by
  rw[Kq D.Ypos];omega
 have hgq:g=val x / val l+1:=by omega
 refine⟨hgq,?_⟩;have hdm:=Xx (val x) (val l);rw[hgq,Xq]at key;rw[Zo]at hdm;omega
theorem Dig.fin2{o1 o2:Fv}{v bk:Nat}(h1:o1.length=n+1)(h1b:∀u∈o1,u<4294967296)(h2:o2.length=n+1)(h2b:∀u∈o2,u<4294967296)(hv:o1[n]? = some v)(hbk:bk≤1)
 (hk:val o1+val l=val x % val l+4294967296^n*4294967296) (h:val (o2.take n)+bk*4294967296^n=val (o1.take n)+val l) :
 val (o2.set n ((v+bk) % 4294967296))=val x % val l:=by
 have hset:(o2.set n ((v+bk) % 4294967296))[n]? = some ((v+bk) % 4294967296):=by rw[Jq (by omega)]
 rw[Ed (by rw[Jk];exact h2) hset,De];rw[Ed h1 hv]at hk;have hvb:=h1b _ (Qa hv);have hlt:val (o2.take n)<4294967296^n:=Ld h2b (by omega);have hY:val l<4294967296^n:=by have:=Ai l D.lb;rwa[D.hl]at this
 have hR:val x % val l<val l:=Xp _ D.Ypos;generalize (4294967296:Nat)^n=p at *;have e:val (o2.take n)+p*(v+bk)=val x % val l+p*4294967296:=by
  rw[Jg,Zo p bk];omega
 have hvk:v+bk=4294967296:=by
  rcases J0 (v+bk) 4294967296 with h'|h'|h'
  ·have:=Zl p h';rw[Wl]at this;omega
  ·exact h'
  ·omega
 rw[hvk]at e ⊢;simp;omega
end
end Orr
namespace Orr
open Go
theorem Qyk{g q:Nat}(h:g=q+1)(hq:q<4294967296):IntKind.u32.wrap (((g % 4294967296:Nat):Int)-1)=(q:Int):=by
 subst h;simp[IntKind.wrap,IntKind.bits,IntKind.signed];omega
def FD(o:Fv)(i n:Nat):Fv:=(o.drop i).take (n+1)
theorem WS(o:Fv)(i n:Nat):o.take i++FD o i n++o.drop (i+n+1)=o:=by
 unfold FD;rw[Zj,show o.drop (i+n+1)=(o.drop i).drop (n+1) from by rw[Kl];congr 1];rw[Zh,Zh]
theorem TR{o:Fv}{i n:Nat}(h:i+n<o.length):(FD o i n).length=n+1:=by
 unfold FD;rw[Qz,Xz];omega
theorem Qro{o:Fv}{i n x:Nat}(h:x∈FD o i n):x∈o:=Q9 (Qq h)
theorem WG(p w q:Fv):val (p++w++q)=val p+4294967296^p.length*(val w+4294967296^w.length*val q):=by
 rw[Zj,D2,D2]
structure Rest(o l:List Nat)(la n m:Nat):Prop where
 ol:o.length=la+1
 ob:∀u∈o,u<4294967296
 ll:l.length=n
 lb:∀u∈l,u<4294967296
 n2:2<=n
 top:4294967296^(n-1)<=val l
 hm:m+n<=la+1
 lt:val o<val l*4294967296^m
section
variable{o l:Fv}{la n m:Nat}
theorem Rest.zero(R:Rest o l la n (m+1)):val (o.drop (m+n+1))=0:=by
 have hlen:=TR (o:=o) (i:=m) (n:=n) (by have:=R.ol;have:=R.hm;omega);have h1:=WG (o.take m) (FD o m n) (o.drop (m+n+1));rw[WS,hlen,Qz,Z8 (by have:=R.ol;have:=R.hm;omega)]at h1;have hY:val l<4294967296^n:=by have:=Ai l R.lb;rwa[R.ll]at this
 have hlt:=R.lt;rcases Qx (val (o.drop (m+n+1)))with h|h
 ·exact h
 ·exfalso;have h2:4294967296^m*(4294967296^(n+1)*1)<=4294967296^m*(val (FD o m n)+4294967296^(n+1)*val (o.drop (m+n+1))) :=
   Zl _ (Qe (Zl _ h) (Nat.le_add_left _ _))
  have h3:val l*4294967296^(m+1)<4294967296^n*4294967296^(m+1):=Ji hY (Zy (by decide));have e:(4294967296:Nat)^n*4294967296^(m+1)=4294967296^m*(4294967296^(n+1)*1):=by
   rw[Y0,<-Xs,<-Xs];congr 1;omega
  omega
theorem Rest.dig(R:Rest o l la n (m+1)):∃top nx xn x1 x2,Dig (FD o m n) l n top nx xn x1 x2:=by
 have hwl:=TR (o:=o) (i:=m) (n:=n) (by have:=R.ol;have:=R.hm;omega);have hz:=R.zero;obtain⟨ol,ob,ll,lb,n2,htop,hm,hlt⟩:=R;have g1:∀k,k<n+1->∃u,(FD o m n)[k]? = some u:=λk hk=>⟨_,Qg (by omega)⟩
 have g2:∀k,k<n->∃u,l[k]? = some u:=λk hk=>⟨_,Qg (by omega)⟩
 obtain⟨top,ht⟩:=g2 (n-1) (by omega);obtain⟨nx,hnx⟩:=g2 (n-2) (by omega);obtain⟨xn,hxn⟩:=g1 n (by omega);obtain⟨x1,hx1⟩:=g1 (n-1) (by omega);obtain⟨x2,hx2⟩:=g1 (n-2) (by omega);have h1:=WG (o.take m) (FD o m n) (o.drop (m+n+1));rw[WS,hz,Qz,Z8 (by omega)]at h1;refine⟨top,nx,xn,x1,x2,n2,ll,hwl,lb,λu hu=>ob u (Qro hu),ht,hnx,hxn,hx1,hx2,?_,?_⟩
 ·rcases Qx top with h0|h0
  ·exfalso;subst h0;have e:=Ed (l:=l) (k:=n-1) (by omega) ht;have:=Ld lb (k:=n-1) (by omega);omega
  ·exact h0
 ·rcases Q8 (val (FD o m n)) (val l*4294967296)with h|h
  ·exact h
  ·exfalso;have h2:4294967296^m*(val l*4294967296)<=4294967296^m*(val (FD o m n)):=Zl _ h;have e:val l*(4294967296:Nat)^(m+1)=4294967296^m*(val l*4294967296):=by
    rw[Zq];generalize (4294967296:Nat)^m=p;grind
   simp only[Vo,Jh]at h1;omega
theorem Rest.next(R:Rest o l la n (m+1)){w':Fv}(hw:w'.length=(FD o m n).length)(hb:∀u∈w',u<4294967296)(hv:val w'=val (FD o m n) % val l){X0:Nat}{q:Fv}(hq:m<q.length)
 (hX:val (q.drop (m+1))*4294967296^(m+1)*val l+val o=X0) :
 Rest (o.take m++w'++o.drop (m+n+1)) l la n m/\val ((q.set m (val (FD o m n) / val l)).drop m)*4294967296^m*val l+val (o.take m++w'++o.drop (m+n+1))=X0:=by
 have hwl:=TR (o:=o) (i:=m) (n:=n) (by have:=R.ol;have:=R.hm;omega);have hz:=R.zero;obtain⟨ol,ob,ll,lb,n2,htop,hm,hlt⟩:=R;have hY:0<val l:=X7 (Zy (by decide)) htop;have h1:=WG (o.take m) (FD o m n) (o.drop (m+n+1));have h2:=WG (o.take m) w' (o.drop (m+n+1));rw[WS,hz,Qz,Z8 (by omega)]at h1;rw[hz,Qz,Z8 (by omega)]at h2;simp only[Vo,Jh]at h1 h2;have hp:=Ld ob (k:=m) (by omega);have hr:val w'<val l:=by rw[hv];exact Xp _ hY
 have hdm:=Xx (val (FD o m n)) (val l);rw[<-hv]at hdm;refine⟨⟨?_,?_,ll,lb,n2,htop,by omega,?_⟩,?_⟩
 ·simp only[Q6,Qz,Xz,hw,hwl];omega
 ·intro u hu;rcases Qr.1 hu with hu|hu
  ·rcases Qr.1 hu with hu|hu
   ·exact ob u (Qq hu)
   ·exact hb u hu
  ·exact ob u (Q9 hu)
 ·rw[h2];have:4294967296^m*(val w'+1)<=4294967296^m*val l:=Zl _ hr;rw[Zo (val l)];rw[Jg]at this;omega
 ·have hset:(q.set m (val (FD o m n) / val l))[m]? = some (val (FD o m n) / val l):=by rw[Jq hq]
  rw[TU _ m _ hset,ER q m _ (m+1) (by omega),h2,<-hX,h1,Zq];generalize val (FD o m n) / val l=d at *;generalize (4294967296:Nat)^m=p at *;generalize val (q.drop (m+1))=Q at *;have e:p*val (FD o m n)=p*(val l*d)+p*val w':=by rw[<-hdm,Jg]
  rw[e];clear h1 h2 hX hset hp hdm hv hz hwl hlt;generalize val (o.take m)=A;generalize (4294967296:Nat)=B;grind
end
theorem eS{x y:Nat}{X Y:Fv}{la n s:Nat}(hX:val X=x*2^s)(hY:val Y=y*2^s)(hXl:X.length=la+1)(hXb:∀u∈X,u<4294967296)(hYl:Y.length=n)(hYb:∀u∈Y,u<4294967296)(hn:2≤n)
 (hx:x<4294967296^la) (hy:4294967296^(n-1)<=y) (hle:n<=la):Rest X Y la n (la-n+1):=by
 have hs:0<2^s:=Zy (by decide);refine⟨hXl,hXb,hYl,hYb,hn,?_,by omega,?_⟩
 ·rw[hY];have:=Xl hy hs;omega
 ·rw[hX,hY];have h1:x*2^s<4294967296^la*2^s:=Ji hx hs;have h2:4294967296^(n-1)*2^s*4294967296^(la-n+1)<=y*2^s*4294967296^(la-n+1):=Qy _ (Qy _ hy);have e:4294967296^(n-1)*2^s*4294967296^(la-n+1)=4294967296^la*2^s:=by
   rw[Nat.mul_right_comm,<-Xs];congr 2;omega
  omega
theorem Qlh{x y s r:Nat}{q:Fv}(hy:0<y)(h:val q*(y*2^s)+r=x*2^s)(hr:r<y*2^s):val q=x / y/\r=x % y*2^s:=by
 have hs:0<2^s:=Zy (by decide);have e1:x*2^s / (y*2^s)=val q:=by
  rw[<-h,Zo,U7 (Y3 hy hs),Kt hr,Jh]
 have e2:x*2^s % (y*2^s)=r:=by
  rw[<-h,Zo (val q),U8,Xf hr]
 rw[Nat.mul_div_mul_right _ _ hs]at e1;rw[Nat.mul_mod_mul_right]at e2;exact⟨e1.symm,e2.symm⟩
end Orr
namespace Orr
theorem aC{o:Fv}{n:Nat}(hn:n<=o.length)(h:val o<4294967296^n):val (o.take n)=val o:=by
 have h1:val o=val (o.take n)+4294967296^(o.take n).length*val (o.drop n):=by rw[<-D2,Zh]
 rw[Qz,Z8 hn]at h1;rcases Qx (val (o.drop n))with h0|h0
 ·rw[h0]at h1;omega
 ·have:=Zl (4294967296^n) h0;omega
def Gv(b:Bool)(m:Nat):Int:=if b=true then -(m:Int)else(m:Int)
theorem P6(b:Bool)(m:Nat):(Gv b m).natAbs=m:=by unfold Gv;split <;> omega
theorem IR(b:Bool)(m:Nat):decide (Gv b m<0)=(b && decide (0<m)):=by
 unfold Gv;cases b <;> simp <;> omega
def Gy(z:Int):Nat:=sz z.natAbs
theorem Ho(x y:Int):Gy (x*y)<=Gy x+Gy y:=by unfold Gy;rw[Int.natAbs_mul];exact Qmm _ _
theorem KP(x y:Int):Gy (x+y)<=max (Gy x) (Gy y)+1:=by
 unfold Gy;exact Qe (Pi (Int.natAbs_add_le x y)) (Qv0 _ _)
theorem T0(x:Int):Gy (-x)=Gy x:=by unfold Gy;rw[Int.natAbs_neg]
theorem Qbe(x y:Int):Gy (x-y)<=max (Gy x) (Gy y)+1:=by
 rw[Int.sub_eq_add_neg];have:=KP x (-y);rwa[T0]at this
theorem Pn{x:Int}{k:Nat}:Gy x<=k↔x.natAbs<2^k:=La
theorem RO{x k:Nat}(h:2^k<=x):sz x=k+sz (x / 2^k):=by
 have e:∀m,sz x<=m↔k+sz (x / 2^k)<=m:=by
  intro m;by_cases hm:k<=m
  ·obtain⟨j,rfl⟩:=Nat.le.dest hm;rw[Nat.add_le_add_iff_left,La,La,Kq (Zy (by decide)),<-Xs,Yl j k]
  ·constructor
   ·intro h1;rw[La]at h1;have:=Nat.pow_lt_pow_right (a:=2) (by decide) (Uy hm);omega
   ·intro h1;omega
 exact Vq ((e _).2 (Qn _)) ((e _).1 (Qn _))
theorem aN:∀{l:Fv} {y:Nat},fD l->l[l.length-1]? = some y->sz (val l)=32*(l.length-1)+sz y
 | [],y,_,h=>by simp at h
 |
  [x],y,_,h=>by
  simp at h;subst h;simp[val]
 |
  x::z::l,y,hn,h=>by
  have h32:(4294967296:Nat)=2^32:=by decide
  have hn':fD (z::l):=⟨λu hu=>hn.1 u (Qi _ hu),λ_=>by
   obtain⟨u,hu,h0⟩:=hn.2 (by simp);exact⟨u,by simpa using hu,h0⟩⟩
  have ih:=aN hn' (y:=y) (by simpa using h);have hx:=hn.1 x (by simp);have hp:0<val (z::l):=by
   rcases Qx (val (z::l))with h0|h0
   ·exact absurd ((IG hn').1 h0) (by simp)
   ·exact h0
  have e:val (x::z::l)=x+4294967296*val (z::l):=rfl;rw[RO (k:=32) (by rw[e,<-h32];omega),show val (x::z::l) / 2^32=val (z::l) from by rw[e,<-h32];omega,ih];simp only[Zf];omega
def Ac(x y:Int):Int:=if x<y then -1 else if y<x then 1 else 0
theorem OP{x:Nat}:sz x=0↔x=0:=by
 constructor
 ·intro h;have:=HM x;rw[h]at this;simpa using this
 ·rintro rfl;rfl
theorem FG(z:Int):(z<0/\Int.sign z=-1)\/(z=0/\Int.sign z=0)\/(0<z/\Int.sign z=1):=by
 rcases Yg z 0 with h|h|h
 ·exact .inl ⟨h,Ju h⟩
 ·subst h;exact .inr (.inl ⟨rfl,rfl⟩)
 ·exact .inr (.inr ⟨h,Ye h⟩)
theorem vC{a b q r:Int}(hb:0<b)(h:r+b*q=a)(h0:0<=r)(h1:r<b):a / b=q/\a % b=r:=(Int.ediv_emod_unique hb).2 ⟨h,h0,h1⟩
theorem vD{a b q r:Int}(hb:b≠0)(h:r+b*q=a)(h0:0<=r)(h1:r<b.natAbs):a / b=q/\a % b=r:=by
 rcases Uk hb with h'|h'
 ·have:=vC (a:=a) (b:=-b) (q:=-q) (r:=r) (by omega) (by rw[U3];exact h) h0 (by omega);rw[Int.ediv_neg,Int.emod_neg]at this;exact⟨by omega,this.2⟩
 ·exact vC h' h h0 (by omega)
section
variable{x y:Int}{d:Bool}(hy:y=if d=true then -(y.natAbs:Int)else(y.natAbs:Int))(hp:0<y.natAbs)
include hy hp
theorem EF(hx:x=if false=true then -(x.natAbs:Int)else(x.natAbs:Int)) :
 x / y=Gv (!(false == d)) (x.natAbs / y.natAbs)/\x % y=Gv false (x.natAbs % y.natAbs):=by
 have e:=Xx x.natAbs y.natAbs;have hl:=Xp x.natAbs hp;refine vD (by omega) ?_ ?_ ?_
 ·generalize x.natAbs / y.natAbs=q at *;generalize x.natAbs % y.natAbs=r at *;generalize y.natAbs=n at *;generalize x.natAbs=m at *;subst hx hy e;unfold Gv;cases d <;> simp[Kb,K0] <;> omega
 ·unfold Gv;simp only[Bool.false_eq_true,if_false];exact Int.natCast_nonneg _
 ·unfold Gv;simp;omega
theorem BK(hx:x=if true=true then -(x.natAbs:Int)else(x.natAbs:Int))(h0:x.natAbs % y.natAbs=0) :
 x / y=Gv (!(true == d)) (x.natAbs / y.natAbs)/\x % y=Gv false (x.natAbs % y.natAbs):=by
 have e:=Xx x.natAbs y.natAbs;refine vD (by omega) ?_ ?_ ?_
 ·rw[h0]at e ⊢;generalize x.natAbs / y.natAbs=q at *;generalize y.natAbs=n at *;generalize x.natAbs=m at *;subst hx hy e;unfold Gv;cases d <;> simp[Kb,K0]
 ·unfold Gv;simp only[Bool.false_eq_true,if_false];exact Int.natCast_nonneg _
 ·unfold Gv;simp;omega
theorem EU(hx:x=if true=true then -(x.natAbs:Int)else(x.natAbs:Int))(h0:0<x.natAbs % y.natAbs) :
 x / y=Gv (!(true == d)) (x.natAbs / y.natAbs+1)/\x % y=Gv false (y.natAbs-x.natAbs % y.natAbs):=by
 have e:=Xx x.natAbs y.natAbs;have hl:=Xp x.natAbs hp;refine vD (by omega) ?_ ?_ ?_
 ·generalize x.natAbs / y.natAbs=q at *;generalize x.natAbs % y.natAbs=r at *;generalize y.natAbs=n at *;generalize x.natAbs=m at *;subst hx hy e;unfold Gv;have e2:((n-r:Nat):Int)=(n:Int)-(r:Int):=by omega
  cases d <;> simp[Kb,K0,Int.mul_add,e2] <;> omega
 ·unfold Gv;simp only[Bool.false_eq_true,if_false];exact Int.natCast_nonneg _
 ·unfold Gv;simp;omega
end
def Hx(x:Nat):Fv:=if h:x=0 then []else(x % 4294967296)::Hx (x / 4294967296)
termination_by x
decreasing_by omega
theorem Tp:Hx 0=[]:=by unfold Hx;simp
theorem A7{x:Nat}(h:x≠0):Hx x=(x % 4294967296)::Hx (x / 4294967296):=by rw[Hx];simp[h]
theorem Rm(x:Nat):val (Hx x)=x:=by
 induction x using Nat.strongRecOn with
 |
  _ x ih =>
  rcases Qx x with h|h
  ·subst h;rw[Tp];rfl
  ·rw[A7 (by omega)];simp only[val];rw[ih _ (by omega)];omega
theorem A9(x:Nat):fD (Hx x):=by
 induction x using Nat.strongRecOn with
 |
  _ x ih =>
  rcases Qx x with h|h
  ·subst h;rw[Tp];exact⟨by simp,λh=>absurd rfl h⟩
  ·rw[A7 (by omega)];obtain⟨h1,h2⟩:=ih (x / 4294967296) (by omega);refine⟨λu hu=>?_,λ_=>?_⟩
   ·rcases Qj.1 hu with rfl|hu
    ·omega
    ·exact h1 u hu
   ·by_cases h3:x / 4294967296=0
    ·rw[h3,Tp];exact⟨x % 4294967296,rfl,by omega⟩
    ·have h4:Hx (x / 4294967296)≠[]:=by rw[A7 h3];simp
     obtain⟨u,hu,hu0⟩:=h2 h4;refine⟨u,?_,hu0⟩;rcases hl:Hx (x / 4294967296)with _|⟨y,l⟩
     ·exact absurd hl h4
     ·rw[hl]at hu;simpa using hu
theorem Qjz{l:Fv}{x:Nat}(h:fD l)(hv:val l=x):l=Hx x:=Qbz h (A9 x) (by rw[hv,Rm])
theorem Ql6{o l:Fv}{i s x z:Nat}(hs:s<=31)(hx:l[i]? = some x)(hxb:x<4294967296)(hz:o[i]? = some z)(hzs:z<2^s)(hi1:i+1<o.length)(h:val (o.take (i+1))=val (l.take i)*2^s) :
 z+x*2^s % 4294967296<4294967296/\x*2^s / 2^32<2^s /\
 val (((o.set i (z+x*2^s % 4294967296)).set (i+1) (x*2^s / 2^32 % 4294967296)).take (i+2))=val (l.take (i+1))*2^s/\x*2^s % 4294967296=2^s*(x % 2^(32-s)):=by
 have Ar:(2:Nat)^32=4294967296:=by decide
 have ep:(4294967296:Nat)=2^s*2^(32-s):=by rw[<-Xs,<-Ar];congr 1;omega
 have hpos:0<2^s:=Zy (by decide);have e1:x*2^s % 4294967296=2^s*(x % 2^(32-s)):=by rw[Zo x,ep,Nat.mul_mod_mul_left]
 have hq:x*2^s / 2^32<2^s:=by
  rw[Kq (Zy (by decide)),Ar,Zo (2^s)];exact Ji hxb hpos
 have hm:x % 2^(32-s)<2^(32-s):=Xp _ (Zy (by decide));have hlow:z+x*2^s % 4294967296<4294967296:=by
  rw[e1];have:2^s*(x % 2^(32-s)+1)<=2^s*2^(32-s):=Zl _ hm;rw[<-ep,Jg,Y0]at this;omega
 have hs31:2^s<=4294967296:=by rw[<-Ar];exact Zs (by decide) (by omega)
 refine⟨hlow,hq,?_,e1⟩;have t1:=Ra o i z hz;rw[JH _ (i+1) _ (by simpa using hi1),JH o i _ (by omega),Ra l i x hx,Xf (X7 hq hs31),Zq];have e3:=Xx (x*2^s) 4294967296;rw[Ar];rw[t1]at h;generalize x*2^s / 4294967296=qh at *;generalize x*2^s % 4294967296=ql at *;generalize (4294967296:Nat)^i=P' at *;generalize 2^s=S at *;clear ep e1 hq hm hlow hs31 t1 hx hz hzs Ar hpos hxb;have e4:P'*(4294967296*qh+ql)=P'*(x*S):=by rw[e3]
 have e5:(val (l.take i)+P'*x)*S=val (l.take i)*S+P'*(x*S):=by grind
 rw[e5,<-h,<-e4];grind
theorem Ql7{o l:Fv}{i s x y:Nat}(hs:s≤31)(hx:l[i]? = some x)(hy:l[i+1]? = some y\/(l.length≤i+1/\y=0))(ho:i<o.length)(hb:∀u∈l,u<4294967296)(h:val (o.take i)=val l / 2^s % 4294967296^i) :
 val ((o.set i ((x+y*2^32) / 2^s % 4294967296)).take (i+1))=val l / 2^s % 4294967296^(i+1):=by
 rw[JH o i _ ho,h,Nat.mod_pow_succ];congr 1;congr 1;have Ar:(2:Nat)^32=4294967296:=by decide
 have ep:(4294967296:Nat)=2^s*2^(32-s):=by rw[<-Xs,<-Ar];congr 1;omega
 have hsp:=XK l i x hx;obtain⟨R,hR⟩:∃R,val (l.drop (i+1))=y+4294967296*R:=by
  rcases hy with hy|⟨h1,rfl⟩
  ·exact⟨_,TU l (i+1) y hy⟩
  ·exact⟨0,by rw[Yz h1];rfl⟩
 have ht:val (l.take i)<4294967296^i:=by
  have:=Ai (l.take i) (λu hu=>hb u (Qq hu));have hi:=(Qd.1 hx).1;rwa[Qz,Z8 (by omega)]at this
 have e1:val l / 2^s / 4294967296^i=(x+4294967296*(y+4294967296*R)) / 2^s:=by
  rw[Nat.div_div_eq_div_mul,Zo,<-Nat.div_div_eq_div_mul,hsp,hR,W7 _ _ (Zy (by decide)),Kt ht,Xd]
 rw[e1];have e2:x+4294967296*(y+4294967296*R)=(x+y*2^32)+2^s*(4294967296*(2^(32-s)*R)):=by
  have:2^s*(4294967296*(2^(32-s)*R))=(2^s*2^(32-s))*(4294967296*R):=by grind
  rw[this,<-ep,Ar];grind
 rw[e2,W7 _ _ (Zy (by decide)),Wc]
theorem Qvs{x s:Nat}(hs:s<=31)(hx:x<4294967296):x*2^s<18446744073709551616:=by
 have h1:2^s<=2^31:=Zs (by decide) hs;have h2:x*2^s<=4294967295*2^31:=Xl (by omega) h1;have h3:4294967295*2^31<18446744073709551616:=by decide
 omega
end Orr
namespace Orr
open Go
variable{P:Program}
end Orr
