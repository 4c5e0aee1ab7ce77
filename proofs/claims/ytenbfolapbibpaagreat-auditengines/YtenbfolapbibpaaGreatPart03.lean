import Derived.Test.YtenbfolapbibpaaGreatPart02
import Derived.Test.YtenbfolapbibpaaGreatPart00
set_option linter.all false
namespace Orr
open Go
def Cut(l:U8)(m:Nat):Prop:=m<=l.length/\(∀j,m<=j->j<l.length->l[j]? = some 0)/\(0<m->∃x,l[m-1]? = some x/\x≠0)
def val:U8->Nat
 | []=>0
 |x::l=>x+4294967296*val l
def gA(l:U8):Prop:=(∀x∈l,x<4294967296)/\(l≠[]->∃x,l[l.length-1]? = some x/\x≠0)
def sz(x:Nat):Nat:=if x=0 then 0 else x.log2+1
theorem Cu{x k:Nat}:sz x<=k↔x<2^k:=by
 unfold sz
 split
 ·rename_i h;subst h;simp[Nat.pow_pos]
 ·rename_i h;rw[Nat.succ_le_iff,Nat.log2_lt h]
theorem RY(x:Nat):x<2^sz x:=Cu.1 (Qm _)
theorem Tx{x y:Nat}(h:x<=y):sz x<=sz y:=Cu.2 (Xe h (RY y))
theorem Qzy(x y:Nat):sz (x+y)<=max (sz x) (sz y)+1:=by
 rw[Cu,Zs];have h1:x<2^max (sz x) (sz y):=Cu.1 (Nat.le_max_left _ _);have h2:y<2^max (sz x) (sz y):=Cu.1 (Uj _ _);omega
theorem Qn5(x y:Nat):sz (x*y)<=sz x+sz y:=by
 rw[Cu,Xu];rcases Q4 y with h|h
 ·subst h;simp[Xd]
 ·exact Nat.mul_lt_mul_of_lt_of_le (RY x) (Y4 (RY y)) (by exact Xd Fl)
theorem Qz0{x:Nat}(h:0<x):0<sz x:=by
 unfold sz;split
 ·omega
 ·omega
theorem Dk(l r:U8):val (l++r)=val l+4294967296^l.length*val r:=by
 induction l with
 |nil=>simp[val]
 |cons x l ih=>simp only[Xf,val,Q5,ih,Zs];grind
theorem MI(k:Nat):val (List.replicate k 0)=0:=by
 induction k with
 |zero=>rfl
 |succ k ih=>simp[Ym,val,ih]
theorem Dl(l:U8)(h:∀x∈l,x<4294967296):val l<4294967296^l.length:=by
 induction l with
 |nil=>simp[val]
 |
  cons x l ih =>
  have h1:=h x (Qw ..);have h2:=ih λy hy=>h y (Qh _ hy)
  simp only[val,Q5,Zs];omega
theorem Hy(l:U8)(i x:Nat)(h:l[i]? = some x):val (l.take (i+1))=val (l.take i)+4294967296^i*x:=by
 have hi:i<l.length:=(Qd.1 h).1;rw[Jv,h,Dk];simp only[Option.toList,Qq,Z8 (Y4 hi),val];simp
theorem Qep{l:U8}{m:Nat}(h:Cut l m):l.drop m=List.replicate (l.length-m) 0:=by
 apply X4;intro i;rw[Xq,Yi]
 split
 ·rename_i hi;exact h.2.1 (m+i) Fj Fj
 ·rw[Qy (by have:=h.1;omega)]
theorem Qrq{l:U8}{m:Nat}(h:Cut l m):val (l.take m)=val l:=by
 have:l=l.take m++l.drop m:=(Zf m l).symm
 conv=>rhs;rw[this,Qep h,Dk,MI]
 simp
theorem Qrp{l:U8}{m:Nat}(h:Cut l m)(hl:∀x∈l,x<4294967296):gA (l.take m):=by
 refine⟨λx hx=>hl x (Qn hx),λhne=>?_⟩;have hm:0<m:=by
  rcases Q4 m with e|e
  ·subst e;simp at hne
  ·exact e
 obtain⟨x,hx,hx0⟩:=h.2.2 hm;have hlen:(l.take m).length=m:=by rw[Qq];have:=h.1;omega
 refine⟨x,?_,hx0⟩;rw[hlen,Jp,if_pos Fj,hx]
theorem RH{l:U8}(h:gA l)(hne:l≠[]):4294967296^(l.length-1)<=val l:=by
 obtain⟨x,hx,hx0⟩:=h.2 hne;have hlen:0<l.length:=Yl.2 hne;have:=Hy l (l.length-1) x hx;rw[show l.length-1+1=l.length from Fj,Q6]at this;rw[this]
 calc 4294967296^(l.length-1)=4294967296^(l.length-1)*1:=by rw[Vk]
  _<=4294967296^(l.length-1)*x:=Zv _ Fj
  _<=_:=Wx _ _
theorem Qsp{l:U8}(h:gA l):32*l.length<=sz (val l)+31:=by
 rcases l with _|⟨x,l⟩
 ·simp
 ·have h1:=RH h Fp;have h2:=RY (val (x::l));have h3:(4294967296:Nat)^((x::l).length-1)<2^sz (val (x::l)):=Xe h1 h2;rw[show(4294967296:Nat)=2^32 from Fl,<-We]at h3;have:=(Nat.pow_lt_pow_iff_right (by decide:1<2)).1 h3;omega
theorem RR{l:U8}(h:gA l):val l=0↔l=[]:=by
 constructor
 ·intro h0;apply Classical.byContradiction;intro hne;have:=RH h hne;have:0<4294967296^(l.length-1):=Xd Fl;omega
 ·rintro rfl;rfl
theorem Qca:∀{l r:U8},gA l->gA r->val l=val r->l=r
 | [],r,_,hr,h=>((RR hr).1 h.symm).symm
 |x::l,[],hl,_,h=>(RR hl).1 h
 |
  x::l,y::r,hl,hr,h=>by
  have hx:=hl.1 x (Qw ..);have hy:=hr.1 y (Qw ..);simp only[val]at h;have h1:x=y:=Fj;have h2:val l=val r:=Fj;have tail:∀{z:Nat} {l:U8},gA (z::l)->gA l:=λ{z l} hl=>⟨λu hu=>hl.1 u (Qh _ hu),λhne=>by
   obtain⟨u,hu,hu0⟩:=hl.2 Fp;refine⟨u,?_,hu0⟩;have:=Yl.2 hne;rw[Q5,show l.length+1-1=(l.length-1)+1 from Fj,J1]at hu;exact hu⟩
  rw[h1,Qca (tail hl) (tail hr) h2]
variable{r:U8}
theorem Ex{l:U8}(hl:gA l)(hr:gA r)(h:l.length<r.length):val l<val r:=by
 have h1:=Dl l hl.1;have h2:=RH hr (by rintro rfl;simp at h);have:(4294967296:Nat)^l.length<=4294967296^(r.length-1):=Zt Fl Fj;omega
theorem ZI(l:U8)(k x:Nat)(hx:l[k]? = some x):val l=val (l.take k)+4294967296^k*(x+4294967296*val (l.drop (k+1))):=by
 have hk:k<l.length:=(Qd.1 hx).1;have e:l=l.take k++(x::l.drop (k+1)):=by
  have h2:l[k]=x:=(Qd.1 hx).2;rw[<-h2,<-Zq hk,Zf]
 have h1:(l.take k).length=k:=by rw[Qq];omega
 conv=>lhs;rw[e,Dk,h1]
 rfl
theorem Qdd{l:U8}{k x y:Nat}(hl:∀x∈l,x<4294967296)(hd:l.drop (k+1)=r.drop (k+1))(hx:l[k]? = some x)(hy:r[k]? = some y)(h:x<y):val l<val r:=by
 rw[ZI l k x hx,ZI r k y hy,hd];have h1:=Dl (l.take k) (λx hx=>hl x (Qn hx));have h2:(l.take k).length<=k:=by rw[Qq];omega
 have h3:(4294967296:Nat)^(l.take k).length<=4294967296^k:=Zt Fl h2;have h4:4294967296^k*(x+1+4294967296*val (r.drop (k+1)))<=4294967296^k*(y+4294967296*val (r.drop (k+1))):=Zv _ Fj;rw[show x+1+4294967296*val (r.drop (k+1))=(x+4294967296*val (r.drop (k+1)))+1 from Fj,X1,Vk]at h4;omega
theorem Qev{l:U8}{k x:Nat}(hd:l.drop (k+1)=r.drop (k+1))(hx:l[k]? = some x)(hy:r[k]? = some x):l.drop k=r.drop k:=by
 obtain⟨h1,e1⟩:=Qd.1 hx;obtain⟨h2,e2⟩:=Qd.1 hy;rw[Zq h1,Zq h2,hd,e1,e2]
def JB(x y:Nat):Int:=if x<y then -1 else if y<x then 1 else 0
theorem CS{x y:Nat}(h:x<y):JB x y=-1:=by unfold JB;rw[if_pos h]
theorem CH{x y:Nat}(h:y<x):JB x y=1:=by unfold JB;rw[if_neg Fj,if_pos h]
theorem Qat{x y:Nat}(h:x=y):JB x y=0:=by unfold JB;rw[if_neg Fj,if_neg Fj]
theorem Qy9{k q:Nat}(hq:q<4294967296):(4294967296*k) ||| q=4294967296*k+q:=by
 have:=Ua (i:=32) (b:=q) Fj k;simpa using this.symm
theorem Cv(o:U8)(i v:Nat):(o.set i v).take i=o.take i:=by
 apply X4;intro j;rw[Jp,Jp]
 split
 ·rw[Yz Fj]
 ·rfl
theorem JF(o:U8)(i v:Nat)(h:i<o.length):val ((o.set i v).take (i+1))=val (o.take i)+4294967296^i*v:=by
 rw[Hy (o.set i v) i v (by rw[Js h]),Cv]
theorem iR(r:U8)(i:Nat)(h:r.length<=i):r.take (i+1)=r.take i:=by
 rw[Qo Fj,Qo h]
theorem bQ{i y:Nat}(hy:r[i]? = some y\/(r.length<=i/\y=0)):val (r.take (i+1))=val (r.take i)+4294967296^i*y:=by
 rcases hy with hy|⟨h,rfl⟩
 ·exact Hy r i y hy
 ·rw[iR r i h];omega
theorem gI{o l:U8}{i x y s cy:Nat}(ho:i<o.length)(hx:l[i]? = some x)(hy:r[i]? = some y\/(r.length<=i/\y=0))
 (h:val (o.take i)+cy*4294967296^i=val (l.take i)+val (r.take i)) (hs:s=x+cy+y) :
 val ((o.set i (s % 4294967296)).take (i+1))+(s / 4294967296)*4294967296^(i+1)=val (l.take (i+1))+val (r.take (i+1)):=by
 rw[JF o i _ ho,Hy l i x hx,bQ hy,Zs];have e:s=4294967296*(s / 4294967296)+s % 4294967296:=(Xt s 4294967296).symm;generalize s / 4294967296=q at *;generalize s % 4294967296=m at *;generalize 4294967296^i=p at *;grind
theorem Dh{o:U8}(h:∀x∈o,x<4294967296)(i v:Nat)(hv:v<4294967296):∀x∈o.set i v,x<4294967296:=by
 intro x hx;rcases J9 hx with h'|h'
 ·exact h x h'
 ·omega
theorem Qn4{o l:U8}{i x y s b:Nat}(ho:i<o.length)(hx:l[i]? = some x)(hy:r[i]? = some y\/(r.length<=i/\y=0))(hxb:x<4294967296)(hyb:y<4294967296)(hb:b<=1)
 (h:val (o.take i)+val (r.take i)=val (l.take i)+b*4294967296^i) (hs:s=(x+18446744073709551616-b-y) % 18446744073709551616) :
 val ((o.set i (s % 4294967296)).take (i+1))+val (r.take (i+1))=val (l.take (i+1))+(s / 9223372036854775808)*4294967296^(i+1)/\s / 9223372036854775808<=1:=by
 rw[JF o i _ ho,Hy l i x hx,bQ hy,Zs];by_cases hlt:x<b+y
 ·have e1:s=18446744073709551616+x-b-y:=Fj;have e2:s / 9223372036854775808=1:=Fj;have e3:s % 4294967296+b+y=x+4294967296:=Fj;rw[e2];generalize s % 4294967296=m at *;generalize 4294967296^i=p at *;exact⟨Fq,Fj⟩
 ·have e1:s=x-b-y:=Fj;have e2:s / 9223372036854775808=0:=Fj;have e3:s % 4294967296+b+y=x:=Fj;rw[e2];generalize s % 4294967296=m at *;generalize 4294967296^i=p at *;exact⟨Fq,Fj⟩
theorem qH(o:U8)(i v z:Nat)(hz:o[i]? = some z):val (o.set i v)+4294967296^i*z=val o+4294967296^i*v:=by
 have hi:i<o.length:=(Qd.1 hz).1;have h1:=ZI o i z hz;have h2:=ZI (o.set i v) i v (by rw[Js hi]);have e:(o.set i v).drop (i+1)=o.drop (i+1):=by
  apply X4;intro j;rw[Xq,Xq,Yz Fj]
 rw[Cv,e]at h2;rw[h1,h2];generalize 4294967296^i=p;grind
theorem VJ{x y:Nat}(hx:x<4294967296)(hy:y<4294967296):x*y<=18446744065119617025:=by
 have:=Zg (show x<=4294967295 by omega) (show y<=4294967295 by omega);omega
theorem Ql0{o':U8}{i k x y z s cy V:Nat}(hz:o'[i+k]? = some z)(hy:r[k]? = some y)
 (h:val o'+cy*4294967296^(i+k)=V+4294967296^i*x*val (r.take k)) (hs:s=x*y+z+cy) :
 val (o'.set (i+k) (s % 4294967296))+(s / 4294967296)*4294967296^(i+(k+1))=V+4294967296^i*x*val (r.take (k+1)):=by
 have h1:=qH o' (i+k) (s % 4294967296) z hz;rw[Hy r k y hy,show i+(k+1)=(i+k)+1 from Fj,Zs];have e:s=4294967296*(s / 4294967296)+s % 4294967296:=(Xt s 4294967296).symm;have hp:(4294967296:Nat)^(i+k)=4294967296^i*4294967296^k:=Xu _ _ _;generalize s / 4294967296=q at *;generalize s % 4294967296=m at *;generalize val (o'.set (i+k) m)=A at *;rw[hp]at h h1 ⊢;clear hz hy hp;generalize val (r.take k)=R at *;generalize val o'=O at *;generalize (4294967296:Nat)^i=pi at *;generalize (4294967296:Nat)^k=pk at *;grind
theorem Qlz{o' l:U8}{i x cy V:Nat}(hz:o'[i+r.length]? = some 0)(hx:l[i]? = some x)(hcy:cy<4294967296)(hV:V=val (l.take i)*val r)
 (h:val o'+cy*4294967296^(i+r.length)=V+4294967296^i*x*val (r.take r.length)) :
 val (o'.set (i+r.length) (cy % 4294967296))=val (l.take (i+1))*val r:=by
 have h1:=qH o' (i+r.length) (cy % 4294967296) 0 hz;rw[Xk hcy]at *;rw[Q6]at h;rw[Hy l i x hx];clear hz hx;generalize (4294967296:Nat)^(i+r.length)=p at *;generalize (4294967296:Nat)^i=pi at *;grind
end Orr
namespace Orr
theorem SQ(l:U8)(k x:Nat)(hx:l[k]? = some x):val (l.drop k)=x+4294967296*val (l.drop (k+1)):=by
 obtain⟨h,e⟩:=Qd.1 hx;rw[Zq h,e];rfl
theorem AT(o:U8)(i v k:Nat)(h:i<k):(o.set i v).drop k=o.drop k:=by
 apply X4;intro j;rw[Xq,Xq,Yz Fj]
theorem Qmb{l o:U8}{k x w r s:Nat}(hx:l[k]? = some x)(hxb:x<4294967296)(ho:k<o.length)(hw:0<w)(hr:r<w)
 (h:val (l.drop (k+1))=w*val (o.drop (k+1))+r) (hs:s=r*4294967296+x) :
 s / w<4294967296/\s % w<w/\val (l.drop k)=w*val ((o.set k (s / w % 4294967296)).drop k)+s % w:=by
 have h1:s<w*4294967296:=by
  have:(r+1)*4294967296<=w*4294967296:=Q3 _ hr;omega
 have h2:s / w<4294967296:=Jr h1;refine⟨h2,Xi _ hw,?_⟩;rw[Xk h2,SQ l k x hx,SQ (o.set k (s / w)) k (s / w) (Js ho),AT o k _ (k+1) Fj,h];have e:=Xt s w;generalize s / w=q at *;generalize s % w=m at *;clear hx h;grind
theorem Qez{B X Y q top nx Yr h3 Xr p:Nat}(hY:Y=(top*B+nx)*p+Yr)(hX:X=h3*p+Xr)(hXr:Xr<p)(hq:q*Y<=X){head x2:Nat}(h3e:h3=head*B+x2)(hx2:x2<B)(ht:0<top) :
 q<=head / top:=by
 rw[Wm ht];rcases Zc head (q*top)with h|h
 ·exfalso;have h1:(head+1)*B*p<=q*top*B*p:=Q3 _ (Q3 _ h);have h2:q*top*B*p<=q*Y:=by
   rw[hY,X1];have:q*((top*B+nx)*p)=q*top*B*p+q*nx*p:=Fq;omega
  have h4:h3*p+p<=(head+1)*B*p:=by
   have:(h3+1)*p<=(head+1)*B*p:=Q3 _ (by rw[h3e,Xp];omega);have e:(h3+1)*p=h3*p+p:=Fq;omega
  omega
 ·exact h
theorem Qkh{B X Y q top nx Yr h3 Xr p g r head x2:Nat}(hY:Y=(top*B+nx)*p+Yr)(hX:X=h3*p+Xr)(hXr:Xr<p)(hq:q*Y<=X)(h3e:h3=head*B+x2)(hg:g*top+r=head)
 (hc:g*nx>r*B+x2) (hle:q<=g):q<=g-1:=by
 rcases V3 hle with h|h
 ·exfalso;subst h;have h1:h3+1<=q*(top*B+nx):=by
   have e:q*(top*B+nx)=q*top*B+q*nx:=Fq;have e2:head*B=q*top*B+r*B:=by rw[<-hg];grind
   rw[h3e,e,e2];omega
  have h2:(h3+1)*p<=q*(top*B+nx)*p:=Q3 _ h1;have h4:q*(top*B+nx)*p<=q*Y:=by
   have:q*((top*B+nx)*p)=q*(top*B+nx)*p:=Fq;rw[hY,X1 q ((top*B+nx)*p) Yr,this];exact Wj _ _
  have e:(h3+1)*p=h3*p+p:=Fq;omega
 ·omega
theorem Qr1{B X Y top nx Yr h3 Xr p g r head x2:Nat}(hY:Y=(top*B+nx)*p+Yr)(hYr:Yr<p)(hX:X=h3*p+Xr)(h3e:h3=head*B+x2)(hg:g*top+r=head)(ht:0<top)
 (hc:g*nx<=r*B+x2) (hgB:g<=B):(g-1)*Y<=X:=by
 rcases Q4 g with h0|h0
 ·subst h0;simp
 ·obtain⟨k,rfl⟩:∃k,g=k+1:=⟨g-1,Fj⟩;simp only[Yu];have h1:(k+1)*(top*B+nx)<=h3:=by
   have e:(k+1)*(top*B+nx)=(k+1)*top*B+(k+1)*nx:=Fq;have e2:head*B=(k+1)*top*B+r*B:=by rw[<-hg];grind
   rw[h3e,e,e2];omega
  have h2:(k+1)*(top*B+nx)*p<=h3*p:=Q3 _ h1;have h3':k*Yr<=k*p:=Zv _ Fj;have h5:B<=top*B:=Nat.le_mul_of_pos_left _ ht;have h4:k*p<=(top*B+nx)*p:=Q3 _ Fj;have e1:k*Y=k*(top*B+nx)*p+k*Yr:=by rw[hY];grind
  have e2:(k+1)*(top*B+nx)*p=k*(top*B+nx)*p+(top*B+nx)*p:=Fq;omega
theorem pG{o x y:U8}{i u w g c b p s:Nat}(ho:i<o.length)(hu:x[i]? = some u)(hw:y[i]? = some w)(hub:u<4294967296)(hb:b<=1)
 (h:val (o.take i)+g*val (y.take i)=val (x.take i)+(c+b)*4294967296^i) (hp:p=g*w+c)
 (hs:s=((u+18446744073709551616-p % 4294967296) % 18446744073709551616+18446744073709551616-b) % 18446744073709551616) :
 val ((o.set i (s % 4294967296)).take (i+1))+g*val (y.take (i+1))=val (x.take (i+1))+(p / 4294967296+s / 9223372036854775808)*4294967296^(i+1)/\s / 9223372036854775808<=1:=by
 rw[JF o i _ ho,Hy x i u hu,Hy y i w hw,Zs];have ep:p=4294967296*(p / 4294967296)+p % 4294967296:=(Xt p 4294967296).symm;have Dz:p % 4294967296<4294967296:=Xi _ Fl;generalize p / 4294967296=ph at *;generalize p % 4294967296=pl at *;have key:s % 4294967296+pl+b=u+(s / 9223372036854775808)*4294967296/\s / 9223372036854775808<=1:=Fj;refine⟨?_,key.2⟩;have k1:=key.1;generalize s % 4294967296=m at *;generalize s / 9223372036854775808=b' at *;generalize (4294967296:Nat)^i=P at *;clear hs hub hu hw ho Dz key;have e1:g*(val (y.take i)+P*w)=g*val (y.take i)+P*(g*w):=Fq;have e2:g*w+c=4294967296*ph+pl:=Fj;have e3:P*(g*w)+P*c=P*(4294967296*ph)+P*pl:=by rw[<-X1,<-X1,e2]
 have e4:P*m+P*pl+P*b=P*u+P*(b'*4294967296):=by rw[<-X1,<-X1,<-X1,k1]
 grind
theorem wA{o x y:U8}{i u w g c b:Nat}(ho:i<o.length)(hu:x[i]? = some u)(hw:y[i]? = some w)(hub:u<4294967296)(hb:b<=1)
 (h:val (o.take i)+g*val (y.take i)=val (x.take i)+(c+b)*4294967296^i) {p s:Nat} (hp:p=g*w+c)
 (hs:s=((u+18446744073709551616-p % 4294967296) % 18446744073709551616+18446744073709551616-b) % 18446744073709551616) :
 val ((o.set i (s % 4294967296)).take (i+1))+g*val (y.take (i+1))=val (x.take (i+1))+(p / 2^32+s / 2^63)*4294967296^(i+1)/\s / 2^63<=1 :=
 pG ho hu hw hub hb h hp hs
theorem Lr{l:U8}{k c:Nat}(hl:l.length=k+1)(hc:l[k]? = some c):val l=val (l.take k)+4294967296^k*c:=by
 rw[<-Hy l k c hc,Qo Fj]
theorem Du{l:U8}(hb:∀u∈l,u<4294967296){k:Nat}(hk:k≤l.length):val (l.take k)<4294967296^k:=by
 have:=Dl (l.take k) (λu hu=>hb u (Qn hu));rwa[Qq,Z8 hk]at this
theorem HJ{o x:U8}{i:Nat}(h:o.drop i=x.drop i):o[i]? = x[i]? := by
 have:=congrArg (·[0]?) h;simpa using this
theorem xK{o x:U8}{i v:Nat}(h:o.drop i=x.drop i):(o.set i v).drop (i+1)=x.drop (i+1):=by
 rw[AT o i v (i+1) Fj];have:=congrArg (List.drop 1) h;simpa[J4]using this
structure Dig(x l:List Nat)(n top nx xn x1 x2:Nat):Prop where
 hn:2<=n
 hl:l.length=n
 hx:x.length=n+1
 lb:∀u∈l,u<4294967296
 xb:∀u∈x,u<4294967296
 ltop:l[n-1]? = some top
 lnx:l[n-2]? = some nx
 xn:x[n]? = some xn
 x1:x[n-1]? = some x1
 x2:x[n-2]? = some x2
 top0:0<top
 lt:val x<val l*4294967296
section
variable{x l:U8}{n top nx xn x1 x2:Nat}(D:Dig x l n top nx xn x1 x2)
include D
theorem Dig.parts:∃p Yr Xr,val l=(top*4294967296+nx)*p+Yr/\Yr<p/\val x=((xn*2^32+x1)*4294967296+x2)*p+Xr/\Xr<p:=by
 obtain⟨hn,hl,hx,lb,xb,ltop,lnx,exn,ex1,ex2,_,_⟩:=D;obtain⟨k,rfl⟩:∃k,n=k+2:=⟨n-2,Fj⟩;simp only[show k+2-1=k+1 from Fj,Yu]at *;refine⟨4294967296^k,val (l.take k),val (x.take k),?_,Du lb Fj,?_,Du xb Fj⟩
 ·rw[Lr hl ltop,Hy l k nx lnx,Zs];generalize (4294967296:Nat)^k=p;grind
 ·have A0:(2:Nat)^32=4294967296:=Fl;have q1:(4294967296:Nat)^(k+1)=4294967296^k*4294967296:=Zs _ _;have q2:(4294967296:Nat)^(k+2)=4294967296^k*4294967296*4294967296:=by rw[<-q1];exact Zs _ _
  rw[Lr hx exn,Hy x (k+1) x1 ex1,Hy x k x2 ex2,q1,q2,A0];clear q1 q2;generalize (4294967296:Nat)^k=p;grind
theorem Dig.Ypos:0<val l:=by
 obtain⟨p,Yr,Xr,hY,hYr,_,_⟩:=D.parts;have h1:0<top*4294967296+nx:=by have:=D.top0;omega
 have:=Yn h1 (show 0<p by omega);omega
theorem Dig.qlt:val x / val l<4294967296:=Jr D.lt
theorem Dig.qle:val x / val l*val l<=val x:=Nat.div_mul_le_self _ _
theorem Dig.bnd:top<4294967296/\nx<4294967296/\xn<4294967296/\x1<4294967296/\x2<4294967296 :=
 ⟨D.lb _ (Qa D.ltop),D.lb _ (Qa D.lnx),D.xb _ (Qa D.xn),D.xb _ (Qa D.x1),D.xb _ (Qa D.x2)⟩
theorem Dig.head_le:xn*2^32+x1<top*4294967296+4294967296:=by
 obtain⟨p,Yr,Xr,hY,hYr,hX,hXr⟩:=D.parts;have hlt:=D.lt;have hb:=D.bnd;have A0:(2:Nat)^32=4294967296:=Fl;rw[A0]at hX ⊢;rcases Zc xn (top+1)with h|h
 ·omega
 ·exfalso;have h1:val l<(top+1)*4294967296*p:=by
   have h2:(top*4294967296+nx+1)*p<=(top+1)*4294967296*p:=Q3 _ Fj;have e:(top*4294967296+nx+1)*p=(top*4294967296+nx)*p+p:=Fq;omega
  have h3:(top+1)*4294967296*4294967296*p<=((xn*4294967296+x1)*4294967296+x2)*p:=Q3 _ Fj;have h4:val l*4294967296<(top+1)*4294967296*p*4294967296:=X6 h1 Fl;have e2:(top+1)*4294967296*p*4294967296=(top+1)*4294967296*4294967296*p:=by
   generalize (4294967296:Nat)=B;grind
  omega
theorem Dig.start:val x / val l<=(xn*2^32+x1) / top:=by
 obtain⟨p,Yr,Xr,hY,hYr,hX,hXr⟩:=D.parts;exact Qez hY hX hXr D.qle rfl D.bnd.2.2.2.2 D.top0
theorem Dig.fin{g r:Nat}(hg:g*top+r=xn*2^32+x1)(hc:g*nx<=r*2^32+x2)(hB:g<=4294967296):(g-1)*val l<=val x:=by
 obtain⟨p,Yr,Xr,hY,hYr,hX,hXr⟩:=D.parts;have A0:(2:Nat)^32=4294967296:=Fl;rw[A0]at hc;exact Qr1 hY hYr hX rfl hg D.top0 hc hB
theorem Dig.round{g r:Nat}(hg:g*top+r=xn*2^32+x1)(hq:val x / val l<=g)(hc:4294967296<=g\/r*2^32+x2<g*nx) :
 1<=g/\val x / val l<=g-1/\(g-1)*top+(r+top)=xn*2^32+x1/\(4294967296<=r+top->(g-1-1)*val l<=val x/\g-1<=4294967296):=by
 have A0:(2:Nat)^32=4294967296:=Fl;have hb:=D.bnd;have h1:1<=g:=by
  rcases hc with h|h
  ·omega
  ·rcases Q4 g with h0|h0
   ·subst h0;simp at h
   ·exact h0
 have h2:val x / val l<=g-1:=by
  rcases hc with h|h
  ·have:=D.qlt;omega
  ·obtain⟨p,Yr,Xr,hY,hYr,hX,hXr⟩:=D.parts;rw[A0]at h;exact Qkh hY hX hXr D.qle rfl hg h hq
 obtain⟨k,rfl⟩:∃k,g=k+1:=⟨g-1,Fj⟩;simp only[Yu]at h2 ⊢;have h3:k*top+(r+top)=xn*2^32+x1:=by rw[<-hg,Xp];omega
 refine⟨h1,h2,h3,λhr=>?_⟩;have hk:k<4294967296:=by
  have hh:=D.head_le;rcases Zc k 4294967296 with h|h
  ·exact h
  ·have:=Q3 top h;omega
 refine⟨D.fin h3 ?_ Fj,Fj⟩;have h4:=VJ hk hb.2.1;rw[A0];have h5:4294967296*4294967296<=(r+top)*4294967296:=Q3 _ hr;omega
theorem Dig.fin0{o:U8}{g c b s:Nat}(ho:o.length=n+1)(hc:c<4294967296)(hb:b<=1)(hq:val x / val l<=g)
 (h:val (o.take n)+g*val l=val (x.take n)+(c+b)*4294967296^n)
 (hs:s=((xn+18446744073709551616-c) % 18446744073709551616+18446744073709551616-b) % 18446744073709551616) (qP:s / 2^63=0) :
 g % 4294967296=val x / val l/\val (o.set n (s % 4294967296))=val x % val l:=by
 have hbd:=D.bnd;have e63:(2:Nat)^63=9223372036854775808:=Fl;rw[e63]at qP;have hs1:s=xn-c-b/\c+b<=xn:=Fj;have hsB:s % 4294967296=xn-c-b:=Fj;have hset:(o.set n (s % 4294967296))[n]? = some (s % 4294967296):=by rw[Js Fj]
 have ev:val (o.set n (s % 4294967296))=val (o.take n)+4294967296^n*(xn-c-b):=by
  rw[Lr (by rw[Xs];exact ho) hset,Cv,hsB]
 have eX:=Lr D.hx D.xn;have key:val (o.set n (s % 4294967296))+g*val l=val x:=by
  rw[ev,eX];obtain⟨m,rfl⟩:∃m,xn=m+(c+b):=⟨xn-(c+b),Fj⟩;rw[show m+(c+b)-c-b=m from Fj];generalize (4294967296:Nat)^n=p at *;have:p*(m+(c+b))=p*m+(c+b)*p:=Fq;omega
 have hg:g<=val x / val l:=by
  rw[Wm D.Ypos];omega
 have hgq:g=val x / val l:=Fj;have hgB:=D.qlt;have hdm:=Xt (val x) (val l);rw[<-hgq]at hdm hgB ⊢;refine⟨Xk hgB,?_⟩;rw[Zr]at hdm;omega
theorem Dig.fin1{o:U8}{g c b s:Nat}(ho:o.length=n+1)(hob:∀u∈o,u<4294967296)(hc:c<4294967296)(hb:b≤1)(hg1:(g-1)*val l≤val x)
 (h:val (o.take n)+g*val l=val (x.take n)+(c+b)*4294967296^n)
 (hs:s=((xn+18446744073709551616-c) % 18446744073709551616+18446744073709551616-b) % 18446744073709551616) (qP:¬s / 2^63=0) :
 g=val x / val l+1/\val (o.set n (s % 4294967296))+val l=val x % val l+4294967296^n*4294967296:=by
 have hbd:=D.bnd;have e63:(2:Nat)^63=9223372036854775808:=Fl;rw[e63]at qP;have hsB:s % 4294967296+(c+b)=xn+4294967296:=Fj;have hset:(o.set n (s % 4294967296))[n]? = some (s % 4294967296):=by rw[Js Fj]
 have hm:s % 4294967296<4294967296:=Xi _ Fl;have ev:val (o.set n (s % 4294967296))=val (o.take n)+4294967296^n*(s % 4294967296):=by
  rw[Lr (by rw[Xs];exact ho) hset,Cv]
 have eX:=Lr D.hx D.xn;have hlt:val (o.take n)<4294967296^n:=Du hob Fj;have key:val (o.set n (s % 4294967296))+g*val l=val x+4294967296^n*4294967296:=by
  rw[ev,eX];generalize (4294967296:Nat)^n=p at *;have e1:p*(s % 4294967296+(c+b))=p*(xn+4294967296):=by rw[hsB]
  rw[X1 p (s % 4294967296) (c+b),X1 p xn,Zr p (c+b)]at e1;omega
 have hvlt:val (o.set n (s % 4294967296))<4294967296^n*4294967296:=by
  have:=Dl (o.set n (s % 4294967296)) (Dh hob _ _ hm);rwa[Xs,ho,Zs]at this
 have hq1:g-1<=val x / val l:=(Wm D.Ypos).2 hg1;have hq2:val x / val l<g:=by
  rw[Ke D.Ypos];omega
 have hgq:g=val x / val l+1:=Fj;refine⟨hgq,?_⟩;have hdm:=Xt (val x) (val l);rw[hgq,Xp]at key;rw[Zr]at hdm;omega
theorem Dig.fin2{o1 o2:U8}{v bk:Nat}(h1:o1.length=n+1)(h1b:∀u∈o1,u<4294967296)(h2:o2.length=n+1)(h2b:∀u∈o2,u<4294967296)(hv:o1[n]? = some v)(hbk:bk≤1)
 (hk:val o1+val l=val x % val l+4294967296^n*4294967296) (h:val (o2.take n)+bk*4294967296^n=val (o1.take n)+val l) :
 val (o2.set n ((v+bk) % 4294967296))=val x % val l:=by
 have hset:(o2.set n ((v+bk) % 4294967296))[n]? = some ((v+bk) % 4294967296):=by rw[Js Fj]
 rw[Lr (by rw[Xs];exact h2) hset,Cv];rw[Lr h1 hv]at hk;have hvb:=h1b _ (Qa hv);have hlt:val (o2.take n)<4294967296^n:=Du h2b Fj;have hY:val l<4294967296^n:=by have:=Dl l D.lb;rwa[D.hl]at this
 have hR:val x % val l<val l:=Xi _ D.Ypos;generalize (4294967296:Nat)^n=p at *;have e:val (o2.take n)+p*(v+bk)=val x % val l+p*4294967296:=by
  rw[X1,Zr p bk];omega
 have hvk:v+bk=4294967296:=by
  rcases Vb (v+bk) 4294967296 with h'|h'|h'
  ·have:=Zv p h';rw[Uk]at this;omega
  ·exact h'
  ·omega
 rw[hvk]at e ⊢;simp;omega
end
end Orr
namespace Orr
open Go
theorem Q2r{g q:Nat}(h:g=q+1)(hq:q<4294967296):IntKind.u32.wrap (((g % 4294967296:Nat):Int)-1)=(q:Int):=by
 subst h;simp[IntKind.wrap,IntKind.bits,IntKind.signed];omega
def GV(o:U8)(i n:Nat):U8:=(o.drop i).take (n+1)
theorem WS(o:U8)(i n:Nat):o.take i++GV o i n++o.drop (i+n+1)=o:=by
 unfold GV;rw[Za,show o.drop (i+n+1)=(o.drop i).drop (n+1) from by rw[J4];congr 1];rw[Zf,Zf]
theorem SZ{o:U8}{i n:Nat}(h:i+n<o.length):(GV o i n).length=n+1:=by
 unfold GV;rw[Qq,Q9];omega
theorem Que{o:U8}{i n x:Nat}(h:x∈GV o i n):x∈o:=Qx (Qn h)
theorem WT(p w q:U8):val (p++w++q)=val p+4294967296^p.length*(val w+4294967296^w.length*val q):=by
 rw[Za,Dk,Dk]
structure Rest(o l:List Nat)(la n m:Nat):Prop where
 ol:o.length=la+1
 ob:∀u∈o,u<4294967296
 ll:l.length=n
 lb:∀u∈l,u<4294967296
 n2:2<=n
 top:4294967296^(n-1)<=val l
 hm:m+n<=la+1
 lt:val o<val l*4294967296^m
section
variable{o l:U8}{la n m:Nat}
theorem Rest.zero(R:Rest o l la n (m+1)):val (o.drop (m+n+1))=0:=by
 have hlen:=SZ (o:=o) (i:=m) (n:=n) (by have:=R.ol;have:=R.hm;omega);have h1:=WT (o.take m) (GV o m n) (o.drop (m+n+1));rw[WS,hlen,Qq,Z8 (by have:=R.ol;have:=R.hm;omega)]at h1;have hY:val l<4294967296^n:=by have:=Dl l R.lb;rwa[R.ll]at this
 have hlt:=R.lt;rcases Q4 (val (o.drop (m+n+1)))with h|h
 ·exact h
 ·exfalso;have h2:4294967296^m*(4294967296^(n+1)*1)<=4294967296^m*(val (GV o m n)+4294967296^(n+1)*val (o.drop (m+n+1))) :=
   Zv _ (Qc (Zv _ h) (Wx _ _))
  have h3:val l*4294967296^(m+1)<4294967296^n*4294967296^(m+1):=X6 hY (Xd Fl);have e:(4294967296:Nat)^n*4294967296^(m+1)=4294967296^m*(4294967296^(n+1)*1):=by
   rw[Vk,<-Xu,<-Xu];congr 1;omega
  omega
theorem Rest.dig(R:Rest o l la n (m+1)):∃top nx xn x1 x2,Dig (GV o m n) l n top nx xn x1 x2:=by
 have hwl:=SZ (o:=o) (i:=m) (n:=n) (by have:=R.ol;have:=R.hm;omega);have hz:=R.zero;obtain⟨ol,ob,ll,lb,n2,htop,hm,hlt⟩:=R;have g1:∀k,k<n+1->∃u,(GV o m n)[k]? = some u:=λk hk=>⟨_,Qf Fj⟩
 have g2:∀k,k<n->∃u,l[k]? = some u:=λk hk=>⟨_,Qf Fj⟩
 obtain⟨top,ht⟩:=g2 (n-1) Fj;obtain⟨nx,hnx⟩:=g2 (n-2) Fj;obtain⟨xn,hxn⟩:=g1 n Fj;obtain⟨x1,hx1⟩:=g1 (n-1) Fj;obtain⟨x2,hx2⟩:=g1 (n-2) Fj;have h1:=WT (o.take m) (GV o m n) (o.drop (m+n+1));rw[WS,hz,Qq,Z8 Fj]at h1;refine⟨top,nx,xn,x1,x2,n2,ll,hwl,lb,λu hu=>ob u (Que hu),ht,hnx,hxn,hx1,hx2,?_,?_⟩
 ·rcases Q4 top with h0|h0
  ·exfalso;subst h0;have e:=Lr (l:=l) (k:=n-1) Fj ht;have:=Du lb (k:=n-1) Fj;omega
  ·exact h0
 ·rcases Zc (val (GV o m n)) (val l*4294967296)with h|h
  ·exact h
  ·exfalso;have h2:4294967296^m*(val l*4294967296)<=4294967296^m*(val (GV o m n)):=Zv _ h;have e:val l*(4294967296:Nat)^(m+1)=4294967296^m*(val l*4294967296):=by
    rw[Zs];generalize (4294967296:Nat)^m=p;grind
   simp only[Vn,X5]at h1;omega
theorem Rest.next(R:Rest o l la n (m+1)){w':U8}(hw:w'.length=(GV o m n).length)(hb:∀u∈w',u<4294967296)(hv:val w'=val (GV o m n) % val l){X0:Nat}{q:U8}(hq:m<q.length)
 (hX:val (q.drop (m+1))*4294967296^(m+1)*val l+val o=X0) :
 Rest (o.take m++w'++o.drop (m+n+1)) l la n m/\val ((q.set m (val (GV o m n) / val l)).drop m)*4294967296^m*val l+val (o.take m++w'++o.drop (m+n+1))=X0:=by
 have hwl:=SZ (o:=o) (i:=m) (n:=n) (by have:=R.ol;have:=R.hm;omega);have hz:=R.zero;obtain⟨ol,ob,ll,lb,n2,htop,hm,hlt⟩:=R;have hY:0<val l:=Xn (Xd Fl) htop;have h1:=WT (o.take m) (GV o m n) (o.drop (m+n+1));have h2:=WT (o.take m) w' (o.drop (m+n+1));rw[WS,hz,Qq,Z8 Fj]at h1;rw[hz,Qq,Z8 Fj]at h2;simp only[Vn,X5]at h1 h2;have hp:=Du ob (k:=m) Fj;have hr:val w'<val l:=by rw[hv];exact Xi _ hY
 have hdm:=Xt (val (GV o m n)) (val l);rw[<-hv]at hdm;refine⟨⟨?_,?_,ll,lb,n2,htop,Fj,?_⟩,?_⟩
 ·simp only[Qu,Qq,Q9,hw,hwl];omega
 ·intro u hu;rcases Qp.1 hu with hu|hu
  ·rcases Qp.1 hu with hu|hu
   ·exact ob u (Qn hu)
   ·exact hb u hu
  ·exact ob u (Qx hu)
 ·rw[h2];have:4294967296^m*(val w'+1)<=4294967296^m*val l:=Zv _ hr;rw[Zr (val l)];rw[X1]at this;omega
 ·have hset:(q.set m (val (GV o m n) / val l))[m]? = some (val (GV o m n) / val l):=by rw[Js hq]
  rw[SQ _ m _ hset,AT q m _ (m+1) Fj,h2,<-hX,h1,Zs];generalize val (GV o m n) / val l=d at *;generalize (4294967296:Nat)^m=p at *;generalize val (q.drop (m+1))=Q at *;have e:p*val (GV o m n)=p*(val l*d)+p*val w':=by rw[<-hdm,X1]
  rw[e];clear h1 h2 hX hset hp hdm hv hz hwl hlt;generalize val (o.take m)=A;generalize (4294967296:Nat)=B;grind
end
theorem aS{x y:Nat}{X Y:U8}{la n s:Nat}(hX:val X=x*2^s)(hY:val Y=y*2^s)(hXl:X.length=la+1)(hXb:∀u∈X,u<4294967296)(hYl:Y.length=n)(hYb:∀u∈Y,u<4294967296)(hn:2≤n)
 (hx:x<4294967296^la) (hy:4294967296^(n-1)<=y) (hle:n<=la):Rest X Y la n (la-n+1):=by
 have hs:0<2^s:=Xd Fl;refine⟨hXl,hXb,hYl,hYb,hn,?_,Fj,?_⟩
 ·rw[hY];have:=Zg hy hs;omega
 ·rw[hX,hY];have h1:x*2^s<4294967296^la*2^s:=X6 hx hs;have h2:4294967296^(n-1)*2^s*4294967296^(la-n+1)<=y*2^s*4294967296^(la-n+1):=Q3 _ (Q3 _ hy);have e:4294967296^(n-1)*2^s*4294967296^(la-n+1)=4294967296^la*2^s:=by
   rw[Nat.mul_right_comm,<-Xu];congr 2;omega
  omega
theorem Qm7{x y s r:Nat}{q:U8}(hy:0<y)(h:val q*(y*2^s)+r=x*2^s)(hr:r<y*2^s):val q=x / y/\r=x % y*2^s:=by
 have hs:0<2^s:=Xd Fl;have e1:x*2^s / (y*2^s)=val q:=by
  rw[<-h,Zr,Ur (Yn hy hs),Ki hr,X5]
 have e2:x*2^s % (y*2^s)=r:=by
  rw[<-h,Zr (val q),Us,Xk hr]
 rw[Nat.mul_div_mul_right _ _ hs]at e1;rw[Nat.mul_mod_mul_right]at e2;exact⟨e1.symm,e2.symm⟩
end Orr
namespace Orr
theorem iT{o:U8}{n:Nat}(hn:n<=o.length)(h:val o<4294967296^n):val (o.take n)=val o:=by
 have h1:val o=val (o.take n)+4294967296^(o.take n).length*val (o.drop n):=by rw[<-Dk,Zf]
 rw[Qq,Z8 hn]at h1;rcases Q4 (val (o.drop n))with h0|h0
 ·rw[h0]at h1;omega
 ·have:=Zv (4294967296^n) h0;omega
def Gi(b:Bool)(m:Nat):Int:=if b=true then -(m:Int)else(m:Int)
theorem So(b:Bool)(m:Nat):(Gi b m).natAbs=m:=by unfold Gi;split <;> omega
theorem OX(b:Bool)(m:Nat):decide (Gi b m<0)=(b && decide (0<m)):=by
 unfold Gi;cases b <;> simp <;> omega
def Gl(z:Int):Nat:=sz z.natAbs
theorem Hb(x y:Int):Gl (x*y)<=Gl x+Gl y:=by unfold Gl;rw[Int.natAbs_mul];exact Qn5 _ _
theorem XC(x y:Int):Gl (x+y)<=max (Gl x) (Gl y)+1:=by
 unfold Gl;exact Qc (Tx (Int.natAbs_add_le x y)) (Qzy _ _)
theorem Te(x:Int):Gl (-x)=Gl x:=by unfold Gl;rw[Int.natAbs_neg]
theorem wG(x y:Int):Gl (x-y)<=max (Gl x) (Gl y)+1:=by
 rw[Int.sub_eq_add_neg];have:=XC x (-y);rwa[Te]at this
theorem Mm{x:Int}{k:Nat}:Gl x<=k↔x.natAbs<2^k:=Cu
theorem TN{x k:Nat}(h:2^k<=x):sz x=k+sz (x / 2^k):=by
 have e:∀m,sz x<=m↔k+sz (x / 2^k)<=m:=by
  intro m;by_cases hm:k<=m
  ·obtain⟨j,rfl⟩:=Nat.le.dest hm;rw[Nat.add_le_add_iff_left,Cu,Cu,Ke (Xd Fl),<-Xu,Ye j k]
  ·constructor
   ·intro h1;rw[Cu]at h1;have:=Nat.pow_lt_pow_right (a:=2) Fl (Nat.lt_of_not_le hm);omega
   ·intro h1;omega
 exact V4 ((e _).2 (Qm _)) ((e _).1 (Qm _))
theorem iH:∀{l:U8} {y:Nat},gA l->l[l.length-1]? = some y->sz (val l)=32*(l.length-1)+sz y
 | [],y,_,h=>by simp at h
 |
  [x],y,_,h=>by
  simp at h;subst h;simp[val]
 |
  x::z::l,y,hn,h=>by
  have h32:(4294967296:Nat)=2^32:=Fl;have hn':gA (z::l):=⟨λu hu=>hn.1 u (Qh _ hu),λ_=>by
   obtain⟨u,hu,h0⟩:=hn.2 Fp;exact⟨u,by simpa using hu,h0⟩⟩
  have ih:=iH hn' (y:=y) (by simpa using h);have hx:=hn.1 x Fp;have hp:0<val (z::l):=by
   rcases Q4 (val (z::l))with h0|h0
   ·exact absurd ((RR hn').1 h0) Fp
   ·exact h0
  have e:val (x::z::l)=x+4294967296*val (z::l):=rfl;rw[TN (k:=32) (by rw[e,<-h32];omega),show val (x::z::l) / 2^32=val (z::l) from by rw[e,<-h32];omega,ih];simp only[Q5];omega
def E5(x y:Int):Int:=if x<y then -1 else if y<x then 1 else 0
theorem qK{x:Nat}:sz x=0↔x=0:=by
 constructor
 ·intro h;have:=RY x;rw[h]at this;simpa using this
 ·rintro rfl;rfl
theorem Oi(z:Int):(z<0/\Int.sign z=-1)\/(z=0/\Int.sign z=0)\/(0<z/\Int.sign z=1):=by
 rcases Wa z 0 with h|h|h
 ·exact .inl ⟨h,Yp h⟩
 ·subst h;exact .inr (.inl ⟨rfl,rfl⟩)
 ·exact .inr (.inr ⟨h,Vi h⟩)
theorem kO{a b q r:Int}(hb:0<b)(h:r+b*q=a)(h0:0<=r)(h1:r<b):a / b=q/\a % b=r:=(Int.ediv_emod_unique hb).2 ⟨h,h0,h1⟩
theorem wQ{a b q r:Int}(hb:b≠0)(h:r+b*q=a)(h0:0<=r)(h1:r<b.natAbs):a / b=q/\a % b=r:=by
 rcases W8 hb with h'|h'
 ·have:=kO (a:=a) (b:=-b) (q:=-q) (r:=r) Fj (by rw[Up];exact h) h0 Fj;rw[Int.ediv_neg,Int.emod_neg]at this;exact⟨Fj,this.2⟩
 ·exact kO h' h h0 Fj
section
variable{x y:Int}{d:Bool}(hy:y=if d=true then -(y.natAbs:Int)else(y.natAbs:Int))(hp:0<y.natAbs)
include hy hp
theorem AG(hx:x=if false=true then -(x.natAbs:Int)else(x.natAbs:Int)) :
 x / y=Gi (!(false == d)) (x.natAbs / y.natAbs)/\x % y=Gi false (x.natAbs % y.natAbs):=by
 have e:=Xt x.natAbs y.natAbs;have hl:=Xi x.natAbs hp;refine wQ Fj ?_ ?_ ?_
 ·generalize x.natAbs / y.natAbs=q at *;generalize x.natAbs % y.natAbs=r at *;generalize y.natAbs=n at *;generalize x.natAbs=m at *;subst hx hy e;unfold Gi;cases d <;> simp[Ko,Kn] <;> omega
 ·unfold Gi;simp only[Bool.false_eq_true,if_false];exact Int.natCast_nonneg _
 ·unfold Gi;simp;omega
theorem BB(hx:x=if true=true then -(x.natAbs:Int)else(x.natAbs:Int))(h0:x.natAbs % y.natAbs=0) :
 x / y=Gi (!(true == d)) (x.natAbs / y.natAbs)/\x % y=Gi false (x.natAbs % y.natAbs):=by
 have e:=Xt x.natAbs y.natAbs;refine wQ Fj ?_ ?_ ?_
 ·rw[h0]at e ⊢;generalize x.natAbs / y.natAbs=q at *;generalize y.natAbs=n at *;generalize x.natAbs=m at *;subst hx hy e;unfold Gi;cases d <;> simp[Ko,Kn]
 ·unfold Gi;simp only[Bool.false_eq_true,if_false];exact Int.natCast_nonneg _
 ·unfold Gi;simp;omega
theorem AU(hx:x=if true=true then -(x.natAbs:Int)else(x.natAbs:Int))(h0:0<x.natAbs % y.natAbs) :
 x / y=Gi (!(true == d)) (x.natAbs / y.natAbs+1)/\x % y=Gi false (y.natAbs-x.natAbs % y.natAbs):=by
 have e:=Xt x.natAbs y.natAbs;have hl:=Xi x.natAbs hp;refine wQ Fj ?_ ?_ ?_
 ·generalize x.natAbs / y.natAbs=q at *;generalize x.natAbs % y.natAbs=r at *;generalize y.natAbs=n at *;generalize x.natAbs=m at *;subst hx hy e;unfold Gi;have e2:((n-r:Nat):Int)=(n:Int)-(r:Int):=Fj;cases d <;> simp[Ko,Kn,Int.mul_add,e2] <;> omega
 ·unfold Gi;simp only[Bool.false_eq_true,if_false];exact Int.natCast_nonneg _
 ·unfold Gi;simp;omega
end
def He(x:Nat):U8:=if h:x=0 then []else(x % 4294967296)::He (x / 4294967296)
termination_by x
decreasing_by omega
theorem Rr:He 0=[]:=by unfold He;simp
theorem Ij{x:Nat}(h:x≠0):He x=(x % 4294967296)::He (x / 4294967296):=by rw[He];simp[h]
theorem Ro(x:Nat):val (He x)=x:=by
 induction x using Nat.strongRecOn with
 |
  _ x ih =>
  rcases Q4 x with h|h
  ·subst h;rw[Rr];rfl
  ·rw[Ij Fj];simp only[val];rw[ih _ Fj];omega
theorem Eg(x:Nat):gA (He x):=by
 induction x using Nat.strongRecOn with
 |
  _ x ih =>
  rcases Q4 x with h|h
  ·subst h;rw[Rr];exact⟨Fp,λh=>absurd rfl h⟩
  ·rw[Ij Fj];obtain⟨h1,h2⟩:=ih (x / 4294967296) Fj;refine⟨λu hu=>?_,λ_=>?_⟩
   ·rcases Qk.1 hu with rfl|hu
    ·omega
    ·exact h1 u hu
   ·by_cases h3:x / 4294967296=0
    ·rw[h3,Rr];exact⟨x % 4294967296,rfl,Fj⟩
    ·have h4:He (x / 4294967296)≠[]:=by rw[Ij h3];simp
     obtain⟨u,hu,hu0⟩:=h2 h4;refine⟨u,?_,hu0⟩;rcases hl:He (x / 4294967296)with _|⟨y,l⟩
     ·exact absurd hl h4
     ·rw[hl]at hu;simpa using hu
theorem Qlm{l:U8}{x:Nat}(h:gA l)(hv:val l=x):l=He x:=Qca h (Eg x) (by rw[hv,Ro])
theorem Qnr{o l:U8}{i s x z:Nat}(hs:s<=31)(hx:l[i]? = some x)(hxb:x<4294967296)(hz:o[i]? = some z)(hzs:z<2^s)(hi1:i+1<o.length)(h:val (o.take (i+1))=val (l.take i)*2^s) :
 z+x*2^s % 4294967296<4294967296/\x*2^s / 2^32<2^s /\
 val (((o.set i (z+x*2^s % 4294967296)).set (i+1) (x*2^s / 2^32 % 4294967296)).take (i+2))=val (l.take (i+1))*2^s/\x*2^s % 4294967296=2^s*(x % 2^(32-s)):=by
 have A0:(2:Nat)^32=4294967296:=Fl;have ep:(4294967296:Nat)=2^s*2^(32-s):=by rw[<-Xu,<-A0];congr 1;omega
 have hpos:0<2^s:=Xd Fl;have e1:x*2^s % 4294967296=2^s*(x % 2^(32-s)):=by rw[Zr x,ep,Nat.mul_mod_mul_left]
 have hq:x*2^s / 2^32<2^s:=by
  rw[Ke (Xd Fl),A0,Zr (2^s)];exact X6 hxb hpos
 have hm:x % 2^(32-s)<2^(32-s):=Xi _ (Xd Fl);have hlow:z+x*2^s % 4294967296<4294967296:=by
  rw[e1];have:2^s*(x % 2^(32-s)+1)<=2^s*2^(32-s):=Zv _ hm;rw[<-ep,X1,Vk]at this;omega
 have hs31:2^s<=4294967296:=by rw[<-A0];exact Zt Fl Fj
 refine⟨hlow,hq,?_,e1⟩;have t1:=Hy o i z hz;rw[JF _ (i+1) _ (by simpa using hi1),JF o i _ Fj,Hy l i x hx,Xk (Xn hq hs31),Zs];have e3:=Xt (x*2^s) 4294967296;rw[A0];rw[t1]at h;generalize x*2^s / 4294967296=qh at *;generalize x*2^s % 4294967296=ql at *;generalize (4294967296:Nat)^i=P' at *;generalize 2^s=S at *;clear ep e1 hq hm hlow hs31 t1 hx hz hzs A0 hpos hxb;have e4:P'*(4294967296*qh+ql)=P'*(x*S):=by rw[e3]
 have e5:(val (l.take i)+P'*x)*S=val (l.take i)*S+P'*(x*S):=Fq;rw[e5,<-h,<-e4];grind
theorem Qns{o l:U8}{i s x y:Nat}(hs:s≤31)(hx:l[i]? = some x)(hy:l[i+1]? = some y\/(l.length≤i+1/\y=0))(ho:i<o.length)(hb:∀u∈l,u<4294967296)(h:val (o.take i)=val l / 2^s % 4294967296^i) :
 val ((o.set i ((x+y*2^32) / 2^s % 4294967296)).take (i+1))=val l / 2^s % 4294967296^(i+1):=by
 rw[JF o i _ ho,h,Nat.mod_pow_succ];congr 1;congr 1;have A0:(2:Nat)^32=4294967296:=Fl;have ep:(4294967296:Nat)=2^s*2^(32-s):=by rw[<-Xu,<-A0];congr 1;omega
 have hsp:=ZI l i x hx;obtain⟨R,hR⟩:∃R,val (l.drop (i+1))=y+4294967296*R:=by
  rcases hy with hy|⟨h1,rfl⟩
  ·exact⟨_,SQ l (i+1) y hy⟩
  ·exact⟨0,by rw[Vj h1];rfl⟩
 have ht:val (l.take i)<4294967296^i:=by
  have:=Dl (l.take i) (λu hu=>hb u (Qn hu));have hi:=(Qd.1 hx).1;rwa[Qq,Z8 Fj]at this
 have e1:val l / 2^s / 4294967296^i=(x+4294967296*(y+4294967296*R)) / 2^s:=by
  rw[Nat.div_div_eq_div_mul,Zr,<-Nat.div_div_eq_div_mul,hsp,hR,Ww _ _ (Xd Fl),Ki ht,Z9]
 rw[e1];have e2:x+4294967296*(y+4294967296*R)=(x+y*2^32)+2^s*(4294967296*(2^(32-s)*R)):=by
  have:2^s*(4294967296*(2^(32-s)*R))=(2^s*2^(32-s))*(4294967296*R):=Fq;rw[this,<-ep,A0];grind
 rw[e2,Ww _ _ (Xd Fl),Kt]
theorem Qzq{x s:Nat}(hs:s<=31)(hx:x<4294967296):x*2^s<18446744073709551616:=by
 have h1:2^s<=2^31:=Zt Fl hs;have h2:x*2^s<=4294967295*2^31:=Zg Fj h1;have h3:4294967295*2^31<18446744073709551616:=Fl;omega
end Orr
namespace Orr
open Go
variable{P:Program}
theorem sK(P:Program):∃k,P.types.size+Made.depth=k+1:=⟨P.types.size+Made.depth-1,by
 have:0<Made.depth:=Fl;omega⟩
variable{info:TypeInfo}
theorem Ob{t E f sig:Nat}{name nm:String}(hi:∀w,(typeInfo t).run P w=.ok info w)(hm:info.methods.find? (·.name == name)=some ⟨nm,sig,#[],some (f,true)⟩)(hu:P.underlying t=some (.pointer E))(b o:Nat)(w:World):
 (method (P.types.size+Made.depth) t (.pointer (some ⟨b,o,none⟩)) name).run P w=.ok (f,.pointer (some ⟨b,o+0,none⟩)) w:=by
 obtain⟨k,hk⟩:=sK P;rw[hk];simp[method,hi,hm,follow,receiverAt,NC hu,Place.get]
theorem Aa{t S f sig i:Nat}{name nm:String}{fs:Array Field}{fl:Field}{d:TypeDesc}(hi:∀w,(typeInfo t).run P w=.ok info w)(hm:info.methods.find? (·.name == name)=some ⟨nm,sig,#[⟨S,i,true⟩],some (f,true)⟩)(hS:P.underlying S=some (.struct fs))(hf:fs[i]? = some fl)(hu:P.underlying fl.type=some d)(hd:∀E,d≠.pointer E){z:Nat}(hz:∀w,(Go.sizeOf fl.type).run P w=.ok z w)(hz0:z≠0)(b o:Nat)(w:World):
 (method (P.types.size+Made.depth) t (.pointer (some ⟨b,o,none⟩)) name).run P w=.ok (f,.pointer (some ⟨b,o+fl.offset,none⟩)) w:=by
 obtain⟨k,hk⟩:=sK P;rw[hk];have e1:∀w,(receiverAt fl.type (.var (Addr.add ⟨b,o,none⟩ fl.offset)) true none).run P w=.ok (.pointer (some ⟨b,o+fl.offset,none⟩)) w:=λw=>by
  unfold receiverAt;simp only[Sem.run_bind,NC hu,Result.andThen_ok];cases d <;> first|exact absurd rfl (hd _)|simp[Addr.add]
 simp[method,hi,hm,follow,NC hS,hf,Place.get,asAddr,fieldPlace,hz,hz0,e1]
end Orr
