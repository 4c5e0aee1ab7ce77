import Derived.Test.YtpbfkdfffbfabaaGreatPart08
import Derived.Test.YtpbfkdfffbfabaaGreatPart00
import Derived.Test.YtpbfkdfffbfabaaGreatPart04
import Derived.Test.YtpbfkdfffbfabaaGreatPart07
import Derived.Test.YtpbfkdfffbfabaaGreatPart05
set_option linter.all false
namespace Orr
open Go Go.Proofs Tryz
set_option maxRecDepth 10000
theorem GH(x:Nat):(D8 (Ho x)).length=(Ho x).length:=Su _
theorem NK(z:Int):∀c∈[[LV.int .i64 z]],c.length=1:=λc hc=>by rw[Qk.1 hc];rfl
variable{x:Nat}
theorem Q3n(h:x<=1000000000):(Ho x).length<=3:=Qg1 Fo
theorem tdn(n:Nat):((n:Nat):Int).tdiv 10000=((n / 10000:Nat):Int):=rfl
theorem HG(n:Nat):((n:Nat):Int).tdiv 2=((n / 2:Nat):Int):=rfl
theorem RB{mu c0:Nat}(hx:sz x<=100000000)(p:mu<=65536)(hc:c0<=1000000000):U5 149 [.one (nd x),.oi mu,.oi c0] [.one (nd (x*mu+c0))]:=by
 have y:=Qa (B6 x) hx;have u:=GH x;show U5 149 [.one (.row (D8 (Ho x))),.oi mu,.oi c0] _;refine G7 func149 rfl ?_;refine Uy [.r 11 (eI (b:=(((Ho x).length+2:Nat):Int)) (by rw[u];omega)),.i 0,.i ((Ho x).length+2)] rfl ?_;refine U4 (S:=Nat×Nat×Fa) 1 (λL1 s=>(8,.v (.oi (s.1:Int)))::(7,.v (.one (.orow 0 1 none)))::(2,.v (.oi (s.2.1:Int)))::L1.filter (λx=>x.1 != 12)) (λs=>[.row false 3 1 (D8 s.2.2)]) (λs=>((Ho x).length-s.1)*4+(Ho s.2.1).length) (λs=>Dg s.2.2/\s.2.2.length=s.1/\Pk s.2.2+s.2.1*10000^s.1=Pk ((Ho x).take s.1)*mu+c0/\(s.1<=(Ho x).length\/s.1+(Ho s.2.1).length<=(Ho x).length+3)/\s.2.1<=1000000000) (0,c0,[]) ⟨Dg.nil,rfl,by simp[Pk],.inl (Qj _),hc⟩ rfl rfl λs hs=>?_
 obtain⟨i,c,o⟩:=s;obtain⟨e,a,f,q,n⟩:=hs;dsimp only at e a f q n ⊢;have C:=Q3n (x:=c) n;by_cases h1:i<(Ho x).length
 .obtain⟨d,hd⟩:=gxE (l:=(Ho x)) (i:=i) h1;have B:=Lq x d (Qc hd);have D:d*mu<=9999*65536:=Zf Fo p;have z:=Q3n (x:=(c+d*mu) / 10000) Fo;have j:(D8 o).length=i:=by rw[Su,a]
  refine go tt [.g 17 true U7,.t rfl,.T,.x (Rj hd),.r 33 (eI (b:=((d*mu:Nat):Int)) Ft),.r 34 (eI (b:=((c+d*mu:Nat):Int)) Fo),.r 37 (eI (b:=(((c+d*mu) % 10000:Nat):Int)) (by rfl)),.s (sz:=1) (NK _),.r 41 (eI (b:=(((c+d*mu) / 10000:Nat):Int)) (by rfl))] rfl (by simp[Gi,j,tdn,HG,-Int.natCast_add,-Int.natCast_mul];omega) ?_;exact rd (i+1,(c+d*mu) / 10000,o++[(c+d*mu) % 10000]) Fv ⟨e.snoc (Nat.mod_lt _ Fp),by dsimp only;rw[List.length_append];show o.length+1=_;omega,by
   dsimp only;rw[Ng,P6 hd,a,Nat.pow_succ];simp only[Pk,Nat.mul_zero,Nat.add_zero];have:=yJ (d:=d) (m:=mu) rfl f;rw[this];grind,.inl Fv,Fv⟩ (by rw[QL];rfl)
 .by_cases h2:0<c
  .have A:=QC (x:=c) Fo;have j:(D8 o).length=i:=by rw[Su,a]
   refine go tt [.g 17 false U6,.T,.F,.r 37 (eI (b:=((c % 10000:Nat):Int)) (by rfl)),.s (sz:=1) (NK _),.r 41 (eI (b:=((c / 10000:Nat):Int)) (by rfl))] rfl (by simp[Gi,j,tdn,HG,-Int.natCast_add];omega) ?_;exact rd (i+1,c / 10000,o++[c % 10000]) Fv ⟨e.snoc (Nat.mod_lt _ Fp),by dsimp only;rw[List.length_append];show o.length+1=_;omega,by
    dsimp only;rw[Ng,a,Nat.pow_succ];simp only[Pk,Nat.mul_zero,Nat.add_zero];have:=yJ (d:=0) (m:=mu) rfl f;simp only[Nat.zero_mul,Nat.mul_zero,Nat.add_zero]at this;rw[this,List.take_of_length_le Fo,List.take_of_length_le Fo],.inr Fv,Fv⟩ (by rw[QL];rfl)
  .have w:=MJ e;rw[show Pk o=x*mu+c0 from by
    have h:=f;rw[Qo Fo,Sf,show c=0 by omega]at h;omega]at w
   exact Uz [.g 17 false U6,.F,.k w] rfl
variable{l:Fa}
theorem Qil{j d:Nat}(h:l[j]? = some d):val (l.drop j)=d+4294967296*val (l.drop (j+1)):=by
 have hi:=(Qh.1 h).1;rw[Zo hi,(Qh.1 h).2];rfl
theorem DX:∀(l:Fa) (j:Nat),val (l.drop j)<=val l
 |l,0=>Ql _
 | [],j+1=>Ft
 |
  x::l,j+1=>by
  have:=DX l j;rw[Wy];simp only[val];omega
theorem Qb2(hu:∀u∈l,u<4294967296)(hl:l.length≤1099511627776)(hx:sz (val l)≤100000000):U5 87 [lr l] [.one (nd (val l))]:=by
 have c:=Gh l;show U5 87 [.one (.row (lm l))] _;refine G7 func87 rfl ?_;refine Uy [.z 3,.r 7 (eI (b:=((l.length:Nat):Int)-1) (by rw[c]))] rfl ?_;refine U4 (S:=Nat×Fa) 0 (λL1 s=>(4,.v (.oi ((s.1:Int)-1)))::(3,.v (.one (.row (D8 s.2))))::L1) (λ_=>[]) (λs=>s.1) (λs=>s.1<=l.length/\s.2=Ho (val (l.drop s.1))) (l.length,[]) ⟨Nat.le_refl _,by dsimp only;rw[List.drop_eq_nil_of_le (Nat.le_refl _)];show []=Ho 0;rw[Ti]⟩ rfl rfl λs hs=>?_
 obtain⟨j,o⟩:=s;obtain⟨t,m⟩:=hs;dsimp only at t m ⊢;subst m;cases j with
 |zero=>exact Uz [.f Ft] rfl (by rw[Jd];rfl) trivial
 |
  succ j =>
  obtain⟨d,hd⟩:=gxE (l:=l) (i:=j) Fo;have w:=hu d (Qc hd);have a:=Qil hd;have p:=DX l j;have g:sz (val (l.drop (j+1))*65536+d / 65536)<=100000000:=Qa (Sk Fo) hx;have e:sz (val (l.drop (j+1)))<=100000000:=Qa (Sk Fo) hx;have n:=RB (x:=val (l.drop (j+1))) (mu:=65536) (c0:=d / 65536) e Fo Fo;have h:=RB (x:=val (l.drop (j+1))*65536+d / 65536) (mu:=65536) (c0:=d % 65536) g Fo Fo;have y:((j+1:Nat):Int)-1=(j:Int):=Fo;have q:(val (l.drop (j+1))*65536+d / 65536)*65536+d % 65536=val (l.drop j):=by rw[a];omega
  rw[q]at h;rw[y];refine go tt [.T,.x (Rk hd),.r 17 (Iw (b:=((d / 65536:Nat):Int)) (by rfl)),.k n,.x (Rk hd),.r 25 (Iw (b:=((d % 65536:Nat):Int)) (by rfl)),.k h] rfl (by simp[Gi,IntKind.bits];omega) ?_;exact rd (j,Ho (val (l.drop j))) Fv ⟨Fv,rfl⟩ rfl
variable{y:Nat}
theorem eA(hx:sz x<=200000000)(h:sz y<=200000000):U5 126 [.one (nd x),.one (nd y)] [.oi (YE x y)]:=by
 have g:=Qa (B6 x) hx;have k:=Qa (B6 y) h;have lx:=GH x;have ly:=GH y;show U5 126 [.one (.row (D8 (Ho x))),.one (.row (D8 (Ho y)))] _;refine G7 func126 rfl ?_;by_cases hl:(Ho x).length=(Ho y).length
 .refine Uy [.f Fq,.r 18 (eI (b:=((Ho x).length:Int)-1) (by rw[lx]))] rfl ?_;refine U4 (S:=Nat) 0 (λL1 j=>(5,.v (.oi ((j:Int)-1)))::L1) (λ_=>[]) (λj=>j) (λj=>j<=(Ho x).length/\(Ho x).drop j=(Ho y).drop j) (Ho x).length ⟨Ql _,by rw[Yq (Ql _),Yq Fo]⟩ rfl rfl λj hs=>?_
  obtain⟨n,hp⟩:=hs;cases j with
  |
   zero =>
   have a:x=y:=by rw[Jd,Jd]at hp;rw[<-Sf x,<-Sf y,hp]
   exact Uz [.f Ft] rfl (by rw[Qcx a]) trivial
  |
   succ j =>
   obtain⟨d,hd⟩:=gxE (l:=(Ho x)) (i:=j) Fo;obtain⟨e,he⟩:=gxE (l:=(Ho y)) (i:=j) Fo;have m:((j+1:Nat):Int)-1=(j:Int):=Fo;rw[m];by_cases h2:d=e
   .refine Uy [.T,.x (Rj hd),.x (Rj he),.f (by simp[h2])] rfl ?_;exact rd j Fo ⟨Fo,by rw[Zo (by omega:j<(Ho x).length),Zo (by omega:j<(Ho y).length),hp,(Qh.1 hd).2,(Qh.1 he).2,h2]⟩ rfl
   .by_cases h3:d<e
    .have a:=II (Lq x) hd he hp h3;rw[Sf,Sf]at a;exact Uz [.T,.x (Rj hd),.x (Rj he),.t Fq,.x (Rj hd),.x (Rj he),.T] rfl (by rw[LP a]) trivial
    .have a:=II (Lq y) he hd hp.symm Fo;rw[Sf,Sf]at a;exact Uz [.T,.x (Rj hd),.x (Rj he),.t Fq,.x (Rj hd),.x (Rj he),.F] rfl (by rw[LR a]) trivial
 .by_cases c:(Ho x).length<(Ho y).length
  .exact Uz [.t Fq,.T] rfl (by rw[LP (mY c)]) trivial
  .exact Uz [.t Fq,.F] rfl (by rw[LR (mY Fo)]) trivial
theorem UZ{o c s P V:Nat}(h:o+c*P=V):o+P*((c+s) % 10000)+(c+s) / 10000*(P*10000)=V+P*s:=by
 have e:=Xq (c+s) 10000;generalize (c+s) / 10000=q at *;generalize (c+s) % 10000=r at *;have a:P*(c+s)=P*(10000*q+r):=by rw[e]
 grind
theorem XY{i:Nat}(h:l.length<=i):Pk (l.take (i+1))=Pk (l.take i):=by rw[Qo Fo,Qo h]
theorem Qdb{p v u:Nat}(h:l[p]? = some v):Pk (l.set p u)+10000^p*v=Pk l+10000^p*u:=by
 have hp:=(Qh.1 h).1;rw[LN (l.set p u) p (by rw[Xd];omega),LN l p Fo,VD h,MF hp,List.take_set_of_le (Ql _)];simp only[Pk];generalize 10000^p=P;grind
theorem QE{p u:Nat}(h:p<l.length):Pk ((l.set p u).take (p+1))=Pk (l.take p)+10000^p*u:=by
 rw[P6 (l:=l.set p u) (i:=p) (x:=u) (by simp[h]),List.take_set_of_le (Ql _)]
structure AddI(x y:Nat)(s:Nat×Nat×List Nat):Prop where
 d:Dg s.2.2
 l:s.2.2.length=s.1
 v:Pk s.2.2+s.2.1*10000^s.1=Pk ((Ho x).take s.1)+Pk ((Ho y).take s.1)
 c:s.2.1<=1
 b:s.1<=max (Ho x).length (Ho y).length\/s.1=max (Ho x).length (Ho y).length+1/\10000^(max (Ho x).length (Ho y).length)<=x+y/\s.2.1=0
theorem Qyw(hx:sz x<=200000000)(w:sz y<=200000000):U5 125 [.one (nd x),.one (nd y)] [.one (nd (x+y))]:=by
 have u:=Qa (B6 x) hx;have A:=Qa (B6 y) w;have lx:=GH x;have ly:=GH y;show U5 125 [.one (.row (D8 (Ho x))),.one (.row (D8 (Ho y)))] _;refine G7 func125 rfl ?_;refine Ux [.o 5 3 1] rfl ?_;refine U4 (S:=Nat×Nat×Fa) 1 (λL1 s=>(7,.v (.oi (s.1:Int)))::(6,.v (.oi (s.2.1:Int)))::(5,.v (.one (.orow 0 1 none)))::L1) (λs=>[.row false 3 1 (D8 s.2.2)]) (λs=>(max (Ho x).length (Ho y).length-s.1)*2+s.2.1) (AddI x y) (0,0,[]) ⟨Dg.nil,rfl,by simp[Pk],Fp,.inl (Qj _)⟩ rfl rfl λs hs=>?_
 obtain⟨i,c,o⟩:=s;obtain⟨j,f,a,q,n⟩:=hs;dsimp only at j f a q n ⊢;have k:(D8 o).length=i:=by rw[Su,f]
 by_cases h1:i<(Ho x).length
 .obtain⟨d,hd⟩:=gxE (l:=(Ho x)) (i:=i) h1;have z:=Lq x d (Qc hd);by_cases h2:i<(Ho y).length
  .obtain⟨e,he⟩:=gxE (l:=(Ho y)) (i:=i) h2;have p:=Lq y e (Qc he);refine go tt [.g 12 true U7,.g 18 true rfl,.t rfl,.T,.x (Rj hd),.r 33 (eI (b:=((c+d:Nat):Int)) Fo),.T,.x (Rj he),.r 43 (eI (b:=((c+(d+e):Nat):Int)) Fo),.r 46 (eI (b:=(((c+(d+e)) % 10000:Nat):Int)) (by rfl)),.s (sz:=1) (NK _),.r 50 (eI (b:=(((c+(d+e)) / 10000:Nat):Int)) (by rfl))] rfl (by simp[Gi,k,tdn,HG,-Int.natCast_add];omega) ?_;exact rd (i+1,(c+(d+e)) / 10000,o++[(c+(d+e)) % 10000]) Fv ⟨j.snoc (Nat.mod_lt _ Fp),by dsimp only;rw[List.length_append];show o.length+1=_;omega,by
    dsimp only;rw[Ng,f,Nat.pow_succ];simp only[Pk,Nat.mul_zero,Nat.add_zero];have:=UZ (s:=d+e) a;rw[this,P6 hd,P6 he];grind,Fv,.inl Fv⟩ (by rw[QL];rfl)
  .refine go tt [.g 12 true U7,.g 18 true rfl,.t rfl,.T,.x (Rj hd),.r 33 (eI (b:=((c+d:Nat):Int)) Fo),.F,.r 46 (eI (b:=(((c+d) % 10000:Nat):Int)) (by rfl)),.s (sz:=1) (NK _),.r 50 (eI (b:=(((c+d) / 10000:Nat):Int)) (by rfl))] rfl (by simp[Gi,k,tdn,HG,-Int.natCast_add];omega) ?_;exact rd (i+1,(c+d) / 10000,o++[(c+d) % 10000]) Fv ⟨j.snoc (Nat.mod_lt _ Fp),by dsimp only;rw[List.length_append];show o.length+1=_;omega,by
    dsimp only;rw[Ng,f,Nat.pow_succ];simp only[Pk,Nat.mul_zero,Nat.add_zero];have:=UZ (s:=d) a;rw[this,P6 hd,XY (l:=Ho y) Fo];grind,Fv,.inl Fv⟩ (by rw[QL];rfl)
 .by_cases h2:i<(Ho y).length
  .obtain⟨e,he⟩:=gxE (l:=(Ho y)) (i:=i) h2;have p:=Lq y e (Qc he);refine go tt [.g 12 false U6,.g 18 true U7,.t rfl,.F,.T,.x (Rj he),.r 43 (eI (b:=((c+e:Nat):Int)) Fo),.r 46 (eI (b:=(((c+e) % 10000:Nat):Int)) (by rfl)),.s (sz:=1) (NK _),.r 50 (eI (b:=(((c+e) / 10000:Nat):Int)) (by rfl))] rfl (by simp[Gi,k,tdn,HG,-Int.natCast_add];omega) ?_;exact rd (i+1,(c+e) / 10000,o++[(c+e) % 10000]) Fv ⟨j.snoc (Nat.mod_lt _ Fp),by dsimp only;rw[List.length_append];show o.length+1=_;omega,by
    dsimp only;rw[Ng,f,Nat.pow_succ];simp only[Pk,Nat.mul_zero,Nat.add_zero];have:=UZ (s:=e) a;rw[this,P6 he,XY (l:=Ho x) Fo];grind,Fv,.inl Fv⟩ (by rw[QL];rfl)
  .by_cases h3:0<c
   .refine go tt [.g 12 false U6,.g 18 false U6,.T,.F,.F,.r 46 (eI (b:=((c % 10000:Nat):Int)) (by rfl)),.s (sz:=1) (NK _),.r 50 (eI (b:=((c / 10000:Nat):Int)) (by rfl))] rfl (by simp[Gi,k,tdn,HG,-Int.natCast_add];omega) ?_;exact rd (i+1,c / 10000,o++[c % 10000]) Fv ⟨j.snoc (Nat.mod_lt _ Fp),by dsimp only;rw[List.length_append];show o.length+1=_;omega,by
     dsimp only;rw[Ng,f,Nat.pow_succ];simp only[Pk,Nat.mul_zero,Nat.add_zero];have:=UZ (s:=0) a;rw[Nat.add_zero,Nat.mul_zero,Nat.add_zero]at this;rw[this,XY (l:=Ho y) Fo,XY (l:=Ho x) Fo],Fv,.inr ⟨Fv,by
      have h:=a;rw[List.take_of_length_le Fo,List.take_of_length_le Fo,Sf,Sf,show c=1 by omega,Nat.one_mul,show i=(max (Ho x).length (Ho y).length) by omega]at h;omega,Fv⟩⟩ (by rw[QL];rfl)
   .have hv:Pk o=x+y:=by
     have h:=a;rw[Qo Fo,Qo Fo,Sf,Sf,show c=0 by omega]at h;omega
    have m:o=Ho (x+y):=by
     have h:=Qlw (o:=o) j;rw[hv]at h;refine h ?_;have C:=VN (x:=x) (y:=x+y) Fo;have B:=VN (x:=y) (y:=x+y) Fo;rcases n with hb|⟨_,hb,_⟩
     .omega
     .have:=Qg0 hb;omega
    exact Uz [.g 12 false U6,.g 18 false U6,.F] rfl (by rw[m];rfl) trivial
theorem UJ{o b a c P u d e c':Nat}(h:o+b=a+c*P)(hs:u+e+c=d+10000*c'):(o+P*u)+(b+P*e)=(a+P*d)+c'*(P*10000):=by
 have f:P*(u+e+c)=P*(d+10000*c'):=by rw[hs]
 grind
theorem JA(o:Fa)(i u:Nat):D8 (o.set i u)=(D8 o).set i [.int .i64 (u:Int)]:=by simp[D8,Kd]
theorem aK(hx:sz x<=200000000)(C:sz y<=200000000)(t:y<=x):U5 127 [.one (nd x),.one (nd y)] [.one (nd (x-y))]:=by
 have B:=Qa (B6 x) hx;have G:=Qa (B6 y) C;have lx:=GH x;have ly:=GH y;have A:=VN t;show U5 127 [.one (.row (D8 (Ho x))),.one (.row (D8 (Ho y)))] _;refine G7 func127 rfl ?_;refine Uy [.i (D8 (Ho x)).length,.i (D8 (Ho x)).length] rfl ?_;rw[lx,show List.replicate (Ho x).length [LV.int .i64 0]=D8 (List.replicate (Ho x).length 0) from by simp[D8]];refine U4 (S:=Nat×Nat×Fa) 1 (λL1 s=>(14,.v (.oi (s.1:Int)))::(6,.v (.oi (s.2.1:Int)))::L1) (λs=>[.row false 3 1 (D8 s.2.2)]) (λs=>(Ho x).length-s.1) (λs=>s.1<=(Ho x).length/\s.2.2.length=(Ho x).length/\Dg s.2.2/\Pk (s.2.2.take s.1)+Pk ((Ho y).take s.1)=Pk ((Ho x).take s.1)+s.2.1*10000^s.1/\s.2.1<=1) (0,0,List.replicate (Ho x).length 0) ⟨Qj _,Ji ..,Dg.zeros _,by simp[Pk],Qj _⟩ rfl rfl λs hs=>?_
 obtain⟨i,c,o⟩:=s;obtain⟨q,a,f,g,w⟩:=hs;dsimp only at q a f g w ⊢;have j:(D8 o).length=(Ho x).length:=by rw[Su,a]
 by_cases h1:i<(Ho x).length
 .obtain⟨d,hd⟩:=gxE (l:=(Ho x)) (i:=i) h1;have E:=Lq x d (Qc hd);by_cases h2:i<(Ho y).length
  .obtain⟨e,he⟩:=gxE (l:=(Ho y)) (i:=i) h2;have D:=Lq y e (Qc he);by_cases h3:d<c+e
   .refine go tt [.T,.x (Rj hd),.T,.x (Rj he),.T,.r 36 (eI (b:=((d+10000-c-e:Nat):Int)) Fo),.i i] rfl (by simp[Gi,j,tdn,HG,-Int.natCast_add];omega) ?_;exact rd (i+1,1,o.set i (d+10000-c-e)) Fv ⟨Fv,by dsimp only;rw[List.length_set];exact a,f.set Fo,by
     dsimp only;rw[QE Fo,P6 hd,P6 he,Nat.pow_succ];exact UJ g (u:=d+10000-c-e) (d:=d) (e:=e) (c':=1) Fo,Fv⟩ (by rw[JA];rfl)
   .refine go tt [.T,.x (Rj hd),.T,.x (Rj he),.r 32 (eI (b:=((d-c-e:Nat):Int)) Fo),.F,.i i] rfl (by simp[Gi,j,tdn,HG,-Int.natCast_add];omega) ?_;exact rd (i+1,0,o.set i (d-c-e)) Fv ⟨Fv,by dsimp only;rw[List.length_set];exact a,f.set Fo,by
     dsimp only;rw[QE Fo,P6 hd,P6 he,Nat.pow_succ];exact UJ g (u:=d-c-e) (d:=d) (e:=e) (c':=0) Fo,Fv⟩ (by rw[JA];rfl)
  .have m:Pk ((Ho y).take (i+1))=Pk ((Ho y).take i)+10000^i*0:=by rw[XY Fo,Vg,X1]
   by_cases h3:d<c
   .refine go tt [.T,.x (Rj hd),.F,.T,.r 36 (eI (b:=((d+10000-c:Nat):Int)) Fo),.i i] rfl (by simp[Gi,j,tdn,HG,-Int.natCast_add];omega) ?_;exact rd (i+1,1,o.set i (d+10000-c)) Fv ⟨Fv,by dsimp only;rw[List.length_set];exact a,f.set Fo,by
     dsimp only;rw[QE Fo,P6 hd,m,Nat.pow_succ];exact UJ g (u:=d+10000-c) (d:=d) (e:=0) (c':=1) Fo,Fv⟩ (by rw[JA];rfl)
   .refine go tt [.T,.x (Rj hd),.r 22 (eI (b:=((d-c:Nat):Int)) Fo),.F,.F,.i i] rfl (by simp[Gi,j,tdn,HG,-Int.natCast_add];omega) ?_;exact rd (i+1,0,o.set i (d-c)) Fv ⟨Fv,by dsimp only;rw[List.length_set];exact a,f.set Fo,by
     dsimp only;rw[QE Fo,P6 hd,m,Nat.pow_succ];exact UJ g (u:=d-c) (d:=d) (e:=0) (c':=0) Fo,Fv⟩ (by rw[JA];rfl)
 .have hi:i=(Ho x).length:=Fo;have hv:Pk o=x-y:=by
   have h:=g;rw[Qo Fo,Qo Fo,Qo Fo,Sf,Sf]at h;have n:=OV f;rw[a,<-hi]at n;have p:c=0:=by
    rcases Q0 c with h0|h0
    .exact h0
    .exfalso;have:c=1:=Fo;rw[this,W8]at h;omega
   rw[p]at h;omega
  have z:=MJ f;rw[hv]at z;exact Uz [.F,.k z] rfl
theorem OX{o a c P u v s V:Nat}(h:o+c*P=V)(hs:a+P*v=o+P*u){q:Nat}(hu:u+10000*q=v+c+s):a+q*(P*10000)=V+P*s:=by
 have b:P*(u+10000*q)=P*(v+c+s):=by rw[hu]
 grind
theorem Q3o(S:Nat):S % 10000+10000*(S / 10000)=S:=Wv S 10000
structure MulI(x y i d:Nat)(s:Nat×Nat×List Nat):Prop where
 l:s.2.2.length=(Ho x).length+(Ho y).length
 dg:Dg s.2.2
 v:Pk s.2.2+s.2.1*10000^(i+s.1)=Pk ((Ho x).take i)*y+10000^i*d*Pk ((Ho y).take s.1)
 c:s.2.1<10000
 b:s.1<=(Ho y).length/\(∀j v,i+(Ho y).length<=j->s.2.2[j]? = some v->v=0)\/s.1=(Ho y).length+1/\s.2.1=0/\∀j v,i+(Ho y).length+1<=j->s.2.2[j]? = some v->v=0
theorem Qy7(hx:sz x<=200000000)(N:sz y<=200000000):U5 128 [.one (nd x),.one (nd y)] [.one (nd (x*y))]:=by
 have M:=Qa (B6 x) hx;have R:=Qa (B6 y) N;have lx:=GH x;have ly:=GH y;show U5 128 [.one (.row (D8 (Ho x))),.one (.row (D8 (Ho y)))] _;refine G7 func128 rfl ?_;refine Uy [.r 14 (eI (b:=(((Ho x).length+(Ho y).length:Nat):Int)) (by rw[lx,ly];omega)),.i ((Ho x).length+(Ho y).length),.i ((Ho x).length+(Ho y).length)] rfl ?_;rw[show List.replicate ((Ho x).length+(Ho y).length) [LV.int .i64 0]=D8 (List.replicate ((Ho x).length+(Ho y).length) 0) from by simp[D8]];refine U4 (S:=Nat×Fa) 1 (λL1 s=>(18,.v (.oi (s.1:Int)))::L1) (λs=>[.row false 3 1 (D8 s.2)]) (λs=>(Ho x).length-s.1) (λs=>s.1<=(Ho x).length/\s.2.length=(Ho x).length+(Ho y).length/\Dg s.2/\Pk s.2=Pk ((Ho x).take s.1)*y/\∀j v,s.1+(Ho y).length<=j->s.2[j]? = some v->v=0) (0,List.replicate ((Ho x).length+(Ho y).length) 0) ⟨Qj _,Ji ..,Dg.zeros _,by rw[OK (λx hx=>Z0 hx)];simp[Pk],λj v _ hv=>Z0 (Qc hv)⟩ rfl rfl λs hs=>?_
 obtain⟨i,o⟩:=s;obtain⟨H,D,B,A,G⟩:=hs;dsimp only at H D B A G ⊢;by_cases h1:i<(Ho x).length
 .obtain⟨d,hd⟩:=gxE (l:=(Ho x)) (i:=i) h1;have Q:=Lq x d (Qc hd);refine Ux [.T] rfl ?_;refine U4 (S:=Nat×Nat×Fa) 1 (λL1 s=>(8,.v (.oi (s.1:Int)))::(7,.v (.oi (s.2.1:Int)))::L1) (λs=>[.row false 3 1 (D8 s.2.2)]) (λs=>((Ho y).length-s.1)*2+min s.2.1 1) (MulI x y i d) (0,0,o) ⟨D,B,by dsimp only;rw[A];simp[Pk],by show 0<10000;decide,.inl ⟨Nat.zero_le _,G⟩⟩ rfl rfl λs hs=>?_
  obtain⟨k,c,C⟩:=s;obtain⟨n,f,p,J,z⟩:=hs;dsimp only at n f p J z ⊢;have E:(D8 C).length=(Ho x).length+(Ho y).length:=by rw[Su,n]
  by_cases h2:k<(Ho y).length
  .obtain⟨e,he⟩:=gxE (l:=(Ho y)) (i:=k) h2;have O:=Lq y e (Qc he);have P:d*e<=9999*9999:=Zf Fo Fo;obtain⟨v,a⟩:=gxE (l:=C) (i:=i+k) Fo;have K:=f v (Qc a);refine go tt [.g 25 true U7,.t rfl,.r 34 (eI (b:=((i+k:Nat):Int)) Fo),.i (i+k),.x (Rj a),.r 38 (eI (b:=((v+c:Nat):Int)) Fo),.T,.x (Rj hd),.x (Rj he),.r 52 (eI (b:=((d*e:Nat):Int)) Ft),.r 53 (eI (b:=((v+c+d*e:Nat):Int)) Fo),.r 57 (eI (b:=((i+k:Nat):Int)) Fo),.r 59 (eI (b:=(((v+c+d*e) % 10000:Nat):Int)) (by rfl)),.i (i+k),.r 62 (eI (b:=(((v+c+d*e) / 10000:Nat):Int)) (by rfl))] rfl (by simp[Gi,E,tdn,HG,-Int.natCast_add,-Int.natCast_mul];omega) ?_;exact rd (k+1,(v+c+d*e) / 10000,C.set (i+k) ((v+c+d*e) % 10000)) Fv ⟨by dsimp only;rw[List.length_set];exact n,f.set (Nat.mod_lt _ Fp),by
    dsimp only;rw[<-Nat.add_assoc i k 1,Nat.pow_succ];have:=OX p (Qdb a (u:=((v+c)+(d*e)) % 10000)) (s:=d*e) (q:=((v+c)+(d*e)) / 10000) (by rw[Q3o]);rw[this,P6 he,Nat.pow_add];grind,Fv,.inl ⟨Fv,λj w I m=>(by
     dsimp only at m;rcases z with⟨_,h⟩|⟨_,_,h⟩ <;> (rw[Y5 Fo]at m;exact h j w Fo m))⟩⟩ (by rw[JA];rfl)
  .by_cases h3:0<c
   .have U:k=(Ho y).length:=Fo;have hz:∀j v,i+(Ho y).length<=j->C[j]? = some v->v=0:=by
     rcases z with⟨_,h⟩|⟨_,h,_⟩
     .exact h
     .omega
    obtain⟨v,a⟩:=gxE (l:=C) (i:=i+k) Fo;have hv0:v=0:=hz (i+k) v Fo a;have K:=f v (Qc a);refine go tt [.g 25 false U6,.T,.r 34 (eI (b:=((i+k:Nat):Int)) Fo),.i (i+k),.x (Rj a),.r 38 (eI (b:=((v+c:Nat):Int)) Fo),.F,.r 57 (eI (b:=((i+k:Nat):Int)) Fo),.r 59 (eI (b:=(((v+c) % 10000:Nat):Int)) (by rfl)),.i (i+k),.r 62 (eI (b:=(((v+c) / 10000:Nat):Int)) (by rfl))] rfl (by simp[Gi,E,tdn,HG,-Int.natCast_add];omega) ?_;exact rd (k+1,(v+c) / 10000,C.set (i+k) ((v+c) % 10000)) Fv ⟨by dsimp only;rw[List.length_set];exact n,f.set (Nat.mod_lt _ Fp),by
     dsimp only;rw[<-Nat.add_assoc i k 1,Nat.pow_succ];have:=OX p (Qdb a (u:=(v+c) % 10000)) (s:=0) (q:=(v+c) / 10000) (by rw[Q3o];rfl);rw[this,Nat.mul_zero,Nat.add_zero,XY Fo],Fv,.inr ⟨Fv,Fv,λj w I m=>(by
      dsimp only at m;rw[Y5 Fo]at m;exact hz j w Fo m)⟩⟩ (by rw[JA];rfl)
   .refine Uy [.g 25 false U6,.F] rfl ?_;exact rd (i+1,C) Fv ⟨Fv,n,f,by
     dsimp only;rw[P6 hd,Jj];have h:=p;rw[show c=0 by omega,Qo (l:=Ho y) (i:=k) Fo,Sf]at h;rw[Yv,X1]at h;exact h,by
     dsimp only;rcases z with⟨_,h⟩|⟨_,_,h⟩
     .exact λj w I m=>h j w Fo m
     .exact λj w I m=>h j w Fo m⟩ rfl
 .have hv:Pk o=x*y:=by rw[A,Qo Fo,Sf]
  have L:=MJ B;rw[hv]at L;exact Uz [.F,.k L] rfl
theorem Qcz:YE x y<=0↔x<=y:=by
 unfold YE;constructor
 .intro h;split at h
  .omega
  .split at h <;> omega
 .intro h;split
  .omega
  .split <;> omega
theorem Qg4{R lo:Nat}(h1:y*lo<=R)(h2:R<y*(lo+1)):R / y=lo/\R % y=R-y*lo:=by
 have a:0<y:=by
  rcases Q0 y with h|h
  .subst h;simp at h2
  .exact h
 have e:R / y=lo:=Nat.div_eq_of_lt_le (by rw[Zt];exact h1) (by rw[Zt];exact h2);refine⟨e,?_⟩;have:=Xq R y;rw[e]at this;omega
theorem Qqi{R:Nat}(h:R<y*10000):sz R<=sz y+14:=by
 refine Db.2 (Xk h ?_);have:=TE y;rw[Xj];have e:(2:Nat)^14=16384:=Fp;rw[e];exact Zf Fo Fp
theorem Qif(y:Nat):sz (y*10000)<=sz y+14:=by
 refine Db.2 ?_;have:=TE y;rw[Xj];have e:(2:Nat)^14=16384:=Fp;rw[e];omega
theorem aZ(hx:sz x<=90000000)(Y:sz y<=90000000)(E:0<y):U5 147 [.one (nd x),.one (nd y)] [.one (nd (x / y)),.one (nd (x % y))]:=by
 have W:=Qa (B6 x) hx;have hyl:=Qa (B6 y) Y;have lx:=GH x;show U5 147 [.one (.row (D8 (Ho x))),.one (nd y)] _;refine G7 func147 rfl ?_;refine Uy [.i (D8 (Ho x)).length,.i (D8 (Ho x)).length,.z 7,.r 17 (eI (b:=((Ho x).length:Int)-1) (by rw[lx]))] rfl ?_;rw[lx,show List.replicate (Ho x).length [LV.int .i64 0]=D8 (List.replicate (Ho x).length 0) from by simp[D8]];refine U4 (S:=Nat×Fa×Fa) 1 (λL1 s=>(8,.v (.oi ((s.1:Int)-1)))::(7,.v (.one (.row (D8 s.2.1))))::L1) (λs=>[.row false 3 1 (D8 s.2.2)]) (λs=>s.1) (λs=>s.1<=(Ho x).length/\s.2.2.length=(Ho x).length/\Dg s.2.2/\Pk (s.2.2.drop s.1)=Pk ((Ho x).drop s.1) / y/\s.2.1=Ho (Pk ((Ho x).drop s.1) % y)) ((Ho x).length,[],List.replicate (Ho x).length 0) ⟨Nat.le_refl _,List.length_replicate ..,Dg.zeros _,by dsimp only;rw[List.drop_eq_nil_of_le Ft,List.drop_eq_nil_of_le (Nat.le_refl _)];simp[Pk],by dsimp only;rw[List.drop_eq_nil_of_le (Nat.le_refl _)];simp[Pk,Ti]⟩ rfl rfl λs hs=>?_
 obtain⟨j,R,o⟩:=s;obtain⟨M,q,B,e,c⟩:=hs;dsimp only at M q B e c ⊢;cases j with
 |
  zero =>
  have H:=MJ B;rw[Jd,Jd,Sf]at e;rw[Jd,Sf]at c;rw[e]at H;exact Uz [.f Ft,.k H] rfl (by rw[c];rfl) trivial
 |
  succ j =>
  obtain⟨d,hd⟩:=gxE (l:=(Ho x)) (i:=j) Fo;have I:=Lq x d (Qc hd);have K:=VD hd;obtain⟨p,n,A⟩:=mU (V:=Pk ((Ho x).drop (j+1))) (kd:=y) (d:=d) E;rw[<-K]at p n;have A:=A I;obtain⟨a,g⟩:=nmE (Pk ((Ho x).drop (j+1)) % y);have X:a<y:=by rw[g];exact Xf _ E
  rw[<-g]at c p n A;subst c;have hrl:(Ho a).length<=(Ho y).length:=VN Fo;have hR:a*10000+d<y*10000:=Fo;have Z:=Qqi hR;have L:Dg (d::Ho a):=λz hz=>by
   rcases Qm.1 hz with rfl|hz
   .exact I
   .exact Lq a z hz
  have H:=MJ L;rw[show Pk (d::Ho a)=a*10000+d from by simp only[Pk];rw[Sf];omega]at H;have P:(D8 o).length=(Ho x).length:=by rw[Su,q]
  have Q:=Su (Ho a);have ej:((j+1:Nat):Int)-1=(j:Int):=Fo;rw[ej];refine go tt [.T,.x (Rj hd),.lo,.s (sz:=1) (Qz3 (Ho a)),.k H] rfl (by simp[Gi,GH];omega) ?_;refine U4 (S:=Nat×Nat) 2 (λL1 s=>(9,.v (.oi (s.1:Int)))::(10,.v (.oi (s.2:Int)))::L1) (λ_=>[.row false 3 1 (D8 o),.gone]) (λs=>s.2-s.1) (λs=>s.1<=s.2/\s.2<=9999/\y*s.1<=a*10000+d/\a*10000+d<y*(s.2+1)) (0,9999) ⟨Fp,Fp,Fv,Fv⟩ rfl rfl λs hs=>?_
  obtain⟨lo,hi⟩:=s;obtain⟨N,D,u,w⟩:=hs;dsimp only at N D u w ⊢;by_cases h2:lo<hi
  .obtain⟨m,hm⟩:=nmE ((lo+hi+1) / 2);have U:y*m<=y*10000:=Zl y Fo;have J:=RB (x:=y) (mu:=m) (c0:=0) Fo Fo Fo;have C:=eA (x:=y*m+0) (y:=a*10000+d) (Qa (Sk (show _<=y*10000 by omega)) (Qa (Qif y) Fo)) Fo;by_cases h3:y*m+0<=a*10000+d
   .refine go tt [.T,.r 35 (eI (b:=((lo+hi:Nat):Int)) Fo),.r 36 (eI (b:=((lo+hi+1:Nat):Int)) Fo),.r 37 (eI (b:=(m:Int)) (by rw[hm];rfl)),.k J,.k C,.t (decide_eq_true (Qcz.2 h3))] rfl (by simp[Gi,HG,-Int.natCast_add];omega) ?_;exact rd (m,hi) Fv ⟨Fv,D,Fv,w⟩ rfl
   .refine go tt [.T,.r 35 (eI (b:=((lo+hi:Nat):Int)) Fo),.r 36 (eI (b:=((lo+hi+1:Nat):Int)) Fo),.r 37 (eI (b:=(m:Int)) (by rw[hm];rfl)),.k J,.k C,.f (decide_eq_false λh=>h3 (Qcz.1 h)),.r 46 (eI (b:=((m-1:Nat):Int)) Fo)] rfl (by simp[Gi,HG,-Int.natCast_add];omega) ?_;exact rd (lo,m-1) Fv ⟨Fv,Fv,u,by dsimp only;rw[show m-1+1=m by omega];omega⟩ rfl
  .have O:lo=hi:=Fo;have G:=Qg4 u (by rw[O];exact w);have J:=RB (x:=y) (mu:=lo) (c0:=0) Fo Fo Fo;have C:=aK (x:=a*10000+d) (y:=y*lo+0) Fo (Qa (Sk (show _<=a*10000+d by omega)) Fo) Fo;rw[show a*10000+d-(y*lo+0)=Pk ((Ho x).drop j) % y from by rw[n,G.2];omega]at C;refine go tt [.F,.i j,.k J,.k C] rfl (by simp[Gi,P,tdn,HG,-Int.natCast_add];omega) ?_;exact rd (j,Ho (Pk ((Ho x).drop j) % y),o.set j lo) Fv ⟨Fv,by dsimp only;rw[List.length_set];exact q,B.set Fo,by
    dsimp only;rw[MF Fo];simp only[Pk];rw[e,p,G.1],rfl⟩ (by rw[JA];rfl)
variable{a b:Int}
theorem Qv1(h:(decide (a<0) == decide (b<0))=true):Gn (decide (a<0)) (a.natAbs+b.natAbs)=a+b:=by
 unfold Gn;by_cases h1:a<0 <;> by_cases h2:b<0 <;> simp[h1,h2]at h ⊢ <;> omega
theorem Qv4(h:¬(decide (a<0) == decide (b<0))=true)(hl:b.natAbs<=a.natAbs):Gn (decide (a<0)) (a.natAbs-b.natAbs)=a+b:=by
 unfold Gn;by_cases h1:a<0 <;> by_cases h2:b<0 <;> simp[h1,h2]at h ⊢ <;> omega
theorem Qpy(h:¬(decide (a<0) == decide (b<0))=true)(hl:¬b.natAbs<=a.natAbs):Gn (decide (b<0)) (b.natAbs-a.natAbs)=a+b:=by
 unfold Gn;by_cases h1:a<0 <;> by_cases h2:b<0 <;> simp[h1,h2]at h ⊢ <;> omega
theorem UC(a:Int):(∃m:Nat,a=(m:Int))\/∃m:Nat,a=-(m:Int)/\0<m:=by
 rcases Kv a 0 with h|h
 .exact .inr ⟨a.natAbs,Fo,Fo⟩
 .exact .inl ⟨a.natAbs,Fo⟩
theorem Qv3(a b:Int):Gn (!(decide (a<0) == decide (b<0))) (a.natAbs*b.natAbs)=a*b:=by
 rcases UC a with⟨m,rfl⟩|⟨m,rfl,hm⟩ <;> rcases UC b with⟨n,rfl⟩|⟨n,rfl,hn⟩
 .simp[Gn,show ¬((m:Int)<0) by omega,show ¬((n:Int)<0) by omega]
 .simp[Gn,show ¬((m:Int)<0) by omega,show(-(n:Int)<0) by omega,hn,V2]
 .simp[Gn,show(-(m:Int)<0) by omega,show ¬((n:Int)<0) by omega,hm,Kq]
 .simp[Gn,show(-(m:Int)<0) by omega,show(-(n:Int)<0) by omega,hm,hn,Uq]
theorem Qv2(h:a % b=0):Gn (!(decide (a<0) == decide (b<0))) (a.natAbs / b.natAbs)=a / b:=by
 by_cases hb:b=0
 .subst hb;simp[Gn]
 obtain⟨c,rfl⟩:=Vs h;rw[Jf _ hb,Yf,Nat.mul_div_cancel_left _ Fo];rcases UC b with⟨n,rfl⟩|⟨n,rfl,hn⟩ <;> rcases UC c with⟨m,rfl⟩|⟨m,rfl,hm⟩
 .have:¬((n:Int)*(m:Int)<0):=by rw[<-Vw];omega
  simp[Gn,this,show ¬((n:Int)<0) by omega]
 .have h1:0<n*m:=Yt Fo hm;have:((n:Int)*-(m:Int)<0):=by rw[V2,<-Vw];omega
  simp only[this,show ¬((n:Int)<0) by omega];simp[Gn]
 .by_cases h0:m=0
  .subst h0;simp[Gn]
  .have h1:0<n*m:=Yt hn Fo;have:(-(n:Int)*(m:Int)<0):=by rw[Kq,<-Vw];omega
   simp only[this,show(-(n:Int)<0) by omega];simp[Gn]
 .have:¬(-(n:Int)*-(m:Int)<0):=by rw[Uq,<-Vw];omega
  simp only[this,show(-(n:Int)<0) by omega];simp[Gn]
theorem Qp5(a b:Int):Int.sign (a-b)=Dv a b:=by
 unfold Dv;rcases Ym a b with h|h|h
 .rw[if_pos h,X6 Fo]
 .rw[if_neg Fo,if_neg Fo,h,Int.sub_self];rfl
 .rw[if_neg Fo,if_pos h,Jq Fo]
theorem Qcy{x y:Nat}:0<=YE x y↔y<=x:=by
 unfold YE;constructor
 .intro h;split at h
  .omega
  .omega
 .intro h;split
  .omega
  .split <;> omega
theorem IE{x e:Nat}(h:(Ho x).length=1)(he:(Ho x)[0]? = some e):x=e:=by
 rcases hd:Ho x with _|⟨u,l⟩
 .rw[hd]at h;cases h
 .rcases l with _|⟨w,l⟩
  .rw[hd]at he;simp at he;have:=Sf x;rw[hd]at this;simp[Pk]at this;omega
  .rw[hd]at h;simp at h
theorem iU(hb:0<b):ri (a / ((Int.gcd a b:Nat):Int))++ri (b / ((Int.gcd a b:Nat):Int))=fr (Rat.divInt a b):=by
 obtain⟨h1,h2⟩:=Qd7 (n:=a) hb;rw[Ao,Int.gcd_comm]at h1 h2;rw[h1,h2]
theorem iF(a:Int):ri a++ri 1=fr (Rat.divInt a 1):=by
 have h:=iU (a:=a) (b:=1) Fp;rw[show((Int.gcd a 1:Nat):Int)=1 by simp]at h;simpa using h
theorem yO(hb:b≠0)(d:Gm a<=90000000)(c:Gm b<=90000000):Gm ((Int.gcd a b:Nat):Int)<=90000000/\((Int.gcd a b:Nat):Int)≠0/\a % ((Int.gcd a b:Nat):Int)=0/\b % ((Int.gcd a b:Nat):Int)=0:=by
 have h1:=Qdu (n:=a) hb c;have h2:=nZ (n:=a) hb;have h3:=OA a b;have h4:=OI a b;rw[Ao,Int.gcd_comm]at h1 h2 h3 h4;exact⟨h1,Fo,h3,h4⟩
theorem kM(h:b<0):Hn a b=Rat.divInt (-a) (-b):=by
 unfold Hn;rw[if_neg Fo];exact(Rat.neg_divInt_neg a b).symm
theorem UN(h:0<b):Hn a b=Rat.divInt a b:=by
 unfold Hn;rw[if_neg Fo]
theorem jW(a b:Rat):Hn (a.num*(b.den:Int)+b.num*(a.den:Int)) ((a.den:Int)*(b.den:Int))=a+b:=by
 unfold Hn;rw[if_neg (Jw (Eu a) (Eu b)),<-Rat.divInt_add_divInt _ _ (Eu a) (Eu b),Z9,Z9]
theorem vR(a b:Rat):Hn (a.num*b.num) ((a.den:Int)*(b.den:Int))=a*b:=by
 unfold Hn;rw[if_neg (Jw (Eu a) (Eu b)),<-Rat.divInt_mul_divInt,Z9,Z9]
theorem kR{a b:Rat}(h:b≠0):Hn (a.num*(b.den:Int)) ((a.den:Int)*b.num)=a / b:=by
 have hn:b.num≠0:=λe=>h (Rat.num_eq_zero.1 e)
 unfold Hn;rw[if_neg (Jw (Eu a) hn),<-Rat.divInt_mul_divInt,Z9,Yw];congr 1
 conv=>rhs;rw[<-Z9 b,Rat.inv_divInt]
theorem Qpa{s:Nat}{a b:Rat}(ha:Qs s a)(hb:Qs s b):Qs (2*s+1) (a+b):=by
 rw[<-jW];unfold Hn;rw[if_neg (Jw (Eu a) (Eu b))];refine Qs.divInt (Qa (YZ _ _) ?_) (Qa (G9 _ _) (by have:=ha.2;have:=hb.2;omega)) Fo;have h1:=G9 a.num (b.den:Int);have h2:=G9 b.num (a.den:Int);have:=ha.1;have:=ha.2;have:=hb.1;have:=hb.2;omega
variable{z:Int}
theorem aX(hz:Gm z<=100000000):U5 36 [.agg (Rr z)] [.agg (ri z)]:=by
 have hl:(He z.natAbs).length<=1099511627776:=by have h2:32*(He z.natAbs).length<=100000000+31:=Sp hz;omega
 have h:=Qb2 (l:=He z.natAbs) (λu hu=>(Lb _).1 u hu) hl (by rw[Re];exact hz);rw[Re]at h;have hm:=B5 (decide (z<0)) z.natAbs;have e:Gn (decide (z<0)) z.natAbs=z:=by unfold Gn;by_cases h:z<0 <;> simp[h] <;> omega
 rw[e]at hm;exact U0 func36 rfl [.k h,.k hm] rfl
theorem Qch:U5 157 [.agg (ri z)] [.oi (Int.sign z)]:=by
 have hn:=RO (x:=z.natAbs);have hl:=GH z.natAbs;rcases Ym z 0 with h|h|h
 .rw[X6 h];exact U0 func157 rfl [.f (by simp only[Su];exact decide_eq_false Fo),.t (decide_eq_true h)] rfl
 .subst h;exact U0 func157 rfl [.t (by simp only[Su];show decide (((Ho 0).length:Int)=0)=true;rw[Ti];rfl)] rfl
 .rw[Jq h];exact U0 func157 rfl [.f (by simp only[Su];exact decide_eq_false Fo),.F] rfl
theorem uF(ha:Gm a<=200000000)(hb:Gm b<=200000000):U5 68 [.agg (ri a),.agg (ri b)] [.agg (ri (a+b))]:=by
 by_cases hs:(decide (a<0) == decide (b<0))=true
 .have c:=B5 (decide (a<0)) (a.natAbs+b.natAbs);rw[Qv1 hs]at c;exact U0 func68 rfl [.t hs,.k (Qyw ha hb),.k c] rfl
 .have d:(decide (a<0) == decide (b<0))=false:=by simpa using hs
  by_cases hl:b.natAbs<=a.natAbs
  .have c:=B5 (decide (a<0)) (a.natAbs-b.natAbs);rw[Qv4 hs hl]at c;exact U0 func68 rfl [.f d,.k (eA ha hb),.t (decide_eq_true (Qcy.2 hl)),.k (aK ha hb hl),.k c] rfl
  .have c:=B5 (decide (b<0)) (b.natAbs-a.natAbs);rw[Qpy hs hl]at c;exact U0 func68 rfl [.f d,.k (eA ha hb),.f (decide_eq_false λh=>hl (Qcy.1 h)),.k (aK hb ha Fo),.k c] rfl
theorem aH(ha:Gm a<=200000000)(hb:Gm b<=200000000):U5 148 [.agg (ri a),.agg (ri b)] [.agg (ri (a-b))]:=by
 have c:=uF (a:=a) (b:=-b) ha (by rw[Rq];exact hb);rw[show a+-b=a-b from Fo]at c;exact U0 func148 rfl [.k (JM (z:=b)),.k c] rfl
theorem Cn(ha:Gm a<=200000000)(hb:Gm b<=200000000):U5 69 [.agg (ri a),.agg (ri b)] [.agg (ri (a*b))]:=by
 have c:=B5 (!(decide (a<0) == decide (b<0))) (a.natAbs*b.natAbs);rw[Qv3]at c;exact U0 func69 rfl [.k (Qy7 ha hb),.k c] rfl
theorem Qzh(ha:Gm a<=200000000)(hb:Gm b<=200000000):U5 95 [.agg (ri a),.agg (ri b)] [.oi (Dv a b)]:=by
 have h:=Qch (z:=a-b);rw[Qp5]at h;exact U0 func95 rfl [.k (aH ha hb),.k h] rfl
theorem IJ(ha:Gm a<=90000000)(hb:Gm b<=90000000)(h0:b≠0)(hd:a % b=0):U5 80 [.agg (ri a),.agg (ri b)] [.agg (ri (a / b))]:=by
 have c:=B5 (!(decide (a<0) == decide (b<0))) (a.natAbs / b.natAbs);rw[Qv2 hd]at c;exact U0 func80 rfl [.k (aZ ha hb Fo),.k c] rfl
theorem Q1g(x:Nat):ri ((x:Nat):Int)=[nd x,.bool false]:=by
 unfold ri sg;rw[Xc,decide_eq_false Fo]
theorem uG(ha:Gm a<=90000000)(hb:Gm b<=90000000):U5 79 [.agg (ri a),.agg (ri b)] [.agg (ri ((Int.gcd a b:Nat):Int))]:=by
 rw[Q1g];refine G7 func79 rfl ?_;refine Ux [] rfl ?_;refine U4 (S:=Nat×Nat) 3 (λL1 s=>(5,.v (.one (nd s.1)))::(6,.v (.one (nd s.2)))::L1) (λ_=>[.blk 50 (ri a),.blk 50 (ri b),.blk 50 [.nils,.bool false]]) (λs=>s.2) (λs=>Nat.gcd s.1 s.2=Int.gcd a b/\sz s.1<=90000000/\sz s.2<=90000000) (a.natAbs,b.natAbs) ⟨rfl,ha,hb⟩ rfl rfl λs hs=>?_
 obtain⟨x,y⟩:=s;obtain⟨d,g,c⟩:=hs;dsimp only at d g c ⊢;have j:=RO (x:=y);have i:=GH y;by_cases h1:y=0
 .have e:Int.gcd a b=x:=by rw[<-d,h1,Nat.gcd_zero_right]
  rw[e];exact Uz [.f (by simp only[Su];exact decide_eq_false Fo)] rfl
 .have h:=Xf x (show 0<y by omega);refine Ux [.t (by simp only[Su];exact decide_eq_true Fo),.k (aZ g c Fo)] rfl ?_;exact rd (y,x % y) Fv ⟨by dsimp only;rw[<-d,Nat.gcd_comm x y,Nat.gcd_rec y x,Nat.gcd_comm],c,Nat.le_trans (Sk Fv) c⟩ rfl
theorem JP(ha:Gm a<=90000000)(hb:Gm b<=90000000):U5 33 [.agg (ri a),.agg (ri b)] [.agg (fr (Hn a b))]:=by
 rcases Ym b 0 with hs|hs|hs
 .skip
  by_cases h1:-b=1
  .have h0:(D8 (Ho (-b).natAbs))[0]? = some [LV.int .i64 1]:=by rw[h1,show(1:Int).natAbs=1 from rfl,QD];rfl
   have d:decide (((D8 (Ho (-b).natAbs)).length:Int)=1)=true:=by rw[h1,show(1:Int).natAbs=1 from rfl,QD];rfl
   have e:fr (Hn a b)=ri (-a)++ri (-b):=by rw[kM hs,h1];exact(iF _).symm
   rw[e];exact U0 func33 rfl [.k (Ab (z:=b)),.F,.t (decide_eq_true hs),.k (JM (z:=a)),.k (JM (z:=b)),.g 19 true d,.x h0,.t rfl] rfl
  .have c:=yO (a:=-a) (b:=-b) Fo (by first|exact ha|(rw[Rq];exact ha)) (by first|exact hb|(rw[Rq];exact hb));have h:=uG (a:=-a) (b:=-b) (by first|exact ha|(rw[Rq];exact ha)) (by first|exact hb|(rw[Rq];exact hb));have j:=IJ (a:=-a) (b:=((Int.gcd (-a) (-b):Nat):Int)) (by first|exact ha|(rw[Rq];exact ha)) c.1 c.2.1 c.2.2.1;have m:=IJ (a:=-b) (b:=((Int.gcd (-a) (-b):Nat):Int)) (by first|exact hb|(rw[Rq];exact hb)) c.1 c.2.1 c.2.2.2;have e:fr (Hn a b)=ri ((-a) / ((Int.gcd (-a) (-b):Nat):Int))++ri ((-b) / ((Int.gcd (-a) (-b):Nat):Int)):=by rw[kM hs];exact(iU Fo).symm
   rw[e];have hl:=GH (-b).natAbs;by_cases d:(Ho (-b).natAbs).length=1
   .obtain⟨u,hu⟩:=gxE (l:=(Ho (-b).natAbs)) (i:=0) Fo;have o:=IE d hu;exact U0 func33 rfl [.k (Ab (z:=b)),.F,.t (decide_eq_true hs),.k (JM (z:=a)),.k (JM (z:=b)),.g 19 true (by simp only[Su];exact decide_eq_true Fo),.x (Rj hu),.F,.k h,.k j,.k m] rfl
   .exact U0 func33 rfl [.k (Ab (z:=b)),.F,.t (decide_eq_true hs),.k (JM (z:=a)),.k (JM (z:=b)),.g 19 false (by simp only[Su];exact decide_eq_false Fo),.f rfl,.k h,.k j,.k m] rfl
 .subst hs;have h0:(D8 (Ho (1:Int).natAbs))[0]? = some [LV.int .i64 1]:=by rw[show(1:Int).natAbs=1 from rfl,QD];rfl
  have h1:decide (((D8 (Ho (1:Int).natAbs)).length:Int)=1)=true:=by rw[show(1:Int).natAbs=1 from rfl,QD];rfl
  have e:fr (Hn a 0)=ri a++ri 1:=(iF a).symm;rw[e];exact U0 func33 rfl [.k (Ab (z:=0)),.t rfl,.k (ZO (n:=1) Fp),.f rfl,.g 19 true h1,.x h0,.t rfl] rfl
 .skip
  by_cases h1:b=1
  .have h0:(D8 (Ho (b).natAbs))[0]? = some [LV.int .i64 1]:=by rw[h1,show(1:Int).natAbs=1 from rfl,QD];rfl
   have d:decide (((D8 (Ho (b).natAbs)).length:Int)=1)=true:=by rw[h1,show(1:Int).natAbs=1 from rfl,QD];rfl
   have e:fr (Hn a b)=ri (a)++ri (b):=by rw[UN hs,h1];exact(iF _).symm
   rw[e];exact U0 func33 rfl [.k (Ab (z:=b)),.F,.F,.g 19 true d,.x h0,.t rfl] rfl
  .have c:=yO (a:=a) (b:=b) Fo (by first|exact ha|(rw[Rq];exact ha)) (by first|exact hb|(rw[Rq];exact hb));have h:=uG (a:=a) (b:=b) (by first|exact ha|(rw[Rq];exact ha)) (by first|exact hb|(rw[Rq];exact hb));have j:=IJ (a:=a) (b:=((Int.gcd (a) (b):Nat):Int)) (by first|exact ha|(rw[Rq];exact ha)) c.1 c.2.1 c.2.2.1;have m:=IJ (a:=b) (b:=((Int.gcd (a) (b):Nat):Int)) (by first|exact hb|(rw[Rq];exact hb)) c.1 c.2.1 c.2.2.2;have e:fr (Hn a b)=ri ((a) / ((Int.gcd (a) (b):Nat):Int))++ri ((b) / ((Int.gcd (a) (b):Nat):Int)):=by rw[UN hs];exact(iU Fo).symm
   rw[e];have hl:=GH (b).natAbs;by_cases d:(Ho (b).natAbs).length=1
   .obtain⟨u,hu⟩:=gxE (l:=(Ho (b).natAbs)) (i:=0) Fo;have o:=IE d hu;exact U0 func33 rfl [.k (Ab (z:=b)),.F,.F,.g 19 true (by simp only[Su];exact decide_eq_true Fo),.x (Rj hu),.F,.k h,.k j,.k m] rfl
   .exact U0 func33 rfl [.k (Ab (z:=b)),.F,.F,.g 19 false (by simp only[Su];exact decide_eq_false Fo),.f rfl,.k h,.k j,.k m] rfl
theorem Qw7{n d:Int}(hn:-1000000000<=n/\n<=1000000000)(hd:-1000000000<=d/\d<=1000000000):U5 24 [.oi n,.oi d] [.agg (fr (Hn n d))]:=by
 have b1:Gm n<=90000000:=Qa (Pi.2 (show n.natAbs<2^40 by omega)) Fp;have a:Gm d<=90000000:=Qa (Pi.2 (show d.natAbs<2^40 by omega)) Fp;exact U0 func24 rfl [.k (ZO Fo),.k (ZO Fo),.k (JP b1 a)] rfl
variable{a:Rat}
theorem aY:U5 32 [.agg (fr a)] [.agg (fr (-a))]:=by
 have e:fr (-a)=ri (-a.num)++ri (a.den:Int):=rfl;rw[e];exact U0 func32 rfl [.k (JM (z:=a.num))] rfl
theorem AH{b:Rat}(ha:Qs 20000000 a)(hb:Qs 20000000 b):U5 23 [.agg (fr a),.agg (fr b)] [.agg (fr (a+b))]:=by
 have g:=G9 a.num (b.den:Int);have f:=G9 b.num (a.den:Int);have e:=G9 (a.den:Int) (b.den:Int);have d:=YZ (a.num*(b.den:Int)) (b.num*(a.den:Int));have h1:=ha.1;have h2:=ha.2;have h3:=hb.1;have h4:=hb.2;have c:=JP (a:=a.num*(b.den:Int)+b.num*(a.den:Int)) (b:=(a.den:Int)*(b.den:Int)) Fo Fo;rw[jW]at c;exact U0 func23 rfl [.k (Cn (a:=a.num) (b:=(b.den:Int)) Fo Fo),.k (Cn (a:=b.num) (b:=(a.den:Int)) Fo Fo),.k (uF Fo Fo),.k (Cn (a:=(a.den:Int)) (b:=(b.den:Int)) Fo Fo),.k c] rfl
theorem aJ{b:Rat}(ha:Qs 40000000 a)(hb:Qs 40000000 b):U5 91 [.agg (fr a),.agg (fr b)] [.agg (fr (a*b))]:=by
 have e:=G9 a.num b.num;have d:=G9 (a.den:Int) (b.den:Int);have h1:=ha.1;have h2:=ha.2;have h3:=hb.1;have h4:=hb.2;have c:=JP (a:=a.num*b.num) (b:=(a.den:Int)*(b.den:Int)) Fo Fo;rw[vR]at c;exact U0 func91 rfl [.k (Cn (a:=a.num) (b:=b.num) Fo Fo),.k (Cn (a:=(a.den:Int)) (b:=(b.den:Int)) Fo Fo),.k c] rfl
theorem uJ{b:Rat}(ha:Qs 40000000 a)(hb:Qs 40000000 b)(h0:b≠0):U5 206 [.agg (fr a),.agg (fr b)] [.agg (fr (a / b))]:=by
 have e:=G9 a.num (b.den:Int);have d:=G9 (a.den:Int) b.num;have h1:=ha.1;have h2:=ha.2;have h3:=hb.1;have h4:=hb.2;have c:=JP (a:=a.num*(b.den:Int)) (b:=(a.den:Int)*b.num) Fo Fo;rw[kR h0]at c;exact U0 func206 rfl [.k (Cn (a:=a.num) (b:=(b.den:Int)) Fo Fo),.k (Cn (a:=(a.den:Int)) (b:=b.num) Fo Fo),.k c] rfl
theorem Lp{b:Rat}(ha:Qs 40000000 a)(hb:Qs 40000000 b):U5 46 [.agg (fr a),.agg (fr b)] [.oi (Hu a b)]:=by
 have d:=G9 a.num (b.den:Int);have c:=G9 b.num (a.den:Int);have h1:=ha.1;have h2:=ha.2;have h3:=hb.1;have h4:=hb.2;exact U0 func46 rfl [.k (Cn (a:=a.num) (b:=(b.den:Int)) Fo Fo),.k (Cn (a:=b.num) (b:=(a.den:Int)) Fo Fo),.k (Qzh (a:=a.num*(b.den:Int)) (b:=b.num*(a.den:Int)) Fo Fo)] rfl
end Orr
namespace Orr
def Ek:Fb->Fb
 | []=>[]
 |
  x::l=>match Ek l with
  | []=>if x=0 then []else [x]
  |y::k=>x::y::k
theorem WU:∀{l:Fb},(∀x∈l,x=0)->Ek l=[]
 | [],_=>rfl
 |
  x::l,h=>by
  have b:=WU (l:=l) (λy a=>h y (Qi _ a));simp[Ek,b,h x (Qy ..)]
theorem zN:∀{l:Fb} {m:Nat} {y:Rat},(∀j x,m<j->l[j]? = some x->x=0)->l[m]? = some y->y≠0->Ek l=l.take (m+1)
 | [],m,y,_,h,_=>by simp at h
 |
  x::l,0,y,h1,h2,h3=>by
  have h0:Ek l=[]:=WU λz hz=>by
   obtain⟨j,b⟩:=Zm.1 hz;exact h1 (j+1) z Fo (by simpa using b)
  simp at h2;subst h2;simp[Ek,h0,h3]
 |
  x::l,m+1,y,h1,h2,h3=>by
  have a:=zN (l:=l) (m:=m) (y:=y) (λj z b hz=>h1 (j+1) z Fo (by simpa using hz)) (by simpa using h2) h3;cases hl:l with
  |nil=>subst hl;simp at h2
  |
   cons u k =>
   subst hl;rw[Vr]at a;simp only[Ek]at a ⊢;rw[a];simp
theorem wQ{l:Fb}{m:Nat}(hm:m<=l.length)(h1:∀j x,m<=j->l[j]? = some x->x=0)(h2:0<m->∃y,l[m-1]? = some y/\y≠0):Ek l=l.take m:=by
 rcases Q0 m with h0|h0
 .subst h0;rw[WU λz hz=>?_];rfl;obtain⟨j,b⟩:=Zm.1 hz;exact h1 j z Fo b
 .obtain⟨y,c,a⟩:=h2 h0;have:=zN (l:=l) (m:=m-1) (y:=y) (λj x b hx=>h1 j x Fo hx) c a;rwa[show m-1+1=m from Fo]at this
theorem wX:∀(l:Fb),∀z∈Ek l,z∈l
 | [],z,h=>h
 |
  x::l,z,h=>by
  simp only[Ek]at h;have a:=wX l
  split at h
  .split at h
   .cases h
   .simp at h;simp[h]
  .rename_i y k e;rw[e]at a;rcases Qm.1 h with h|h
   .simp[h]
   .exact Qi _ (a z h)
theorem wZ:∀(l:Fb),(Ek l).length<=l.length
 | []=>Ql _
 |
  x::l=>by
  have a:=wZ l;simp only[Ek]
  split
  .split <;> simp
  .rename_i y k e;rw[e]at a;simp at a ⊢;omega
def zp(p:U8):Fb:=p.map λ(z:Int)=>(z:Rat)
theorem Ai:∀(p:U8),Ek (zp p)=zp (trim p)
 | []=>rfl
 |
  x::l=>by
  have a:=Ai l;unfold zp at a ⊢;simp only[Xa,Ek,trim,a];cases h:trim l with
  |
   nil =>
   simp only[X8];by_cases hx:x=0
   .subst hx;simp
   .have:(x:Rat)≠0:=λe=>hx (by exact_mod_cast e)
    simp[hx,this]
  |cons y k=>simp
theorem E8(p:U8):(zp p).length=p.length:=Ze _
variable{i:Nat}{z:Int}
theorem Q2k{p:U8}(h:p[i]? = some z):(zp p)[i]? = some (z:Rat):=by simp[zp,h]
theorem EC(p:U8)(i:Nat):(zp p).getD i 0=((p.getD i 0:Int):Rat):=by
 simp only[Qe,zp,Q9];cases p[i]? <;> rfl
def Rb(s:Nat)(p:Fb):Prop:=∀q∈p,Qs s q
variable{p:Fb}{s:Nat}
theorem Rb.mono{t:Nat}(h:Rb s p)(ht:s<=t):Rb t p:=λq a=>(h q a).mono ht
theorem Rb.get(h:Rb s p){q:Rat}(a:p[i]? = some q):Qs s q:=h q (Qc a)
theorem QZ(h:Gm z<=s)(h1:1<=s):Qs s (z:Rat):=⟨by simpa using h,Qa (show Gm ((1:Nat):Int)<=1 by decide) h1⟩
theorem kN{p:U8}(h:Bd s p)(h1:1<=s):Rb s (zp p):=λq a=>by
 obtain⟨z,hz,rfl⟩:=Q8.1 a;exact QZ (h z hz) h1
theorem Qvj(h1:1<=s):Qs s 0:=QZ (z:=0) (by simp[C0]) h1
theorem Rb.getD(h:Rb s p)(h1:1<=s)(i:Nat):Qs s (p.getD i 0):=by
 rw[Qe];cases e:p[i]? with
 |none=>exact Qvj h1
 |some q=>exact h.get e
theorem Rb.trim(h:Rb s p):Rb s (Ek p):=λq a=>h q (wX p q a)
def FW(f:Nat->Rat)(n:Nat):Fb:=(List.range n).map f
theorem zI(f:Nat->Rat)(n:Nat):(FW f n).length=n:=by simp[FW]
theorem wW(f:Nat->Rat)(n:Nat):FW f (n+1)=FW f n++[f n]:=by simp[FW,Wq]
variable{f:Nat->Rat}
theorem Qwd{n:Nat}(h:∀i,i<n->Qs s (f i)):Rb s (FW f n):=λq a=>by
 obtain⟨i,hi,rfl⟩:=Q8.1 a;exact h i (K7.1 hi)
theorem tW{g:Nat->Int}(n:Nat)(h:∀i,i<n->f i=(g i:Rat)):FW f n=zp ((List.range n).map g):=by
 simp only[FW,zp,List.map_map];exact X5 λi hi=>h i (K7.1 hi)
def Qh4(p q:Fb):Fb:=Ek (FW (λi=>p.getD i 0+q.getD i 0) (max p.length q.length))
def YF(p:Fb)(c:Rat):Fb:=Ek (FW (λi=>p.getD i 0*c) p.length)
def rA(p:Fb):Fb:=YF p (-1)
def Qx6(p q:Fb):Fb:=Qh4 p (rA q)
theorem Qvl(p q:U8):Qh4 (zp p) (zp q)=zp (QW p q):=by
 unfold Qh4 QW B7;rw[tW (g:=λk=>p.getD k 0+q.getD k 0) _ λi _=>by rw[EC,EC,Ku],Ai,E8,E8]
theorem kA(p:U8)(c:Int):YF (zp p) (c:Rat)=zp (G5 p c):=by
 unfold YF G5 B7;rw[tW (g:=λk=>p.getD k 0*c) _ λi _=>by rw[EC,Je],Ai,E8]
theorem Qab(p:U8):G5 p (-1)=Bt p:=by
 unfold G5 Bt B7;congr 2;funext k;omega
theorem Qe7(p:U8):rA (zp p)=zp (Bt p):=by
 rw[<-Qab,<-kA];rfl
theorem BN{p q:U8}(hp:Gg p)(b:Gg q)(h:∀k,p.getD k 0=q.getD k 0):p=q:=by
 have a:∀{p q:U8},Gg q->(∀k,p.getD k 0=q.getD k 0)->q.length<=p.length:=by
  intro p q b h;rcases Q7 p.length q.length with h1|h1
  .have h2:=Tg b Fo;rw[<-h,Qe,Qu Fo]at h2;exact(h2 rfl).elim
  .exact h1
 exact OH (Vz (a hp λk=>(h k).symm) (a b h)) λj _=>h j
theorem iQ{n m:Nat}{f g:Nat->Int}(hn:n<=m)(h:∀k,k<n->f k=g k)(h0:∀k,n<=k->k<m->g k=0):B7 n f=B7 m g:=by
 refine BN (Gs _ _) (Gs _ _) λk=>?_
 rw[Pe,Pe];by_cases h1:k<n
 .rw[if_pos h1,if_pos Fo,h k h1]
 .rw[if_neg h1];by_cases h2:k<m
  .rw[if_pos h2,h0 k Fo h2]
  .rw[if_neg h2]
theorem Qvt(p q:U8):Qx6 (zp p) (zp q)=zp (Mh p q):=by
 unfold Qx6;rw[Qe7,Qvl];congr 1;have hl:=O2 q;unfold QW Mh;refine iQ Fo (λk _=>?_) λk h1 h2=>?_
 .unfold Bt;rw[Pe]
  split
  .omega
  .rename_i h;have:q.getD k 0=0:=by rw[Qe,Qu Fo];rfl
   omega
 .have h3:p.getD k 0=0:=by rw[Qe,Qu Fo];rfl
  have h4:(Bt q).getD k 0=0:=by rw[Qe,Qu Fo];rfl
  unfold Bt at h4;rw[Pe]at h4
  split at h4
  .omega
  .have:q.getD k 0=0:=by rw[Qe,Qu Fo];rfl
   omega
end Orr
namespace Orr
open Go Go.Proofs Tryz
set_option maxRecDepth 10000
def frow(p:Fb):Ff:=p.map fr
theorem Bm(p:Fb):(frow p).length=p.length:=by simp[frow]
variable{p:Fb}{i:Nat}
theorem VE{q:Rat}(h:p[i]? = some q):(frow p)[i]? = some (fr q):=Ra h
theorem yE(p:Fb)(q:Rat):frow (p++[q])=frow p++[fr q]:=by simp[frow]
theorem Qhf(p:Fb):∀c∈frow p,c.length=4:=λc hc=>by obtain⟨x,_,rfl⟩:=Q8.1 hc;rfl
abbrev rp(p:Fb):LV:=.row (frow p)
theorem oR(q:Rat):∀c∈[fr q],c.length=4:=λc hc=>by rw[Qk.1 hc];rfl
theorem aG:U5 205 [] [.agg (fr 0)]:=U0 func205 rfl [.k (JS (n:=0) Fp)] rfl
theorem VH:U5 39 [.one (rp p)] [.one (rp (Ek p))]:=by
 refine G7 func39 rfl (ln 0 rfl rfl λhl=>?_);rw[Bm]at hl;have a:=Bm p;refine Ux [] rfl ?_;refine lp (S:=Nat) 0 (λL1 n=>(3,.v (.oi n))::L1) (λ_=>[]) id (λn=>n<=p.length/\∀j x,n<=j->p[j]? = some x->x=0) (frow p).length ⟨by rw[a];exact Ql _,λj x h1 h2=>by
  have:=(Qh.1 h2).1;rw[a]at h1;omega⟩ rfl (λ_ _=>rfl) rfl λn hs=>?_
 obtain⟨h1,h2⟩:=hs;cases n with
 |
  zero =>
  have e:=wQ h1 (λj x h=>h2 j x h) (λh=>absurd h Fp);exact Uz [.g 8 false Ft,.f rfl,.i 0] rfl (by rw[e];rfl) Fy
 |
  succ n =>
  obtain⟨x,hx⟩:=gxE (l:=p) (i:=n) Fo;have hn:=Rat.num_eq_zero (q:=x);by_cases h0:x=0
  .refine Uy [.g 8 true Ft,.r 11 (eI (b:=(n:Int)) Ft),.x (VE hx),.k (Ab (z:=x.num)),.t (decide_eq_true (hn.2 h0)),.r 18 (eI (b:=(n:Int)) Ft)] rfl ?_;exact rd n Ft ⟨Fo,λj y h3 h4=>by
    rcases Vy h3 with rfl|h3
    .rw[hx]at h4;injection h4 with h4;rw[<-h4,h0]
    .exact h2 j y h3 h4⟩ rfl
  .have e:=wQ h1 (λj x h=>h2 j x h) (λ_=>⟨x,hx,h0⟩);exact Uz [.g 8 true Ft,.r 11 (eI (b:=(n:Int)) Ft),.x (VE hx),.k (Ab (z:=x.num)),.f (decide_eq_false λh=>h0 (hn.1 h)),.i (n+1)] rfl (by rw[e];simp[rp,frow,Yd]) (by simp[Gi,a] <;> omega)
theorem Qxb(hi:i<1099511627776):U5 273 [.one (rp p),.oi i] [.agg (fr (p.getD i 0))]:=by
 have a:=Bm p;by_cases h:i<p.length
 .have e:p.getD i 0=p[i]:=by rw[Qe,Qf h];rfl
  rw[e];exact U0 func273 rfl [.g 7 false U6,.F,.x (VE (Qf h))] rfl
 .have e:p.getD i 0=0:=by rw[Qe,Qu Fo];rfl
  rw[e];exact U0 func273 rfl [.g 7 false U6,.T,.k aG] rfl
theorem IK:U5 150 [.one (ids [1])] [.one (rp (zp [1]))]:=by
 have a:=VH (p:=zp [1]);rw[Ai,show trim [1]=[1] from rfl]at a;refine G7 func150 rfl ?_;refine Ux [.o 3 52 4] rfl ?_;refine U4 (S:=Nat) 1 (λL1 i=>(7,.v (.oi i))::(3,.v (.one (.orow 0 4 none)))::L1) (λi=>[.row false 52 4 (frow ((zp [1]).take i))]) (λi=>1-i) (λi=>i<=1) 0 Fp rfl rfl λi hi=>?_
 rcases(show i=0\/i=1 by omega)with rfl|rfl
 .refine go tt [.t rfl,.x (l:=idl [1]) (i:=0) (xs:=[.int .i64 1]) rfl,.k (JS (n:=1) Fp),.s (sz:=4) (oR _)] rfl (by simp[Gi,frow]) ?_;exact rd 1 Fo Fo rfl
 .exact Uz [.f rfl,.k a] rfl
theorem LF{p:U8}(hb:Bd 90000000 p)(hl:p.length<=1000000):U5 10 [pr p] [.one (rp (zp (trim p)))]:=by
 have c:(p.map Rr).length=p.length:=Ft;have b:=VH (p:=zp p);rw[Ai]at b;show U5 10 [.one (.row (p.map Rr))] _;refine G7 func10 rfl ?_;refine Ux [.o 3 52 4] rfl ?_;refine U4 (S:=Nat) 1 (λL1 i=>(7,.v (.oi i))::(3,.v (.one (.orow 0 4 none)))::L1) (λi=>[.row false 52 4 (frow (zp (p.take i)))]) (λi=>p.length-i) (λi=>i<=p.length) 0 (Qj _) rfl rfl λi hi=>?_
 have a:(frow (zp (p.take i))).length=i:=by rw[Bm,E8,Qt];omega
 by_cases h:i<p.length
 .obtain⟨z,hz⟩:=gxE (l:=p) (i:=i) h;have d:=hb z (Qc hz);have hg:frow (zp (p.take (i+1)))=frow (zp (p.take i))++[fr (z:Rat)]:=by
   rw[Zv,hz];simp[frow,zp]
  refine go tt [.T,.x (Ra (f:=Rr) hz),.k (aX (z:=z) Fo),.k (ZO (n:=1) Fp),.k (Al (n:=z)),.s (sz:=4) (oR _)] rfl (by simp[Gi,a,-List.getD_eq_getElem?_getD];omega) ?_;exact rd (i+1) Fo h (by rw[hg];rfl)
 .have e:i=p.length:=Fo;rw[e,Q6];exact Uz [.F,.k b] rfl
theorem Qzn{q:Fb}(hp:Rb 20000000 p)(c:Rb 20000000 q)(f:p.length<=1000000)(g:q.length<=1000000):U5 237 [.one (rp p),.one (rp q)] [.one (rp (Qh4 p q))]:=by
 have h1:=Bm p;have h2:=Bm q;obtain⟨M,hM⟩:=nmE (max p.length q.length);have d:=VH (p:=FW (λi=>p.getD i 0+q.getD i 0) M);unfold Qh4;rw[<-hM];refine G7 func237 rfl ?_;refine Ux [.o 5 52 4] rfl ?_;refine U4 (S:=Nat) 1 (λL1 i=>(6,.v (.oi i))::(5,.v (.one (.orow 0 4 none)))::L1) (λi=>[.row false 52 4 (frow (FW (λi=>p.getD i 0+q.getD i 0) i))]) (λi=>M-i) (λi=>i<=M) 0 (Qj _) rfl rfl λi hi=>?_
 have a:(frow (FW (λi=>p.getD i 0+q.getD i 0) i)).length=i:=by rw[Bm,zI]
 by_cases h:i<M
 .refine go tt [.r 12 (eI (b:=(M:Int)) Fo),.T,.k (Qxb (p:=p) (i:=i) Fo),.k (Qxb (p:=q) (i:=i) Fo),.k (AH (hp.getD Fp i) (c.getD Fp i)),.s (sz:=4) (oR _)] rfl (by simp[Gi,a,-List.getD_eq_getElem?_getD];omega) ?_;exact rd (i+1) Fo h (by rw[wW,yE];rfl)
 .have e:i=M:=Fo;rw[e];exact Uz [.r 12 (eI (b:=(M:Int)) Fo),.F,.k d] rfl
theorem IW{c:Rat}(hp:Rb 40000000 p)(hc:Qs 40000000 c)(d:p.length<=1000000):U5 153 [.one (rp p),.agg (fr c)] [.one (rp (YF p c))]:=by
 have h1:=Bm p;have b:=VH (p:=FW (λi=>p.getD i 0*c) p.length);unfold YF;refine G7 func153 rfl ?_;refine Ux [.o 5 52 4] rfl ?_;refine U4 (S:=Nat) 2 (λL1 i=>(9,.v (.oi i))::(5,.v (.one (.orow 1 4 none)))::L1) (λi=>[.blk 52 (fr c),.row false 52 4 (frow (FW (λi=>p.getD i 0*c) i))]) (λi=>p.length-i) (λi=>i<=p.length) 0 (Qj _) rfl rfl λi hi=>?_
 have a:(frow (FW (λi=>p.getD i 0*c) i)).length=i:=by rw[Bm,zI]
 by_cases h:i<p.length
 .have hg:p[i]? = some (p.getD i 0):=by rw[Qe,Qf h];rfl
  refine go tt [.T,.x (VE hg),.k (aJ (hp.getD Fp i) hc),.s (sz:=4) (oR _)] rfl (by simp[Gi,a,-List.getD_eq_getElem?_getD];omega) ?_;exact rd (i+1) Fo h (by rw[wW,yE];rfl)
 .have e:i=p.length:=Fo;rw[e];exact Uz [.F,.k b] rfl
theorem Qk5(hp:Rb 40000000 p)(a:p.length<=1000000):U5 85 [.one (rp p)] [.one (rp (rA p))]:=by
 have cs:=IW (p:=p) (c:=-1) hp ⟨Fp,Fp⟩ a;have b:=JS (n:=-1) Fp;rw[show((-1:Int):Rat)=-1 from rfl]at b;exact U0 func85 rfl [.k b,.k cs] rfl
theorem Qvh{s t:Nat}{a b:Rat}(ha:Qs s a)(hb:Qs t b):Qs (s+t+1) (a*b):=by
 rw[<-vR];unfold Hn;rw[if_neg (Jw (Eu a) (Eu b))];have h1:=G9 a.num b.num;have h2:=G9 (a.den:Int) (b.den:Int);have:=ha.1;have:=ha.2;have:=hb.1;have:=hb.2;exact Qs.divInt Fo Fo Fo
theorem Q1e{s:Nat}(hp:Rb s p):Rb (s+2) (rA p):=by
 unfold rA YF;refine Rb.trim (Qwd λi hi=>?_);have h1:Qs (s+0) (p.getD i 0):=by
  have hi:i<p.length:=hi;rw[Qe,Qf hi];exact hp _ (Xs hi)
 have:=Qvh h1 (show Qs 1 (-1:Rat) from⟨Fp,Fp⟩);exact this.mono Fo
theorem Qpi(p:Fb):(rA p).length<=p.length:=by
 unfold rA YF;exact Qa (wZ _) (by rw[zI];exact Ql _)
theorem Qjx{a b:Int}(ha:Gm a<=40000000)(hb:Gm b<=40000000):U5 91 [.agg (fr (a:Rat)),.agg (fr (b:Rat))] [.agg (fr ((a*b:Int):Rat))]:=by
 have h:=aJ (QZ ha Fp) (QZ hb Fp);rw[<-Je]at h;exact h
theorem Qyx{a b:Int}(ha:Gm a<=20000000)(hb:Gm b<=20000000):U5 23 [.agg (fr (a:Rat)),.agg (fr (b:Rat))] [.agg (fr ((a+b:Int):Rat))]:=by
 have h:=AH (QZ ha Fp) (QZ hb Fp);rw[<-Ku]at h;exact h
theorem mO(l:U8)(i:Nat)(z:Int):(frow (zp l)).set i (fr (z:Rat))=frow (zp (l.set i z)):=by simp[frow,zp,Kd]
variable{p:U8}{i:Nat}
theorem Qq8(h:i<p.length):(zp p)[i]? = some ((p.getD i 0:Int):Rat):=Q2k (S9 h)
theorem Pw(h:i<p.length):(frow (zp p))[i]? = some (fr ((p.getD i 0:Int):Rat)):=VE (Qq8 h)
theorem FT(p:U8):(frow (zp p)).length=p.length:=by rw[Bm,E8]
abbrev zR:Fe:=[.nils,.bool false,.nils,.bool false]
theorem fV{n:Nat}(h:i<n):(List.replicate i (fr 0)++List.replicate (n-i) zR).set i (fr 0)=List.replicate (i+1) (fr 0)++List.replicate (n-(i+1)) zR:=by
 rw[List.set_append_right _ _ Ft,Ji,K0,show n-i=n-(i+1)+1 by omega,J4 (n:=n-(i+1)),List.set_cons_zero,List.replicate_succ' (n:=i),Zh];rfl
theorem xK(n:Nat):List.replicate n (fr 0)++List.replicate (n-n) zR=frow (zp (List.replicate n 0)):=by simp[zp,frow]
theorem Qk4{q:U8}{s t:Nat}(C:p.length<=1000000)(I:q.length<=1000000)(hp:Bd s p)(h:Bd t q)(B:s+t<=19000000):U5 151 [.one (rp (zp p)),.one (rp (zp q))] [.one (rp (zp (Hb p q)))]:=by
 have G:=FT p;have E:=FT q;rcases Q0 p.length with h0|h0
 .have e:Hb p q=[]:=by unfold Hb;rw[if_pos (.inl h0)]
  rw[e];exact U0 func151 rfl [.g 12 true U7,.t rfl] rfl
 rcases Q0 q.length with h1|h1
 .have e:Hb p q=[]:=by unfold Hb;rw[if_pos (.inr h1)]
  rw[e];exact U0 func151 rfl [.g 12 false U6,.T] rfl
 have e:Hb p q=trim (Ic p q (List.replicate (p.length+q.length-1) 0) p.length):=by unfold Hb;rw[if_neg Fo]
 rw[e];obtain⟨N,J⟩:=nmE (p.length+q.length-1);rw[<-J];obtain⟨o,l⟩:=nmE (List.replicate N (0:Int));rw[<-l];have n:o.length=N:=by rw[l];simp
 have u:∀m,o.getD m 0=0:=λm=>by rw[l];exact Tw N m
 have A:=VH (p:=zp (Ic p q o p.length));rw[Ai]at A;refine G7 func151 rfl ?_;refine Uy [.g 12 false U6,.F,.r 22 (eI (b:=(N:Int)) Fo),.i N,.i N,.r 25 (eI (b:=(N:Int)) Ft)] rfl ?_;refine U4 (S:=Nat) 1 (λL1 i=>(26,.v (.oi i))::L1) (λi=>[.row false 52 4 (List.replicate i (fr 0)++List.replicate (N-i) zR)]) (λi=>N-i) (λi=>i<=N) 0 (Qj _) rfl rfl λi hi=>?_
 by_cases c:i<N
 .refine Uy [.T,.k aG,.i i] rfl ?_;rw[fV c];exact rd (i+1) Fo c rfl
 have d:i=N:=Fo;rw[d,xK,<-l];clear d c hi;refine Ux [.F] rfl ?_;refine U4 (S:=Nat) 1 (λL1 i=>(36,.v (.oi i))::L1) (λi=>[.row false 52 4 (frow (zp (Ic p q o i)))]) (λi=>p.length-i) (λi=>i<=p.length) 0 (Qj _) rfl rfl λi hi=>?_
 by_cases c:i<p.length
 .refine Ux [.T] rfl ?_;refine U4 (S:=Nat) 1 (λL1 k=>(41,.v (.oi k))::L1) (λk=>[.row false 52 4 (frow (zp (XT (p.getD i 0) q i (Ic p q o i) k)))]) (λk=>q.length-k) (λk=>k<=q.length) 0 (Qj _) rfl rfl λk L=>?_
  by_cases f:k<q.length
  .have y:Gm ((XT (p.getD i 0) q i (Ic p q o i) k).getD (i+k) 0)<=20000000:=Qa (ZR (t:=39) (gR (by rw[As];omega) (gG (λj K=>Fo) u (λi j=>C5 (Gz hp i) (Gz h j))) (λj=>C5 (Gz hp i) (Gz h j)) (i+k)) (Kz (show i+1<549755813888 by omega) Fp)) Fo;have z:Gm (p.getD i 0*q.getD k 0)<=20000000:=Qa (G9 _ _) (by have:=Gz hp i;have:=Gz h k;omega);have H:(XT (p.getD i 0) q i (Ic p q o i) k).length=N:=by rw[XS,As,n]
   have D:=Qjx (a:=p.getD i 0) (b:=q.getD k 0) (Qa (Gz hp i) Fo) (Qa (Gz h k) Fo);have w:=FT (XT (p.getD i 0) q i (Ic p q o i) k);refine go tt [.T,.i (i+k),.x (Pw (p:=XT (p.getD i 0) q i (Ic p q o i) k) (i:=i+k) Fo),.x (Pw c),.x (Pw f),.k D,.k (Qyx y z),.i (i+k)] rfl (by simp[Gi,w,-List.getD_eq_getElem?_getD] <;> omega) ?_;rw[mO];exact rd (k+1) Fo f rfl
  .obtain rfl:k=q.length:=Fo;exact go tt [.F] rfl Fw (rd (i+1) Fo c rfl)
 .obtain rfl:i=p.length:=Fo;exact Uz [.F,.k A] rfl
def mH(p:U8)(n:Nat):U8:=(List.range n).map λk=>p.getD (k+1) 0*((k+1:Nat):Int)
theorem Ql5(p:U8)(n:Nat):(mH p n).length=n:=by simp[mH]
theorem Qg7(p:U8)(n:Nat):mH p (n+1)=mH p n++[p.getD (n+1) 0*((n+1:Nat):Int)]:=by simp[mH,Wq]
theorem sV(p:U8)(z:Int):frow (zp (p++[z]))=frow (zp p)++[fr (z:Rat)]:=by simp[frow,zp]
theorem uR(hp:Bd 40000000 p)(hl:p.length<=1000000):U5 41 [.one (rp (zp p))] [.one (rp (zp (Hh p)))]:=by
 have d:=FT p;have b:=VH (p:=zp (mH p (p.length-1)));rw[Ai]at b;refine G7 func41 rfl ?_;refine Ux [.o 3 52 4] rfl ?_;refine U4 (S:=Nat) 1 (λL1 j=>(4,.v (.oi ((j+1:Nat):Int)))::(3,.v (.one (.orow 0 4 none)))::L1) (λj=>[.row false 52 4 (frow (zp (mH p j)))]) (λj=>p.length-j) (λj=>j<=p.length-1) 0 (Qj _) rfl rfl λj f=>?_
 have a:=FT (mH p j);rw[Ql5]at a;by_cases h:j+1<p.length
 .have c:Gm ((j+1:Nat):Int)<=40000000:=Qa (fS (t:=38) (k:=j+1) (Kz (show j+1<274877906944 by omega) Fp)) Fp;refine go tt [.T,.x (Pw h),.k (JS (n:=((j+1:Nat):Int)) Fo),.k (Qjx (Gz hp (j+1)) c),.s (sz:=4) (oR _)] rfl (by simp[Gi,a,-List.getD_eq_getElem?_getD] <;> omega) ?_;exact rd (j+1) Fo Fo (by rw[Qg7,sV];rfl)
 .have e:j=p.length-1:=Fo;rw[e];exact Uz [.F,.k b] rfl
theorem Q0h(z:Int):fr (z:Rat)=[nd z.natAbs,sg z,.row [[.int .i64 1]],.bool false]:=by
 have e:Ho 1=[1]:=by rw[JE Fp,show 1 / 10000=0 from rfl,Ti]
 show [nd z.natAbs,sg z,nd 1,sg 1]=_;unfold nd dl;rw[e];rfl
theorem Qk7(hl:p.length<=1000000):U5 156 [.one (rp (zp p))] [.one (.bool true)]:=by
 have a:=FT p;refine G7 func156 rfl ?_;refine Ux [] rfl ?_;refine U4 (S:=Nat) 0 (λL1 i=>(6,.v (.oi i))::L1) (λ_=>[]) (λi=>p.length-i) (λi=>i<=p.length) 0 (Qj _) rfl rfl λi hi=>?_
 by_cases h:i<p.length
 .have hg:=Pw h;rw[Q0h]at hg;refine Uy [.T,.x hg,.g 17 false rfl,.x hg,.x (l:=[[.int .i64 1]]) (i:=0) (xs:=[.int .i64 1]) rfl,.f rfl] rfl ?_;exact rd (i+1) Fo h rfl
 .exact Uz [.F] rfl
theorem Qe6:[LV.nils,LV.bool false].map SQ=ri 0:=by
 show _=[nd 0,sg 0];unfold nd dl;rw[Ti];rfl
theorem Qad(p:U8)(q:Rat):Int.sign (Ce p q.num q.den p.length).1=Hp p q:=by
 unfold Hp Qvf Dv;generalize (Ce p q.num q.den p.length).1=z;rcases Ym z 0 with h|h|h
 .rw[if_pos h,X6 h]
 .subst h;rfl
 .rw[if_neg Fo,if_pos h,Jq h]
theorem RL{q:Rat}(hp:Bd 30000000 p)(hl:p.length<=64)(c:Qs 2000000 q):U5 89 [.one (rp (zp p)),.agg (fr q)] [.oi (Hp p q)]:=by
 have o:=FT p;refine G7 func89 rfl ?_;refine Uy [.k (Qk7 (p:=p) Fo),.f rfl,.k (ZO (n:=1) Fp),.r 19 (eI (b:=(p.length:Int)-1-((0:Nat):Int)) Fq)] rfl ?_;refine nlb 1 rfl rfl rfl ?_;rw[Qe6];refine U4 (S:=Nat) 3 (λL1 j=>(7,.v (.oi ((p.length:Int)-1-(j:Int))))::L1) (λj=>[.blk 52 (fr q),.blk 50 (ri (Ce p q.num q.den j).1),.blk 50 (ri (Ce p q.num q.den j).2)]) (λj=>p.length-j) (λj=>j<=p.length) 0 (Qj _) rfl rfl λj s=>?_
 have hv:=tI (k:=j) hp c.1 c.2;have m:j*(2000000+1)<=p.length*(2000000+1):=Qz _ Fo;by_cases h:j<p.length
 .have hc:=Gz hp (p.length-1-j);have l:=c.1;have g:=c.2;have d:Gm ((Ce p q.num q.den j).1*q.num)<=200000000:=Qa (G9 _ _) Fo;have e:Gm (p.getD (p.length-1-j) 0*(Ce p q.num q.den j).2)<=200000000:=Qa (G9 _ _) Fo;refine go tt [.T,.k (Cn (a:=(Ce p q.num q.den j).1) (b:=q.num) Fo Fo),.r 29 (eI (b:=((p.length-1-j:Nat):Int)) Fo),.x (Pw (p:=p) (i:=p.length-1-j) Fo),.k (Cn (a:=p.getD (p.length-1-j) 0) (b:=(Ce p q.num q.den j).2) Fo Fo),.k (uF d e),.k (Cn (a:=(Ce p q.num q.den j).2) (b:=(q.den:Int)) Fo Fo),.r 23 (eI (b:=(p.length:Int)-1-((j+1:Nat):Int)) Fo)] rfl Fx ?_;exact rd (j+1) Fo h rfl
 .obtain rfl:j=p.length:=Fo;exact Uz [.F,.k Qch] rfl (by rw[Qad]) trivial
end Orr
namespace Orr
def G0(p:U8):Int:=p.getD (p.length-1) 0
def A0(a b:U8):Int:=if G0 b<0 then -(G0 a)else G0 a
def Ij(a b:U8)(i:Nat):Int:=a.getD i 0*((G0 b).natAbs:Int)-(if a.length-b.length<=i then A0 a b*b.getD (i-(a.length-b.length)) 0 else 0)
def QJ(a b:U8):U8:=B7 a.length (Ij a b)
inductive RRun (b:List Int):Nat->List Int->List Int->Prop
 |stop {a:List Int}:a.length<b.length->RRun b 0 a a
 |step {k:Nat} {a r:List Int}:b.length<=a.length->a.length<=1000->Bd 9000000 a->Bd 9000000 b->RRun b k (QJ a b) r->RRun b (k+1) a r
def QN(p:U8):Nat->Nat
 | 0=>0
 |i+1=>Int.gcd (QN p i:Nat) (p.getD i 0)
def cont(p:U8):Nat:=QN p p.length
theorem MK(p:U8):∀{i j:Nat},j<i->((QN p i:Nat):Int)∣p.getD j 0
 | 0,_,h=>absurd h (Ut _)
 |
  i+1,j,h=>by
  simp only[QN];rcases Q7 j i with h1|h1
  .exact Kn (Int.gcd_dvd_left ..) (MK p h1)
  .rw[show j=i by omega];exact Ue ..
theorem pI(p:U8)(j:Nat):((cont p:Nat):Int)∣p.getD j 0:=by
 rcases Q7 j p.length with h|h
 .exact MK p h
 .rw[Qe,Qu h];exact Int.dvd_zero _
theorem VS{s:Nat}{p:U8}(h:Bd s p):∀i,Gm ((QN p i:Nat):Int)<=s
 | 0=>by simp[QN,C0]
 |
  i+1=>by
  simp only[QN];by_cases h0:p.getD i 0=0
  .rw[h0,Int.gcd_zero_right];exact VS h i
  .have h1:=Ue (QN p i:Nat) (p.getD i 0);have h2:(Int.gcd (QN p i:Nat) (p.getD i 0))<=(p.getD i 0).natAbs:=We Fo (by simpa using Xv.2 h1);have h3:=Gz h i;rw[Pi]at h3 ⊢;simp only[Xc];omega
variable{p:U8}
theorem Qgx{j i:Nat}(a:j<i)(h:p.getD j 0≠0):0<QN p i:=by
 have:=MK p a;rcases Q0 (QN p i)with h0|h0
 .rw[h0]at this;exact absurd (Int.zero_dvd.1 this) h
 .exact h0
theorem pO(ht:Gg p)(h:0<p.length):0<cont p:=Qgx (j:=p.length-1) Fo (Tg ht h)
def Ci(p:U8):Int:=if G0 p<0 then -((cont p:Nat):Int)else((cont p:Nat):Int)
def Rf(p:U8):U8:=B7 p.length λi=>p.getD i 0 / Ci p
def Se(p:U8):U8:=if G0 p<0 then Bt (Rf p)else Rf p
theorem Qhd(p:U8)(j:Nat):Ci p∣p.getD j 0:=by
 unfold Ci
 split
 .exact Uv.2 (pI p j)
 .exact pI p j
theorem Qmm(ht:Gg p)(h:0<p.length):Ci p≠0:=by
 have:=pO ht h;unfold Ci
 split <;> omega
variable{s:Nat}
theorem yG(h:Bd s p):Gm (Ci p)<=s:=by
 unfold Ci
 split
 .rw[Rq];exact VS h _
 .exact VS h _
theorem Qat{c:Int}(hc:c≠0)(hd:∀j,c∣p.getD j 0):YF (zp p) (1 / (c:Rat))=zp (B7 p.length λi=>p.getD i 0 / c):=by
 unfold YF B7;rw[tW (g:=λi=>p.getD i 0 / c) _ λi _=>?_,Ai,E8];obtain⟨k,b⟩:=hd i;have a:(c:Rat)≠0:=λe=>hc (by exact_mod_cast e)
 rw[EC,b,Jf _ hc,Je];grind
theorem AX(h:Bd s p):Bd s (Rf p):=JF λi _=>Qa (KJ _ _) (Gz h i)
theorem MO(p:U8):(Rf p).length<=p.length:=Oq _ _
theorem xX(p:U8):Gg (Rf p):=Gs _ _
theorem jU(h:Bd s p):Bd s (Se p):=by
 unfold Se
 split
 .exact RJ (AX h)
 .exact AX h
theorem YJ(p:U8):(Se p).length<=p.length:=by
 unfold Se
 split
 .exact Qa (O2 _) (MO p)
 .exact MO p
inductive GRun:Nat->List Int->List Int->List Int->Prop
 |stop (a:List Int):GRun 0 a [] a
 |step {k m:Nat} {a b r g:List Int}:0<b.length->b.length<=1000->Bd 9000000 b->RRun b m a r->r.length<=1000->Bd 9000000 r->Gg r->GRun k b (Rf r) g->GRun (k+1) a b g
variable{k:Nat}
theorem GRun.inv{a b g:U8}(h:GRun k a b g):(k=0/\b.length=0/\a=g)\/∃j m r,k=j+1/\0<b.length/\b.length<=1000/\Bd 9000000 b/\RRun b m a r/\r.length<=1000/\Bd 9000000 r/\Gg r/\GRun j b (Rf r) g:=by
 cases h with
 |stop=>exact .inl ⟨rfl,rfl,rfl⟩
 |step h1 h2 h3 h4 h5 d e c=>exact .inr ⟨_,_,_,rfl,h1,h2,h3,h4,h5,d,e,c⟩
def Pj(k:Nat)(p:U8):U8:=List.replicate k 0++p
theorem HU(k:Nat)(p:U8):(Pj k p).length=k+p.length:=by simp[Pj]
theorem Qfv(h:Bd s p):Bd s (Pj k p):=λz hz=>by
 rcases Qr.1 hz with h1|h1
 .rw[Z0 h1,C0];exact Qj _
 .exact h z h1
inductive DRun (b:List Int):Nat->List Int->List Int->List Int->List Int->Prop
 |stop {a q:List Int}:a.length<b.length->DRun b 0 a q q a
 |step {k:Nat} {a q qf r:List Int}:b.length<=a.length->a.length<=1000->Bd 9000000 a->G0 b≠0->G0 b∣G0 a->a.length-b.length<q.length ->
  DRun b k (Mh a (Pj (a.length-b.length) (G5 b (G0 a / G0 b)))) (q.set (a.length-b.length) (G0 a / G0 b)) qf r->DRun b (k+1) a q qf r
theorem DRun.inv{b a q qf r:U8}(h:DRun b k a q qf r):(k=0/\q=qf/\a=r/\a.length<b.length)\/∃j,k=j+1/\b.length<=a.length/\a.length<=1000/\Bd 9000000 a/\G0 b≠0/\G0 b∣G0 a/\a.length-b.length<q.length /\
 DRun b j (Mh a (Pj (a.length-b.length) (G5 b (G0 a / G0 b)))) (q.set (a.length-b.length) (G0 a / G0 b)) qf r:=by
 cases h with
 |stop h=>exact .inl ⟨rfl,rfl,rfl,h⟩
 |step h1 h2 h3 h4 h5 c d=>exact .inr ⟨_,rfl,h1,h2,h3,h4,h5,c,d⟩
def M3(l:U9):U8:=l.getD (l.length-1) []
inductive LRun:Nat->List (List Int)->List (List Int)->Prop
 |stop {l:List (List Int)}:(M3 l).length<=1->LRun 0 l l
 |step {k m:Nat} {l f:List (List Int)} {g:List Int}:1<(M3 l).length->(M3 l).length<=1000->Gg (M3 l)->Bd 9000000 (M3 l)->Bd 9000000 (Hh (M3 l))->GRun m (Rf (M3 l)) (Rf (Hh (M3 l))) g->l.length<=1000->LRun k (l++[g]) f->LRun (k+1) l f
theorem LRun.inv{l f:U9}(h:LRun k l f):(k=0/\l=f/\(M3 l).length<=1)\/∃j m g,k=j+1/\1<(M3 l).length/\(M3 l).length<=1000/\Gg (M3 l)/\Bd 9000000 (M3 l)/\Bd 9000000 (Hh (M3 l))/\GRun m (Rf (M3 l)) (Rf (Hh (M3 l))) g/\l.length<=1000/\LRun j (l++[g]) f:=by
 cases h with
 |stop h=>exact .inl ⟨rfl,rfl,h⟩
 |step h1 h2 h3 h4 h5 a c b=>exact .inr ⟨_,_,_,rfl,h1,h2,h3,h4,h5,a,c,b⟩
def DOk(a b q:U8):Prop:=0<b.length/\b.length<=1000/\a.length<=1000/\Bd 9000000 b/\∃qf r n,Bd 9000000 qf/\qf.length<=1000/\DRun b n a (List.replicate (a.length+1-b.length) 0) qf r/\q=trim qf
theorem DOk.bd{a b q:U8}(h:DOk a b q):Bd 9000000 q:=by
 obtain⟨_,_,_,_,qf,r,n,h1,_,_,rfl⟩:=h;exact Pv h1
theorem DOk.len{a b q:U8}(h:DOk a b q):q.length<=1000:=by
 obtain⟨_,_,_,_,qf,r,n,_,h1,_,rfl⟩:=h;exact Qa (Tu _) h1
theorem DOk.trim{a b q:U8}(h:DOk a b q):Gg q:=by
 obtain⟨_,_,_,_,qf,r,n,_,_,_,rfl⟩:=h;exact Tp _
def Q2s(a b c f:U8):Prop:=∃x y z,DOk a b x/\DOk b c y/\DOk (Rf x) (Rf y) z/\f=Rf z
structure FRun(a:List Int)(m:Nat)(f:Nat->List Int):Prop where
 run:∃n l,LRun n [Rf a] l/\l.length=m+1/\∀k,k<m->Q2s ((l++[[1]]).getD k []) ((l++[[1]]).getD (k+1) []) ((l++[[1]]).getD (k+2) []) (f k)
 small:m<=1000
def BQ(f:Nat->U8)(n:Nat):U9:=(List.range n).map f
theorem PX(f:Nat->U8)(n:Nat):(BQ f n).length=n:=by simp[BQ]
theorem Qig(f:Nat->U8)(n:Nat):BQ f (n+1)=BQ f n++[f n]:=by simp[BQ,Wq]
theorem dC{f:Nat->U8}{n i:Nat}(h:i<n):(BQ f n)[i]? = some (f i):=by simp[BQ,Jh h]
theorem iS{l:U9}{i:Nat}(h:i<l.length):l[i]? = some (l.getD i []):=by
 rw[Qe,Qf h];rfl
def Na(f:Nat->U8):Nat->U8
 | 0=>[1]
 |i+1=>Hb (Na f i) (f i)
def Qiy(m:Nat)(f:Nat->U8):Prop:=∀i,i<m->Bd 9000000 (Na f i)/\(Na f i).length<=1000/\Bd 9000000 (f i)/\(f i).length<=1000
inductive CRun:Nat->List (List Int)->List Int->List (List Int)->Prop
 |stop {l:List (List Int)} {g:List Int}:g.length=0->CRun 0 l g l
 |step {k m:Nat} {l f:List (List Int)} {g r:List Int}:0<g.length->g.length<=1000->Bd 9000000 g->RRun g m (M3 l) r->Gg r->Bd 9000000 r->r.length<=1000->0<l.length->l.length<=1000->CRun k (l++[g]) (Bt (Se r)) f->CRun (k+1) l g f
theorem CRun.inv{l f:U9}{g:U8}(h:CRun k l g f):(k=0/\l=f/\g.length=0)\/∃j m r,k=j+1/\0<g.length/\g.length<=1000/\Bd 9000000 g/\RRun g m (M3 l) r/\Gg r/\Bd 9000000 r/\r.length<=1000/\0<l.length/\l.length<=1000/\CRun j (l++[g]) (Bt (Se r)) f:=by
 cases h with
 |stop h=>exact .inl ⟨rfl,rfl,h⟩
 |step h1 h2 h3 h4 h5 b e c d a=>exact .inr ⟨_,_,_,rfl,h1,h2,h3,h4,h5,b,e,c,d,a⟩
structure ChRun(a:List Int)(sq:List Int)(c:List (List Int)):Prop where
 fac:∃m f,FRun a m f/\Qiy m f/\sq=Na f m
 chain:∃n,CRun n [sq] (Se (Hh sq)) c
 bd:Bd 8000000 sq
 len:sq.length<=1000
 small:c.length<=1000
def Qbo(q:Rat)(c:U9):Prop:=∃sq,ChRun [-q.num,(q.den:Int)] sq c
end Orr
namespace Orr
open Go Go.Proofs Tryz
set_option maxRecDepth 10000
theorem RRun.inv{b a r:U8}{k:Nat}(h:RRun b k a r):(k=0/\a=r/\a.length<b.length)\/(∃j,k=j+1/\b.length<=a.length/\a.length<=1000/\Bd 9000000 a/\Bd 9000000 b/\RRun b j (QJ a b) r):=by
 cases h with
 |stop h=>exact .inl ⟨rfl,rfl,h⟩
 |step h1 h2 h3 h4 h5=>exact .inr ⟨_,rfl,h1,h2,h3,h4,h5⟩
theorem Qvu{a b:U8}(ha:Bd 9000000 a):Gm (A0 a b)<=9000000:=by
 unfold A0;split
 .rw[Rq];exact Gz ha _
 .exact Gz ha _
theorem Qvo(n:Nat):ri (n:Int)=[nd n,.bool false]:=by
 show [nd n,sg (n:Int)]=_;unfold sg;rw[decide_eq_false Fo]
def rO(a b:U8)(n:Nat):U8:=(List.range n).map (Ij a b)
theorem Qpq(a b:U8)(n:Nat):(rO a b n).length=n:=by simp[rO]
theorem kO(a b:U8)(n:Nat):rO a b (n+1)=rO a b n++[Ij a b n]:=by simp[rO,Wq]
theorem Qcm{a0 b res:U8}{n:Nat}(y:0<b.length)(q:b.length<=1000)(g:Bd 9000000 b)(d:RRun b n a0 res):U5 86 [.one (rp (zp a0)),.one (rp (zp b))] [.one (rp (zp res))]:=by
 have hbl:=FT b;have w:Gm (((G0 b).natAbs:Nat):Int)<=9000000:=Gz g _;refine G7 func86 rfl ?_;refine Uy [.r 15 (eI (b:=((b.length-1:Nat):Int)) Fo),.x (Pw (p:=b) (i:=b.length-1) Fo)] rfl ?_;refine sb [(0,.v (.one (rp (zp a0)))),(1,.v (.one (rp (zp b)))),(5,.v (.one (.ow 0 0))),(6,.v (.one (.ow 1 0)))] [.blk 50 (ri (G0 b)),.blk 50 [nd (G0 b).natAbs,.bool false]] rfl rfl ?_;refine U4 (S:=Nat×U8) 2 (λL1 s=>(0,.v (.one (rp (zp s.2))))::L1) (λ_=>[.blk 50 (ri (G0 b)),.blk 50 [nd (G0 b).natAbs,.bool false]]) (λs=>s.1) (λs=>RRun b s.1 s.2 res) (n,a0) d rfl rfl λ⟨k,a⟩ hs=>?_
 have C:=FT a;have hs:RRun b k a res:=hs;rcases RRun.inv hs with⟨rfl,rfl,h1⟩|⟨j,rfl,h1,h2,ha,hb,hr⟩
 .exact Uz [.f (decide_eq_false Fv)] rfl
 obtain⟨K,u⟩:=nmE (a.length-b.length);have B:=Qvu (b:=b) ha;have m:=VH (p:=zp (rO a b a.length));rw[Ai,show trim (rO a b a.length)=QJ a b from rfl]at m;refine Uy [.t (decide_eq_true Fv),.r 30 (eI (b:=(K:Int)) Fv),.r 34 (eI (b:=((a.length-1:Nat):Int)) Fv),.x (Pw (p:=a) (i:=a.length-1) Fo)] rfl ?_;refine ct 1 (S:=Unit) (λ_=>[(0,.v (.one (rp (zp a)))),(1,.v (.one (rp (zp b)))),(5,.v (.one (.ow 0 0))),(6,.v (.one (.ow 1 0))),(7,.v (.oi K)),(8,.v (.one (.ow 2 0)))]) (λ_=>[.blk 50 (ri (G0 b)),.blk 50 [nd (G0 b).natAbs,.bool false],.blk 50 (ri (A0 a b))]) (λ_=>True) rfl ?_ (λ_ _=>?_)
 .by_cases hn:G0 b<0
  .have e:A0 a b=-(G0 a):=if_pos hn;rw[e];exact go tt [.t (decide_eq_true hn),.k (JM (z:=G0 a))] rfl trivial (rc () trivial rfl)
  .have e:A0 a b=G0 a:=if_neg hn;rw[e];exact go tt [.f (decide_eq_false hn)] rfl trivial (rc () trivial rfl)
 refine Ux [.o 9 52 4] rfl ?_;refine U4 (S:=Nat) 4 (λL1 i=>(44,.v (.oi i))::(9,.v (.one (.orow 3 4 none)))::L1) (λi=>[.blk 50 (ri (G0 b)),.blk 50 [nd (G0 b).natAbs,.bool false],.blk 50 (ri (A0 a b)),.row false 52 4 (frow (zp (rO a b i)))]) (λi=>a.length-i) (λi=>i<=a.length) 0 (Qj _) rfl rfl λi hi=>?_
 have c:=FT (rO a b i);rw[Qpq]at c;by_cases h:i<a.length
 .have l:=Cn (a:=a.getD i 0) (b:=(((G0 b).natAbs:Nat):Int)) (Qa (Gz ha i) Fp) Fo;have hm:=G9 (a.getD i 0) (((G0 b).natAbs:Nat):Int);have D:=Gz ha i;rw[Qvo (G0 b).natAbs]at l;by_cases G:K<=i
  .have A:=Gz hb (i-K);have E:=G9 (A0 a b) (b.getD (i-K) 0);have e:Ij a b i=a.getD i 0*(((G0 b).natAbs:Nat):Int)-A0 a b*b.getD (i-K) 0:=by unfold Ij;rw[if_pos Fo,u]
   refine go tt [.T,.x (Pw h),.k l,.T,.r 62 (eI (b:=((i-K:Nat):Int)) Fo),.x (Pw (p:=b) (i:=i-K) Fo),.k (Cn (a:=A0 a b) (b:=b.getD (i-K) 0) Fo Fo),.k (aH Fo Fo),.k (ZO (n:=1) Fp),.k (Al (n:=a.getD i 0*(((G0 b).natAbs:Nat):Int)-A0 a b*b.getD (i-K) 0)),.s (sz:=4) (oR _)] rfl (by simp[Gi,c,-List.getD_eq_getElem?_getD] <;> omega) ?_;exact rd (i+1) Fo h (by rw[kO,sV,e];rfl)
  .have e:Ij a b i=a.getD i 0*(((G0 b).natAbs:Nat):Int):=by unfold Ij;rw[if_neg Fo,Int.sub_zero]
   refine go tt [.T,.x (Pw h),.k l,.F,.k (ZO (n:=1) Fp),.k (Al (n:=a.getD i 0*(((G0 b).natAbs:Nat):Int))),.s (sz:=4) (oR _)] rfl (by simp[Gi,c,-List.getD_eq_getElem?_getD] <;> omega) ?_;exact rd (i+1) Fo h (by rw[kO,sV,e];rfl)
 .have e:i=a.length:=Fo;rw[e];exact go tt [.F,.k m] rfl trivial (rd (j,QJ a b) Fo hr rfl)
theorem Qzm:U5 69 [.agg (ri 1),.agg (ri 1)] [.agg (ri 1)]:=Cn (a:=1) (b:=1) Fp Fp
theorem Qsx:U5 79 [.agg (ri 1),.agg (ri 1)] [.agg (ri 1)]:=uG (a:=1) (b:=1) Fp Fp
variable{z:Int}
theorem Qse(hz:Gm z<=90000000):U5 69 [.agg (ri z),.agg (ri 1)] [.agg (ri z)]:=by
 have h:=Cn (a:=z) (b:=1) Fo Fp;rwa[W6]at h
theorem Qb9(hz:Gm z<=90000000):U5 80 [.agg (ri z),.agg (ri 1)] [.agg (ri z)]:=by
 have h:=IJ (a:=z) (b:=1) hz Fp Fp (Int.emod_one z);rwa[Ka]at h
theorem Qjy:U5 32 [.agg (fr (z:Rat))] [.agg (fr ((-z:Int):Rat))]:=by
 have h:=aY (a:=(z:Rat));rwa[<-V1]at h
variable{c:Int}
theorem Q1c(hc:c≠0)(hs:Gm c<=9000000):Qs 40000000 (((1:Int):Rat) / (c:Rat)):=by
 have h0:(c:Rat)≠0:=λe=>hc (by exact_mod_cast e)
 rw[<-kR h0];unfold Hn;rw[if_neg (Jw (Eu _) (λe=>hc (by simpa using e)))];refine Qs.divInt (by show Gm (1*1)<=_;decide) ?_ Fp;show Gm (1*c)<=_;rw[Vn];omega
variable{p:U8}
theorem aV(hc:c≠0)(hs:Gm c<=9000000)(hd:∀j,c∣p.getD j 0)(hp:Bd 9000000 p)(hl:p.length<=1000):U5 153 [.one (rp (zp p)),.agg (fr (((1:Int):Rat) / (c:Rat)))] [.one (rp (zp (B7 p.length λi=>p.getD i 0 / c)))]:=by
 have h:=IW ((kN hp Fo).mono Fo) (Q1c hc hs) (by rw[E8];omega);rwa[show((1:Int):Rat)=1 from rfl,Qat hc hd]at h
theorem JB(m:Gg p)(hp:Bd 9000000 p)(hl:p.length<=1000):U5 152 [.one (rp (zp p))] [.agg (fr ((Ci p:Int):Rat)),.one (rp (zp (Rf p)))]:=by
 have l:=FT p;rcases Q0 p.length with h0|h0
 .have e:=Qg h0;subst e;exact U0 func152 rfl [.t rfl,.k aG] rfl
 have hc:=Qmm m h0;refine G7 func152 rfl ?_;refine Ux [.F,.k (ZO (n:=1) Fp)] rfl ?_;refine U4 (S:=Nat) 2 (λL1 i=>(16,.v (.oi i))::L1) (λi=>[.blk 52 [.nils,.bool false,.nils,.bool false],.blk 50 (ri 1)]) (λi=>p.length-i) (λi=>i<=p.length) 0 (Qj _) rfl rfl λi hi=>?_
 by_cases h:i<p.length
 .refine Uy [.T,.x (Pw h),.k Qzm,.x (Pw h),.k Qsx,.k (Qb9 (z:=1) Fp)] rfl ?_;exact rd (i+1) Fo h rfl
 refine Ux [.F] rfl ?_;clear h hi;refine nlb 2 rfl rfl rfl ?_;rw[Qe6];refine U4 (S:=Nat) 3 (λL1 i=>(37,.v (.oi i))::L1) (λi=>[.blk 52 [.nils,.bool false,.nils,.bool false],.blk 50 (ri 1),.blk 50 (ri ((QN p i:Nat):Int))]) (λi=>p.length-i) (λi=>i<=p.length) 0 (Qj _) rfl rfl λi hi=>?_
 by_cases h:i<p.length
 .have hb:=Gz hp i;have hg:=VS hp i;refine Uy [.T,.x (Pw h),.k (Qse (z:=p.getD i 0) Fo),.x (Pw h),.k (Qb9 (z:=p.getD i 0) Fo),.k (uG (a:=((QN p i:Nat):Int)) (b:=p.getD i 0) Fo Fo)] rfl ?_;exact rd (i+1) Fo h rfl
 have e:i=p.length:=Fo;rw[e];have d:=JS (n:=1) Fp;have cs:=aV hc (yG hp) (Qhd p) hp hl;by_cases hn:G0 p<0
 .have c:Ci p=-((cont p:Nat):Int):=if_pos hn;rw[show(λi=>p.getD i 0 / Ci p)=λi=>p.getD i 0 / Ci p from rfl]at cs;have g:=Qjy (z:=((cont p:Nat):Int));rw[<-c]at g;exact Uz [.F,.k (Al (n:=((cont p:Nat):Int))),.r 62 (eI (b:=((p.length-1:Nat):Int)) Fo),.x (Pw (p:=p) (i:=p.length-1) Fo),.t (decide_eq_true hn),.k g,.k d,.k (uJ (a:=((1:Int):Rat)) (b:=((Ci p:Int):Rat)) ⟨Fp,Fp⟩ (QZ (by have:=yG hp;omega) Fp) (λe=>hc (by exact_mod_cast e))),.k cs] rfl rfl Fw
 .have c:Ci p=((cont p:Nat):Int):=if_neg hn;have j:=Al (n:=Ci p);rw[c]at j cs hc ⊢;exact Uz [.F,.k j,.r 62 (eI (b:=((p.length-1:Nat):Int)) Fo),.x (Pw (p:=p) (i:=p.length-1) Fo),.f (decide_eq_false hn),.k d,.k (uJ (a:=((1:Int):Rat)) (b:=((((cont p:Nat):Int):Int):Rat)) ⟨Fp,Fp⟩ (QZ (by have:=VS hp p.length;unfold cont;omega) Fp) (λe=>hc (by exact_mod_cast e))),.k cs] rfl (by unfold Rf;rw[c];rfl) Fw
theorem QT(a:Gg p)(hp:Bd 9000000 p)(hl:p.length<=1000):U5 101 [.one (rp (zp p))] [.one (rp (zp (Rf p)))] :=
 U0 func101 rfl [.k (JB a hp hl)] rfl
theorem yH(a:Gg p):Ci p<0↔G0 p<0:=by
 unfold Ci;rcases Q0 p.length with h0|h0
 .have:=Qg h0;subst this;decide
 .have:=pO a h0
  split <;> omega
theorem Qk0(hp:Bd 9000000 p)(hl:p.length<=1000000):U5 85 [.one (rp (zp p))] [.one (rp (zp (Bt p)))]:=by
 have h:=Qk5 ((kN hp Fp).mono Fp) (by rw[E8];exact hl);rwa[Qe7]at h
theorem IU(a:Gg p)(hp:Bd 9000000 p)(hl:p.length<=1000):U5 84 [.one (rp (zp p))] [.one (rp (zp (Se p)))]:=by
 by_cases hn:G0 p<0
 .have e:Se p=Bt (Rf p):=if_pos hn;rw[e];exact U0 func84 rfl [.k (JB a hp hl),.t (decide_eq_true ((yH a).2 hn)),.k (Qk0 (AX hp) (Qa (MO p) Fo))] rfl
 .have e:Se p=Rf p:=if_neg hn;rw[e];exact U0 func84 rfl [.k (JB a hp hl),.f (decide_eq_false λh=>hn ((yH a).1 h))] rfl
end Orr
namespace Orr
theorem Ot(f:Nat->Int):B7 1 f=trim [f 0]:=rfl
theorem OG(f:Nat->Int):B7 2 f=trim [f 0,f 1]:=rfl
theorem FA(x:Int):trim [x]=if x=0 then []else [x]:=rfl
theorem wH(x y:Int):trim [x,y]=if y=0 then trim [x]else [x,y]:=by
 simp only[trim];split <;> split <;> simp_all
variable{s:Nat}
theorem bd1{x:Int}(h:Gm x<=s):Bd s [x]:=λz hz=>by simp at hz;subst hz;exact h
theorem bd2{x y:Int}(h:Gm x<=s)(a:Gm y<=s):Bd s [x,y]:=λz hz=>by
 simp only[Qm,Jg,or_false]at hz;rcases hz with rfl|rfl <;> assumption
section
variable{x d:Int}(hd:0<d)(hg:Int.gcd x d=1)(hx:Gm x<=2000000)(hs:Gm d<=2000000)
theorem b1{s:Nat}(h:1<=s):Bd s [1]:=bd1 (Qa (show Gm 1<=1 by decide) h)
include hd in
theorem SR(hg:Int.gcd x d=1):Rf [x,d]=[x,d]:=by
 have hc:Ci [x,d]=1:=by
  have h1:cont [x,d]=1:=by
   show Int.gcd (Int.gcd ((0:Nat):Int) x:Nat) d=1;rw[show Int.gcd ((0:Nat):Int) x=x.natAbs by simp,show Int.gcd ((x.natAbs:Nat):Int) d=Int.gcd x d by simp[Int.gcd],hg]
  unfold Ci;rw[if_neg (show ¬G0 [x,d]<0 from by show ¬d<0;omega),h1];rfl
 unfold Rf;rw[hc];show B7 2 _=_;rw[OG,wH];show(if d / 1=0 then _ else [x / 1,d / 1])=_;rw[Ka,if_neg Fo,Ka]
theorem cY:Rf [1]=[1]:=Fp
include hd in
theorem zW:Rf [d]=[1]:=by
 have hc:Ci [d]=d:=by
  have h1:((cont [d]:Nat):Int)=d:=by
   show((Int.gcd ((0:Nat):Int) d:Nat):Int)=d;simp;omega
  unfold Ci;rw[if_neg (show ¬G0 [d]<0 from by show ¬d<0;omega),h1]
 unfold Rf;rw[hc];show B7 1 _=_;rw[Ot,FA];show(if d / d=0 then _ else [d / d])=_;rw[Int.ediv_self Fo];rfl
include hd in
theorem uD:Hh [x,d]=[d]:=by
 show B7 1 _=_;rw[Ot,FA];show(if d*1=0 then _ else [d*1])=_;rw[W6,if_neg Fo]
include hd hx hs in
theorem cI:∃m,RRun [1] m [x,d] []:=by
 have h1:QJ [x,d] [1]=trim [x]:=by
  show B7 2 _=_;rw[OG,wH];have b:Ij [x,d] [1] 1=0:=by
   show d*1-(if 1<=1 then A0 [x,d] [1]*1 else 0)=0;have:A0 [x,d] [1]=d:=by unfold A0;rw[if_neg Fp];rfl
   rw[this];simp
  have a:Ij [x,d] [1] 0=x:=by
   show x*1-(if 1<=0 then _ else 0)=x;simp
  rw[b,if_pos rfl,a]
 have hb:Bd 9000000 [x,d]:=bd2 Fo Fo;by_cases h0:x=0
 .refine⟨1,.step (by show 1<=2;decide) (by show 2<=1000;decide) hb (b1 Fp) ?_⟩;rw[h1,h0];exact .stop Fp
 .refine⟨2,.step (by show 1<=2;decide) (by show 2<=1000;decide) hb (b1 Fp) ?_⟩;rw[h1,FA,if_neg h0];refine .step (Ql 1) (by show 1<=1000;decide) (bd1 Fo) (b1 Fp) ?_;have h2:QJ [x] [1]=[]:=by
   show B7 1 _=_;rw[Ot,FA];have a:Ij [x] [1] 0=0:=by
    show x*1-(if 0<=0 then A0 [x] [1]*1 else 0)=0;have:A0 [x] [1]=x:=by unfold A0;rw[if_neg Fp];rfl
    rw[this];simp
   rw[a,if_pos rfl]
  rw[h2];exact .stop Fp
include hd hx hs in
theorem Qm9:∃m,GRun m [x,d] [1] [1]:=by
 obtain⟨m,h⟩:=cI hd hx hs;exact⟨1,.step Fp Fp (b1 Fp) h Fp Om rfl (by rw[show Rf []=[] by decide];exact .stop _)⟩
theorem Qh1(c:Int):Mh [c] [c]=[]:=by
 show B7 1 _=_;rw[Ot,FA];show(if c-c=0 then _ else _)=_;rw[if_pos Fo]
include hd hx hs in
theorem Qc6:DOk [x,d] [1] [x,d]:=by
 refine⟨Fp,Fp,by show 2<=1000;decide,b1 Fp,[x,d],[],?_⟩;have b:G0 [x,d] / G0 [1]=d:=by show d / 1=d;rw[Ka]
 have e:G5 [1] d=[d]:=by
  show B7 1 _=_;rw[Ot,FA];show(if 1*d=0 then _ else [1*d])=_;rw[Vn,if_neg Fo]
 have a:Mh [x,d] (Pj 1 [d])=trim [x]:=by
  show B7 2 _=_;rw[OG,wH];show(if d-d=0 then trim [x-0]else _)=_;rw[if_pos Fo,Int.sub_zero]
 have hb:Bd 9000000 [x,d]:=bd2 Fo Fo;have ht:trim [x,d]=[x,d]:=by rw[wH,if_neg Fo]
 by_cases h0:x=0
 .refine⟨1,hb,by show 2<=1000;decide,?_,ht.symm⟩;refine .step (by show 1<=2;decide) (by show 2<=1000;decide) hb Fp (by show(1:Int)∣d;exact Uw d) (by show 1<2;decide) ?_;rw[b,e,show [x,d].length-[(1:Int)].length=1 from rfl,a,FA,if_pos h0];show DRun [1] 0 [] [0,d] [x,d] [];rw[h0];exact .stop Fp
 .refine⟨2,hb,by show 2<=1000;decide,?_,ht.symm⟩;refine .step (by show 1<=2;decide) (by show 2<=1000;decide) hb Fp (by show(1:Int)∣d;exact Uw d) (by show 1<2;decide) ?_;rw[b,e,show [x,d].length-[(1:Int)].length=1 from rfl,a,FA,if_neg h0];refine .step (by show 1<=1;decide) (by show 1<=1000;decide) (bd1 Fo) Fp (by show(1:Int)∣x;exact Uw x) (by show 0<2;decide) ?_;have c:G0 [x] / G0 [1]=x:=by show x / 1=x;rw[Ka]
  have f:G5 [1] x=[x]:=by
   show B7 1 _=_;rw[Ot,FA];show(if 1*x=0 then _ else [1*x])=_;rw[Vn,if_neg h0]
  rw[c,f,show [x].length-[(1:Int)].length=0 from rfl,show Pj 0 [x]=[x] from rfl,Qh1];exact .stop Fp
theorem div_one:DOk [1] [1] [1]:=by
 refine⟨Fp,Fp,Fp,b1 Fp,[1],[],1,b1 Fp,Fp,?_,Fp⟩;refine .step Fp Fp (b1 Fp) Fp Fp Fp ?_;exact .stop Fp
include hd hg hx hs in
theorem Qmq:FRun [x,d] 1 (λ_=>[x,d]):=by
 obtain⟨m,hm⟩:=Qm9 (x:=x) hd hx hs;refine⟨⟨1,[[x,d],[1]],?_,rfl,?_⟩,Fp⟩
 .rw[SR hd hg];refine .step (by show 1<2;decide) (by show 2<=1000;decide) (by show trim [x,d]=[x,d];rw[wH,if_neg Fo]) (by show Bd 9000000 [x,d];exact bd2 Fo Fo) ?_ ?_ (by show 1<=1000;decide) (m:=m) (g:=[1]) ?_
  .show Bd 9000000 (Hh [x,d]);rw[uD hd];exact bd1 Fo
  .show GRun m (Rf [x,d]) (Rf (Hh [x,d])) [1];rw[SR hd hg,uD hd,zW hd];exact hm
  .exact .stop (by show 1<=1;decide)
 .intro k a;have:k=0:=Fo;subst this;exact⟨[x,d],[1],[x,d],Qc6 hd hx hs,div_one,by rw[SR hd hg,cY];exact Qc6 hd hx hs,(SR hd hg).symm⟩
theorem vH{p:U8}(hp:Gg p)(h0:0<p.length):Hb [1] p=p:=by
 refine BN (Hf _ _) hp λk=>?_
 unfold Hb;rw[if_neg (by
  rintro (h|h);· cases h
  .omega),E7]
 show(Ic [1] p (List.replicate (1+p.length-1) 0) 1).getD k 0=_;simp only[Ic];rw[vT _ _ _ _ _ _ Ft,Tw]
 split
 .show 0+1*p.getD (k-0) 0=_;rw[Ww];omega
 .rename_i h;rw[Qe,Qu Fo];rfl
include hd hg hx hs in
theorem Qgw:ChRun [x,d] [x,d] [[x,d],[1]]:=by
 obtain⟨m,hm⟩:=cI (x:=x) hd hx hs;have ht:Gg [x,d]:=by show trim [x,d]=_;rw[wH,if_neg Fo]
 refine⟨⟨1,λ_=>[x,d],Qmq hd hg hx hs,?_,?_⟩,⟨1,?_⟩,bd2 Fo Fo,by show 2<=1000;decide,by show 2<=1000;decide⟩
 .intro i hi;have:i=0:=Fo;subst this;exact⟨b1 Fp,by show 1<=1000;decide,bd2 Fo Fo,by show 2<=1000;decide⟩
 .show [x,d]=Hb [1] [x,d];rw[vH ht (by show 0<2;decide)]
 .have hz:Se (Hh [x,d])=[1]:=by
   rw[uD hd];unfold Se;rw[if_neg (show ¬G0 [d]<0 from by show ¬d<0;omega),zW hd]
  rw[hz];refine .step Fp Fp (b1 Fp) (m:=m) (r:=[]) hm rfl Om Fp (by show 0<1;decide) (by show 1<=1000;decide) ?_;exact .stop Fp
end
theorem Q4a{q:Rat}(h:Qs 2000000 q):Qbo q [[-q.num,(q.den:Int)],[1]]:=by
 refine⟨[-q.num,(q.den:Int)],Qgw (den_pos q) ?_ (by rw[Rq];exact h.1) h.2⟩;rw[Int.neg_gcd];have:=q.reduced;unfold Nat.Coprime at this;simpa[Int.gcd]using this
end Orr
namespace Orr
open Go Go.Proofs Tryz
set_option maxRecDepth 10000
variable{n:Nat}
theorem Qk3{a b g:U8}(ta:Gg a)(tb:Gg b)(ha:Bd 9000000 a)(hb:Bd 9000000 b)(la:a.length<=1000)(lb:b.length<=1000)(c:GRun n (Rf a) (Rf b) g):U5 94 [.one (rp (zp a)),.one (rp (zp b))] [.one (rp (zp g))]:=by
 refine G7 func94 rfl ?_;refine Ux [.k (QT ta ha la),.k (QT tb hb lb)] rfl ?_;refine sb [(0,.v (.one (rp (zp (Rf a))))),(1,.v (.one (rp (zp (Rf b)))))] [] rfl rfl ?_;refine U4 (S:=Nat×U8×U8) 0 (λL1 s=>(0,.v (.one (rp (zp s.2.1))))::(1,.v (.one (rp (zp s.2.2))))::L1) (λ_=>[]) (λs=>s.1) (λs=>GRun s.1 s.2.1 s.2.2 g) (n,Rf a,Rf b) c rfl rfl λ⟨k,x,y⟩ hs=>?_
 have hs:GRun k x y g:=hs;have z:=FT y;rcases hs.inv with⟨w,d,e⟩|⟨j,A,r,w,d,l,u,q,o,m,i,h⟩
 .rw[<-e];exact Uz [.f (decide_eq_false Fv)] rfl
 .subst w;refine Ux [.t (decide_eq_true Fv),.k (Qcm (a0:=x) (b:=y) (res:=r) d l u q),.k (QT (p:=r) i m o)] rfl ?_;exact rd (j,y,Rf r) Fv h rfl
theorem Qsh{x y:Int}(hx:Gm x<=9000000)(b:Gm y<=9000000)(h0:y≠0)(hd:y∣x):U5 206 [.agg (fr (x:Rat)),.agg (fr (y:Rat))] [.agg (fr ((x / y:Int):Rat))]:=by
 have a:(y:Rat)≠0:=λe=>h0 (by exact_mod_cast e)
 have h:=uJ (QZ (s:=40000000) (z:=x) Fo Fo) (QZ (s:=40000000) (z:=y) Fo Fo) a;obtain⟨k,rfl⟩:=hd;rw[Jf _ h0];rwa[show(((y*k:Int):Rat)) / (y:Rat)=(k:Rat) by rw[Je];grind]at h
theorem Qgq{p:U8}{c:Int}(hp:Bd 40000000 p)(hc:Gm c<=40000000)(hl:p.length<=1000000):U5 153 [.one (rp (zp p)),.agg (fr (c:Rat))] [.one (rp (zp (G5 p c)))]:=by
 have h:=IW (kN hp Fo) (QZ hc Fo) (by rw[E8];exact hl);rwa[kA]at h
theorem Qv5(k:Nat)(p:U8):frow (zp (List.replicate k 0))++frow (zp p)=frow (zp (Pj k p)):=by simp[zp,Pj,frow]
theorem Qhg(l:U8)(i:Nat)(z:Int):(frow (zp l)).set i [nd ((z:Rat)).num.natAbs,sg ((z:Rat)).num,nd (((z:Rat)).den:Int).natAbs,sg (((z:Rat)).den:Int)]=frow (zp (l.set i z)):=mO l i z
theorem Qs6{p q:U8}(hp:Bd 18000000 p)(c:Bd 18000000 q)(b:p.length<=1000000)(a:q.length<=1000000):Ge prog 191 [.one (rp (zp p)),.one (.orow 0 4 none)] [.row false 52 4 (frow (zp q))] [.one (rp (zp (Mh p q)))] [.gone]:=by
 have hn:=Qk5 ((kN c Fp).mono Fp) (by rw[E8];exact a);have ha:=Qzn (p:=zp p) (q:=rA (zp q)) ((kN hp Fp).mono Fp) ((Q1e (kN c Fp)).mono Fp) (by rw[E8];exact b) (Qa (Qpi _) (by rw[E8];exact a));have e:Qh4 (zp p) (rA (zp q))=zp (Mh p q):=Qvt p q;rw[e]at ha;refine G7 func191 rfl ?_;exact U3 [] [0] [.k hn,.k ha] rfl
theorem Qgs{a0 b qf rem:U8}(Y:0<b.length)(X:b.length<=1000)(P:a0.length<=1000)(h:Bd 9000000 b)(hqb:Bd 9000000 qf)(e:DRun b n a0 (List.replicate (a0.length+1-b.length) 0) qf rem):U5 168 [.one (rp (zp a0)),.one (rp (zp b))] [.one (rp (zp (trim qf))),.one (rp (zp rem))]:=by
 have W:=FT a0;have hbl:=FT b;obtain⟨N,U⟩:=nmE (a0.length+1-b.length);rw[<-U]at e;have L:=VH (p:=zp qf);rw[Ai]at L;refine G7 func168 rfl ?_;refine Uy [.r 18 (eI (b:=(N:Int)) Fo),.i N,.i N,.r 21 (eI (b:=(N:Int)) Ft)] rfl ?_;refine U4 (S:=Nat) 1 (λL1 i=>(22,.v (.oi i))::L1) (λi=>[.row false 52 4 (List.replicate i (fr 0)++List.replicate (N-i) zR)]) (λi=>N-i) (λi=>i<=N) 0 (Qj _) rfl rfl λi hi=>?_
 by_cases d:i<N
 .refine Uy [.T,.k aG,.i i] rfl ?_;rw[fV d];exact rd (i+1) Fo d rfl
 have o:i=N:=Fo;rw[o,xK];clear o d hi;refine Ux [.F] rfl ?_;refine sb [(0,.v (.one (rp (zp a0)))),(1,.v (.one (rp (zp b)))),(6,.v (.one (.orow 0 4 none)))] [.row false 52 4 (frow (zp (List.replicate N 0)))] rfl rfl ?_;refine U4 (S:=Nat×U8×U8) 1 (λL1 s=>(0,.v (.one (rp (zp s.2.1))))::L1) (λs=>[.row false 52 4 (frow (zp s.2.2))]) (λs=>s.1) (λs=>DRun b s.1 s.2.1 s.2.2 qf rem/\s.2.2.length=N) (n,a0,List.replicate N 0) ⟨e,Ji⟩ rfl rfl λ⟨k,a,q⟩ ⟨g,m⟩=>?_
 have g:DRun b k a q qf rem:=g;have m:q.length=N:=m;have Z:=FT a;have A:=FT q;rcases g.inv with⟨M,C,E,d⟩|⟨j,M,V,O,z,H,J,B,l⟩
 .subst C;subst E;exact Uz [.f (decide_eq_false Fv),.k L] rfl
 subst M;obtain⟨K,R⟩:=nmE (a.length-b.length);rw[<-R]at l B;have y:Gm (G0 a)<=9000000:=Gz z _;have D:Gm (G0 b)<=9000000:=Gz h _;obtain⟨c,hc⟩:=nmE (G0 a / G0 b);have cq:=Qsh y D H J;have t:Gm (G0 a / G0 b)<=9000000:=Qa (KJ _ _) y;rw[<-hc]at cq t l;have Q:=Ha b c;have G:∀x,(q.set K x).length=N:=λx=>by rw[Xd];exact m
 dsimp only;refine go tt [.T,.r 39 (eI (b:=(K:Int)) Fo),.r 43 (eI (b:=((a.length-1:Nat):Int)) Fo),.x (Pw (p:=a) (i:=a.length-1) Fo),.r 49 (eI (b:=((b.length-1:Nat):Int)) Fo),.x (Pw (p:=b) (i:=b.length-1) Fo),.k cq,.i K,.i K,.i K,.r 60 (eI (b:=(K:Int)) Ft)] rfl (by simp[Gi,A] <;> omega) ?_;rw[Qhg];refine U4 (S:=Nat) 3 (λL1 i=>(61,.v (.oi i))::L1) (λi=>[.row false 52 4 (frow (zp (q.set K c))),.blk 52 (fr (c:Rat)),.row false 52 4 (List.replicate i (fr 0)++List.replicate (K-i) zR)]) (λi=>K-i) (λi=>i<=K) 0 (Qj _) rfl rfl λi hi=>?_
 by_cases d:i<K
 .refine Uy [.T,.k aG,.i i] rfl ?_;rw[fV d];exact rd (i+1) Fo d rfl
 have w:i=K:=Fo;rw[w,xK];clear w d hi;have u:=FT (List.replicate K 0);rw[Ji]at u;have I:=FT (G5 b c);refine Ux [.F] rfl ?_;refine sb [(10,.v (.one (.orow 2 4 none))),(9,.v (.one (.ow 1 0))),(0,.v (.one (rp (zp a)))),(1,.v (.one (rp (zp b)))),(6,.v (.one (.orow 0 4 none)))] [.row false 52 4 (frow (zp (q.set K c))),.blk 52 (fr (c:Rat)),.row false 52 4 (frow (zp (List.replicate K 0)))] rfl rfl ?_;have p2:=Qs6 (p:=a) (q:=Pj K (G5 b c)) (Fz z Fp) (Fz (Qfv (Hj h t)) Fp) Fo (by rw[HU];omega);rw[<-Qv5]at p2;refine go tt [.k (Qgq (c:=c) (Fz h Fp) Fo Fo),.s (sz:=4) (Qhf (zp (G5 b c))),.c [2] p2] rfl (by simp[Gi,u,I];omega) ?_;exact rd (j,Mh a (Pj K (G5 b c)),q.set K c) Fv ⟨l,G c⟩ rfl
def xW(l:U9):Ff:=l.map λp=>[rp (zp p)]
theorem I6(l:U9):(xW l).length=l.length:=by simp[xW]
theorem PM(l:U9)(g:U8):xW l++[[rp (zp g)]]=xW (l++[g]):=by simp[xW]
theorem YM{l:U9}{i:Nat}(h:i<l.length):(xW l)[i]? = some [rp (zp (l.getD i []))]:=Ra (iS h)
theorem Quy(x:LV):∀c∈[[x]],c.length=1:=λc hc=>by rw[Qk.1 hc];rfl
variable{a:U8}
theorem IV{b q:U8}(h:DOk a b q):∃r,U5 168 [.one (rp (zp a)),.one (rp (zp b))] [.one (rp (zp q)),.one (rp (zp r))]:=by
 obtain⟨h1,h2,h3,h4,qf,r,n,h5,d,c,rfl⟩:=h;exact⟨r,Qgs h1 h2 h3 h4 h5 c⟩
variable{mf:Nat}{f:Nat->U8}
theorem GK(ta:Gg a)(ha:Bd 9000000 a)(la:a.length<=1000)(h2:2<=a.length)(Q:FRun a mf f):U5 100 [.one (rp (zp a))] [.one (.row (xW (BQ f mf)))]:=by
 obtain⟨⟨n,ls,q,A,O⟩,hms⟩:=Q;have Z:=FT a;refine G7 func100 rfl ?_;refine Ux [.F,.k (QT ta ha la),.o 3 45 1,.lo] rfl ?_;refine sb [(3,.v (.one (.orow 0 1 none))),(4,.v (.one (.orow 1 1 none)))] [.row false 45 1 [],.row false 45 1 (xW [Rf a])] rfl rfl ?_;refine U4 (S:=Nat×U9) 2 (λL1 s=>(4,.v (.one (.orow 1 1 none)))::L1) (λs=>[.row false 45 1 [],.row false 45 1 (xW s.2)]) (λs=>s.1) (λs=>LRun s.1 s.2 ls/\0<s.2.length/\s.2.length<=1001) (n,[Rf a]) ⟨q,by show 0<1;decide,by show 1<=1001;decide⟩ rfl rfl λ⟨k,l⟩ ⟨d,B,m⟩=>?_
 have d:LRun k l ls:=d;have B:0<l.length:=B;have m:l.length<=1001:=m;have u:=I6 l;have c:(xW l)[l.length-1]? = some [rp (zp (M3 l))]:=YM Fo;have Y:=FT (M3 l);dsimp only;rcases d.inv with⟨P,t,V⟩|⟨j,m2,g,P,R,L,G,w,H,N,U,M⟩
 .have E:l.length=mf+1:=by rw[t];exact A
  rw[<-t]at O;have K:=I6 (l++[[1]]);have X:(l++[[1]]).length=mf+2:=by simp[E]
  refine go tt [.r 23 (eI (b:=((l.length-1:Nat):Int)) Fo),.i (l.length-1),.x c,.F,.k IK,.s (sz:=1) (Quy _)] rfl (by simp[Gi,u];omega) ?_;rw[PM];refine U4 (S:=Nat) 2 (λL1 i=>(6,.v (.oi i))::(3,.v (.one (.orow 0 1 none)))::L1) (λi=>[.row false 45 1 (xW (BQ f i)),.row false 45 1 (xW (l++[[1]]))]) (λi=>mf-i) (λi=>i<=mf) 0 (Qj _) rfl rfl λi hi=>?_
  have p:=I6 (BQ f i);rw[PX]at p;by_cases h:i<mf
  .obtain⟨x,y,z,hx,C,hz,W⟩:=O i h;obtain⟨rx,D⟩:=IV hx;obtain⟨ry,J⟩:=IV C;obtain⟨rz,I⟩:=IV hz;refine go tt [.T,.i i,.x (YM Fo),.i (i+1),.x (YM Fo),.k D,.i (i+1),.x (YM Fo),.i (i+2),.x (YM Fo),.k J,.k (QT hx.trim hx.bd hx.len),.k (QT C.trim C.bd C.len),.k I,.k (QT hz.trim hz.bd hz.len),.s (sz:=1) (Quy _)] rfl (by simp[Gi,K,p];omega) ?_;exact rd (i+1) Fo h (by rw[PM,Qig,W];rfl)
  .have e:i=mf:=Fo;rw[e];exact Uz [.F] rfl rfl Fw
 .subst P;refine go tt [.r 23 (eI (b:=((l.length-1:Nat):Int)) Fo),.i (l.length-1),.x c,.T,.r 31 (eI (b:=((l.length-1:Nat):Int)) Fo),.i (l.length-1),.x c,.k (uR (Fz w Fp) Fo),.k (Qk3 G (Gs _ _) w H L (Qa (P7 _) Fo) N),.s (sz:=1) (Quy _)] rfl (by simp[Gi,u];omega) ?_;exact rd (j,l++[g]) Fv ⟨M,Ft,Fq⟩ (by rw[PM];rfl)
theorem jC(ta:Gg a)(ha:Bd 9000000 a)(la:a.length<=1000)(h2:2<=a.length)(c:FRun a mf f)(l:Qiy mf f):U5 83 [.one (rp (zp a))] [.one (rp (zp (Na f mf)))]:=by
 have hms:=c.small;have j:=FT a;have b:=I6 (BQ f mf);rw[PX]at b;refine G7 func83 rfl ?_;refine Ux [.F,.k IK,.k (GK ta ha la h2 c)] rfl ?_;refine U4 (S:=Nat) 0 (λL1 i=>(15,.v (.oi i))::(3,.v (.one (rp (zp (Na f i)))))::L1) (λ_=>[]) (λi=>mf-i) (λi=>i<=mf) 0 (Qj _) rfl rfl λi hi=>?_
 by_cases h:i<mf
 .obtain⟨g,m,d,n⟩:=l i h;refine Uy [.T,.x (Ra (f:=λp=>[rp (zp p)]) (dC h)),.k (Qk4 (p:=Na f i) (q:=f i) Fo Fo g d Fp)] rfl ?_;exact rd (i+1) Fo h rfl
 .have e:i=mf:=Fo;rw[e];exact Uz [.F] rfl
theorem Qhm{l:U9}(g:U8)(h:0<l.length):(xW l++[[rp (zp g)]])[l.length-1]? = some [rp (zp (M3 l))]:=by
 rw[Zc (by rw[I6];omega)];exact YM Fo
variable{c:U9}
theorem VG{sq:U8}(ta:Gg a)(ha:Bd 9000000 a)(la:a.length<=1000)(h2:2<=a.length)(L:ChRun a sq c):U5 35 [.one (rp (zp a))] [.one (.row (xW c))]:=by
 obtain⟨⟨e,f,J,Q,rfl⟩,⟨n,u⟩,o,O,M⟩:=L;refine G7 func35 rfl ?_;refine Ux [.k (jC ta ha la h2 J Q),.lo,.k (uR (p:=Na f e) (Fz o Fp) Fo),.k (IU (p:=Hh (Na f e)) (Gs _ _) (Fz (LX (t:=10) o Fo) Fp) (Qa (P7 _) Fo))] rfl ?_;refine sb [(5,.v (.one (rp (zp (Se (Hh (Na f e))))))),(4,.v (.one (.orow 0 1 none)))] [.row false 45 1 (xW [Na f e])] rfl rfl ?_;refine U4 (S:=Nat×U9×U8) 1 (λL1 s=>(5,.v (.one (rp (zp s.2.2))))::(4,.v (.one (.orow 0 1 none)))::L1) (λs=>[.row false 45 1 (xW s.2.1)]) (λs=>s.1) (λs=>CRun s.1 s.2.1 s.2.2 c/\0<s.2.1.length/\s.2.1.length<=1001) (n,[Na f e],Se (Hh (Na f e))) ⟨u,by show 0<1;decide,by show 1<=1001;decide⟩ rfl rfl λ⟨k,l,g⟩ ⟨d,q,h⟩=>?_
 have d:CRun k l g c:=d;have q:0<l.length:=q;have h:l.length<=1001:=h;have C:=I6 l;have N:=FT g;dsimp only;rcases d.inv with⟨I,B,K⟩|⟨j,R,r,I,y,G,z,A,D,m,E,w,P,H⟩
 .subst B;exact Uz [.F] rfl
 .subst I;refine go tt [.T,.s (sz:=1) (Quy _),.r 23 (eI (b:=((l.length-1:Nat):Int)) Fq),.i (l.length-1),.x (Qhm g w),.k (Qcm (a0:=M3 l) (b:=g) (res:=r) y G z A),.k (IU (p:=r) D m E),.k (Qk0 (p:=Se r) (jU m) (Qa (YJ r) Fo))] rfl (by simp[Gi,C];omega) ?_;exact rd (j,l++[g],Bt (Se r)) Fv ⟨H,Ft,Fq⟩ (by rw[PM];rfl)
variable{q:Rat}
theorem Q2y(h1:Gm q.num<=2000000)(h2:Gm (q.den:Int)<=2000000):Bd 9000000 [-q.num,(q.den:Int)]:=λz hz=>by
 simp only[Qm,Jg,or_false]at hz;rcases hz with rfl|rfl
 .rw[Rq];omega
 .omega
abbrev aq(q:Rat)(c:U9):Fe:=[rp (zp [-q.num,(q.den:Int)]),.row (xW c)]++fr q++fr q
theorem BS(d:Qs 2000000 q)(f:Qbo q c):U5 6 [.agg (fr q)] [.agg (aq q c)]:=by
 obtain⟨sq,b⟩:=f;have e:=ZO (n:=1) Fp;exact U0 func6 rfl [.k e,.k (Al (n:=q.num)),.k (Qjy (z:=q.num)),.k e,.k (Al (n:=(q.den:Int))),.k (VG (a:=[-q.num,(q.den:Int)]) (Qfk q) (Q2y d.1 d.2) (by show 2<=1000;decide) (Ql 2) b)] rfl
theorem pM(d:Qs 2000000 q):U5 43 [.agg (aq q c)] [.one (.bool true)]:=by
 have e:=Lp (a:=q) (b:=q) (d.mono Fp) (d.mono Fp);rw[Et]at e;exact U0 func43 rfl [.k e] rfl
variable{p:U8}
theorem Qh0(h:p.length=0)(q:Rat):Hp p q=0:=by rw[Qg h];rfl
theorem Qcl(hp:Bd 30000000 p)(hl:p.length<=64)(a:Qs 2000000 q):U5 45 [.one (rp (zp p)),.agg (aq q c)] [.one (.bool (decide (Hp p q=0)))]:=by
 have b:=FT p;rcases Q0 p.length with h0|h0
 .rw[decide_eq_true (Qh0 h0 q)];exact U0 func45 rfl [.T] rfl
 .exact U0 func45 rfl [.F,.k (pM a),.t rfl,.k (RL hp hl a)] rfl
theorem jB(hp:Bd 30000000 p)(hl:p.length<=64)(a:Qs 2000000 q):U5 40 [.one (rp (zp p)),.agg (aq q c)] [.oi (Hp p q)]:=by
 by_cases h0:Hp p q=0
 .have cz:=Qcl (c:=c) hp hl a;rw[h0]at cz ⊢;exact U0 func40 rfl [.k cz,.t rfl] rfl
 .exact U0 func40 rfl [.k (Qcl hp hl a),.f (decide_eq_false h0),.k (pM a),.g 11 true rfl,.t rfl,.k (RL hp hl a)] rfl
theorem pS(hp:Bd 20000000 p)(hl:p.length<=64)(e:Qs 2000000 q):U5 11 [.one (rp (zp p)),.agg (aq q c)] [.oi (iT p q)]:=by
 refine G7 func11 rfl ?_;refine Ux [] rfl ?_;refine U4 (S:=U8) 1 (λL1 r=>(0,.v (.one (rp (zp r))))::L1) (λ_=>[.blk 54 (aq q c)]) (λr=>r.length) (λr=>r.length<=64/\Bd (25000000-30*r.length) r/\Px (λp=>Hp p q) r.length r=iT p q) p ⟨hl,Fz hp Fo,rfl⟩ rfl rfl λr ⟨d,b,a⟩=>?_
 have g:=FT r;rcases Q0 r.length with h0|h0
 .rw[BI _ h0]at a;exact Uz [.F] rfl (by rw[<-a]) trivial
 by_cases hs:Hp r q=0
 .have hd:=P7 r;refine Ux [.T,.k (jB (p:=r) (c:=c) (Fz b Fo) d e),.f (decide_eq_false (λh=>h hs)),.k (uR (p:=r) (Fz b Fo) Fo)] rfl ?_;exact rd (Hh r) Fo ⟨Fo,Fz (LX (t:=6) b Fo) Fo,by rw[<-a,BA _ h0 hs]⟩ rfl
 .exact Uz [.T,.k (jB (p:=r) (c:=c) (Fz b Fo) d e),.t (decide_eq_true hs)] rfl (by rw[<-a,BE _ h0 hs]) trivial
end Orr
namespace Orr
end Orr
namespace Orr
open Go Go.Proofs Tryz
set_option maxRecDepth 10000
structure Rs(k:Crv):Prop where
 n:WN k
 c:Cs 100000 16 k



theorem Quf(l:Fa)(n:Nat):(lm l).take (min l.length n)=lm (l.take n):=by
 rw[lm,lm,<-Yd];rcases Nat.le_total l.length n with h|h
 .rw[Z8 h,Q6,Qo h]
 .rw[Kl h]
theorem Qzk{l:Fa}{n:Nat}(hn:n<=1000):U5 193 [.one (.row (lm l)),.oi n] [.one (.row (lm (l.take n)))]:=by
 rw[<-Quf];have a:(lm l).length=l.length:=by simp[lm]
 exact U0 func193 rfl [.r 9 (eI (b:=((min l.length n:Nat):Int)) Fo),.i (min l.length n)] rfl rfl (by simp[Gi,a];omega)
def ZZ(l:List RawInt):Ff:=l.map Ih
theorem JZ(l:List RawInt):(ZZ l).length=l.length:=by simp[ZZ]
abbrev rcw(z:RawPt):Fe:=[.row (ZZ z.x),.row (ZZ z.y),.bool z.d.b,.row (lm z.d.l)]
theorem RN{z:RawInt}(hz:z.Ok){most:Int}(hm:0<=most/\most<=999):U5 123 [.agg (Ih z),.oi most] [.agg (Rr (Tv most z))]:=by
 obtain⟨b,l⟩:=z;have hb:=GL hm.1 ⟨b,l⟩;have hs:Gm (Tv most ⟨b,l⟩)<=100000000:=Qa (Pi.2 (show(Tv most ⟨b,l⟩).natAbs<2^10 by omega)) Fp;cases l with
 |nil=>exact U0 func123 rfl [.t rfl] rfl (by simp[Tv,Av]) trivial
 |
  cons u l =>
  have hu:=hz.u u (Qy ..);have a:=ZO (n:=Tv most ⟨b,u::l⟩) Fo;have ct:=Qzf hs;have hr:Int.tmod (u:Int) (most+1)=(u:Int) % (most+1):=Vj Fo;have h1:=Y3 (u:Int) (b:=most+1) Fo;have h2:=J9 (u:Int) (b:=most+1) Fo;cases b with
  |
   true =>
   rw[show Tv most ⟨true,u::l⟩=-((u:Int) % (most+1)) from rfl]at a ct ⊢;exact U0 func123 rfl [.f (decide_eq_false (by simp[lm];try omega)),.x (l:=lm (u::l)) (i:=0) (xs:=[.int .u32 (u:Int)]) rfl,.r 18 (eI hr),.t rfl,.k a,.k ct] rfl rfl Fw
  |
   false =>
   rw[show Tv most ⟨false,u::l⟩=(u:Int) % (most+1) from rfl]at a ct ⊢;exact U0 func123 rfl [.f (decide_eq_false (by simp[lm];try omega)),.x (l:=lm (u::l)) (i:=0) (xs:=[.int .u32 (u:Int)]) rfl,.r 18 (eI hr),.f rfl,.k a,.k ct] rfl rfl Fw
variable{n:Nat}{Q:Exit->Sg->Fg->Prop}{it:List It}
theorem oz2{P:Program}[Mo P]{L a:Sg}{B b:Fg}(d off T sz:Nat)(hs:So it=true)(h:Qae (P:=P) d L B [.oc d off T sz]=some (a,b,[],[]))(k:AK P n Q it a b):AK P n Q it L B:=AK.sub (zF h EqOk.nil) hs k
theorem pz{P:Program}[Mo P]{L a:Sg}{B b:Fg}(i:Nat)(hs:So it=true)(h:Qh2 [i] L B=some (a,b))(k:AK P n Q it a b):AK P n Q it L B:=AK.sub (SN h) hs k
def O4(l:U8):Ff:=l.map Rr
theorem vU(l:U8):(O4 l).length=l.length:=by simp[O4]
variable{l:List RawInt}{i:Nat}
theorem NJ{most:Int}{a:RawInt}(hi:i<3)(h:l[i]? = some a):O4 (Hx most (l.take (i+1)))=O4 (Hx most (l.take i))++[Rr (Tv most a)]:=by
 rw[fL hi h];simp[O4]
theorem fC{most:Int}(hi:i<=3)(h:i<=l.length):(O4 (Hx most (l.take i))).length=i:=by
 rw[vU];unfold Hx;rw[List.length_map,List.length_take,List.length_take];omega
def rwq(z:RawPt):Fe:=rcw z++[.int .i64 z.id]
end Orr
namespace Orr
open Go Go.Proofs Tryz Orq
set_option maxRecDepth 10000
end Orr
namespace Orr
open Go Go.Proofs Tryz
set_option maxRecDepth 10000
abbrev run1:Crv:=⟨[0,1],[],1⟩
theorem qP:WN run1:=⟨rfl,rfl,Fp,Fp⟩
theorem cs_run1:Cs 3 3 run1:=by
 refine⟨λz hz=>?_,λz hz=>(by cases hz),Fp,Fp,Fp⟩;rcases Qm.1 hz with rfl|hz
 .decide
 .rw[Qk.1 hz];decide
theorem Cs.up{s n b a:Nat}{k:Crv}(h:Cs s n k)(hs:s<=b)(hn:n<=a):Cs b a k:=⟨Fz h.x hs,Fz h.y hs,Qa h.d hs,Qa h.lx hn,Qa h.ly hn⟩
end Orr
namespace Orr
open Go Go.Proofs Tryz Orq
set_option maxRecDepth 10000
abbrev DJ:List Pt:=[⟨run1,1⟩,⟨JJ 1 0,2⟩]
theorem Q2c:(Ml (tq 0) DJ).map (·.id)=[1,2]:=by decide +kernel
theorem Qvx:Sc run1:=⟨qP,cs_run1.up Fp Fp⟩
theorem Q4x:∀p∈DJ,Sc p.c:=λp hp=>by
 rcases Qm.1 hp with rfl|hp
 .exact Qvx
 .rw[Qk.1 hp];exact dW Fp Fp


variable{c:Cr}{r1:Ff×Ff}{ws:List Wt}
theorem IQ{l l':List Pt}(hc:CrOk c)(hl:∀p∈l',Sc p.c)(hn:l'.length≤1000)(h:Po c.l c.now (Gv (xM l' c.now))=some ws):
 Ge prog 379 [.one (.ow 0 0),.agg [pts l'],.oi 0] [.blk 206 (Pg c (Ga l) r1)] [.oi 0] [.blk 206 (Pg ⟨c.now,ws,c.ev⟩ (Ga l') (lS l' c.now))]:=by
 have a:=eK hl hn;have d:=aW (T:=206) (c:=c) (r0:=Ga l') (r1:=r1) hc.n;have cb:=jN (c:=c) (r1:=r1) hl hn hc.n;have b:=Qgf (T:=206) (r0:=Ga l') (r1:=lS l' c.now) hc hc.n (XQ hc.n) (Y0 0) (a.p _ hc.n) (a.n _ hc.n) h;refine G7 func379 rfl ?_;exact U3 [] [0] [.f rfl,.c [0] d,.c [0] cb,.c [0] b] rfl
theorem Qss{lx ly:Ff}{px py:U8}{x y:LV}{d id:Int}{l:List Pt}(hx:IsInts lx px)(f:IsInts ly py)(hd:Hi x y d)(a:Cs 4294967294 1073741824 (Crv.mk px py d))(e:l.length<=900)
 (he:HY l ⟨Crv.norm (Crv.mk px py d),id⟩=0) (hc:CrOk c) (hl:∀p∈put l ⟨Crv.norm (Crv.mk px py d),id⟩,Sc p.c) (hn:(put l ⟨Crv.norm (Crv.mk px py d),id⟩).length≤1000) (h:Po c.l c.now (Gv (xM (put l ⟨Crv.norm (Crv.mk px py d),id⟩) c.now))=some ws) :
 Ge prog 377 [.one (.ow 0 0),.agg [.row lx,.row ly,x,y,.int .i64 id]] [.blk 206 (Pg c (Ga l) r1)] [.oi 0] [.blk 206 (Pg ⟨c.now,ws,c.ev⟩ (Ga (put l ⟨Crv.norm (Crv.mk px py d),id⟩)) (lS (put l ⟨Crv.norm (Crv.mk px py d),id⟩) c.now))]:=by
 have cp:=pV (l:=l) (id:=id) hx f hd a Fo;rw[if_pos he,he]at cp;have g:=IQ (l:=l) (r1:=r1) hc hl hn h;refine G7 func377 rfl ?_;obtain⟨b,l',rfl,rfl,_⟩:=hd;exact U3 [] [0] [.k cp,.c [0] g] rfl
theorem Qkl{lx ly:Ff}{px py:U8}{x y:LV}{d id:Int}{l l':List Pt}(hx:IsInts lx px)(j:IsInts ly py)(hd:Hi x y d)(g:Cs 4294967294 1073741824 (Crv.mk px py d))(i:l.length<=1000)(h:has l id=true)(hc:CrOk c)
 (e:l'=l.set (S6 l id) (Pt.mk (Crv.norm (Crv.mk px py d)) id)) (hs:∀p∈l',Sc p.c) (f:Po c.l c.now (Gv (xM l' c.now))=some ws) :
 Ge prog 378 [.one (.ow 0 0),.agg [.row lx,.row ly,x,y,.int .i64 id]] [.blk 206 (Pg c (Ga l) r1)] [.oi 0] [.blk 206 (Pg ⟨c.now,ws,c.ev⟩ (Ga l') (lS l' c.now))]:=by
 have a:=RP (l:=l) hx j hd g Fo h;rw[<-e]at a;have m:=IQ (c:=c) (l:=l) (l':=l') (r1:=r1) hc hs (by rw[e,Xd];omega) f;obtain⟨b,r,rfl,rfl,_⟩:=hd;refine G7 func378 rfl ?_;exact U3 [] [0] [.k a,.c [0] m] rfl
theorem Qkk{id:Int}{l l':List Pt}(e:l.length<=1000)(h:has l id=true)(hc:CrOk c)
 (b:l'=l.take (S6 l id)++l.drop (S6 l id+1)) (hs:∀p∈l',Sc p.c) (d:Po c.l c.now (Gv (xM l' c.now))=some ws) :
 Ge prog 376 [.one (.ow 0 0),.oi id] [.blk 206 (Pg c (Ga l) r1)] [.oi 0] [.blk 206 (Pg ⟨c.now,ws,c.ev⟩ (Ga l') (lS l' c.now))]:=by
 have a:=RH (l:=l) (id:=id) Fo h;rw[<-b]at a;have f:=IQ (c:=c) (l:=l) (l':=l') (r1:=r1) hc hs (by rw[b,Qw,Qt,Za];omega) d;refine G7 func376 rfl ?_;exact U3 [] [0] [.k a,.c [0] f] rfl
theorem Qgh{r0:Ff}:Ge prog 143 [.one (.ow 0 0)] [.blk 206 (Pg c r0 r1)] [.one (.ow 1 0)] [.blk 206 (Pg c r0 r1),.blk 206 (Pg c r0 r1)]:=by
 refine G7 func143 rfl ?_;exact U3 [] [0,1] [] rfl
end Orr
namespace Orq
open Orr Go
def p3j(W:List Pt)(x:Pt)(i j:Nat):List P3:=A5 i W++(Tx j (W.drop (i+1))).map (λm=>(x,m))
def vD(W:List Pt)(x y:Pt)(i j k:Nat):List P3:=A5 i W++(Tx j (W.drop (i+1))++(((W.drop (i+1)).drop (j+1)).take k).map (λz=>(y,z))).map (λm=>(x,m))
theorem qB(W:List Pt)(x:Pt)(i:Nat):p3j W x i 0=A5 i W:=by simp[p3j,Tx]
theorem qD(W:List Pt)(x y:Pt)(i j:Nat):vD W x y i j 0=p3j W x i j:=by simp[vD,p3j]
variable{W:List Pt}{x y:Pt}{i j k:Nat}
theorem qC{z:Pt}(h:((W.drop (i+1)).drop (j+1))[k]? = some z):vD W x y i j (k+1)=vD W x y i j k++[(x,y,z)]:=by
 unfold vD;rw[Zv,h];simp
theorem rW(b:(W.drop (i+1))[j]? = some y)(a:((W.drop (i+1)).drop (j+1)).length<=k):vD W x y i j k=p3j W x i (j+1):=by
 unfold vD p3j;rw[Qo a,Aw _ j y b]
theorem rK(hx:W[i]? = some x)(a:j=(W.drop (i+1)).length):p3j W x i j=A5 (i+1) W:=by
 unfold p3j;rw[a,UA W i x hx];rfl
theorem Qfj(h:i=W.length):A5 i W=S0 W:=by rw[h];rfl
def p4j(W:List Pt)(x:Pt)(i j:Nat):List P4:=I4 i W++(A5 j (W.drop (i+1))).map (λm=>(x,m))
def p4k(W:List Pt)(x y:Pt)(i j k:Nat):List P4:=I4 i W++(p3j (W.drop (i+1)) y j k).map (λm=>(x,m))
def p4m(W:List Pt)(x y z:Pt)(i j k m:Nat):List P4:=I4 i W++(vD (W.drop (i+1)) y z j k m).map (λm=>(x,m))
theorem Qon(W:List Pt)(x:Pt)(i:Nat):p4j W x i 0=I4 i W:=by simp[p4j,A5]
theorem Qoo(W:List Pt)(x y:Pt)(i j:Nat):p4k W x y i j 0=p4j W x i j:=by unfold p4k p4j;rw[qB]
theorem Qoq(W:List Pt)(x y z:Pt)(i j k:Nat):p4m W x y z i j k 0=p4k W x y i j k:=by unfold p4m p4k;rw[qD]
theorem Qop{z u:Pt}{m:Nat}(h:(((W.drop (i+1)).drop (j+1)).drop (k+1))[m]? = some u):p4m W x y z i j k (m+1)=p4m W x y z i j k m++[(x,y,z,u)]:=by
 unfold p4m;rw[qC h];simp
theorem Qu3{z:Pt}{m:Nat}(hz:((W.drop (i+1)).drop (j+1))[k]? = some z)(hm:(((W.drop (i+1)).drop (j+1)).drop (k+1)).length<=m):p4m W x y z i j k m=p4k W x y i j (k+1):=by
 unfold p4m p4k;rw[rW hz hm]
theorem Qu2(b:(W.drop (i+1))[j]? = some y)(a:k=((W.drop (i+1)).drop (j+1)).length):p4k W x y i j k=p4j W x i (j+1):=by
 unfold p4k p4j;rw[rK b a]
theorem Qu1(hx:W[i]? = some x)(a:j=(W.drop (i+1)).length):p4j W x i j=I4 (i+1) W:=by
 unfold p4j;rw[a,NT W i x hx];rfl
theorem Qvk(h:i=W.length):I4 i W=JQ W:=by rw[h];rfl
theorem HQ:∀(k:Nat) (l:List Pt),∃r,H6 l=Tx k l++r
 | 0,l=>⟨H6 l,rfl⟩
 |k+1,[]=>⟨[],rfl⟩
 |
  k+1,x::l=>by
  obtain⟨r,h⟩:=HQ k l;exact⟨r,by show l.map _++Tx l.length l=l.map _++Tx k l++r;rw[show Tx l.length l=H6 l from rfl,h,Zh]⟩
theorem xZ:∀(k:Nat) (l:List Pt),∃r,S0 l=A5 k l++r
 | 0,l=>⟨S0 l,rfl⟩
 |k+1,[]=>⟨[],rfl⟩
 |
  k+1,x::l=>by
  obtain⟨r,h⟩:=xZ k l;exact⟨r,by show(H6 l).map _++A5 l.length l=(H6 l).map _++A5 k l++r;rw[show A5 l.length l=S0 l from rfl,h,Zh]⟩
theorem cB:∀(k:Nat) (l:List Pt),∃r,JQ l=I4 k l++r
 | 0,l=>⟨JQ l,rfl⟩
 |k+1,[]=>⟨[],rfl⟩
 |
  k+1,x::l=>by
  obtain⟨r,h⟩:=cB k l;exact⟨r,by show(S0 l).map _++I4 l.length l=(S0 l).map _++I4 k l++r;rw[show I4 l.length l=JQ l from rfl,h,Zh]⟩
theorem Qek(e:W.length<=6)(hx:W[i]? = some x)(d:(W.drop (i+1))[j]? = some y):(vD W x y i j k).length<=20:=by
 have h0:=(UD e).1;obtain⟨r,hr⟩:=xZ (i+1) W;rw[UA W i x hx]at hr;obtain⟨r2,a⟩:=HQ (j+1) (W.drop (i+1));rw[Aw _ j y d]at a;have b:=congrArg List.length hr;have c:=congrArg List.length a;have f:(((W.drop (i+1)).drop (j+1)).take k).length<=((W.drop (i+1)).drop (j+1)).length:=by rw[Qt];exact Un _ _
 unfold vD;simp only[Qw,Ze]at b c ⊢;omega
theorem Qu4(f:W.length<=6){z:Pt}{m:Nat}(hx:W[i]? = some x)(e:(W.drop (i+1))[j]? = some y)(hz:((W.drop (i+1)).drop (j+1))[k]? = some z):(p4m W x y z i j k m).length<=15:=by
 have h0:=(UD f).2;obtain⟨r,hr⟩:=cB (i+1) W;rw[NT W i x hx]at hr;obtain⟨r1,a⟩:=xZ (j+1) (W.drop (i+1));rw[UA _ j y e]at a;obtain⟨r2,b⟩:=HQ (k+1) ((W.drop (i+1)).drop (j+1));rw[Aw _ k z hz]at b;have d:=congrArg List.length hr;have c:=congrArg List.length a;have g:=congrArg List.length b;have h:((((W.drop (i+1)).drop (j+1)).drop (k+1)).take m).length<=(((W.drop (i+1)).drop (j+1)).drop (k+1)).length:=by rw[Qt];exact Un _ _
 unfold p4m vD;simp only[Qw,Ze]at d c g ⊢;omega
theorem Qhk{sg:U8->Int}(hg:∀p,-1<=Rp sg p/\Rp sg p<=1)(ps:List P3):sG (QK (VX sg ps)):=by
 have a:∀(ps:List P3) (M:Dt),sG M->sG ((VX sg ps).foldl (λM e=>Ig M e.1 (.int .i64 e.2)) M):=by
  intro ps
  induction ps with
  |nil=>intro M h;exact h
  |cons m ps b=>intro M h;exact b _ (Qnj h (hg _))
 exact a ps [] Qni
theorem eN(sg:U8->Int)(T:Dt)(ps:List P4):FU (XU T (FK sg ps)):=by
 have a:∀(ps:List P4) (F:Dt),FU F->FU ((FK sg ps).foldl (λF e=>yR T e.2 e.1 F) F):=by
  intro ps
  induction ps with
  |nil=>intro M h;exact h
  |cons m ps b=>intro M h;exact b _ (eM h)
 exact a ps [] Qfx
theorem kW(p:U8)(q:Rat):-1<=Hp p q/\Hp p q<=1:=by
 rw[M7];unfold Gu
 split
 .exact⟨Fp,Fp⟩
 .split <;> exact⟨Fp,Fp⟩
theorem Qp3{p:U8}{a:Tm}{s:Int}(h:FD p a=some s):-1<=s/\s<=1:=by
 unfold FD at h
 split at h
 .injection h with h;subst h;exact⟨Fp,Fp⟩
 .split at h
  .injection h with h;subst h;exact kW _ _
  .obtain⟨g,_,h⟩:=Qd.1 h
   split at h
   .injection h with h;subst h;exact⟨Fp,Fp⟩
   .obtain⟨c,_,h⟩:=Qd.1 h;obtain⟨x,_,h⟩:=Qd.1 h;injection h with h;subst h;exact kW _ _
theorem Qm1(a:Tm)(p:U8):-1<=Rp (G6 a) p/\Rp (G6 a) p<=1:=by
 have hs:∀p,-1<=G6 a p/\G6 a p<=1:=λp=>by
  unfold G6;cases h:FD p a with
  |none=>exact⟨Fp,Fp⟩
  |some s=>exact Qp3 h
 have b:∀(k:Nat) (p:U8),-1<=Px (G6 a) k p/\Px (G6 a) k p<=1:=by
  intro k
  induction k with
  |zero=>intro p;exact⟨by simp[Px],by simp[Px]⟩
  |
   succ k ih =>
   intro p;simp only[Px]
   split
   .exact⟨Fp,Fp⟩
   .split
    .exact ih _
    .exact hs p
 exact b _ p
end Orq
namespace Orr
open Go Go.Proofs Tryz Orq
set_option maxRecDepth 10000
variable{t:Tm}
theorem Qb5{a b c:Pt}(ha:Sc a.c)(hb:Sc b.c)(hc:Sc c.c)(ht:Va t):U5 182 [.oi 3,.agg (ta t),.one (.row [Gq a,Gq b,Gq c])] [.agg (Ey (Ar (G6 t) a b c)),.oi 0]:=by
 have hp:=(WO ha hb hc).dp;have e:Ey (Ar (G6 t) a b c)=[.int .i64 3,.int .i64 a.id,.int .i64 b.id,.int .i64 c.id,.int .i64 0,pl (Ry a.c b.c c.c),.int .i64 (Rp (G6 t) (Ry a.c b.c c.c))]:=by rw[Ar]
 rw[e];have g:=BH hp ht;have d:=pJ ha hb hc;generalize Ry a.c b.c c.c=F at *;refine G7 func182 rfl ?_;refine Ux [.k Qgn,.f rfl] rfl ?_;refine U4 (S:=Nat) 3 (λL1 i=>(22,.v (.oi i))::L1) (λi=>[.blk 72 (ta t),.blk 66 zCt,.blk 66 [.int .i64 3,.int .i64 (if 1<=i then a.id else 0),.int .i64 (if 2<=i then b.id else 0),.int .i64 (if 3<=i then c.id else 0),.int .i64 0,.nils,.int .i64 0]]) (λi=>3-i) (λi=>i<=3) 0 (Qj _) rfl rfl λi hi=>?_
 rcases(show i=0\/i=1\/i=2\/i=3 by omega)with rfl|rfl|rfl|rfl
 .refine Ux [.t rfl,.x (i:=0) (xs:=Gq a) rfl,.i 0] rfl ?_ Fy;exact rd 1 Fo Fo rfl
 .refine Ux [.t rfl,.x (i:=1) (xs:=Gq b) rfl,.i 1] rfl ?_ Fy;exact rd 2 Fo Fo rfl
 .refine Ux [.t rfl,.x (i:=2) (xs:=Gq c) rfl,.i 2] rfl ?_ Fy;exact rd 3 Fo Fo rfl
 .exact Uz [.f rfl,.f rfl,.f rfl,.t rfl,.x (i:=0) (xs:=Gq a) rfl,.x (i:=1) (xs:=Gq b) rfl,.x (i:=2) (xs:=Gq c) rfl,.k d,.k g] rfl
theorem QS{α:Type}(s:α->α->α->Bool):∀(l a:List α) (c:α),Nz s a (l++[c])=c::Ay s c (Nz s a l)
 | [],_,_=>rfl
 |_::l,_,c=>QS s l _ c
variable{R:List Pt}
theorem Qce(T:∀p∈R,Sc p.c)(hn:R.length≤1000000)(ht:Va t):U5 229 [.agg (ta t),.one (pts R)] [.one (pts (Nc (G6 t) R))]:=by
 have J:=Rl R;show U5 229 [.agg (ta t),.one (.row (Ga R))] [.one (.row (Ga (Nz (TC (G6 t)) [] R).reverse))];obtain⟨s,hs⟩:=nmE (TC (G6 t));have P:∀a b c,s a b c=decide (0<Rp (G6 t) (Ry a.c b.c c.c)):=λa b c=>by rw[hs];rfl
 rw[<-hs];refine G7 func229 rfl ?_;refine Ux [.o 5 39 5] rfl ?_;refine U4 (S:=Nat) 2 (λL1 i=>(10,.v (.oi i))::(5,.v (.one (.orow 1 5 none)))::L1) (λi=>[.blk 72 (ta t),.row false 39 5 (Ga (Nz s [] (R.take i)).reverse)]) (λi=>R.length-i) (λi=>i<=R.length) 0 (Qj _) rfl rfl λi hi=>?_
 by_cases m:i<R.length
 .obtain⟨c,hc⟩:=gxE (l:=R) (i:=i) m;have G:=T c (Qc hc);have H:Nz s [] (R.take (i+1))=c::Ay s c (Nz s [] (R.take i)):=by rw[Zv,hc];exact QS s _ _ c
  obtain⟨O,N⟩:=nmE (Nz s [] (R.take i));have V:O.length<=1000000:=by
   have:=GW s (R.take i) [];rw[<-N,Qt]at this;simp at this;omega
  have D:∀x∈O,Sc x.c:=λx hx=>by
   rw[N]at hx;rcases GU hx with h|h
   .cases h
   .exact T x (Qn h)
  rw[<-N]at H ⊢;have n:(Ga O.reverse).length=O.length:=by rw[Rl,X4]
  have hm:∀y∈[Gq c],y.length=5:=λy U=>by rw[Qk.1 U];rfl
  have q:∀{pre r:List Pt} {x:Pt},O=pre++x::r->∀j,j=r.length->(Ga O.reverse)[j]? = some (Gq x):=λ{pre r x} e j hj=>by
   refine Ms ?_;rw[e,hj];simp
  have E:∀{pre st:List Pt},O=pre++st->Ga (c::st).reverse=(Ga O.reverse).take st.length++[Gq c]:=λ{pre st} e=>by
   rw[e];simp[Ga,Yd,List.take_append]
  have A:Ga (c::O).reverse=Ga O.reverse++[Gq c]:=by simp[Ga]
  refine Ux [.t (by simp[J];omega),.x (Ms hc)] rfl ?_;refine U4 (S:=Bool×List Pt) 3 (λL1 s=>(5,.v (.one (.orow 1 5 (cond s.1 (some (0,s.2.length)) none))))::L1) (λ_=>[.blk 72 (ta t),.row false 39 5 (Ga O.reverse),.blk 39 (Gq c)]) (λs=>s.2.length) (λst=>(∃pre,O=pre++st.2/\(st.1=false->pre=[]))/\Ay s c st.2=Ay s c O) (false,O) ⟨⟨[],rfl,λ_=>rfl⟩,rfl⟩ rfl rfl λ⟨b,st⟩ ⟨⟨pre,h1,h2⟩,h3⟩=>?_
  have h1:O=pre++st:=h1;have h3:Ay s c st=Ay s c O:=h3;have d:O.length=pre.length+st.length:=by rw[h1,Qw]
  have fin:∀{st:List Pt},O=pre++st->Ay s c st=Ay s c O->Ay s c st=st->Ga (Nz s [] (R.take (i+1))).reverse=(Ga O.reverse).take st.length++[Gq c]/\(pre=[]->Ga (Nz s [] (R.take (i+1))).reverse=Ga O.reverse++[Gq c]):=λ{st} e1 e2 e3=>by
   rw[H,<-e2,e3];refine⟨E e1,λhp=>?_⟩;rw[hp]at e1;rw[<-A,e1];rfl
  rcases st with _|⟨z,_|⟨y,r⟩⟩
  .obtain⟨f1,f2⟩:=fin h1 h3 rfl;cases b with
   |
    false =>
    have hp:=h2 rfl;have f2:=f2 hp;rw[hp]at d;have w:(Ga O.reverse).length<=1:=by rw[n,d];simp
    refine Uy [.g 17 false U6,.f rfl,.s (sz:=5) hm] rfl ?_;exact rd (i+1) Fo m (by rw[f2];rfl)
   |
    true =>
    refine Uy [.g 17 false (decide_eq_false Ft),.f rfl,.s (sz:=5) hm] rfl ?_;exact rd (i+1) Fo m (by rw[f1];rfl)
  .obtain⟨f1,f2⟩:=fin h1 h3 rfl;cases b with
   |
    false =>
    have hp:=h2 rfl;have f2:=f2 hp;rw[hp]at d;have w:(Ga O.reverse).length<=1:=by rw[n,d];simp
    refine Uy [.g 17 false U6,.f rfl,.s (sz:=5) hm] rfl ?_;exact rd (i+1) Fo m (by rw[f2];rfl)
   |
    true =>
    refine Uy [.g 17 false (decide_eq_false Ft),.f rfl,.s (sz:=5) hm] rfl ?_;exact rd (i+1) Fo m (by rw[f1];rfl)
  .have sz:=D z (by rw[h1];simp);have Q:=D y (by rw[h1];simp);have L:=pJ Q sz G;have M:=BH (WO Q sz G).dp ht;have gz:=q h1 (r.length+1) rfl;have K:=q (pre:=pre++[z]) (r:=r) (x:=y) (by rw[h1];simp) r.length rfl;have d:O.length=pre.length+(r.length+2):=d;have I:=P y z c;by_cases B:s y z c=true
   .have hg:¬Rp (G6 t) (Ry y.c z.c c.c)<=0:=by rw[I]at B;have:=of_decide_eq_true B;omega
    obtain⟨f1,f2⟩:=fin h1 h3 (by simp only[Ay];rw[if_pos B]);cases b with
    |
     false =>
     have hp:=h2 rfl;have f2:=f2 hp;rw[hp]at d;have w:(Ga O.reverse).length=r.length+2:=by rw[n,d];simp
     refine Uy [.g 17 true U7,.r 21 (eI (b:=(r.length:Int)) Fo),.i r.length,.x K,.r 28 (eI (b:=((r.length+1:Nat):Int)) Fo),.i (r.length+1),.x gz,.k L,.k M,.f (decide_eq_false hg),.s (sz:=5) hm] rfl ?_;exact rd (i+1) Fo m (by rw[f2];rfl)
    |
     true =>
     refine Uy [.g 17 true (decide_eq_true Fq),.r 21 (eI (b:=(r.length:Int)) Fq),.i r.length,.x (l:=Ga O.reverse) (i:=0+r.length) (xs:=Gq y) (by rw[Zw];exact K),.r 28 (eI (b:=((r.length+1:Nat):Int)) Ft),.i (r.length+1),.x (l:=Ga O.reverse) (i:=0+(r.length+1)) (xs:=Gq z) (by rw[Zw];exact gz),.k L,.k M,.f (decide_eq_false hg),.s (sz:=5) hm] rfl ?_;exact rd (i+1) Fo m (by rw[f1];rfl)
   .have hg:Rp (G6 t) (Ry y.c z.c c.c)<=0:=by
     rw[I]at B;have:=of_decide_eq_false (Ud.2 B);omega
    have F:Ay s c (y::r)=Ay s c O:=by rw[<-h3];simp only[Ay];rw[if_neg B]
    have C:(∃u,O=u++(y::r)/\((true:Bool)=false->u=[]))/\Ay s c (y::r)=Ay s c O:=⟨⟨pre++[z],by rw[h1];simp,λh=>by cases h⟩,F⟩;cases b with
    |
     false =>
     have hp:=h2 rfl;rw[hp]at d;have w:(Ga O.reverse).length=r.length+2:=by rw[n,d];simp
     refine Uy [.g 17 true U7,.r 21 (eI (b:=(r.length:Int)) Fo),.i r.length,.x K,.r 28 (eI (b:=((r.length+1:Nat):Int)) Fo),.i (r.length+1),.x gz,.k L,.k M,.t (decide_eq_true hg),.r 42 (eI (b:=((r.length+1:Nat):Int)) Fo),.i (r.length+1)] rfl ?_;exact rd (true,y::r) Ft C rfl
    |
     true =>
     refine Uy [.g 17 true (decide_eq_true Fq),.r 21 (eI (b:=(r.length:Int)) Fq),.i r.length,.x (l:=Ga O.reverse) (i:=0+r.length) (xs:=Gq y) (by rw[Zw];exact K),.r 28 (eI (b:=((r.length+1:Nat):Int)) Ft),.i (r.length+1),.x (l:=Ga O.reverse) (i:=0+(r.length+1)) (xs:=Gq z) (by rw[Zw];exact gz),.k L,.k M,.t (decide_eq_true hg),.r 42 (eI (b:=((r.length+1:Nat):Int)) Ft),.i (r.length+1)] rfl ?_;exact rd (true,y::r) Ft C rfl
 .obtain rfl:i=R.length:=Fo;rw[Q6];exact Uz [.f (by simp[J])] rfl
theorem aM{sg:U8->Int}(h:R≠[]):0<(Nc sg R).length:=by
 unfold Nc;rw[X4];obtain⟨x,hx⟩:∃x,R.getLast? = some x:=⟨_,Ve h⟩;obtain⟨l,hl⟩:=Vm.1 hx;rw[hl,QS];simp
theorem bO{α:Type}(s:α->α->α->Bool)(c:α):∀{st:List α},st≠[]->0<(Ay s c st).length
 | [],h=>absurd rfl h
 | [_],_=>by simp[Ay]
 |
  b::a::r,_=>by
  simp only[Ay]
  split
  .simp
  .exact bO s c Ft
theorem IP{sg:U8->Int}(h:2<=R.length):2<=(Nc sg R).length:=by
 unfold Nc;rw[X4];obtain⟨x,hx⟩:∃x,R.getLast? = some x:=⟨_,Ve (by intro e;rw[e]at h;simp at h)⟩;obtain⟨l,hl⟩:=Vm.1 hx;have a:l≠[]:=by intro e;rw[hl,e]at h;simp at h
 have:=aM (sg:=sg) a;unfold Nc at this;rw[X4]at this;have:=bO (TC sg) x (st:=Nz (TC sg) [] l) (by intro e;rw[e]at this;simp at this);rw[hl,QS,Q5];omega
theorem Qcn(B:∀p∈R,Sc p.c)(hn:R.length≤1000000)(ht:Va t):U5 183 [.agg (ta t),.one (pts R)] [.one (pts (Ii (G6 t) R))]:=by
 have h:=Rl R;have m:=Rl R.reverse;rw[X4]at m;show U5 183 [.agg (ta t),.one (.row (Ga R))] [.one (.row (Ga (Ii (G6 t) R)))];refine G7 func183 rfl ?_;by_cases h3:R.length<3
 .have e:Ii (G6 t) R=R:=if_pos h3;rw[e];exact Uz [.T] rfl
 have u:=Qce B hn ht;have w:=Qce (R:=R.reverse) (λp hp=>B p (J3.1 hp)) (by rw[X4];exact hn) ht;have p1:=IP (sg:=G6 t) (R:=R) Fo;have p2:=IP (sg:=G6 t) (R:=R.reverse) (by rw[X4];omega);have D:=JC (G6 t) R;have z:=JC (G6 t) R.reverse;rw[X4]at z;refine go tt [.F,.o 5 39 5,.r 15 (eI (b:=(R.length:Int)-1-((0:Nat):Int)) Fo)] rfl (by simp[Gi,h];omega) ?_;refine U4 (S:=Nat) 2 (λL1 j=>(6,.v (.oi ((R.length:Int)-1-(j:Int))))::(5,.v (.one (.orow 1 5 none)))::L1) (λj=>[.blk 72 (ta t),.row false 39 5 (Ga (R.reverse.take j))]) (λj=>R.length-j) (λj=>j<=R.length) 0 (Qj _) rfl rfl λj E=>?_
 by_cases d:j<R.length
 .obtain⟨x,hx⟩:=gxE (l:=R) (i:=R.length-1-j) Fo;have f:R.reverse[j]? = some x:=by rw[List.getElem?_reverse Fo];exact hx
  have hm:∀y∈[Gq x],y.length=5:=λy a=>by rw[Qk.1 a];rfl
  have e:Ga (R.reverse.take (j+1))=Ga (R.reverse.take j)++[Gq x]:=by rw[Zv,f];simp[Ga]
  have g:(Ga (R.reverse.take j)).length=j:=by rw[Rl,Qt,X4];omega
  refine go tt [.T,.r 22 (eI (b:=((R.length-1-j:Nat):Int)) Fo),.x (Ms hx),.s (sz:=5) hm,.r 19 (eI (b:=(R.length:Int)-1-((j+1:Nat):Int)) Fo)] rfl (by simp[Gi,g];omega) ?_;exact rd (j+1) Fo d (by rw[e];rfl)
 .obtain rfl:j=R.length:=Fo;rw[Qo (by rw[X4];exact Ql _)];obtain⟨A,hA⟩:=nmE (Nc (G6 t) R);obtain⟨C,q⟩:=nmE (Nc (G6 t) R.reverse);have e:Ii (G6 t) R=A.dropLast++C.dropLast:=by rw[hA,q];exact if_neg h3
  rw[<-hA]at u p1 D;rw[<-q]at w p2 z;rw[e];have hs:∀y∈(C.map Gq).take (C.length-1),y.length=5:=λy a=>UB C y (Qn a)
  have n:∀y∈(A.map Gq).take (A.length-1),y.length=5:=λy a=>UB A y (Qn a)
  refine Uz [.F,.p 1,.k u,.k w,.r 36 (eI (b:=((A.length-1:Nat):Int)) Fq),.r 39 (eI (b:=((A.length-1:Nat):Int)) Fq),.i (A.length-1),.r 44 (eI (b:=((C.length-1:Nat):Int)) Fq),.i (C.length-1),.s (sz:=5) hs] rfl (by simp[Ga,Yd,List.dropLast_eq_take]) ?_;simp only[Gi,Qt,Ze]
  and_intros <;> first|exact n|omega
variable{l:List Pt}
theorem BG{t:Tm}(hl:∀p∈l,Sc p.c)(hn:l.length≤1000000)(ht:Va t):Ge prog 180 [.agg (ta t),.one (pts l)] [] [.one (.orow 0 7 none)] [.row false 66 7 (Gk (Mm (G6 t) l))]:=by
 have d:=Rl l;show Ge prog 180 [.agg (ta t),.one (.row (Ga l))] [] [.one (.orow 0 7 none)] [.row false 66 7 (Gk (Mm (G6 t) l))];refine G7 func180 rfl ?_;refine Ux [.o 5 66 7] rfl ?_;refine U4 (S:=Nat) 2 (λL1 i=>(6,.v (.oi ((i+1:Nat):Int)))::(5,.v (.one (.orow 1 7 none)))::L1) (λi=>[.blk 72 (ta t),.row false 66 7 (Gk ((Mm (G6 t) l).take i))]) (λi=>l.length-i) (λi=>i<=l.length-1) 0 (Qj _) rfl rfl λi hi=>?_
 by_cases g:i+1<l.length
 .obtain⟨a,ha⟩:=gxE (l:=l) (i:=i) Fo;obtain⟨b,hb⟩:=gxE (l:=l) (i:=i+1) g;have hg:=NN (G6 t) ha hb;have hm:∀y∈[Ey (YK (G6 t) a b)],y.length=7:=λy h=>by rw[Qk.1 h];rfl
  refine go tt [.t (by simp[d];omega),.r 19 (eI (b:=(i:Int)) Ft),.x (Ms ha),.x (Ms hb),.k (Qb4 (hl a (Qc ha)) (hl b (Qc hb)) ht),.s (sz:=7) hm,.r 14 (eI (b:=((i+1+1:Nat):Int)) Ft)] rfl (by simp[Gi,Rl,Nf,Lc];omega) ?_;exact rd (i+1) Fo Fo (by rw[hg];simp[Gk];rfl)
 .have e:(Mm (G6 t) l).take i=Mm (G6 t) l:=Qo (by rw[Lc];omega);rw[e];exact U3 [] [1] [.f (by simp[d];omega)] rfl
variable{i:Nat}
theorem mP{C:List Pt}{a b:Pt}(ha:C[i]? = some a)(hb:C[(i+1) % C.length]? = some b):(Sv C)[i]? = some (a,b):=by
 have hi:=(Qh.1 ha).1;unfold Sv;rw[List.getElem?_zip_eq_some];refine⟨ha,?_⟩;by_cases h:i+1<C.length
 .rw[X7 h]at hb;rw[Zc (by rw[Za];omega),Xp,Yb];exact hb
 .have e:i+1=C.length:=Fo;rw[e,Nat.mod_self]at hb;rw[Zy (by rw[Za];omega),Za,show i-(C.length-1)=0 by omega,Vp Fo];exact hb
theorem mM(C:List Pt):(Sv C).length=C.length:=by
 unfold Sv;rw[List.length_zip,Qw,Za,Qt];omega
theorem zO{α β:Type}{f:α->List β}{l:List α}{x:α}(h:l[i]? = some x):(l.take (i+1)).flatMap f=(l.take i).flatMap f++f x:=by
 rw[Zv,h];simp
theorem BZ{α β:Type}{f:α->β}{p:α->Bool}{l:List α}{x:α}(h:l[i]? = some x):((l.take (i+1)).filter p).map f=((l.take i).filter p).map f++if p x=true then [f x]else []:=by
 rw[Zv,h,Vx,Jx];congr 1;simp only[Option.toList];by_cases hp:p x=true
 .rw[if_pos hp,Jk hp];rfl
 .rw[if_neg hp,Yi hp];rfl
theorem mE{α β:Type}{f:α->List β}{n:Nat}(a:∀x,(f x).length<=n)(l:List α):(l.flatMap f).length<=l.length*n:=GR f n l λx _=>a x
theorem Qfp(hl:∀p∈l,Sc p.c):∀p∈l,Q2r 4294967294 1073741824 p:=λp hp=>⟨(hl p hp).n,(hl p hp).c.mono Fp Fp⟩
set_option maxHeartbeats 4000000 in
theorem jS{a:Tm}{c:Cr}{r1:Ff}(hl:∀p∈l,Sc p.c)(hn:l.length≤10)(ha:Va a):Ge prog 116 [.one (.ow 0 0),.agg (ta a)] [.blk 208 (Te c (Ga l) r1)] [.one (.row (Gk (EI l a)))] [.blk 208 (Te c (Ga l) (brH l a))]:=by
 have P:=JK l;have W:=aF (l:=l) (Qfp hl) Fo;have T:=pW (l:=Pq l) (λp hp=>hl p (Dh hp)) Fo ha;have A:=Qcn (R:=Ml a (Pq l)) (λp hp=>hl p (Dh (Tk.1 hp))) (by rw[L9];omega) ha;have H:=pW hl Fo ha;have B:=BG (l:=Ml a l) (t:=a) (λp hp=>hl p (Tk.1 hp)) (by rw[L9];omega) ha;have n:∀p∈Nm l a,p∈l:=λp hp=>XZ hp
 have I:=MW l a;have e0:EI l a=VY l a++Dx (G6 a) l (Nm l a):=rfl;rw[e0];show Ge prog 116 _ _ _ [.blk 208 (Te c (Ga l) (Ga (Nm l a)))];have A:U5 183 [.agg (ta a),.one (pts (Ml a (Pq l)))] [.one (pts (Nm l a))]:=A;have B:Ge prog 180 [.agg (ta a),.one (pts (Ml a l))] [] [.one (.orow 0 7 none)] [.row false 66 7 (Gk (VY l a))]:=B;have hbl:(VY l a).length<=10:=by unfold VY;rw[Lc,L9];omega
 obtain⟨C,Y⟩:=nmE (Nm l a);obtain⟨h,J⟩:=nmE (VY l a);rw[<-Y]at A n I ⊢;rw[<-J]at B hbl ⊢;have Z:=Rl C;have Q:=Rl l;have K:∀x,(Ou (G6 a) l x).length<=l.length:=λx=>by unfold Ou;rw[List.length_map];exact List.length_filter_le _ _
 refine G7 func116 rfl ?_;refine Ux [.k W,.k T,.k A,.k ZJ,.k H,.c [2] B] rfl ?_;by_cases h2:C.length<2
 .have e:Dx (G6 a) l C=[]:=if_pos h2;rw[e,Zx];exact U3 [2] [0] [.t (decide_eq_true Fq)] rfl
 have e:Dx (G6 a) l C=(Sv C).flatMap (Ou (G6 a) l):=if_neg h2;rw[e];refine Ux [.f (decide_eq_false Fq)] rfl ?_;refine sb [(48,.v (.oi 0)),(47,.v (.oi ((C.map Gq).length:Int))),(46,.v (.one (pts C))),(6,.v (.one (.orow 2 7 none))),(3,.v (.one (.ow 1 0))),(0,.v (.one (.ow 0 0)))] [.blk 208 (Te c (Ga l) (Ga C)),.blk 72 (ta a),.row false 66 7 (Gk h)] rfl rfl ?_;rw[show Gk h=Gk (h++((Sv C).take 0).flatMap (Ou (G6 a) l)) by simp];refine U4 (S:=Nat) 3 (λL1 i=>(48,.v (.oi i))::(6,.v (.one (.orow 2 7 none)))::L1) (λi=>[.blk 208 (Te c (Ga l) (Ga C)),.blk 72 (ta a),.row false 66 7 (Gk (h++((Sv C).take i).flatMap (Ou (G6 a) l)))]) (λi=>C.length-i) (λi=>i<=C.length) 0 (Qj _) rfl rfl λi hi=>?_
 by_cases u:i<C.length
 .obtain⟨x,hx⟩:=gxE (l:=C) (i:=i) u;obtain⟨y,E⟩:=gxE (l:=C) (i:=(i+1) % C.length) (Xf _ Fo);have he:=mP hx E;have U:=hl x (n x (Qc hx));have M:=hl y (n y (Qc E));have m:=zO (f:=Ou (G6 a) l) he;obtain⟨F,D⟩:=nmE (h++((Sv C).take i).flatMap (Ou (G6 a) l));have hFl:F.length<=10+20*10:=by
   have h1:=mE K ((Sv C).take i);have h2:((Sv C).take i).length*l.length<=20*10:=Zf (by rw[Qt];omega) hn;rw[D,Qw];omega
  have w:(((i+1:Nat):Int)).tmod ((C.map Gq).length:Int)=(((i+1) % C.length:Nat):Int):=by rw[Ze];exact(Int.ofNat_tmod _ _).symm
  have hm0:=Y3 ((i+1:Nat):Int) (show(C.length:Int)≠0 by omega);have V:=J9 ((i+1:Nat):Int) (show(0:Int)<C.length by omega);have o:h++((Sv C).take (i+1)).flatMap (Ou (G6 a) l)=F++(l.filter (FV (x,y))).map λc=>Ar (G6 a) x y c:=by rw[m,<-Zh,<-D];rfl
  rw[<-D];refine go tt [.t (decide_eq_true Fq),.x (Ms hx),.r 58 (eI (b:=((i+1:Nat):Int)) Ft),.r 64 (eI (b:=(((i+1) % C.length:Nat):Int)) w),.x (Ms E),.k ZJ] rfl (by simp only[Gi];omega) ?_;rw[show Gk F=Gk (F++((l.take 0).filter (FV (x,y))).map λc=>Ar (G6 a) x y c) by simp];refine U4 (S:=Nat) 5 (λL1 k=>(73,.v (.oi k))::(6,.v (.one (.orow 2 7 none)))::L1) (λk=>[.blk 208 (Te c (Ga l) (Ga C)),.blk 72 (ta a),.row false 66 7 (Gk (F++((l.take k).filter (FV (x,y))).map λc=>Ar (G6 a) x y c)),.blk 39 (Gq x),.blk 39 (Gq y)]) (λk=>l.length-k) (λk=>k<=l.length) 0 (Qj _) rfl rfl λk hk=>?_
  by_cases j:k<l.length
  .obtain⟨z,hz⟩:=gxE (l:=l) (i:=k) j;have sz:=hl z (Qc hz);have d:=BZ (f:=λc=>Ar (G6 a) x y c) (p:=FV (x,y)) hz;obtain⟨G,L⟩:=nmE (((l.take k).filter (FV (x,y))).map λc=>Ar (G6 a) x y c);have O:G.length<=10:=by
    have h1:=Vh (FV (x,y)) (l.take k);rw[Qt]at h1;rw[L,Ze];omega
   rw[<-L]at d ⊢;by_cases h1:z.id=x.id
   .rw[if_neg (show ¬FV (x,y) z=true by simp[FV,h1]),Zx]at d;refine Uy [.t (decide_eq_true Fq),.x (Ms hz),.g 82 false (decide_eq_false (by simp[h1])),.f rfl] rfl ?_;exact rd (k+1) Fo j (by rw[d];rfl)
   .by_cases h2:z.id=y.id
    .rw[if_neg (show ¬FV (x,y) z=true by simp[FV,h2]),Zx]at d;refine Uy [.t (decide_eq_true Fq),.x (Ms hz),.g 82 true (decide_eq_true h1),.f (decide_eq_false (by simp[h2]))] rfl ?_;exact rd (k+1) Fo j (by rw[d];rfl)
    .rw[if_pos (show FV (x,y) z=true by simp[FV,h1,h2])]at d;have hm:∀q∈[Ey (Ar (G6 a) x y z)],q.length=7:=λq X=>by rw[Qk.1 X];rfl
     refine go tt [.t (decide_eq_true Fq),.x (Ms hz),.g 82 true (decide_eq_true h1),.t (decide_eq_true h2),.k (Qb5 U M sz ha),.s (sz:=7) hm] rfl (by simp[Gi,Nf];omega) ?_;have N:Gk (F++(G++[Ar (G6 a) x y z]))=Gk (F++G)++[Ey (Ar (G6 a) x y z)]:=by simp[Gk]
     exact rd (k+1) Fo j (by rw[d,N];rfl)
  .obtain rfl:k=l.length:=Fo;rw[Q6,<-o];refine Uy [.f (decide_eq_false Ft)] rfl ?_;exact rd (i+1) Fo u rfl
 .obtain rfl:i=C.length:=Fo;rw[Qo (by rw[mM];exact Ql _)];exact U3 [2] [0] [.f (decide_eq_false Ft)] rfl
theorem ozM{P:Program}[Mo P]{n:Nat}{Q:Exit->Sg->Fg->Prop}{L a:Sg}{B b:Fg}(d off T sz:Nat){it:List It}(hs:So it=true)(h:Qae (P:=P) d L B [.oc d off T sz]=some (a,b,[],[]))(k:AK P n Q it a b):AK P n Q it L B:=AK.sub (zF h EqOk.nil) hs k
theorem uW{k:Crv}(a:Sc k):U5 269 [.agg (cl k)] [.one (.row (WY (YC k)))]:=by
 have ok:=SV a.n a.c;have l1:=P8 k.x k.x;have l2:=P8 k.y k.y;have:=a.c.lx;have:=a.c.ly;have b:Bd 258 (Hb k.x k.x):=Mv (u:=2) a.c.x a.c.x Fo;have by_:Bd 258 (Hb k.y k.y):=Mv (u:=2) a.c.y a.c.y Fo;have f:=Nl (p:=k.x) (c:=k.d) Fo (Fz a.c.x Fp) (Qa a.c.d Fp);have l:=Nl (p:=k.y) (c:=k.d) Fo (Fz a.c.y Fp) (Qa a.c.d Fp);have i:=GY (p:=k.x) (q:=k.x) a.n.1 a.n.1 Fo Fo a.c.x a.c.x Fp;have m:=GY (p:=k.y) (q:=k.y) a.n.2.1 a.n.2.1 Fo Fo a.c.y a.c.y Fp;have g:=AL (p:=Hb k.x k.x) (q:=Hb k.y k.y) Fo Fo (Fz b Fp) (Fz by_ Fp);have h:=Nx (Gb k.d) (Gb k.d) (Qa a.c.d Fp) (Qa a.c.d Fp);have hl:∀p∈YC k,p.length≤1000000:=λp hp=>by
  obtain⟨j,e⟩:=Xz hp;have h1:=ok.2 j p e;have:[2,2,4,0].getD j 0<=4:=by
   match j with
   | 0=>decide
   | 1=>decide
   | 2=>decide
   | 3=>decide
   |j+4=>simp
  omega
 have cd:=Qji (r:=YC k) (λp hp=>(ok.1 p hp).1) (λp hp=>Fz (ok.1 p hp).2 Fp) hl (by show 4<=1000;decide);exact U0 func269 rfl [.k (Ac a.n (a.c.mono Fp Fp)),.k f,.k l,.k i,.k m,.k g,.k h,.k cd] rfl
theorem Qjs{a b c d:Crv}(ha:Sc a)(hb:Sc b)(hc:Sc c)(hd:Sc d):U5 228 [.agg (cl a),.agg (cl b),.agg (cl c),.agg (cl d)] [pr (FN a b c d)]:=by
 have cd:=Qw5 Fp (k:=4) (ds:=[2,2,4,0]) Fp rfl Fp (dS ha.n hb.n hc.n hd.n ha.c hb.c hc.c hd.c);exact U0 func228 rfl [.k (uW ha),.k (uW hb),.k (uW hc),.k (uW hd),.k cd] rfl
set_option maxHeartbeats 1000000 in
theorem Qsb{a b c d:Pt}{t:Tm}(ha:Sc a.c)(hb:Sc b.c)(hc:Sc c.c)(hd:Sc d.c)(ht:Va t):U5 182 [.oi 4,.agg (ta t),.one (.row [Gq a,Gq b,Gq c,Gq d])] [.agg (Ey (vF (G6 t) a b c d)),.oi 0]:=by
 have hp:=(Qc1 ha hb hc hd).dp;have e:Ey (vF (G6 t) a b c d)=[.int .i64 4,.int .i64 a.id,.int .i64 b.id,.int .i64 c.id,.int .i64 d.id,pl (FN a.c b.c c.c d.c),.int .i64 (Rp (G6 t) (FN a.c b.c c.c d.c))]:=by rw[vF]
 rw[e];have h:=BH hp ht;have g:=Qjs ha hb hc hd;generalize FN a.c b.c c.c d.c=F at *;refine G7 func182 rfl ?_;refine Ux [.k Qgo,.f rfl] rfl ?_;refine U4 (S:=Nat) 3 (λL1 i=>(22,.v (.oi i))::L1) (λi=>[.blk 72 (ta t),.blk 66 zCt,.blk 66 [.int .i64 4,.int .i64 (if 1<=i then a.id else 0),.int .i64 (if 2<=i then b.id else 0),.int .i64 (if 3<=i then c.id else 0),.int .i64 (if 4<=i then d.id else 0),.nils,.int .i64 0]]) (λi=>4-i) (λi=>i<=4) 0 (Qj _) rfl rfl λi hi=>?_
 rcases(show i=0\/i=1\/i=2\/i=3\/i=4 by omega)with rfl|rfl|rfl|rfl|rfl
 .refine Ux [.t rfl,.x (i:=0) (xs:=Gq a) rfl,.i 0] rfl ?_ Fy;exact rd 1 Fo Fo rfl
 .refine Ux [.t rfl,.x (i:=1) (xs:=Gq b) rfl,.i 1] rfl ?_ Fy;exact rd 2 Fo Fo rfl
 .refine Ux [.t rfl,.x (i:=2) (xs:=Gq c) rfl,.i 2] rfl ?_ Fy;exact rd 3 Fo Fo rfl
 .refine Ux [.t rfl,.x (i:=3) (xs:=Gq d) rfl,.i 3] rfl ?_ Fy;exact rd 4 Fo Fo rfl
 .exact Uz [.f rfl,.f rfl,.f rfl,.f rfl,.t rfl,.x (i:=0) (xs:=Gq a) rfl,.x (i:=1) (xs:=Gq b) rfl,.x (i:=2) (xs:=Gq c) rfl,.x (i:=3) (xs:=Gq d) rfl,.k g,.k h] rfl
def mL(T:Dt)(s:Int)(n:U8)(F:Dt)(k:Nat):Dt:=(List.range k).foldl (XV T s n) F
theorem iK(T:Dt)(s:Int)(n:U8)(F:Dt)(k:Nat):mL T s n F (k+1)=XV T s n (mL T s n F k) k:=by unfold mL;rw[List.range_succ,List.foldl_append];rfl
theorem iV(T:Dt)(s:Int)(n:U8)(F:Dt):mL T s n F 4=yR T s n F:=rfl
set_option maxHeartbeats 4000000 in
theorem Qzj{F T:Dt}{s n0 n1 n2 n3:Int}(e:sG T)(hs:-1<=s/\s<=1):Ge prog 190 [.one (.omap 0),.one (.omap 1),.oi s,.agg [.int .i64 n0,.int .i64 n1,.int .i64 n2,.int .i64 n3]] [.mpb F,.mpb T] [] [.mpb (yR T s [n0,n1,n2,n3] F),.mpb T]:=by
 have hm:Qrf T:=λk=>(e k).1
 have hb:=λ(k:U8) (x:Int) (hx:-1<=x/\x<=1)=>Qhq (e k).2 hx
 rw[<-iV];obtain⟨f,d⟩:=nmE (mL T s [n0,n1,n2,n3] F);have f0:F=f 0:=by rw[d];rfl
 have fs:∀k,f (k+1)=XV T s [n0,n1,n2,n3] (f k) k:=λk=>by rw[d];exact iK ..
 rw[<-d];rw[f0];clear d f0;refine G7 func190 rfl ?_;refine Ux [] rfl ?_;refine U4 (S:=Nat) 3 (λL1 k=>(14,.v (.oi k))::L1) (λk=>[.mpb (f k),.mpb T,.blk 62 [.int .i64 n0,.int .i64 n1,.int .i64 n2,.int .i64 n3]]) (λk=>4-k) (λk=>k<=4) 0 Fp rfl rfl λk g=>?_
 rcases(show k=0\/k=1\/k=2\/k=3\/k=4 by omega)with rfl|rfl|rfl|rfl|rfl
 .have b:=fs 0;have c:XV T s [n0,n1,n2,n3] (f 0) 0=if YI T [n1,n2,n3]*(-s)>0 then Ig (f 0) [n1,n2,n3] (.bool true)else f 0:=rfl
  rw[c]at b;refine Ux [.t rfl] rfl ?_;refine U4 (S:=Nat) 4 (λL1 i=>(18,.v (.oi i))::(10,.v (.oi (if i<=0 then(i:Int)else(i:Int)-1)))::L1) (λi=>[.mpb (f 0),.mpb T,.blk 62 [.int .i64 n0,.int .i64 n1,.int .i64 n2,.int .i64 n3],.blk 281 [.int .i64 (if 2<=i then n1 else 0),.int .i64 (if 3<=i then n2 else 0),.int .i64 (if 4<=i then n3 else 0)]]) (λi=>4-i) (λi=>i<=4) 0 Fp rfl rfl λi hi=>?_
  rcases(show i=0\/i=1\/i=2\/i=3\/i=4 by omega)with rfl|rfl|rfl|rfl|rfl
  .refine Ux [.t rfl,.i 0,.f rfl] rfl ?_ Fy;exact rd 1 Fo Fo rfl
  .refine Ux [.t rfl,.i 1,.t rfl,.i 0] rfl ?_ Fy;exact rd 2 Fo Fo rfl
  .refine Ux [.t rfl,.i 2,.t rfl,.i 1] rfl ?_ Fy;exact rd 3 Fo Fo rfl
  .refine Ux [.t rfl,.i 3,.t rfl,.i 2] rfl ?_ Fy;exact rd 4 Fo Fo rfl
  .have a:=hb [n1,n2,n3] (-s) Fo;by_cases hc:YI T [n1,n2,n3]*(-s)>0
   .rw[if_pos hc]at b;refine go tt [.f rfl,.t rfl,.t (decide_eq_true hc)] rfl (by simp only[Gi];first|exact⟨⟨Fo,Fo⟩,a,hm,⟨Fo,Fo⟩,Fp,Fo,Fo⟩|exact⟨⟨Fo,Fo⟩,a,hm,Fp,Fo,Fo⟩) ?_;exact rd 1 Fo Fo (by rw[b];rfl)
   .rw[if_neg hc]at b;refine go tt [.f rfl,.t rfl,.f (decide_eq_false hc)] rfl (by simp only[Gi];first|exact⟨⟨Fo,Fo⟩,a,hm,⟨Fo,Fo⟩,Fp,Fo,Fo⟩|exact⟨⟨Fo,Fo⟩,a,hm,Fp,Fo,Fo⟩) ?_;exact rd 1 Fo Fo (by rw[b];rfl)
 .have b:=fs 1;have c:XV T s [n0,n1,n2,n3] (f 1) 1=if YI T [n0,n2,n3]*s>0 then Ig (f 1) [n0,n2,n3] (.bool true)else f 1:=rfl
  rw[c]at b;refine Ux [.t rfl] rfl ?_;refine U4 (S:=Nat) 4 (λL1 i=>(18,.v (.oi i))::(10,.v (.oi (if i<=1 then(i:Int)else(i:Int)-1)))::L1) (λi=>[.mpb (f 1),.mpb T,.blk 62 [.int .i64 n0,.int .i64 n1,.int .i64 n2,.int .i64 n3],.blk 281 [.int .i64 (if 1<=i then n0 else 0),.int .i64 (if 3<=i then n2 else 0),.int .i64 (if 4<=i then n3 else 0)]]) (λi=>4-i) (λi=>i<=4) 0 Fp rfl rfl λi hi=>?_
  rcases(show i=0\/i=1\/i=2\/i=3\/i=4 by omega)with rfl|rfl|rfl|rfl|rfl
  .refine Ux [.t rfl,.i 0,.t rfl,.i 0] rfl ?_ Fy;exact rd 1 Fo Fo rfl
  .refine Ux [.t rfl,.i 1,.f rfl] rfl ?_ Fy;exact rd 2 Fo Fo rfl
  .refine Ux [.t rfl,.i 2,.t rfl,.i 1] rfl ?_ Fy;exact rd 3 Fo Fo rfl
  .refine Ux [.t rfl,.i 3,.t rfl,.i 2] rfl ?_ Fy;exact rd 4 Fo Fo rfl
  .have a:=hb [n0,n2,n3] s Fo;by_cases hc:YI T [n0,n2,n3]*s>0
   .rw[if_pos hc]at b;refine go tt [.f rfl,.f rfl,.t (decide_eq_true hc)] rfl (by simp only[Gi];first|exact⟨⟨Fo,Fo⟩,a,hm,⟨Fo,Fo⟩,Fp,Fo,Fo⟩|exact⟨⟨Fo,Fo⟩,a,hm,Fp,Fo,Fo⟩) ?_;exact rd 2 Fo Fo (by rw[b];rfl)
   .rw[if_neg hc]at b;refine go tt [.f rfl,.f rfl,.f (decide_eq_false hc)] rfl (by simp only[Gi];first|exact⟨⟨Fo,Fo⟩,a,hm,⟨Fo,Fo⟩,Fp,Fo,Fo⟩|exact⟨⟨Fo,Fo⟩,a,hm,Fp,Fo,Fo⟩) ?_;exact rd 2 Fo Fo (by rw[b];rfl)
 .have b:=fs 2;have c:XV T s [n0,n1,n2,n3] (f 2) 2=if YI T [n0,n1,n3]*(-s)>0 then Ig (f 2) [n0,n1,n3] (.bool true)else f 2:=rfl
  rw[c]at b;refine Ux [.t rfl] rfl ?_;refine U4 (S:=Nat) 4 (λL1 i=>(18,.v (.oi i))::(10,.v (.oi (if i<=2 then(i:Int)else(i:Int)-1)))::L1) (λi=>[.mpb (f 2),.mpb T,.blk 62 [.int .i64 n0,.int .i64 n1,.int .i64 n2,.int .i64 n3],.blk 281 [.int .i64 (if 1<=i then n0 else 0),.int .i64 (if 2<=i then n1 else 0),.int .i64 (if 4<=i then n3 else 0)]]) (λi=>4-i) (λi=>i<=4) 0 Fp rfl rfl λi hi=>?_
  rcases(show i=0\/i=1\/i=2\/i=3\/i=4 by omega)with rfl|rfl|rfl|rfl|rfl
  .refine Ux [.t rfl,.i 0,.t rfl,.i 0] rfl ?_ Fy;exact rd 1 Fo Fo rfl
  .refine Ux [.t rfl,.i 1,.t rfl,.i 1] rfl ?_ Fy;exact rd 2 Fo Fo rfl
  .refine Ux [.t rfl,.i 2,.f rfl] rfl ?_ Fy;exact rd 3 Fo Fo rfl
  .refine Ux [.t rfl,.i 3,.t rfl,.i 2] rfl ?_ Fy;exact rd 4 Fo Fo rfl
  .have a:=hb [n0,n1,n3] (-s) Fo;by_cases hc:YI T [n0,n1,n3]*(-s)>0
   .rw[if_pos hc]at b;refine go tt [.f rfl,.t rfl,.t (decide_eq_true hc)] rfl (by simp only[Gi];first|exact⟨⟨Fo,Fo⟩,a,hm,⟨Fo,Fo⟩,Fp,Fo,Fo⟩|exact⟨⟨Fo,Fo⟩,a,hm,Fp,Fo,Fo⟩) ?_;exact rd 3 Fo Fo (by rw[b];rfl)
   .rw[if_neg hc]at b;refine go tt [.f rfl,.t rfl,.f (decide_eq_false hc)] rfl (by simp only[Gi];first|exact⟨⟨Fo,Fo⟩,a,hm,⟨Fo,Fo⟩,Fp,Fo,Fo⟩|exact⟨⟨Fo,Fo⟩,a,hm,Fp,Fo,Fo⟩) ?_;exact rd 3 Fo Fo (by rw[b];rfl)
 .have b:=fs 3;have c:XV T s [n0,n1,n2,n3] (f 3) 3=if YI T [n0,n1,n2]*s>0 then Ig (f 3) [n0,n1,n2] (.bool true)else f 3:=rfl
  rw[c]at b;refine Ux [.t rfl] rfl ?_;refine U4 (S:=Nat) 4 (λL1 i=>(18,.v (.oi i))::(10,.v (.oi (if i<=3 then(i:Int)else(i:Int)-1)))::L1) (λi=>[.mpb (f 3),.mpb T,.blk 62 [.int .i64 n0,.int .i64 n1,.int .i64 n2,.int .i64 n3],.blk 281 [.int .i64 (if 1<=i then n0 else 0),.int .i64 (if 2<=i then n1 else 0),.int .i64 (if 3<=i then n2 else 0)]]) (λi=>4-i) (λi=>i<=4) 0 Fp rfl rfl λi hi=>?_
  rcases(show i=0\/i=1\/i=2\/i=3\/i=4 by omega)with rfl|rfl|rfl|rfl|rfl
  .refine Ux [.t rfl,.i 0,.t rfl,.i 0] rfl ?_ Fy;exact rd 1 Fo Fo rfl
  .refine Ux [.t rfl,.i 1,.t rfl,.i 1] rfl ?_ Fy;exact rd 2 Fo Fo rfl
  .refine Ux [.t rfl,.i 2,.t rfl,.i 2] rfl ?_ Fy;exact rd 3 Fo Fo rfl
  .refine Ux [.t rfl,.i 3,.f rfl] rfl ?_ Fy;exact rd 4 Fo Fo rfl
  .have a:=hb [n0,n1,n2] s Fo;by_cases hc:YI T [n0,n1,n2]*s>0
   .rw[if_pos hc]at b;refine go tt [.f rfl,.f rfl,.t (decide_eq_true hc)] rfl (by simp only[Gi];first|exact⟨⟨Fo,Fo⟩,a,hm,⟨Fo,Fo⟩,Fp,Fo,Fo⟩|exact⟨⟨Fo,Fo⟩,a,hm,Fp,Fo,Fo⟩) ?_;exact rd 4 Fo Fo (by rw[b];rfl)
   .rw[if_neg hc]at b;refine go tt [.f rfl,.f rfl,.f (decide_eq_false hc)] rfl (by simp only[Gi];first|exact⟨⟨Fo,Fo⟩,a,hm,⟨Fo,Fo⟩,Fp,Fo,Fo⟩|exact⟨⟨Fo,Fo⟩,a,hm,Fp,Fo,Fo⟩) ?_;exact rd 4 Fo Fo (by rw[b];rfl)
 .exact U3 [] [0,1] [.f rfl] rfl
end Orr
