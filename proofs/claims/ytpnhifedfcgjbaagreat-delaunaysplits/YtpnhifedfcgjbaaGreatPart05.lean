/- R4 RefPL CrvL CrowdL PredL CertL Y1 Y2 Q1 C1 C2 D1 E1 AlgL F1 F2 F3 F4 F5 -/
import Derived.Test.YtpnhifedfcgjbaaGreatPart04
import Derived.Test.YtpnhifedfcgjbaaGreatPart00
set_option linter.all false
namespace Orr
open Go Go.Proofs
set_option maxRecDepth 10000
theorem Zfs {a b:Int} (h:(decide (a<0) == decide (b<0))=true):Ua (decide (a<0)) (a.natAbs+b.natAbs)=a+b:=by
 unfold Ua;by_cases h1:a<0 <;> by_cases h2:b<0 <;> simp [h1,h2] at h ⊢ <;> omega
theorem Zfv {a b:Int} (h:¬(decide (a<0) == decide (b<0))=true) (hl:b.natAbs<=a.natAbs):Ua (decide (a<0)) (a.natAbs-b.natAbs)=a+b:=by
 unfold Ua;by_cases h1:a<0 <;> by_cases h2:b<0 <;> simp [h1,h2] at h ⊢ <;> omega
theorem Zat {a b:Int} (h:¬(decide (a<0) == decide (b<0))=true) (hl:¬b.natAbs<=a.natAbs):Ua (decide (b<0)) (b.natAbs-a.natAbs)=a+b:=by
 unfold Ua;by_cases h1:a<0 <;> by_cases h2:b<0 <;> simp [h1,h2] at h ⊢ <;> omega
theorem Qa2 (a:Int):(∃ m:Nat,a=(m:Int))\/∃ m:Nat,a=-(m:Int)/\0<m:=by
 rcases Km a 0 with h | h
 ·exact .inr ⟨a.natAbs,by omega,by omega⟩
 ·exact .inl ⟨a.natAbs,by omega⟩
theorem Zfu (a b:Int):Ua (!(decide (a<0) == decide (b<0))) (a.natAbs*b.natAbs)=a*b:=by
 rcases Qa2 a with ⟨m,rfl⟩ | ⟨m,rfl,hm⟩ <;> rcases Qa2 b with ⟨n,rfl⟩ | ⟨n,rfl,hn⟩
 ·simp [Ua,show ¬((m:Int)<0) by omega,show ¬((n:Int)<0) by omega]
 ·simp [Ua,show ¬((m:Int)<0) by omega,show (-(n:Int)<0) by omega,hn,V7]
 ·simp [Ua,show (-(m:Int)<0) by omega,show ¬((n:Int)<0) by omega,hm,Vu]
 ·simp [Ua,show (-(m:Int)<0) by omega,show (-(n:Int)<0) by omega,hm,hn,Wp]
theorem Zft {a b:Int} (h:a % b=0):Ua (!(decide (a<0) == decide (b<0))) (a.natAbs / b.natAbs)=a / b:=by
 by_cases hb:b=0
 ·subst hb; simp [Ua]
 obtain ⟨c,rfl⟩:=Yg h;rw [Xm _ hb,J0,Nat.mul_div_cancel_left _ (by omega)];rcases Qa2 b with ⟨n,rfl⟩ | ⟨n,rfl,hn⟩ <;> rcases Qa2 c with ⟨m,rfl⟩ | ⟨m,rfl,hm⟩
 ·have:¬((n:Int)*(m:Int)<0):=by rw [<-Y4]; omega
  simp [Ua,this,show ¬((n:Int)<0) by omega]
 ·have h1:0<n*m:=Jx (by omega) hm;have:((n:Int)*-(m:Int)<0):=by rw [V7,<-Y4]; omega
  simp only [this,show ¬((n:Int)<0) by omega];simp [Ua]
 ·by_cases h0:m=0
  ·subst h0; simp [Ua]
  ·have h1:0<n*m:=Jx hn (by omega);have:(-(n:Int)*(m:Int)<0):=by rw [Vu,<-Y4]; omega
   simp only [this,show (-(n:Int)<0) by omega];simp [Ua]
 ·have:¬(-(n:Int)*-(m:Int)<0):=by rw [Wp,<-Y4]; omega
  simp only [this,show (-(n:Int)<0) by omega];simp [Ua]
theorem Za0 (a b:Int):Int.sign (a-b)=Mc a b:=by
 unfold Mc;rcases Jr a b with h | h | h
 ·rw [if_pos h,Xt (by omega)]
 ·rw [if_neg (by omega),if_neg (by omega),h,Int.sub_self]; rfl
 ·rw [if_neg (by omega),if_pos h,X5 (by omega)]
theorem Qzf {x y:Nat}:0<=Ik x y↔y<=x:=by
 unfold Ik;constructor
 ·intro h; split at h
  ·omega
  ·omega
 ·intro h; split
  ·omega
  ·split <;> omega
theorem Qi8 {x e:Nat} (h:(Uq x).length=1) (he:(Uq x)[0]? = some e):x=e:=by
 rcases hd:Uq x with _ | ⟨u,l⟩
 ·rw [hd] at h; cases h
 ·rcases l with _ | ⟨w,l⟩
  ·rw [hd] at he; simp at he;have:=Gq x;rw [hd] at this; simp [Hg] at this; omega
  ·rw [hd] at h; simp at h
theorem Qwj {a b:Int} (hb:0<b):ri (a / ((Int.gcd a b:Nat):Int))++ri (b / ((Int.gcd a b:Nat):Int))=fr (Rat.divInt a b):=by
 obtain ⟨h1,h2⟩:=Qpn (n:=a) hb;rw [Mj,Int.gcd_comm] at h1 h2;rw [h1,h2]
theorem Qwk (a:Int):ri a++ri 1=fr (Rat.divInt a 1):=by
 have h:=Qwj (a:=a) (b:=1) (by decide);rw [show ((Int.gcd a 1:Nat):Int)=1 by simp] at h;simpa using h
theorem Qmv {a b:Int} (hb:b≠0) (ha2:Ug a<=90000000) (hb2:Ug b<=90000000):Ug ((Int.gcd a b:Nat):Int)<=90000000/\((Int.gcd a b:Nat):Int)≠0/\a % ((Int.gcd a b:Nat):Int)=0/\b % ((Int.gcd a b:Nat):Int)=0:=by
 have h1:=Qz8 (n:=a) hb hb2;have h2:=Qsj (n:=a) hb;have h3:=Qjv a b;have h4:=Qjw a b;rw [Mj,Int.gcd_comm] at h1 h2 h3 h4;exact ⟨h1,by omega,h3,h4⟩
theorem Qnm {a b:Int} (h:b<0):Fl a b=Rat.divInt (-a) (-b):=by
 unfold Fl; rw [if_neg (by omega)];exact (Rat.neg_divInt_neg a b).symm
theorem Qnn {a b:Int} (h:0<b):Fl a b=Rat.divInt a b:=by
 unfold Fl; rw [if_neg (by omega)]
theorem Q16 (a b:Rat):Fl (a.num*(b.den:Int)+b.num*(a.den:Int)) ((a.den:Int)*(b.den:Int))=a+b:=by
 unfold Fl;rw [if_neg (Jh (Ni a) (Ni b)),<-Rat.divInt_add_divInt _ _ (Ni a) (Ni b),Z0,Z0]
theorem Qm8 (a b:Rat):Fl (a.num*b.num) ((a.den:Int)*(b.den:Int))=a*b:=by
 unfold Fl;rw [if_neg (Jh (Ni a) (Ni b)),<-Ki,Z0,Z0]
theorem Qnl {a b:Rat} (h:b≠0):Fl (a.num*(b.den:Int)) ((a.den:Int)*b.num)=a / b:=by
 have hn:b.num≠0:=λe=>h (Rat.num_eq_zero.1 e)
 unfold Fl;rw [if_neg (Jh (Ni a) hn),<-Ki,Z0,J5];congr 1
 conv=>rhs; rw [<-Z0 b,Rat.inv_divInt]
theorem Qoh {z:Int} (hz:Ug z<=100000000):W5 Tryz.prog 37 [.agg (Fp z)] [.agg (ri z)]:=by
 have hl:(Un z.natAbs).length<=1099511627776:=by have h2:32*(Un z.natAbs).length<=100000000+31:=G9 hz; omega
 have h:=Zcn (l:=Un z.natAbs) (λu hu=>(Nl _).1 u hu) hl (by rw [U5]; exact hz);rw [U5] at h;have hm:=La (decide (z<0)) z.natAbs;have e:Ua (decide (z<0)) z.natAbs=z:=by unfold Ua; by_cases h:z<0 <;> simp [h] <;> omega
 rw [e] at hm;exact w tt Tryz.func37 rfl [.c [] h,.c [] hm] rfl rfl trivial
theorem Qy0 {z:Int}:W5 Tryz.prog 122 [.agg (ri z)] [.one (.int .i64 (Int.sign z))]:=by
 have hn:=Qc8 (x:=z.natAbs);have hl:=Qb4 z.natAbs;rcases Jr z 0 with h | h | h
 ·rw [Xt h];exact w tt Tryz.func122 rfl [.f (by simp only [Gz]; exact decide_eq_false (by omega)),.t (decide_eq_true h)] rfl rfl trivial
 ·subst h;exact w tt Tryz.func122 rfl [.t (by simp only [Gz]; show decide (((Uq 0).length:Int)=0)=true; rw [Ft]; rfl)] rfl rfl trivial
 ·rw [X5 h];exact w tt Tryz.func122 rfl [.f (by simp only [Gz]; exact decide_eq_false (by omega)),.f (decide_eq_false (by omega))] rfl rfl trivial
theorem Qvs {a b:Int} (ha:Ug a<=200000000) (hb:Ug b<=200000000):W5 Tryz.prog 143 [.agg (ri a),.agg (ri b)] [.agg (ri (a+b))]:=by
 by_cases hs:(decide (a<0) == decide (b<0))=true
 ·have cm:=La (decide (a<0)) (a.natAbs+b.natAbs);rw [Zfs hs] at cm;exact w tt Tryz.func143 rfl [.t hs,.c [] (Zh4 ha hb),.c [] cm] rfl rfl trivial
 ·have hs':(decide (a<0) == decide (b<0))=false:=by simpa using hs
  by_cases hl:b.natAbs<=a.natAbs
  ·have cm:=La (decide (a<0)) (a.natAbs-b.natAbs);rw [Zfv hs hl] at cm;exact w tt Tryz.func143 rfl [.f hs',.c [] (Qvg ha hb),.t (decide_eq_true (Qzf.2 hl)),.c [] (Qvr ha hb hl),.c [] cm] rfl rfl trivial
  ·have cm:=La (decide (b<0)) (b.natAbs-a.natAbs);rw [Zat hs hl] at cm;exact w tt Tryz.func143 rfl [.f hs',.c [] (Qvg ha hb),.f (decide_eq_false λh=>hl (Qzf.1 h)),.c [] (Qvr hb ha (by omega)),.c [] cm] rfl rfl trivial
theorem Q6c {a b:Int} (ha:Ug a<=200000000) (hb:Ug b<=200000000):W5 Tryz.prog 123 [.agg (ri a),.agg (ri b)] [.agg (ri (a-b))]:=by
 have ca:=Qvs (a:=a) (b:=-b) ha (by rw [Gb]; exact hb);rw [show a+-b=a-b from by omega] at ca;exact w tt Tryz.func123 rfl [.c [] (Ar (z:=b)),.c [] ca] rfl rfl trivial
theorem Tn {a b:Int} (ha:Ug a<=200000000) (hb:Ug b<=200000000):W5 Tryz.prog 36 [.agg (ri a),.agg (ri b)] [.agg (ri (a*b))]:=by
 have cm:=La (!(decide (a<0) == decide (b<0))) (a.natAbs*b.natAbs);rw [Zfu] at cm;exact w tt Tryz.func36 rfl [.c [] (Zh8 ha hb),.c [] cm] rfl rfl trivial
theorem Zid {a b:Int} (ha:Ug a<=200000000) (hb:Ug b<=200000000):W5 Tryz.prog 62 [.agg (ri a),.agg (ri b)] [.one (.int .i64 (Mc a b))]:=by
 have h:=Qy0 (z:=a-b);rw [Za0] at h;exact w tt Tryz.func62 rfl [.c [] (Q6c ha hb),.c [] h] rfl rfl trivial
theorem Qe5 {a b:Int} (ha:Ug a<=90000000) (hb:Ug b<=90000000) (h0:b≠0) (hd:a % b=0):W5 Tryz.prog 101 [.agg (ri a),.agg (ri b)] [.agg (ri (a / b))]:=by
 have cm:=La (!(decide (a<0) == decide (b<0))) (a.natAbs / b.natAbs);rw [Zft hd] at cm;exact w tt Tryz.func101 rfl [.c [] (Q5g ha hb (by omega)),.c [] cm] rfl rfl trivial
theorem Zjt (x:Nat):ri ((x:Nat):Int)=[nd x,.bool false]:=by
 unfold ri sg;rw [Z7,decide_eq_false (by omega)]
theorem Qiy {a b:Int} (ha:Ug a<=90000000) (hb:Ug b<=90000000):W5 Tryz.prog 100 [.agg (ri a),.agg (ri b)] [.agg (ri ((Int.gcd a b:Nat):Int))]:=by
 rw [Zjt];refine Fq Tryz.func100 rfl ?_;refine go tt [] rfl trivial ?_;refine lp (S:=Nat×Nat) 3 (λL1 s=>(5,.v (.one (nd s.1)))::(6,.v (.one (nd s.2)))::L1) (λ_=>[.blk 33 (ri a),.blk 33 (ri b),.blk 33 [.nils,.bool false]]) (λs=>s.2) (λs=>Nat.gcd s.1 s.2=Int.gcd a b/\sz s.1<=90000000/\sz s.2<=90000000) (a.natAbs,b.natAbs) ⟨rfl,ha,hb⟩ rfl (λ_ _=>rfl) rfl λs hs=>?_
 obtain ⟨x,y⟩:=s;obtain ⟨hp0,hp1,hp2⟩:=hs;dsimp only at hp0 hp1 hp2 ⊢;have hyn:=Qc8 (x:=y);have hyl:=Qb4 y;by_cases h1:y=0
 ·have e:Int.gcd a b=x:=by rw [<-hp0,h1,Nat.gcd_zero_right]
  rw [e];exact en tt [.f (by simp only [Gz]; exact decide_eq_false (by omega))] rfl rfl trivial
 ·have hlt:=Z5 x (show 0<y by omega);refine go tt [.t (by simp only [Gz]; exact decide_eq_true (by omega)),.c [] (Q5g hp1 hp2 (by omega))] rfl trivial ?_;exact rd (y,x % y) (by dsimp only; omega) ⟨by dsimp only; rw [<-hp0,Nat.gcd_comm x y,Nat.gcd_rec y x,Nat.gcd_comm],hp2,Nat.le_trans (Hb (by dsimp only; omega)) hp2⟩ rfl
theorem Qc3 {a b:Int} (ha:Ug a<=90000000) (hb:Ug b<=90000000):W5 Tryz.prog 48 [.agg (ri a),.agg (ri b)] [.agg (fr (Fl a b))]:=by
 rcases Jr b 0 with hs | hs | hs
 ·skip
  by_cases h1:-b=1
  ·have h0:(Py (Uq (-b).natAbs))[0]? = some [LV.int .i64 1]:=by rw [h1,show (1:Int).natAbs=1 from rfl,Lh]; rfl
   have hl1:decide (((Py (Uq (-b).natAbs)).length:Int)=1)=true:=by rw [h1,show (1:Int).natAbs=1 from rfl,Lh]; rfl
   have e:fr (Fl a b)=ri (-a)++ri (-b):=by rw [Qnm hs,h1]; exact (Qwk _).symm
   rw [e];exact w tt Tryz.func48 rfl [.c [] (Pd (z:=b)),.f (decide_eq_false (by omega)),.t (decide_eq_true hs),.c [] (Ar (z:=a)),.c [] (Ar (z:=b)),.g 19 true hl1,.x h0,.t rfl] rfl rfl trivial
  ·have hgf:=Qmv (a:=-a) (b:=-b) (by omega) (by first | exact ha | (rw [Gb]; exact ha)) (by first | exact hb | (rw [Gb]; exact hb));have cg:=Qiy (a:=-a) (b:=-b) (by first | exact ha | (rw [Gb]; exact ha)) (by first | exact hb | (rw [Gb]; exact hb));have q1:=Qe5 (a:=-a) (b:=((Int.gcd (-a) (-b):Nat):Int)) (by first | exact ha | (rw [Gb]; exact ha)) hgf.1 hgf.2.1 hgf.2.2.1;have q2:=Qe5 (a:=-b) (b:=((Int.gcd (-a) (-b):Nat):Int)) (by first | exact hb | (rw [Gb]; exact hb)) hgf.1 hgf.2.1 hgf.2.2.2;have e:fr (Fl a b)=ri ((-a) / ((Int.gcd (-a) (-b):Nat):Int))++ri ((-b) / ((Int.gcd (-a) (-b):Nat):Int)):=by rw [Qnm hs]; exact (Qwj (by omega)).symm
   rw [e];have hl:=Qb4 (-b).natAbs;by_cases hl1:(Uq (-b).natAbs).length=1
   ·obtain ⟨u,hu⟩:=gxE (l:=(Uq (-b).natAbs)) (i:=0) (by omega);have hue:=Qi8 hl1 hu;exact w tt Tryz.func48 rfl [.c [] (Pd (z:=b)),.f (decide_eq_false (by omega)),.t (decide_eq_true hs),.c [] (Ar (z:=a)),.c [] (Ar (z:=b)),.g 19 true (by simp only [Gz]; exact decide_eq_true (by omega)),.x (U6 hu),.f (decide_eq_false (by omega)),.c [] cg,.c [] q1,.c [] q2] rfl rfl trivial
   ·exact w tt Tryz.func48 rfl [.c [] (Pd (z:=b)),.f (decide_eq_false (by omega)),.t (decide_eq_true hs),.c [] (Ar (z:=a)),.c [] (Ar (z:=b)),.g 19 false (by simp only [Gz]; exact decide_eq_false (by omega)),.f rfl,.c [] cg,.c [] q1,.c [] q2] rfl rfl trivial
 ·subst hs;have h0:(Py (Uq (1:Int).natAbs))[0]? = some [LV.int .i64 1]:=by rw [show (1:Int).natAbs=1 from rfl,Lh]; rfl
  have h1:decide (((Py (Uq (1:Int).natAbs)).length:Int)=1)=true:=by rw [show (1:Int).natAbs=1 from rfl,Lh]; rfl
  have e:fr (Fl a 0)=ri a++ri 1:=(Qwk a).symm;rw [e];exact w tt Tryz.func48 rfl [.c [] (Pd (z:=0)),.t rfl,.c [] (B8 (n:=1) (by decide)),.f rfl,.g 19 true h1,.x h0,.t rfl] rfl rfl trivial
 ·skip
  by_cases h1:b=1
  ·have h0:(Py (Uq (b).natAbs))[0]? = some [LV.int .i64 1]:=by rw [h1,show (1:Int).natAbs=1 from rfl,Lh]; rfl
   have hl1:decide (((Py (Uq (b).natAbs)).length:Int)=1)=true:=by rw [h1,show (1:Int).natAbs=1 from rfl,Lh]; rfl
   have e:fr (Fl a b)=ri (a)++ri (b):=by rw [Qnn hs,h1]; exact (Qwk _).symm
   rw [e];exact w tt Tryz.func48 rfl [.c [] (Pd (z:=b)),.f (decide_eq_false (by omega)),.f (decide_eq_false (by omega)),.g 19 true hl1,.x h0,.t rfl] rfl rfl trivial
  ·have hgf:=Qmv (a:=a) (b:=b) (by omega) (by first | exact ha | (rw [Gb]; exact ha)) (by first | exact hb | (rw [Gb]; exact hb));have cg:=Qiy (a:=a) (b:=b) (by first | exact ha | (rw [Gb]; exact ha)) (by first | exact hb | (rw [Gb]; exact hb));have q1:=Qe5 (a:=a) (b:=((Int.gcd (a) (b):Nat):Int)) (by first | exact ha | (rw [Gb]; exact ha)) hgf.1 hgf.2.1 hgf.2.2.1;have q2:=Qe5 (a:=b) (b:=((Int.gcd (a) (b):Nat):Int)) (by first | exact hb | (rw [Gb]; exact hb)) hgf.1 hgf.2.1 hgf.2.2.2;have e:fr (Fl a b)=ri ((a) / ((Int.gcd (a) (b):Nat):Int))++ri ((b) / ((Int.gcd (a) (b):Nat):Int)):=by rw [Qnn hs]; exact (Qwj (by omega)).symm
   rw [e];have hl:=Qb4 (b).natAbs;by_cases hl1:(Uq (b).natAbs).length=1
   ·obtain ⟨u,hu⟩:=gxE (l:=(Uq (b).natAbs)) (i:=0) (by omega);have hue:=Qi8 hl1 hu;exact w tt Tryz.func48 rfl [.c [] (Pd (z:=b)),.f (decide_eq_false (by omega)),.f (decide_eq_false (by omega)),.g 19 true (by simp only [Gz]; exact decide_eq_true (by omega)),.x (U6 hu),.f (decide_eq_false (by omega)),.c [] cg,.c [] q1,.c [] q2] rfl rfl trivial
   ·exact w tt Tryz.func48 rfl [.c [] (Pd (z:=b)),.f (decide_eq_false (by omega)),.f (decide_eq_false (by omega)),.g 19 false (by simp only [Gz]; exact decide_eq_false (by omega)),.f rfl,.c [] cg,.c [] q1,.c [] q2] rfl rfl trivial
theorem Zla {n d:Int} (hn:-1000000000<=n/\n<=1000000000) (hd:-1000000000<=d/\d<=1000000000):W5 Tryz.prog 17 [.one (.int .i64 n),.one (.int .i64 d)] [.agg (fr (Fl n d))]:=by
 have b1:Ug n<=90000000:=Qc (Ri.2 (show n.natAbs<2^40 by omega)) (by decide);have b2:Ug d<=90000000:=Qc (Ri.2 (show d.natAbs<2^40 by omega)) (by decide);exact w tt Tryz.func17 rfl [.c [] (B8 (by omega)),.c [] (B8 (by omega)),.c [] (Qc3 b1 b2)] rfl rfl trivial
theorem Zia {a:Rat}:W5 Tryz.prog 47 [.agg (fr a)] [.agg (fr (-a))]:=by
 have e:fr (-a)=ri (-a.num)++ri (a.den:Int):=rfl;rw [e];exact w tt Tryz.func47 rfl [.c [] (Ar (z:=a.num))] rfl rfl trivial
theorem Q5c {a b:Rat} (ha:Qs 20000000 a) (hb:Qs 20000000 b):W5 Tryz.prog 110 [.agg (fr a),.agg (fr b)] [.agg (fr (a+b))]:=by
 have k1:=Ur a.num (b.den:Int);have k2:=Ur b.num (a.den:Int);have k3:=Ur (a.den:Int) (b.den:Int);have k4:=Qat (a.num*(b.den:Int)) (b.num*(a.den:Int));have h1:=ha.1; have h2:=ha.2; have h3:=hb.1; have h4:=hb.2;have cm:=Qc3 (a:=a.num*(b.den:Int)+b.num*(a.den:Int)) (b:=(a.den:Int)*(b.den:Int)) (by omega) (by omega);rw [Q16] at cm;exact w tt Tryz.func110 rfl [.c [] (Tn (a:=a.num) (b:=(b.den:Int)) (by omega) (by omega)),.c [] (Tn (a:=b.num) (b:=(a.den:Int)) (by omega) (by omega)),.c [] (Qvs (by omega) (by omega)),.c [] (Tn (a:=(a.den:Int)) (b:=(b.den:Int)) (by omega) (by omega)),.c [] cm] rfl rfl trivial
theorem Q5p {a b:Rat} (ha:Qs 40000000 a) (hb:Qs 40000000 b):W5 Tryz.prog 107 [.agg (fr a),.agg (fr b)] [.agg (fr (a*b))]:=by
 have k1:=Ur a.num b.num;have k3:=Ur (a.den:Int) (b.den:Int);have h1:=ha.1; have h2:=ha.2; have h3:=hb.1; have h4:=hb.2;have cm:=Qc3 (a:=a.num*b.num) (b:=(a.den:Int)*(b.den:Int)) (by omega) (by omega);rw [Qm8] at cm;exact w tt Tryz.func107 rfl [.c [] (Tn (a:=a.num) (b:=b.num) (by omega) (by omega)),.c [] (Tn (a:=(a.den:Int)) (b:=(b.den:Int)) (by omega) (by omega)),.c [] cm] rfl rfl trivial
theorem Qvo {a b:Rat} (ha:Qs 40000000 a) (hb:Qs 40000000 b) (h0:b≠0):W5 Tryz.prog 176 [.agg (fr a),.agg (fr b)] [.agg (fr (a / b))]:=by
 have k1:=Ur a.num (b.den:Int);have k3:=Ur (a.den:Int) b.num;have h1:=ha.1; have h2:=ha.2; have h3:=hb.1; have h4:=hb.2;have cm:=Qc3 (a:=a.num*(b.den:Int)) (b:=(a.den:Int)*b.num) (by omega) (by omega);rw [Qnl h0] at cm;exact w tt Tryz.func176 rfl [.c [] (Tn (a:=a.num) (b:=(b.den:Int)) (by omega) (by omega)),.c [] (Tn (a:=(a.den:Int)) (b:=b.num) (by omega) (by omega)),.c [] cm] rfl rfl trivial
theorem Qor {a b:Rat} (ha:Qs 40000000 a) (hb:Qs 40000000 b):W5 Tryz.prog 21 [.agg (fr a),.agg (fr b)] [.one (.int .i64 (Fh a b))]:=by
 have k1:=Ur a.num (b.den:Int);have k2:=Ur b.num (a.den:Int);have h1:=ha.1; have h2:=ha.2; have h3:=hb.1; have h4:=hb.2;exact w tt Tryz.func21 rfl [.c [] (Tn (a:=a.num) (b:=(b.den:Int)) (by omega) (by omega)),.c [] (Tn (a:=b.num) (b:=(a.den:Int)) (by omega) (by omega)),.c [] (Zid (a:=a.num*(b.den:Int)) (b:=b.num*(a.den:Int)) (by omega) (by omega))] rfl rfl trivial
end Orr
namespace Orr
def Nb:List Rat->List Rat
 | []=>[]
 |
  x::l=>match Nb l with
  | []=>if x=0 then [] else [x]
  | y::k=>x::y::k
theorem O7:∀ {l:List Rat},(∀ x∈l,x=0)->Nb l=[]
 | [],_=>rfl
 |
  x::l,h=>by
  have ih:=O7 (l:=l) (λy hy=>h y (Qi _ hy));simp [Nb,ih,h x (Qr ..)]
theorem Qk2:∀ {l:List Rat} {m:Nat} {y:Rat},(∀ j x,m<j->l[j]? = some x->x=0)->l[m]? = some y->y≠0->Nb l=l.take (m+1)
 | [],m,y,_,h,_=>by simp at h
 |
  x::l,0,y,h1,h2,h3=>by
  have h0:Nb l=[]:=O7 λz hz=>by
   obtain ⟨j,hj⟩:=Zf.1 hz;exact h1 (j+1) z (by omega) (by simpa using hj)
  simp at h2;subst h2;simp [Nb,h0,h3]
 |
  x::l,m+1,y,h1,h2,h3=>by
  have ih:=Qk2 (l:=l) (m:=m) (y:=y) (λj z hj hz=>h1 (j+1) z (by omega) (by simpa using hz)) (by simpa using h2) h3;cases hl:l with
  | nil=>subst hl; simp at h2
  |
   cons u k =>
   subst hl;rw [Yj] at ih;simp only [Nb] at ih ⊢;rw [ih];simp
theorem Qf8 {l:List Rat} {m:Nat} (hm:m<=l.length) (h1:∀ j x,m<=j->l[j]? = some x->x=0) (h2:0<m->∃ y,l[m-1]? = some y/\y≠0):Nb l=l.take m:=by
 rcases Qy m with h0 | h0
 ·subst h0;rw [O7 λz hz=>?_]; rfl;obtain ⟨j,hj⟩:=Zf.1 hz;exact h1 j z (by omega) hj
 ·obtain ⟨y,hy,hy0⟩:=h2 h0;have:=Qk2 (l:=l) (m:=m-1) (y:=y) (λj x hj hx=>h1 j x (by omega) hx) hy hy0;rwa [show m-1+1=m from by omega] at this
theorem Qnu:∀ (l:List Rat),∀ z∈Nb l,z∈l
 | [],z,h=>h
 |
  x::l,z,h=>by
  simp only [Nb] at h;have ih:=Qnu l
  split at h
  ·split at h
   ·cases h
   ·simp at h; simp [h]
  ·rename_i y k e;rw [e] at ih;rcases Qo.1 h with h | h
   ·simp [h]
   ·exact Qi _ (ih z h)
theorem Qnt:∀ (l:List Rat),(Nb l).length<=l.length
 | []=>Qn _
 |
  x::l=>by
  have ih:=Qnt l;simp only [Nb]
  split
  ·split <;> simp
  ·rename_i y k e;rw [e] at ih;simp at ih ⊢; omega
def zp (p:List Int):List Rat:=p.map λ(z:Int)=>(z:Rat)
theorem Mz:∀ (p:List Int),Nb (zp p)=zp (trim p)
 | []=>rfl
 |
  x::l=>by
  have ih:=Mz l;unfold zp at ih ⊢;simp only [Zv,Nb,trim,ih];cases h:trim l with
  |
   nil =>
   simp only [X3];by_cases hx:x=0
   ·subst hx; simp
   ·have:(x:Rat)≠0:=λe=>hx (by exact_mod_cast e)
    simp [hx,this]
  | cons y k=>simp
theorem Td (p:List Int):(zp p).length=p.length:=Q7 _
theorem Zby {p:List Int} {i:Nat} {z:Int} (h:p[i]? = some z):(zp p)[i]? = some (z:Rat):=by simp [zp,h]
theorem Qev (p:List Int) (i:Nat):(zp p).getD i 0=((p.getD i 0:Int):Rat):=by
 simp only [Qh,zp,Q9];cases p[i]? <;> rfl
def Rb (s:Nat) (p:List Rat):Prop:=∀ q∈p,Qs s q
theorem Rb.mono {s t:Nat} {p:List Rat} (h:Rb s p) (ht:s<=t):Rb t p:=λq hq=>(h q hq).mono ht
theorem Rb.get {s:Nat} {p:List Rat} (h:Rb s p) {i:Nat} {q:Rat} (hq:p[i]? = some q):Qs s q:=h q (Qa hq)
theorem B6 {s:Nat} {z:Int} (h:Ug z<=s) (h1:1<=s):Qs s (z:Rat):=⟨by simpa using h,Qc (show Ug ((1:Nat):Int)<=1 by decide) h1⟩
theorem Qbq {s:Nat} {p:List Int} (h:Bd s p) (h1:1<=s):Rb s (zp p):=λq hq=>by
 obtain ⟨z,hz,rfl⟩:=Zd.1 hq;exact B6 (h z hz) h1
theorem Zfe {s:Nat} (h1:1<=s):Qs s 0:=B6 (z:=0) (by simp [S0]) h1
theorem Rb.getD {s:Nat} {p:List Rat} (h:Rb s p) (h1:1<=s) (i:Nat):Qs s (p.getD i 0):=by
 rw [Qh];cases e:p[i]? with
 | none=>exact Zfe h1
 | some q=>exact h.get e
theorem Rb.trim {s:Nat} {p:List Rat} (h:Rb s p):Rb s (Nb p):=λq hq=>h q (Qnu p q hq)
def Im (f:Nat->Rat) (n:Nat):List Rat:=(List.range n).map f
theorem Qej (f:Nat->Rat) (n:Nat):(Im f n).length=n:=by simp [Im]
theorem Qnz (f:Nat->Rat) (n:Nat):Im f (n+1)=Im f n++[f n]:=by simp [Im,Kr]
theorem Zf3 {s n:Nat} {f:Nat->Rat} (h:∀ i,i<n->Qs s (f i)):Rb s (Im f n):=λq hq=>by
 obtain ⟨i,hi,rfl⟩:=Zd.1 hq;exact h i (V4.1 hi)
theorem Qii {f:Nat->Rat} {g:Nat->Int} (n:Nat) (h:∀ i,i<n->f i=(g i:Rat)):Im f n=zp ((List.range n).map g):=by
 simp only [Im,zp,List.map_map];exact Jg λi hi=>h i (V4.1 hi)
def Q36 (p q:List Rat):List Rat:=Nb (Im (λi=>p.getD i 0+q.getD i 0) (max p.length q.length))
def Sw (p:List Rat) (c:Rat):List Rat:=Nb (Im (λi=>p.getD i 0*c) p.length)
def Qqf (p:List Rat):List Rat:=Sw p (-1)
def Qk1 (p q:List Rat):List Rat:=Q36 p (Qqf q)
theorem Q1i (p q:List Int):Q36 (zp p) (zp q)=zp (D6 p q):=by
 unfold Q36 D6 Su;rw [Qii (g:=λk=>p.getD k 0+q.getD k 0) _ λi _=>by rw [Qev,Qev,Vz],Mz,Td,Td]
theorem Qnq (p:List Int) (c:Int):Sw (zp p) (c:Rat)=zp (Ux p c):=by
 unfold Sw Ux Su;rw [Qii (g:=λk=>p.getD k 0*c) _ λi _=>by rw [Qev,Xj],Mz,Td]
theorem Qxb (p:List Int):Ux p (-1)=Ta p:=by
 unfold Ux Ta Su;congr 2;funext k;omega
theorem Q1k (p:List Int):Qqf (zp p)=zp (Ta p):=by
 rw [<-Qxb,<-Qnq]; rfl
theorem Qgm {p q:List Int} (hp:W9 p) (hq:W9 q) (h:∀ k,p.getD k 0=q.getD k 0):p=q:=by
 have key:∀ {p q:List Int},W9 q->(∀ k,p.getD k 0=q.getD k 0)->q.length<=p.length:=by
  intro p q hq h;rcases Za p.length q.length with h1 | h1
  ·have h2:=Gn hq (by omega);rw [<-h,Qh,Qu (by omega)] at h2;exact (h2 rfl).elim
  ·exact h1
 exact Qjk (Ku (key hp λk=>(h k).symm) (key hq h)) λj _=>h j
theorem Qwb {n m:Nat} {f g:Nat->Int} (hn:n<=m) (h:∀ k,k<n->f k=g k) (h0:∀ k,n<=k->k<m->g k=0):Su n f=Su m g:=by
 refine Qgm (Ut _ _) (Ut _ _) λk=>?_
 rw [Sf,Sf];by_cases h1:k<n
 ·rw [if_pos h1,if_pos (by omega),h k h1]
 ·rw [if_neg h1];by_cases h2:k<m
  ·rw [if_pos h2,h0 k (by omega) h2]
  ·rw [if_neg h2]
theorem Zfk (p q:List Int):Qk1 (zp p) (zp q)=zp (S7 p q):=by
 unfold Qk1;rw [Q1k,Q1i];congr 1;have hl:=Dn q;unfold D6 S7;refine Qwb (by omega) (λk _=>?_) λk h1 h2=>?_
 ·unfold Ta;rw [Sf]
  split
  ·omega
  ·rename_i h;have:q.getD k 0=0:=by rw [Qh,Qu (by omega)]; rfl
   omega
 ·have h3:p.getD k 0=0:=by rw [Qh,Qu (by omega)]; rfl
  have h4:(Ta q).getD k 0=0:=by rw [Qh,Qu (by omega)]; rfl
  unfold Ta at h4;rw [Sf] at h4
  split at h4
  ·omega
  ·have:q.getD k 0=0:=by rw [Qh,Qu (by omega)]; rfl
   omega
structure Crv where
 x:List Int
 y:List Int
 d:Int
abbrev cl (k:Crv):List LV:=[pl k.x,pl k.y,sg k.d,mg k.d]
def Crv.d' (k:Crv):Int:=if k.d=0 then 1 else k.d
def Crv.g (k:Crv):Int:=if k.d'<0 then -((Gg (k.d'::(trim k.x++trim k.y)):Nat):Int) else (Gg (k.d'::(trim k.x++trim k.y)):Nat)
def Crv.norm (k:Crv):Crv:=⟨trim ((trim k.x).map (· / k.g)),trim ((trim k.y).map (· / k.g)),k.d' / k.g⟩
theorem I6 {l:List Int}:∀ z∈l,((Gg l:Nat):Int)∣z:=by
 have key:∀ (l:List Int) (g:Nat),(l.foldl (λg z=>Nat.gcd g z.natAbs) g∣g)/\∀ z∈l,l.foldl (λg z=>Nat.gcd g z.natAbs) g∣z.natAbs:=by
  intro l
  induction l with
  | nil=>intro g; exact ⟨Nat.dvd_refl _,by simp⟩
  |
   cons u l ih =>
   intro g;obtain ⟨h1,h2⟩:=ih (Nat.gcd g u.natAbs);refine ⟨Nat.dvd_trans h1 (Kc _ _),λz hz=>?_⟩;rcases Qo.1 hz with rfl | hz
   ·exact Nat.dvd_trans h1 (Wg _ _)
   ·exact h2 z hz
 intro z hz;have:=(key l 0).2 z hz;exact K7.2 this
theorem Crv.d'_ne (k:Crv):k.d'≠0:=by unfold Crv.d'; split <;> omega
theorem Crv.gcd_ne (k:Crv):Gg (k.d'::(trim k.x++trim k.y))≠0:=by
 intro e;have h:=I6 (l:=k.d'::(trim k.x++trim k.y)) k.d' (Qr ..);rw [e] at h;exact k.d'_ne (by simpa using h)
theorem Crv.g_ne (k:Crv):k.g≠0:=by
 have h0:=k.gcd_ne;unfold Crv.g
 split <;> omega
theorem Crv.g_dvd (k:Crv):∀ z∈k.d'::(trim k.x++trim k.y),z % k.g=0:=by
 intro z hz;have h:=I6 z hz;refine Jn ?_;unfold Crv.g
 split
 ·exact Wx.2 h
 ·exact h
theorem Crv.isz_g (k:Crv) {s:Nat} (h:Ug k.d'<=s):Ug k.g<=s:=by
 have hd:=I6 (l:=k.d'::(trim k.x++trim k.y)) k.d' (Qr ..);have hle:Gg (k.d'::(trim k.x++trim k.y))<=k.d'.natAbs:=Vs (by have:=k.d'_ne; omega) (K7.1 hd);refine Qc (Hb ?_) h;unfold Crv.g
 split <;> simp <;> exact hle
structure Cs (s n:Nat) (k:Crv):Prop where
 x:Bd s k.x
 y:Bd s k.y
 d:Ug k.d<=s
 lx:k.x.length<=n
 ly:k.y.length<=n
theorem Qpg {k:Crv} {s:Nat} (h:Ug k.d<=s) (h1:1<=s):Ug k.d'<=s:=by unfold Crv.d'; split <;> first | exact h1 | exact h
theorem Qe0 {s:Nat} {p:List Int} (h:Bd s p) (g:Int):Bd s (p.map (· / g)):=λz hz=>by
 obtain ⟨u,hu,rfl⟩:=Zd.1 hz;exact Qc (Oa u g) (h u hu)
theorem Cs.norm {s n:Nat} {k:Crv} (h:Cs s n k) (h1:1<=s):Cs s n k.norm:=by
 refine ⟨Hw (Qe0 (Hw h.x) _),Hw (Qe0 (Hw h.y) _),Qc (Oa _ _) (Qpg h.d h1),?_,?_⟩
 ·refine Qc (Gl _) ?_; rw [Q7]; exact Qc (Gl _) h.lx
 ·refine Qc (Gl _) ?_; rw [Q7]; exact Qc (Gl _) h.ly
theorem Cs.mono {s n t m:Nat} {k:Crv} (h:Cs s n k) (hs:s<=t) (hn:n<=m):Cs t m k:=⟨W4 h.x hs,W4 h.y hs,Qc h.d hs,Qc h.lx hn,Qc h.ly hn⟩
def Nml (k:Crv):Prop:=W9 k.x/\W9 k.y/\0<k.d/\Gg (k.d::(k.x++k.y))=1
theorem Crv.norm_of {k:Crv} (h:Nml k):k.norm=k:=by
 obtain ⟨h1,h2,h3,h4⟩:=h;have hd:k.d'=k.d:=by unfold Crv.d'; rw [if_neg (by omega)]
 have hx:trim k.x=k.x:=h1;have hy:trim k.y=k.y:=h2;have hg:k.g=1:=by unfold Crv.g; rw [hd,hx,hy,h4,if_neg (by omega)]; rfl
 unfold Crv.norm;rw [hg,hd,hx,hy];simp [hx,hy]
theorem Qo9 {l:List Int} {g:Int} (hg:g≠0) (hga:g.natAbs=Gg l):Gg (l.map (· / g))=1:=by
 have key:∀ (l:List Int) (a:Nat),(∀ z∈l,g∣z)->l.foldl (λa z=>Nat.gcd a z.natAbs) (a*g.natAbs)=((l.map (· / g)).foldl (λa z=>Nat.gcd a z.natAbs) a)*g.natAbs:=by
  intro l
  induction l with
  | nil=>intro a _; rfl
  |
   cons z l ih =>
   intro a h;simp only [Zv,Z4];have hz:z.natAbs=(z / g).natAbs*g.natAbs:=by
    obtain ⟨q,rfl⟩:=h z (Qr ..);rw [Xm _ hg,J0,Zi]
   rw [hz,Nat.gcd_mul_right];exact ih _ λu hu=>h u (Qi _ hu)
 have h:=key l 0 λz hz=>Xp.1 (by rw [hga]; exact Xp.2 (I6 z hz))
 rw [Ya] at h;have h':Gg l=Gg (l.map (· / g))*g.natAbs:=h;rw [<-hga] at h';have hp:0<g.natAbs:=by omega
 exact Nat.eq_of_mul_eq_mul_right hp (by rw [Wy]; exact h'.symm)
theorem Dz {l:List Int} {g:Int} (ht:W9 l) (hg:g≠0) (hd:∀ z∈l,g∣z):W9 (l.map (· / g)):=by
 induction l with
 | nil=>rfl
 |
  cons x l ih =>
  have hne:∀ z∈x::l,z≠0->z / g≠0:=λz hz h0 h1=>by
   obtain ⟨q,rfl⟩:=hd z hz;rw [Xm _ hg] at h1;rw [h1] at h0; simp at h0
  unfold W9 at ht ih ⊢;cases hl:trim l with
  |
   nil =>
   simp only [trim,hl] at ht
   split at ht
   ·cases ht
   ·rename_i hx;injection ht with _ h2;subst h2;simp [trim,hne x (Qr ..) hx]
  |
   cons y k =>
   simp only [trim,hl] at ht;injection ht with _ h2;have hll:trim l=l:=by rw [hl]; exact h2
   have ih:=ih hll λz hz=>hd z (Qi _ hz)
   rw [Zv];have hne2:l.map (· / g)≠[]:=by rw [<-hll,hl]; simp
   cases hm:l.map (· / g) with
   | nil=>exact absurd hm hne2
   |
    cons u w =>
    rw [hm] at ih;have e:trim (x / g::u::w)=match trim (u::w) with | []=>if x / g=0 then [] else [x / g] | y::k=>x / g::y::k:=rfl
    rw [e,ih]
theorem Crv.nml (k:Crv):Nml k.norm:=by
 have hg:=k.g_ne;have hdv:∀ z∈k.d'::(trim k.x++trim k.y),k.g∣z:=λz hz=>Yg (k.g_dvd z hz)
 have hx:=Dz (g:=k.g) (Gx k.x) hg λz hz=>hdv z (by simp [hz])
 have hy:=Dz (g:=k.g) (Gx k.y) hg λz hz=>hdv z (by simp [hz])
 refine ⟨Gx _,Gx _,?_,?_⟩
 ·show 0<k.d' / k.g;obtain ⟨q,hq⟩:=hdv k.d' (Qr ..);have h0:=k.d'_ne;have hgc:=k.gcd_ne;have e:k.d' / k.g=q:=by rw [hq,Xm _ hg]
  rw [e];unfold Crv.g at hq hg;have hq0:q≠0:=λe=>by rw [e,V1] at hq; exact h0 hq
  split at hq
  ·rename_i hneg;rcases K6 hq0 with h | h
   ·have:=Vx (a:=-((Gg (k.d'::(trim k.x++trim k.y)):Nat):Int)) (b:=q) (by omega) h;omega
   ·exact h
  ·rename_i hneg;rcases K6 hq0 with h | h
   ·have:=Vw (a:=((Gg (k.d'::(trim k.x++trim k.y)):Nat):Int)) (b:=q) (by omega) h;omega
   ·exact h
 ·show Gg (k.d' / k.g::(trim ((trim k.x).map (· / k.g))++trim ((trim k.y).map (· / k.g))))=1;rw [show trim ((trim k.x).map (· / k.g))=(trim k.x).map (· / k.g) from hx,show trim ((trim k.y).map (· / k.g))=(trim k.y).map (· / k.g) from hy,<-Xy,<-Zv (f:=(· / k.g))];refine Qo9 hg ?_;unfold Crv.g
  split <;> omega
structure Pt where
 c:Crv
 id:Int
def Gd (p:Pt):List LV:=[pl p.c.x,pl p.c.y,sg p.c.d,mg p.c.d,.int .i64 p.id]
def pts (l:List Pt):LV:=.row (l.map Gd)
def pos:List Pt->Int->Nat
 | [],_=>0
 | p::l,id=>if p.id<id then pos l id+1 else 0
def has (l:List Pt) (id:Int):Bool:=match l[pos l id]? with
 | some p=>decide (p.id=id)
 | none=>false
theorem Q9o (l:List Pt) (id:Int):pos l id<=l.length:=by
 induction l with
 | nil=>exact Qn _
 | cons p l ih=>simp only [pos]; split <;> simp <;> omega
theorem Qw9:∀ {l:List Pt} {id:Int} {k:Nat},(∀ j p,j<k->l[j]? = some p->p.id<id)->(k=l.length\/∃ p,l[k]? = some p/\¬p.id<id)->pos l id=k
 |
  [],id,k,_,h=>by
  rcases h with h | ⟨p,h,_⟩
  ·subst h; rfl
  ·simp at h
 |
  q::l,id,0,_,h=>by
  rcases h with h | ⟨p,h,h2⟩
  ·simp at h
  ·simp at h; subst h; simp [pos,h2]
 |
  q::l,id,k+1,h1,h=>by
  have hq:=h1 0 q (by omega) rfl;simp only [pos,hq,if_true];rw [Qw9 (k:=k) (λj p hj hp=>h1 (j+1) p (by omega) (by simpa using hp))];rcases h with h | ⟨p,h,h2⟩
  ·left; simpa using h
  ·right; exact ⟨p,by simpa using h,h2⟩
def put (l:List Pt) (q:Pt):List Pt:=l.take (pos l q.id)++q::l.drop (pos l q.id)
def O1 (l:List Pt) (q:Pt):Int:=if has l q.id=true then 6 else if 6<=l.length then 9 else 0
def Quz (s n:Nat) (p:Pt):Prop:=Nml p.c/\Cs s n p.c
theorem Q1d (l:List Pt) (q:Pt):(put l q).length=l.length+1:=by
 have:=Q9o l q.id;simp [put]; omega
theorem Q1e {l:List Pt} {q p:Pt} (h:p∈put l q):p=q\/p∈l:=by
 unfold put at h;rcases Qw.1 h with h | h
 ·exact .inr (Ql h)
 ·rcases Qo.1 h with h | h
  ·exact .inl h
  ·exact .inr (Qz h)
def Rj:List Pt->List Pt->List Pt×Int
 | acc,[]=>(acc,0)
 | acc,q::qs=>if O1 acc q=0 then Rj (put acc q) qs else ([],O1 acc q)
def El (a b:Crv):Bool:=decide (a.x=b.x/\a.y=b.y/\a.d=b.d)
def D4 (out:List Pt) (p:Pt):List Pt:=if out.any (λq=>El p.c q.c)=true then out else out++[p]
def D3 (l:List Pt):List Pt:=l.foldl D4 []
theorem Q4n {out:List Pt} {p q:Pt} (h:q∈D4 out p):q∈out\/q=p:=by
 unfold D4 at h
 split at h
 ·exact .inl h
 ·rcases Qw.1 h with h | h
  ·exact .inl h
  ·exact .inr (by simpa using h)
theorem Q4m (out:List Pt) (p:Pt):(D4 out p).length<=out.length+1:=by
 unfold D4; split <;> simp
theorem He {α β:Type} (f:β->α->β) (b:β) (l:List α) {i:Nat} {x:α} (h:l[i]? = some x):(l.take (i+1)).foldl f b=f ((l.take i).foldl f b) x:=by
 rw [Yc,h]; simp [Yu]
theorem Qbw (l:List Pt) (i:Nat):∀ q∈(l.take i).foldl D4 [],q∈l:=by
 induction i with
 | zero=>simp
 |
  succ i ih =>
  intro q hq;cases hi:l[i]? with
  |
   none =>
   rw [Qj (by have:=Ji.1 hi; omega)] at hq;rw [Qj (Ji.1 hi)] at ih;exact ih q hq
  |
   some x =>
   rw [He _ _ _ hi] at hq;rcases Q4n hq with h | h
   ·exact ih q h
   ·subst h; exact Qa hi
theorem Qbv (l:List Pt) (i:Nat):((l.take i).foldl D4 []).length<=i:=by
 induction i with
 | zero=>simp
 |
  succ i ih =>
  cases hi:l[i]? with
  |
   none =>
   rw [Qj (by have:=Ji.1 hi; omega)];rw [Qj (Ji.1 hi)] at ih;omega
  |
   some x =>
   rw [He _ _ _ hi];have:=Q4m ((l.take i).foldl D4 []) x;omega
theorem Qlg {l:List Pt} {q:Pt} (h:q∈D3 l):q∈l:=by
 have:=Qbw l l.length q;rw [Q4] at this;exact this h
theorem Qag (l:List Pt):(D3 l).length<=l.length:=by
 have:=Qbv l l.length;rwa [Q4] at this
def IsPt (s n:Nat) (z:List LV) (q:Pt):Prop:=∃ lx ly b l px py d,z=[.row lx,.row ly,.bool b,Zkf l,.int .i64 q.id]/\IsInts lx px/\IsInts ly py/\G7 (.bool b) (Zkf l) d/\Cs s n ⟨px,py,d⟩/\q.c=Crv.norm ⟨px,py,d⟩
theorem Zi8 {s n:Nat} {p:Pt} (h:Quz s n p):IsPt s n (Gd p) p:=by
 obtain ⟨b,l,h1,h2,h3,h4⟩:=W6 p.c.d;refine ⟨_,_,decide (p.c.d<0),Un p.c.d.natAbs,_,_,p.c.d,rfl,Fz _,Fz _,W6 _,h.2,(Crv.norm_of h.1).symm⟩
def IsPts (s n:Nat):List (List LV)->List Pt->Prop
 | [],[]=>True
 | z::zs,q::qs=>IsPt s n z q/\IsPts s n zs qs
 | _,_=>False
theorem IsPts.len {s n:Nat}:∀ {zs:List (List LV)} {qs:List Pt},IsPts s n zs qs->zs.length=qs.length
 | [],[],_=>rfl
 | _::_,_::_,h=>by simp [h.2.len]
 | [],_::_,h=>h.elim
 | _::_,[],h=>h.elim
theorem IsPts.get {s n:Nat}:∀ {zs:List (List LV)} {qs:List Pt},IsPts s n zs qs->∀ {i:Nat} {q:Pt},qs[i]? = some q->∃ z,zs[i]? = some z/\IsPt s n z q
 | [],[],_,i,q,h=>by simp at h
 | z::zs,q::qs,h,0,r,hr=>by simp at hr; subst hr; exact ⟨z,rfl,h.1⟩
 | z::zs,q::qs,h,i+1,r,hr=>by simpa using h.2.get (i:=i) (by simpa using hr)
 | [],_::_,h,_,_,_=>h.elim
 | _::_,[],h,_,_,_=>h.elim
theorem Qz7 {s n:Nat}:∀ {l:List Pt},(∀ p∈l,Quz s n p)->IsPts s n (l.map Gd) l
 | [],_=>trivial
 | p::l,h=>⟨Zi8 (h p (Qr ..)),Qz7 λq hq=>h q (Qi _ hq)⟩
theorem IsPt.ok {s n:Nat} {z:List LV} {q:Pt} (h:IsPt s n z q) (h1:1<=s):Quz s n q:=by
 obtain ⟨lx,ly,b,l,px,py,d,_,_,_,_,hc,e⟩:=h;unfold Quz;rw [e];exact ⟨Crv.nml _,hc.norm h1⟩
theorem Q3u (acc qs:List Pt) {i:Nat} {q:Pt} (hi:qs[i]? = some q) (h:Rj acc (qs.take i)=((Rj acc (qs.take i)).1,0)):Rj acc (qs.take (i+1))=if O1 (Rj acc (qs.take i)).1 q=0 then (put (Rj acc (qs.take i)).1 q,0) else ([],O1 (Rj acc (qs.take i)).1 q):=by
 induction qs generalizing acc i with
 | nil=>simp at hi
 |
  cons x qs ih =>
  cases i with
  | zero=>simp at hi; subst hi; simp [Rj]
  |
   succ i =>
   simp only [Yj,Rj] at h ⊢;by_cases h0:O1 acc x=0
   ·simp only [h0,if_true] at h ⊢;exact ih (put acc x) (by simpa using hi) h
   ·simp only [h0,if_false] at h;injection h with _ h;exact absurd h h0
theorem Q84 (acc qs:List Pt) {i:Nat} {e:Int} (he:e≠0) (h:Rj acc (qs.take i)=([],e)):Rj acc qs=([],e):=by
 induction qs generalizing acc i with
 | nil=>simp [Rj] at h; exact absurd h.2.symm he
 |
  cons x qs ih =>
  cases i with
  | zero=>simp [Rj] at h; exact absurd h.2.symm he
  |
   succ i =>
   simp only [Yj,Rj] at h ⊢;by_cases h0:O1 acc x=0
   ·simp only [h0,if_true] at h ⊢; exact ih _ h
   ·simp only [h0,if_false] at h ⊢; exact h
def Fj (p:List Int) (q:Rat):Int:=Mc (Zfa p q.num q.den) 0
abbrev qa (q:Rat):List LV:=pl [-q.num,(q.den:Int)]::(rl q++rl q)
def Ho (sgn:List Int->Int):Nat->List Int->Int
 | 0,_=>0
 | k+1,p=>if p.length=0 then 0 else if sgn p=0 then Ho sgn k (U3 p) else sgn p
theorem I7 (sgn:List Int->Int):∀ (k:Nat) (p:List Int),p.length<=k->Ho sgn k p=Ho sgn p.length p
 |
  0,p,h=>by
  have:p.length=0:=by omega
  rw [this]
 |
  k+1,p,h=>by
  cases hp:p.length with
  | zero=>simp [Ho,hp]
  |
   succ m =>
   simp only [Ho];have h1:=Tq p;rw [I7 sgn k (U3 p) (by omega),I7 sgn m (U3 p) (by omega)]
theorem Qgr (sgn:List Int->Int) {p:List Int} (h:p.length=0):Ho sgn p.length p=0:=by rw [h]; rfl
theorem Qgp (sgn:List Int->Int) {p:List Int} (h:0<p.length) (hs:sgn p≠0):Ho sgn p.length p=sgn p:=by
 obtain ⟨m,hm⟩:∃ m,p.length=m+1:=⟨p.length-1,by omega⟩;rw [hm]; simp only [Ho]; rw [if_neg (by omega),if_neg hs]
theorem Qgq (sgn:List Int->Int) {p:List Int} (h:0<p.length) (hs:sgn p=0):Ho sgn p.length p=Ho sgn (U3 p).length (U3 p):=by
 obtain ⟨m,hm⟩:∃ m,p.length=m+1:=⟨p.length-1,by omega⟩;rw [hm]; simp only [Ho]; rw [if_neg (by omega),if_pos hs];exact I7 sgn m _ (by have:=Tq p; omega)
structure Tm where
 p:List Int
 lo:Rat
 hi:Rat
abbrev ta (t:Tm):List LV:=pl t.p::(rl t.lo++rl t.hi)
abbrev tq (q:Rat):Tm:=⟨[-q.num,(q.den:Int)],q,q⟩
def Bj (sg:List Int->Int) (p:List Int):Int:=Ho sg p.length p
def Qjx (p:List Int) (q:Rat):Int:=Bj (λp=>Fj p q) p
structure Pb (p:List Int):Prop where
 t:W9 p
 l:p.length<=64
 b:Bd 16777216 p
abbrev Qb (q:Rat):Prop:=Qs 16777216 q
abbrev Cb (k:Crv):Prop:=Cs 1048576 16 k
def Zjq (a b:Crv):List Int:=S7 (Ux b.x a.d) (Ux a.x b.d)
def Zjo (a b:Crv):List Int:=S7 (Ux b.y a.d) (Ux a.y b.d)
def Q9k (sg:List Int->Int) (a b:Pt):List (List Int)->Bool
 | []=>decide (a.id<b.id)
 | p::l=>if 0<p.length then decide (0<Bj sg p) else Q9k sg a b l
def Qu7 (sg:List Int->Int) (a b:Pt):Bool:=Q9k sg a b [Zjq a.c b.c,Zjo a.c b.c]
end Orr
namespace Orr
open Go
structure Ct where
 kind:Int
 i0:Int
 i1:Int
 i2:Int
 i3:Int
 p:List Int
 want:Int
abbrev Qdu (c:Ct):List LV:=[.int .i64 c.kind,.int .i64 c.i0,.int .i64 c.i1,.int .i64 c.i2,.int .i64 c.i3,pl c.p,.int .i64 c.want]
def G8:List Int->List Int->Bool
 | x::l,y::m=>if x=y then G8 l m else decide (x<y)
 | _,_=>false
def M7 (a b:Ct):Bool:=G8 [a.kind,a.i0,a.i1,a.i2,a.i3] [b.kind,b.i0,b.i1,b.i2,b.i3]
def Ow (out:List Ct) (c:Ct):Nat->Nat
 | 0=>0
 |
  k+1=>match out[k]? with
  | some x=>if M7 c x=true then Ow out c k else k+1
  | none=>k+1
theorem Q06 (out:List Ct) (c:Ct):∀ k,Ow out c k<=k
 | 0=>Qn _
 |
  k+1=>by
  simp only [Ow]
  split
  ·split
   ·exact Nat.le_succ_of_le (Q06 out c k)
   ·exact Qn _
  ·exact Qn _
theorem Ze2 {out:List Ct} {c x:Ct} {k:Nat} (hx:out[k]? = some x) (h:M7 c x=true):Ow out c (k+1)=Ow out c k:=by
 simp only [Ow,hx,h,if_true]
theorem Q9n {out:List Ct} {c x:Ct} {k:Nat} (hx:out[k]? = some x) (h:M7 c x=false):Ow out c (k+1)=k+1:=by
 simp [Ow,hx,h]
def Qb8 (out:List Ct) (c:Ct):List Ct:=out.take (Ow out c out.length)++c::out.drop (Ow out c out.length)
theorem Q8f (out:List Ct) (c:Ct):(Qb8 out c).length=out.length+1:=by
 have:=Q06 out c out.length;simp [Qb8]; omega
theorem Q8g {out:List Ct} {c x:Ct} (h:x∈Qb8 out c):x=c\/x∈out:=by
 simp only [Qb8,Qw,Qo] at h;rcases h with h | h | h
 ·exact .inr (Ql h)
 ·exact .inl h
 ·exact .inr (Qz h)
def Ge (l:List Ct):List Ct:=l.foldl Qb8 []
theorem Qxx (l:List Ct) (c:Ct):Ge (l++[c])=Qb8 (Ge l) c:=by simp [Ge,Yu]
theorem Qxy {l:List Ct} {i:Nat} {c:Ct} (h:l[i]? = some c):Ge (l.take (i+1))=Qb8 (Ge (l.take i)) c:=by
 rw [Z1,h]; exact Qxx _ _
theorem Qmp:∀ (l acc:List Ct),(l.foldl Qb8 acc).length=acc.length+l.length
 | [],acc=>by simp
 | c::l,acc=>by simp only [Z4]; rw [Qmp l (Qb8 acc c),Q8f]; simp; omega
theorem Cz (l:List Ct):(Ge l).length=l.length:=by unfold Ge; rw [Qmp]; simp
theorem Qmq:∀ (l acc:List Ct) {x:Ct},x∈l.foldl Qb8 acc->x∈l\/x∈acc
 | [],acc,x,h=>.inr h
 |
  c::l,acc,x,h=>by
  simp only [Z4] at h;rcases Qmq l _ h with h | h
  ·exact .inl (Qi _ h)
  ·rcases Q8g h with rfl | h
   ·exact .inl (Qr ..)
   ·exact .inr h
theorem Qa4 {l:List Ct} {x:Ct} (h:x∈Ge l):x∈l:=by
 rcases Qmq l [] h with h | h
 ·exact h
 ·cases h
theorem Qss {α:Type} (l:List α) (z x:α) {k m':Nat} (hk:k<=l.length) (hm:m'=l.length-k) :
 ((l++[z]).take (k+1)++((l++[z]).drop k).take m'++(l++[z]).drop (k+1+m')).set k x=l.take k++x::l.drop k:=by
 subst hm;have e1:((l++[z]).drop k).take (l.length-k)=l.drop k:=by
  rw [Ve hk,Yf (by simp),Qj (by simp)]
 have e2:(l++[z]).drop (k+1+(l.length-k))=[]:=Yk (by simp; omega);rw [e1,e2,Xd];have e3:(l++[z]).take (k+1)=(l++[z]).take k++[(l++[z])[k]'(by simp; omega)]:=by rw [List.take_succ_eq_append_getElem]
 rw [e3,Yf hk,Ze,List.set_append,if_neg (by simp; omega)];simp [Zq hk]
end Orr
namespace Orr
open Go Go.Proofs
set_option maxRecDepth 10000
abbrev pr (p:List Int):TV:=.one (pl p)
theorem Rp {p:List Int} {i:Nat} {z:Int} (h:p[i]? = some z):(p.map Fp)[i]? = some (Fp z):=Fb h
theorem Qiz (p:List Int):W5 Tryz.prog 158 [pr p] [pr (trim p)]:=by
 refine Fq Tryz.func158 rfl (ln 0 rfl rfl λhl=>?_);rw [Q7] at hl;refine go tt [] rfl trivial ?_;refine lp (S:=Nat) 0 (λL1 n=>(3,.v (.one (.int .i64 (n:Int))))::L1) (λ_=>[]) id (λn=>n<=p.length/\∀ j x,n<=j->p[j]? = some x->x=0) (p.map Fp).length ⟨by simp,λj x h1 h2=>by
  have:=(Qd.1 h2).1; simp at h1; omega⟩ rfl (λ_ _=>rfl) rfl λn ⟨h1,h2⟩=>?_
 cases n with
 | zero=>exact en tt [.f (by simp),.f rfl,.i 0] rfl (by rw [Qui h1 h2 (λh=>by omega)]; simp [pl]) (by simp [W3])
 |
  succ n =>
  obtain ⟨x,hx⟩:=gxE (l:=p) (i:=n) (by omega);by_cases h0:x=0
  ·refine go tt [.t (by simp),.r 11 (v:=.one (.int .i64 (n:Int))) (by simp),.x (Rp hx),.c [] Lu,.t (by simp [h0]),.r 17 (v:=.one (.int .i64 (n:Int))) (by simp)] rfl (by simp [W3]; omega) ?_;exact rd n (by simp) ⟨by omega,λj y h3 h4=>by
    rcases Y5 h3 with rfl | h3
    ·rw [hx] at h4; injection h4 with h4; rw [<-h4,h0]
    ·exact h2 j y h3 h4⟩ rfl
  ·exact en tt [.t (by simp),.r 11 (v:=.one (.int .i64 (n:Int))) (by simp),.x (Rp hx),.c [] Lu,.f (by simp [h0]),.i (n+1)] rfl (by rw [Qui h1 h2 (λ_=>⟨x,hx,h0⟩)]; simp [pl,Yd]) (by simp [W3] <;> omega)
theorem Qy2 (p:List Int) (k:Nat):W5 Tryz.prog 244 [pr p,.one (.int .i64 (k:Int))] [.agg (Fp (p.getD k 0))]:=by
 by_cases h:k<p.length
 ·have hx:=Qf h;have e:p.getD k 0=p[k]:=by simp [List.getD,hx]
  rw [e];exact w tt Tryz.func244 rfl [.t (by simp; omega),.x (Rp hx)] rfl rfl trivial
 ·have e:p.getD k 0=0:=by simp [List.getD,Qu (Yx h)]
  rw [e,Ds];exact w tt Tryz.func244 rfl [.f (by simp; omega)] rfl rfl trivial
def fil (f:Nat->List LV) (z:List LV) (n k:Nat):List (List LV):=(List.range n).map λi=>if i<k then f i else z
theorem Ll (f:Nat->List LV) (z:List LV) (n k:Nat):(fil f z n k).length=n:=by simp [fil]
theorem Df (f:Nat->List LV) (z:List LV) (n:Nat):List.replicate n z=fil f z n 0:=by
 refine Xf λi=>?_
 simp only [fil,Jp,Q9];by_cases h:i<n
 ·simp [h]
 ·simp [h]
theorem A1 (f:Nat->List LV) (z:List LV) (n:Nat):fil f z n n=(List.range n).map f:=by
 refine Jg λi hi=>?_
 rw [if_pos (V4.1 hi)]
theorem A2 (f:Nat->List LV) (z:List LV) {n k:Nat} (h:k<n):(fil f z n k).set k (f k)=fil f z n (k+1):=by
 refine Xf λi=>?_
 rw [Yb];simp only [fil,Q9,Q7,List.length_range,h,if_true];by_cases e:k=i
 ·subst e; simp [h]
 ·simp only [e,if_false];by_cases hi:i<n
  ·simp only [Xs hi,Jt];congr 1;by_cases h2:i<k
   ·rw [if_pos h2,if_pos (by omega)]
   ·rw [if_neg h2,if_neg (by omega)]
  ·simp [Qu,hi]
theorem Qoq {n fid:Nat} {l1 l2:List LV} {g:Nat->Int} (hn:n<274877906944) (h:∀ k,k<n->W5 Tryz.prog fid [.one (.int .i64 (k:Int)),.one (.sh l1),.one (.sh l2)] [.agg (Fp (g k))]):W5 Tryz.prog 240 [.one (.int .i64 (n:Int)),.one (.fn fid [] [.sh l1,.sh l2])] [pr (Su n g)]:=by
 refine Fq Tryz.func240 rfl ?_;refine go tt [.i n,.i n,.r 10 (eI (b:=(n:Int)) (by simp))] rfl (by simp [W3]; omega) ?_;rw [Df λk=>Fp (g k)];refine lp (S:=Nat) 1 (λL1 k=>(11,.v (.one (.int .i64 (k:Int))))::L1) (λk=>[.row false 55 2 (fil (λk=>Fp (g k)) [.bool false,.nils] n k)]) (λk=>n-k) (λk=>k<=n) 0 (Qg _) rfl (λ_ _=>rfl) rfl λk hk=>?_
 by_cases hlt:k<n
 ·refine go tt [.t (by simp; omega),.c [] (h k hlt),.i k] rfl (by simp [W3,Ll]; omega) ?_;have e:=A2 (λk=>Fp (g k)) [.bool false,.nils] hlt;rw [e];exact rd (k+1) (by omega) hlt rfl
 ·obtain rfl:k=n:=by omega
  have e:fil (λk=>Fp (g k)) [.bool false,.nils] k k=((List.range k).map g).map Fp:=by rw [A1]; simp
  rw [e];exact en tt [.f (by simp),.c [] (Qiz _)] rfl rfl trivial
theorem Qyz {n fid:Nat} {l1:List LV} {g:Nat->Int} (hn:n<274877906944) (h:∀ k,k<n->W5 Tryz.prog fid [.one (.int .i64 (k:Int)),.one (.sh l1)] [.agg (Fp (g k))]):W5 Tryz.prog 240 [.one (.int .i64 (n:Int)),.one (.fn fid [] [.sh l1])] [pr (Su n g)]:=by
 refine Fq Tryz.func240 rfl ?_;refine go tt [.i n,.i n,.r 10 (eI (b:=(n:Int)) (by simp))] rfl (by simp [W3]; omega) ?_;rw [Df λk=>Fp (g k)];refine lp (S:=Nat) 1 (λL1 k=>(11,.v (.one (.int .i64 (k:Int))))::L1) (λk=>[.row false 55 2 (fil (λk=>Fp (g k)) [.bool false,.nils] n k)]) (λk=>n-k) (λk=>k<=n) 0 (Qg _) rfl (λ_ _=>rfl) rfl λk hk=>?_
 by_cases hlt:k<n
 ·refine go tt [.t (by simp; omega),.c [] (h k hlt),.i k] rfl (by simp [W3,Ll]; omega) ?_;have e:=A2 (λk=>Fp (g k)) [.bool false,.nils] hlt;rw [e];exact rd (k+1) (by omega) hlt rfl
 ·obtain rfl:k=n:=by omega
  have e:fil (λk=>Fp (g k)) [.bool false,.nils] k k=((List.range k).map g).map Fp:=by rw [A1]; simp
  rw [e];exact en tt [.f (by simp),.c [] (Qiz _)] rfl rfl trivial
theorem Zh3 {p q:List Int} (k:Nat) (hp:Bd 4294967295 p) (hq:Bd 4294967295 q):W5 Tryz.prog 248 [.one (.int .i64 (k:Int)),.one (.sh [pl p]),.one (.sh [pl q])] [.agg (Fp (p.getD k 0+q.getD k 0))] :=
 w tt Tryz.func248 rfl [.c [] (Qy2 p k),.c [] (Qy2 q k),.c [] (Qb0 (W6 _) (W6 _) (Ui hp k) (Ui hq k))] rfl rfl trivial
theorem Zic {p q:List Int} (k:Nat) (hp:Bd 4294967295 p) (hq:Bd 4294967295 q):W5 Tryz.prog 243 [.one (.int .i64 (k:Int)),.one (.sh [pl p]),.one (.sh [pl q])] [.agg (Fp (p.getD k 0-q.getD k 0))] :=
 w tt Tryz.func243 rfl [.c [] (Qy2 p k),.c [] (Qy2 q k),.c [] (Q58 (W6 _) (W6 _) (Ui hp k) (Ui hq k))] rfl rfl trivial
theorem Gt {p:List Int} {k:Nat} (h:k<p.length):p[k]? = some (p.getD k 0):=by simp [List.getD,Qf h]
theorem Q52 {p:List Int} {c:Int} {k:Nat} (hk:k<p.length) (hp:Bd 4294967295 p) (hc:Ug c<=4294967295):W5 Tryz.prog 245 [.one (.int .i64 (k:Int)),.one (.sh [pl p]),.one (.sh (Fp c))] [.agg (Fp (p.getD k 0*c))] :=
 w tt Tryz.func245 rfl [.x (Rp (Gt hk)),.c [] (C5 (W6 _) (W6 _) (Ui hp k) hc)] rfl rfl trivial
theorem Zh9 {p:List Int} {k:Nat} (hk:k<p.length) (hp:Bd 4294967295 p):W5 Tryz.prog 285 [.one (.int .i64 (k:Int)),.one (.sh [pl p])] [.agg (Fp (-(p.getD k 0)))] :=
 w tt Tryz.func285 rfl [.x (Rp (Gt hk)),.c [] (Qiv (W6 _) (Ui hp k))] rfl rfl trivial
theorem Q2i {p:List Int} {k:Nat} (hk:k+1<p.length) (hl:p.length<274877906944) (hp:Bd 4294967295 p):W5 Tryz.prog 241 [.one (.int .i64 (k:Int)),.one (.sh [pl p])] [.agg (Fp (p.getD (k+1) 0*((k+1:Nat):Int)))] :=
 w tt Tryz.func241 rfl [.x (Rp (Gt hk)),.r 10 (eI (b:=((k+1:Nat):Int)) (by omega)),.c [] (Qvl (by omega)),.c [] (C5 (W6 _) (W6 _) (Ui hp _) (Q3i (show k+1<274877906944 by omega)))] rfl rfl (by simp [W3] <;> omega)
theorem Qvm {p q:List Int} (hlp:p.length<274877906944) (hlq:q.length<274877906944) (hp:Bd 4294967295 p) (hq:Bd 4294967295 q):W5 Tryz.prog 214 [pr p,pr q] [pr (D6 p q)] :=
 w tt Tryz.func214 rfl [.r 9 (eI (b:=((max p.length q.length:Nat):Int)) (by simp; omega)),.c [] (Qoq (by omega) λk _=>Zh3 k hp hq)] rfl rfl trivial
theorem Qvn {p q:List Int} (hlp:p.length<274877906944) (hlq:q.length<274877906944) (hp:Bd 4294967295 p) (hq:Bd 4294967295 q):W5 Tryz.prog 208 [pr p,pr q] [pr (S7 p q)] :=
 w tt Tryz.func208 rfl [.r 9 (eI (b:=((max p.length q.length:Nat):Int)) (by simp; omega)),.c [] (Qoq (by omega) λk _=>Zic k hp hq)] rfl rfl trivial
theorem Q5v {p:List Int} (hlp:p.length<274877906944) (hp:Bd 4294967295 p):W5 Tryz.prog 260 [pr p] [pr (Ta p)] :=
 w tt Tryz.func260 rfl [.r 4 (eI (b:=(p.length:Int)) (by simp)),.c [] (Qyz hlp λk hk=>Zh9 hk hp)] rfl rfl trivial
theorem Qc1 {p:List Int} {c:Int} (hlp:p.length<274877906944) (hp:Bd 4294967295 p) (hc:Ug c<=4294967295):W5 Tryz.prog 209 [pr p,.agg (Fp c)] [pr (Ux p c)] :=
 w tt Tryz.func209 rfl [.r 6 (eI (b:=(p.length:Int)) (by simp)),.c [] (Qoq hlp λk hk=>Q52 hk hp hc)] rfl rfl trivial
theorem Ei {p:List Int} (hlp:p.length<274877906944) (hp:Bd 4294967295 p):W5 Tryz.prog 202 [pr p] [pr (U3 p)] :=
 w tt Tryz.func202 rfl [.r 6 (eI (b:=((p.length-1:Nat):Int)) (by simp; omega)),.c [] (Qyz (by omega) λk hk=>Q2i (by omega) hlp hp)] rfl rfl (by simp [W3]; omega)
theorem Cd {ls:List (List LV)} {p:List Int} (hi:IsInts ls p) (hl:p.length<274877906944) (hs:Bd 4294967295 p):W5 Tryz.prog 126 [.one (.row ls)] [pr (trim p)]:=by
 refine Fq Tryz.func126 rfl ?_;have hlen:=hi.len;refine go tt [.i ls.length,.i ls.length] rfl (by simp [W3]; omega) ?_;rw [Df λk=>Fp (p.getD k 0)];refine lp (S:=Nat) 1 (λL1 k=>(11,.v (.one (.int .i64 (k:Int))))::L1) (λk=>[.row false 55 2 (fil (λk=>Fp (p.getD k 0)) [.bool false,.nils] ls.length k)]) (λk=>ls.length-k) (λk=>k<=ls.length) 0 (Qg _) rfl (λ_ _=>rfl) rfl λk hk=>?_
 by_cases hlt:k<ls.length
 ·obtain ⟨x,y,hx,hxy⟩:=hi.get (Gt (p:=p) (k:=k) (by omega));have cn:=Ce hxy (Ui hs k);obtain ⟨b,l,rfl,rfl,_⟩:=hxy;refine go tt [.t (by simp; omega),.x hx,.c [] cn,.i k] rfl (by simp [W3,Ll]; omega) ?_;have e:=A2 (λk=>Fp (p.getD k 0)) [.bool false,.nils] hlt;rw [e];exact rd (k+1) (by omega) hlt rfl
 ·obtain rfl:k=ls.length:=by omega
  have e:fil (λk=>Fp (p.getD k 0)) [.bool false,.nils] ls.length ls.length=p.map Fp:=by
   rw [A1,hlen];refine Xf λi=>?_
   by_cases hi:i<p.length
   ·simp [Xs hi,List.getD,Qf hi]
   ·simp [Qu,hi]
  rw [e];exact en tt [.f (by simp),.c [] (Qiz _)] rfl rfl trivial
theorem Gi {p:List Int} (ht:W9 p) (hl:p.length<274877906944) (hs:Bd 4294967295 p):W5 Tryz.prog 126 [pr p] [pr p]:=by
 have:=Cd (Fz p) hl hs;rw [ht] at this; exact this
theorem Zd7 {p:List Int} {i:Nat} {z:Int} (h:p[i]? = some z):(p.map λ(x:Int)=>[LV.int .i64 x])[i]? = some [.int .i64 z]:=Fb h
theorem Qyt {p:List Int} (hl:p.length<274877906944) (hr:∀ z∈p,-9223372036854775808≤z/\z≤9223372036854775807):W5 Tryz.prog 114 [.one (ids p)] [pr (trim p)]:=by
 refine Fq Tryz.func114 rfl ?_;refine go tt [.r 7 (eI (b:=(p.length:Int)) (by simp)),.i p.length,.i p.length,.r 10 (eI (b:=(p.length:Int)) (by simp))] rfl (by simp [W3]; omega) ?_;rw [Df λk=>Fp (p.getD k 0)];refine lp (S:=Nat) 1 (λL1 k=>(11,.v (.one (.int .i64 (k:Int))))::L1) (λk=>[.row false 55 2 (fil (λk=>Fp (p.getD k 0)) [.bool false,.nils] p.length k)]) (λk=>p.length-k) (λk=>k<=p.length) 0 (Qg _) rfl (λ_ _=>rfl) rfl λk hk=>?_
 by_cases hlt:k<p.length
 ·have hg:=Gt hlt;refine go tt [.t (by simp; omega),.x (Zd7 hg),.c [] (Qvl (hr _ (Qa hg))),.i k] rfl (by simp [W3,Ll]; omega) ?_;have e:=A2 (λk=>Fp (p.getD k 0)) [.bool false,.nils] hlt;rw [e];exact rd (k+1) (by omega) hlt rfl
 ·obtain rfl:k=p.length:=by omega
  have e:fil (λk=>Fp (p.getD k 0)) [.bool false,.nils] p.length p.length=p.map Fp:=by
   rw [A1];refine Xf λi=>?_
   by_cases hi:i<p.length
   ·simp [Xs hi,List.getD,Qf hi]
   ·simp [Qu,hi]
  rw [e];exact en tt [.f (by simp),.c [] (Qiz _)] rfl rfl trivial
theorem Qw6 (l:List Int) (i:Nat) (z:Int):(l.map Fp).set i (Fp z)=(l.set i z).map Fp:=by rw [Ym]
theorem Qia (m:Nat):((List.replicate m [LV.bool false,LV.nils]).map λc=>c.map Qhd)=(List.replicate m (0:Int)).map Fp:=by
 simp [Ds,Qhd]
theorem Qoj {p0 q:List Int} {s t:Nat} (tq:W9 q) (hlp:p0.length<137438953472) (hlq:q.length<137438953472) (hp:Bd s p0) (hq:Bd t q) (hst:s+t<=4294967000):W5 Tryz.prog 215 [pr p0,pr q] [pr (Um (trim p0) q)]:=by
 have cp:=Cd (Fz p0) (by omega) (W4 hp (show s<=4294967295 by omega));have hp:=Hw hp;have hlp:=Zs (Gl p0) hlp;obtain ⟨p,ep⟩:=nmE (trim p0);rw [<-ep] at cp hp hlp ⊢;have cq:=Gi tq (by omega) (W4 hq (show t<=4294967295 by omega));by_cases h0:p.length=0
 ·have e:Um p q=[]:=by unfold Um; rw [if_pos (.inl h0)]
  rw [e];exact w tt Tryz.func215 rfl [.c [] cp,.c [] cq,.t (by simp; exact Qk h0),.t rfl] rfl rfl trivial
 by_cases h1:q.length=0
 ·have e:Um p q=[]:=by unfold Um; rw [if_pos (.inr h1)]
  rw [e];exact w tt Tryz.func215 rfl [.c [] cp,.c [] cq,.f (by simp; intro h; subst h; simp at h0),.t (by simp; exact Qk h1)] rfl rfl trivial
 refine Fq Tryz.func215 rfl ?_;have e:Um p q=trim (By p q (List.replicate (p.length+q.length-1) 0) p.length):=by unfold Um; rw [if_neg (by omega)]
 rw [e];obtain ⟨N,hN⟩:=nmE (p.length+q.length-1);rw [<-hN];obtain ⟨o,ho⟩:=nmE (List.replicate N (0:Int));rw [<-ho];have hol:o.length=N:=by rw [ho]; simp
 have ho0:∀ m,o.getD m 0=0:=λm=>by rw [ho]; exact To N m
 refine go tt [.c [] cp,.c [] cq,.f (by simp; intro h; subst h; simp at h0),.f (by simp; intro h; subst h; simp at h1),.r 27 (eI (b:=(N:Int)) (by simp; omega)),.i N,.i N] rfl (by simp [W3]; omega) ?_;refine nl 0 rfl rfl rfl ?_;rw [Qia,<-ho];refine lp (S:=Nat) 1 (λL1 i=>(31,.v (.one (.int .i64 (i:Int))))::L1) (λi=>[.row false 55 2 ((By p q o i).map Fp)]) (λi=>p.length-i) (λi=>i<=p.length) 0 (Qg _) rfl (λ_ _=>rfl) rfl λi hi=>?_
 by_cases hlt:i<p.length
 ·refine go tt [.t (by simp; omega),.x (Rp (Gt hlt))] rfl trivial ?_;refine lp (S:=Nat) 2 (λL1 k=>(38,.v (.one (.int .i64 (k:Int))))::L1) (λk=>[.row false 55 2 ((Ex (p.getD i 0) q i (By p q o i) k).map Fp),.blk 55 (Fp (p.getD i 0))]) (λk=>q.length-k) (λk=>k<=q.length) 0 (Qg _) rfl (λ_ _=>rfl) rfl λk hk=>?_
  by_cases hk2:k<q.length
  ·have hm1:Ug ((Ex (p.getD i 0) q i (By p q o i) k).getD (i+k) 0)<=4294967295:=Qc (L8 (t:=39) (Qpr (by rw [Bm]; omega) (Qpq (λj hj=>by omega) ho0 (λi j=>S4 (Ui hp i) (Ui hq j))) (λj=>S4 (Ui hp i) (Ui hq j)) (i+k)) (V3 (show i+1<549755813888 by omega) (by decide))) (by omega);have hm2:Ug (p.getD i 0*q.getD k 0)<=4294967295:=Qc (Ur _ _) (by have:=Ui hp i; have:=Ui hq k; omega);have hg:(Ex (p.getD i 0) q i (By p q o i) k)[i+k]? = some ((Ex (p.getD i 0) q i (By p q o i) k).getD (i+k) 0):=Gt (by rw [Ey,Bm]; omega);refine go tt [.t (by simp; omega),.x (Rp (Gt hk2)),.i (i+k),.x (Rp hg),.c [] (C5 (W6 _) (W6 _) (Qc (Ui hp i) (by omega)) (Qc (Ui hq k) (by omega))),.c [] (Qb0 (W6 _) (W6 _) hm1 hm2),.i (i+k)] rfl (by simp [W3,Ey,Bm] <;> omega) ?_;rw [Qw6];exact rd (k+1) (by omega) hk2 rfl
  ·obtain rfl:k=q.length:=by omega
   exact go tt [.f (by simp)] rfl (by simp [W3]; omega) (rd (i+1) (by omega) hlt rfl)
 ·obtain rfl:i=p.length:=by omega
  exact en tt [.f (by simp),.c [] (Qiz _)] rfl rfl trivial
theorem Qoi {p q:List Int} {s t:Nat} (tp:W9 p) (tq:W9 q) (hlp:p.length<137438953472) (hlq:q.length<137438953472) (hp:Bd s p) (hq:Bd t q) (hst:s+t<=4294967000):W5 Tryz.prog 215 [pr p,pr q] [pr (Um p q)]:=by
 have h:=Qoj tq hlp hlq hp hq hst;rw [show trim p=p from tp] at h;exact h
theorem Qok {p q:List Int} (hlp:p.length<274877906944) (hlq:q.length<274877906944) (hp:Bd 4294967295 p) (hq:Bd 4294967295 q):W5 Tryz.prog 203 [pr p,pr q] [.one (.bool (decide (trim p=trim q)))]:=by
 refine Fq Tryz.func203 rfl ?_;have cp:=Cd (Fz p) hlp hp;have cq:=Cd (Fz q) hlq hq;have bp:=Hw hp;have bq:=Hw hq;have l1:=Gl p;have l2:=Gl q;obtain ⟨a,ha⟩:=nmE (trim p);obtain ⟨b,hb⟩:=nmE (trim q);rw [<-ha] at cp bp l1 ⊢;rw [<-hb] at cq bq l2 ⊢;by_cases hl:a.length=b.length
 ·refine go tt [.c [] cp,.c [] cq,.f (by simp; omega)] rfl trivial ?_;refine lp (S:=Nat) 0 (λL1 i=>(18,.v (.one (.int .i64 (i:Int))))::L1) (λ_=>[]) (λi=>a.length-i) (λi=>i<=a.length/\a.take i=b.take i) 0 ⟨Qg _,rfl⟩ rfl (λ_ _=>rfl) rfl λi ⟨hi,he⟩=>?_
  by_cases hlt:i<a.length
  ·have ga:=Gt hlt;have gb:=Gt (p:=b) (k:=i) (by omega);have cc:=Qe4 (W6 (a.getD i 0)) (W6 (b.getD i 0)) (Ui bp i) (Ui bq i);by_cases hz:a.getD i 0=b.getD i 0
   ·refine go tt [.t (by simp; omega),.x (Rp ga),.x (Rp gb),.c [] cc,.f (by simpa using Qow.2 hz)] rfl (by simp [W3]; omega) ?_;exact rd (i+1) (by omega) ⟨hlt,by rw [Yc,Yc,he,ga,gb,hz]⟩ rfl
   ·exact en tt [.t (by simp; omega),.x (Rp ga),.x (Rp gb),.c [] cc,.t (by have:=mt Qow.1 hz; simpa using this)] rfl (by rw [decide_eq_false]; intro h; exact hz (by rw [h])) trivial
  ·obtain rfl:i=a.length:=by omega
   rw [Q4,hl,Q4] at he;exact en tt [.f (by simp)] rfl (by rw [decide_eq_true he]) trivial
 ·exact en tt [.c [] cp,.c [] cq,.t (by simp; omega)] rfl (by rw [decide_eq_false]; intro h; exact hl (by rw [h])) trivial
theorem Q5x {p:List Int} {n d:Int} {s t:Nat} (hl:p.length<274877906944) (hp:Bd s p) (hn:Ug n<=t) (hd:Ug d<=t) (hst:s+p.length*(t+1)+2*t+10<=4294967295):W5 Tryz.prog 201 [pr p,.agg (Fp n),.agg (Fp d)] [.agg (Fp (Zfa p n d))]:=by
 refine Fq Tryz.func201 rfl ?_;refine go tt [.c [] (Qvl (z:=1) (by decide)),.r 13 (eI (b:=(p.length:Int)-1-((0:Nat):Int)) (by simp))] rfl (by simp [W3]; omega) ?_;refine nlb 3 rfl rfl rfl ?_;have e0:[LV.bool false,LV.nils].map Qhd=Fp (Sp p n d 0).1:=by simp [Qhd,Sp,Ds]
 rw [e0];refine lp (S:=Nat) 5 (λL1 j=>(9,.v (.one (.int .i64 ((p.length:Int)-1-(j:Int)))))::L1) (λj=>[.blk 55 (Fp n),.blk 55 (Fp d),.blk 55 [.bool false,.nils],.blk 55 (Fp (Sp p n d j).1),.blk 55 (Fp (Sp p n d j).2)]) (λj=>p.length-j) (λj=>j<=p.length) 0 (Qg _) rfl (λ_ _=>rfl) rfl λj hj=>?_
 have hv:=Qq0 (k:=j) hp hn hd;have hjl:j*(t+1)<=p.length*(t+1):=Q0 _ (by omega);have hjl2:j*t<=j*(t+1):=Zp _ (by omega);by_cases hlt:j<p.length
 ·have hc:=Ui hp (p.length-1-j);have hm1:Ug ((Sp p n d j).1*n)<=4294967295:=Qc (Ur _ _) (by omega);have hm2:Ug (p.getD (p.length-1-j) 0*(Sp p n d j).2)<=4294967295:=Qc (Ur _ _) (by omega);refine go tt [.t (by simp; omega),.c [] (C5 (W6 _) (W6 _) (by omega) (by omega)),.r 22 (eI (b:=((p.length-1-j:Nat):Int)) (by omega)),.x (Rp (Gt (p:=p) (k:=p.length-1-j) (by omega))),.c [] (C5 (W6 _) (W6 _) (by omega) (by omega)),.c [] (Qb0 (W6 _) (W6 _) hm1 hm2),.c [] (C5 (W6 _) (W6 _) (by omega) (by omega)),.r 17 (eI (b:=(p.length:Int)-1-((j+1:Nat):Int)) (by omega))] rfl (by simp [W3] <;> omega) ?_;exact rd (j+1) (by omega) hlt rfl
 ·obtain rfl:j=p.length:=by omega
  exact en tt [.f (by simp; omega)] rfl rfl trivial
theorem Np {p:List Int} (tp:W9 p) (hl:p.length<274877906944) (hp:Bd 4294967295 p):W5 Tryz.prog 259 [pr p] [.agg (Fp (p.getD (p.length-1) 0))]:=by
 have cn:=Gi tp hl hp;by_cases h0:p=[]
 ·subst h0;exact w tt Tryz.func259 rfl [.c [] cn,.t (by simp)] rfl (by simp [Ds]) trivial
 ·have hpl:0<p.length:=Ju.2 h0;exact w tt Tryz.func259 rfl [.c [] cn,.f (by simpa using h0),.r 12 (eI (b:=((p.length-1:Nat):Int)) (by simp; omega)),.x (Rp (Gt (by omega)))] rfl rfl (by simp [W3]; omega)
theorem Zhh {a b:Int} {q:Rat} (h1:a=q.num) (h2:b=(q.den:Int)):[sg a,mg a,sg b,mg b]=rl q:=by rw [h1,h2]
theorem Iw {n d:Int} (h0:d≠0) (hn:Ug n<=4294967295) (hd:Ug d<=4294967295):W5 Tryz.prog 163 [.agg (Fp n),.agg (Fp d)] [.agg (rl (Rat.divInt n d))]:=by
 have cg:=Q5k (Fz [n,d]) (λz hz=>by simp at hz; rcases hz with rfl | rfl <;> assumption);have gp:=Qsj (n:=n) h0;have gs:=Qz8 (n:=n) h0 hd;have m1:=Qjv n d;have m2:=Qjw n d;obtain ⟨g,hg⟩:=nmE (((Gg [n,d]:Nat):Int));rw [<-hg] at cg gp gs m1 m2;by_cases hneg:d<0
 ·obtain ⟨e1,e2⟩:=Zek (n:=n) hneg;rw [<-hg] at e1 e2;rw [<-Zhh e1 e2];exact w tt Tryz.func163 rfl [.c [] cg,.t (by simpa using hneg),.c [] (Qiv (W6 n) hn),.c [] (Qiv (W6 d) hd),.c [] (D9 (W6 _) (W6 _) (by rw [Gb]; exact hn) gs (by omega) (Q0s m1)),.c [] (D9 (W6 _) (W6 _) (by rw [Gb]; exact hd) gs (by omega) (Q0s m2))] rfl rfl trivial
 ·obtain ⟨e1,e2⟩:=Qpn (n:=n) (d:=d) (by omega);rw [<-hg] at e1 e2;rw [<-Zhh e1 e2];exact w tt Tryz.func163 rfl [.c [] cg,.f (by simpa using hneg),.c [] (D9 (W6 _) (W6 _) hn gs (by omega) m1),.c [] (D9 (W6 _) (W6 _) hd gs (by omega) m2)] rfl rfl trivial
theorem Qhn {x y x' y':LV} {n d:Int} (h1:G7 x y n) (h2:G7 x' y' d) (hn:Ug n<=4294967295) (hd:Ug d<=4294967295):W5 Tryz.prog 117 [.agg [x,y,x',y']] [.agg (rl (Fl n d))]:=by
 have c1:=Ce h1 hn;have c2:=Ce h2 hd;obtain ⟨b,l,rfl,rfl,_⟩:=h1;obtain ⟨b',l',rfl,rfl,_⟩:=h2;by_cases h0:d=0
 ·have e:Fl n d=Rat.divInt n 1:=by unfold Fl; rw [if_pos h0]
  rw [e];exact w tt Tryz.func117 rfl [.c [] c2,.c [] Lu,.t (by simpa using h0),.c [] (Qvl (z:=1) (by decide)),.c [] c1,.c [] (Iw (by decide) hn (by decide))] rfl rfl trivial
 ·have e:Fl n d=Rat.divInt n d:=by unfold Fl; rw [if_neg h0]
  rw [e];exact w tt Tryz.func117 rfl [.c [] c2,.c [] Lu,.f (by simpa using h0),.c [] c1,.c [] (Iw h0 hn hd)] rfl rfl trivial
theorem Qi1 {q:Rat} (hq:Qs 4294967295 q):W5 Tryz.prog 117 [.agg (rl q)] [.agg (rl q)]:=by
 have:=Qhn (W6 q.num) (W6 (q.den:Int)) hq.1 hq.2;rwa [Ib] at this
theorem Qoo {a b:Rat} (ha:Qs 2147483647 a) (hb:Qs 2147483647 b):W5 Tryz.prog 164 [.agg (rl a),.agg (rl b)] [.agg (Fp (a.num*(b.den:Int))),.agg (Fp (b.num*(a.den:Int))),.agg (Fp ((a.den:Int)*(b.den:Int)))] :=
 w tt Tryz.func164 rfl [.c [] (Qi1 (ha.mono (by decide))),.c [] (Qi1 (hb.mono (by decide))),.c [] (C5 (W6 _) (W6 _) (Qc ha.1 (by decide)) (Qc hb.2 (by decide))),.c [] (C5 (W6 _) (W6 _) (Qc hb.1 (by decide)) (Qc ha.2 (by decide))),.c [] (C5 (W6 _) (W6 _) (Qc ha.2 (by decide)) (Qc hb.2 (by decide)))] rfl rfl trivial
theorem C6 {a b:Rat} (ha:Qs 2147483647 a) (hb:Qs 2147483647 b):W5 Tryz.prog 118 [.agg (rl a),.agg (rl b)] [.one (.int .i64 (Fh a b))] :=
 w tt Tryz.func118 rfl [.c [] (Qoo ha hb),.c [] (Qe4 (W6 _) (W6 _) (Qc (Ur _ _) (by have:=ha.1; have:=hb.2; omega)) (Qc (Ur _ _) (by have:=hb.1; have:=ha.2; omega)))] rfl rfl trivial
theorem Q6t {x y x' y':LV} {n d:Int} (h1:G7 x y n) (h2:G7 x' y' d) (hn:Ug n<=4294967295) (hd:Ug d<=4294967295):W5 Tryz.prog 60 [.agg [x,y,x',y'],.one (.row [])] [.agg (rl (Fl n d))]:=by
 have c1:=Qhn h1 h2 hn hd;obtain ⟨b,l,rfl,rfl,_⟩:=h1;obtain ⟨b',l',rfl,rfl,_⟩:=h2;refine Fq Tryz.func60 rfl ?_;refine go tt [.c [] c1] rfl trivial ?_;refine lp (S:=Unit) 3 (λL1 _=>(12,.v (.one (.int .i64 0)))::L1) (λ_=>[.blk 74 [.bool b,.row (lm l),.bool b',.row (lm l')],.blk 74 [.bool false,.nils,.bool false,.nils],.blk 74 (rl (Fl n d))]) (λ_=>0) (λ_=>True) () trivial rfl (λ_ _=>rfl) rfl λ_ _=>?_
 exact en tt [.f (by simp)] rfl rfl trivial
theorem Lc {q:Rat} (hq:Qs 4294967295 q):W5 Tryz.prog 60 [.agg (rl q),.one (.row [])] [.agg (rl q)]:=by
 have:=Q6t (W6 q.num) (W6 (q.den:Int)) hq.1 hq.2;rwa [Ib] at this
theorem Zc8 {q:Rat} (hq:Qs 4294967295 q):W5 Tryz.prog 200 [.agg (rl q)] [.agg (rl q)]:=w tt Tryz.func200 rfl [.c [] (Lc hq)] rfl rfl trivial
theorem Qyu {p:List Int} {q:Rat} {s t:Nat} (tp:W9 p) (hl:p.length<274877906944) (hp:Bd s p) (hq:Qs t q) (hst:s+p.length*(t+1)+2*t+10<=4294967295):W5 Tryz.prog 159 [pr p,.agg (rl q)] [.one (.int .i64 (Fj p q))]:=by
 have cc:=Qe4 (W6 (Zfa p q.num q.den)) Nk (Qc (Qq0 hp hq.1 hq.2).1 (by omega)) (by decide);exact w tt Tryz.func159 rfl [.c [] (Zc8 (hq.mono (by omega))),.c [] (Gi tp hl (W4 hp (by omega))),.c [] (Q5x hl hp hq.1 hq.2 hst),.c [] cc] rfl rfl trivial
theorem Q6j {p:List Int} {g:Int} (hl:p.length<274877906944) (hp:Bd 4294967295 p) (hg:Ug g≤4294967295) (h0:g≠0) (hd:∀ z∈p,z % g=0):W5 Tryz.prog 199 [pr p,.agg (Fp g)] [pr (trim (p.map (· / g)))]:=by
 refine Fq Tryz.func199 rfl ?_;refine go tt [.r 9 (eI (b:=(p.length:Int)) (by simp)),.i p.length,.i p.length,.r 12 (eI (b:=(p.length:Int)) (by simp))] rfl (by simp [W3]; omega) ?_;rw [Df λk=>Fp (p.getD k 0 / g)];refine lp (S:=Nat) 2 (λL1 k=>(13,.v (.one (.int .i64 (k:Int))))::L1) (λk=>[.blk 55 (Fp g),.row false 55 2 (fil (λk=>Fp (p.getD k 0 / g)) [.bool false,.nils] p.length k)]) (λk=>p.length-k) (λk=>k<=p.length) 0 (Qg _) rfl (λ_ _=>rfl) rfl λk hk=>?_
 by_cases hlt:k<p.length
 ·have hg2:=Gt hlt;refine go tt [.t (by simp; omega),.x (Rp hg2),.c [] (D9 (W6 _) (W6 _) (Ui hp k) hg h0 (hd _ (Qa hg2))),.i k] rfl (by simp [W3,Ll]; omega) ?_;have e:=A2 (λk=>Fp (p.getD k 0 / g)) [.bool false,.nils] hlt;rw [e];exact rd (k+1) (by omega) hlt rfl
 ·obtain rfl:k=p.length:=by omega
  have e:fil (λk=>Fp (p.getD k 0 / g)) [.bool false,.nils] p.length p.length=(p.map (· / g)).map Fp:=by
   rw [A1];refine Xf λi=>?_
   by_cases hi:i<p.length
   ·simp [Xs hi,List.getD,Qf hi]
   ·simp [Qu,hi]
  rw [e];exact en tt [.f (by simp),.c [] (Cd (Fz (p.map (· / g))) (by simp; exact hl) (Qe0 hp g))] rfl rfl trivial
theorem Qkm (p:List Int):∀ c∈p.map Fp,c.length=2:=Zhd p λ_=>rfl
theorem Qon {lx ly:List (List LV)} {px py:List Int} {x y:LV} {d:Int} (hx:IsInts lx px) (hy:IsInts ly py) (hd:G7 x y d) (hk:Cs 4294967294 1073741824 (Crv.mk px py d)):W5 Tryz.prog 157 [.agg [.row lx,.row ly,x,y]] [.agg (cl (Crv.norm (Crv.mk px py d)))]:=by
 have hlx:=hk.lx;have hly:=hk.ly;simp only at hlx hly;have htx:=Gl px;have hty:=Gl py;have hd1:Ug (Crv.mk px py d).d'<=4294967295:=Qc (Qpg hk.d (by omega)) (by omega);have hg1:=Crv.isz_g (Crv.mk px py d) hd1;have hg0:=Crv.g_ne (Crv.mk px py d);have hgd:=Crv.g_dvd (Crv.mk px py d);have cx:=Cd hx (by omega) (W4 hk.x (by omega));have cy:=Cd hy (by omega) (W4 hk.y (by omega));have cd:=Ce hd (Qc hk.d (by omega));have bx:Bd 4294967295 (trim px):=W4 (Hw hk.x) (by omega);have by_:Bd 4294967295 (trim py):=W4 (Hw hk.y) (by omega);obtain ⟨b,l,rfl,rfl,_⟩:=hd;obtain ⟨e,he⟩:=nmE ((Crv.mk px py d).d');obtain ⟨g,hgg⟩:=nmE ((Crv.mk px py d).g);obtain ⟨X,hX⟩:=nmE (trim px);obtain ⟨Y,hY⟩:=nmE (trim py);have hnorm:(Crv.mk px py d).norm=⟨trim (X.map (· / g)),trim (Y.map (· / g)),e / g⟩:=by rw [he,hgg,hX,hY]; rfl
 rw [hnorm];have hgdef:g=if e<0 then -((Gg (e::(X++Y)):Nat):Int) else (Gg (e::(X++Y)):Nat):=by rw [hgg,he,hX,hY]; rfl
 have hde:e=if d=0 then 1 else d:=by rw [he]; rfl
 simp only [<-he,<-hgg,<-hX,<-hY] at hd1 hg1 hg0 hgd htx hty cx cy bx by_;clear hnorm hgg he hX hY;refine Fq Tryz.func157 rfl ?_;refine go tt [.c [] cx,.c [] cy,.c [] cd,.c [] Lu] rfl trivial ?_;refine ct 1 (S:=Unit) (λ_=>[(2,.v (.one (.ow 1 0))),(3,.v (pr X)),(4,.v (pr Y)),(5,.v (.one (.ow 2 0)))]) (λ_=>[.blk 57 [.row lx,.row ly,.bool b,.row (lm l)],.blk 57 [.nils,.nils,.bool false,.nils],.blk 55 (Fp e)]) (λ_=>True) rfl ?_ ?_
 ·by_cases h0:d=0
  ·rw [hde,if_pos h0];exact go tt [.t (by simpa using h0),.c [] (Qvl (z:=1) (by decide))] rfl trivial (rc () trivial rfl)
  ·rw [hde,if_neg h0];exact go tt [.f (by simpa using h0)] rfl trivial (rc () trivial rfl)
 ·intro _ _;have hgi:IsInts ([Fp e]++X.map Fp++Y.map Fp) (e::(X++Y)):=by
   have:=Fz (e::(X++Y));simpa using this
  have hgs:∀ z∈e::(X++Y),Ug z≤4294967295:=λz hz=>by
   rcases Qo.1 hz with rfl | hz
   ·exact hd1
   ·rcases Qw.1 hz with hz | hz
    ·exact bx z hz
    ·exact by_ z hz
  have cg:=Q5k hgi hgs;have co1:=Q6j (p:=X) (by omega) bx hg1 hg0 λz hz=>hgd z (Qi _ (Kq _ hz))
  have co2:=Q6j (p:=Y) (by omega) by_ hg1 hg0 λz hz=>hgd z (Qi _ (Kg _ hz))
  have ce:=D9 (W6 e) (W6 g) hd1 hg1 hg0 (hgd e (Qr ..));have hszg:=Qhy hgs;by_cases hneg:e<0
  ·rw [if_pos hneg] at hgdef;have cn:=Qiv (W6 ((Gg (e::(X++Y)):Nat):Int)) hszg;rw [<-hgdef] at cn;exact en tt [.lo,.s (Qkm X),.s (Qkm Y),.c [] cg,.t (by simpa using hneg),.c [] cn,.c [] ce,.c [] co1,.c [] co2] rfl rfl (by simp [W3]; omega)
  ·rw [if_neg hneg] at hgdef;rw [<-hgdef] at cg;exact en tt [.lo,.s (Qkm X),.s (Qkm Y),.c [] cg,.f (by simpa using hneg),.c [] ce,.c [] co1,.c [] co2] rfl rfl (by simp [W3]; omega)
theorem Qrl {k:Crv} (hn:Nml k) (hk:Cs 4294967294 1073741824 k):W5 Tryz.prog 157 [.agg (cl k)] [.agg (cl k)]:=by
 have h:=Qon (Fz k.x) (Fz k.y) (W6 k.d) hk;rw [Crv.norm_of hn] at h; exact h
theorem Qom {lx ly:List (List LV)} {px py:List Int} {x y:LV} {d:Int} (hx:IsInts lx px) (hy:IsInts ly py) (hd:G7 x y d) (hk:Cs 4294967294 1073741824 (Crv.mk px py d)) (h0:d≠0):W5 Tryz.prog 188 [.one (.row lx),.one (.row ly),.agg [x,y]] [.agg (cl (Crv.norm (Crv.mk px py d))),.one (.int .i64 0)]:=by
 have cd:=Ce hd (Qc hk.d (by omega));have cn:=Qon hx hy hd hk;obtain ⟨b,l,rfl,rfl,_⟩:=hd;exact w tt Tryz.func188 rfl [.c [] cd,.c [] Lu,.f (by simpa using h0),.c [] cn] rfl rfl trivial
theorem Zlh {lx ly:List (List LV)} {px py:List Int} (hx:IsInts lx px) (hy:IsInts ly py) (hk:Cs 4294967294 1073741824 (Crv.mk px py 0)):W5 Tryz.prog 113 [.one (.row lx),.one (.row ly)] [.agg (cl (Crv.norm (Crv.mk px py 0)))] :=
 w tt Tryz.func113 rfl [.c [] (Qon hx hy Nk hk)] rfl rfl trivial
def Qny (x y:Int):Crv:=Crv.norm ⟨trim [x],trim [y],0⟩
theorem Qr0 {x y:Int} (hx:-9223372036854775808<=x/\x<=9223372036854775807) (hy:-9223372036854775808<=y/\y<=9223372036854775807):Cs 64 1 ⟨trim [x],trim [y],0⟩:=by
 have key:∀ z:Int,-9223372036854775808<=z/\z<=9223372036854775807->Ug z<=64:=λz hz=>by
  rw [Ri];have:(2:Nat)^64=18446744073709551616:=by decide
  omega
 refine ⟨Hw λz hz=>?_,Hw λz hz=>?_,Qg _,Gl [x],Gl [y]⟩
 ·rw [Qm] at hz; rw [hz]; exact key x hx
 ·rw [Qm] at hz; rw [hz]; exact key y hy
theorem Qhm {x y:Int} (hx:-9223372036854775808<=x/\x<=9223372036854775807) (hy:-9223372036854775808<=y/\y<=9223372036854775807):W5 Tryz.prog 57 [.one (.int .i64 x),.one (.int .i64 y)] [.agg (cl (Qny x y))] :=
 w tt Tryz.func57 rfl [.c [] (Qyt (p:=[x]) (show 1<274877906944 by decide) (by intro z hz; rw [Qm] at hz; rw [hz]; exact hx)),.c [] (Qyt (p:=[y]) (show 1<274877906944 by decide) (by intro z hz; rw [Qm] at hz; rw [hz]; exact hy)),.c [] (Zlh (Fz _) (Fz _) ((Qr0 hx hy).mono (by omega) (by omega)))] rfl rfl trivial
theorem Zc2 {a b:Crv} (ha:Nml a) (hb:Nml b) (ca:Cs 4294967294 1073741824 a) (cb:Cs 4294967294 1073741824 b):W5 Tryz.prog 166 [.agg (cl a),.agg (cl b)] [.one (.bool (El a b))]:=by
 have na:=Qrl ha ca;have nb:=Qrl hb cb;have alx:=ca.lx;have aly:=ca.ly;have blx:=cb.lx;have bly:=cb.ly;have sx:=Qok (p:=a.x) (q:=b.x) (by omega) (by omega) (W4 ca.x (by omega)) (W4 cb.x (by omega));have sy:=Qok (p:=a.y) (q:=b.y) (by omega) (by omega) (W4 ca.y (by omega)) (W4 cb.y (by omega));have sd:=Qe4 (W6 a.d) (W6 b.d) (Qc ca.d (by omega)) (Qc cb.d (by omega));rw [ha.1,hb.1] at sx;rw [ha.2.1,hb.2.1] at sy;by_cases h1:a.x=b.x
 ·by_cases h2:a.y=b.y
  ·exact w tt Tryz.func166 rfl [.c [] na,.c [] nb,.c [] sx,.t (by simpa using h1),.c [] sy,.t (by simpa using h2),.c [] sd] rfl (by simp [El,h1,h2,Qow]) trivial
  ·exact w tt Tryz.func166 rfl [.c [] na,.c [] nb,.c [] sx,.t (by simpa using h1),.c [] sy,.f (by simpa using h2)] rfl (by simp [El,h1,h2]) trivial
 ·exact w tt Tryz.func166 rfl [.c [] na,.c [] nb,.c [] sx,.f (by simpa using h1),.f rfl] rfl (by simp [El,h1]) trivial
theorem Gk {l:List Pt} {i:Nat} {p:Pt} (h:l[i]? = some p):(l.map Gd)[i]? = some [pl p.c.x,pl p.c.y,sg p.c.d,mg p.c.d,.int .i64 p.id]:=Fb h
theorem Qty (l:List Pt):∀ c∈l.map Gd,c.length=5:=Zhd l λ_=>rfl
theorem Zc5 {lx ly:List (List LV)} {px py:List Int} {x y:LV} {d:Int} (hx:IsInts lx px) (hy:IsInts ly py) (hd:G7 x y d) (hk:Cs 4294967294 1073741824 (Crv.mk px py d)) (id:Int):W5 Tryz.prog 148 [.agg [.row lx,.row ly,x,y,.int .i64 id]] [.agg (Gd ⟨Crv.norm (Crv.mk px py d),id⟩)]:=by
 have cd:=Ce hd (Qc hk.d (by omega));by_cases h0:d=0
 ·subst h0;have ck:Cs 4294967294 1073741824 (Crv.mk px py 1):=⟨hk.x,hk.y,show Ug 1<=4294967294 by decide,hk.lx,hk.ly⟩;have cm:=Qom hx hy (W6 1) ck (by decide);have e:Crv.norm (Crv.mk px py 1)=Crv.norm (Crv.mk px py 0):=by simp only [Crv.norm,Crv.g,Crv.d']; rfl
  rw [e] at cm;obtain ⟨b,l,rfl,rfl,_⟩:=hd;exact w tt Tryz.func148 rfl [.c [] cd,.c [] Lu,.t (by simp),.c [] (Qvl (z:=1) (by decide)),.c [] cm] rfl rfl trivial
 ·have cm:=Qom hx hy hd hk h0;obtain ⟨b,l,rfl,rfl,_⟩:=hd;exact w tt Tryz.func148 rfl [.c [] cd,.c [] Lu,.f (by simpa using h0),.c [] cm] rfl rfl trivial
theorem Zli {l:List Pt} (id:Int) (hl:l.length<1073741824):W5 Tryz.prog 147 [.agg [pts l],.one (.int .i64 id)] [.one (.int .i64 (pos l id:Int)),.one (.bool (has l id))]:=by
 refine Fq Tryz.func147 rfl ?_;refine go tt [] rfl trivial ?_;refine ct 2 (S:=Unit) (λ_=>[(1,.v (.one (.int .i64 id))),(2,.v (.one (.ow 0 0))),(6,.v (.one (.int .i64 (pos l id:Int))))]) (λ_=>[.blk 84 [pts l]]) (λ_=>True) rfl ?_ ?_
 ·refine lp (S:=Nat) 1 (λL1 k=>(6,.v (.one (.int .i64 (k:Int))))::L1) (λ_=>[.blk 84 [pts l]]) (λk=>l.length-k) (λk=>k<=l.length/\∀ j p,j<k->l[j]? = some p->p.id<id) 0 ⟨Qg _,λj p h=>by omega⟩ rfl (λ_ _=>rfl) rfl λk ⟨hk,hlt⟩=>?_
  by_cases h:k<l.length
  ·obtain ⟨p,hp⟩:=gxE (l:=l) (i:=k) h;by_cases hid:p.id<id
   ·refine go tt [.t (by simp; omega),.x (Gk hp),.t (by simpa using hid)] rfl (by simp [W3]; omega) ?_;exact rd (k+1) (by omega) ⟨h,λj q hj hq=>by
     rcases Za j k with h2 | h2
     ·exact hlt j q h2 hq
     ·have:j=k:=by omega
      subst this; rw [hp] at hq; injection hq with hq; rw [<-hq]; exact hid⟩ rfl
   ·have e:=Qw9 hlt (.inr ⟨p,hp,hid⟩);refine go tt [.t (by simp; omega),.x (Gk hp),.f (by simpa using hid)] rfl trivial ?_;rw [e];exact rc () trivial rfl
  ·obtain rfl:k=l.length:=by omega
   have e:=Qw9 hlt (.inl rfl);refine go tt [.f (by simp),.f rfl] rfl trivial ?_;rw [e];exact rc () trivial rfl
 ·intro _ _;by_cases h:pos l id<l.length
  ·obtain ⟨p,hp⟩:=gxE (l:=l) (i:=pos l id) h;have e:has l id=decide (p.id=id):=by simp [has,hp]
   rw [e];exact en tt [.g 30 true (by simp; omega),.x (Gk hp)] rfl rfl trivial
  ·have e:has l id=false:=by simp [has,Qu (Yx h)]
   rw [e];exact en tt [.g 30 false (by simp; omega)] rfl rfl trivial
theorem Zlc {lx ly:List (List LV)} {px py:List Int} {x y:LV} {d id:Int} {l:List Pt} (hx:IsInts lx px) (hy:IsInts ly py) (hd:G7 x y d) (hk:Cs 4294967294 1073741824 (Crv.mk px py d)) (hl:l.length<=1000000) :
 W5 Tryz.prog 90 [.agg [pts l],.agg [.row lx,.row ly,x,y,.int .i64 id]] [.agg [pts (if O1 l (Pt.mk (Crv.norm (Crv.mk px py d)) id)=0 then put l (Pt.mk (Crv.norm (Crv.mk px py d)) id) else l)],.one (.int .i64 (O1 l (Pt.mk (Crv.norm (Crv.mk px py d)) id)))]:=by
 have ca:=Zli (l:=l) id (by omega);have cf:=Zc5 hx hy hd hk id;obtain ⟨b,r,rfl,rfl,_⟩:=hd;obtain ⟨q,hq⟩:=nmE (Pt.mk (Crv.norm (Crv.mk px py d)) id);have hqi:q.id=id:=by rw [hq]
 rw [<-hq] at cf ⊢;have hpl:=Q9o l id;by_cases h1:has l id=true
 ·have e:O1 l q=6:=by simp [O1,hqi,h1]
  rw [e,if_neg (by decide)];exact w tt Tryz.func90 rfl [.c [] ca,.t h1] rfl rfl trivial
 by_cases h2:6<=l.length
 ·have e:O1 l q=9:=by simp [O1,hqi,h1,h2]
  rw [e,if_neg (by decide)];exact w tt Tryz.func90 rfl [.c [] ca,.f (by simpa using h1),.t (by simp; omega)] rfl rfl trivial
 have e:O1 l q=0:=by simp [O1,hqi,h1,h2]
 rw [e,if_pos rfl];have s1:∀ c∈(l.map Gd).take (pos l id),c.length=5:=λc hc=>Qty l c (Ql hc)
 have s3:∀ c∈(l.map Gd).drop (pos l id),c.length=5:=λc hc=>Qty l c (Qz hc)
 refine w tt Tryz.func90 rfl [.c [] ca,.f (by simpa using h1),.f (by simp; omega),.i (pos l id),.s s1,.c [] cf,.i (pos l id),.s s3] rfl ?_ ?_
 ·simp [put,hqi,pts,Yd,Wb,Gd]
 ·simp [W3];exact ⟨by omega,hpl,λ_ _=>rfl,by omega,by omega,hpl⟩
theorem Q85:∀ (qs:List Pt),(Rj [] qs).1.length<=qs.length:=by
 have key:∀ (qs acc:List Pt),(Rj acc qs).1.length<=acc.length+qs.length:=by
  intro qs
  induction qs with
  | nil=>intro acc; simp [Rj]
  |
   cons q qs ih =>
   intro acc;simp only [Rj]
   split
   ·have:=ih (put acc q); rw [Q1d] at this; simp only [Q6]; omega
   ·simp
 intro qs;have:=key qs [];simpa using this
theorem Zk8 {zs:List (List LV)} {qs:List Pt} (hz:IsPts 4294967294 1073741824 zs qs) (hl:qs.length<=6):W5 Tryz.prog 96 [.one (.row zs)] [.agg [pts (Rj [] qs).1],.one (.int .i64 (Rj [] qs).2)]:=by
 refine Fq Tryz.func96 rfl ?_;have hzl:=hz.len;refine go tt [.f (by simp; omega)] rfl trivial ?_;refine nlb 1 rfl rfl rfl ?_;refine lp (S:=Nat) 2 (λL1 i=>(14,.v (.one (.int .i64 (i:Int))))::L1) (λi=>[.blk 84 [.nils],.blk 84 [pts (Rj [] (qs.take i)).1]]) (λi=>qs.length-i) (λi=>i<=qs.length/\(Rj [] (qs.take i)).2=0) 0 ⟨Qg _,rfl⟩ rfl (λ_ _=>rfl) rfl λi ⟨hi,h0⟩=>?_
 by_cases hlt:i<qs.length
 ·have hqi:qs[i]? = some qs[i]:=Qf hlt;obtain ⟨z,hzi,lx,ly,b,r,px,py,d,rfl,hx,hy,hd,hk,hc⟩:=hz.get hqi;have hq:(Pt.mk (Crv.norm (Crv.mk px py d)) qs[i].id)=qs[i]:=by rw [<-hc]
  have hst:=Q3u [] qs hqi (by rw [<-h0]);have hnl:=Q85 (qs.take i);have cp:=Zlc (l:=(Rj [] (qs.take i)).1) (id:=qs[i].id) hx hy hd hk (by rw [Qx] at hnl; omega);rw [hq] at cp;by_cases he:O1 (Rj [] (qs.take i)).1 qs[i]=0
  ·rw [if_pos he] at hst;rw [he,if_pos rfl] at cp;refine go tt [.t (by simp; omega),.x hzi,.c [] cp,.f rfl] rfl (by simp [W3]; omega) ?_;exact rd (i+1) (by omega) ⟨hlt,by rw [hst]⟩ (by rw [hst]; rfl)
  ·rw [if_neg he] at hst;have herr:=Q84 [] qs he hst;rw [herr];exact en tt [.t (by simp; omega),.x hzi,.c [] cp,.t (by simpa using he)] rfl rfl trivial
 ·obtain rfl:i=qs.length:=by omega
  rw [Q4] at h0;rw [Q4,h0];exact en tt [.f (by simp; omega)] rfl rfl trivial
theorem Q59 {l:List Pt} (hok:∀ p∈l,Quz 4294967294 1073741824 p) (hl:l.length<1073741824):W5 Tryz.prog 119 [.agg [pts l]] [.one (pts (D3 l))]:=by
 refine Fq Tryz.func119 rfl ?_;refine go tt [.o 3 114 5] rfl trivial ?_;refine lp (S:=Nat) 2 (λL1 i=>(12,.v (.one (.int .i64 (i:Int))))::(3,.v (.one (.orow 1 5 none)))::L1) (λi=>[.blk 84 [pts l],.row false 114 5 (((l.take i).foldl D4 []).map Gd)]) (λi=>l.length-i) (λi=>i<=l.length) 0 (Qg _) rfl (λ_ _=>rfl) rfl λi hi=>?_
 by_cases hlt:i<l.length
 ·obtain ⟨p,hp⟩:=gxE (l:=l) (i:=i) hlt;obtain ⟨hn,hk⟩:=hok p (Qa hp);have hws:=He D4 [] l hp;have hwl:=Qbv l i;have hwm:=Qbw l i;obtain ⟨o,ho⟩:=nmE ((l.take i).foldl D4 []);rw [<-ho] at hws hwl hwm ⊢;refine go tt [.t (by simp; omega),.x (Gk hp)] rfl trivial ?_;refine lp (S:=Nat) 3 (λL1 k=>(18,.v (.one (.int .i64 (k:Int))))::(6,.v (.one (.bool ((o.take k).any λq=>El p.c q.c))))::L1) (λk=>[.blk 84 [pts l],.row false 114 5 (o.map Gd),.blk 114 (Gd p)]) (λk=>o.length-k) (λk=>k<=o.length) 0 (Qg _) rfl (λ_ _=>rfl) rfl λk hk2=>?_
  by_cases hk3:k<o.length
  ·obtain ⟨q,hq⟩:=gxE (l:=o) (i:=k) hk3;obtain ⟨hqn,hqk⟩:=hok q (hwm q (Qa hq));have hany:((o.take (k+1)).any λq=>El p.c q.c)=(((o.take k).any λq=>El p.c q.c) || El p.c q.c):=by rw [Yc,hq,List.any_append]; simp
   cases hb:(o.take k).any λq=>El p.c q.c with
   |
    true =>
    rw [hb] at hany;refine go tt [.t (by simp; omega),.i k,.x (Gk hq),.t rfl,.r 29 (v:=.one (.bool ((o.take (k+1)).any λq=>El p.c q.c))) (by rw [hany]; rfl)] rfl (by simp [W3]; omega) ?_;exact rd (k+1) (by omega) hk3 rfl
   |
    false =>
    rw [hb] at hany;refine go tt [.t (by simp; omega),.i k,.x (Gk hq),.f rfl,.c [] (Zc2 hn hqn hk hqk),.r 29 (v:=.one (.bool ((o.take (k+1)).any λq=>El p.c q.c))) (by rw [hany]; rfl)] rfl (by simp [W3]; omega) ?_;exact rd (k+1) (by omega) hk3 rfl
  ·obtain rfl:k=o.length:=by omega
   rw [Q4];cases hb:o.any λq=>El p.c q.c with
   |
    true =>
    have e:D4 o p=o:=by unfold D4; rw [if_pos hb]
    exact go tt [.f (by simp),.f rfl] rfl (by simp [W3]; omega) (rd (i+1) (by omega) hlt (by rw [hws,e]; rfl))
   |
    false =>
    have e:D4 o p=o++[p]:=by unfold D4; rw [if_neg (by rw [hb]; decide)]
    exact go tt [.f (by simp),.t rfl] rfl (by simp [W3]; omega) (rd (i+1) (by omega) hlt (by rw [hws,e,Xy]; rfl))
 ·obtain rfl:i=l.length:=by omega
  exact en tt [.f (by simp)] rfl (by rw [Q4]; rfl) trivial
theorem Q1w (q:Rat):W9 [-q.num,(q.den:Int)]:=by
 have:=q.den_nz;simp [W9,trim,this]
theorem Zk2 {s:Nat} {q:Rat} (h:Qs s q):Bd s [-q.num,(q.den:Int)]:=λz hz=>by
 simp at hz;rcases hz with rfl | rfl
 ·rw [Gb]; exact h.1
 ·exact h.2
theorem Zgs {x y x' y':LV} {n d:Int} (h1:G7 x y n) (h2:G7 x' y' d) (hn:Ug n<=4294967295) (hd:Ug d<=4294967295) (hq:Qs 4294967295 (Fl n d)):W5 Tryz.prog 70 [.agg [x,y,x',y']] [.agg (qa (Fl n d))]:=by
 have c1:=Q6t h1 h2 hn hd;obtain ⟨b,l,rfl,rfl,_⟩:=h1;obtain ⟨b',l',rfl,rfl,_⟩:=h2;exact w tt Tryz.func70 rfl [.c [] c1,.c [] (Qiv (W6 _) hq.1),.c [] (Lc hq)] rfl rfl trivial
theorem Qy3 {k:Crv} (hn:Nml k) (hk:Cs 4294967294 1073741824 k):W5 Tryz.prog 207 [.agg (cl k)] [.agg (cl k)]:=by
 have h0:k.d≠0:=by have:=hn.2.2.1; omega
 have cm:=Qom (Fz k.x) (Fz k.y) (W6 k.d) hk h0;rw [show Crv.mk k.x k.y k.d=k from rfl,Crv.norm_of hn] at cm;exact w tt Tryz.func207 rfl [.c [] (Ce (W6 k.d) (Qc hk.d (by omega))),.c [] Lu,.f (by simpa using h0),.c [] cm] rfl rfl trivial
def Te (ps:List (List Int)):List (List LV):=ps.map λp=>[pl p]
theorem Hr {ps:List (List Int)} {i:Nat} {p:List Int} (h:ps[i]? = some p):(Te ps)[i]? = some [pl p]:=Fb h
theorem Q2o:W5 Tryz.prog 167 [.one (.int .i64 3)] [.one (.int .i64 3)]:=w tt Tryz.func167 rfl [.f rfl,.f rfl,.t rfl] rfl rfl trivial
theorem Q2p:W5 Tryz.prog 167 [.one (.int .i64 4)] [.one (.int .i64 4)]:=w tt Tryz.func167 rfl [.f rfl,.f rfl,.f rfl,.t rfl,.t rfl] rfl rfl trivial
theorem Q5n {k i0 i1 i2 i3 l j0 j1 j2 j3:Int}:W5 Tryz.prog 125 [.agg [.int .i64 k,.int .i64 i0,.int .i64 i1,.int .i64 i2,.int .i64 i3],.agg [.int .i64 l,.int .i64 j0,.int .i64 j1,.int .i64 j2,.int .i64 j3]] [.one (.bool (G8 [k,i0,i1,i2,i3] [l,j0,j1,j2,j3]))]:=by
 by_cases hk:k=l
 ·subst hk;rw [show G8 [k,i0,i1,i2,i3] [k,j0,j1,j2,j3]=G8 [i0,i1,i2,i3] [j0,j1,j2,j3] from by simp [G8]];refine Fq Tryz.func125 rfl ?_;refine go tt [.f (by simp)] rfl trivial ?_;refine lp (S:=Nat) 2 (λL1 i=>(19,.v (.one (.int .i64 (i:Int))))::L1) (λ_=>[.blk 97 [.int .i64 k,.int .i64 i0,.int .i64 i1,.int .i64 i2,.int .i64 i3],.blk 97 [.int .i64 k,.int .i64 j0,.int .i64 j1,.int .i64 j2,.int .i64 j3]]) (λi=>4-i) (λi=>i<=4/\G8 ([i0,i1,i2,i3].drop i) ([j0,j1,j2,j3].drop i)=G8 [i0,i1,i2,i3] [j0,j1,j2,j3]) 0 ⟨by omega,rfl⟩ rfl (λ_ _=>rfl) rfl λi ⟨hi,he⟩=>?_
  rw [<-he];rcases (show i=0\/i=1\/i=2\/i=3\/i=4 by omega) with rfl | rfl | rfl | rfl | rfl
  ·by_cases h:i0=j0
   ·exact go tt [.t rfl,.i 0,.i 0,.f (by simpa using h)] rfl (by simp [W3]) (rd 1 (by omega) ⟨by omega,by simp [G8,h]⟩ rfl)
   ·exact en tt [.t rfl,.i 0,.i 0,.t (by simpa using h),.i 0] rfl (by simp [G8,h]) trivial
  ·by_cases h:i1=j1
   ·exact go tt [.t rfl,.i 1,.i 1,.f (by simpa using h)] rfl (by simp [W3]) (rd 2 (by omega) ⟨by omega,by simp [G8,h]⟩ rfl)
   ·exact en tt [.t rfl,.i 1,.i 1,.t (by simpa using h),.i 1] rfl (by simp [G8,h]) trivial
  ·by_cases h:i2=j2
   ·exact go tt [.t rfl,.i 2,.i 2,.f (by simpa using h)] rfl (by simp [W3]) (rd 3 (by omega) ⟨by omega,by simp [G8,h]⟩ rfl)
   ·exact en tt [.t rfl,.i 2,.i 2,.t (by simpa using h),.i 2] rfl (by simp [G8,h]) trivial
  ·by_cases h:i3=j3
   ·exact go tt [.t rfl,.i 3,.i 3,.f (by simpa using h)] rfl (by simp [W3]) (rd 4 (by omega) ⟨by omega,by simp [G8,h]⟩ rfl)
   ·exact en tt [.t rfl,.i 3,.i 3,.t (by simpa using h),.i 3] rfl (by simp [G8,h]) trivial
  ·exact en tt [.f rfl] rfl (by simp [G8]) trivial
 ·exact w tt Tryz.func125 rfl [.t (by simpa using hk)] rfl (by simp [G8,hk]) trivial
abbrev zCt:List LV:=[.int .i64 0,.int .i64 0,.int .i64 0,.int .i64 0,.int .i64 0,.nils,.int .i64 0]
def Uo (l:List Ct):List (List LV):=l.map Qdu
theorem Qe8 {l:List Ct} {i:Nat} {c:Ct} (h:l[i]? = some c):(Uo l)[i]? = some (Qdu c):=Fb h
theorem Mh (l:List Ct):(Uo l).length=l.length:=by simp [Uo]
theorem Q68 (l:List Ct):∀ c∈Uo l,c.length=7:=λc hc=>by
 obtain ⟨x,_,rfl⟩:=Zd.1 hc; rfl
theorem Q8i {O:List Ct} {z:List LV} {c:Ct} {k m:Nat} {l2:List (List LV)} (hk:k<=O.length) (hp:Ow O c O.length=k) (hm:m=O.length-k) (h2:l2.take m=((Uo O++[z]).drop k).take m) :
 ((Uo O++[z]).take (k+1)++(l2.take m++(Uo O++[z]).drop (k+1+m))).set k (Qdu c)=Uo (Qb8 O c):=by
 rw [h2,<-Ze,Qss (Uo O) z (Qdu c) (by rw [Mh]; omega) (by rw [Mh]; omega)];simp [Qb8,hp,Uo,Yd,Wb]
theorem Qvq {l:List Ct} (hl:∀ c∈l,Pb c.p) (hn:l.length≤1000000):W5 Tryz.prog 66 [.one (.row (Uo l))] [.one (.row (Uo (Ge l)))]:=by
 have hcl:=Mh l;refine Fq Tryz.func66 rfl ?_;refine go tt [.o 3 99 7] rfl trivial ?_;refine lp (S:=Nat) 1 (λL1 i=>(9,.v (.one (.int .i64 (i:Int))))::(3,.v (.one (.orow 0 7 none)))::L1) (λi=>[.row false 99 7 (Uo (Ge (l.take i)))]) (λi=>l.length-i) (λi=>i<=l.length) 0 (Qg _) rfl (λ_ _=>rfl) rfl λi hi=>?_
 by_cases hlt:i<l.length
 ·obtain ⟨c,hc⟩:=gxE (l:=l) (i:=i) hlt;have hst:=Qxy hc;have hcp:=hl c (Qa hc);obtain ⟨O,hO⟩:=nmE (Ge (l.take i));have hOl:O.length=i:=by rw [hO,Cz,Qx]; omega
  rw [<-hO] at hst ⊢;refine go tt [.t (by simp [hcl]; omega),.x (Qe8 hc)] rfl trivial ?_;refine lp (S:=Nat) 2 (λL1 k=>(6,.v (.one (.int .i64 (k:Int))))::L1) (λk=>[.row false 99 7 (Uo O),.blk 99 (Qdu c)]) id (λk=>k<=O.length/\Ow O c k=Ow O c O.length) (Uo O).length ⟨by rw [Mh]; exact Qn _,by rw [Mh]⟩ rfl (λ_ _=>rfl) rfl λk ⟨hk,hp⟩=>?_
  have hz:∀ y∈[zCt],y.length=7:=λy hy=>by rw [Qm.1 hy]; rfl
  have h77:∀ y∈Uo O++[zCt],y.length=7:=λy hy=>by
   rcases Qw.1 hy with hy | hy
   ·exact Q68 O y hy
   ·exact hz y hy
  cases k with
  |
   zero =>
   have hp:Ow O c O.length=0:=by rw [<-hp]; rfl
   refine go tt [.g 17 false (by simp),.f rfl,.s (sz:=7) hz,.r 36 (eI (b:=((0+1:Nat):Int)) (by simp)),.i (0+1),.i (0),.s (sz:=7) (λy hy=>h77 y (Ql hy)),.i (O.length),.c [] (Gi hcp.t (by have:=hcp.l; omega) (W4 hcp.b (by omega))),.i (0)] rfl (by simp [W3,Mh]; omega) ?_;exact rd (i+1) (by omega) hlt (by rw [hst,<-Q8i (z:=zCt) (l2:=(Uo O++[zCt]).take ((Uo O++[zCt]).length-0)) (k:=0) (m:=O.length) (by omega) hp (by omega) (by congr 1; exact Qj (by simp))]; rfl)
  |
   succ k =>
   obtain ⟨x,hx⟩:=gxE (l:=O) (i:=k) (by omega);by_cases hlc:M7 c x=true
   ·refine go tt [.g 17 true (by simp),.r 22 (eI (b:=(k:Int)) (by simp)),.i k,.x (Qe8 hx),.c [] Q5n,.t hlc,.r 29 (eI (b:=(k:Int)) (by simp))] rfl (by simp [W3,Mh]; omega) ?_;exact rd k (by simp) ⟨by omega,by rw [<-hp,Ze2 hx hlc]⟩ rfl
   ·have hlc:M7 c x=false:=by simpa using hlc
    have hp:Ow O c O.length=k+1:=by rw [<-hp,Q9n hx hlc]
    refine go tt [.g 17 true (by simp),.r 22 (eI (b:=(k:Int)) (by simp)),.i k,.x (Qe8 hx),.c [] Q5n,.f hlc,.s (sz:=7) hz,.r 36 (eI (b:=((k+1+1:Nat):Int)) (by simp)),.i (k+1+1),.i (k+1),.s (sz:=7) (λy hy=>h77 y (Qz (Ql hy))),.i (O.length-(k+1)),.c [] (Gi hcp.t (by have:=hcp.l; omega) (W4 hcp.b (by omega))),.i (k+1)] rfl (by simp [W3,Mh]; omega) ?_;exact rd (i+1) (by omega) hlt (by rw [hst,<-Q8i (z:=zCt) (l2:=((Uo O++[zCt]).drop (k+1)).take ((Uo O++[zCt]).length-(k+1))) (k:=k+1) (m:=O.length-(k+1)) (by omega) hp (by omega) (by congr 1; exact Qj (by simp))]; rfl)
 ·obtain rfl:i=l.length:=by omega
  rw [Q4];exact en tt [.f (by simp [hcl])] rfl rfl trivial
end Orr
namespace Orr
def Uj (p:List Int):Int:=p.getD (p.length-1) 0
def chk (p:List Int):Option (List Int):=if p.length<=64/\(p.all λz=>Nat.ble (Ug z) 16777216)=true then some p else none
def chq (q:Rat):Option Rat:=if Ug q.num<=16777216/\Ug (q.den:Int)<=16777216 then some q else none
def Rl (p:List Int):Int:=(Gg p:Nat)
def Na (p:List Int) (c:Int):List Int:=trim (p.map (· / c))
def Fu (p:List Int):Int:=if Uj p<0 then -Rl p else Rl p
def Ue (p:List Int):List Int:=if p.length=0 then [] else Na p (Fu p)
def mono (i:Nat) (x:Int):List Int:=List.replicate i 0++[x]
def psd (b:List Int) (c:Int):Nat->List Int×List Int->List Int×List Int
 | 0,s=>s
 |
  i+1,(q,r) =>
  psd b c i (D6 (Ux q c) (mono i (if r.length=b.length+i then Uj r else 0)),S7 (Ux r c) (Um (trim (mono i (if r.length=b.length+i then Uj r else 0))) b))
def Tk (a b:List Int):List Int:=(psd b (Uj b) (a.length+1-b.length) ([],a)).2
def P7 (a b r:List Int):List Int:=if (a.length+1-b.length) % 2=1/\Uj b<0 then Ta r else r
def Qbo (r:List Int):List Int:=if r.length=0 then [] else Na r (Rl r)
def Ha (a b:List Int):List Int:=Qbo (P7 a b (Tk a b))
def Qpz (b:List Int):Nat->List Int->List Int->Option (List Int)
 | 0,a,q=>if a.length=0 then some q else none
 | i+1,a,q=>if a.length<b.length+i then Qpz b i a q else if Uj a % Uj b=0 then Qpz b i (S7 a (Um (trim (mono i (Uj a / Uj b))) b)) (q.set i (Uj a / Uj b)) else none
def Ox (a b:List Int):Option (List Int):=if b.length=0 then none else (Qpz b (a.length+1-b.length) a (List.replicate (a.length+1-b.length) 0)).bind λq=>chk (trim q)
def Qga:Nat->List Int->List Int->Option (List Int)
 | 0,_,_=>none
 | k+1,a,b=>if b.length=0 then some a else (chk (Ha a b)).bind λr=>Qga k b r
def Oz (a b:List Int):Option (List Int):=(Qga 66 (Ue a) (Ue b)).map Ue
def Qp1 (a b:List Int):Option (List Int):=(Oz [] a).bind λg=>Oz g b
def Tf (a:List Int):Option (List Int):=if (Ue a).length<2 then some (Ue a) else (chk (U3 (Ue a))).bind λd=>(Oz (Ue a) d).bind λg=>Ox (Ue a) g
def Qfp:Nat->List Int->Option (List (List Int))
 | 0,_=>none
 | k+1,g=>if g.length<2 then some [] else (chk (U3 g)).bind λd=>(Oz g d).bind λh=>(Ox g h).bind λw=>(Qfp k h).bind λl=>some (w::l)
def Qlp:List (List Int)->Option (List (List Int))
 | []=>some []
 | [w]=>some [w]
 | w::v::l=>(Ox w v).bind λf=>(Qlp (v::l)).bind λr=>some (f::r)
def Qdt:Nat->List Int->List (List Int)->Option (List Int)
 | _,p,[]=>some p
 | i,p,f::l=>if i % 2=0 then (chk (Um p f)).bind λq=>Qdt (i+1) q l else Qdt (i+1) p l
def Qw7 (a:List Int):Option (List Int):=if (Ue a).length=0 then some [] else (Qfp 66 (Ue a)).bind λl=>(Qlp l).bind λfs=>Qdt 0 [1] fs
def chF:Nat->List Int->List Int->Option (List (List Int))
 | 0,_,_=>none
 | k+1,a,b=>if b.length=0 then some [] else (chk (Ha a b)).bind λr=>(chF k b (Ta r)).bind λl=>some (b::l)
def C7 (p:List Int):Option (List (List Int)):=(Tf p).bind λa=>if a.length=0 then none else (chk (U3 a)).bind λd=>(chF 66 a (Ue d)).bind λl=>some (a::l)
def Rv (sg:List Int->Int) (s:Nat×Int) (p:List Int):Nat×Int:=if sg p=0 then s else (if s.2=-(sg p) then s.1+1 else s.1,sg p)
def Mw (sg:List Int->Int) (l:List (List Int)):Nat:=(l.foldl (Rv sg) (0,0)).1
def Mx (l:List (List Int)) (q:Rat):Nat:=Mw (λp=>Fj p q) l
def Hl (l:List (List Int)) (lo hi:Rat):Int:=if Fh hi lo<0 then 0 else (Mx l lo:Int)-(Mx l hi:Int)
def Qdc (p:List Int):Int:=Int.sign (Uj p)
def Il (p:List Int):Int:=if p.length % 2=0 then -Int.sign (Uj p) else Int.sign (Uj p)
def O3 (l:List (List Int)):Int:=(Mw Il l:Int)-(Mw Qdc l:Int)
def most:List Int->Nat:=λl=>l.foldl (λm z=>if m<z.natAbs then z.natAbs else m) 0
def U9 (p:List Int):Rat:=Rat.divInt (((Uj p).natAbs:Int)+(most (p.take (p.length-1)):Int)) ((Uj p).natAbs:Int)
def mid (a b:Rat):Rat:=Rat.divInt (a.num*(b.den:Int)+b.num*(a.den:Int)) ((a.den:Int)*(b.den:Int)*2)
def Dv (p:List Int) (c:List (List Int)):Nat->Rat->Rat->Int->Option (List Tm)
 | 0,_,_,_=>none
 | k+1,lo,hi,n=>if n=0 then some [] else if n=1 then some [⟨p,lo,hi⟩] else (chq (mid lo hi)).bind λm=>(Dv p c k lo m (Hl c lo m)).bind λl=>(Dv p c k m hi (n-Hl c lo m)).bind λr=>some (l++r)
def Qky (p:List Int):Option (List Tm):=(C7 p).bind λc=>(Tf p).bind λq=>(chq (U9 q)).bind λb=>Dv q c 100000 (-b) b (O3 c)
def Tm.point (a:Tm):Bool:=decide (0<=Fh a.lo a.hi)
def low (p:List Int) (q:Rat):Int:=if Fj p q≠0 then Fj p q else Fj (U3 p) q
def Qdh (p:List Int) (lo hi:Rat):Bool:=decide (Fj p hi=0\/Fj p hi≠low p lo)
def Ul (a:Tm) (t:Rat):Int :=
 if a.point=true then Fh a.lo t else if Fh t a.lo<=0 then 1 else if 0<Fh t a.hi then -1 else if Fj a.p t=0 then 0 else if Fj a.p t=low a.p a.lo then 1 else -1
def Qpb (a:Tm):Option Tm:=if a.point=true then some a else (chq (mid a.lo a.hi)).bind λm =>
 some (if Ul a m=0 then ⟨a.p,m,m⟩ else if Ul a m=-1 then ⟨a.p,a.lo,m⟩ else ⟨a.p,m,a.hi⟩)
def Fc (p:List Int):Nat:=p.foldl (λn z=>max n (Ug z)) 0
def Tc (a b:Tm):Nat:=64+2*(Ug a.lo.num+Ug a.hi.num+Ug b.lo.num+Ug b.hi.num)+4*(a.p.length+b.p.length)*(Fc a.p+Fc b.p+(a.p.length+b.p.length)+8)
def Qk0 (a b:Rat):Rat:=Rat.divInt (a.num*(b.den:Int)-b.num*(a.den:Int)) ((a.den:Int)*(b.den:Int))
def Be (a b:Tm):Bool:=decide (Fh a.hi b.lo<=0/\¬((a.point=true/\b.point=true)/\Fh a.hi b.lo=0))
def apF:Nat->Tm->Tm->Option (Tm×Tm×Int)
 | 0,a,b=>some (a,b,0)
 |
  k+1,a,b=>if Be a b=true then some (a,b,-1) else if Be b a=true then some (a,b,1) else
  if 0<=Fh (Qk0 a.hi a.lo) (Qk0 b.hi b.lo) then (Qpb a).bind λx=>apF k x b else (Qpb b).bind λx=>apF k a x
def Qi4 (a b:Tm):Option Int:=if a.point=true then some (-Ul b a.lo) else if b.point=true then some (Ul a b.lo) else
 let lo:=if 0<Fh b.lo a.lo then b.lo else a.lo
 let hi:=if Fh b.hi a.hi<0 then b.hi else a.hi
 if Fh lo hi<0 then (Qp1 a.p b.p).bind λg=>if 1<g.length/\Qdh g lo hi=true then some 0 else (apF (Tc a b) a b).bind λr=>some r.2.2
 else (apF (Tc a b) a b).bind λr=>some r.2.2
def sgF (c:List (List Int)):Nat->Tm->Option Tm
 | 0,a=>some a
 | k+1,a=>if a.point=true\/Hl c a.lo a.hi=0 then some a else (Qpb a).bind λx=>sgF c k x
def Qeg (p:List Int) (a:Tm):Option Int:=if p.length=0 then some 0 else if a.point=true then some (Fj p a.lo) else
 (Qp1 p a.p).bind λg=>if 1<g.length/\Qdh g a.lo a.hi=true then some 0 else (C7 p).bind λc=>(sgF c (64+2*(Ug a.lo.num+Ug a.hi.num)+4*(a.p.length+p.length)*(Fc a.p+Fc p+(a.p.length+p.length)+8)) a).bind λx=>some (Fj p x.hi)
def A6:Tm->List Tm->Option Tm
 | b,[]=>some b
 | b,a::l=>(Qi4 a b).bind λc=>A6 (if c<0 then a else b) l
def Qbm (a:Tm):List Tm->Option (Option Tm)
 | []=>some none
 | r::l=>(Qi4 r a).bind λc=>if 0<c then some (some r) else Qbm a l
def Qcs (p:List Int):Option (List Tm):=(Qw7 p).bind λq=>if q.length=0 then some [] else Qky q
def Qgz (p:List Int) (a:Tm):Option (Option Tm):=(Qcs p).bind λl=>Qbm a l
end Orr
namespace Orr
open Go Go.Proofs
set_option maxRecDepth 10000
theorem Ch {p:List Int} (tp:W9 p) (h:p.length≠0):Uj p≠0:=Gn tp (by omega)
theorem Qj9 {p:List Int} (h:p.length≠0):Uj p∈p:=Qa (Gt (by omega))
theorem Sy {s:Nat} {p:List Int} (h:Bd s p):Ug (Uj p)<=s:=Ui h _
theorem Cv {p:List Int}:∀ z∈p,Rl p∣z:=I6
theorem Ot {p:List Int} (tp:W9 p) (h:p.length≠0):Rl p≠0:=λh0=>Ch tp h (Int.zero_dvd.1 (h0 ▸ Cv _ (Qj9 h)))
theorem Qau {p:List Int} (h:Bd 4294967295 p):Ug (Rl p)<=4294967295:=Qhy h
theorem Q05 {p:List Int} (tp:W9 p) (h:p.length≠0):Fu p≠0:=by
 have:=Ot tp h;unfold Fu; split <;> omega
theorem Qd0 {p:List Int}:∀ z∈p,Fu p∣z:=λz hz=>by
 unfold Fu; split
 ·exact Wx.2 (Cv z hz)
 ·exact Cv z hz
theorem Q8m {p:List Int} (h:Bd 4294967295 p):Ug (Fu p)<=4294967295:=by
 unfold Fu; split
 ·rw [Gb]; exact Qau h
 ·exact Qau h
theorem Qiq {s:Nat} {p:List Int} (h:Bd s p) (c:Int):Bd s (Na p c):=Hw (Qe0 h c)
theorem Qm3 (p:List Int) (c:Int):(Na p c).length<=p.length:=Qc (Gl _) (by simp)
theorem Ie (p:List Int) (c:Int):W9 (Na p c):=Gx _
theorem Q9h {p:List Int} (h:Pb p) (c:Int):Pb (Na p c):=⟨Ie _ _,Qc (Qm3 _ _) h.l,Qiq h.b c⟩
theorem Qfy:Pb []:=⟨rfl,by simp,Iu⟩
theorem G6 {p:List Int} (h:Pb p):Pb (Ue p):=by
 unfold Ue; split
 ·exact Qfy
 ·exact Q9h h _
theorem Pb.bd {p:List Int} (h:Pb p):Bd 4294967295 p:=W4 h.b (by omega)
theorem Pb.ln {p:List Int} (h:Pb p):p.length<274877906944:=Zs h.l (by omega)
theorem Pb.ln' {p:List Int} (h:Pb p):p.length<8589934592:=Zs h.l (by omega)
theorem Av {p q:List Int} (tp:W9 p) (h:chk p=some q):q=p/\Pb p:=by
 unfold chk at h
 split at h
 ·rename_i hc;injection h with h;refine ⟨h.symm,tp,hc.1,λz hz=>?_⟩;have:=Jy.1 hc.2 z hz;exact Zc this
 ·cases h
theorem Qyy {p:List Int} {g:Int} (hl:p.length<274877906944) (hp:Bd 4294967295 p) (hg:Ug g≤4294967295) (h0:g≠0) (hd:∀ z∈p,g∣z):W5 Tryz.prog 261 [pr p,.agg (Fp g)] [pr (Na p g)]:=by
 refine Fq Tryz.func261 rfl ?_;refine go tt [.r 9 (eI (b:=(p.length:Int)) (by simp)),.i p.length,.i p.length,.r 12 (eI (b:=(p.length:Int)) (by simp))] rfl (by simp [W3]; omega) ?_;rw [Df λk=>Fp (p.getD k 0 / g)];refine lp (S:=Nat) 2 (λL1 k=>(13,.v (.one (.int .i64 (k:Int))))::L1) (λk=>[.blk 55 (Fp g),.row false 55 2 (fil (λk=>Fp (p.getD k 0 / g)) [.bool false,.nils] p.length k)]) (λk=>p.length-k) (λk=>k<=p.length) 0 (Qg _) rfl (λ_ _=>rfl) rfl λk hk=>?_
 by_cases hlt:k<p.length
 ·have hg2:=Gt hlt;refine go tt [.t (by simp; omega),.x (Rp hg2),.c [] (D9 (W6 _) (W6 _) (Ui hp k) hg h0 (Jn (hd _ (Qa hg2)))),.i k] rfl (by simp [W3,Ll]; omega) ?_;have e:=A2 (λk=>Fp (p.getD k 0 / g)) [.bool false,.nils] hlt;rw [e];exact rd (k+1) (by omega) hlt rfl
 ·obtain rfl:k=p.length:=by omega
  have e:fil (λk=>Fp (p.getD k 0 / g)) [.bool false,.nils] p.length p.length=(p.map (· / g)).map Fp:=by
   rw [A1];refine Xf λi=>?_
   by_cases hi:i<p.length
   ·simp [Xs hi,List.getD,Qf hi]
   ·simp [Qu,hi]
  rw [e];exact en tt [.f (by simp),.c [] (Cd (Fz (p.map (· / g))) (by simp; exact hl) (Qe0 hp g))] rfl rfl trivial
theorem Qe3 {p:List Int} (hl:p.length<8589934592) (hp:Bd 4294967295 p):W5 Tryz.prog 262 [.one (.row [[pl p]])] [.agg (Fp (Rl p))]:=by
 refine Fq Tryz.func262 rfl ?_;refine go tt [.o 3 55 2] rfl trivial ?_;refine lp (S:=Nat) 2 (λL1 i=>(8,.v (.one (.int .i64 (i:Int))))::(3,.v (.one (.orow 1 2 none)))::L1) (λi=>[.blk 55 [.bool false,.nils],.row false 55 2 (if i=0 then [] else p.map Fp)]) (λi=>1-i) (λi=>i<=1) 0 (Qg _) rfl (λ_ _=>rfl) rfl λi hi=>?_
 rcases (show i=0\/i=1 by omega) with rfl | rfl
 ·refine go tt [.t rfl,.x (i:=0) (xs:=[pl p]) rfl,.s (Qkm p)] rfl (by simp [W3]; omega) ?_;exact rd 1 (by omega) (by omega) rfl
 ·exact en tt [.f rfl,.c [] (Q5k (Fz p) hp)] rfl rfl trivial
theorem Q6k {p:List Int} (tp:W9 p) (hl':p.length<8589934592) (hp:Bd 4294967295 p):W5 Tryz.prog 257 [pr p] [.agg (Fp (if p.length=0 then 0 else Fu p)),pr (Ue p)]:=by
 have hl:p.length<274877906944:=by omega
 have cn:=Gi tp hl hp;by_cases h0:p.length=0
 ·have e:p=[]:=Qk h0;subst e;exact w tt Tryz.func257 rfl [.c [] cn,.t rfl] rfl (by simp [Ds,Ue]; rfl) trivial
 ·have hpf:Ue p=Na p (Fu p):=by unfold Ue; rw [if_neg h0]
  rw [if_neg h0,hpf];have co:=Qyy hl hp (Q8m hp) (Q05 tp h0) Qd0;by_cases hneg:Uj p<0
  ·have e:Fu p=-Rl p:=by unfold Fu; rw [if_pos hneg]
   rw [e] at co ⊢;exact w tt Tryz.func257 rfl [.c [] cn,.f (by simpa using h0),.c [] (Qe3 hl' hp),.c [] (Np tp hl hp),.t (by simpa [Uj] using hneg),.c [] (Qiv (W6 _) (Qau hp)),.c [] co] rfl rfl trivial
  ·have e:Fu p=Rl p:=by unfold Fu; rw [if_neg hneg]
   rw [e] at co ⊢;exact w tt Tryz.func257 rfl [.c [] cn,.f (by simpa using h0),.c [] (Qe3 hl' hp),.c [] (Np tp hl hp),.f (by simpa [Uj] using hneg),.c [] co] rfl rfl trivial
theorem Lb {p:List Int} (hp:Pb p):W5 Tryz.prog 223 [pr p] [pr (Ue p)] :=
 w tt Tryz.func223 rfl [.c [] (Q6k hp.t hp.ln' hp.bd)] rfl rfl trivial
theorem Px (p:List Int):W5 Tryz.prog 137 [pr p] [.one (.int .i64 ((p.length:Int)-1))]:=by
 have h:W5 Tryz.prog 137 [pr p] [.one (.int .i64 (((p.map Fp).length:Int)-1))]:=Fq Tryz.func137 rfl (ln 0 rfl rfl λhl=>en tt [] rfl rfl (by simp [W3] at hl ⊢; omega));rw [Q7] at h; exact h
theorem Ew (i:Nat) (x:Int):(mono i x).length=i+1:=by simp [mono]
theorem Qio {s i:Nat} {x:Int} (h:Ug x<=s):Bd s (mono i x):=λz hz=>by
 simp only [mono,Qw,Qm] at hz;rcases hz with hz | rfl
 ·rw [(List.mem_replicate.1 hz).2,S0]; exact Qg _
 ·exact h
def stq (c:Int) (i:Nat) (x:Int) (q:List Int):List Int:=D6 (Ux q c) (mono i x)
def str (b:List Int) (c:Int) (i:Nat) (x:Int) (r:List Int):List Int:=S7 (Ux r c) (Um (trim (mono i x)) b)
theorem Zh0 {u t i:Nat} {c x:Int} {q:List Int} (hq:Bd u q) (hc:Ug c<=t) (hx:Ug x<=u):Bd (u+t+8) (stq c i x q) :=
 W4 (Qcy (Nf hq hc) (Qio hx)) (by omega)
theorem Zeh {c x:Int} {i:Nat} {q:List Int}:(stq c i x q).length<=max q.length (i+1):=by
 have h:=Oc (Ux q c) (mono i x);have h1:=Pk q c;rw [Ew] at h;unfold stq; omega
theorem Qpj {i:Nat} {x:Int} {b:List Int}:(Um (trim (mono i x)) b).length<=i+b.length:=by
 have h:=Hi (trim (mono i x)) b;have h1:=Gl (mono i x);rw [Ew] at h1; omega
theorem Qyn {u t i:Nat} {x:Int} {b:List Int} (hb:Bd t b) (hx:Ug x<=u) (hi:i<=64):Bd (u+t+7) (Um (trim (mono i x)) b) :=
 Rf (Hw (Qio hx)) hb (Zs (Gl _) (by rw [Ew]; omega))
theorem Qu6 {u t i:Nat} {c x:Int} {b r:List Int} (hr:Bd u r) (hb:Bd t b) (hc:Ug c<=t) (hx:Ug x<=u) (hi:i<=64):Bd (u+t+8) (str b c i x r) :=
 W4 (Qoe (Nf hr hc) (Qyn hb hx hi)) (by omega)
theorem Qpk {c x:Int} {i:Nat} {b r:List Int}:(str b c i x r).length<=max r.length (i+b.length):=by
 have h:=Qkb (Ux r c) (Um (trim (mono i x)) b);have h1:=Pk r c;have h2:=Qpj (i:=i) (x:=x) (b:=b);unfold str; omega
theorem Qs6 (i:Nat) (x:Int):((List.replicate (i+1) (0:Int)).map Fp).set i (Fp x)=(mono i x).map Fp:=by
 rw [Qw6,mono];congr 1;refine Xf λj=>?_
 simp only [Yb,List.getElem?_append,Jp,X8];by_cases h:j=i
 ·subst h; simp
 ·rw [if_neg (by omega)];by_cases h2:j<i
  ·simp [h2]; omega
  ·rw [if_neg (by omega),if_neg h2];cases hj:j-i with
   | zero=>omega
   | succ m=>simp
theorem Q0p (i:Nat) {x:Int} {y:List LV} (h:y.map Qhd=Fp x):(((List.replicate (i+1) [LV.bool false,LV.nils]).set i y).map λc=>c.map Qhd)=(mono i x).map Fp:=by
 rw [Ym,Qia,h]; exact Qs6 i x
theorem Oy {b:List Int} {c:Int} {i:Nat} {q r:List Int} {x:Int} (hx:x=if r.length=b.length+i then Uj r else 0):psd b c (i+1) (q,r)=psd b c i (stq c i x q,str b c i x r):=by
 subst hx; rfl
theorem Q5w {a b:List Int} (ha:Pb a) (hb:Pb b) (h0:b.length≠0):W5 Tryz.prog 258 [pr a,pr b] [pr (psd b (Uj b) (a.length+1-b.length) ([],a)).1,pr (Tk a b),.one (.int .i64 ((a.length+1-b.length:Nat):Int)),.one (.int .i64 0)]:=by
 have hal:=ha.l;have hbl:=hb.l;have hlb:Ug (Uj b)<=16777216:=Sy hb.b;obtain ⟨c,hc⟩:=nmE (Uj b);have cl:=Np hb.t hb.ln hb.bd;rw [show b.getD (b.length-1) 0=c from hc.symm] at cl;obtain ⟨k,hk⟩:=nmE (a.length+1-b.length);unfold Tk;rw [<-hc,<-hk];rw [<-hc] at hlb;refine Fq Tryz.func258 rfl ?_;refine go tt [.z 4,.c [] (Gi ha.t ha.ln ha.bd),.c [] (Gi hb.t hb.ln hb.bd),.f (by simpa using h0),.c [] cl,.c [] (Px a),.c [] (Px b),.r 27 (eI (b:=(k:Int)) (by omega))] rfl (by simp [W3]; omega) ?_;refine lp (S:=Nat×List Int×List Int) 1 (λL1 s=>(4,.v (pr s.2.1))::(5,.v (pr s.2.2))::(9,.v (.one (.int .i64 ((s.1:Int)-1))))::L1) (λ_=>[.blk 55 (Fp c)]) (λs=>s.1) (λs=>s.1<=k/\W9 s.2.2/\s.2.1.length<=66/\s.2.2.length<=a.length/\Bd (16777216+(k-s.1)*16777224) s.2.1/\Bd (16777216+(k-s.1)*16777224) s.2.2/\psd b c s.1 s.2=psd b c k ([],a)) (k,[],a) ⟨Qn _,ha.t,by simp,Qn _,Iu,by simpa using ha.b,rfl⟩ rfl (λ_ _=>rfl) rfl λ⟨i,q,r⟩ ⟨j1,j2,j3,j4,j5,j6,j7⟩=>?_
 dsimp only at j1 j2 j3 j4 j5 j6 j7 ⊢;rw [<-j7];cases i with
 | zero=>exact en tt [.f (by simp)] rfl rfl trivial
 |
  succ i =>
  obtain ⟨x,hx⟩:=nmE (if r.length=b.length+i then Uj r else 0);obtain ⟨u,hu⟩:=nmE (16777216+(k-(i+1))*16777224);rw [<-hu] at j5 j6;have hub:u<=1107296256:=by
   have:(k-(i+1))*16777224<=64*16777224:=Q0 _ (by omega);omega
  have hxs:Ug x<=u:=by
   rw [hx]; split
   ·exact Sy j6
   ·rw [S0]; exact Qg _
  have cs:=Qc1 (p:=q) (c:=c) (by omega) (W4 j5 (by omega)) (by omega);have cs2:=Qc1 (p:=r) (c:=c) (by omega) (W4 j6 (by omega)) (by omega);have l1:=Pk q c;have l2:=Pk r c;have ca:=Qvm (p:=Ux q c) (q:=mono i x) (by omega) (by rw [Ew]; omega) (W4 (Nf j5 hlb) (by omega)) (W4 (Qio hxs) (by omega));have cm:=Qoj (p0:=mono i x) hb.t (by rw [Ew]; omega) (by omega) (Qio hxs) hb.b (by omega);have l3:=Qpj (i:=i) (x:=x) (b:=b);have cb:=Qvn (p:=Ux r c) (q:=Um (trim (mono i x)) b) (by omega) (by omega) (W4 (Nf j6 hlb) (by omega)) (W4 (Qyn hb.b hxs (by omega)) (by omega));have hst:=Oy (b:=b) (c:=c) (q:=q) hx;have hI:i<=k/\W9 (str b c i x r)/\(stq c i x q).length<=66/\(str b c i x r).length<=a.length/\Bd (16777216+(k-i)*16777224) (stq c i x q)/\Bd (16777216+(k-i)*16777224) (str b c i x r):=by
   have l5:=Zeh (c:=c) (x:=x) (i:=i) (q:=q);have l6:=Qpk (c:=c) (x:=x) (i:=i) (b:=b) (r:=r);have hku:u+16777216+8=16777216+(k-i)*16777224:=by
    rw [hu,show k-i=(k-(i+1))+1 from by omega,Jf]; omega
   refine ⟨by omega,Ut _ _,by omega,by omega,?_,?_⟩
   ·rw [<-hku]; exact Zh0 j5 hlb hxs
   ·rw [<-hku]; exact Qu6 j6 hb.b hlb hxs (by omega)
  rw [hst];by_cases h:r.length=b.length+i
  ·refine go tt [.t (by simp <;> omega),.c [] (Px r),.c [] (Px b),.t (by simp; omega),.c [] (Np j2 (by omega) (W4 j6 (by omega))),.r 44 (eI (b:=((i+1:Nat):Int)) (by omega)),.i (i+1),.i (i+1),.r 47 (eI (b:=(i:Int)) (by omega)),.i i] rfl (by simp [W3]; omega) ?_;refine nl 2 rfl rfl rfl ?_;rw [Q0p i (x:=x) (by rw [hx,if_pos h]; rfl)];refine go tt [.c [] cs,.c [] ca,.c [] cs2,.c [] cm,.c [] cb,.r 33 (eI (b:=(i:Int)-1) (by omega))] rfl (by simp [W3]; omega) ?_;exact rd (i,stq c i x q,str b c i x r) (by dsimp only; omega) ⟨hI.1,hI.2.1,hI.2.2.1,hI.2.2.2.1,hI.2.2.2.2.1,hI.2.2.2.2.2,rfl⟩ rfl
  ·refine go tt [.t (by simp <;> omega),.c [] (Px r),.c [] (Px b),.f (by simp; omega),.r 44 (eI (b:=((i+1:Nat):Int)) (by omega)),.i (i+1),.i (i+1),.r 47 (eI (b:=(i:Int)) (by omega)),.i i] rfl (by simp [W3]; omega) ?_;refine nl 2 rfl rfl rfl ?_;rw [Q0p i (x:=x) (by rw [hx,if_neg h,Ds]; rfl)];refine go tt [.c [] cs,.c [] ca,.c [] cs2,.c [] cm,.c [] cb,.r 33 (eI (b:=(i:Int)-1) (by omega))] rfl (by simp [W3]; omega) ?_;exact rd (i,stq c i x q,str b c i x r) (by dsimp only; omega) ⟨hI.1,hI.2.1,hI.2.2.1,hI.2.2.2.1,hI.2.2.2.2.1,hI.2.2.2.2.2,rfl⟩ rfl
theorem Q9s {b:List Int} {c:Int} (hb:Bd 16777216 b) (hc:Ug c<=16777216) {n:Nat}:∀ (i u:Nat) (q r:List Int),i<=64->i+b.length<=n+1->W9 r->r.length<=n->Bd u r->W9 (psd b c i (q,r)).2/\(psd b c i (q,r)).2.length<=n/\Bd (u+i*16777224) (psd b c i (q,r)).2
 | 0,u,q,r,_,_,h1,h2,h3=>⟨h1,h2,by simpa [psd] using h3⟩
 |
  i+1,u,q,r,hi,hn,h1,h2,h3=>by
  rw [Oy rfl];have hx:Ug (if r.length=b.length+i then Uj r else 0)<=u:=by
   split
   ·exact Sy h3
   ·rw [S0]; exact Qg _
  have l6:=Qpk (c:=c) (x:=if r.length=b.length+i then Uj r else 0) (i:=i) (b:=b) (r:=r);have:=Q9s hb hc (n:=n) i (u+16777216+8) (stq c i (if r.length=b.length+i then Uj r else 0) q) (str b c i (if r.length=b.length+i then Uj r else 0) r) (by omega) (by omega) (Ut _ _) (by omega) (Qu6 h3 hb hc hx (by omega));exact ⟨this.1,this.2.1,W4 this.2.2 (by omega)⟩
theorem Q08 {a b:List Int} (ha:Pb a) (hb:Pb b) (h0:b.length≠0):W9 (Tk a b)/\(Tk a b).length<=a.length/\Bd 1107296256 (Tk a b):=by
 have hal:=ha.l;by_cases h:b.length<=a.length+1
 ·obtain ⟨h1,h2,h3⟩:=Q9s hb.b (Sy hb.b) (n:=a.length) (a.length+1-b.length) 16777216 [] a (by omega) (by omega) ha.t (Qn _) ha.b;refine ⟨h1,h2,W4 h3 ?_⟩;have:(a.length+1-b.length)*16777224<=64*16777224:=Q0 _ (by omega);omega
 ·have e:Tk a b=a:=by unfold Tk; rw [show a.length+1-b.length=0 from by omega]; rfl
  rw [e];exact ⟨ha.t,Qn _,W4 ha.b (by omega)⟩
theorem Qd6 {a b r:List Int} {s n:Nat} (h1:W9 r) (h2:r.length<=n) (h3:Bd s r):W9 (P7 a b r)/\(P7 a b r).length<=n/\Bd s (P7 a b r):=by
 unfold P7; split
 ·exact ⟨Ut _ _,Qc (Dn r) h2,Qak h3⟩
 ·exact ⟨h1,h2,h3⟩
theorem Qko {r:List Int} {s n:Nat} (h2:r.length<=n) (h3:Bd s r):W9 (Qbo r)/\(Qbo r).length<=n/\Bd s (Qbo r):=by
 unfold Qbo; split
 ·exact ⟨rfl,by simp,Iu⟩
 ·exact ⟨Ie _ _,Qc (Qm3 _ _) h2,Qiq h3 _⟩
theorem Qd3 {a b:List Int} (ha:Pb a) (hb:Pb b) (h0:b.length≠0):W9 (Ha a b)/\(Ha a b).length<=a.length/\Bd 1107296256 (Ha a b):=by
 obtain ⟨h1,h2,h3⟩:=Q08 ha hb h0;obtain ⟨h4,h5,h6⟩:=Qd6 (a:=a) (b:=b) h1 h2 h3;exact Qko h5 h6
theorem Q5y {a b:List Int} (ha:Pb a) (hb:Pb b) (h0:b.length≠0):W5 Tryz.prog 224 [pr a,pr b] [pr (Ha a b),.one (.int .i64 0)]:=by
 obtain ⟨h1,h2,h3⟩:=Q08 ha hb h0;obtain ⟨h4,h5,h6⟩:=Qd6 (a:=a) (b:=b) h1 h2 h3;have hal:=ha.l;have cp:=Q5w ha hb h0;have cl:=Np hb.t hb.ln hb.bd;have cn:=Q5v (p:=Tk a b) (by omega) (W4 h3 (by omega));unfold Ha;obtain ⟨r,hr⟩:=nmE (P7 a b (Tk a b));have cc:=Qe3 (p:=r) (by rw [hr]; omega) (by rw [hr]; exact W4 h6 (by omega));rw [<-hr] at h4 h5 h6 ⊢;obtain ⟨k,hk⟩:=nmE (a.length+1-b.length);rw [<-hk] at cp;have em:((k:Int).tmod 2)=((k % 2:Nat):Int):=by rw [Ys (by omega)]; omega
 have key:Qbo r=if r.length=0 then [] else Na r (Rl r):=rfl
 by_cases hz:r.length=0
 ·rw [key,if_pos hz];by_cases hodd:k % 2=1
  ·by_cases hneg:Uj b<0
   ·have e:r=Ta (Tk a b):=by rw [hr]; unfold P7; rw [if_pos ⟨by rw [<-hk]; exact hodd,hneg⟩]
    rw [e] at hz;exact w tt Tryz.func224 rfl [.c [] cp,.f (by simp),.r 22 (eI em),.t (by simp; omega),.c [] cl,.t (by simpa [Uj] using hneg),.c [] cn,.t (by simpa using hz)] rfl rfl (by simp [W3])
   ·have e:r=Tk a b:=by rw [hr]; unfold P7; rw [if_neg (λh=>hneg h.2)]
    rw [e] at hz;exact w tt Tryz.func224 rfl [.c [] cp,.f (by simp),.r 22 (eI em),.t (by simp; omega),.c [] cl,.f (by simpa [Uj] using hneg),.t (by simpa using hz)] rfl rfl (by simp [W3])
  ·have e:r=Tk a b:=by rw [hr]; unfold P7; rw [if_neg (λh=>hodd (by rw [hk]; exact h.1))]
   rw [e] at hz;exact w tt Tryz.func224 rfl [.c [] cp,.f (by simp),.r 22 (eI em),.f (by simp; omega),.f rfl,.t (by simpa using hz)] rfl rfl (by simp [W3])
 ·rw [key,if_neg hz];have cd:=Qyy (p:=r) (g:=Rl r) (by omega) (W4 h6 (by omega)) (Qau (W4 h6 (by omega))) (Ot h4 hz) Cv;by_cases hodd:k % 2=1
  ·by_cases hneg:Uj b<0
   ·have e:r=Ta (Tk a b):=by rw [hr]; unfold P7; rw [if_pos ⟨by rw [<-hk]; exact hodd,hneg⟩]
    rw [e] at hz cc cd ⊢;exact w tt Tryz.func224 rfl [.c [] cp,.f (by simp),.r 22 (eI em),.t (by simp; omega),.c [] cl,.t (by simpa [Uj] using hneg),.c [] cn,.f (by simpa using hz),.c [] cc,.c [] cd] rfl rfl (by simp [W3])
   ·have e:r=Tk a b:=by rw [hr]; unfold P7; rw [if_neg (λh=>hneg h.2)]
    rw [e] at hz cc cd ⊢;exact w tt Tryz.func224 rfl [.c [] cp,.f (by simp),.r 22 (eI em),.t (by simp; omega),.c [] cl,.f (by simpa [Uj] using hneg),.f (by simpa using hz),.c [] cc,.c [] cd] rfl rfl (by simp [W3])
  ·have e:r=Tk a b:=by rw [hr]; unfold P7; rw [if_neg (λh=>hodd (by rw [hk]; exact h.1))]
   rw [e] at hz cc cd ⊢;exact w tt Tryz.func224 rfl [.c [] cp,.f (by simp),.r 22 (eI em),.f (by simp; omega),.f rfl,.f (by simpa using hz),.c [] cc,.c [] cd] rfl rfl (by simp [W3])
theorem Zeb {s:Nat} {x:Int} (h:Ug x<=s) (g:Int):Ug (x / g)<=s:=Qe0 (p:=[x]) (λz hz=>by rw [Qm.1 hz]; exact h) g _ (by simp)
def sta (b:List Int) (i:Nat) (x:Int) (a:List Int):List Int:=S7 a (Um (trim (mono i x)) b)
theorem Zhz {u t i:Nat} {x:Int} {b a:List Int} (ha:Bd u a) (hb:Bd t b) (hx:Ug x<=u) (hi:i<=64):Bd (u+t+8) (sta b i x a) :=
 W4 (Qoe ha (Qyn hb hx hi)) (by omega)
theorem Q0f {x:Int} {i:Nat} {b a:List Int}:(sta b i x a).length<=max a.length (i+b.length):=by
 have h:=Qkb a (Um (trim (mono i x)) b);have h2:=Qpj (i:=i) (x:=x) (b:=b);unfold sta; omega
theorem Zcf (s n:Nat):Bd s (List.replicate n 0):=λz hz=>by rw [(List.mem_replicate.1 hz).2,S0]; exact Qg _
theorem Zhy {s i:Nat} {l:List Int} {x:Int} (h:Bd s l) (hx:Ug x<=s):Bd s (l.set i x):=λz hz=>by
 rcases J4 hz with hz | rfl
 ·exact h z hz
 ·exact hx
theorem Q5t {a b q:List Int} (ha:Pb a) (hb:Pb b) (h:Ox a b=some q):W5 Tryz.prog 292 [pr a,pr b] [pr q,.one (.int .i64 0)]:=by
 unfold Ox at h
 split at h
 ·cases h
 rename_i h0;obtain ⟨k,hk⟩:=nmE (a.length+1-b.length);rw [<-hk] at h;obtain ⟨q',hq,hq2⟩:=Qe.1 h;obtain ⟨rfl,hpb⟩:=Av (Gx _) hq2;have hal:=ha.l;have hbl:=hb.l;refine Fq Tryz.func292 rfl ?_;refine go tt [.c [] (Gi ha.t ha.ln ha.bd),.c [] (Gi hb.t hb.ln hb.bd),.f (by simpa using h0),.r 24 (eI (b:=(k:Int)) (by simp; omega)),.i k,.i k,.r 27 (eI (b:=(k:Int)) (by simp))] rfl (by simp [W3]; omega) ?_;refine nl 0 rfl rfl rfl ?_;rw [Qia];refine lp (S:=Nat×List Int×List Int) 1 (λL1 s=>(0,.v (pr s.2.1))::(7,.v (.one (.int .i64 ((s.1:Int)-1))))::L1) (λs=>[.row false 55 2 (s.2.2.map Fp)]) (λs=>s.1) (λs=>s.1<=k/\W9 s.2.1/\s.2.1.length<=a.length/\Bd (16777216+(k-s.1)*16777224) s.2.1/\s.2.2.length=k/\Bd 1107296256 s.2.2/\Qpz b s.1 s.2.1 s.2.2=some q') (k,a,List.replicate k 0) ⟨Qn _,ha.t,Qn _,by simpa using ha.b,by simp,Zcf _ _,hq⟩ rfl (λ_ _=>rfl) rfl λ⟨i,A,Q⟩ ⟨j1,j2,j3,j4,j5,j7,j6⟩=>?_
 dsimp only at j1 j2 j3 j4 j5 j6 j7 ⊢;cases i with
 |
  zero =>
  simp only [Qpz] at j6
  split at j6
  ·rename_i hA;injection j6 with j6; subst j6;exact en tt [.f (by simp),.f (by simpa using hA),.c [] (Cd (Fz Q) (by omega) (W4 j7 (by omega)))] rfl rfl trivial
  ·cases j6
 |
  succ i =>
  obtain ⟨u,hu⟩:=nmE (16777216+(k-(i+1))*16777224);rw [<-hu] at j4;have hub:u<=1107296256:=by
   have:(k-(i+1))*16777224<=64*16777224:=Q0 _ (by omega);omega
  have hku:u+16777216+8=16777216+(k-i)*16777224:=by
   rw [hu,show k-i=(k-(i+1))+1 from by omega,Jf]; omega
  simp only [Qpz] at j6;by_cases hlt:A.length<b.length+i
  ·rw [if_pos hlt] at j6;refine go tt [.t (by simp <;> omega),.c [] (Px A),.c [] (Px b),.t (by simp; omega),.r 32 (eI (b:=(i:Int)-1) (by omega))] rfl (by simp [W3]; omega) ?_;exact rd (i,A,Q) (by dsimp only; omega) ⟨by dsimp only; omega,j2,j3,W4 j4 (by dsimp only; omega),j5,j7,j6⟩ rfl
  ·rw [if_neg hlt] at j6
   split at j6
   ·rename_i hdv;obtain ⟨x,hx⟩:=nmE (Uj A / Uj b);rw [<-hx] at j6;have hxs:Ug x<=u:=by rw [hx]; exact Zeb (Sy j4) _
    have ce:=D9 (W6 (Uj A)) (W6 (Uj b)) (Qc (Sy j4) (by omega)) (Qc (Sy hb.b) (by omega)) (Ch hb.t h0) hdv;rw [<-hx] at ce;have cm:W5 Tryz.prog 215 [.one (.row ((mono i x).map Fp)),pr b] [pr (Um (trim (mono i x)) b)]:=Qoj (p0:=mono i x) hb.t (by rw [Ew]; omega) (by omega) (Qio hxs) hb.b (by omega);have l3:=Qpj (i:=i) (x:=x) (b:=b);have l4:=Q0f (i:=i) (x:=x) (b:=b) (a:=A);have cb:=Qvn (p:=A) (q:=Um (trim (mono i x)) b) (by omega) (by omega) (W4 j4 (by omega)) (W4 (Qyn hb.b hxs (by omega)) (by omega));refine go tt [.t (by simp <;> omega),.c [] (Px A),.c [] (Px b),.f (by simp; omega),.c [] (Np j2 (by omega) (W4 j4 (by omega))),.c [] (Np hb.t hb.ln hb.bd),.c [] ce,.f rfl,.r 51 (eI (b:=(i:Int)) (by omega)),.i i,.r 55 (eI (b:=((i+1:Nat):Int)) (by omega)),.i (i+1),.i (i+1),.r 58 (eI (b:=(i:Int)) (by omega))] rfl (by simp [W3]; omega) ?_;refine nl 2 rfl rfl rfl ?_;rw [Qia,Qw6];rw [<-Qs6 i x] at cm;refine go tt [.i i,.c [] cm,.c [] cb,.r 32 (eI (b:=(i:Int)-1) (by omega))] rfl (by simp [W3]; omega) ?_;exact rd (i,sta b i x A,Q.set i x) (by dsimp only; omega) ⟨by dsimp only; omega,Ut _ _,by dsimp only; omega,by dsimp only; rw [<-hku]; exact Zhz j4 hb.b hxs (by omega),by simpa using j5,Zhy j7 (Nat.le_trans hxs hub),j6⟩ rfl
   ·cases j6
theorem Qw4 {a b q:List Int} (h:Ox a b=some q):Pb q:=by
 unfold Ox at h
 split at h
 ·cases h
 ·obtain ⟨q',_,hq2⟩:=Qe.1 h;obtain ⟨rfl,hpb⟩:=Av (Gx _) hq2;exact hpb
theorem Q6o {a b q:List Int} (ha:Pb a) (hb:Pb b) (h:Ox a b=some q):W5 Tryz.prog 279 [pr a,pr b] [pr q] :=
 w tt Tryz.func279 rfl [.c [] (Q5t ha hb h)] rfl rfl trivial
theorem Qqx:∀ {k:Nat} {a b g:List Int},Pb a->Pb b->Qga k a b=some g->Pb g
 | 0,_,_,_,_,_,h=>by cases h
 |
  k+1,a,b,g,ha,hb,h=>by
  simp only [Qga] at h
  split at h
  ·injection h with h; subst h; exact ha
  ·rename_i h0;obtain ⟨r,hr,h⟩:=Qe.1 h;obtain ⟨rfl,hpb⟩:=Av (Qd3 ha hb h0).1 hr;exact Qqx hb hpb h
theorem Qy9 {a b g:List Int} (ha:Pb a) (hb:Pb b) (h:Oz a b=some g):W5 Tryz.prog 180 [pr a,pr b] [pr g]:=by
 unfold Oz at h;obtain ⟨g',h2,rfl⟩:=Vb.1 h;have hg:=Qqx (G6 ha) (G6 hb) h2;refine Fq Tryz.func180 rfl ?_;refine go tt [.c [] (Lb ha),.c [] (Lb hb)] rfl trivial ?_;refine lp (S:=Nat×List Int×List Int) 0 (λL1 s=>(0,.v (pr s.2.1))::(1,.v (pr s.2.2))::L1) (λ_=>[]) (λs=>s.1) (λs=>Pb s.2.1/\Pb s.2.2/\Qga s.1 s.2.1 s.2.2=some g') (66,Ue a,Ue b) ⟨G6 ha,G6 hb,h2⟩ rfl (λ_ _=>rfl) rfl λ⟨k,A,C⟩ ⟨j1,j2,j3⟩=>?_
 dsimp only at j1 j2 j3 ⊢;cases k with
 | zero=>cases j3
 |
  succ k =>
  simp only [Qga] at j3
  split at j3
  ·rename_i h0;injection j3 with j3; subst j3;exact en tt [.f (by simpa using h0),.c [] (Lb j1)] rfl rfl trivial
  ·rename_i h0;obtain ⟨r,hr,j3⟩:=Qe.1 j3;obtain ⟨rfl,hpb⟩:=Av (Qd3 j1 j2 h0).1 hr;refine go tt [.t (by simp; omega),.c [] (Q5y j1 j2 h0)] rfl trivial ?_;exact rd (k,C,Ha A C) (by dsimp only; omega) ⟨j2,hpb,j3⟩ rfl
theorem Qf0 {a b g:List Int} (ha:Pb a) (hb:Pb b) (h:Oz a b=some g):Pb g:=by
 unfold Oz at h;obtain ⟨g',h2,rfl⟩:=Vb.1 h;exact G6 (Qqx (G6 ha) (G6 hb) h2)
theorem Q5u {a b g:List Int} (ha:Pb a) (hb:Pb b) (h:Qp1 a b=some g):W5 Tryz.prog 136 [.one (.row (Te [a,b]))] [pr g]:=by
 unfold Qp1 at h;obtain ⟨g1,h1,h2⟩:=Qe.1 h;have hg1:=Qf0 Qfy ha h1;refine Fq Tryz.func136 rfl ?_;refine go tt [.z 3] rfl trivial ?_;refine lp (S:=Nat) 0 (λL1 i=>(8,.v (.one (.int .i64 (i:Int))))::(3,.v (pr (if i=0 then [] else if i=1 then g1 else g)))::L1) (λ_=>[]) (λi=>2-i) (λi=>i<=2) 0 (Qg _) rfl (λ_ _=>rfl) rfl λi hi=>?_
 rcases (show i=0\/i=1\/i=2 by omega) with rfl | rfl | rfl
 ·refine go tt [.t rfl,.x (Hr (i:=0) (p:=a) rfl),.c [] (Qy9 Qfy ha h1)] rfl (by simp [W3]) ?_;exact rd 1 (by omega) (by omega) rfl
 ·refine go tt [.t rfl,.x (Hr (i:=1) (p:=b) rfl),.c [] (Qy9 hg1 hb h2)] rfl (by simp [W3]) ?_;exact rd 2 (by omega) (by omega) rfl
 ·exact en tt [.f rfl] rfl rfl trivial
theorem Q9e {a b g:List Int} (ha:Pb a) (hb:Pb b) (h:Qp1 a b=some g):Pb g:=by
 unfold Qp1 at h;obtain ⟨g1,h1,h2⟩:=Qe.1 h;exact Qf0 (Qf0 Qfy ha h1) hb h2
theorem Qkk {p d:List Int} (h:chk (U3 p)=some d):d=U3 p/\Pb (U3 p):=Av (Ut _ _) h
theorem Qiw {a g:List Int} (ha:Pb a) (h:Tf a=some g):W5 Tryz.prog 251 [pr a] [pr g]:=by
 have hp:=G6 ha;unfold Tf at h
 split at h
 ·rename_i h0;injection h with h; subst h;exact w tt Tryz.func251 rfl [.c [] (Lb ha),.c [] (Px _),.t (by simp; omega)] rfl rfl trivial
 ·rename_i h0;obtain ⟨d,h1,h⟩:=Qe.1 h;obtain ⟨rfl,hd⟩:=Qkk h1;obtain ⟨g1,h1,h⟩:=Qe.1 h;exact w tt Tryz.func251 rfl [.c [] (Lb ha),.c [] (Px _),.f (by simp; omega),.c [] (Ei hp.ln hp.bd),.c [] (Qy9 hp hd h1),.c [] (Q6o hp (Qf0 hp hd h1) h)] rfl rfl trivial
theorem Qfz {a g:List Int} (ha:Pb a) (h:Tf a=some g):Pb g:=by
 unfold Tf at h
 split at h
 ·injection h with h; subst h; exact G6 ha
 ·obtain ⟨d,h1,h⟩:=Qe.1 h;obtain ⟨g1,h1,h⟩:=Qe.1 h;exact Qw4 h
theorem Q9f {p:List Int} (h:Pb p):Pb (Ta p):=⟨Ut _ _,Qc (Dn p) h.l,Qak h.b⟩
theorem Qv5:∀ {k:Nat} {a b:List Int} {l:List (List Int)},Pb a->Pb b->chF k a b=some l->l.length≤k/\∀ p∈l,Pb p
 | 0,_,_,_,_,_,h=>by cases h
 |
  k+1,a,b,l,ha,hb,h=>by
  simp only [chF] at h
  split at h
  ·injection h with h; subst h; exact ⟨by simp,λp hp=>by cases hp⟩
  ·rename_i h0;obtain ⟨r,hr,h⟩:=Qe.1 h;obtain ⟨rfl,hpb⟩:=Av (Qd3 ha hb h0).1 hr;obtain ⟨l',h1,h⟩:=Qe.1 h;injection h with h; subst h;obtain ⟨i1,i2⟩:=Qv5 hb (Q9f hpb) h1;refine ⟨by simp; exact i1,λp hp=>?_⟩;rcases Qo.1 hp with rfl | hp
   ·exact hb
   ·exact i2 p hp
theorem chain_ok {p:List Int} {l:List (List Int)} (hp:Pb p) (h:C7 p=some l):l.length≤67/\∀ q∈l,Pb q:=by
 unfold C7 at h;obtain ⟨a,h1,h⟩:=Qe.1 h;have ha:=Qfz hp h1
 split at h
 ·cases h
 ·obtain ⟨d,h2,h⟩:=Qe.1 h;obtain ⟨rfl,hd⟩:=Qkk h2;obtain ⟨l',h3,h⟩:=Qe.1 h;injection h with h; subst h;obtain ⟨i1,i2⟩:=Qv5 ha (G6 hd) h3;refine ⟨by simp; omega,λp hp=>?_⟩;rcases Qo.1 hp with rfl | hp
  ·exact ha
  ·exact i2 p hp
theorem Qkn (l:List (List Int)) (p:List Int):Te l++[[pl p]]=Te (l++[p]):=by simp [Te]
theorem Cw (l:List (List Int)):(Te l).length=l.length:=by simp [Te]
theorem Q50 {p:List Int} {l:List (List Int)} (hp:Pb p) (h:C7 p=some l):W5 Tryz.prog 249 [pr p] [.one (.sh [.row (Te l)]),.one (.int .i64 0)]:=by
 unfold C7 at h;obtain ⟨a,h1,h⟩:=Qe.1 h;have ha:=Qfz hp h1
 split at h
 ·cases h
 rename_i h0;obtain ⟨d,h2,h⟩:=Qe.1 h;obtain ⟨rfl,hd⟩:=Qkk h2;obtain ⟨l',h3,h⟩:=Qe.1 h;injection h with h; subst h;refine Fq Tryz.func249 rfl ?_;refine go tt [.c [] (Qiw hp h1),.f (by simpa using h0),.lo,.c [] (Ei ha.ln ha.bd),.c [] (Q6k hd.t hd.ln' hd.bd)] rfl (by simp [W3]) ?_;obtain ⟨z,hz⟩:=nmE (if (U3 a).length=0 then 0 else Fu (U3 a));rw [<-hz];refine sb [(4,.v (pr a)),(7,.v (pr (Ue (U3 a)))),(5,.v (.one (.ow 1 0)))] [.row false 52 1 [[pl a]],.blk 327 [.orow 0 1 none],.blk 55 (Fp z)] rfl rfl ?_;have hll:=(Qv5 ha (G6 hd) h3).1;refine lp (S:=Nat×List (List Int)×List Int×List Int) 3 (λL1 s=>(4,.v (pr s.2.2.1))::(7,.v (pr s.2.2.2))::L1) (λs=>[.row false 52 1 (Te s.2.1),.blk 327 [.orow 0 1 none],.blk 55 (Fp z)]) (λs=>s.1) (λs=>Pb s.2.2.1/\Pb s.2.2.2/\∃ m,chF s.1 s.2.2.1 s.2.2.2=some m/\s.2.1++m=a::l') (66,[a],a,Ue (U3 a)) ⟨ha,G6 hd,l',h3,rfl⟩ rfl (λ_ _=>rfl) rfl λ⟨k,out,A,C⟩ ⟨j1,j2,m,j3,j4⟩=>?_
 dsimp only at j1 j2 j3 j4 ⊢;have hol:out.length<=67:=by have:=congrArg List.length j4; simp at this; omega
 cases k with
 | zero=>cases j3
 |
  succ k =>
  simp only [chF] at j3
  split at j3
  ·rename_i h0;injection j3 with j3; subst j3;rw [Xd] at j4;rw [<-j4];exact en tt [.f (by simpa using h0)] rfl rfl trivial
  ·rename_i h0;obtain ⟨r,hr,j3⟩:=Qe.1 j3;obtain ⟨rfl,hpb⟩:=Av (Qd3 j1 j2 h0).1 hr;obtain ⟨m',j6,j5⟩:=Qe.1 j3;injection j5 with j5; subst j5;refine go tt [.t (by simp; omega),.s (sz:=1) (λc hc=>by rw [Qm.1 hc]; rfl),.c [] (Q5y j1 j2 h0),.c [] (Q5v hpb.ln hpb.bd)] rfl (by simp [W3,Cw]; omega) ?_;exact rd (k,out++[C],C,Ta (Ha A C)) (by dsimp only; omega) ⟨j2,Q9f hpb,m',j6,by rw [<-j4]; simp⟩ (by rw [Qkn]; rfl)
structure Tb (t:Tm):Prop where
 p:Pb t.p
 lo:Qb t.lo
 hi:Qb t.hi
theorem Qzi (x y:Int):-1<=Mc x y/\Mc x y<=1:=by unfold Mc; split <;> (try split) <;> omega
theorem Ax (a b:Rat):-1<=Fh a b/\Fh a b<=1:=Qzi _ _
theorem Aa (p:List Int) (q:Rat):-1<=Fj p q/\Fj p q<=1:=Qzi _ _
theorem Qwv (p:List Int) (q:Rat):-1<=low p q/\low p q<=1:=by unfold low; split <;> exact Aa _ _
theorem Qb.s31 {q:Rat} (h:Qb q):Qs 2147483647 q:=h.mono (by decide)
theorem Qb.s32 {q:Rat} (h:Qb q):Qs 4294967295 q:=h.mono (by decide)
theorem Qha {p:List Int} {q:Rat} (hp:Pb p) (hq:Qb q):W5 Tryz.prog 159 [pr p,.agg (rl q)] [.one (.int .i64 (Fj p q))]:=by
 have hm:p.length*(16777216+1)<=64*16777217:=Q0 _ hp.l;exact Qyu hp.t hp.ln hp.b hq (by omega)
theorem Zlb {p:List Int} {q:Rat} (hp:Pb p) (hq:Qb q):W5 Tryz.prog 159 [pr (U3 p),.agg (rl q)] [.one (.int .i64 (Fj (U3 p) q))]:=by
 have hl:=Qc (Tq p) (show p.length-1<=64 by have:=hp.l; omega);have hm:(U3 p).length*(16777216+1)<=64*16777217:=Q0 _ hl;exact Qyu (Ut _ _) (Zs hl (by omega)) (Qhl (t:=6) hp.b hp.l) hq (by omega)
theorem Bf {t:Tm} (ht:Tb t):W5 Tryz.prog 135 [.agg (ta t)] [.one (.bool t.point)] :=
 w tt Tryz.func135 rfl [.c [] (C6 ht.lo.s31 ht.hi.s31)] rfl rfl trivial
theorem Qho {t:Tm} (ht:Tb t):W5 Tryz.prog 134 [.agg (ta t)] [.agg (ta t)] :=
 w tt Tryz.func134 rfl [.c [] (Gi ht.p.t ht.p.ln ht.p.bd),.c [] (Lc ht.lo.s32),.c [] (Lc ht.hi.s32)] rfl rfl trivial
theorem Q6x {t:Tm} (ht:Tb t):W5 Tryz.prog 131 [.agg (ta t)] [.agg (ta t)]:=w tt Tryz.func131 rfl [.c [] (Qho ht)] rfl rfl trivial
theorem Q6h {p:List Int} {q:Rat} (hp:Pb p) (hq:Qb q):W5 Tryz.prog 160 [pr p,.agg (rl q)] [.one (.int .i64 (low p q))]:=by
 unfold low;by_cases h:Fj p q=0
 ·rw [if_neg (by simpa using h)];exact w tt Tryz.func160 rfl [.c [] (Qha hp hq),.f (by simpa using h),.c [] (Ei hp.ln hp.bd),.c [] (Zlb hp hq)] rfl rfl trivial
 ·rw [if_pos h];exact w tt Tryz.func160 rfl [.c [] (Qha hp hq),.t (by simpa using h)] rfl rfl trivial
theorem Q6e {p:List Int} {lo hi:Rat} (hp:Pb p) (hl:Qb lo) (hh:Qb hi):W5 Tryz.prog 138 [pr p,.agg (rl lo),.agg (rl hi)] [.one (.bool (Qdh p lo hi))]:=by
 by_cases h:Fj p hi=0
 ·exact w tt Tryz.func138 rfl [.c [] (Qha hp hh),.t (by simpa using h)] rfl (by simp [Qdh,h]) trivial
 ·exact w tt Tryz.func138 rfl [.c [] (Qha hp hh),.f (by simpa using h),.c [] (Q6h hp hl)] rfl (by simp [Qdh,h]) trivial
theorem Qe2 {t:Tm} {q:Rat} (ht:Tb t) (hq:Qb q):W5 Tryz.prog 115 [.agg (ta t),.agg (rl q)] [.one (.int .i64 (Ul t q))]:=by
 have cp:=Bf ht;unfold Ul;by_cases h1:t.point=true
 ·rw [if_pos h1];exact w tt Tryz.func115 rfl [.c [] cp,.t h1,.c [] (C6 ht.lo.s31 hq.s31)] rfl rfl trivial
 rw [if_neg h1];have h1:t.point=false:=by simpa using h1
 have c1:=C6 hq.s31 ht.lo.s31;have c2:=C6 hq.s31 ht.hi.s31;by_cases h2:Fh q t.lo<=0
 ·rw [if_pos h2];exact w tt Tryz.func115 rfl [.c [] cp,.f h1,.c [] c1,.t (by simpa using h2)] rfl rfl trivial
 rw [if_neg h2];by_cases h3:0<Fh q t.hi
 ·rw [if_pos h3];exact w tt Tryz.func115 rfl [.c [] cp,.f h1,.c [] c1,.f (by simpa using h2),.c [] c2,.t (by simpa using h3)] rfl rfl trivial
 rw [if_neg h3];by_cases h4:Fj t.p q=0
 ·rw [if_pos h4];exact w tt Tryz.func115 rfl [.c [] cp,.f h1,.c [] c1,.f (by simpa using h2),.c [] c2,.f (by simpa using h3),.c [] (Qha ht.p hq),.t (by simpa using h4)] rfl rfl trivial
 rw [if_neg h4];by_cases h5:Fj t.p q=low t.p t.lo
 ·rw [if_pos h5];exact w tt Tryz.func115 rfl [.c [] cp,.f h1,.c [] c1,.f (by simpa using h2),.c [] c2,.f (by simpa using h3),.c [] (Qha ht.p hq),.f (by simpa using h4),.c [] (Q6h ht.p ht.lo),.t (by simpa using h5)] rfl rfl trivial
 ·rw [if_neg h5];exact w tt Tryz.func115 rfl [.c [] cp,.f h1,.c [] c1,.f (by simpa using h2),.c [] c2,.f (by simpa using h3),.c [] (Qha ht.p hq),.f (by simpa using h4),.c [] (Q6h ht.p ht.lo),.f (by simpa using h5)] rfl rfl trivial
theorem Zdp (t:Tm) (q:Rat):-1<=Ul t q/\Ul t q<=1:=by
 unfold Ul;have:=Ax t.lo q
 repeat' split
 all_goals omega
theorem Zdw (q:Rat):0<(q.den:Int):=by have:=q.den_pos; omega
theorem Zgp {a b:Rat} (ha:Qb a) (hb:Qb b):W5 Tryz.prog 228 [.agg (rl a),.agg (rl b)] [.agg (rl (mid a b))]:=by
 have h1:Ug (a.num*(b.den:Int))<=33554432:=Qc (Ur _ _) (by have:=ha.1; have:=hb.2; omega);have h2:Ug (b.num*(a.den:Int))<=33554432:=Qc (Ur _ _) (by have:=hb.1; have:=ha.2; omega);have h3:Ug ((a.den:Int)*(b.den:Int))<=33554432:=Qc (Ur _ _) (by have:=ha.2; have:=hb.2; omega);have h4:Ug (2:Int)<=2:=by decide
 have h5:Ug (a.num*(b.den:Int)+b.num*(a.den:Int))<=33554433:=Qc (Qat _ _) (by omega);have h6:Ug ((a.den:Int)*(b.den:Int)*2)<=33554434:=Qc (Ur _ _) (by omega);have h0:(a.den:Int)*(b.den:Int)*2≠0:=by
  have:=Int.mul_pos (Zdw a) (Zdw b); omega
 exact w tt Tryz.func228 rfl [.c [] (Qoo ha.s31 hb.s31),.c [] (Qb0 (W6 _) (W6 _) (by omega) (by omega)),.c [] (Qvl (z:=2) (by decide)),.c [] (C5 (W6 _) (W6 _) (by omega) (by omega)),.c [] (Iw h0 (by omega) (by omega))] rfl rfl trivial
theorem Qou {a b:Rat} (ha:Qb a) (hb:Qb b):W5 Tryz.prog 182 [.agg (rl a),.agg (rl b)] [.agg (rl (Qk0 a b))]:=by
 have h1:Ug (a.num*(b.den:Int))<=33554432:=Qc (Ur _ _) (by have:=ha.1; have:=hb.2; omega);have h2:Ug (b.num*(a.den:Int))<=33554432:=Qc (Ur _ _) (by have:=hb.1; have:=ha.2; omega);have h3:Ug ((a.den:Int)*(b.den:Int))<=33554432:=Qc (Ur _ _) (by have:=ha.2; have:=hb.2; omega);have h5:Ug (a.num*(b.den:Int)-b.num*(a.den:Int))<=33554433:=Qc (Qpi _ _) (by omega);have h0:(a.den:Int)*(b.den:Int)≠0:=by
  have:=Int.mul_pos (Zdw a) (Zdw b); omega
 exact w tt Tryz.func182 rfl [.c [] (Qoo ha.s31 hb.s31),.c [] (Q58 (W6 _) (W6 _) (by omega) (by omega)),.c [] (Iw h0 (by omega) (by omega))] rfl rfl trivial
theorem Qi2 {q r:Rat} (h:chq q=some r):r=q/\Qb q:=by
 unfold chq at h
 split at h
 ·rename_i hc; injection h with h; exact ⟨h.symm,hc⟩
 ·cases h
theorem Qvt {t u:Tm} (ht:Tb t) (h:Qpb t=some u):W5 Tryz.prog 183 [.agg (ta t)] [.agg (ta u)]:=by
 have cp:=Bf ht;unfold Qpb at h
 split at h
 ·rename_i h1;injection h with h; subst h;exact w tt Tryz.func183 rfl [.c [] cp,.t h1] rfl rfl trivial
 ·rename_i h1;have h1:t.point=false:=by simpa using h1
  obtain ⟨m,hm0,h⟩:=Qe.1 h;obtain ⟨rfl,hm⟩:=Qi2 hm0;injection h with h;subst h;have cm:=Zgp ht.lo ht.hi;have cc:=Qe2 ht hm;by_cases h2:Ul t (mid t.lo t.hi)=0
  ·rw [if_pos h2];exact w tt Tryz.func183 rfl [.c [] cp,.f h1,.c [] cm,.c [] cc,.t (by simpa using h2)] rfl rfl trivial
  rw [if_neg h2];by_cases h3:Ul t (mid t.lo t.hi)=-1
  ·rw [if_pos h3];exact w tt Tryz.func183 rfl [.c [] cp,.f h1,.c [] cm,.c [] cc,.f (by simpa using h2),.t (by simpa using h3)] rfl rfl trivial
  ·rw [if_neg h3];exact w tt Tryz.func183 rfl [.c [] cp,.f h1,.c [] cm,.c [] cc,.f (by simpa using h2),.f (by simpa using h3)] rfl rfl trivial
theorem Qqq {t u:Tm} (ht:Tb t) (h:Qpb t=some u):Tb u:=by
 unfold Qpb at h
 split at h
 ·injection h with h; subst h; exact ht
 ·obtain ⟨m,hm0,h⟩:=Qe.1 h;obtain ⟨rfl,hm⟩:=Qi2 hm0;injection h with h;subst h
  repeat' split
  ·exact ⟨ht.p,hm,hm⟩
  ·exact ⟨ht.p,ht.lo,hm⟩
  ·exact ⟨ht.p,hm,ht.hi⟩
theorem Aq {z:Int} (h:Ug z<=4294967296):W5 Tryz.prog 225 [.one (mg z)] [.one (.int .i64 (Ug z:Int))]:=by
 have h1:=Qvf (l:=Un z.natAbs) (Bq _) (by rw [U5]; exact h);rw [U5] at h1; exact h1
theorem Qku {p:List Int} {i:Nat} {z:Int} (h:p[i]? = some z):Fc (p.take (i+1))=max (Fc (p.take i)) (Ug z):=by
 unfold Fc; rw [List.take_succ,h,Option.toList_some,List.foldl_append]; rfl
theorem Tw {p:List Int} {s:Nat} (h:Bd s p):∀ i,Fc (p.take i)<=s
 | 0=>by simp [Fc]
 |
  i+1=>by
  cases hz:p[i]? with
  |
   none =>
   rw [Qj (by have:=Ji.1 hz; omega),<-Qj (l:=p) (i:=i) (by have:=Ji.1 hz; omega)];exact Tw h i
  | some z=>rw [Qku hz]; have:=Tw h i; have:=Q49 h hz; omega
theorem Qov {p:List Int} (hp:Pb p):W5 Tryz.prog 226 [pr p] [.one (.int .i64 (Fc p:Int))]:=by
 have hl:=hp.l;refine Fq Tryz.func226 rfl ?_;refine go tt [] rfl trivial ?_;refine lp (S:=Nat) 0 (λL1 i=>(8,.v (.one (.int .i64 (i:Int))))::(3,.v (.one (.int .i64 (Fc (p.take i):Int))))::L1) (λ_=>[]) (λi=>p.length-i) (λi=>i<=p.length) 0 (Qg _) rfl (λ_ _=>rfl) rfl λi hi=>?_
 by_cases hlt:i<p.length
 ·have hg:=Gt hlt;have hz:=Ui hp.b i;have hs:=Qku hg;refine go tt [.t (by simp; omega),.x (Rp hg),.c [] (Aq (by omega)),.r 16 (eI (b:=(Fc (p.take (i+1)):Int)) (by rw [hs]; omega))] rfl (by simp [W3]; omega) ?_;exact rd (i+1) (by omega) hlt rfl
 ·obtain rfl:i=p.length:=by omega
  rw [Q4];exact en tt [.f (by simp)] rfl rfl trivial
theorem Zdl {a:Tm} {b:Tm} (ha:Tb a) (hb:Tb b):W5 Tryz.prog 181 [.agg (ta a),.agg (ta b)] [.one (.int .i64 (Tc a b:Nat))]:=by
 have l1:=ha.p.l;have l2:=hb.p.l;have b1:=ha.lo.1;have b2:=ha.hi.1;have b3:=hb.lo.1;have b4:=hb.hi.1;have s1:Fc a.p<=16777216:=by have:=Tw ha.p.b a.p.length; rwa [Q4] at this
 have s2:Fc b.p<=16777216:=by have:=Tw hb.p.b b.p.length; rwa [Q4] at this
 obtain ⟨N,hN⟩:=nmE (4*(a.p.length+b.p.length));obtain ⟨S,hS⟩:=nmE (Fc a.p+Fc b.p+(a.p.length+b.p.length)+8);have hNS:N*S<=512*33554568:=Zx (by omega) (by omega);have h0:(N:Int)*(S:Int)=((N*S:Nat):Int):=(Y4 _ _).symm;have hst:Tc a b=64+2*(Ug a.lo.num+Ug a.hi.num+Ug b.lo.num+Ug b.hi.num)+N*S:=by rw [hN,hS]; rfl
 rw [hst];exact w tt Tryz.func181 rfl [.c [] (Aq (z:=a.lo.num) (by omega)),.c [] (Aq (z:=a.hi.num) (by omega)),.c [] (Aq (z:=b.lo.num) (by omega)),.c [] (Aq (z:=b.hi.num) (by omega)),.r 41 (eI (b:=(N:Int)) (by rw [hN]; simp)),.c [] (Qov ha.p),.c [] (Qov hb.p),.r 51 (eI (b:=(S:Int)) (by rw [hS]; simp)),.r 52 (eI (b:=((N*S:Nat):Int)) h0)] rfl (by simp) (by rw [h0]; simp [W3]; omega)
def Qx2 (p:List Int) (a:Tm):Nat:=64+2*(Ug a.lo.num+Ug a.hi.num)+4*(a.p.length+p.length)*(Fc a.p+Fc p+(a.p.length+p.length)+8)
theorem Qyo:W5 Tryz.prog 225 [lr []] [.one (.int .i64 0)]:=Qvf (l:=[]) (by simp [Sm]) (by decide)
theorem Q6w {a:Tm} {p:List Int} (ha:Tb a) (hp:Pb p):W5 Tryz.prog 181 [.agg (ta a),.agg ([pl p,.bool false,.row [],.bool false,.row [],.bool false,.row [],.bool false,.row []])] [.one (.int .i64 (Qx2 p a:Nat))]:=by
 have l1:=ha.p.l;have l2:=hp.l;have b1:=ha.lo.1;have b2:=ha.hi.1;have s1:Fc a.p<=16777216:=by have:=Tw ha.p.b a.p.length; rwa [Q4] at this
 have s2:Fc p<=16777216:=by have:=Tw hp.b p.length; rwa [Q4] at this
 obtain ⟨N,hN⟩:=nmE (4*(a.p.length+p.length));obtain ⟨S,hS⟩:=nmE (Fc a.p+Fc p+(a.p.length+p.length)+8);have hNS:N*S<=512*33554568:=Zx (by omega) (by omega);have h0:(N:Int)*(S:Int)=((N*S:Nat):Int):=(Y4 _ _).symm;have hst:Qx2 p a=64+2*(Ug a.lo.num+Ug a.hi.num)+N*S:=by rw [hN,hS]; rfl
 rw [hst];exact w tt Tryz.func181 rfl [.c [] (Aq (z:=a.lo.num) (by omega)),.c [] (Aq (z:=a.hi.num) (by omega)),.c [] Qyo,.c [] Qyo,.r 41 (eI (b:=(N:Int)) (by rw [hN]; simp)),.c [] (Qov ha.p),.c [] (Qov hp),.r 51 (eI (b:=(S:Int)) (by rw [hS]; simp)),.r 52 (eI (b:=((N*S:Nat):Int)) h0)] rfl (by simp) (by rw [h0]; simp [W3]; omega)
def tst (sg:List Int->Int) (l:List (List Int)) (i:Nat):Nat×Int:=(l.take i).foldl (Rv sg) (0,0)
theorem Qqu {sg:List Int->Int} (hs:∀ p,-1<=sg p/\sg p<=1) (l:List (List Int)):∀ i,(tst sg l i).1<=i/\-1<=(tst sg l i).2/\(tst sg l i).2<=1
 | 0=>⟨Qn _,show (-1:Int)<=0 by decide,show (0:Int)<=1 by decide⟩
 |
  i+1=>by
  obtain ⟨h1,h2,h3⟩:=Qqu hs l i;cases h:l[i]? with
  |
   none =>
   have:tst sg l (i+1)=tst sg l i:=by unfold tst; rw [List.take_of_length_le (by have:=List.getElem?_eq_none_iff.1 h; omega),List.take_of_length_le (List.getElem?_eq_none_iff.1 h)]
   rw [this]; omega
  |
   some p =>
   have:tst sg l (i+1)=Rv sg (tst sg l i) p:=He _ _ _ h;rw [this];have:=hs p;unfold Rv
   split
   ·omega
   ·dsimp only; split <;> omega
theorem Zdm {l:List (List Int)} {fid:Nat} {l1:List LV} {sg:List Int->Int} (hl:l.length≤1000) (hs:∀ p,-1≤sg p/\sg p≤1) (h:∀ p∈l,W5 Tryz.prog fid [pr p,.one (.sh l1)] [.one (.int .i64 (sg p))]):W5 Tryz.prog 290 [.one (.sh [.row (Te l)]),.one (.fn fid [] [.sh l1])] [.one (.int .i64 (Mw sg l:Nat))]:=by
 have hpl:=Cw l;refine Fq Tryz.func290 rfl ?_;refine go tt [] rfl trivial ?_;refine lp (S:=Nat) 0 (λL1 i=>(15,.v (.one (.int .i64 (i:Int))))::(5,.v (.one (.int .i64 ((tst sg l i).1:Int))))::(6,.v (.one (.int .i64 (tst sg l i).2)))::L1) (λ_=>[]) (λi=>l.length-i) (λi=>i<=l.length) 0 (Qg _) rfl (λ_ _=>rfl) rfl λi hi=>?_
 by_cases hlt:i<l.length
 ·obtain ⟨p,hp⟩:=gxE (l:=l) (i:=i) hlt;have hst:tst sg l (i+1)=Rv sg (tst sg l i) p:=He _ _ _ hp;obtain ⟨b1,b2,b3⟩:=Qqu hs l i;have b4:=hs p;by_cases h0:sg p=0
  ·refine go tt [.t (by simp [hpl]; omega),.x (Hr hp),.c [] (h p (Qa hp)),.t (by simpa using h0)] rfl (by simp [W3]; omega) ?_;exact rd (i+1) (by omega) hlt (by rw [hst,show Rv sg (tst sg l i) p=tst sg l i from by unfold Rv; rw [if_pos h0]]; rfl)
  ·by_cases h1:(tst sg l i).2=-(sg p)
   ·refine go tt [.t (by simp [hpl]; omega),.x (Hr hp),.c [] (h p (Qa hp)),.f (by simpa using h0),.t (by simpa using h1)] rfl (by simp [W3]; omega) ?_;exact rd (i+1) (by omega) hlt (by rw [hst,show Rv sg (tst sg l i) p=((tst sg l i).1+1,sg p) from by unfold Rv; rw [if_neg h0,if_pos h1]]; rfl)
   ·refine go tt [.t (by simp [hpl]; omega),.x (Hr hp),.c [] (h p (Qa hp)),.f (by simpa using h0),.f (by simpa using h1)] rfl (by simp [W3]; omega) ?_;exact rd (i+1) (by omega) hlt (by rw [hst,show Rv sg (tst sg l i) p=((tst sg l i).1,sg p) from by unfold Rv; rw [if_neg h0,if_neg h1]]; rfl)
 ·obtain rfl:i=l.length:=by omega
  refine en tt [.f (by simp [hpl])] rfl ?_ trivial;unfold tst Mw; rw [List.take_length]
theorem Q56 {p:List Int} {q:Rat} (hp:Pb p) (hq:Qb q):W5 Tryz.prog 291 [pr p,.one (.sh (rl q))] [.one (.int .i64 (Fj p q))]:=w tt Tryz.func291 rfl [.c [] (Qha hp hq)] rfl rfl trivial
theorem Qyx {l:List (List Int)} {q:Rat} (hl:l.length≤1000) (hp:∀ p∈l,Pb p) (hq:Qb q):W5 Tryz.prog 278 [.one (.sh [.row (Te l)]),.agg (rl q)] [.one (.int .i64 (Mx l q:Nat))] :=
 w tt Tryz.func278 rfl [.c [] (Zdm (fid:=291) (l1:=rl q) (sg:=λp=>Fj p q) hl (λp=>Aa p q) λp h=>Q56 (hp p h) hq)] rfl rfl trivial
theorem Bs {sg:List Int->Int} (hs:∀ p,-1<=sg p/\sg p<=1) (l:List (List Int)):Mw sg l<=l.length:=by
 have:=(Qqu hs l l.length).1;unfold tst at this; rwa [List.take_length] at this
theorem Ql0 {l:List (List Int)} {lo hi:Rat} (hl:l.length≤1000) (hp:∀ p∈l,Pb p) (ql:Qb lo) (qh:Qb hi):W5 Tryz.prog 250 [.one (.sh [.row (Te l)]),.agg (rl lo),.agg (rl hi)] [.one (.int .i64 (Hl l lo hi))]:=by
 have b1:Mx l lo<=l.length:=Bs (λp=>Aa p lo) l;have b2:Mx l hi<=l.length:=Bs (λp=>Aa p hi) l;have c1:=C6 qh.s31 ql.s31;unfold Hl;by_cases h:Fh hi lo<0
 ·rw [if_pos h];exact w tt Tryz.func250 rfl [.c [] c1,.t (by simpa using h)] rfl rfl trivial
 ·rw [if_neg h];exact w tt Tryz.func250 rfl [.c [] c1,.f (by simpa using h),.c [] (Qyx hl hp ql),.c [] (Qyx hl hp qh)] rfl rfl (by simp [W3]; omega)
def zTm:List LV:=[.nils,.bool false,.nils,.bool false,.nils,.bool false,.nils,.bool false,.nils]
theorem Q4b {a b:Tm} (ha:Tb a) (hb:Tb b):Tc a b<=17179938816+200000000:=by
 have l1:=ha.p.l;have l2:=hb.p.l;have b1:=ha.lo.1;have b2:=ha.hi.1;have b3:=hb.lo.1;have b4:=hb.hi.1;have s1:Fc a.p<=16777216:=by have:=Tw ha.p.b a.p.length; rwa [Q4] at this
 have s2:Fc b.p<=16777216:=by have:=Tw hb.p.b b.p.length; rwa [Q4] at this
 have:4*(a.p.length+b.p.length)*(Fc a.p+Fc b.p+(a.p.length+b.p.length)+8)<=512*33554568:=Zx (by omega) (by omega);unfold Tc; omega
theorem Zfd {a b:Rat} (ha:Qb a) (hb:Qb b):Qs 2147483647 (Qk0 a b):=by
 have h1:Ug (a.num*(b.den:Int))<=33554432:=Qc (Ur _ _) (by have:=ha.1; have:=hb.2; omega);have h2:Ug (b.num*(a.den:Int))<=33554432:=Qc (Ur _ _) (by have:=hb.1; have:=ha.2; omega);have h3:Ug ((a.den:Int)*(b.den:Int))<=33554432:=Qc (Ur _ _) (by have:=ha.2; have:=hb.2; omega);have h5:Ug (a.num*(b.den:Int)-b.num*(a.den:Int))<=33554433:=Qc (Qpi _ _) (by omega);exact (Qs.divInt (s:=33554433) h5 (by omega) (by omega)).mono (by omega)
theorem Qol {a b:Tm} {r:Tm×Tm×Int} (ha:Tb a) (hb:Tb b) (h:apF (Tc a b) a b=some r):W5 Tryz.prog 139 [.agg (ta a),.agg (ta b)] [.agg (ta r.1),.agg (ta r.2.1),.one (.int .i64 r.2.2)]:=by
 have hsb:=Q4b ha hb;refine Fq Tryz.func139 rfl ?_;refine go tt [.c [] (Zdl ha hb)] rfl trivial ?_;obtain ⟨n,hn⟩:=nmE (Tc a b);rw [<-hn] at h hsb ⊢;refine sb [(10,.v (.one (.int .i64 0))),(9,.v (.one (.int .i64 (n:Int)))),(5,.v (.one (.ow 3 0))),(4,.v (.one (.ow 2 0))),(3,.v (.one (.ow 1 0))),(2,.v (.one (.ow 0 0)))] [.blk 79 (ta a),.blk 79 (ta b),.blk 79 zTm,.blk 79 zTm] rfl rfl ?_;refine lp (S:=Nat×Tm×Tm) 4 (λL1 s=>(10,.v (.one (.int .i64 (s.1:Int))))::L1) (λs=>[.blk 79 (ta s.2.1),.blk 79 (ta s.2.2),.blk 79 zTm,.blk 79 zTm]) (λs=>n-s.1) (λs=>s.1<=n/\Tb s.2.1/\Tb s.2.2/\apF (n-s.1) s.2.1 s.2.2=some r) (0,a,b) ⟨Qg _,ha,hb,h⟩ rfl (λ_ _=>rfl) rfl λ⟨i,u,v⟩ ⟨j1,j2,j3,j4⟩=>?_
 dsimp only at j1 j2 j3 j4 ⊢;by_cases hi:i<n
 ·obtain ⟨k,hk⟩:∃ k,n-i=k+1:=⟨n-i-1,by omega⟩;have hk':n-(i+1)=k:=by omega
  rw [hk] at j4;have c1:=C6 j2.hi.s31 j3.lo.s31;have c2:=C6 j3.hi.s31 j2.lo.s31;have pu:=Bf j2;have pv:=Bf j3;have hlt:decide ((i:Int)<(n:Int))=true:=by simp; omega
  simp only [apF] at j4;refine go tt [.t hlt] rfl trivial ?_;refine ct 3 (S:=Unit) (λ_=>[(10,.v (.one (.int .i64 (i:Int)))),(9,.v (.one (.int .i64 (n:Int)))),(5,.v (.one (.ow 3 0))),(4,.v (.one (.ow 2 0))),(3,.v (.one (.ow 1 0))),(2,.v (.one (.ow 0 0)))]) (λ_=>[.blk 79 (ta u),.blk 79 (ta v),.blk 79 zTm,.blk 79 zTm]) (λ_=>¬Be u v=true/\¬Be v u=true) rfl ?_ ?_
  ·have bA:Be u v=(decide (Fh u.hi v.lo<=0) && !(u.point && v.point && decide (Fh u.hi v.lo=0))):=by
    unfold Be; cases u.point <;> cases v.point <;> simp
   have bB:Be v u=(decide (Fh v.hi u.lo<=0) && !(u.point && v.point && decide (Fh v.hi u.lo=0))):=by
    unfold Be; cases u.point <;> cases v.point <;> simp
   obtain ⟨a0,A'⟩:∃ b,decide (Fh u.hi v.lo<=0)=b:=⟨_,rfl⟩;obtain ⟨b0,B'⟩:∃ b,decide (Fh v.hi u.lo<=0)=b:=⟨_,rfl⟩;obtain ⟨p0,P'⟩:∃ b,u.point=b:=⟨_,rfl⟩;obtain ⟨q0,Q'⟩:∃ b,v.point=b:=⟨_,rfl⟩;obtain ⟨x0,X'⟩:∃ b,decide (Fh u.hi v.lo=0)=b:=⟨_,rfl⟩;obtain ⟨y0,Y'⟩:∃ b,decide (Fh v.hi u.lo=0)=b:=⟨_,rfl⟩;rw [A',P',Q',X'] at bA;rw [B',P',Q',Y'] at bB;have r1:Be u v=true->(u,v,-1)=r:=λh=>by rw [if_pos h] at j4; injection j4
   have r2:¬Be u v=true->Be v u=true->(u,v,1)=r:=λh h'=>by rw [if_neg h,if_pos h'] at j4; injection j4
   clear j4;cases a0
   ·cases b0
    ·exact go tt [.c [] c1,.g 19 false A',.f rfl,.c [] c2,.g 45 false B',.f rfl] rfl trivial (rc () ⟨by rw [bA]; simp,by rw [bB]; simp⟩ rfl)
    ·cases p0
     ·obtain rfl:=r2 (by rw [bA]; simp) (by rw [bB]; rfl);exact en tt [.c [] c1,.g 19 false A',.f rfl,.c [] c2,.g 45 true B',.c [] pu,.g 48 false P',.g 52 false rfl,.t rfl] rfl rfl trivial
     ·cases q0
      ·obtain rfl:=r2 (by rw [bA]; simp) (by rw [bB]; rfl);exact en tt [.c [] c1,.g 19 false A',.f rfl,.c [] c2,.g 45 true B',.c [] pu,.g 48 true P',.c [] pv,.g 52 false Q',.t rfl] rfl rfl trivial
      ·cases y0
       ·obtain rfl:=r2 (by rw [bA]; simp) (by rw [bB]; rfl);exact en tt [.c [] c1,.g 19 false A',.f rfl,.c [] c2,.g 45 true B',.c [] pu,.g 48 true P',.c [] pv,.g 52 true Q',.c [] c2,.t (by simpa using Y')] rfl rfl trivial
       ·exact go tt [.c [] c1,.g 19 false A',.f rfl,.c [] c2,.g 45 true B',.c [] pu,.g 48 true P',.c [] pv,.g 52 true Q',.c [] c2,.f (by simpa using Y')] rfl trivial (rc () ⟨by rw [bA]; simp,by rw [bB]; simp⟩ rfl)
   ·cases p0
    ·obtain rfl:=r1 (by rw [bA]; rfl);exact en tt [.c [] c1,.g 19 true A',.c [] pu,.g 22 false P',.g 26 false rfl,.t rfl] rfl rfl trivial
    ·cases q0
     ·obtain rfl:=r1 (by rw [bA]; rfl);exact en tt [.c [] c1,.g 19 true A',.c [] pu,.g 22 true P',.c [] pv,.g 26 false Q',.t rfl] rfl rfl trivial
     ·cases x0
      ·obtain rfl:=r1 (by rw [bA]; rfl);exact en tt [.c [] c1,.g 19 true A',.c [] pu,.g 22 true P',.c [] pv,.g 26 true Q',.c [] c1,.t (by simpa using X')] rfl rfl trivial
      ·cases b0
       ·exact go tt [.c [] c1,.g 19 true A',.c [] pu,.g 22 true P',.c [] pv,.g 26 true Q',.c [] c1,.f (by simpa using X'),.c [] c2,.g 45 false B',.f rfl] rfl trivial (rc () ⟨by rw [bA]; simp,by rw [bB]; simp⟩ rfl)
       ·cases y0
        ·obtain rfl:=r2 (by rw [bA]; simp) (by rw [bB]; rfl);exact en tt [.c [] c1,.g 19 true A',.c [] pu,.g 22 true P',.c [] pv,.g 26 true Q',.c [] c1,.f (by simpa using X'),.c [] c2,.g 45 true B',.c [] pu,.g 48 true P',.c [] pv,.g 52 true Q',.c [] c2,.t (by simpa using Y')] rfl rfl trivial
        ·exact go tt [.c [] c1,.g 19 true A',.c [] pu,.g 22 true P',.c [] pv,.g 26 true Q',.c [] c1,.f (by simpa using X'),.c [] c2,.g 45 true B',.c [] pu,.g 48 true P',.c [] pv,.g 52 true Q',.c [] c2,.f (by simpa using Y')] rfl trivial (rc () ⟨by rw [bA]; simp,by rw [bB]; simp⟩ rfl)
  ·rintro _ ⟨n1,n2⟩
   rw [if_neg n1,if_neg n2] at j4;have qr:∀ {x y:Rat},Qb x->Qb y->Qs 2147483647 (Qk0 x y):=λh1 h2=>Zfd h1 h2
   have cc:=C6 (qr j2.hi j2.lo) (qr j3.hi j3.lo);by_cases D:0<=Fh (Qk0 u.hi u.lo) (Qk0 v.hi v.lo)
   ·rw [if_pos D] at j4;obtain ⟨x,x1,x2⟩:=Qe.1 j4;refine go tt [.c [] (Qou j2.hi j2.lo),.c [] (Qou j3.hi j3.lo),.c [] cc,.t (by simpa using D),.c [] (Qvt j2 x1)] rfl (by simp [W3]; omega) ?_;exact rd (i+1,x,v) (by dsimp only; omega) ⟨hi,Qqq j2 x1,j3,by dsimp only; rw [hk']; exact x2⟩ rfl
   ·rw [if_neg D] at j4;obtain ⟨x,x1,x2⟩:=Qe.1 j4;refine go tt [.c [] (Qou j2.hi j2.lo),.c [] (Qou j3.hi j3.lo),.c [] cc,.f (by simpa using D),.c [] (Qvt j3 x1)] rfl (by simp [W3]; omega) ?_;exact rd (i+1,u,x) (by dsimp only; omega) ⟨hi,j2,Qqq j3 x1,by dsimp only; rw [hk']; exact x2⟩ rfl
 ·obtain rfl:i=n:=by omega
  rw [Yo] at j4;simp only [apF] at j4;injection j4 with j4; subst j4;exact en tt [.f (by simp)] rfl rfl trivial
theorem Zdf {a b:Rat} (ha:Qb a) (hb:Qb b):W5 Tryz.prog 60 [.agg (rl a),.one (.row [rl b])] [.agg (rl (if 0<Fh b a then b else a))]:=by
 have ca:=Qhn (W6 a.num) (W6 (a.den:Int)) ha.s32.1 ha.s32.2;have cb:=Qhn (W6 b.num) (W6 (b.den:Int)) hb.s32.1 hb.s32.2;rw [Ib] at ca cb;have cc:=C6 hb.s31 ha.s31;refine Fq Tryz.func60 rfl ?_;refine go tt [.c [] ca] rfl trivial ?_;refine lp (S:=Nat) 3 (λL1 i=>(12,.v (.one (.int .i64 (i:Int))))::L1) (λi=>[.blk 74 (rl a),.blk 74 [.bool false,.nils,.bool false,.nils],.blk 74 (rl (if i=0 then a else if 0<Fh b a then b else a))]) (λi=>1-i) (λi=>i<=1) 0 (Qg _) rfl (λ_ _=>rfl) rfl λi hi=>?_
 rcases (show i=0\/i=1 by omega) with rfl | rfl
 ·by_cases h:0<Fh b a
  ·refine go tt [.t rfl,.x (i:=0) (xs:=rl b) rfl,.c [] cc,.t (by simpa using h),.c [] cb] rfl (by simp [W3]) ?_;exact rd 1 (by omega) (by omega) (by rw [if_pos h]; rfl)
  ·refine go tt [.t rfl,.x (i:=0) (xs:=rl b) rfl,.c [] cc,.f (by simpa using h)] rfl (by simp [W3]) ?_;exact rd 1 (by omega) (by omega) (by rw [if_neg h]; rfl)
 ·exact en tt [.f rfl] rfl rfl trivial
theorem Qog {a b:Tm} {c:Int} (ha:Tb a) (hb:Tb b) (h:Qi4 a b=some c):W5 Tryz.prog 78 [.agg (ta a),.agg (ta b)] [.one (.int .i64 c)]:=by
 have ca:=Qho ha;have cb:=Qho hb;have pa:=Bf ha;have pb:=Bf hb;unfold Qi4 at h;by_cases h1:a.point=true
 ·rw [if_pos h1] at h;injection h with h; subst h;have:=Zdp b a.lo;exact w tt Tryz.func78 rfl [.c [] ca,.c [] cb,.c [] pa,.t h1,.c [] (Qe2 hb ha.lo)] rfl rfl (by simp [W3]; omega)
 rw [if_neg h1] at h;have h1:a.point=false:=by simpa using h1
 by_cases h2:b.point=true
 ·rw [if_pos h2] at h;injection h with h; subst h;exact w tt Tryz.func78 rfl [.c [] ca,.c [] cb,.c [] pa,.f h1,.c [] pb,.t h2,.c [] (Qe2 ha hb.lo)] rfl rfl trivial
 rw [if_neg h2] at h;have h2:b.point=false:=by simpa using h2
 obtain ⟨lo,hlo⟩:=nmE (if 0<Fh b.lo a.lo then b.lo else a.lo);obtain ⟨hi,hhi⟩:=nmE (if Fh b.hi a.hi<0 then b.hi else a.hi);have h:(if Fh lo hi<0 then (Qp1 a.p b.p).bind λg=>if 1<g.length/\Qdh g lo hi=true then some 0 else (apF (Tc a b) a b).bind λr=>some r.2.2 else (apF (Tc a b) a b).bind λr=>some r.2.2)=some c:=by rw [hlo,hhi]; exact h
 have qlo:Qb lo:=by rw [hlo]; split; exact hb.lo; exact ha.lo
 have qhi:Qb hi:=by rw [hhi]; split; exact hb.hi; exact ha.hi
 have cm:=Zdf ha.lo hb.lo;rw [<-hlo] at cm;have cc1:=C6 hb.hi.s31 ha.hi.s31;have cc2:=C6 qlo.s31 qhi.s31;refine Fq Tryz.func78 rfl ?_;refine go tt [.c [] ca,.c [] cb,.c [] pa,.f h1,.c [] pb,.f h2,.c [] cm] rfl trivial ?_;refine ct 2 (S:=Unit) (λ_=>[(6,.v (.one (.ow 3 0))),(5,.v (.one (.ow 2 0))),(4,.v (.one (.int .i64 0))),(3,.v (.one (.ow 1 0))),(2,.v (.one (.ow 0 0)))]) (λ_=>[.blk 79 (ta a),.blk 79 (ta b),.blk 74 (rl lo),.blk 74 (rl hi)]) (λ_=>True) rfl ?_ ?_
 ·by_cases D:Fh b.hi a.hi<0
  ·rw [if_pos D] at hhi; subst hhi;exact go tt [.c [] cc1,.t (by simpa using D)] rfl trivial (rc () trivial rfl)
  ·rw [if_neg D] at hhi; subst hhi;exact go tt [.c [] cc1,.f (by simpa using D)] rfl trivial (rc () trivial rfl)
 ·rintro _ _
  by_cases D:Fh lo hi<0
  ·rw [if_pos D] at h;obtain ⟨g,g1,h⟩:=Qe.1 h;have cg:=Q5u ha.p hb.p g1;have pg:=Q9e ha.p hb.p g1;have ch:=Q6e pg qlo qhi;by_cases G:1<g.length
   ·by_cases R:Qdh g lo hi=true
    ·rw [if_pos ⟨G,R⟩] at h;injection h with h; subst h;exact en tt [.c [] cc2,.t (by simpa using D),.c [] cg,.c [] (Px g),.g 58 true (by simp; omega),.c [] ch,.t R] rfl rfl trivial
    ·rw [if_neg λh=>R h.2] at h;obtain ⟨r,r1,h⟩:=Qe.1 h;injection h with h; subst h;exact en tt [.c [] cc2,.t (by simpa using D),.c [] cg,.c [] (Px g),.g 58 true (by simp; omega),.c [] ch,.f (by simpa using R),.c [] (Qol ha hb r1)] rfl rfl trivial
   ·rw [if_neg λh=>G h.1] at h;obtain ⟨r,r1,h⟩:=Qe.1 h;injection h with h; subst h;exact en tt [.c [] cc2,.t (by simpa using D),.c [] cg,.c [] (Px g),.g 58 false (by simp; omega),.f rfl,.c [] (Qol ha hb r1)] rfl rfl trivial
  ·rw [if_neg D] at h;obtain ⟨r,r1,h⟩:=Qe.1 h;injection h with h; subst h;exact en tt [.c [] cc2,.f (by simpa using D),.c [] (Qol ha hb r1)] rfl rfl trivial
theorem Zck {p:List Int} {a:Tm} {s:Int} (hp:Pb p) (ha:Tb a) (h:Qeg p a=some s):W5 Tryz.prog 219 [pr p,.agg (ta a)] [.one (.int .i64 s)]:=by
 have ca:=Qho ha;have pa:=Bf ha;have cn:=Gi hp.t hp.ln hp.bd;unfold Qeg at h;by_cases h0:p.length=0
 ·rw [if_pos h0] at h;injection h with h; subst h;exact w tt Tryz.func219 rfl [.c [] cn,.c [] ca,.t (by simp; exact Qk h0)] rfl rfl trivial
 rw [if_neg h0] at h;have h0:p≠[]:=λe=>h0 (by rw [e]; rfl)
 by_cases h1:a.point=true
 ·rw [if_pos h1] at h;injection h with h; subst h;exact w tt Tryz.func219 rfl [.c [] cn,.c [] ca,.f (by simpa using h0),.c [] pa,.t h1,.c [] (Qha hp ha.lo)] rfl rfl trivial
 rw [if_neg h1] at h;have h1:a.point=false:=by simpa using h1
 obtain ⟨g,g1,h⟩:=Qe.1 h;have cg:=Q5u hp ha.p g1;have pg:=Q9e hp ha.p g1;have ch:=Q6e pg ha.lo ha.hi;by_cases G:1<g.length/\Qdh g a.lo a.hi=true
 ·rw [if_pos G] at h;injection h with h; subst h;exact w tt Tryz.func219 rfl [.c [] cn,.c [] ca,.f (by simpa using h0),.c [] pa,.f h1,.c [] cg,.c [] (Px g),.g 29 true (by simp; omega),.c [] ch,.t G.2] rfl rfl trivial
 rw [if_neg G] at h;obtain ⟨c,c1,h⟩:=Qe.1 h;obtain ⟨u,u1,h⟩:=Qe.1 h;injection h with h; subst h;obtain ⟨cl,call⟩:=chain_ok hp c1;obtain ⟨n,hn⟩:=nmE (64+2*(Ug a.lo.num+Ug a.hi.num)+4*(a.p.length+p.length)*(Fc a.p+Fc p+(a.p.length+p.length)+8));have cst:=Q6w ha hp;rw [show Qx2 p a=n from hn.symm] at cst;rw [<-hn] at u1;have hnb:n<=17179938816+200000000:=by
  have l1:=ha.p.l;have l2:=hp.l;have b1:=ha.lo.1;have b2:=ha.hi.1;have s1:Fc a.p<=16777216:=by have:=Tw ha.p.b a.p.length; rwa [Q4] at this
  have s2:Fc p<=16777216:=by have:=Tw hp.b p.length; rwa [Q4] at this
  have:4*(a.p.length+p.length)*(Fc a.p+Fc p+(a.p.length+p.length)+8)<=512*33554568:=Zx (by omega) (by omega);omega
 refine Fq Tryz.func219 rfl ?_;refine go tt [.c [] cn,.c [] ca,.f (by simpa using h0),.c [] pa,.f h1,.c [] cg] rfl trivial ?_;refine ct 2 (S:=Unit) (λ_=>[(3,.v (.one (.ow 0 0))),(0,.v (pr p))]) (λ_=>[.blk 79 (ta a)]) (λ_=>True) rfl ?_ ?_
 ·by_cases G1:1<g.length
  ·exact go tt [.c [] (Px g),.g 29 true (by simp; omega),.c [] ch,.f (by simpa using λh=>G ⟨G1,h⟩)] rfl trivial (rc () trivial rfl)
  ·exact go tt [.c [] (Px g),.g 29 false (by simp; omega),.f rfl] rfl trivial (rc () trivial rfl)
 rintro _ _
 refine go tt [.c [] (Q50 hp c1),.c [] cst] rfl trivial ?_;refine lp (S:=Nat×Tm) 1 (λL1 s=>(46,.v (.one (.int .i64 (s.1:Int))))::L1) (λs=>[.blk 79 (ta s.2)]) (λs=>n-s.1) (λs=>s.1<=n/\Tb s.2/\sgF c (n-s.1) s.2=some u) (0,a) ⟨Qg _,ha,u1⟩ rfl (λ_ _=>rfl) rfl λ⟨i,x⟩ ⟨j1,j2,j3⟩=>?_
 dsimp only at j1 j2 j3 ⊢;by_cases hi:i<n
 ·obtain ⟨k,hk⟩:∃ k,n-i=k+1:=⟨n-i-1,by omega⟩;have hk':n-(i+1)=k:=by omega
  rw [hk] at j3;simp only [sgF] at j3;have px:=Bf j2;have cb:=Ql0 (by omega) call j2.lo j2.hi;have hlt:decide ((i:Int)<(n:Int))=true:=by simp; omega
  by_cases X:x.point=true
  ·rw [if_pos (.inl X)] at j3;injection j3 with j3; subst j3;exact en tt [.t hlt,.c [] px,.g 50 true X,.t rfl,.c [] (Qha hp j2.hi)] rfl rfl trivial
  ·have X':x.point=false:=by simpa using X
   by_cases Z:Hl c x.lo x.hi=0
   ·rw [if_pos (.inr Z)] at j3;injection j3 with j3; subst j3;exact en tt [.t hlt,.c [] px,.g 50 false X',.c [] cb,.t (by simpa using Z),.c [] (Qha hp j2.hi)] rfl rfl trivial
   ·rw [if_neg (by rintro (h | h); exact X h; exact Z h)] at j3;obtain ⟨v,v1,v2⟩:=Qe.1 j3;refine go tt [.t hlt,.c [] px,.g 50 false X',.c [] cb,.f (by simpa using Z),.c [] (Qvt j2 v1)] rfl (by simp [W3]; omega) ?_;exact rd (i+1,v) (by dsimp only; omega) ⟨hi,Qqq j2 v1,by dsimp only; rw [hk']; exact v2⟩ rfl
 ·obtain rfl:i=n:=by omega
  rw [Yo] at j3;simp only [sgF] at j3;injection j3 with j3; subst j3;exact en tt [.f (by simp),.c [] (Qha hp j2.hi)] rfl rfl trivial
abbrev tas (l:List Tm):LV:=.row (l.map λt=>ta t)
theorem Qij {l:List Tm} {i:Nat} {t:Tm} (h:l[i]? = some t):(l.map λt=>ta t)[i]? = some (ta t):=Fb h
def zTr:List LV:=[.row [],.bool false,.row [],.bool false,.row [],.bool false,.row [],.bool false,.row []]
theorem Q5m:W5 Tryz.prog 72 [.one (.row [])] [.agg zTr,.one (.bool false)]:=w tt Tryz.func72 rfl [.t rfl] rfl rfl trivial
theorem Iv {b:Tm} {l:List Tm} {m:Tm} (hb:Tb b) (hl:∀ t∈l,Tb t) (hn:l.length≤1000000) (h:A6 b l=some m):W5 Tryz.prog 72 [.one (tas (b::l))] [.agg (ta m),.one (.bool true)]:=by
 refine Fq Tryz.func72 rfl ?_;refine go tt [.f (by simp; omega),.x (i:=0) (xs:=ta b) rfl,.i 1] rfl (by simp [W3]; exact ⟨rfl,λ_ _=>rfl⟩) ?_;refine lp (S:=Nat×Tm) 2 (λL1 s=>(17,.v (.one (.int .i64 (s.1:Int))))::L1) (λs=>[.blk 79 zTm,.blk 79 (ta s.2)]) (λs=>l.length-s.1) (λs=>s.1<=l.length/\Tb s.2/\A6 s.2 (l.drop s.1)=some m) (0,b) ⟨Qg _,hb,h⟩ rfl (λ_ _=>rfl) rfl λ⟨i,x⟩ ⟨j1,j2,j3⟩=>?_
 dsimp only at j1 j2 j3 ⊢;by_cases hi:i<l.length
 ·obtain ⟨a,ha⟩:=gxE (l:=l) (i:=i) hi;have hdr:l.drop i=a::l.drop (i+1):=by
   rw [Zj hi]; congr 1;have:=Qf hi; rw [ha] at this; injection this with this; exact this.symm
  rw [hdr] at j3;simp only [A6] at j3;obtain ⟨c,c1,j3⟩:=Qe.1 j3;have ta':=hl a (Qa ha);by_cases hc:c<0
  ·rw [if_pos hc] at j3;refine go tt [.t (by simp; omega),.x (Qij ha),.c [] (Qog ta' j2 c1),.t (by simpa using hc)] rfl (by simp [W3]; omega) ?_;exact rd (i+1,a) (by dsimp only; omega) ⟨hi,ta',j3⟩ rfl
  ·rw [if_neg hc] at j3;refine go tt [.t (by simp; omega),.x (Qij ha),.c [] (Qog ta' j2 c1),.f (by simpa using hc)] rfl (by simp [W3]; omega) ?_;exact rd (i+1,x) (by dsimp only; omega) ⟨hi,j2,j3⟩ rfl
 ·obtain rfl:i=l.length:=by omega
  rw [Vl] at j3;simp only [A6] at j3;injection j3 with j3; subst j3;exact en tt [.f (by simp),.c [] (Q6x j2)] rfl rfl trivial
end Orr
