/- R4 RefPL CrvL CrowdL PredL CertL Y1 Y2 Q1 C1 C2 D1 E1 AlgL F1 F2 F3 F4 F5 -/
import Derived.Test.YtpnhifedfcgjbaaGreatPart04
import Derived.Test.YtpnhifedfcgjbaaGreatPart00
set_option linter.all false
namespace Orr
open Go Go.Proofs
set_option maxRecDepth 10000
theorem Zf5 {a b:Int} (h:(decide (a<0) == decide (b<0))=true):Ue (decide (a<0)) (a.natAbs+b.natAbs)=a+b:=by
 unfold Ue;by_cases h1:a<0 <;> by_cases h2:b<0 <;> simp [h1,h2] at h ⊢ <;> omega
theorem Zf8 {a b:Int} (h:¬(decide (a<0) == decide (b<0))=true) (hl:b.natAbs<=a.natAbs):Ue (decide (a<0)) (a.natAbs-b.natAbs)=a+b:=by
 unfold Ue;by_cases h1:a<0 <;> by_cases h2:b<0 <;> simp [h1,h2] at h ⊢ <;> omega
theorem Za5 {a b:Int} (h:¬(decide (a<0) == decide (b<0))=true) (hl:¬b.natAbs<=a.natAbs):Ue (decide (b<0)) (b.natAbs-a.natAbs)=a+b:=by
 unfold Ue;by_cases h1:a<0 <;> by_cases h2:b<0 <;> simp [h1,h2] at h ⊢ <;> omega
theorem Qa3 (a:Int):(∃ m:Nat,a=(m:Int))\/∃ m:Nat,a=-(m:Int)/\0<m:=by
 rcases Kq a 0 with h | h
 ·exact .inr ⟨a.natAbs,by omega,by omega⟩
 ·exact .inl ⟨a.natAbs,by omega⟩
theorem Zf7 (a b:Int):Ue (!(decide (a<0) == decide (b<0))) (a.natAbs*b.natAbs)=a*b:=by
 rcases Qa3 a with ⟨m,rfl⟩ | ⟨m,rfl,hm⟩ <;> rcases Qa3 b with ⟨n,rfl⟩ | ⟨n,rfl,hn⟩
 ·simp [Ue,show ¬((m:Int)<0) by omega,show ¬((n:Int)<0) by omega]
 ·simp [Ue,show ¬((m:Int)<0) by omega,show (-(n:Int)<0) by omega,hn,V9]
 ·simp [Ue,show (-(m:Int)<0) by omega,show ¬((n:Int)<0) by omega,hm,Vx]
 ·simp [Ue,show (-(m:Int)<0) by omega,show (-(n:Int)<0) by omega,hm,hn,Wu]
theorem Zf6 {a b:Int} (h:a % b=0):Ue (!(decide (a<0) == decide (b<0))) (a.natAbs / b.natAbs)=a / b:=by
 by_cases hb:b=0
 ·subst hb; simp [Ue]
 obtain ⟨c,rfl⟩:=Yh h;rw [Xl _ hb,Jm,Nat.mul_div_cancel_left _ (by omega)];rcases Qa3 b with ⟨n,rfl⟩ | ⟨n,rfl,hn⟩ <;> rcases Qa3 c with ⟨m,rfl⟩ | ⟨m,rfl,hm⟩
 ·have:¬((n:Int)*(m:Int)<0):=by rw [<-Y7]; omega
  simp [Ue,this,show ¬((n:Int)<0) by omega]
 ·have h1:0<n*m:=J0 (by omega) hm;have:((n:Int)*-(m:Int)<0):=by rw [V9,<-Y7]; omega
  simp only [this,show ¬((n:Int)<0) by omega];simp [Ue]
 ·by_cases h0:m=0
  ·subst h0; simp [Ue]
  ·have h1:0<n*m:=J0 hn (by omega);have:(-(n:Int)*(m:Int)<0):=by rw [Vx,<-Y7]; omega
   simp only [this,show (-(n:Int)<0) by omega];simp [Ue]
 ·have:¬(-(n:Int)*-(m:Int)<0):=by rw [Wu,<-Y7]; omega
  simp only [this,show (-(n:Int)<0) by omega];simp [Ue]
theorem Zbc (a b:Int):Int.sign (a-b)=Me a b:=by
 unfold Me;rcases Jt a b with h | h | h
 ·rw [if_pos h,Xu (by omega)]
 ·rw [if_neg (by omega),if_neg (by omega),h,Int.sub_self]; rfl
 ·rw [if_neg (by omega),if_pos h,X4 (by omega)]
theorem Qzm {x y:Nat}:0<=Im x y↔y<=x:=by
 unfold Im;constructor
 ·intro h; split at h
  ·omega
  ·omega
 ·intro h; split
  ·omega
  ·split <;> omega
theorem Qjc {x e:Nat} (h:(Uu x).length=1) (he:(Uu x)[0]? = some e):x=e:=by
 rcases hd:Uu x with _ | ⟨u,l⟩
 ·rw [hd] at h; cases h
 ·rcases l with _ | ⟨w,l⟩
  ·rw [hd] at he; simp at he;have:=Gw x;rw [hd] at this; simp [Hj] at this; omega
  ·rw [hd] at h; simp at h
theorem Qwm {a b:Int} (hb:0<b):ri (a / ((Int.gcd a b:Nat):Int))++ri (b / ((Int.gcd a b:Nat):Int))=fr (Rat.divInt a b):=by
 obtain ⟨h1,h2⟩:=Qpv (n:=a) hb;rw [Mj,Int.gcd_comm] at h1 h2;rw [h1,h2]
theorem Qwn (a:Int):ri a++ri 1=fr (Rat.divInt a 1):=by
 have h:=Qwm (a:=a) (b:=1) (by decide);rw [show ((Int.gcd a 1:Nat):Int)=1 by simp] at h;simpa using h
theorem Qm5 {a b:Int} (hb:b≠0) (ha2:Uh a<=90000000) (hb2:Uh b<=90000000):Uh ((Int.gcd a b:Nat):Int)<=90000000/\((Int.gcd a b:Nat):Int)≠0/\a % ((Int.gcd a b:Nat):Int)=0/\b % ((Int.gcd a b:Nat):Int)=0:=by
 have h1:=Q0e (n:=a) hb hb2;have h2:=Qsn (n:=a) hb;have h3:=Qjz a b;have h4:=Qj0 a b;rw [Mj,Int.gcd_comm] at h1 h2 h3 h4;exact ⟨h1,by omega,h3,h4⟩
theorem Qnw {a b:Int} (h:b<0):Fx a b=Rat.divInt (-a) (-b):=by
 unfold Fx; rw [if_neg (by omega)];exact (Rat.neg_divInt_neg a b).symm
theorem Qnx {a b:Int} (h:0<b):Fx a b=Rat.divInt a b:=by
 unfold Fx; rw [if_neg (by omega)]
theorem Q2c (a b:Rat):Fx (a.num*(b.den:Int)+b.num*(a.den:Int)) ((a.den:Int)*(b.den:Int))=a+b:=by
 unfold Fx;rw [if_neg (X9 (Nj a) (Nj b)),<-Rat.divInt_add_divInt _ _ (Nj a) (Nj b),Z1,Z1]
theorem Qni (a b:Rat):Fx (a.num*b.num) ((a.den:Int)*(b.den:Int))=a*b:=by
 unfold Fx;rw [if_neg (X9 (Nj a) (Nj b)),<-Kl,Z1,Z1]
theorem Qnv {a b:Rat} (h:b≠0):Fx (a.num*(b.den:Int)) ((a.den:Int)*b.num)=a / b:=by
 have hn:b.num≠0:=λe=>h (Rat.num_eq_zero.1 e)
 unfold Fx;rw [if_neg (X9 (Nj a) hn),<-Kl,Z1,J7];congr 1
 conv=>rhs; rw [<-Z1 b,Rat.inv_divInt]
theorem Qiy {z:Int} (hz:Uh z<=100000000):W8 Tryz.prog 37 [.agg (Fi z)] [.agg (ri z)]:=by
 have hl:(Up z.natAbs).length<=1099511627776:=by have h2:32*(Up z.natAbs).length<=100000000+31:=Hd hz; omega
 have h:=Zcx (l:=Up z.natAbs) (λu hu=>(Nm _).1 u hu) hl (by rw [Fa]; exact hz);rw [Fa] at h;have hm:=La (decide (z<0)) z.natAbs;have e:Ue (decide (z<0)) z.natAbs=z:=by unfold Ue; by_cases h:z<0 <;> simp [h] <;> omega
 rw [e] at hm;exact w tt Tryz.func37 rfl [.c [] h,.c [] hm] rfl rfl trivial
theorem Qy6 {z:Int}:W8 Tryz.prog 122 [.agg (ri z)] [.one (.int .i64 (Int.sign z))]:=by
 have hn:=Qc8 (x:=z.natAbs);have hl:=Qb4 z.natAbs;rcases Jt z 0 with h | h | h
 ·rw [Xu h];exact w tt Tryz.func122 rfl [.f (by simp only [G8]; exact decide_eq_false (by omega)),.t (decide_eq_true h)] rfl rfl trivial
 ·subst h;exact w tt Tryz.func122 rfl [.t (by simp only [G8]; show decide (((Uu 0).length:Int)=0)=true; rw [Fz]; rfl)] rfl rfl trivial
 ·rw [X4 h];exact w tt Tryz.func122 rfl [.f (by simp only [G8]; exact decide_eq_false (by omega)),.f (decide_eq_false (by omega))] rfl rfl trivial
theorem Qvv {a b:Int} (ha:Uh a<=200000000) (hb:Uh b<=200000000):W8 Tryz.prog 143 [.agg (ri a),.agg (ri b)] [.agg (ri (a+b))]:=by
 by_cases hs:(decide (a<0) == decide (b<0))=true
 ·have cm:=La (decide (a<0)) (a.natAbs+b.natAbs);rw [Zf5 hs] at cm;exact w tt Tryz.func143 rfl [.t hs,.c [] (Zih ha hb),.c [] cm] rfl rfl trivial
 ·have hs':(decide (a<0) == decide (b<0))=false:=by simpa using hs
  by_cases hl:b.natAbs<=a.natAbs
  ·have cm:=La (decide (a<0)) (a.natAbs-b.natAbs);rw [Zf8 hs hl] at cm;exact w tt Tryz.func143 rfl [.f hs',.c [] (Qvl ha hb),.t (decide_eq_true (Qzm.2 hl)),.c [] (Qvu ha hb hl),.c [] cm] rfl rfl trivial
  ·have cm:=La (decide (b<0)) (b.natAbs-a.natAbs);rw [Za5 hs hl] at cm;exact w tt Tryz.func143 rfl [.f hs',.c [] (Qvl ha hb),.f (decide_eq_false λh=>hl (Qzm.1 h)),.c [] (Qvu hb ha (by omega)),.c [] cm] rfl rfl trivial
theorem Q6l {a b:Int} (ha:Uh a<=200000000) (hb:Uh b<=200000000):W8 Tryz.prog 123 [.agg (ri a),.agg (ri b)] [.agg (ri (a-b))]:=by
 have ca:=Qvv (a:=a) (b:=-b) ha (by rw [Gj]; exact hb);rw [show a+-b=a-b from by omega] at ca;exact w tt Tryz.func123 rfl [.c [] (Au (z:=b)),.c [] ca] rfl rfl trivial
theorem Te {a b:Int} (ha:Uh a<=200000000) (hb:Uh b<=200000000):W8 Tryz.prog 36 [.agg (ri a),.agg (ri b)] [.agg (ri (a*b))]:=by
 have cm:=La (!(decide (a<0) == decide (b<0))) (a.natAbs*b.natAbs);rw [Zf7] at cm;exact w tt Tryz.func36 rfl [.c [] (Zim ha hb),.c [] cm] rfl rfl trivial
theorem Zir {a b:Int} (ha:Uh a<=200000000) (hb:Uh b<=200000000):W8 Tryz.prog 62 [.agg (ri a),.agg (ri b)] [.one (.int .i64 (Me a b))]:=by
 have h:=Qy6 (z:=a-b);rw [Zbc] at h;exact w tt Tryz.func62 rfl [.c [] (Q6l ha hb),.c [] h] rfl rfl trivial
theorem Qe5 {a b:Int} (ha:Uh a<=90000000) (hb:Uh b<=90000000) (h0:b≠0) (hd:a % b=0):W8 Tryz.prog 101 [.agg (ri a),.agg (ri b)] [.agg (ri (a / b))]:=by
 have cm:=La (!(decide (a<0) == decide (b<0))) (a.natAbs / b.natAbs);rw [Zf6 hd] at cm;exact w tt Tryz.func101 rfl [.c [] (Q5p ha hb (by omega)),.c [] cm] rfl rfl trivial
theorem Zj8 (x:Nat):ri ((x:Nat):Int)=[nd x,.bool false]:=by
 unfold ri sg;rw [Z7,decide_eq_false (by omega)]
theorem Qi4 {a b:Int} (ha:Uh a<=90000000) (hb:Uh b<=90000000):W8 Tryz.prog 100 [.agg (ri a),.agg (ri b)] [.agg (ri ((Int.gcd a b:Nat):Int))]:=by
 rw [Zj8];refine Fv Tryz.func100 rfl ?_;refine go tt [] rfl trivial ?_;refine lp (S:=Nat×Nat) 3 (λL1 s=>(5,.v (.one (nd s.1)))::(6,.v (.one (nd s.2)))::L1) (λ_=>[.blk 33 (ri a),.blk 33 (ri b),.blk 33 [.nils,.bool false]]) (λs=>s.2) (λs=>Nat.gcd s.1 s.2=Int.gcd a b/\sz s.1<=90000000/\sz s.2<=90000000) (a.natAbs,b.natAbs) ⟨rfl,ha,hb⟩ rfl (λ_ _=>rfl) rfl λs hs=>?_
 obtain ⟨x,y⟩:=s;obtain ⟨hp0,hp1,hp2⟩:=hs;dsimp only at hp0 hp1 hp2 ⊢;have hyn:=Qc8 (x:=y);have hyl:=Qb4 y;by_cases h1:y=0
 ·have e:Int.gcd a b=x:=by rw [<-hp0,h1,Nat.gcd_zero_right]
  rw [e];exact en tt [.f (by simp only [G8]; exact decide_eq_false (by omega))] rfl rfl trivial
 ·have hlt:=Z5 x (show 0<y by omega);refine go tt [.t (by simp only [G8]; exact decide_eq_true (by omega)),.c [] (Q5p hp1 hp2 (by omega))] rfl trivial ?_;exact rd (y,x % y) (by dsimp only; omega) ⟨by dsimp only; rw [<-hp0,Nat.gcd_comm x y,Nat.gcd_rec y x,Nat.gcd_comm],hp2,Nat.le_trans (Hf (by dsimp only; omega)) hp2⟩ rfl
theorem Qc1 {a b:Int} (ha:Uh a<=90000000) (hb:Uh b<=90000000):W8 Tryz.prog 48 [.agg (ri a),.agg (ri b)] [.agg (fr (Fx a b))]:=by
 rcases Jt b 0 with hs | hs | hs
 ·skip
  by_cases h1:-b=1
  ·have h0:(P0 (Uu (-b).natAbs))[0]? = some [LV.int .i64 1]:=by rw [h1,show (1:Int).natAbs=1 from rfl,Lh]; rfl
   have hl1:decide (((P0 (Uu (-b).natAbs)).length:Int)=1)=true:=by rw [h1,show (1:Int).natAbs=1 from rfl,Lh]; rfl
   have e:fr (Fx a b)=ri (-a)++ri (-b):=by rw [Qnw hs,h1]; exact (Qwn _).symm
   rw [e];exact w tt Tryz.func48 rfl [.c [] (Pf (z:=b)),.f (decide_eq_false (by omega)),.t (decide_eq_true hs),.c [] (Au (z:=a)),.c [] (Au (z:=b)),.g 19 true hl1,.x h0,.t rfl] rfl rfl trivial
  ·have hgf:=Qm5 (a:=-a) (b:=-b) (by omega) (by first | exact ha | (rw [Gj]; exact ha)) (by first | exact hb | (rw [Gj]; exact hb));have cg:=Qi4 (a:=-a) (b:=-b) (by first | exact ha | (rw [Gj]; exact ha)) (by first | exact hb | (rw [Gj]; exact hb));have q1:=Qe5 (a:=-a) (b:=((Int.gcd (-a) (-b):Nat):Int)) (by first | exact ha | (rw [Gj]; exact ha)) hgf.1 hgf.2.1 hgf.2.2.1;have q2:=Qe5 (a:=-b) (b:=((Int.gcd (-a) (-b):Nat):Int)) (by first | exact hb | (rw [Gj]; exact hb)) hgf.1 hgf.2.1 hgf.2.2.2;have e:fr (Fx a b)=ri ((-a) / ((Int.gcd (-a) (-b):Nat):Int))++ri ((-b) / ((Int.gcd (-a) (-b):Nat):Int)):=by rw [Qnw hs]; exact (Qwm (by omega)).symm
   rw [e];have hl:=Qb4 (-b).natAbs;by_cases hl1:(Uu (-b).natAbs).length=1
   ·obtain ⟨u,hu⟩:=gxE (l:=(Uu (-b).natAbs)) (i:=0) (by omega);have hue:=Qjc hl1 hu;exact w tt Tryz.func48 rfl [.c [] (Pf (z:=b)),.f (decide_eq_false (by omega)),.t (decide_eq_true hs),.c [] (Au (z:=a)),.c [] (Au (z:=b)),.g 19 true (by simp only [G8]; exact decide_eq_true (by omega)),.x (Fb hu),.f (decide_eq_false (by omega)),.c [] cg,.c [] q1,.c [] q2] rfl rfl trivial
   ·exact w tt Tryz.func48 rfl [.c [] (Pf (z:=b)),.f (decide_eq_false (by omega)),.t (decide_eq_true hs),.c [] (Au (z:=a)),.c [] (Au (z:=b)),.g 19 false (by simp only [G8]; exact decide_eq_false (by omega)),.f rfl,.c [] cg,.c [] q1,.c [] q2] rfl rfl trivial
 ·subst hs;have h0:(P0 (Uu (1:Int).natAbs))[0]? = some [LV.int .i64 1]:=by rw [show (1:Int).natAbs=1 from rfl,Lh]; rfl
  have h1:decide (((P0 (Uu (1:Int).natAbs)).length:Int)=1)=true:=by rw [show (1:Int).natAbs=1 from rfl,Lh]; rfl
  have e:fr (Fx a 0)=ri a++ri 1:=(Qwn a).symm;rw [e];exact w tt Tryz.func48 rfl [.c [] (Pf (z:=0)),.t rfl,.c [] (Bb (n:=1) (by decide)),.f rfl,.g 19 true h1,.x h0,.t rfl] rfl rfl trivial
 ·skip
  by_cases h1:b=1
  ·have h0:(P0 (Uu (b).natAbs))[0]? = some [LV.int .i64 1]:=by rw [h1,show (1:Int).natAbs=1 from rfl,Lh]; rfl
   have hl1:decide (((P0 (Uu (b).natAbs)).length:Int)=1)=true:=by rw [h1,show (1:Int).natAbs=1 from rfl,Lh]; rfl
   have e:fr (Fx a b)=ri (a)++ri (b):=by rw [Qnx hs,h1]; exact (Qwn _).symm
   rw [e];exact w tt Tryz.func48 rfl [.c [] (Pf (z:=b)),.f (decide_eq_false (by omega)),.f (decide_eq_false (by omega)),.g 19 true hl1,.x h0,.t rfl] rfl rfl trivial
  ·have hgf:=Qm5 (a:=a) (b:=b) (by omega) (by first | exact ha | (rw [Gj]; exact ha)) (by first | exact hb | (rw [Gj]; exact hb));have cg:=Qi4 (a:=a) (b:=b) (by first | exact ha | (rw [Gj]; exact ha)) (by first | exact hb | (rw [Gj]; exact hb));have q1:=Qe5 (a:=a) (b:=((Int.gcd (a) (b):Nat):Int)) (by first | exact ha | (rw [Gj]; exact ha)) hgf.1 hgf.2.1 hgf.2.2.1;have q2:=Qe5 (a:=b) (b:=((Int.gcd (a) (b):Nat):Int)) (by first | exact hb | (rw [Gj]; exact hb)) hgf.1 hgf.2.1 hgf.2.2.2;have e:fr (Fx a b)=ri ((a) / ((Int.gcd (a) (b):Nat):Int))++ri ((b) / ((Int.gcd (a) (b):Nat):Int)):=by rw [Qnx hs]; exact (Qwm (by omega)).symm
   rw [e];have hl:=Qb4 (b).natAbs;by_cases hl1:(Uu (b).natAbs).length=1
   ·obtain ⟨u,hu⟩:=gxE (l:=(Uu (b).natAbs)) (i:=0) (by omega);have hue:=Qjc hl1 hu;exact w tt Tryz.func48 rfl [.c [] (Pf (z:=b)),.f (decide_eq_false (by omega)),.f (decide_eq_false (by omega)),.g 19 true (by simp only [G8]; exact decide_eq_true (by omega)),.x (Fb hu),.f (decide_eq_false (by omega)),.c [] cg,.c [] q1,.c [] q2] rfl rfl trivial
   ·exact w tt Tryz.func48 rfl [.c [] (Pf (z:=b)),.f (decide_eq_false (by omega)),.f (decide_eq_false (by omega)),.g 19 false (by simp only [G8]; exact decide_eq_false (by omega)),.f rfl,.c [] cg,.c [] q1,.c [] q2] rfl rfl trivial
theorem Zlq {n d:Int} (hn:-1000000000<=n/\n<=1000000000) (hd:-1000000000<=d/\d<=1000000000):W8 Tryz.prog 17 [.one (.int .i64 n),.one (.int .i64 d)] [.agg (fr (Fx n d))]:=by
 have b1:Uh n<=90000000:=Qd (Rl.2 (show n.natAbs<2^40 by omega)) (by decide);have b2:Uh d<=90000000:=Qd (Rl.2 (show d.natAbs<2^40 by omega)) (by decide);exact w tt Tryz.func17 rfl [.c [] (Bb (by omega)),.c [] (Bb (by omega)),.c [] (Qc1 b1 b2)] rfl rfl trivial
theorem Zio {a:Rat}:W8 Tryz.prog 47 [.agg (fr a)] [.agg (fr (-a))]:=by
 have e:fr (-a)=ri (-a.num)++ri (a.den:Int):=rfl;rw [e];exact w tt Tryz.func47 rfl [.c [] (Au (z:=a.num))] rfl rfl trivial
theorem Q5j {a b:Rat} (ha:Qs 20000000 a) (hb:Qs 20000000 b):W8 Tryz.prog 110 [.agg (fr a),.agg (fr b)] [.agg (fr (a+b))]:=by
 have k1:=Us a.num (b.den:Int);have k2:=Us b.num (a.den:Int);have k3:=Us (a.den:Int) (b.den:Int);have k4:=Qau (a.num*(b.den:Int)) (b.num*(a.den:Int));have h1:=ha.1; have h2:=ha.2; have h3:=hb.1; have h4:=hb.2;have cm:=Qc1 (a:=a.num*(b.den:Int)+b.num*(a.den:Int)) (b:=(a.den:Int)*(b.den:Int)) (by omega) (by omega);rw [Q2c] at cm;exact w tt Tryz.func110 rfl [.c [] (Te (a:=a.num) (b:=(b.den:Int)) (by omega) (by omega)),.c [] (Te (a:=b.num) (b:=(a.den:Int)) (by omega) (by omega)),.c [] (Qvv (by omega) (by omega)),.c [] (Te (a:=(a.den:Int)) (b:=(b.den:Int)) (by omega) (by omega)),.c [] cm] rfl rfl trivial
theorem Q5y {a b:Rat} (ha:Qs 40000000 a) (hb:Qs 40000000 b):W8 Tryz.prog 107 [.agg (fr a),.agg (fr b)] [.agg (fr (a*b))]:=by
 have k1:=Us a.num b.num;have k3:=Us (a.den:Int) (b.den:Int);have h1:=ha.1; have h2:=ha.2; have h3:=hb.1; have h4:=hb.2;have cm:=Qc1 (a:=a.num*b.num) (b:=(a.den:Int)*(b.den:Int)) (by omega) (by omega);rw [Qni] at cm;exact w tt Tryz.func107 rfl [.c [] (Te (a:=a.num) (b:=b.num) (by omega) (by omega)),.c [] (Te (a:=(a.den:Int)) (b:=(b.den:Int)) (by omega) (by omega)),.c [] cm] rfl rfl trivial
theorem Qvr {a b:Rat} (ha:Qs 40000000 a) (hb:Qs 40000000 b) (h0:b≠0):W8 Tryz.prog 176 [.agg (fr a),.agg (fr b)] [.agg (fr (a / b))]:=by
 have k1:=Us a.num (b.den:Int);have k3:=Us (a.den:Int) b.num;have h1:=ha.1; have h2:=ha.2; have h3:=hb.1; have h4:=hb.2;have cm:=Qc1 (a:=a.num*(b.den:Int)) (b:=(a.den:Int)*b.num) (by omega) (by omega);rw [Qnv h0] at cm;exact w tt Tryz.func176 rfl [.c [] (Te (a:=a.num) (b:=(b.den:Int)) (by omega) (by omega)),.c [] (Te (a:=(a.den:Int)) (b:=b.num) (by omega) (by omega)),.c [] cm] rfl rfl trivial
theorem Zdf {a b:Rat} (ha:Qs 40000000 a) (hb:Qs 40000000 b):W8 Tryz.prog 21 [.agg (fr a),.agg (fr b)] [.one (.int .i64 (Fy a b))]:=by
 have k1:=Us a.num (b.den:Int);have k2:=Us b.num (a.den:Int);have h1:=ha.1; have h2:=ha.2; have h3:=hb.1; have h4:=hb.2;exact w tt Tryz.func21 rfl [.c [] (Te (a:=a.num) (b:=(b.den:Int)) (by omega) (by omega)),.c [] (Te (a:=b.num) (b:=(a.den:Int)) (by omega) (by omega)),.c [] (Zir (a:=a.num*(b.den:Int)) (b:=b.num*(a.den:Int)) (by omega) (by omega))] rfl rfl trivial
end Orr
namespace Orr
def Nc:List Rat->List Rat
 | []=>[]
 |
  x::l=>match Nc l with
  | []=>if x=0 then [] else [x]
  | y::k=>x::y::k
theorem O9:∀ {l:List Rat},(∀ x∈l,x=0)->Nc l=[]
 | [],_=>rfl
 |
  x::l,h=>by
  have ih:=O9 (l:=l) (λy hy=>h y (Qi _ hy));simp [Nc,ih,h x (Qt ..)]
theorem Qk9:∀ {l:List Rat} {m:Nat} {y:Rat},(∀ j x,m<j->l[j]? = some x->x=0)->l[m]? = some y->y≠0->Nc l=l.take (m+1)
 | [],m,y,_,h,_=>by simp at h
 |
  x::l,0,y,h1,h2,h3=>by
  have h0:Nc l=[]:=O9 λz hz=>by
   obtain ⟨j,hj⟩:=Zf.1 hz;exact h1 (j+1) z (by omega) (by simpa using hj)
  simp at h2;subst h2;simp [Nc,h0,h3]
 |
  x::l,m+1,y,h1,h2,h3=>by
  have ih:=Qk9 (l:=l) (m:=m) (y:=y) (λj z hj hz=>h1 (j+1) z (by omega) (by simpa using hz)) (by simpa using h2) h3;cases hl:l with
  | nil=>subst hl; simp at h2
  |
   cons u k =>
   subst hl;rw [Yk] at ih;simp only [Nc] at ih ⊢;rw [ih];simp
theorem Qf9 {l:List Rat} {m:Nat} (hm:m<=l.length) (h1:∀ j x,m<=j->l[j]? = some x->x=0) (h2:0<m->∃ y,l[m-1]? = some y/\y≠0):Nc l=l.take m:=by
 rcases Qy m with h0 | h0
 ·subst h0;rw [O9 λz hz=>?_]; rfl;obtain ⟨j,hj⟩:=Zf.1 hz;exact h1 j z (by omega) hj
 ·obtain ⟨y,hy,hy0⟩:=h2 h0;have:=Qk9 (l:=l) (m:=m-1) (y:=y) (λj x hj hx=>h1 j x (by omega) hx) hy hy0;rwa [show m-1+1=m from by omega] at this
theorem Qn4:∀ (l:List Rat),∀ z∈Nc l,z∈l
 | [],z,h=>h
 |
  x::l,z,h=>by
  simp only [Nc] at h;have ih:=Qn4 l
  split at h
  ·split at h
   ·cases h
   ·simp at h; simp [h]
  ·rename_i y k e;rw [e] at ih;rcases Qo.1 h with h | h
   ·simp [h]
   ·exact Qi _ (ih z h)
theorem Qn3:∀ (l:List Rat),(Nc l).length<=l.length
 | []=>Qn _
 |
  x::l=>by
  have ih:=Qn3 l;simp only [Nc]
  split
  ·split <;> simp
  ·rename_i y k e;rw [e] at ih;simp at ih ⊢; omega
def zp (p:List Int):List Rat:=p.map λ(z:Int)=>(z:Rat)
theorem Mz:∀ (p:List Int),Nc (zp p)=zp (trim p)
 | []=>rfl
 |
  x::l=>by
  have ih:=Mz l;unfold zp at ih ⊢;simp only [Zv,Nc,trim,ih];cases h:trim l with
  |
   nil =>
   simp only [X2];by_cases hx:x=0
   ·subst hx; simp
   ·have:(x:Rat)≠0:=λe=>hx (by exact_mod_cast e)
    simp [hx,this]
  | cons y k=>simp
theorem Tj (p:List Int):(zp p).length=p.length:=Q6 _
theorem Zb7 {p:List Int} {i:Nat} {z:Int} (h:p[i]? = some z):(zp p)[i]? = some (z:Rat):=by simp [zp,h]
theorem Qeu (p:List Int) (i:Nat):(zp p).getD i 0=((p.getD i 0:Int):Rat):=by
 simp only [Qh,zp,Q8];cases p[i]? <;> rfl
def Rb (s:Nat) (p:List Rat):Prop:=∀ q∈p,Qs s q
theorem Rb.mono {s t:Nat} {p:List Rat} (h:Rb s p) (ht:s<=t):Rb t p:=λq hq=>(h q hq).mono ht
theorem Rb.get {s:Nat} {p:List Rat} (h:Rb s p) {i:Nat} {q:Rat} (hq:p[i]? = some q):Qs s q:=h q (Qa hq)
theorem B6 {s:Nat} {z:Int} (h:Uh z<=s) (h1:1<=s):Qs s (z:Rat):=⟨by simpa using h,Qd (show Uh ((1:Nat):Int)<=1 by decide) h1⟩
theorem Qbr {s:Nat} {p:List Int} (h:Bd s p) (h1:1<=s):Rb s (zp p):=λq hq=>by
 obtain ⟨z,hz,rfl⟩:=Zc.1 hq;exact B6 (h z hz) h1
theorem Zfq {s:Nat} (h1:1<=s):Qs s 0:=B6 (z:=0) (by simp [S4]) h1
theorem Rb.getD {s:Nat} {p:List Rat} (h:Rb s p) (h1:1<=s) (i:Nat):Qs s (p.getD i 0):=by
 rw [Qh];cases e:p[i]? with
 | none=>exact Zfq h1
 | some q=>exact h.get e
theorem Rb.trim {s:Nat} {p:List Rat} (h:Rb s p):Rb s (Nc p):=λq hq=>h q (Qn4 p q hq)
def Ip (f:Nat->Rat) (n:Nat):List Rat:=(List.range n).map f
theorem Qei (f:Nat->Rat) (n:Nat):(Ip f n).length=n:=by simp [Ip]
theorem Qn9 (f:Nat->Rat) (n:Nat):Ip f (n+1)=Ip f n++[f n]:=by simp [Ip,Ku]
theorem Zgg {s n:Nat} {f:Nat->Rat} (h:∀ i,i<n->Qs s (f i)):Rb s (Ip f n):=λq hq=>by
 obtain ⟨i,hi,rfl⟩:=Zc.1 hq;exact h i (V6.1 hi)
theorem Qii {f:Nat->Rat} {g:Nat->Int} (n:Nat) (h:∀ i,i<n->f i=(g i:Rat)):Ip f n=zp ((List.range n).map g):=by
 simp only [Ip,zp,List.map_map];exact X7 λi hi=>h i (V6.1 hi)
def Q4d (p q:List Rat):List Rat:=Nc (Ip (λi=>p.getD i 0+q.getD i 0) (max p.length q.length))
def Sx (p:List Rat) (c:Rat):List Rat:=Nc (Ip (λi=>p.getD i 0*c) p.length)
def Qql (p:List Rat):List Rat:=Sx p (-1)
def Qk8 (p q:List Rat):List Rat:=Q4d p (Qql q)
theorem Q1p (p q:List Int):Q4d (zp p) (zp q)=zp (D6 p q):=by
 unfold Q4d D6 Sv;rw [Qii (g:=λk=>p.getD k 0+q.getD k 0) _ λi _=>by rw [Qeu,Qeu,V1],Mz,Tj,Tj]
theorem Qn0 (p:List Int) (c:Int):Sx (zp p) (c:Rat)=zp (U3 p c):=by
 unfold Sx U3 Sv;rw [Qii (g:=λk=>p.getD k 0*c) _ λi _=>by rw [Qeu,Xq],Mz,Tj]
theorem Qxg (p:List Int):U3 p (-1)=Tg p:=by
 unfold U3 Tg Sv;congr 2;funext k;omega
theorem Q1r (p:List Int):Qql (zp p)=zp (Tg p):=by
 rw [<-Qxg,<-Qn0]; rfl
theorem Qgn {p q:List Int} (hp:Ud p) (hq:Ud q) (h:∀ k,p.getD k 0=q.getD k 0):p=q:=by
 have key:∀ {p q:List Int},Ud q->(∀ k,p.getD k 0=q.getD k 0)->q.length<=p.length:=by
  intro p q hq h;rcases Q9 p.length q.length with h1 | h1
  ·have h2:=Gp hq (by omega);rw [<-h,Qh,Qu (by omega)] at h2;exact (h2 rfl).elim
  ·exact h1
 exact Qjo (Kx (key hp λk=>(h k).symm) (key hq h)) λj _=>h j
theorem Qwe {n m:Nat} {f g:Nat->Int} (hn:n<=m) (h:∀ k,k<n->f k=g k) (h0:∀ k,n<=k->k<m->g k=0):Sv n f=Sv m g:=by
 refine Qgn (Uw _ _) (Uw _ _) λk=>?_
 rw [Si,Si];by_cases h1:k<n
 ·rw [if_pos h1,if_pos (by omega),h k h1]
 ·rw [if_neg h1];by_cases h2:k<m
  ·rw [if_pos h2,h0 k (by omega) h2]
  ·rw [if_neg h2]
theorem Zfw (p q:List Int):Qk8 (zp p) (zp q)=zp (S9 p q):=by
 unfold Qk8;rw [Q1r,Q1p];congr 1;have hl:=Dm q;unfold D6 S9;refine Qwe (by omega) (λk _=>?_) λk h1 h2=>?_
 ·unfold Tg;rw [Si]
  split
  ·omega
  ·rename_i h;have:q.getD k 0=0:=by rw [Qh,Qu (by omega)]; rfl
   omega
 ·have h3:p.getD k 0=0:=by rw [Qh,Qu (by omega)]; rfl
  have h4:(Tg q).getD k 0=0:=by rw [Qh,Qu (by omega)]; rfl
  unfold Tg at h4;rw [Si] at h4
  split at h4
  ·omega
  ·have:q.getD k 0=0:=by rw [Qh,Qu (by omega)]; rfl
   omega
structure Crv where
 x:List Int
 y:List Int
 d:Int
abbrev cl (k:Crv):List LV:=[pl k.x,pl k.y,sg k.d,mg k.d]
def Crv.d' (k:Crv):Int:=if k.d=0 then 1 else k.d
def Crv.g (k:Crv):Int:=if k.d'<0 then -((Gh (k.d'::(trim k.x++trim k.y)):Nat):Int) else (Gh (k.d'::(trim k.x++trim k.y)):Nat)
def Crv.norm (k:Crv):Crv:=⟨trim ((trim k.x).map (· / k.g)),trim ((trim k.y).map (· / k.g)),k.d' / k.g⟩
theorem I9 {l:List Int}:∀ z∈l,((Gh l:Nat):Int)∣z:=by
 have key:∀ (l:List Int) (g:Nat),(l.foldl (λg z=>Nat.gcd g z.natAbs) g∣g)/\∀ z∈l,l.foldl (λg z=>Nat.gcd g z.natAbs) g∣z.natAbs:=by
  intro l
  induction l with
  | nil=>intro g; exact ⟨Nat.dvd_refl _,by simp⟩
  |
   cons u l ih =>
   intro g;obtain ⟨h1,h2⟩:=ih (Nat.gcd g u.natAbs);refine ⟨Nat.dvd_trans h1 (Kf _ _),λz hz=>?_⟩;rcases Qo.1 hz with rfl | hz
   ·exact Nat.dvd_trans h1 (Wh _ _)
   ·exact h2 z hz
 intro z hz;have:=(key l 0).2 z hz;exact Wa.2 this
theorem Crv.d'_ne (k:Crv):k.d'≠0:=by unfold Crv.d'; split <;> omega
theorem Crv.gcd_ne (k:Crv):Gh (k.d'::(trim k.x++trim k.y))≠0:=by
 intro e;have h:=I9 (l:=k.d'::(trim k.x++trim k.y)) k.d' (Qt ..);rw [e] at h;exact k.d'_ne (by simpa using h)
theorem Crv.g_ne (k:Crv):k.g≠0:=by
 have h0:=k.gcd_ne;unfold Crv.g
 split <;> omega
theorem Crv.g_dvd (k:Crv):∀ z∈k.d'::(trim k.x++trim k.y),z % k.g=0:=by
 intro z hz;have h:=I9 z hz;refine Jp ?_;unfold Crv.g
 split
 ·exact W0.2 h
 ·exact h
theorem Crv.isz_g (k:Crv) {s:Nat} (h:Uh k.d'<=s):Uh k.g<=s:=by
 have hd:=I9 (l:=k.d'::(trim k.x++trim k.y)) k.d' (Qt ..);have hle:Gh (k.d'::(trim k.x++trim k.y))<=k.d'.natAbs:=Vv (by have:=k.d'_ne; omega) (Wa.1 hd);refine Qd (Hf ?_) h;unfold Crv.g
 split <;> simp <;> exact hle
structure Cs (s n:Nat) (k:Crv):Prop where
 x:Bd s k.x
 y:Bd s k.y
 d:Uh k.d<=s
 lx:k.x.length<=n
 ly:k.y.length<=n
theorem Qpn {k:Crv} {s:Nat} (h:Uh k.d<=s) (h1:1<=s):Uh k.d'<=s:=by unfold Crv.d'; split <;> first | exact h1 | exact h
theorem Qez {s:Nat} {p:List Int} (h:Bd s p) (g:Int):Bd s (p.map (· / g)):=λz hz=>by
 obtain ⟨u,hu,rfl⟩:=Zc.1 hz;exact Qd (Od u g) (h u hu)
theorem Cs.norm {s n:Nat} {k:Crv} (h:Cs s n k) (h1:1<=s):Cs s n k.norm:=by
 refine ⟨H4 (Qez (H4 h.x) _),H4 (Qez (H4 h.y) _),Qd (Od _ _) (Qpn h.d h1),?_,?_⟩
 ·refine Qd (Gs _) ?_; rw [Q6]; exact Qd (Gs _) h.lx
 ·refine Qd (Gs _) ?_; rw [Q6]; exact Qd (Gs _) h.ly
theorem Cs.mono {s n t m:Nat} {k:Crv} (h:Cs s n k) (hs:s<=t) (hn:n<=m):Cs t m k:=⟨W7 h.x hs,W7 h.y hs,Qd h.d hs,Qd h.lx hn,Qd h.ly hn⟩
def Nml (k:Crv):Prop:=Ud k.x/\Ud k.y/\0<k.d/\Gh (k.d::(k.x++k.y))=1
theorem Crv.norm_of {k:Crv} (h:Nml k):k.norm=k:=by
 obtain ⟨h1,h2,h3,h4⟩:=h;have hd:k.d'=k.d:=by unfold Crv.d'; rw [if_neg (by omega)]
 have hx:trim k.x=k.x:=h1;have hy:trim k.y=k.y:=h2;have hg:k.g=1:=by unfold Crv.g; rw [hd,hx,hy,h4,if_neg (by omega)]; rfl
 unfold Crv.norm;rw [hg,hd,hx,hy];simp [hx,hy]
theorem Qph {l:List Int} {g:Int} (hg:g≠0) (hga:g.natAbs=Gh l):Gh (l.map (· / g))=1:=by
 have key:∀ (l:List Int) (a:Nat),(∀ z∈l,g∣z)->l.foldl (λa z=>Nat.gcd a z.natAbs) (a*g.natAbs)=((l.map (· / g)).foldl (λa z=>Nat.gcd a z.natAbs) a)*g.natAbs:=by
  intro l
  induction l with
  | nil=>intro a _; rfl
  |
   cons z l ih =>
   intro a h;simp only [Zv,Z3];have hz:z.natAbs=(z / g).natAbs*g.natAbs:=by
    obtain ⟨q,rfl⟩:=h z (Qt ..);rw [Xl _ hg,Jm,Zi]
   rw [hz,Wi];exact ih _ λu hu=>h u (Qi _ hu)
 have h:=key l 0 λz hz=>Xp.1 (by rw [hga]; exact Xp.2 (I9 z hz))
 rw [J1] at h;have h':Gh l=Gh (l.map (· / g))*g.natAbs:=h;rw [<-hga] at h';have hp:0<g.natAbs:=by omega
 exact Nat.eq_of_mul_eq_mul_right hp (by rw [W3]; exact h'.symm)
theorem Dz {l:List Int} {g:Int} (ht:Ud l) (hg:g≠0) (hd:∀ z∈l,g∣z):Ud (l.map (· / g)):=by
 induction l with
 | nil=>rfl
 |
  cons x l ih =>
  have hne:∀ z∈x::l,z≠0->z / g≠0:=λz hz h0 h1=>by
   obtain ⟨q,rfl⟩:=hd z hz;rw [Xl _ hg] at h1;rw [h1] at h0; simp at h0
  unfold Ud at ht ih ⊢;cases hl:trim l with
  |
   nil =>
   simp only [trim,hl] at ht
   split at ht
   ·cases ht
   ·rename_i hx;injection ht with _ h2;subst h2;simp [trim,hne x (Qt ..) hx]
  |
   cons y k =>
   simp only [trim,hl] at ht;injection ht with _ h2;have hll:trim l=l:=by rw [hl]; exact h2
   have ih:=ih hll λz hz=>hd z (Qi _ hz)
   rw [Zv];have hne2:l.map (· / g)≠[]:=by rw [<-hll,hl]; simp
   cases hm:l.map (· / g) with
   | nil=>exact absurd hm hne2
   |
    cons u w =>
    rw [hm] at ih;have e:trim (x / g::u::w)=match trim (u::w) with | []=>if x / g=0 then [] else [x / g] | y::k=>x / g::y::k:=rfl
    rw [e,ih]
theorem Crv.nml (k:Crv):Nml k.norm:=by
 have hg:=k.g_ne;have hdv:∀ z∈k.d'::(trim k.x++trim k.y),k.g∣z:=λz hz=>Yh (k.g_dvd z hz)
 have hx:=Dz (g:=k.g) (G6 k.x) hg λz hz=>hdv z (by simp [hz])
 have hy:=Dz (g:=k.g) (G6 k.y) hg λz hz=>hdv z (by simp [hz])
 refine ⟨G6 _,G6 _,?_,?_⟩
 ·show 0<k.d' / k.g;obtain ⟨q,hq⟩:=hdv k.d' (Qt ..);have h0:=k.d'_ne;have hgc:=k.gcd_ne;have e:k.d' / k.g=q:=by rw [hq,Xl _ hg]
  rw [e];unfold Crv.g at hq hg;have hq0:q≠0:=λe=>by rw [e,V3] at hq; exact h0 hq
  split at hq
  ·rename_i hneg;rcases K9 hq0 with h | h
   ·have:=Vy (a:=-((Gh (k.d'::(trim k.x++trim k.y)):Nat):Int)) (b:=q) (by omega) h;omega
   ·exact h
  ·rename_i hneg;rcases K9 hq0 with h | h
   ·have:=Yx (a:=((Gh (k.d'::(trim k.x++trim k.y)):Nat):Int)) (b:=q) (by omega) h;omega
   ·exact h
 ·show Gh (k.d' / k.g::(trim ((trim k.x).map (· / k.g))++trim ((trim k.y).map (· / k.g))))=1;rw [show trim ((trim k.x).map (· / k.g))=(trim k.x).map (· / k.g) from hx,show trim ((trim k.y).map (· / k.g))=(trim k.y).map (· / k.g) from hy,<-Xx,<-Zv (f:=(· / k.g))];refine Qph hg ?_;unfold Crv.g
  split <;> omega
structure Pt where
 c:Crv
 id:Int
def Fw (p:Pt):List LV:=[pl p.c.x,pl p.c.y,sg p.c.d,mg p.c.d,.int .i64 p.id]
def pts (l:List Pt):LV:=.row (l.map Fw)
def Lq:List Pt->Int->Nat
 | [],_=>0
 | p::l,id=>if p.id<id then Lq l id+1 else 0
def has (l:List Pt) (id:Int):Bool:=match l[Lq l id]? with
 | some p=>decide (p.id=id)
 | none=>false
theorem Q9y (l:List Pt) (id:Int):Lq l id<=l.length:=by
 induction l with
 | nil=>exact Qn _
 | cons p l ih=>simp only [Lq]; split <;> simp <;> omega
theorem Qky:∀ {l:List Pt} {id:Int} {k:Nat},(∀ j p,j<k->l[j]? = some p->p.id<id)->(k=l.length\/∃ p,l[k]? = some p/\¬p.id<id)->Lq l id=k
 |
  [],id,k,_,h=>by
  rcases h with h | ⟨p,h,_⟩
  ·subst h; rfl
  ·simp at h
 |
  q::l,id,0,_,h=>by
  rcases h with h | ⟨p,h,h2⟩
  ·simp at h
  ·simp at h; subst h; simp [Lq,h2]
 |
  q::l,id,k+1,h1,h=>by
  have hq:=h1 0 q (by omega) rfl;simp only [Lq,hq,if_true];rw [Qky (k:=k) (λj p hj hp=>h1 (j+1) p (by omega) (by simpa using hp))];rcases h with h | ⟨p,h,h2⟩
  ·left; simpa using h
  ·right; exact ⟨p,by simpa using h,h2⟩
def put (l:List Pt) (q:Pt):List Pt:=l.take (Lq l q.id)++q::l.drop (Lq l q.id)
def Ds (l:List Pt) (q:Pt):Int:=if has l q.id=true then 6 else if 6<=l.length then 9 else 0
def Qu5 (s n:Nat) (p:Pt):Prop:=Nml p.c/\Cs s n p.c
theorem Q1k (l:List Pt) (q:Pt):(put l q).length=l.length+1:=by
 have:=Q9y l q.id;simp [put]; omega
theorem Q1l {l:List Pt} {q p:Pt} (h:p∈put l q):p=q\/p∈l:=by
 unfold put at h;rcases Qx.1 h with h | h
 ·exact .inr (Ql h)
 ·rcases Qo.1 h with h | h
  ·exact .inl h
  ·exact .inr (Qz h)
def Rm:List Pt->List Pt->List Pt×Int
 | acc,[]=>(acc,0)
 | acc,q::qs=>if Ds acc q=0 then Rm (put acc q) qs else ([],Ds acc q)
def Ep (a b:Crv):Bool:=decide (a.x=b.x/\a.y=b.y/\a.d=b.d)
def D4 (out:List Pt) (p:Pt):List Pt:=if out.any (λq=>Ep p.c q.c)=true then out else out++[p]
def D3 (l:List Pt):List Pt:=l.foldl D4 []
theorem Q4u {out:List Pt} {p q:Pt} (h:q∈D4 out p):q∈out\/q=p:=by
 unfold D4 at h
 split at h
 ·exact .inl h
 ·rcases Qx.1 h with h | h
  ·exact .inl h
  ·exact .inr (by simpa using h)
theorem Q4t (out:List Pt) (p:Pt):(D4 out p).length<=out.length+1:=by
 unfold D4; split <;> simp
theorem Hh {α β:Type} (f:β->α->β) (b:β) (l:List α) {i:Nat} {x:α} (h:l[i]? = some x):(l.take (i+1)).foldl f b=f ((l.take i).foldl f b) x:=by
 rw [Yd,h]; simp [Yw]
theorem Qbx (l:List Pt) (i:Nat):∀ q∈(l.take i).foldl D4 [],q∈l:=by
 induction i with
 | zero=>simp
 |
  succ i ih =>
  intro q hq;cases hi:l[i]? with
  |
   none =>
   rw [Qj (by have:=Ji.1 hi; omega)] at hq;rw [Qj (Ji.1 hi)] at ih;exact ih q hq
  |
   some x =>
   rw [Hh _ _ _ hi] at hq;rcases Q4u hq with h | h
   ·exact ih q h
   ·subst h; exact Qa hi
theorem Qbw (l:List Pt) (i:Nat):((l.take i).foldl D4 []).length<=i:=by
 induction i with
 | zero=>simp
 |
  succ i ih =>
  cases hi:l[i]? with
  |
   none =>
   rw [Qj (by have:=Ji.1 hi; omega)];rw [Qj (Ji.1 hi)] at ih;omega
  |
   some x =>
   rw [Hh _ _ _ hi];have:=Q4t ((l.take i).foldl D4 []) x;omega
theorem Qlo {l:List Pt} {q:Pt} (h:q∈D3 l):q∈l:=by
 have:=Qbx l l.length q;rw [Q4] at this;exact this h
theorem Qah (l:List Pt):(D3 l).length<=l.length:=by
 have:=Qbw l l.length;rwa [Q4] at this
def IsPt (s n:Nat) (z:List LV) (q:Pt):Prop:=∃ lx ly b l px py d,z=[.row lx,.row ly,.bool b,Zku l,.int .i64 q.id]/\IsInts lx px/\IsInts ly py/\Gu (.bool b) (Zku l) d/\Cs s n ⟨px,py,d⟩/\q.c=Crv.norm ⟨px,py,d⟩
theorem Zjm {s n:Nat} {p:Pt} (h:Qu5 s n p):IsPt s n (Fw p) p:=by
 obtain ⟨b,l,h1,h2,h3,h4⟩:=W9 p.c.d;refine ⟨_,_,decide (p.c.d<0),Up p.c.d.natAbs,_,_,p.c.d,rfl,U7 _,U7 _,W9 _,h.2,(Crv.norm_of h.1).symm⟩
def IsPts (s n:Nat):List (List LV)->List Pt->Prop
 | [],[]=>True
 | z::zs,q::qs=>IsPt s n z q/\IsPts s n zs qs
 | _,_=>False
theorem IsPts.len {s n:Nat}:∀ {zs:List (List LV)} {qs:List Pt},IsPts s n zs qs->zs.length=qs.length
 | [],[],_=>rfl
 | _::_,_::_,h=>by simp [h.2.len]
 | [],_::_,h=>h.elim
 | _::_,[],h=>h.elim
theorem IsPts.get {s n:Nat}:∀ {zs:List (List LV)} {qs:List Pt},IsPts s n zs qs->∀ {i:Nat} {q:Pt},qs[i]? = some q->∃ z,zs[i]? = some z/\IsPt s n z q
 | [],[],_,i,q,h=>by simp at h
 | z::zs,q::qs,h,0,r,hr=>by simp at hr; subst hr; exact ⟨z,rfl,h.1⟩
 | z::zs,q::qs,h,i+1,r,hr=>by simpa using h.2.get (i:=i) (by simpa using hr)
 | [],_::_,h,_,_,_=>h.elim
 | _::_,[],h,_,_,_=>h.elim
theorem Q0d {s n:Nat}:∀ {l:List Pt},(∀ p∈l,Qu5 s n p)->IsPts s n (l.map Fw) l
 | [],_=>trivial
 | p::l,h=>⟨Zjm (h p (Qt ..)),Q0d λq hq=>h q (Qi _ hq)⟩
theorem IsPt.ok {s n:Nat} {z:List LV} {q:Pt} (h:IsPt s n z q) (h1:1<=s):Qu5 s n q:=by
 obtain ⟨lx,ly,b,l,px,py,d,_,_,_,_,hc,e⟩:=h;unfold Qu5;rw [e];exact ⟨Crv.nml _,hc.norm h1⟩
theorem Q31 (acc qs:List Pt) {i:Nat} {q:Pt} (hi:qs[i]? = some q) (h:Rm acc (qs.take i)=((Rm acc (qs.take i)).1,0)):Rm acc (qs.take (i+1))=if Ds (Rm acc (qs.take i)).1 q=0 then (put (Rm acc (qs.take i)).1 q,0) else ([],Ds (Rm acc (qs.take i)).1 q):=by
 induction qs generalizing acc i with
 | nil=>simp at hi
 |
  cons x qs ih =>
  cases i with
  | zero=>simp at hi; subst hi; simp [Rm]
  |
   succ i =>
   simp only [Yk,Rm] at h ⊢;by_cases h0:Ds acc x=0
   ·simp only [h0,if_true] at h ⊢;exact ih (put acc x) (by simpa using hi) h
   ·simp only [h0,if_false] at h;injection h with _ h;exact absurd h h0
theorem Q9d (acc qs:List Pt) {i:Nat} {e:Int} (he:e≠0) (h:Rm acc (qs.take i)=([],e)):Rm acc qs=([],e):=by
 induction qs generalizing acc i with
 | nil=>simp [Rm] at h; exact absurd h.2.symm he
 |
  cons x qs ih =>
  cases i with
  | zero=>simp [Rm] at h; exact absurd h.2.symm he
  |
   succ i =>
   simp only [Yk,Rm] at h ⊢;by_cases h0:Ds acc x=0
   ·simp only [h0,if_true] at h ⊢; exact ih _ h
   ·simp only [h0,if_false] at h ⊢; exact h
def Ft (p:List Int) (q:Rat):Int:=Me (Zfm p q.num q.den) 0
abbrev qa (q:Rat):List LV:=pl [-q.num,(q.den:Int)]::(rl q++rl q)
def Hr (sgn:List Int->Int):Nat->List Int->Int
 | 0,_=>0
 | k+1,p=>if p.length=0 then 0 else if sgn p=0 then Hr sgn k (U8 p) else sgn p
theorem Oa (sgn:List Int->Int):∀ (k:Nat) (p:List Int),p.length<=k->Hr sgn k p=Hr sgn p.length p
 |
  0,p,h=>by
  have:p.length=0:=by omega
  rw [this]
 |
  k+1,p,h=>by
  cases hp:p.length with
  | zero=>simp [Hr,hp]
  |
   succ m =>
   simp only [Hr];have h1:=Tt p;rw [Oa sgn k (U8 p) (by omega),Oa sgn m (U8 p) (by omega)]
theorem Qgs (sgn:List Int->Int) {p:List Int} (h:p.length=0):Hr sgn p.length p=0:=by rw [h]; rfl
theorem Qgq (sgn:List Int->Int) {p:List Int} (h:0<p.length) (hs:sgn p≠0):Hr sgn p.length p=sgn p:=by
 obtain ⟨m,hm⟩:∃ m,p.length=m+1:=⟨p.length-1,by omega⟩;rw [hm]; simp only [Hr]; rw [if_neg (by omega),if_neg hs]
theorem Qgr (sgn:List Int->Int) {p:List Int} (h:0<p.length) (hs:sgn p=0):Hr sgn p.length p=Hr sgn (U8 p).length (U8 p):=by
 obtain ⟨m,hm⟩:∃ m,p.length=m+1:=⟨p.length-1,by omega⟩;rw [hm]; simp only [Hr]; rw [if_neg (by omega),if_pos hs];exact Oa sgn m _ (by have:=Tt p; omega)
structure Tm where
 p:List Int
 lo:Rat
 hi:Rat
abbrev ta (t:Tm):List LV:=pl t.p::(rl t.lo++rl t.hi)
abbrev tq (q:Rat):Tm:=⟨[-q.num,(q.den:Int)],q,q⟩
def Bj (sg:List Int->Int) (p:List Int):Int:=Hr sg p.length p
def Qj1 (p:List Int) (q:Rat):Int:=Bj (λp=>Ft p q) p
structure Pb (p:List Int):Prop where
 t:Ud p
 l:p.length<=64
 b:Bd 16777216 p
abbrev Qb (q:Rat):Prop:=Qs 16777216 q
abbrev Cb (k:Crv):Prop:=Cs 1048576 16 k
def Zj5 (a b:Crv):List Int:=S9 (U3 b.x a.d) (U3 a.x b.d)
def Zj3 (a b:Crv):List Int:=S9 (U3 b.y a.d) (U3 a.y b.d)
def Q9u (sg:List Int->Int) (a b:Pt):List (List Int)->Bool
 | []=>decide (a.id<b.id)
 | p::l=>if 0<p.length then decide (0<Bj sg p) else Q9u sg a b l
def Qvc (sg:List Int->Int) (a b:Pt):Bool:=Q9u sg a b [Zj5 a.c b.c,Zj3 a.c b.c]
end Orr
namespace Orr
open Go
structure Ct where
 kind:Int
 i0:Int
 i1:Int
 i2:Int
 i3:Int
 p:List Int
 want:Int
abbrev Qdt (c:Ct):List LV:=[.int .i64 c.kind,.int .i64 c.i0,.int .i64 c.i1,.int .i64 c.i2,.int .i64 c.i3,pl c.p,.int .i64 c.want]
def Hb:List Int->List Int->Bool
 | x::l,y::m=>if x=y then Hb l m else decide (x<y)
 | _,_=>false
def M8 (a b:Ct):Bool:=Hb [a.kind,a.i0,a.i1,a.i2,a.i3] [b.kind,b.i0,b.i1,b.i2,b.i3]
def O1 (out:List Ct) (c:Ct):Nat->Nat
 | 0=>0
 |
  k+1=>match out[k]? with
  | some x=>if M8 c x=true then O1 out c k else k+1
  | none=>k+1
theorem Q1c (out:List Ct) (c:Ct):∀ k,O1 out c k<=k
 | 0=>Qn _
 |
  k+1=>by
  simp only [O1]
  split
  ·split
   ·exact Nat.le_succ_of_le (Q1c out c k)
   ·exact Qn _
  ·exact Qn _
theorem Zfe {out:List Ct} {c x:Ct} {k:Nat} (hx:out[k]? = some x) (h:M8 c x=true):O1 out c (k+1)=O1 out c k:=by
 simp only [O1,hx,h,if_true]
theorem Q9x {out:List Ct} {c x:Ct} {k:Nat} (hx:out[k]? = some x) (h:M8 c x=false):O1 out c (k+1)=k+1:=by
 simp [O1,hx,h]
def Qb8 (out:List Ct) (c:Ct):List Ct:=out.take (O1 out c out.length)++c::out.drop (O1 out c out.length)
theorem Q8p (out:List Ct) (c:Ct):(Qb8 out c).length=out.length+1:=by
 have:=Q1c out c out.length;simp [Qb8]; omega
theorem Q8q {out:List Ct} {c x:Ct} (h:x∈Qb8 out c):x=c\/x∈out:=by
 simp only [Qb8,Qx,Qo] at h;rcases h with h | h | h
 ·exact .inr (Ql h)
 ·exact .inl h
 ·exact .inr (Qz h)
def Uz (l:List Ct):List Ct:=l.foldl Qb8 []
theorem Qx2 (l:List Ct) (c:Ct):Uz (l++[c])=Qb8 (Uz l) c:=by simp [Uz,Yw]
theorem Qx3 {l:List Ct} {i:Nat} {c:Ct} (h:l[i]? = some c):Uz (l.take (i+1))=Qb8 (Uz (l.take i)) c:=by
 rw [Zx,h]; exact Qx2 _ _
theorem Qmz:∀ (l acc:List Ct),(l.foldl Qb8 acc).length=acc.length+l.length
 | [],acc=>by simp
 | c::l,acc=>by simp only [Z3]; rw [Qmz l (Qb8 acc c),Q8p]; simp; omega
theorem Cz (l:List Ct):(Uz l).length=l.length:=by unfold Uz; rw [Qmz]; simp
theorem Qm0:∀ (l acc:List Ct) {x:Ct},x∈l.foldl Qb8 acc->x∈l\/x∈acc
 | [],acc,x,h=>.inr h
 |
  c::l,acc,x,h=>by
  simp only [Z3] at h;rcases Qm0 l _ h with h | h
  ·exact .inl (Qi _ h)
  ·rcases Q8q h with rfl | h
   ·exact .inl (Qt ..)
   ·exact .inr h
theorem Ai {l:List Ct} {x:Ct} (h:x∈Uz l):x∈l:=by
 rcases Qm0 l [] h with h | h
 ·exact h
 ·cases h
theorem Qsx {α:Type} (l:List α) (z x:α) {k m':Nat} (hk:k<=l.length) (hm:m'=l.length-k) :
 ((l++[z]).take (k+1)++((l++[z]).drop k).take m'++(l++[z]).drop (k+1+m')).set k x=l.take k++x::l.drop k:=by
 subst hm;have e1:((l++[z]).drop k).take (l.length-k)=l.drop k:=by
  rw [Yg hk,Jj (by simp),Qj (by simp)]
 have e2:(l++[z]).drop (k+1+(l.length-k))=[]:=Ym (by simp; omega);rw [e1,e2,Xe];have e3:(l++[z]).take (k+1)=(l++[z]).take k++[(l++[z])[k]'(by simp; omega)]:=by rw [List.take_succ_eq_append_getElem]
 rw [e3,Jj hk,Ze,List.set_append,if_neg (by simp; omega)];simp [Zr hk]
end Orr
namespace Orr
open Go Go.Proofs
set_option maxRecDepth 10000
abbrev pr (p:List Int):TV:=.one (pl p)
theorem Ru {p:List Int} {i:Nat} {z:Int} (h:p[i]? = some z):(p.map Fi)[i]? = some (Fi z):=Ff h
theorem Qi5 (p:List Int):W8 Tryz.prog 158 [pr p] [pr (trim p)]:=by
 refine Fv Tryz.func158 rfl (ln 0 rfl rfl λhl=>?_);rw [Q6] at hl;refine go tt [] rfl trivial ?_;refine lp (S:=Nat) 0 (λL1 n=>(3,.v (.one (.int .i64 (n:Int))))::L1) (λ_=>[]) id (λn=>n<=p.length/\∀ j x,n<=j->p[j]? = some x->x=0) (p.map Fi).length ⟨by simp,λj x h1 h2=>by
  have:=(Qc.1 h2).1; simp at h1; omega⟩ rfl (λ_ _=>rfl) rfl λn ⟨h1,h2⟩=>?_
 cases n with
 | zero=>exact en tt [.f (by simp),.f rfl,.i 0] rfl (by rw [Qlk h1 h2 (λh=>by omega)]; simp [pl]) (by simp [W6])
 |
  succ n =>
  obtain ⟨x,hx⟩:=gxE (l:=p) (i:=n) (by omega);by_cases h0:x=0
  ·refine go tt [.t (by simp),.r 11 (v:=.one (.int .i64 (n:Int))) (by simp),.x (Ru hx),.c [] Lx,.t (by simp [h0]),.r 17 (v:=.one (.int .i64 (n:Int))) (by simp)] rfl (by simp [W6]; omega) ?_;exact rd n (by simp) ⟨by omega,λj y h3 h4=>by
    rcases Y8 h3 with rfl | h3
    ·rw [hx] at h4; injection h4 with h4; rw [<-h4,h0]
    ·exact h2 j y h3 h4⟩ rfl
  ·exact en tt [.t (by simp),.r 11 (v:=.one (.int .i64 (n:Int))) (by simp),.x (Ru hx),.c [] Lx,.f (by simp [h0]),.i (n+1)] rfl (by rw [Qlk h1 h2 (λ_=>⟨x,hx,h0⟩)]; simp [pl,Ye]) (by simp [W6] <;> omega)
theorem Qy9 (p:List Int) (k:Nat):W8 Tryz.prog 244 [pr p,.one (.int .i64 (k:Int))] [.agg (Fi (p.getD k 0))]:=by
 by_cases h:k<p.length
 ·have hx:=Qe h;have e:p.getD k 0=p[k]:=by simp [List.getD,hx]
  rw [e];exact w tt Tryz.func244 rfl [.t (by simp; omega),.x (Ru hx)] rfl rfl trivial
 ·have e:p.getD k 0=0:=by simp [List.getD,Qu (Y0 h)]
  rw [e,Dq];exact w tt Tryz.func244 rfl [.f (by simp; omega)] rfl rfl trivial
def fil (f:Nat->List LV) (z:List LV) (n k:Nat):List (List LV):=(List.range n).map λi=>if i<k then f i else z
theorem Ll (f:Nat->List LV) (z:List LV) (n k:Nat):(fil f z n k).length=n:=by simp [fil]
theorem De (f:Nat->List LV) (z:List LV) (n:Nat):List.replicate n z=fil f z n 0:=by
 refine Xf λi=>?_
 simp only [fil,Jr,Q8];by_cases h:i<n
 ·simp [h]
 ·simp [h]
theorem A4 (f:Nat->List LV) (z:List LV) (n:Nat):fil f z n n=(List.range n).map f:=by
 refine X7 λi hi=>?_
 rw [if_pos (V6.1 hi)]
theorem A5 (f:Nat->List LV) (z:List LV) {n k:Nat} (h:k<n):(fil f z n k).set k (f k)=fil f z n (k+1):=by
 refine Xf λi=>?_
 rw [Ju];simp only [fil,Q8,Q6,List.length_range,h,if_true];by_cases e:k=i
 ·subst e; simp [h]
 ·simp only [e,if_false];by_cases hi:i<n
  ·simp only [Xt hi,Jw];congr 1;by_cases h2:i<k
   ·rw [if_pos h2,if_pos (by omega)]
   ·rw [if_neg h2,if_neg (by omega)]
  ·simp [Qu,hi]
theorem Qoz {n fid:Nat} {l1 l2:List LV} {g:Nat->Int} (hn:n<274877906944) (h:∀ k,k<n->W8 Tryz.prog fid [.one (.int .i64 (k:Int)),.one (.sh l1),.one (.sh l2)] [.agg (Fi (g k))]):W8 Tryz.prog 240 [.one (.int .i64 (n:Int)),.one (.fn fid [] [.sh l1,.sh l2])] [pr (Sv n g)]:=by
 refine Fv Tryz.func240 rfl ?_;refine go tt [.i n,.i n,.r 10 (eI (b:=(n:Int)) (by simp))] rfl (by simp [W6]; omega) ?_;rw [De λk=>Fi (g k)];refine lp (S:=Nat) 1 (λL1 k=>(11,.v (.one (.int .i64 (k:Int))))::L1) (λk=>[.row false 55 2 (fil (λk=>Fi (g k)) [.bool false,.nils] n k)]) (λk=>n-k) (λk=>k<=n) 0 (Qg _) rfl (λ_ _=>rfl) rfl λk hk=>?_
 by_cases hlt:k<n
 ·refine go tt [.t (by simp; omega),.c [] (h k hlt),.i k] rfl (by simp [W6,Ll]; omega) ?_;have e:=A5 (λk=>Fi (g k)) [.bool false,.nils] hlt;rw [e];exact rd (k+1) (by omega) hlt rfl
 ·obtain rfl:k=n:=by omega
  have e:fil (λk=>Fi (g k)) [.bool false,.nils] k k=((List.range k).map g).map Fi:=by rw [A4]; simp
  rw [e];exact en tt [.f (by simp),.c [] (Qi5 _)] rfl rfl trivial
theorem Qy5 {n fid:Nat} {l1:List LV} {g:Nat->Int} (hn:n<274877906944) (h:∀ k,k<n->W8 Tryz.prog fid [.one (.int .i64 (k:Int)),.one (.sh l1)] [.agg (Fi (g k))]):W8 Tryz.prog 240 [.one (.int .i64 (n:Int)),.one (.fn fid [] [.sh l1])] [pr (Sv n g)]:=by
 refine Fv Tryz.func240 rfl ?_;refine go tt [.i n,.i n,.r 10 (eI (b:=(n:Int)) (by simp))] rfl (by simp [W6]; omega) ?_;rw [De λk=>Fi (g k)];refine lp (S:=Nat) 1 (λL1 k=>(11,.v (.one (.int .i64 (k:Int))))::L1) (λk=>[.row false 55 2 (fil (λk=>Fi (g k)) [.bool false,.nils] n k)]) (λk=>n-k) (λk=>k<=n) 0 (Qg _) rfl (λ_ _=>rfl) rfl λk hk=>?_
 by_cases hlt:k<n
 ·refine go tt [.t (by simp; omega),.c [] (h k hlt),.i k] rfl (by simp [W6,Ll]; omega) ?_;have e:=A5 (λk=>Fi (g k)) [.bool false,.nils] hlt;rw [e];exact rd (k+1) (by omega) hlt rfl
 ·obtain rfl:k=n:=by omega
  have e:fil (λk=>Fi (g k)) [.bool false,.nils] k k=((List.range k).map g).map Fi:=by rw [A4]; simp
  rw [e];exact en tt [.f (by simp),.c [] (Qi5 _)] rfl rfl trivial
theorem Zig {p q:List Int} (k:Nat) (hp:Bd 4294967295 p) (hq:Bd 4294967295 q):W8 Tryz.prog 248 [.one (.int .i64 (k:Int)),.one (.sh [pl p]),.one (.sh [pl q])] [.agg (Fi (p.getD k 0+q.getD k 0))] :=
 w tt Tryz.func248 rfl [.c [] (Qy9 p k),.c [] (Qy9 q k),.c [] (Qb0 (W9 _) (W9 _) (Ul hp k) (Ul hq k))] rfl rfl trivial
theorem Ziq {p q:List Int} (k:Nat) (hp:Bd 4294967295 p) (hq:Bd 4294967295 q):W8 Tryz.prog 243 [.one (.int .i64 (k:Int)),.one (.sh [pl p]),.one (.sh [pl q])] [.agg (Fi (p.getD k 0-q.getD k 0))] :=
 w tt Tryz.func243 rfl [.c [] (Qy9 p k),.c [] (Qy9 q k),.c [] (Q6g (W9 _) (W9 _) (Ul hp k) (Ul hq k))] rfl rfl trivial
theorem Gy {p:List Int} {k:Nat} (h:k<p.length):p[k]? = some (p.getD k 0):=by simp [List.getD,Qe h]
theorem Q6c {p:List Int} {c:Int} {k:Nat} (hk:k<p.length) (hp:Bd 4294967295 p) (hc:Uh c<=4294967295):W8 Tryz.prog 245 [.one (.int .i64 (k:Int)),.one (.sh [pl p]),.one (.sh (Fi c))] [.agg (Fi (p.getD k 0*c))] :=
 w tt Tryz.func245 rfl [.x (Ru (Gy hk)),.c [] (C5 (W9 _) (W9 _) (Ul hp k) hc)] rfl rfl trivial
theorem Zin {p:List Int} {k:Nat} (hk:k<p.length) (hp:Bd 4294967295 p):W8 Tryz.prog 285 [.one (.int .i64 (k:Int)),.one (.sh [pl p])] [.agg (Fi (-(p.getD k 0)))] :=
 w tt Tryz.func285 rfl [.x (Ru (Gy hk)),.c [] (Qi0 (W9 _) (Ul hp k))] rfl rfl trivial
theorem Q2o {p:List Int} {k:Nat} (hk:k+1<p.length) (hl:p.length<274877906944) (hp:Bd 4294967295 p):W8 Tryz.prog 241 [.one (.int .i64 (k:Int)),.one (.sh [pl p])] [.agg (Fi (p.getD (k+1) 0*((k+1:Nat):Int)))] :=
 w tt Tryz.func241 rfl [.x (Ru (Gy hk)),.r 10 (eI (b:=((k+1:Nat):Int)) (by omega)),.c [] (Qvo (by omega)),.c [] (C5 (W9 _) (W9 _) (Ul hp _) (Q3q (show k+1<274877906944 by omega)))] rfl rfl (by simp [W6] <;> omega)
theorem Qvp {p q:List Int} (hlp:p.length<274877906944) (hlq:q.length<274877906944) (hp:Bd 4294967295 p) (hq:Bd 4294967295 q):W8 Tryz.prog 214 [pr p,pr q] [pr (D6 p q)] :=
 w tt Tryz.func214 rfl [.r 9 (eI (b:=((max p.length q.length:Nat):Int)) (by simp; omega)),.c [] (Qoz (by omega) λk _=>Zig k hp hq)] rfl rfl trivial
theorem Qvq {p q:List Int} (hlp:p.length<274877906944) (hlq:q.length<274877906944) (hp:Bd 4294967295 p) (hq:Bd 4294967295 q):W8 Tryz.prog 208 [pr p,pr q] [pr (S9 p q)] :=
 w tt Tryz.func208 rfl [.r 9 (eI (b:=((max p.length q.length:Nat):Int)) (by simp; omega)),.c [] (Qoz (by omega) λk _=>Ziq k hp hq)] rfl rfl trivial
theorem Q54 {p:List Int} (hlp:p.length<274877906944) (hp:Bd 4294967295 p):W8 Tryz.prog 260 [pr p] [pr (Tg p)] :=
 w tt Tryz.func260 rfl [.r 4 (eI (b:=(p.length:Int)) (by simp)),.c [] (Qy5 hlp λk hk=>Zin hk hp)] rfl rfl trivial
theorem Qc0 {p:List Int} {c:Int} (hlp:p.length<274877906944) (hp:Bd 4294967295 p) (hc:Uh c<=4294967295):W8 Tryz.prog 209 [pr p,.agg (Fi c)] [pr (U3 p c)] :=
 w tt Tryz.func209 rfl [.r 6 (eI (b:=(p.length:Int)) (by simp)),.c [] (Qoz hlp λk hk=>Q6c hk hp hc)] rfl rfl trivial
theorem Em {p:List Int} (hlp:p.length<274877906944) (hp:Bd 4294967295 p):W8 Tryz.prog 202 [pr p] [pr (U8 p)] :=
 w tt Tryz.func202 rfl [.r 6 (eI (b:=((p.length-1:Nat):Int)) (by simp; omega)),.c [] (Qy5 (by omega) λk hk=>Q2o (by omega) hlp hp)] rfl rfl (by simp [W6]; omega)
theorem Cd {ls:List (List LV)} {p:List Int} (hi:IsInts ls p) (hl:p.length<274877906944) (hs:Bd 4294967295 p):W8 Tryz.prog 126 [.one (.row ls)] [pr (trim p)]:=by
 refine Fv Tryz.func126 rfl ?_;have hlen:=hi.len;refine go tt [.i ls.length,.i ls.length] rfl (by simp [W6]; omega) ?_;rw [De λk=>Fi (p.getD k 0)];refine lp (S:=Nat) 1 (λL1 k=>(11,.v (.one (.int .i64 (k:Int))))::L1) (λk=>[.row false 55 2 (fil (λk=>Fi (p.getD k 0)) [.bool false,.nils] ls.length k)]) (λk=>ls.length-k) (λk=>k<=ls.length) 0 (Qg _) rfl (λ_ _=>rfl) rfl λk hk=>?_
 by_cases hlt:k<ls.length
 ·obtain ⟨x,y,hx,hxy⟩:=hi.get (Gy (p:=p) (k:=k) (by omega));have cn:=Ce hxy (Ul hs k);obtain ⟨b,l,rfl,rfl,_⟩:=hxy;refine go tt [.t (by simp; omega),.x hx,.c [] cn,.i k] rfl (by simp [W6,Ll]; omega) ?_;have e:=A5 (λk=>Fi (p.getD k 0)) [.bool false,.nils] hlt;rw [e];exact rd (k+1) (by omega) hlt rfl
 ·obtain rfl:k=ls.length:=by omega
  have e:fil (λk=>Fi (p.getD k 0)) [.bool false,.nils] ls.length ls.length=p.map Fi:=by
   rw [A4,hlen];refine Xf λi=>?_
   by_cases hi:i<p.length
   ·simp [Xt hi,List.getD,Qe hi]
   ·simp [Qu,hi]
  rw [e];exact en tt [.f (by simp),.c [] (Qi5 _)] rfl rfl trivial
theorem Gm {p:List Int} (ht:Ud p) (hl:p.length<274877906944) (hs:Bd 4294967295 p):W8 Tryz.prog 126 [pr p] [pr p]:=by
 have:=Cd (U7 p) hl hs;rw [ht] at this; exact this
theorem Zei {p:List Int} {i:Nat} {z:Int} (h:p[i]? = some z):(p.map λ(x:Int)=>[LV.int .i64 x])[i]? = some [.int .i64 z]:=Ff h
theorem Qyy {p:List Int} (hl:p.length<274877906944) (hr:∀ z∈p,-9223372036854775808≤z/\z≤9223372036854775807):W8 Tryz.prog 114 [.one (ids p)] [pr (trim p)]:=by
 refine Fv Tryz.func114 rfl ?_;refine go tt [.r 7 (eI (b:=(p.length:Int)) (by simp)),.i p.length,.i p.length,.r 10 (eI (b:=(p.length:Int)) (by simp))] rfl (by simp [W6]; omega) ?_;rw [De λk=>Fi (p.getD k 0)];refine lp (S:=Nat) 1 (λL1 k=>(11,.v (.one (.int .i64 (k:Int))))::L1) (λk=>[.row false 55 2 (fil (λk=>Fi (p.getD k 0)) [.bool false,.nils] p.length k)]) (λk=>p.length-k) (λk=>k<=p.length) 0 (Qg _) rfl (λ_ _=>rfl) rfl λk hk=>?_
 by_cases hlt:k<p.length
 ·have hg:=Gy hlt;refine go tt [.t (by simp; omega),.x (Zei hg),.c [] (Qvo (hr _ (Qa hg))),.i k] rfl (by simp [W6,Ll]; omega) ?_;have e:=A5 (λk=>Fi (p.getD k 0)) [.bool false,.nils] hlt;rw [e];exact rd (k+1) (by omega) hlt rfl
 ·obtain rfl:k=p.length:=by omega
  have e:fil (λk=>Fi (p.getD k 0)) [.bool false,.nils] p.length p.length=p.map Fi:=by
   rw [A4];refine Xf λi=>?_
   by_cases hi:i<p.length
   ·simp [Xt hi,List.getD,Qe hi]
   ·simp [Qu,hi]
  rw [e];exact en tt [.f (by simp),.c [] (Qi5 _)] rfl rfl trivial
theorem Qxb (l:List Int) (i:Nat) (z:Int):(l.map Fi).set i (Fi z)=(l.set i z).map Fi:=by rw [Yp]
theorem Qia (m:Nat):((List.replicate m [LV.bool false,LV.nils]).map λc=>c.map Qhe)=(List.replicate m (0:Int)).map Fi:=by
 simp [Dq,Qhe]
theorem Qos {p0 q:List Int} {s t:Nat} (tq:Ud q) (hlp:p0.length<137438953472) (hlq:q.length<137438953472) (hp:Bd s p0) (hq:Bd t q) (hst:s+t<=4294967000):W8 Tryz.prog 215 [pr p0,pr q] [pr (Uo (trim p0) q)]:=by
 have cp:=Cd (U7 p0) (by omega) (W7 hp (show s<=4294967295 by omega));have hp:=H4 hp;have hlp:=Zt (Gs p0) hlp;obtain ⟨p,ep⟩:=nmE (trim p0);rw [<-ep] at cp hp hlp ⊢;have cq:=Gm tq (by omega) (W7 hq (show t<=4294967295 by omega));by_cases h0:p.length=0
 ·have e:Uo p q=[]:=by unfold Uo; rw [if_pos (.inl h0)]
  rw [e];exact w tt Tryz.func215 rfl [.c [] cp,.c [] cq,.t (by simp; exact Qk h0),.t rfl] rfl rfl trivial
 by_cases h1:q.length=0
 ·have e:Uo p q=[]:=by unfold Uo; rw [if_pos (.inr h1)]
  rw [e];exact w tt Tryz.func215 rfl [.c [] cp,.c [] cq,.f (by simp; intro h; subst h; simp at h0),.t (by simp; exact Qk h1)] rfl rfl trivial
 refine Fv Tryz.func215 rfl ?_;have e:Uo p q=trim (By p q (List.replicate (p.length+q.length-1) 0) p.length):=by unfold Uo; rw [if_neg (by omega)]
 rw [e];obtain ⟨N,hN⟩:=nmE (p.length+q.length-1);rw [<-hN];obtain ⟨o,ho⟩:=nmE (List.replicate N (0:Int));rw [<-ho];have hol:o.length=N:=by rw [ho]; simp
 have ho0:∀ m,o.getD m 0=0:=λm=>by rw [ho]; exact Tr N m
 refine go tt [.c [] cp,.c [] cq,.f (by simp; intro h; subst h; simp at h0),.f (by simp; intro h; subst h; simp at h1),.r 27 (eI (b:=(N:Int)) (by simp; omega)),.i N,.i N] rfl (by simp [W6]; omega) ?_;refine nl 0 rfl rfl rfl ?_;rw [Qia,<-ho];refine lp (S:=Nat) 1 (λL1 i=>(31,.v (.one (.int .i64 (i:Int))))::L1) (λi=>[.row false 55 2 ((By p q o i).map Fi)]) (λi=>p.length-i) (λi=>i<=p.length) 0 (Qg _) rfl (λ_ _=>rfl) rfl λi hi=>?_
 by_cases hlt:i<p.length
 ·refine go tt [.t (by simp; omega),.x (Ru (Gy hlt))] rfl trivial ?_;refine lp (S:=Nat) 2 (λL1 k=>(38,.v (.one (.int .i64 (k:Int))))::L1) (λk=>[.row false 55 2 ((E3 (p.getD i 0) q i (By p q o i) k).map Fi),.blk 55 (Fi (p.getD i 0))]) (λk=>q.length-k) (λk=>k<=q.length) 0 (Qg _) rfl (λ_ _=>rfl) rfl λk hk=>?_
  by_cases hk2:k<q.length
  ·have hm1:Uh ((E3 (p.getD i 0) q i (By p q o i) k).getD (i+k) 0)<=4294967295:=Qd (Ea (t:=39) (Qpy (by rw [Bm]; omega) (Qpx (λj hj=>by omega) ho0 (λi j=>S6 (Ul hp i) (Ul hq j))) (λj=>S6 (Ul hp i) (Ul hq j)) (i+k)) (V5 (show i+1<549755813888 by omega) (by decide))) (by omega);have hm2:Uh (p.getD i 0*q.getD k 0)<=4294967295:=Qd (Us _ _) (by have:=Ul hp i; have:=Ul hq k; omega);have hg:(E3 (p.getD i 0) q i (By p q o i) k)[i+k]? = some ((E3 (p.getD i 0) q i (By p q o i) k).getD (i+k) 0):=Gy (by rw [E4,Bm]; omega);refine go tt [.t (by simp; omega),.x (Ru (Gy hk2)),.i (i+k),.x (Ru hg),.c [] (C5 (W9 _) (W9 _) (Qd (Ul hp i) (by omega)) (Qd (Ul hq k) (by omega))),.c [] (Qb0 (W9 _) (W9 _) hm1 hm2),.i (i+k)] rfl (by simp [W6,E4,Bm] <;> omega) ?_;rw [Qxb];exact rd (k+1) (by omega) hk2 rfl
  ·obtain rfl:k=q.length:=by omega
   exact go tt [.f (by simp)] rfl (by simp [W6]; omega) (rd (i+1) (by omega) hlt rfl)
 ·obtain rfl:i=p.length:=by omega
  exact en tt [.f (by simp),.c [] (Qi5 _)] rfl rfl trivial
theorem Qor {p q:List Int} {s t:Nat} (tp:Ud p) (tq:Ud q) (hlp:p.length<137438953472) (hlq:q.length<137438953472) (hp:Bd s p) (hq:Bd t q) (hst:s+t<=4294967000):W8 Tryz.prog 215 [pr p,pr q] [pr (Uo p q)]:=by
 have h:=Qos tq hlp hlq hp hq hst;rw [show trim p=p from tp] at h;exact h
theorem Qot {p q:List Int} (hlp:p.length<274877906944) (hlq:q.length<274877906944) (hp:Bd 4294967295 p) (hq:Bd 4294967295 q):W8 Tryz.prog 203 [pr p,pr q] [.one (.bool (decide (trim p=trim q)))]:=by
 refine Fv Tryz.func203 rfl ?_;have cp:=Cd (U7 p) hlp hp;have cq:=Cd (U7 q) hlq hq;have bp:=H4 hp;have bq:=H4 hq;have l1:=Gs p;have l2:=Gs q;obtain ⟨a,ha⟩:=nmE (trim p);obtain ⟨b,hb⟩:=nmE (trim q);rw [<-ha] at cp bp l1 ⊢;rw [<-hb] at cq bq l2 ⊢;by_cases hl:a.length=b.length
 ·refine go tt [.c [] cp,.c [] cq,.f (by simp; omega)] rfl trivial ?_;refine lp (S:=Nat) 0 (λL1 i=>(18,.v (.one (.int .i64 (i:Int))))::L1) (λ_=>[]) (λi=>a.length-i) (λi=>i<=a.length/\a.take i=b.take i) 0 ⟨Qg _,rfl⟩ rfl (λ_ _=>rfl) rfl λi ⟨hi,he⟩=>?_
  by_cases hlt:i<a.length
  ·have ga:=Gy hlt;have gb:=Gy (p:=b) (k:=i) (by omega);have cc:=Qe4 (W9 (a.getD i 0)) (W9 (b.getD i 0)) (Ul bp i) (Ul bq i);by_cases hz:a.getD i 0=b.getD i 0
   ·refine go tt [.t (by simp; omega),.x (Ru ga),.x (Ru gb),.c [] cc,.f (by simpa using Qo4.2 hz)] rfl (by simp [W6]; omega) ?_;exact rd (i+1) (by omega) ⟨hlt,by rw [Yd,Yd,he,ga,gb,hz]⟩ rfl
   ·exact en tt [.t (by simp; omega),.x (Ru ga),.x (Ru gb),.c [] cc,.t (by have:=mt Qo4.1 hz; simpa using this)] rfl (by rw [decide_eq_false]; intro h; exact hz (by rw [h])) trivial
  ·obtain rfl:i=a.length:=by omega
   rw [Q4,hl,Q4] at he;exact en tt [.f (by simp)] rfl (by rw [decide_eq_true he]) trivial
 ·exact en tt [.c [] cp,.c [] cq,.t (by simp; omega)] rfl (by rw [decide_eq_false]; intro h; exact hl (by rw [h])) trivial
theorem Q57 {p:List Int} {n d:Int} {s t:Nat} (hl:p.length<274877906944) (hp:Bd s p) (hn:Uh n<=t) (hd:Uh d<=t) (hst:s+p.length*(t+1)+2*t+10<=4294967295):W8 Tryz.prog 201 [pr p,.agg (Fi n),.agg (Fi d)] [.agg (Fi (Zfm p n d))]:=by
 refine Fv Tryz.func201 rfl ?_;refine go tt [.c [] (Qvo (z:=1) (by decide)),.r 13 (eI (b:=(p.length:Int)-1-((0:Nat):Int)) (by simp))] rfl (by simp [W6]; omega) ?_;refine nlb 3 rfl rfl rfl ?_;have e0:[LV.bool false,LV.nils].map Qhe=Fi (Sr p n d 0).1:=by simp [Qhe,Sr,Dq]
 rw [e0];refine lp (S:=Nat) 5 (λL1 j=>(9,.v (.one (.int .i64 ((p.length:Int)-1-(j:Int)))))::L1) (λj=>[.blk 55 (Fi n),.blk 55 (Fi d),.blk 55 [.bool false,.nils],.blk 55 (Fi (Sr p n d j).1),.blk 55 (Fi (Sr p n d j).2)]) (λj=>p.length-j) (λj=>j<=p.length) 0 (Qg _) rfl (λ_ _=>rfl) rfl λj hj=>?_
 have hv:=Qq5 (k:=j) hp hn hd;have hjl:j*(t+1)<=p.length*(t+1):=Q0 _ (by omega);have hjl2:j*t<=j*(t+1):=Zp _ (by omega);by_cases hlt:j<p.length
 ·have hc:=Ul hp (p.length-1-j);have hm1:Uh ((Sr p n d j).1*n)<=4294967295:=Qd (Us _ _) (by omega);have hm2:Uh (p.getD (p.length-1-j) 0*(Sr p n d j).2)<=4294967295:=Qd (Us _ _) (by omega);refine go tt [.t (by simp; omega),.c [] (C5 (W9 _) (W9 _) (by omega) (by omega)),.r 22 (eI (b:=((p.length-1-j:Nat):Int)) (by omega)),.x (Ru (Gy (p:=p) (k:=p.length-1-j) (by omega))),.c [] (C5 (W9 _) (W9 _) (by omega) (by omega)),.c [] (Qb0 (W9 _) (W9 _) hm1 hm2),.c [] (C5 (W9 _) (W9 _) (by omega) (by omega)),.r 17 (eI (b:=(p.length:Int)-1-((j+1:Nat):Int)) (by omega))] rfl (by simp [W6] <;> omega) ?_;exact rd (j+1) (by omega) hlt rfl
 ·obtain rfl:j=p.length:=by omega
  exact en tt [.f (by simp; omega)] rfl rfl trivial
theorem No {p:List Int} (tp:Ud p) (hl:p.length<274877906944) (hp:Bd 4294967295 p):W8 Tryz.prog 259 [pr p] [.agg (Fi (p.getD (p.length-1) 0))]:=by
 have cn:=Gm tp hl hp;by_cases h0:p=[]
 ·subst h0;exact w tt Tryz.func259 rfl [.c [] cn,.t (by simp)] rfl (by simp [Dq]) trivial
 ·have hpl:0<p.length:=Jx.2 h0;exact w tt Tryz.func259 rfl [.c [] cn,.f (by simpa using h0),.r 12 (eI (b:=((p.length-1:Nat):Int)) (by simp; omega)),.x (Ru (Gy (by omega)))] rfl rfl (by simp [W6]; omega)
theorem Zhu {a b:Int} {q:Rat} (h1:a=q.num) (h2:b=(q.den:Int)):[sg a,mg a,sg b,mg b]=rl q:=by rw [h1,h2]
theorem Iz {n d:Int} (h0:d≠0) (hn:Uh n<=4294967295) (hd:Uh d<=4294967295):W8 Tryz.prog 163 [.agg (Fi n),.agg (Fi d)] [.agg (rl (Rat.divInt n d))]:=by
 have cg:=Q5t (U7 [n,d]) (λz hz=>by simp at hz; rcases hz with rfl | rfl <;> assumption);have gp:=Qsn (n:=n) h0;have gs:=Q0e (n:=n) h0 hd;have m1:=Qjz n d;have m2:=Qj0 n d;obtain ⟨g,hg⟩:=nmE (((Gh [n,d]:Nat):Int));rw [<-hg] at cg gp gs m1 m2;by_cases hneg:d<0
 ·obtain ⟨e1,e2⟩:=Zew (n:=n) hneg;rw [<-hg] at e1 e2;rw [<-Zhu e1 e2];exact w tt Tryz.func163 rfl [.c [] cg,.t (by simpa using hneg),.c [] (Qi0 (W9 n) hn),.c [] (Qi0 (W9 d) hd),.c [] (D9 (W9 _) (W9 _) (by rw [Gj]; exact hn) gs (by omega) (Q0y m1)),.c [] (D9 (W9 _) (W9 _) (by rw [Gj]; exact hd) gs (by omega) (Q0y m2))] rfl rfl trivial
 ·obtain ⟨e1,e2⟩:=Qpv (n:=n) (d:=d) (by omega);rw [<-hg] at e1 e2;rw [<-Zhu e1 e2];exact w tt Tryz.func163 rfl [.c [] cg,.f (by simpa using hneg),.c [] (D9 (W9 _) (W9 _) hn gs (by omega) m1),.c [] (D9 (W9 _) (W9 _) hd gs (by omega) m2)] rfl rfl trivial
theorem Qho {x y x' y':LV} {n d:Int} (h1:Gu x y n) (h2:Gu x' y' d) (hn:Uh n<=4294967295) (hd:Uh d<=4294967295):W8 Tryz.prog 117 [.agg [x,y,x',y']] [.agg (rl (Fx n d))]:=by
 have c1:=Ce h1 hn;have c2:=Ce h2 hd;obtain ⟨b,l,rfl,rfl,_⟩:=h1;obtain ⟨b',l',rfl,rfl,_⟩:=h2;by_cases h0:d=0
 ·have e:Fx n d=Rat.divInt n 1:=by unfold Fx; rw [if_pos h0]
  rw [e];exact w tt Tryz.func117 rfl [.c [] c2,.c [] Lx,.t (by simpa using h0),.c [] (Qvo (z:=1) (by decide)),.c [] c1,.c [] (Iz (by decide) hn (by decide))] rfl rfl trivial
 ·have e:Fx n d=Rat.divInt n d:=by unfold Fx; rw [if_neg h0]
  rw [e];exact w tt Tryz.func117 rfl [.c [] c2,.c [] Lx,.f (by simpa using h0),.c [] c1,.c [] (Iz h0 hn hd)] rfl rfl trivial
theorem Qi7 {q:Rat} (hq:Qs 4294967295 q):W8 Tryz.prog 117 [.agg (rl q)] [.agg (rl q)]:=by
 have:=Qho (W9 q.num) (W9 (q.den:Int)) hq.1 hq.2;rwa [Ie] at this
theorem Qox {a b:Rat} (ha:Qs 2147483647 a) (hb:Qs 2147483647 b):W8 Tryz.prog 164 [.agg (rl a),.agg (rl b)] [.agg (Fi (a.num*(b.den:Int))),.agg (Fi (b.num*(a.den:Int))),.agg (Fi ((a.den:Int)*(b.den:Int)))] :=
 w tt Tryz.func164 rfl [.c [] (Qi7 (ha.mono (by decide))),.c [] (Qi7 (hb.mono (by decide))),.c [] (C5 (W9 _) (W9 _) (Qd ha.1 (by decide)) (Qd hb.2 (by decide))),.c [] (C5 (W9 _) (W9 _) (Qd hb.1 (by decide)) (Qd ha.2 (by decide))),.c [] (C5 (W9 _) (W9 _) (Qd ha.2 (by decide)) (Qd hb.2 (by decide)))] rfl rfl trivial
theorem C6 {a b:Rat} (ha:Qs 2147483647 a) (hb:Qs 2147483647 b):W8 Tryz.prog 118 [.agg (rl a),.agg (rl b)] [.one (.int .i64 (Fy a b))] :=
 w tt Tryz.func118 rfl [.c [] (Qox ha hb),.c [] (Qe4 (W9 _) (W9 _) (Qd (Us _ _) (by have:=ha.1; have:=hb.2; omega)) (Qd (Us _ _) (by have:=hb.1; have:=ha.2; omega)))] rfl rfl trivial
theorem Q62 {x y x' y':LV} {n d:Int} (h1:Gu x y n) (h2:Gu x' y' d) (hn:Uh n<=4294967295) (hd:Uh d<=4294967295):W8 Tryz.prog 60 [.agg [x,y,x',y'],.one (.row [])] [.agg (rl (Fx n d))]:=by
 have c1:=Qho h1 h2 hn hd;obtain ⟨b,l,rfl,rfl,_⟩:=h1;obtain ⟨b',l',rfl,rfl,_⟩:=h2;refine Fv Tryz.func60 rfl ?_;refine go tt [.c [] c1] rfl trivial ?_;refine lp (S:=Unit) 3 (λL1 _=>(12,.v (.one (.int .i64 0)))::L1) (λ_=>[.blk 74 [.bool b,.row (lm l),.bool b',.row (lm l')],.blk 74 [.bool false,.nils,.bool false,.nils],.blk 74 (rl (Fx n d))]) (λ_=>0) (λ_=>True) () trivial rfl (λ_ _=>rfl) rfl λ_ _=>?_
 exact en tt [.f (by simp)] rfl rfl trivial
theorem Lc {q:Rat} (hq:Qs 4294967295 q):W8 Tryz.prog 60 [.agg (rl q),.one (.row [])] [.agg (rl q)]:=by
 have:=Q62 (W9 q.num) (W9 (q.den:Int)) hq.1 hq.2;rwa [Ie] at this
theorem Zdj {q:Rat} (hq:Qs 4294967295 q):W8 Tryz.prog 200 [.agg (rl q)] [.agg (rl q)]:=w tt Tryz.func200 rfl [.c [] (Lc hq)] rfl rfl trivial
theorem Qyz {p:List Int} {q:Rat} {s t:Nat} (tp:Ud p) (hl:p.length<274877906944) (hp:Bd s p) (hq:Qs t q) (hst:s+p.length*(t+1)+2*t+10<=4294967295):W8 Tryz.prog 159 [pr p,.agg (rl q)] [.one (.int .i64 (Ft p q))]:=by
 have cc:=Qe4 (W9 (Zfm p q.num q.den)) Nl (Qd (Qq5 hp hq.1 hq.2).1 (by omega)) (by decide);exact w tt Tryz.func159 rfl [.c [] (Zdj (hq.mono (by omega))),.c [] (Gm tp hl (W7 hp (by omega))),.c [] (Q57 hl hp hq.1 hq.2 hst),.c [] cc] rfl rfl trivial
theorem Q6s {p:List Int} {g:Int} (hl:p.length<274877906944) (hp:Bd 4294967295 p) (hg:Uh g≤4294967295) (h0:g≠0) (hd:∀ z∈p,z % g=0):W8 Tryz.prog 199 [pr p,.agg (Fi g)] [pr (trim (p.map (· / g)))]:=by
 refine Fv Tryz.func199 rfl ?_;refine go tt [.r 9 (eI (b:=(p.length:Int)) (by simp)),.i p.length,.i p.length,.r 12 (eI (b:=(p.length:Int)) (by simp))] rfl (by simp [W6]; omega) ?_;rw [De λk=>Fi (p.getD k 0 / g)];refine lp (S:=Nat) 2 (λL1 k=>(13,.v (.one (.int .i64 (k:Int))))::L1) (λk=>[.blk 55 (Fi g),.row false 55 2 (fil (λk=>Fi (p.getD k 0 / g)) [.bool false,.nils] p.length k)]) (λk=>p.length-k) (λk=>k<=p.length) 0 (Qg _) rfl (λ_ _=>rfl) rfl λk hk=>?_
 by_cases hlt:k<p.length
 ·have hg2:=Gy hlt;refine go tt [.t (by simp; omega),.x (Ru hg2),.c [] (D9 (W9 _) (W9 _) (Ul hp k) hg h0 (hd _ (Qa hg2))),.i k] rfl (by simp [W6,Ll]; omega) ?_;have e:=A5 (λk=>Fi (p.getD k 0 / g)) [.bool false,.nils] hlt;rw [e];exact rd (k+1) (by omega) hlt rfl
 ·obtain rfl:k=p.length:=by omega
  have e:fil (λk=>Fi (p.getD k 0 / g)) [.bool false,.nils] p.length p.length=(p.map (· / g)).map Fi:=by
   rw [A4];refine Xf λi=>?_
   by_cases hi:i<p.length
   ·simp [Xt hi,List.getD,Qe hi]
   ·simp [Qu,hi]
  rw [e];exact en tt [.f (by simp),.c [] (Cd (U7 (p.map (· / g))) (by simp; exact hl) (Qez hp g))] rfl rfl trivial
theorem Qks (p:List Int):∀ c∈p.map Fi,c.length=2:=Zhq p λ_=>rfl
theorem Qow {lx ly:List (List LV)} {px py:List Int} {x y:LV} {d:Int} (hx:IsInts lx px) (hy:IsInts ly py) (hd:Gu x y d) (hk:Cs 4294967294 1073741824 (Crv.mk px py d)):W8 Tryz.prog 157 [.agg [.row lx,.row ly,x,y]] [.agg (cl (Crv.norm (Crv.mk px py d)))]:=by
 have hlx:=hk.lx;have hly:=hk.ly;simp only at hlx hly;have htx:=Gs px;have hty:=Gs py;have hd1:Uh (Crv.mk px py d).d'<=4294967295:=Qd (Qpn hk.d (by omega)) (by omega);have hg1:=Crv.isz_g (Crv.mk px py d) hd1;have hg0:=Crv.g_ne (Crv.mk px py d);have hgd:=Crv.g_dvd (Crv.mk px py d);have cx:=Cd hx (by omega) (W7 hk.x (by omega));have cy:=Cd hy (by omega) (W7 hk.y (by omega));have cd:=Ce hd (Qd hk.d (by omega));have bx:Bd 4294967295 (trim px):=W7 (H4 hk.x) (by omega);have by_:Bd 4294967295 (trim py):=W7 (H4 hk.y) (by omega);obtain ⟨b,l,rfl,rfl,_⟩:=hd;obtain ⟨e,he⟩:=nmE ((Crv.mk px py d).d');obtain ⟨g,hgg⟩:=nmE ((Crv.mk px py d).g);obtain ⟨X,hX⟩:=nmE (trim px);obtain ⟨Y,hY⟩:=nmE (trim py);have hnorm:(Crv.mk px py d).norm=⟨trim (X.map (· / g)),trim (Y.map (· / g)),e / g⟩:=by rw [he,hgg,hX,hY]; rfl
 rw [hnorm];have hgdef:g=if e<0 then -((Gh (e::(X++Y)):Nat):Int) else (Gh (e::(X++Y)):Nat):=by rw [hgg,he,hX,hY]; rfl
 have hde:e=if d=0 then 1 else d:=by rw [he]; rfl
 simp only [<-he,<-hgg,<-hX,<-hY] at hd1 hg1 hg0 hgd htx hty cx cy bx by_;clear hnorm hgg he hX hY;refine Fv Tryz.func157 rfl ?_;refine go tt [.c [] cx,.c [] cy,.c [] cd,.c [] Lx] rfl trivial ?_;refine ct 1 (S:=Unit) (λ_=>[(2,.v (.one (.ow 1 0))),(3,.v (pr X)),(4,.v (pr Y)),(5,.v (.one (.ow 2 0)))]) (λ_=>[.blk 57 [.row lx,.row ly,.bool b,.row (lm l)],.blk 57 [.nils,.nils,.bool false,.nils],.blk 55 (Fi e)]) (λ_=>True) rfl ?_ ?_
 ·by_cases h0:d=0
  ·rw [hde,if_pos h0];exact go tt [.t (by simpa using h0),.c [] (Qvo (z:=1) (by decide))] rfl trivial (rc () trivial rfl)
  ·rw [hde,if_neg h0];exact go tt [.f (by simpa using h0)] rfl trivial (rc () trivial rfl)
 ·intro _ _;have hgi:IsInts ([Fi e]++X.map Fi++Y.map Fi) (e::(X++Y)):=by
   have:=U7 (e::(X++Y));simpa using this
  have hgs:∀ z∈e::(X++Y),Uh z≤4294967295:=λz hz=>by
   rcases Qo.1 hz with rfl | hz
   ·exact hd1
   ·rcases Qx.1 hz with hz | hz
    ·exact bx z hz
    ·exact by_ z hz
  have cg:=Q5t hgi hgs;have co1:=Q6s (p:=X) (by omega) bx hg1 hg0 λz hz=>hgd z (Qi _ (Kt _ hz))
  have co2:=Q6s (p:=Y) (by omega) by_ hg1 hg0 λz hz=>hgd z (Qi _ (Kj _ hz))
  have ce:=D9 (W9 e) (W9 g) hd1 hg1 hg0 (hgd e (Qt ..));have hszg:=Qhy hgs;by_cases hneg:e<0
  ·rw [if_pos hneg] at hgdef;have cn:=Qi0 (W9 ((Gh (e::(X++Y)):Nat):Int)) hszg;rw [<-hgdef] at cn;exact en tt [.lo,.s (Qks X),.s (Qks Y),.c [] cg,.t (by simpa using hneg),.c [] cn,.c [] ce,.c [] co1,.c [] co2] rfl rfl (by simp [W6]; omega)
  ·rw [if_neg hneg] at hgdef;rw [<-hgdef] at cg;exact en tt [.lo,.s (Qks X),.s (Qks Y),.c [] cg,.f (by simpa using hneg),.c [] ce,.c [] co1,.c [] co2] rfl rfl (by simp [W6]; omega)
theorem Qrp {k:Crv} (hn:Nml k) (hk:Cs 4294967294 1073741824 k):W8 Tryz.prog 157 [.agg (cl k)] [.agg (cl k)]:=by
 have h:=Qow (U7 k.x) (U7 k.y) (W9 k.d) hk;rw [Crv.norm_of hn] at h; exact h
theorem Qov {lx ly:List (List LV)} {px py:List Int} {x y:LV} {d:Int} (hx:IsInts lx px) (hy:IsInts ly py) (hd:Gu x y d) (hk:Cs 4294967294 1073741824 (Crv.mk px py d)) (h0:d≠0):W8 Tryz.prog 188 [.one (.row lx),.one (.row ly),.agg [x,y]] [.agg (cl (Crv.norm (Crv.mk px py d))),.one (.int .i64 0)]:=by
 have cd:=Ce hd (Qd hk.d (by omega));have cn:=Qow hx hy hd hk;obtain ⟨b,l,rfl,rfl,_⟩:=hd;exact w tt Tryz.func188 rfl [.c [] cd,.c [] Lx,.f (by simpa using h0),.c [] cn] rfl rfl trivial
theorem Zlw {lx ly:List (List LV)} {px py:List Int} (hx:IsInts lx px) (hy:IsInts ly py) (hk:Cs 4294967294 1073741824 (Crv.mk px py 0)):W8 Tryz.prog 113 [.one (.row lx),.one (.row ly)] [.agg (cl (Crv.norm (Crv.mk px py 0)))] :=
 w tt Tryz.func113 rfl [.c [] (Qow hx hy Nl hk)] rfl rfl trivial
def Qn8 (x y:Int):Crv:=Crv.norm ⟨trim [x],trim [y],0⟩
theorem Qr4 {x y:Int} (hx:-9223372036854775808<=x/\x<=9223372036854775807) (hy:-9223372036854775808<=y/\y<=9223372036854775807):Cs 64 1 ⟨trim [x],trim [y],0⟩:=by
 have key:∀ z:Int,-9223372036854775808<=z/\z<=9223372036854775807->Uh z<=64:=λz hz=>by
  rw [Rl];have:(2:Nat)^64=18446744073709551616:=by decide
  omega
 refine ⟨H4 λz hz=>?_,H4 λz hz=>?_,Qg _,Gs [x],Gs [y]⟩
 ·rw [Qm] at hz; rw [hz]; exact key x hx
 ·rw [Qm] at hz; rw [hz]; exact key y hy
theorem Qhn {x y:Int} (hx:-9223372036854775808<=x/\x<=9223372036854775807) (hy:-9223372036854775808<=y/\y<=9223372036854775807):W8 Tryz.prog 57 [.one (.int .i64 x),.one (.int .i64 y)] [.agg (cl (Qn8 x y))] :=
 w tt Tryz.func57 rfl [.c [] (Qyy (p:=[x]) (show 1<274877906944 by decide) (by intro z hz; rw [Qm] at hz; rw [hz]; exact hx)),.c [] (Qyy (p:=[y]) (show 1<274877906944 by decide) (by intro z hz; rw [Qm] at hz; rw [hz]; exact hy)),.c [] (Zlw (U7 _) (U7 _) ((Qr4 hx hy).mono (by omega) (by omega)))] rfl rfl trivial
theorem Zdc {a b:Crv} (ha:Nml a) (hb:Nml b) (ca:Cs 4294967294 1073741824 a) (cb:Cs 4294967294 1073741824 b):W8 Tryz.prog 166 [.agg (cl a),.agg (cl b)] [.one (.bool (Ep a b))]:=by
 have na:=Qrp ha ca;have nb:=Qrp hb cb;have alx:=ca.lx;have aly:=ca.ly;have blx:=cb.lx;have bly:=cb.ly;have sx:=Qot (p:=a.x) (q:=b.x) (by omega) (by omega) (W7 ca.x (by omega)) (W7 cb.x (by omega));have sy:=Qot (p:=a.y) (q:=b.y) (by omega) (by omega) (W7 ca.y (by omega)) (W7 cb.y (by omega));have sd:=Qe4 (W9 a.d) (W9 b.d) (Qd ca.d (by omega)) (Qd cb.d (by omega));rw [ha.1,hb.1] at sx;rw [ha.2.1,hb.2.1] at sy;by_cases h1:a.x=b.x
 ·by_cases h2:a.y=b.y
  ·exact w tt Tryz.func166 rfl [.c [] na,.c [] nb,.c [] sx,.t (by simpa using h1),.c [] sy,.t (by simpa using h2),.c [] sd] rfl (by simp [Ep,h1,h2,Qo4]) trivial
  ·exact w tt Tryz.func166 rfl [.c [] na,.c [] nb,.c [] sx,.t (by simpa using h1),.c [] sy,.f (by simpa using h2)] rfl (by simp [Ep,h1,h2]) trivial
 ·exact w tt Tryz.func166 rfl [.c [] na,.c [] nb,.c [] sx,.f (by simpa using h1),.f rfl] rfl (by simp [Ep,h1]) trivial
theorem Gq {l:List Pt} {i:Nat} {p:Pt} (h:l[i]? = some p):(l.map Fw)[i]? = some [pl p.c.x,pl p.c.y,sg p.c.d,mg p.c.d,.int .i64 p.id]:=Ff h
theorem Af (l:List Pt):∀ c∈l.map Fw,c.length=5:=Zhq l λ_=>rfl
theorem Qy7 {lx ly:List (List LV)} {px py:List Int} {x y:LV} {d:Int} (hx:IsInts lx px) (hy:IsInts ly py) (hd:Gu x y d) (hk:Cs 4294967294 1073741824 (Crv.mk px py d)) (id:Int):W8 Tryz.prog 148 [.agg [.row lx,.row ly,x,y,.int .i64 id]] [.agg (Fw ⟨Crv.norm (Crv.mk px py d),id⟩)]:=by
 have cd:=Ce hd (Qd hk.d (by omega));by_cases h0:d=0
 ·subst h0;have ck:Cs 4294967294 1073741824 (Crv.mk px py 1):=⟨hk.x,hk.y,show Uh 1<=4294967294 by decide,hk.lx,hk.ly⟩;have cm:=Qov hx hy (W9 1) ck (by decide);have e:Crv.norm (Crv.mk px py 1)=Crv.norm (Crv.mk px py 0):=by simp only [Crv.norm,Crv.g,Crv.d']; rfl
  rw [e] at cm;obtain ⟨b,l,rfl,rfl,_⟩:=hd;exact w tt Tryz.func148 rfl [.c [] cd,.c [] Lx,.t (by simp),.c [] (Qvo (z:=1) (by decide)),.c [] cm] rfl rfl trivial
 ·have cm:=Qov hx hy hd hk h0;obtain ⟨b,l,rfl,rfl,_⟩:=hd;exact w tt Tryz.func148 rfl [.c [] cd,.c [] Lx,.f (by simpa using h0),.c [] cm] rfl rfl trivial
theorem Qy3 {l:List Pt} (id:Int) (hl:l.length<1073741824):W8 Tryz.prog 147 [.agg [pts l],.one (.int .i64 id)] [.one (.int .i64 (Lq l id:Int)),.one (.bool (has l id))]:=by
 refine Fv Tryz.func147 rfl ?_;refine go tt [] rfl trivial ?_;refine ct 2 (S:=Unit) (λ_=>[(1,.v (.one (.int .i64 id))),(2,.v (.one (.ow 0 0))),(6,.v (.one (.int .i64 (Lq l id:Int))))]) (λ_=>[.blk 84 [pts l]]) (λ_=>True) rfl ?_ ?_
 ·refine lp (S:=Nat) 1 (λL1 k=>(6,.v (.one (.int .i64 (k:Int))))::L1) (λ_=>[.blk 84 [pts l]]) (λk=>l.length-k) (λk=>k<=l.length/\∀ j p,j<k->l[j]? = some p->p.id<id) 0 ⟨Qg _,λj p h=>by omega⟩ rfl (λ_ _=>rfl) rfl λk ⟨hk,hlt⟩=>?_
  by_cases h:k<l.length
  ·obtain ⟨p,hp⟩:=gxE (l:=l) (i:=k) h;by_cases hid:p.id<id
   ·refine go tt [.t (by simp; omega),.x (Gq hp),.t (by simpa using hid)] rfl (by simp [W6]; omega) ?_;exact rd (k+1) (by omega) ⟨h,λj q hj hq=>by
     rcases Q9 j k with h2 | h2
     ·exact hlt j q h2 hq
     ·have:j=k:=by omega
      subst this; rw [hp] at hq; injection hq with hq; rw [<-hq]; exact hid⟩ rfl
   ·have e:=Qky hlt (.inr ⟨p,hp,hid⟩);refine go tt [.t (by simp; omega),.x (Gq hp),.f (by simpa using hid)] rfl trivial ?_;rw [e];exact rc () trivial rfl
  ·obtain rfl:k=l.length:=by omega
   have e:=Qky hlt (.inl rfl);refine go tt [.f (by simp),.f rfl] rfl trivial ?_;rw [e];exact rc () trivial rfl
 ·intro _ _;by_cases h:Lq l id<l.length
  ·obtain ⟨p,hp⟩:=gxE (l:=l) (i:=Lq l id) h;have e:has l id=decide (p.id=id):=by simp [has,hp]
   rw [e];exact en tt [.g 30 true (by simp; omega),.x (Gq hp)] rfl rfl trivial
  ·have e:has l id=false:=by simp [has,Qu (Y0 h)]
   rw [e];exact en tt [.g 30 false (by simp; omega)] rfl rfl trivial
theorem Q56 {lx ly:List (List LV)} {px py:List Int} {x y:LV} {d id:Int} {l:List Pt} (hx:IsInts lx px) (hy:IsInts ly py) (hd:Gu x y d) (hk:Cs 4294967294 1073741824 (Crv.mk px py d)) (hl:l.length<=1000000) :
 W8 Tryz.prog 90 [.agg [pts l],.agg [.row lx,.row ly,x,y,.int .i64 id]] [.agg [pts (if Ds l (Pt.mk (Crv.norm (Crv.mk px py d)) id)=0 then put l (Pt.mk (Crv.norm (Crv.mk px py d)) id) else l)],.one (.int .i64 (Ds l (Pt.mk (Crv.norm (Crv.mk px py d)) id)))]:=by
 have ca:=Qy3 (l:=l) id (by omega);have cf:=Qy7 hx hy hd hk id;obtain ⟨b,r,rfl,rfl,_⟩:=hd;obtain ⟨q,hq⟩:=nmE (Pt.mk (Crv.norm (Crv.mk px py d)) id);have hqi:q.id=id:=by rw [hq]
 rw [<-hq] at cf ⊢;have hpl:=Q9y l id;by_cases h1:has l id=true
 ·have e:Ds l q=6:=by simp [Ds,hqi,h1]
  rw [e,if_neg (by decide)];exact w tt Tryz.func90 rfl [.c [] ca,.t h1] rfl rfl trivial
 by_cases h2:6<=l.length
 ·have e:Ds l q=9:=by simp [Ds,hqi,h1,h2]
  rw [e,if_neg (by decide)];exact w tt Tryz.func90 rfl [.c [] ca,.f (by simpa using h1),.t (by simp; omega)] rfl rfl trivial
 have e:Ds l q=0:=by simp [Ds,hqi,h1,h2]
 rw [e,if_pos rfl];have s1:∀ c∈(l.map Fw).take (Lq l id),c.length=5:=λc hc=>Af l c (Ql hc)
 have s3:∀ c∈(l.map Fw).drop (Lq l id),c.length=5:=λc hc=>Af l c (Qz hc)
 refine w tt Tryz.func90 rfl [.c [] ca,.f (by simpa using h1),.f (by simp; omega),.i (Lq l id),.s s1,.c [] cf,.i (Lq l id),.s s3] rfl ?_ ?_
 ·simp [put,hqi,pts,Ye,Wd,Fw]
 ·simp [W6];exact ⟨by omega,hpl,λ_ _=>rfl,by omega,by omega,hpl⟩
theorem Q9e:∀ (qs:List Pt),(Rm [] qs).1.length<=qs.length:=by
 have key:∀ (qs acc:List Pt),(Rm acc qs).1.length<=acc.length+qs.length:=by
  intro qs
  induction qs with
  | nil=>intro acc; simp [Rm]
  |
   cons q qs ih =>
   intro acc;simp only [Rm]
   split
   ·have:=ih (put acc q); rw [Q1k] at this; simp only [Q7]; omega
   ·simp
 intro qs;have:=key qs [];simpa using this
theorem Zlo {zs:List (List LV)} {qs:List Pt} (hz:IsPts 4294967294 1073741824 zs qs) (hl:qs.length<=6):W8 Tryz.prog 96 [.one (.row zs)] [.agg [pts (Rm [] qs).1],.one (.int .i64 (Rm [] qs).2)]:=by
 refine Fv Tryz.func96 rfl ?_;have hzl:=hz.len;refine go tt [.f (by simp; omega)] rfl trivial ?_;refine nlb 1 rfl rfl rfl ?_;refine lp (S:=Nat) 2 (λL1 i=>(14,.v (.one (.int .i64 (i:Int))))::L1) (λi=>[.blk 84 [.nils],.blk 84 [pts (Rm [] (qs.take i)).1]]) (λi=>qs.length-i) (λi=>i<=qs.length/\(Rm [] (qs.take i)).2=0) 0 ⟨Qg _,rfl⟩ rfl (λ_ _=>rfl) rfl λi ⟨hi,h0⟩=>?_
 by_cases hlt:i<qs.length
 ·have hqi:qs[i]? = some qs[i]:=Qe hlt;obtain ⟨z,hzi,lx,ly,b,r,px,py,d,rfl,hx,hy,hd,hk,hc⟩:=hz.get hqi;have hq:(Pt.mk (Crv.norm (Crv.mk px py d)) qs[i].id)=qs[i]:=by rw [<-hc]
  have hst:=Q31 [] qs hqi (by rw [<-h0]);have hnl:=Q9e (qs.take i);have cp:=Q56 (l:=(Rm [] (qs.take i)).1) (id:=qs[i].id) hx hy hd hk (by rw [Qp] at hnl; omega);rw [hq] at cp;by_cases he:Ds (Rm [] (qs.take i)).1 qs[i]=0
  ·rw [if_pos he] at hst;rw [he,if_pos rfl] at cp;refine go tt [.t (by simp; omega),.x hzi,.c [] cp,.f rfl] rfl (by simp [W6]; omega) ?_;exact rd (i+1) (by omega) ⟨hlt,by rw [hst]⟩ (by rw [hst]; rfl)
  ·rw [if_neg he] at hst;have herr:=Q9d [] qs he hst;rw [herr];exact en tt [.t (by simp; omega),.x hzi,.c [] cp,.t (by simpa using he)] rfl rfl trivial
 ·obtain rfl:i=qs.length:=by omega
  rw [Q4] at h0;rw [Q4,h0];exact en tt [.f (by simp; omega)] rfl rfl trivial
theorem Q6h {l:List Pt} (hok:∀ p∈l,Qu5 4294967294 1073741824 p) (hl:l.length<1073741824):W8 Tryz.prog 119 [.agg [pts l]] [.one (pts (D3 l))]:=by
 refine Fv Tryz.func119 rfl ?_;refine go tt [.o 3 114 5] rfl trivial ?_;refine lp (S:=Nat) 2 (λL1 i=>(12,.v (.one (.int .i64 (i:Int))))::(3,.v (.one (.orow 1 5 none)))::L1) (λi=>[.blk 84 [pts l],.row false 114 5 (((l.take i).foldl D4 []).map Fw)]) (λi=>l.length-i) (λi=>i<=l.length) 0 (Qg _) rfl (λ_ _=>rfl) rfl λi hi=>?_
 by_cases hlt:i<l.length
 ·obtain ⟨p,hp⟩:=gxE (l:=l) (i:=i) hlt;obtain ⟨hn,hk⟩:=hok p (Qa hp);have hws:=Hh D4 [] l hp;have hwl:=Qbw l i;have hwm:=Qbx l i;obtain ⟨o,ho⟩:=nmE ((l.take i).foldl D4 []);rw [<-ho] at hws hwl hwm ⊢;refine go tt [.t (by simp; omega),.x (Gq hp)] rfl trivial ?_;refine lp (S:=Nat) 3 (λL1 k=>(18,.v (.one (.int .i64 (k:Int))))::(6,.v (.one (.bool ((o.take k).any λq=>Ep p.c q.c))))::L1) (λk=>[.blk 84 [pts l],.row false 114 5 (o.map Fw),.blk 114 (Fw p)]) (λk=>o.length-k) (λk=>k<=o.length) 0 (Qg _) rfl (λ_ _=>rfl) rfl λk hk2=>?_
  by_cases hk3:k<o.length
  ·obtain ⟨q,hq⟩:=gxE (l:=o) (i:=k) hk3;obtain ⟨hqn,hqk⟩:=hok q (hwm q (Qa hq));have hany:((o.take (k+1)).any λq=>Ep p.c q.c)=(((o.take k).any λq=>Ep p.c q.c) || Ep p.c q.c):=by rw [Yd,hq,List.any_append]; simp
   cases hb:(o.take k).any λq=>Ep p.c q.c with
   |
    true =>
    rw [hb] at hany;refine go tt [.t (by simp; omega),.i k,.x (Gq hq),.t rfl,.r 29 (v:=.one (.bool ((o.take (k+1)).any λq=>Ep p.c q.c))) (by rw [hany]; rfl)] rfl (by simp [W6]; omega) ?_;exact rd (k+1) (by omega) hk3 rfl
   |
    false =>
    rw [hb] at hany;refine go tt [.t (by simp; omega),.i k,.x (Gq hq),.f rfl,.c [] (Zdc hn hqn hk hqk),.r 29 (v:=.one (.bool ((o.take (k+1)).any λq=>Ep p.c q.c))) (by rw [hany]; rfl)] rfl (by simp [W6]; omega) ?_;exact rd (k+1) (by omega) hk3 rfl
  ·obtain rfl:k=o.length:=by omega
   rw [Q4];cases hb:o.any λq=>Ep p.c q.c with
   |
    true =>
    have e:D4 o p=o:=by unfold D4; rw [if_pos hb]
    exact go tt [.f (by simp),.f rfl] rfl (by simp [W6]; omega) (rd (i+1) (by omega) hlt (by rw [hws,e]; rfl))
   |
    false =>
    have e:D4 o p=o++[p]:=by unfold D4; rw [if_neg (by rw [hb]; decide)]
    exact go tt [.f (by simp),.t rfl] rfl (by simp [W6]; omega) (rd (i+1) (by omega) hlt (by rw [hws,e,Xx]; rfl))
 ·obtain rfl:i=l.length:=by omega
  exact en tt [.f (by simp)] rfl (by rw [Q4]; rfl) trivial
theorem Q12 (q:Rat):Ud [-q.num,(q.den:Int)]:=by
 have:=q.den_nz;simp [Ud,trim,this]
theorem Zli {s:Nat} {q:Rat} (h:Qs s q):Bd s [-q.num,(q.den:Int)]:=λz hz=>by
 simp at hz;rcases hz with rfl | rfl
 ·rw [Gj]; exact h.1
 ·exact h.2
theorem Zg5 {x y x' y':LV} {n d:Int} (h1:Gu x y n) (h2:Gu x' y' d) (hn:Uh n<=4294967295) (hd:Uh d<=4294967295) (hq:Qs 4294967295 (Fx n d)):W8 Tryz.prog 70 [.agg [x,y,x',y']] [.agg (qa (Fx n d))]:=by
 have c1:=Q62 h1 h2 hn hd;obtain ⟨b,l,rfl,rfl,_⟩:=h1;obtain ⟨b',l',rfl,rfl,_⟩:=h2;exact w tt Tryz.func70 rfl [.c [] c1,.c [] (Qi0 (W9 _) hq.1),.c [] (Lc hq)] rfl rfl trivial
theorem Qza {k:Crv} (hn:Nml k) (hk:Cs 4294967294 1073741824 k):W8 Tryz.prog 207 [.agg (cl k)] [.agg (cl k)]:=by
 have h0:k.d≠0:=by have:=hn.2.2.1; omega
 have cm:=Qov (U7 k.x) (U7 k.y) (W9 k.d) hk h0;rw [show Crv.mk k.x k.y k.d=k from rfl,Crv.norm_of hn] at cm;exact w tt Tryz.func207 rfl [.c [] (Ce (W9 k.d) (Qd hk.d (by omega))),.c [] Lx,.f (by simpa using h0),.c [] cm] rfl rfl trivial
def Tk (ps:List (List Int)):List (List LV):=ps.map λp=>[pl p]
theorem Hw {ps:List (List Int)} {i:Nat} {p:List Int} (h:ps[i]? = some p):(Tk ps)[i]? = some [pl p]:=Ff h
theorem Q2w:W8 Tryz.prog 167 [.one (.int .i64 3)] [.one (.int .i64 3)]:=w tt Tryz.func167 rfl [.f rfl,.f rfl,.t rfl] rfl rfl trivial
theorem Q2x:W8 Tryz.prog 167 [.one (.int .i64 4)] [.one (.int .i64 4)]:=w tt Tryz.func167 rfl [.f rfl,.f rfl,.f rfl,.t rfl,.t rfl] rfl rfl trivial
theorem Q5w {k i0 i1 i2 i3 l j0 j1 j2 j3:Int}:W8 Tryz.prog 125 [.agg [.int .i64 k,.int .i64 i0,.int .i64 i1,.int .i64 i2,.int .i64 i3],.agg [.int .i64 l,.int .i64 j0,.int .i64 j1,.int .i64 j2,.int .i64 j3]] [.one (.bool (Hb [k,i0,i1,i2,i3] [l,j0,j1,j2,j3]))]:=by
 by_cases hk:k=l
 ·subst hk;rw [show Hb [k,i0,i1,i2,i3] [k,j0,j1,j2,j3]=Hb [i0,i1,i2,i3] [j0,j1,j2,j3] from by simp [Hb]];refine Fv Tryz.func125 rfl ?_;refine go tt [.f (by simp)] rfl trivial ?_;refine lp (S:=Nat) 2 (λL1 i=>(19,.v (.one (.int .i64 (i:Int))))::L1) (λ_=>[.blk 97 [.int .i64 k,.int .i64 i0,.int .i64 i1,.int .i64 i2,.int .i64 i3],.blk 97 [.int .i64 k,.int .i64 j0,.int .i64 j1,.int .i64 j2,.int .i64 j3]]) (λi=>4-i) (λi=>i<=4/\Hb ([i0,i1,i2,i3].drop i) ([j0,j1,j2,j3].drop i)=Hb [i0,i1,i2,i3] [j0,j1,j2,j3]) 0 ⟨by omega,rfl⟩ rfl (λ_ _=>rfl) rfl λi ⟨hi,he⟩=>?_
  rw [<-he];rcases (show i=0\/i=1\/i=2\/i=3\/i=4 by omega) with rfl | rfl | rfl | rfl | rfl
  ·by_cases h:i0=j0
   ·exact go tt [.t rfl,.i 0,.i 0,.f (by simpa using h)] rfl (by simp [W6]) (rd 1 (by omega) ⟨by omega,by simp [Hb,h]⟩ rfl)
   ·exact en tt [.t rfl,.i 0,.i 0,.t (by simpa using h),.i 0] rfl (by simp [Hb,h]) trivial
  ·by_cases h:i1=j1
   ·exact go tt [.t rfl,.i 1,.i 1,.f (by simpa using h)] rfl (by simp [W6]) (rd 2 (by omega) ⟨by omega,by simp [Hb,h]⟩ rfl)
   ·exact en tt [.t rfl,.i 1,.i 1,.t (by simpa using h),.i 1] rfl (by simp [Hb,h]) trivial
  ·by_cases h:i2=j2
   ·exact go tt [.t rfl,.i 2,.i 2,.f (by simpa using h)] rfl (by simp [W6]) (rd 3 (by omega) ⟨by omega,by simp [Hb,h]⟩ rfl)
   ·exact en tt [.t rfl,.i 2,.i 2,.t (by simpa using h),.i 2] rfl (by simp [Hb,h]) trivial
  ·by_cases h:i3=j3
   ·exact go tt [.t rfl,.i 3,.i 3,.f (by simpa using h)] rfl (by simp [W6]) (rd 4 (by omega) ⟨by omega,by simp [Hb,h]⟩ rfl)
   ·exact en tt [.t rfl,.i 3,.i 3,.t (by simpa using h),.i 3] rfl (by simp [Hb,h]) trivial
  ·exact en tt [.f rfl] rfl (by simp [Hb]) trivial
 ·exact w tt Tryz.func125 rfl [.t (by simpa using hk)] rfl (by simp [Hb,hk]) trivial
abbrev zCt:List LV:=[.int .i64 0,.int .i64 0,.int .i64 0,.int .i64 0,.int .i64 0,.nils,.int .i64 0]
def Ur (l:List Ct):List (List LV):=l.map Qdt
theorem Qe9 {l:List Ct} {i:Nat} {c:Ct} (h:l[i]? = some c):(Ur l)[i]? = some (Qdt c):=Ff h
theorem Mh (l:List Ct):(Ur l).length=l.length:=by simp [Ur]
theorem Q7i (l:List Ct):∀ c∈Ur l,c.length=7:=λc hc=>by
 obtain ⟨x,_,rfl⟩:=Zc.1 hc; rfl
theorem Q8s {O:List Ct} {z:List LV} {c:Ct} {k m:Nat} {l2:List (List LV)} (hk:k<=O.length) (hp:O1 O c O.length=k) (hm:m=O.length-k) (h2:l2.take m=((Ur O++[z]).drop k).take m) :
 ((Ur O++[z]).take (k+1)++(l2.take m++(Ur O++[z]).drop (k+1+m))).set k (Qdt c)=Ur (Qb8 O c):=by
 rw [h2,<-Ze,Qsx (Ur O) z (Qdt c) (by rw [Mh]; omega) (by rw [Mh]; omega)];simp [Qb8,hp,Ur,Ye,Wd]
theorem Qvt {l:List Ct} (hl:∀ c∈l,Pb c.p) (hn:l.length≤1000000):W8 Tryz.prog 66 [.one (.row (Ur l))] [.one (.row (Ur (Uz l)))]:=by
 have hcl:=Mh l;refine Fv Tryz.func66 rfl ?_;refine go tt [.o 3 99 7] rfl trivial ?_;refine lp (S:=Nat) 1 (λL1 i=>(9,.v (.one (.int .i64 (i:Int))))::(3,.v (.one (.orow 0 7 none)))::L1) (λi=>[.row false 99 7 (Ur (Uz (l.take i)))]) (λi=>l.length-i) (λi=>i<=l.length) 0 (Qg _) rfl (λ_ _=>rfl) rfl λi hi=>?_
 by_cases hlt:i<l.length
 ·obtain ⟨c,hc⟩:=gxE (l:=l) (i:=i) hlt;have hst:=Qx3 hc;have hcp:=hl c (Qa hc);obtain ⟨O,hO⟩:=nmE (Uz (l.take i));have hOl:O.length=i:=by rw [hO,Cz,Qp]; omega
  rw [<-hO] at hst ⊢;refine go tt [.t (by simp [hcl]; omega),.x (Qe9 hc)] rfl trivial ?_;refine lp (S:=Nat) 2 (λL1 k=>(6,.v (.one (.int .i64 (k:Int))))::L1) (λk=>[.row false 99 7 (Ur O),.blk 99 (Qdt c)]) id (λk=>k<=O.length/\O1 O c k=O1 O c O.length) (Ur O).length ⟨by rw [Mh]; exact Qn _,by rw [Mh]⟩ rfl (λ_ _=>rfl) rfl λk ⟨hk,hp⟩=>?_
  have hz:∀ y∈[zCt],y.length=7:=λy hy=>by rw [Qm.1 hy]; rfl
  have h77:∀ y∈Ur O++[zCt],y.length=7:=λy hy=>by
   rcases Qx.1 hy with hy | hy
   ·exact Q7i O y hy
   ·exact hz y hy
  cases k with
  |
   zero =>
   have hp:O1 O c O.length=0:=by rw [<-hp]; rfl
   refine go tt [.g 17 false (by simp),.f rfl,.s (sz:=7) hz,.r 36 (eI (b:=((0+1:Nat):Int)) (by simp)),.i (0+1),.i (0),.s (sz:=7) (λy hy=>h77 y (Ql hy)),.i (O.length),.c [] (Gm hcp.t (by have:=hcp.l; omega) (W7 hcp.b (by omega))),.i (0)] rfl (by simp [W6,Mh]; omega) ?_;exact rd (i+1) (by omega) hlt (by rw [hst,<-Q8s (z:=zCt) (l2:=(Ur O++[zCt]).take ((Ur O++[zCt]).length-0)) (k:=0) (m:=O.length) (by omega) hp (by omega) (by congr 1; exact Qj (by simp))]; rfl)
  |
   succ k =>
   obtain ⟨x,hx⟩:=gxE (l:=O) (i:=k) (by omega);by_cases hlc:M8 c x=true
   ·refine go tt [.g 17 true (by simp),.r 22 (eI (b:=(k:Int)) (by simp)),.i k,.x (Qe9 hx),.c [] Q5w,.t hlc,.r 29 (eI (b:=(k:Int)) (by simp))] rfl (by simp [W6,Mh]; omega) ?_;exact rd k (by simp) ⟨by omega,by rw [<-hp,Zfe hx hlc]⟩ rfl
   ·have hlc:M8 c x=false:=by simpa using hlc
    have hp:O1 O c O.length=k+1:=by rw [<-hp,Q9x hx hlc]
    refine go tt [.g 17 true (by simp),.r 22 (eI (b:=(k:Int)) (by simp)),.i k,.x (Qe9 hx),.c [] Q5w,.f hlc,.s (sz:=7) hz,.r 36 (eI (b:=((k+1+1:Nat):Int)) (by simp)),.i (k+1+1),.i (k+1),.s (sz:=7) (λy hy=>h77 y (Qz (Ql hy))),.i (O.length-(k+1)),.c [] (Gm hcp.t (by have:=hcp.l; omega) (W7 hcp.b (by omega))),.i (k+1)] rfl (by simp [W6,Mh]; omega) ?_;exact rd (i+1) (by omega) hlt (by rw [hst,<-Q8s (z:=zCt) (l2:=((Ur O++[zCt]).drop (k+1)).take ((Ur O++[zCt]).length-(k+1))) (k:=k+1) (m:=O.length-(k+1)) (by omega) hp (by omega) (by congr 1; exact Qj (by simp))]; rfl)
 ·obtain rfl:i=l.length:=by omega
  rw [Q4];exact en tt [.f (by simp [hcl])] rfl rfl trivial
end Orr
namespace Orr
def Um (p:List Int):Int:=p.getD (p.length-1) 0
def chk (p:List Int):Option (List Int):=if p.length<=64/\(p.all λz=>Nat.ble (Uh z) 16777216)=true then some p else none
def chq (q:Rat):Option Rat:=if Uh q.num<=16777216/\Uh (q.den:Int)<=16777216 then some q else none
def Rq (p:List Int):Int:=(Gh p:Nat)
def Nb (p:List Int) (c:Int):List Int:=trim (p.map (· / c))
def Ga (p:List Int):Int:=if Um p<0 then -Rq p else Rq p
def Ui (p:List Int):List Int:=if p.length=0 then [] else Nb p (Ga p)
def mono (i:Nat) (x:Int):List Int:=List.replicate i 0++[x]
def psd (b:List Int) (c:Int):Nat->List Int×List Int->List Int×List Int
 | 0,s=>s
 |
  i+1,(q,r) =>
  psd b c i (D6 (U3 q c) (mono i (if r.length=b.length+i then Um r else 0)),S9 (U3 r c) (Uo (trim (mono i (if r.length=b.length+i then Um r else 0))) b))
def Tq (a b:List Int):List Int:=(psd b (Um b) (a.length+1-b.length) ([],a)).2
def P9 (a b r:List Int):List Int:=if (a.length+1-b.length) % 2=1/\Um b<0 then Tg r else r
def Qbo (r:List Int):List Int:=if r.length=0 then [] else Nb r (Rq r)
def He (a b:List Int):List Int:=Qbo (P9 a b (Tq a b))
def Qp5 (b:List Int):Nat->List Int->List Int->Option (List Int)
 | 0,a,q=>if a.length=0 then some q else none
 | i+1,a,q=>if a.length<b.length+i then Qp5 b i a q else if Um a % Um b=0 then Qp5 b i (S9 a (Uo (trim (mono i (Um a / Um b))) b)) (q.set i (Um a / Um b)) else none
def O2 (a b:List Int):Option (List Int):=if b.length=0 then none else (Qp5 b (a.length+1-b.length) a (List.replicate (a.length+1-b.length) 0)).bind λq=>chk (trim q)
def Qgb:Nat->List Int->List Int->Option (List Int)
 | 0,_,_=>none
 | k+1,a,b=>if b.length=0 then some a else (chk (He a b)).bind λr=>Qgb k b r
def O4 (a b:List Int):Option (List Int):=(Qgb 66 (Ui a) (Ui b)).map Ui
def Qp7 (a b:List Int):Option (List Int):=(O4 [] a).bind λg=>O4 g b
def Tl (a:List Int):Option (List Int):=if (Ui a).length<2 then some (Ui a) else (chk (U8 (Ui a))).bind λd=>(O4 (Ui a) d).bind λg=>O2 (Ui a) g
def Qfq:Nat->List Int->Option (List (List Int))
 | 0,_=>none
 | k+1,g=>if g.length<2 then some [] else (chk (U8 g)).bind λd=>(O4 g d).bind λh=>(O2 g h).bind λw=>(Qfq k h).bind λl=>some (w::l)
def Qlw:List (List Int)->Option (List (List Int))
 | []=>some []
 | [w]=>some [w]
 | w::v::l=>(O2 w v).bind λf=>(Qlw (v::l)).bind λr=>some (f::r)
def Qds:Nat->List Int->List (List Int)->Option (List Int)
 | _,p,[]=>some p
 | i,p,f::l=>if i % 2=0 then (chk (Uo p f)).bind λq=>Qds (i+1) q l else Qds (i+1) p l
def Qxc (a:List Int):Option (List Int):=if (Ui a).length=0 then some [] else (Qfq 66 (Ui a)).bind λl=>(Qlw l).bind λfs=>Qds 0 [1] fs
def chF:Nat->List Int->List Int->Option (List (List Int))
 | 0,_,_=>none
 | k+1,a,b=>if b.length=0 then some [] else (chk (He a b)).bind λr=>(chF k b (Tg r)).bind λl=>some (b::l)
def C7 (p:List Int):Option (List (List Int)):=(Tl p).bind λa=>if a.length=0 then none else (chk (U8 a)).bind λd=>(chF 66 a (Ui d)).bind λl=>some (a::l)
def Rz (sg:List Int->Int) (s:Nat×Int) (p:List Int):Nat×Int:=if sg p=0 then s else (if s.2=-(sg p) then s.1+1 else s.1,sg p)
def Mw (sg:List Int->Int) (l:List (List Int)):Nat:=(l.foldl (Rz sg) (0,0)).1
def Mx (l:List (List Int)) (q:Rat):Nat:=Mw (λp=>Ft p q) l
def Ho (l:List (List Int)) (lo hi:Rat):Int:=if Fy hi lo<0 then 0 else (Mx l lo:Int)-(Mx l hi:Int)
def Qdc (p:List Int):Int:=Int.sign (Um p)
def Io (p:List Int):Int:=if p.length % 2=0 then -Int.sign (Um p) else Int.sign (Um p)
def O6 (l:List (List Int)):Int:=(Mw Io l:Int)-(Mw Qdc l:Int)
def most:List Int->Nat:=λl=>l.foldl (λm z=>if m<z.natAbs then z.natAbs else m) 0
def Fg (p:List Int):Rat:=Rat.divInt (((Um p).natAbs:Int)+(most (p.take (p.length-1)):Int)) ((Um p).natAbs:Int)
def mid (a b:Rat):Rat:=Rat.divInt (a.num*(b.den:Int)+b.num*(a.den:Int)) ((a.den:Int)*(b.den:Int)*2)
def Dv (p:List Int) (c:List (List Int)):Nat->Rat->Rat->Int->Option (List Tm)
 | 0,_,_,_=>none
 | k+1,lo,hi,n=>if n=0 then some [] else if n=1 then some [⟨p,lo,hi⟩] else (chq (mid lo hi)).bind λm=>(Dv p c k lo m (Ho c lo m)).bind λl=>(Dv p c k m hi (n-Ho c lo m)).bind λr=>some (l++r)
def Qk5 (p:List Int):Option (List Tm):=(C7 p).bind λc=>(Tl p).bind λq=>(chq (Fg q)).bind λb=>Dv q c 100000 (-b) b (O6 c)
def Tm.point (a:Tm):Bool:=decide (0<=Fy a.lo a.hi)
def low (p:List Int) (q:Rat):Int:=if Ft p q≠0 then Ft p q else Ft (U8 p) q
def Qdh (p:List Int) (lo hi:Rat):Bool:=decide (Ft p hi=0\/Ft p hi≠low p lo)
def Uq (a:Tm) (t:Rat):Int :=
 if a.point=true then Fy a.lo t else if Fy t a.lo<=0 then 1 else if 0<Fy t a.hi then -1 else if Ft a.p t=0 then 0 else if Ft a.p t=low a.p a.lo then 1 else -1
def Qpj (a:Tm):Option Tm:=if a.point=true then some a else (chq (mid a.lo a.hi)).bind λm =>
 some (if Uq a m=0 then ⟨a.p,m,m⟩ else if Uq a m=-1 then ⟨a.p,a.lo,m⟩ else ⟨a.p,m,a.hi⟩)
def Fj (p:List Int):Nat:=p.foldl (λn z=>max n (Uh z)) 0
def Ti (a b:Tm):Nat:=64+2*(Uh a.lo.num+Uh a.hi.num+Uh b.lo.num+Uh b.hi.num)+4*(a.p.length+b.p.length)*(Fj a.p+Fj b.p+(a.p.length+b.p.length)+8)
def Qk7 (a b:Rat):Rat:=Rat.divInt (a.num*(b.den:Int)-b.num*(a.den:Int)) ((a.den:Int)*(b.den:Int))
def Ba (a b:Tm):Bool:=decide (Fy a.hi b.lo<=0/\¬((a.point=true/\b.point=true)/\Fy a.hi b.lo=0))
def apF:Nat->Tm->Tm->Option (Tm×Tm×Int)
 | 0,a,b=>some (a,b,0)
 |
  k+1,a,b=>if Ba a b=true then some (a,b,-1) else if Ba b a=true then some (a,b,1) else
  if 0<=Fy (Qk7 a.hi a.lo) (Qk7 b.hi b.lo) then (Qpj a).bind λx=>apF k x b else (Qpj b).bind λx=>apF k a x
def Qe7 (a b:Tm):Option Int:=if a.point=true then some (-Uq b a.lo) else if b.point=true then some (Uq a b.lo) else
 let lo:=if 0<Fy b.lo a.lo then b.lo else a.lo
 let hi:=if Fy b.hi a.hi<0 then b.hi else a.hi
 if Fy lo hi<0 then (Qp7 a.p b.p).bind λg=>if 1<g.length/\Qdh g lo hi=true then some 0 else (apF (Ti a b) a b).bind λr=>some r.2.2
 else (apF (Ti a b) a b).bind λr=>some r.2.2
def sgF (c:List (List Int)):Nat->Tm->Option Tm
 | 0,a=>some a
 | k+1,a=>if a.point=true\/Ho c a.lo a.hi=0 then some a else (Qpj a).bind λx=>sgF c k x
def Qee (p:List Int) (a:Tm):Option Int:=if p.length=0 then some 0 else if a.point=true then some (Ft p a.lo) else
 (Qp7 p a.p).bind λg=>if 1<g.length/\Qdh g a.lo a.hi=true then some 0 else (C7 p).bind λc=>(sgF c (64+2*(Uh a.lo.num+Uh a.hi.num)+4*(a.p.length+p.length)*(Fj a.p+Fj p+(a.p.length+p.length)+8)) a).bind λx=>some (Ft p x.hi)
def A9:Tm->List Tm->Option Tm
 | b,[]=>some b
 | b,a::l=>(Qe7 a b).bind λc=>A9 (if c<0 then a else b) l
def Qbm (a:Tm):List Tm->Option (Option Tm)
 | []=>some none
 | r::l=>(Qe7 r a).bind λc=>if 0<c then some (some r) else Qbm a l
def Qcr (p:List Int):Option (List Tm):=(Qxc p).bind λq=>if q.length=0 then some [] else Qk5 q
def Qg0 (p:List Int) (a:Tm):Option (Option Tm):=(Qcr p).bind λl=>Qbm a l
end Orr
namespace Orr
open Go Go.Proofs
set_option maxRecDepth 10000
theorem Ch {p:List Int} (tp:Ud p) (h:p.length≠0):Um p≠0:=Gp tp (by omega)
theorem Qkf {p:List Int} (h:p.length≠0):Um p∈p:=Qa (Gy (by omega))
theorem S0 {s:Nat} {p:List Int} (h:Bd s p):Uh (Um p)<=s:=Ul h _
theorem Cv {p:List Int}:∀ z∈p,Rq p∣z:=I9
theorem Oy {p:List Int} (tp:Ud p) (h:p.length≠0):Rq p≠0:=λh0=>Ch tp h (Int.zero_dvd.1 (h0 ▸ Cv _ (Qkf h)))
theorem Qav {p:List Int} (h:Bd 4294967295 p):Uh (Rq p)<=4294967295:=Qhy h
theorem Q1b {p:List Int} (tp:Ud p) (h:p.length≠0):Ga p≠0:=by
 have:=Oy tp h;unfold Ga; split <;> omega
theorem Qdz {p:List Int}:∀ z∈p,Ga p∣z:=λz hz=>by
 unfold Ga; split
 ·exact W0.2 (Cv z hz)
 ·exact Cv z hz
theorem Q8w {p:List Int} (h:Bd 4294967295 p):Uh (Ga p)<=4294967295:=by
 unfold Ga; split
 ·rw [Gj]; exact Qav h
 ·exact Qav h
theorem Qir {s:Nat} {p:List Int} (h:Bd s p) (c:Int):Bd s (Nb p c):=H4 (Qez h c)
theorem Qnd (p:List Int) (c:Int):(Nb p c).length<=p.length:=Qd (Gs _) (by simp)
theorem Ig (p:List Int) (c:Int):Ud (Nb p c):=G6 _
theorem Q9r {p:List Int} (h:Pb p) (c:Int):Pb (Nb p c):=⟨Ig _ _,Qd (Qnd _ _) h.l,Qir h.b c⟩
theorem Qfz:Pb []:=⟨rfl,by simp,Iw⟩
theorem Ha {p:List Int} (h:Pb p):Pb (Ui p):=by
 unfold Ui; split
 ·exact Qfz
 ·exact Q9r h _
theorem Pb.bd {p:List Int} (h:Pb p):Bd 4294967295 p:=W7 h.b (by omega)
theorem Pb.ln {p:List Int} (h:Pb p):p.length<274877906944:=Zt h.l (by omega)
theorem Pb.ln' {p:List Int} (h:Pb p):p.length<8589934592:=Zt h.l (by omega)
theorem Ax {p q:List Int} (tp:Ud p) (h:chk p=some q):q=p/\Pb p:=by
 unfold chk at h
 split at h
 ·rename_i hc;injection h with h;refine ⟨h.symm,tp,hc.1,λz hz=>?_⟩;have:=Yl.1 hc.2 z hz;exact Zd this
 ·cases h
theorem Qy4 {p:List Int} {g:Int} (hl:p.length<274877906944) (hp:Bd 4294967295 p) (hg:Uh g≤4294967295) (h0:g≠0) (hd:∀ z∈p,g∣z):W8 Tryz.prog 261 [pr p,.agg (Fi g)] [pr (Nb p g)]:=by
 refine Fv Tryz.func261 rfl ?_;refine go tt [.r 9 (eI (b:=(p.length:Int)) (by simp)),.i p.length,.i p.length,.r 12 (eI (b:=(p.length:Int)) (by simp))] rfl (by simp [W6]; omega) ?_;rw [De λk=>Fi (p.getD k 0 / g)];refine lp (S:=Nat) 2 (λL1 k=>(13,.v (.one (.int .i64 (k:Int))))::L1) (λk=>[.blk 55 (Fi g),.row false 55 2 (fil (λk=>Fi (p.getD k 0 / g)) [.bool false,.nils] p.length k)]) (λk=>p.length-k) (λk=>k<=p.length) 0 (Qg _) rfl (λ_ _=>rfl) rfl λk hk=>?_
 by_cases hlt:k<p.length
 ·have hg2:=Gy hlt;refine go tt [.t (by simp; omega),.x (Ru hg2),.c [] (D9 (W9 _) (W9 _) (Ul hp k) hg h0 (Jp (hd _ (Qa hg2)))),.i k] rfl (by simp [W6,Ll]; omega) ?_;have e:=A5 (λk=>Fi (p.getD k 0 / g)) [.bool false,.nils] hlt;rw [e];exact rd (k+1) (by omega) hlt rfl
 ·obtain rfl:k=p.length:=by omega
  have e:fil (λk=>Fi (p.getD k 0 / g)) [.bool false,.nils] p.length p.length=(p.map (· / g)).map Fi:=by
   rw [A4];refine Xf λi=>?_
   by_cases hi:i<p.length
   ·simp [Xt hi,List.getD,Qe hi]
   ·simp [Qu,hi]
  rw [e];exact en tt [.f (by simp),.c [] (Cd (U7 (p.map (· / g))) (by simp; exact hl) (Qez hp g))] rfl rfl trivial
theorem Qe3 {p:List Int} (hl:p.length<8589934592) (hp:Bd 4294967295 p):W8 Tryz.prog 262 [.one (.row [[pl p]])] [.agg (Fi (Rq p))]:=by
 refine Fv Tryz.func262 rfl ?_;refine go tt [.o 3 55 2] rfl trivial ?_;refine lp (S:=Nat) 2 (λL1 i=>(8,.v (.one (.int .i64 (i:Int))))::(3,.v (.one (.orow 1 2 none)))::L1) (λi=>[.blk 55 [.bool false,.nils],.row false 55 2 (if i=0 then [] else p.map Fi)]) (λi=>1-i) (λi=>i<=1) 0 (Qg _) rfl (λ_ _=>rfl) rfl λi hi=>?_
 rcases (show i=0\/i=1 by omega) with rfl | rfl
 ·refine go tt [.t rfl,.x (i:=0) (xs:=[pl p]) rfl,.s (Qks p)] rfl (by simp [W6]; omega) ?_;exact rd 1 (by omega) (by omega) rfl
 ·exact en tt [.f rfl,.c [] (Q5t (U7 p) hp)] rfl rfl trivial
theorem Q6t {p:List Int} (tp:Ud p) (hl':p.length<8589934592) (hp:Bd 4294967295 p):W8 Tryz.prog 257 [pr p] [.agg (Fi (if p.length=0 then 0 else Ga p)),pr (Ui p)]:=by
 have hl:p.length<274877906944:=by omega
 have cn:=Gm tp hl hp;by_cases h0:p.length=0
 ·have e:p=[]:=Qk h0;subst e;exact w tt Tryz.func257 rfl [.c [] cn,.t rfl] rfl (by simp [Dq,Ui]; rfl) trivial
 ·have hpf:Ui p=Nb p (Ga p):=by unfold Ui; rw [if_neg h0]
  rw [if_neg h0,hpf];have co:=Qy4 hl hp (Q8w hp) (Q1b tp h0) Qdz;by_cases hneg:Um p<0
  ·have e:Ga p=-Rq p:=by unfold Ga; rw [if_pos hneg]
   rw [e] at co ⊢;exact w tt Tryz.func257 rfl [.c [] cn,.f (by simpa using h0),.c [] (Qe3 hl' hp),.c [] (No tp hl hp),.t (by simpa [Um] using hneg),.c [] (Qi0 (W9 _) (Qav hp)),.c [] co] rfl rfl trivial
  ·have e:Ga p=Rq p:=by unfold Ga; rw [if_neg hneg]
   rw [e] at co ⊢;exact w tt Tryz.func257 rfl [.c [] cn,.f (by simpa using h0),.c [] (Qe3 hl' hp),.c [] (No tp hl hp),.f (by simpa [Um] using hneg),.c [] co] rfl rfl trivial
theorem Lb {p:List Int} (hp:Pb p):W8 Tryz.prog 223 [pr p] [pr (Ui p)] :=
 w tt Tryz.func223 rfl [.c [] (Q6t hp.t hp.ln' hp.bd)] rfl rfl trivial
theorem Pz (p:List Int):W8 Tryz.prog 137 [pr p] [.one (.int .i64 ((p.length:Int)-1))]:=by
 have h:W8 Tryz.prog 137 [pr p] [.one (.int .i64 (((p.map Fi).length:Int)-1))]:=Fv Tryz.func137 rfl (ln 0 rfl rfl λhl=>en tt [] rfl rfl (by simp [W6] at hl ⊢; omega));rw [Q6] at h; exact h
theorem Ez (i:Nat) (x:Int):(mono i x).length=i+1:=by simp [mono]
theorem Qip {s i:Nat} {x:Int} (h:Uh x<=s):Bd s (mono i x):=λz hz=>by
 simp only [mono,Qx,Qm] at hz;rcases hz with hz | rfl
 ·rw [(List.mem_replicate.1 hz).2,S4]; exact Qg _
 ·exact h
def stq (c:Int) (i:Nat) (x:Int) (q:List Int):List Int:=D6 (U3 q c) (mono i x)
def str (b:List Int) (c:Int) (i:Nat) (x:Int) (r:List Int):List Int:=S9 (U3 r c) (Uo (trim (mono i x)) b)
theorem Zid {u t i:Nat} {c x:Int} {q:List Int} (hq:Bd u q) (hc:Uh c<=t) (hx:Uh x<=u):Bd (u+t+8) (stq c i x q) :=
 W7 (Qcx (Ng hq hc) (Qip hx)) (by omega)
theorem Zet {c x:Int} {i:Nat} {q:List Int}:(stq c i x q).length<=max q.length (i+1):=by
 have h:=Of (U3 q c) (mono i x);have h1:=Pn q c;rw [Ez] at h;unfold stq; omega
theorem Qpr {i:Nat} {x:Int} {b:List Int}:(Uo (trim (mono i x)) b).length<=i+b.length:=by
 have h:=Hl (trim (mono i x)) b;have h1:=Gs (mono i x);rw [Ez] at h1; omega
theorem Qyr {u t i:Nat} {x:Int} {b:List Int} (hb:Bd t b) (hx:Uh x<=u) (hi:i<=64):Bd (u+t+7) (Uo (trim (mono i x)) b) :=
 Rk (H4 (Qip hx)) hb (Zt (Gs _) (by rw [Ez]; omega))
theorem Qvb {u t i:Nat} {c x:Int} {b r:List Int} (hr:Bd u r) (hb:Bd t b) (hc:Uh c<=t) (hx:Uh x<=u) (hi:i<=64):Bd (u+t+8) (str b c i x r) :=
 W7 (Qoo (Ng hr hc) (Qyr hb hx hi)) (by omega)
theorem Qps {c x:Int} {i:Nat} {b r:List Int}:(str b c i x r).length<=max r.length (i+b.length):=by
 have h:=Qkh (U3 r c) (Uo (trim (mono i x)) b);have h1:=Pn r c;have h2:=Qpr (i:=i) (x:=x) (b:=b);unfold str; omega
theorem Qtb (i:Nat) (x:Int):((List.replicate (i+1) (0:Int)).map Fi).set i (Fi x)=(mono i x).map Fi:=by
 rw [Qxb,mono];congr 1;refine Xf λj=>?_
 simp only [Ju,List.getElem?_append,Jr,X8];by_cases h:j=i
 ·subst h; simp
 ·rw [if_neg (by omega)];by_cases h2:j<i
  ·simp [h2]; omega
  ·rw [if_neg (by omega),if_neg h2];cases hj:j-i with
   | zero=>omega
   | succ m=>simp
theorem Q0v (i:Nat) {x:Int} {y:List LV} (h:y.map Qhe=Fi x):(((List.replicate (i+1) [LV.bool false,LV.nils]).set i y).map λc=>c.map Qhe)=(mono i x).map Fi:=by
 rw [Yp,Qia,h]; exact Qtb i x
theorem O3 {b:List Int} {c:Int} {i:Nat} {q r:List Int} {x:Int} (hx:x=if r.length=b.length+i then Um r else 0):psd b c (i+1) (q,r)=psd b c i (stq c i x q,str b c i x r):=by
 subst hx; rfl
theorem Q55 {a b:List Int} (ha:Pb a) (hb:Pb b) (h0:b.length≠0):W8 Tryz.prog 258 [pr a,pr b] [pr (psd b (Um b) (a.length+1-b.length) ([],a)).1,pr (Tq a b),.one (.int .i64 ((a.length+1-b.length:Nat):Int)),.one (.int .i64 0)]:=by
 have hal:=ha.l;have hbl:=hb.l;have hlb:Uh (Um b)<=16777216:=S0 hb.b;obtain ⟨c,hc⟩:=nmE (Um b);have cl:=No hb.t hb.ln hb.bd;rw [show b.getD (b.length-1) 0=c from hc.symm] at cl;obtain ⟨k,hk⟩:=nmE (a.length+1-b.length);unfold Tq;rw [<-hc,<-hk];rw [<-hc] at hlb;refine Fv Tryz.func258 rfl ?_;refine go tt [.z 4,.c [] (Gm ha.t ha.ln ha.bd),.c [] (Gm hb.t hb.ln hb.bd),.f (by simpa using h0),.c [] cl,.c [] (Pz a),.c [] (Pz b),.r 27 (eI (b:=(k:Int)) (by omega))] rfl (by simp [W6]; omega) ?_;refine lp (S:=Nat×List Int×List Int) 1 (λL1 s=>(4,.v (pr s.2.1))::(5,.v (pr s.2.2))::(9,.v (.one (.int .i64 ((s.1:Int)-1))))::L1) (λ_=>[.blk 55 (Fi c)]) (λs=>s.1) (λs=>s.1<=k/\Ud s.2.2/\s.2.1.length<=66/\s.2.2.length<=a.length/\Bd (16777216+(k-s.1)*16777224) s.2.1/\Bd (16777216+(k-s.1)*16777224) s.2.2/\psd b c s.1 s.2=psd b c k ([],a)) (k,[],a) ⟨Qn _,ha.t,by simp,Qn _,Iw,by simpa using ha.b,rfl⟩ rfl (λ_ _=>rfl) rfl λ⟨i,q,r⟩ ⟨j1,j2,j3,j4,j5,j6,j7⟩=>?_
 dsimp only at j1 j2 j3 j4 j5 j6 j7 ⊢;rw [<-j7];cases i with
 | zero=>exact en tt [.f (by simp)] rfl rfl trivial
 |
  succ i =>
  obtain ⟨x,hx⟩:=nmE (if r.length=b.length+i then Um r else 0);obtain ⟨u,hu⟩:=nmE (16777216+(k-(i+1))*16777224);rw [<-hu] at j5 j6;have hub:u<=1107296256:=by
   have:(k-(i+1))*16777224<=64*16777224:=Q0 _ (by omega);omega
  have hxs:Uh x<=u:=by
   rw [hx]; split
   ·exact S0 j6
   ·rw [S4]; exact Qg _
  have cs:=Qc0 (p:=q) (c:=c) (by omega) (W7 j5 (by omega)) (by omega);have cs2:=Qc0 (p:=r) (c:=c) (by omega) (W7 j6 (by omega)) (by omega);have l1:=Pn q c;have l2:=Pn r c;have ca:=Qvp (p:=U3 q c) (q:=mono i x) (by omega) (by rw [Ez]; omega) (W7 (Ng j5 hlb) (by omega)) (W7 (Qip hxs) (by omega));have cm:=Qos (p0:=mono i x) hb.t (by rw [Ez]; omega) (by omega) (Qip hxs) hb.b (by omega);have l3:=Qpr (i:=i) (x:=x) (b:=b);have cb:=Qvq (p:=U3 r c) (q:=Uo (trim (mono i x)) b) (by omega) (by omega) (W7 (Ng j6 hlb) (by omega)) (W7 (Qyr hb.b hxs (by omega)) (by omega));have hst:=O3 (b:=b) (c:=c) (q:=q) hx;have hI:i<=k/\Ud (str b c i x r)/\(stq c i x q).length<=66/\(str b c i x r).length<=a.length/\Bd (16777216+(k-i)*16777224) (stq c i x q)/\Bd (16777216+(k-i)*16777224) (str b c i x r):=by
   have l5:=Zet (c:=c) (x:=x) (i:=i) (q:=q);have l6:=Qps (c:=c) (x:=x) (i:=i) (b:=b) (r:=r);have hku:u+16777216+8=16777216+(k-i)*16777224:=by
    rw [hu,show k-i=(k-(i+1))+1 from by omega,Jg]; omega
   refine ⟨by omega,Uw _ _,by omega,by omega,?_,?_⟩
   ·rw [<-hku]; exact Zid j5 hlb hxs
   ·rw [<-hku]; exact Qvb j6 hb.b hlb hxs (by omega)
  rw [hst];by_cases h:r.length=b.length+i
  ·refine go tt [.t (by simp <;> omega),.c [] (Pz r),.c [] (Pz b),.t (by simp; omega),.c [] (No j2 (by omega) (W7 j6 (by omega))),.r 44 (eI (b:=((i+1:Nat):Int)) (by omega)),.i (i+1),.i (i+1),.r 47 (eI (b:=(i:Int)) (by omega)),.i i] rfl (by simp [W6]; omega) ?_;refine nl 2 rfl rfl rfl ?_;rw [Q0v i (x:=x) (by rw [hx,if_pos h]; rfl)];refine go tt [.c [] cs,.c [] ca,.c [] cs2,.c [] cm,.c [] cb,.r 33 (eI (b:=(i:Int)-1) (by omega))] rfl (by simp [W6]; omega) ?_;exact rd (i,stq c i x q,str b c i x r) (by dsimp only; omega) ⟨hI.1,hI.2.1,hI.2.2.1,hI.2.2.2.1,hI.2.2.2.2.1,hI.2.2.2.2.2,rfl⟩ rfl
  ·refine go tt [.t (by simp <;> omega),.c [] (Pz r),.c [] (Pz b),.f (by simp; omega),.r 44 (eI (b:=((i+1:Nat):Int)) (by omega)),.i (i+1),.i (i+1),.r 47 (eI (b:=(i:Int)) (by omega)),.i i] rfl (by simp [W6]; omega) ?_;refine nl 2 rfl rfl rfl ?_;rw [Q0v i (x:=x) (by rw [hx,if_neg h,Dq]; rfl)];refine go tt [.c [] cs,.c [] ca,.c [] cs2,.c [] cm,.c [] cb,.r 33 (eI (b:=(i:Int)-1) (by omega))] rfl (by simp [W6]; omega) ?_;exact rd (i,stq c i x q,str b c i x r) (by dsimp only; omega) ⟨hI.1,hI.2.1,hI.2.2.1,hI.2.2.2.1,hI.2.2.2.2.1,hI.2.2.2.2.2,rfl⟩ rfl
theorem Q92 {b:List Int} {c:Int} (hb:Bd 16777216 b) (hc:Uh c<=16777216) {n:Nat}:∀ (i u:Nat) (q r:List Int),i<=64->i+b.length<=n+1->Ud r->r.length<=n->Bd u r->Ud (psd b c i (q,r)).2/\(psd b c i (q,r)).2.length<=n/\Bd (u+i*16777224) (psd b c i (q,r)).2
 | 0,u,q,r,_,_,h1,h2,h3=>⟨h1,h2,by simpa [psd] using h3⟩
 |
  i+1,u,q,r,hi,hn,h1,h2,h3=>by
  rw [O3 rfl];have hx:Uh (if r.length=b.length+i then Um r else 0)<=u:=by
   split
   ·exact S0 h3
   ·rw [S4]; exact Qg _
  have l6:=Qps (c:=c) (x:=if r.length=b.length+i then Um r else 0) (i:=i) (b:=b) (r:=r);have:=Q92 hb hc (n:=n) i (u+16777216+8) (stq c i (if r.length=b.length+i then Um r else 0) q) (str b c i (if r.length=b.length+i then Um r else 0) r) (by omega) (by omega) (Uw _ _) (by omega) (Qvb h3 hb hc hx (by omega));exact ⟨this.1,this.2.1,W7 this.2.2 (by omega)⟩
theorem Q1f {a b:List Int} (ha:Pb a) (hb:Pb b) (h0:b.length≠0):Ud (Tq a b)/\(Tq a b).length<=a.length/\Bd 1107296256 (Tq a b):=by
 have hal:=ha.l;by_cases h:b.length<=a.length+1
 ·obtain ⟨h1,h2,h3⟩:=Q92 hb.b (S0 hb.b) (n:=a.length) (a.length+1-b.length) 16777216 [] a (by omega) (by omega) ha.t (Qn _) ha.b;refine ⟨h1,h2,W7 h3 ?_⟩;have:(a.length+1-b.length)*16777224<=64*16777224:=Q0 _ (by omega);omega
 ·have e:Tq a b=a:=by unfold Tq; rw [show a.length+1-b.length=0 from by omega]; rfl
  rw [e];exact ⟨ha.t,Qn _,W7 ha.b (by omega)⟩
theorem Qd5 {a b r:List Int} {s n:Nat} (h1:Ud r) (h2:r.length<=n) (h3:Bd s r):Ud (P9 a b r)/\(P9 a b r).length<=n/\Bd s (P9 a b r):=by
 unfold P9; split
 ·exact ⟨Uw _ _,Qd (Dm r) h2,Qal h3⟩
 ·exact ⟨h1,h2,h3⟩
theorem Qku {r:List Int} {s n:Nat} (h2:r.length<=n) (h3:Bd s r):Ud (Qbo r)/\(Qbo r).length<=n/\Bd s (Qbo r):=by
 unfold Qbo; split
 ·exact ⟨rfl,by simp,Iw⟩
 ·exact ⟨Ig _ _,Qd (Qnd _ _) h2,Qir h3 _⟩
theorem Qd2 {a b:List Int} (ha:Pb a) (hb:Pb b) (h0:b.length≠0):Ud (He a b)/\(He a b).length<=a.length/\Bd 1107296256 (He a b):=by
 obtain ⟨h1,h2,h3⟩:=Q1f ha hb h0;obtain ⟨h4,h5,h6⟩:=Qd5 (a:=a) (b:=b) h1 h2 h3;exact Qku h5 h6
theorem Q58 {a b:List Int} (ha:Pb a) (hb:Pb b) (h0:b.length≠0):W8 Tryz.prog 224 [pr a,pr b] [pr (He a b),.one (.int .i64 0)]:=by
 obtain ⟨h1,h2,h3⟩:=Q1f ha hb h0;obtain ⟨h4,h5,h6⟩:=Qd5 (a:=a) (b:=b) h1 h2 h3;have hal:=ha.l;have cp:=Q55 ha hb h0;have cl:=No hb.t hb.ln hb.bd;have cn:=Q54 (p:=Tq a b) (by omega) (W7 h3 (by omega));unfold He;obtain ⟨r,hr⟩:=nmE (P9 a b (Tq a b));have cc:=Qe3 (p:=r) (by rw [hr]; omega) (by rw [hr]; exact W7 h6 (by omega));rw [<-hr] at h4 h5 h6 ⊢;obtain ⟨k,hk⟩:=nmE (a.length+1-b.length);rw [<-hk] at cp;have em:((k:Int).tmod 2)=((k % 2:Nat):Int):=by rw [Yu (by omega)]; omega
 have key:Qbo r=if r.length=0 then [] else Nb r (Rq r):=rfl
 by_cases hz:r.length=0
 ·rw [key,if_pos hz];by_cases hodd:k % 2=1
  ·by_cases hneg:Um b<0
   ·have e:r=Tg (Tq a b):=by rw [hr]; unfold P9; rw [if_pos ⟨by rw [<-hk]; exact hodd,hneg⟩]
    rw [e] at hz;exact w tt Tryz.func224 rfl [.c [] cp,.f (by simp),.r 22 (eI em),.t (by simp; omega),.c [] cl,.t (by simpa [Um] using hneg),.c [] cn,.t (by simpa using hz)] rfl rfl (by simp [W6])
   ·have e:r=Tq a b:=by rw [hr]; unfold P9; rw [if_neg (λh=>hneg h.2)]
    rw [e] at hz;exact w tt Tryz.func224 rfl [.c [] cp,.f (by simp),.r 22 (eI em),.t (by simp; omega),.c [] cl,.f (by simpa [Um] using hneg),.t (by simpa using hz)] rfl rfl (by simp [W6])
  ·have e:r=Tq a b:=by rw [hr]; unfold P9; rw [if_neg (λh=>hodd (by rw [hk]; exact h.1))]
   rw [e] at hz;exact w tt Tryz.func224 rfl [.c [] cp,.f (by simp),.r 22 (eI em),.f (by simp; omega),.f rfl,.t (by simpa using hz)] rfl rfl (by simp [W6])
 ·rw [key,if_neg hz];have cd:=Qy4 (p:=r) (g:=Rq r) (by omega) (W7 h6 (by omega)) (Qav (W7 h6 (by omega))) (Oy h4 hz) Cv;by_cases hodd:k % 2=1
  ·by_cases hneg:Um b<0
   ·have e:r=Tg (Tq a b):=by rw [hr]; unfold P9; rw [if_pos ⟨by rw [<-hk]; exact hodd,hneg⟩]
    rw [e] at hz cc cd ⊢;exact w tt Tryz.func224 rfl [.c [] cp,.f (by simp),.r 22 (eI em),.t (by simp; omega),.c [] cl,.t (by simpa [Um] using hneg),.c [] cn,.f (by simpa using hz),.c [] cc,.c [] cd] rfl rfl (by simp [W6])
   ·have e:r=Tq a b:=by rw [hr]; unfold P9; rw [if_neg (λh=>hneg h.2)]
    rw [e] at hz cc cd ⊢;exact w tt Tryz.func224 rfl [.c [] cp,.f (by simp),.r 22 (eI em),.t (by simp; omega),.c [] cl,.f (by simpa [Um] using hneg),.f (by simpa using hz),.c [] cc,.c [] cd] rfl rfl (by simp [W6])
  ·have e:r=Tq a b:=by rw [hr]; unfold P9; rw [if_neg (λh=>hodd (by rw [hk]; exact h.1))]
   rw [e] at hz cc cd ⊢;exact w tt Tryz.func224 rfl [.c [] cp,.f (by simp),.r 22 (eI em),.f (by simp; omega),.f rfl,.f (by simpa using hz),.c [] cc,.c [] cd] rfl rfl (by simp [W6])
theorem Zem {s:Nat} {x:Int} (h:Uh x<=s) (g:Int):Uh (x / g)<=s:=Qez (p:=[x]) (λz hz=>by rw [Qm.1 hz]; exact h) g _ (by simp)
def sta (b:List Int) (i:Nat) (x:Int) (a:List Int):List Int:=S9 a (Uo (trim (mono i x)) b)
theorem Zic {u t i:Nat} {x:Int} {b a:List Int} (ha:Bd u a) (hb:Bd t b) (hx:Uh x<=u) (hi:i<=64):Bd (u+t+8) (sta b i x a) :=
 W7 (Qoo ha (Qyr hb hx hi)) (by omega)
theorem Q0l {x:Int} {i:Nat} {b a:List Int}:(sta b i x a).length<=max a.length (i+b.length):=by
 have h:=Qkh a (Uo (trim (mono i x)) b);have h2:=Qpr (i:=i) (x:=x) (b:=b);unfold sta; omega
theorem Zco (s n:Nat):Bd s (List.replicate n 0):=λz hz=>by rw [(List.mem_replicate.1 hz).2,S4]; exact Qg _
theorem Zib {s i:Nat} {l:List Int} {x:Int} (h:Bd s l) (hx:Uh x<=s):Bd s (l.set i x):=λz hz=>by
 rcases J6 hz with hz | rfl
 ·exact h z hz
 ·exact hx
theorem Q52 {a b q:List Int} (ha:Pb a) (hb:Pb b) (h:O2 a b=some q):W8 Tryz.prog 292 [pr a,pr b] [pr q,.one (.int .i64 0)]:=by
 unfold O2 at h
 split at h
 ·cases h
 rename_i h0;obtain ⟨k,hk⟩:=nmE (a.length+1-b.length);rw [<-hk] at h;obtain ⟨q',hq,hq2⟩:=Qf.1 h;obtain ⟨rfl,hpb⟩:=Ax (G6 _) hq2;have hal:=ha.l;have hbl:=hb.l;refine Fv Tryz.func292 rfl ?_;refine go tt [.c [] (Gm ha.t ha.ln ha.bd),.c [] (Gm hb.t hb.ln hb.bd),.f (by simpa using h0),.r 24 (eI (b:=(k:Int)) (by simp; omega)),.i k,.i k,.r 27 (eI (b:=(k:Int)) (by simp))] rfl (by simp [W6]; omega) ?_;refine nl 0 rfl rfl rfl ?_;rw [Qia];refine lp (S:=Nat×List Int×List Int) 1 (λL1 s=>(0,.v (pr s.2.1))::(7,.v (.one (.int .i64 ((s.1:Int)-1))))::L1) (λs=>[.row false 55 2 (s.2.2.map Fi)]) (λs=>s.1) (λs=>s.1<=k/\Ud s.2.1/\s.2.1.length<=a.length/\Bd (16777216+(k-s.1)*16777224) s.2.1/\s.2.2.length=k/\Bd 1107296256 s.2.2/\Qp5 b s.1 s.2.1 s.2.2=some q') (k,a,List.replicate k 0) ⟨Qn _,ha.t,Qn _,by simpa using ha.b,by simp,Zco _ _,hq⟩ rfl (λ_ _=>rfl) rfl λ⟨i,A,Q⟩ ⟨j1,j2,j3,j4,j5,j7,j6⟩=>?_
 dsimp only at j1 j2 j3 j4 j5 j6 j7 ⊢;cases i with
 |
  zero =>
  simp only [Qp5] at j6
  split at j6
  ·rename_i hA;injection j6 with j6; subst j6;exact en tt [.f (by simp),.f (by simpa using hA),.c [] (Cd (U7 Q) (by omega) (W7 j7 (by omega)))] rfl rfl trivial
  ·cases j6
 |
  succ i =>
  obtain ⟨u,hu⟩:=nmE (16777216+(k-(i+1))*16777224);rw [<-hu] at j4;have hub:u<=1107296256:=by
   have:(k-(i+1))*16777224<=64*16777224:=Q0 _ (by omega);omega
  have hku:u+16777216+8=16777216+(k-i)*16777224:=by
   rw [hu,show k-i=(k-(i+1))+1 from by omega,Jg]; omega
  simp only [Qp5] at j6;by_cases hlt:A.length<b.length+i
  ·rw [if_pos hlt] at j6;refine go tt [.t (by simp <;> omega),.c [] (Pz A),.c [] (Pz b),.t (by simp; omega),.r 32 (eI (b:=(i:Int)-1) (by omega))] rfl (by simp [W6]; omega) ?_;exact rd (i,A,Q) (by dsimp only; omega) ⟨by dsimp only; omega,j2,j3,W7 j4 (by dsimp only; omega),j5,j7,j6⟩ rfl
  ·rw [if_neg hlt] at j6
   split at j6
   ·rename_i hdv;obtain ⟨x,hx⟩:=nmE (Um A / Um b);rw [<-hx] at j6;have hxs:Uh x<=u:=by rw [hx]; exact Zem (S0 j4) _
    have ce:=D9 (W9 (Um A)) (W9 (Um b)) (Qd (S0 j4) (by omega)) (Qd (S0 hb.b) (by omega)) (Ch hb.t h0) hdv;rw [<-hx] at ce;have cm:W8 Tryz.prog 215 [.one (.row ((mono i x).map Fi)),pr b] [pr (Uo (trim (mono i x)) b)]:=Qos (p0:=mono i x) hb.t (by rw [Ez]; omega) (by omega) (Qip hxs) hb.b (by omega);have l3:=Qpr (i:=i) (x:=x) (b:=b);have l4:=Q0l (i:=i) (x:=x) (b:=b) (a:=A);have cb:=Qvq (p:=A) (q:=Uo (trim (mono i x)) b) (by omega) (by omega) (W7 j4 (by omega)) (W7 (Qyr hb.b hxs (by omega)) (by omega));refine go tt [.t (by simp <;> omega),.c [] (Pz A),.c [] (Pz b),.f (by simp; omega),.c [] (No j2 (by omega) (W7 j4 (by omega))),.c [] (No hb.t hb.ln hb.bd),.c [] ce,.f rfl,.r 51 (eI (b:=(i:Int)) (by omega)),.i i,.r 55 (eI (b:=((i+1:Nat):Int)) (by omega)),.i (i+1),.i (i+1),.r 58 (eI (b:=(i:Int)) (by omega))] rfl (by simp [W6]; omega) ?_;refine nl 2 rfl rfl rfl ?_;rw [Qia,Qxb];rw [<-Qtb i x] at cm;refine go tt [.i i,.c [] cm,.c [] cb,.r 32 (eI (b:=(i:Int)-1) (by omega))] rfl (by simp [W6]; omega) ?_;exact rd (i,sta b i x A,Q.set i x) (by dsimp only; omega) ⟨by dsimp only; omega,Uw _ _,by dsimp only; omega,by dsimp only; rw [<-hku]; exact Zic j4 hb.b hxs (by omega),by simpa using j5,Zib j7 (Nat.le_trans hxs hub),j6⟩ rfl
   ·cases j6
theorem Qw9 {a b q:List Int} (h:O2 a b=some q):Pb q:=by
 unfold O2 at h
 split at h
 ·cases h
 ·obtain ⟨q',_,hq2⟩:=Qf.1 h;obtain ⟨rfl,hpb⟩:=Ax (G6 _) hq2;exact hpb
theorem Q6x {a b q:List Int} (ha:Pb a) (hb:Pb b) (h:O2 a b=some q):W8 Tryz.prog 279 [pr a,pr b] [pr q] :=
 w tt Tryz.func279 rfl [.c [] (Q52 ha hb h)] rfl rfl trivial
theorem Qq2:∀ {k:Nat} {a b g:List Int},Pb a->Pb b->Qgb k a b=some g->Pb g
 | 0,_,_,_,_,_,h=>by cases h
 |
  k+1,a,b,g,ha,hb,h=>by
  simp only [Qgb] at h
  split at h
  ·injection h with h; subst h; exact ha
  ·rename_i h0;obtain ⟨r,hr,h⟩:=Qf.1 h;obtain ⟨rfl,hpb⟩:=Ax (Qd2 ha hb h0).1 hr;exact Qq2 hb hpb h
theorem Qzg {a b g:List Int} (ha:Pb a) (hb:Pb b) (h:O4 a b=some g):W8 Tryz.prog 180 [pr a,pr b] [pr g]:=by
 unfold O4 at h;obtain ⟨g',h2,rfl⟩:=Vf.1 h;have hg:=Qq2 (Ha ha) (Ha hb) h2;refine Fv Tryz.func180 rfl ?_;refine go tt [.c [] (Lb ha),.c [] (Lb hb)] rfl trivial ?_;refine lp (S:=Nat×List Int×List Int) 0 (λL1 s=>(0,.v (pr s.2.1))::(1,.v (pr s.2.2))::L1) (λ_=>[]) (λs=>s.1) (λs=>Pb s.2.1/\Pb s.2.2/\Qgb s.1 s.2.1 s.2.2=some g') (66,Ui a,Ui b) ⟨Ha ha,Ha hb,h2⟩ rfl (λ_ _=>rfl) rfl λ⟨k,A,C⟩ ⟨j1,j2,j3⟩=>?_
 dsimp only at j1 j2 j3 ⊢;cases k with
 | zero=>cases j3
 |
  succ k =>
  simp only [Qgb] at j3
  split at j3
  ·rename_i h0;injection j3 with j3; subst j3;exact en tt [.f (by simpa using h0),.c [] (Lb j1)] rfl rfl trivial
  ·rename_i h0;obtain ⟨r,hr,j3⟩:=Qf.1 j3;obtain ⟨rfl,hpb⟩:=Ax (Qd2 j1 j2 h0).1 hr;refine go tt [.t (by simp; omega),.c [] (Q58 j1 j2 h0)] rfl trivial ?_;exact rd (k,C,He A C) (by dsimp only; omega) ⟨j2,hpb,j3⟩ rfl
theorem Qf1 {a b g:List Int} (ha:Pb a) (hb:Pb b) (h:O4 a b=some g):Pb g:=by
 unfold O4 at h;obtain ⟨g',h2,rfl⟩:=Vf.1 h;exact Ha (Qq2 (Ha ha) (Ha hb) h2)
theorem Q53 {a b g:List Int} (ha:Pb a) (hb:Pb b) (h:Qp7 a b=some g):W8 Tryz.prog 136 [.one (.row (Tk [a,b]))] [pr g]:=by
 unfold Qp7 at h;obtain ⟨g1,h1,h2⟩:=Qf.1 h;have hg1:=Qf1 Qfz ha h1;refine Fv Tryz.func136 rfl ?_;refine go tt [.z 3] rfl trivial ?_;refine lp (S:=Nat) 0 (λL1 i=>(8,.v (.one (.int .i64 (i:Int))))::(3,.v (pr (if i=0 then [] else if i=1 then g1 else g)))::L1) (λ_=>[]) (λi=>2-i) (λi=>i<=2) 0 (Qg _) rfl (λ_ _=>rfl) rfl λi hi=>?_
 rcases (show i=0\/i=1\/i=2 by omega) with rfl | rfl | rfl
 ·refine go tt [.t rfl,.x (Hw (i:=0) (p:=a) rfl),.c [] (Qzg Qfz ha h1)] rfl (by simp [W6]) ?_;exact rd 1 (by omega) (by omega) rfl
 ·refine go tt [.t rfl,.x (Hw (i:=1) (p:=b) rfl),.c [] (Qzg hg1 hb h2)] rfl (by simp [W6]) ?_;exact rd 2 (by omega) (by omega) rfl
 ·exact en tt [.f rfl] rfl rfl trivial
theorem Q9o {a b g:List Int} (ha:Pb a) (hb:Pb b) (h:Qp7 a b=some g):Pb g:=by
 unfold Qp7 at h;obtain ⟨g1,h1,h2⟩:=Qf.1 h;exact Qf1 (Qf1 Qfz ha h1) hb h2
theorem Qkq {p d:List Int} (h:chk (U8 p)=some d):d=U8 p/\Pb (U8 p):=Ax (Uw _ _) h
theorem Qi2 {a g:List Int} (ha:Pb a) (h:Tl a=some g):W8 Tryz.prog 251 [pr a] [pr g]:=by
 have hp:=Ha ha;unfold Tl at h
 split at h
 ·rename_i h0;injection h with h; subst h;exact w tt Tryz.func251 rfl [.c [] (Lb ha),.c [] (Pz _),.t (by simp; omega)] rfl rfl trivial
 ·rename_i h0;obtain ⟨d,h1,h⟩:=Qf.1 h;obtain ⟨rfl,hd⟩:=Qkq h1;obtain ⟨g1,h1,h⟩:=Qf.1 h;exact w tt Tryz.func251 rfl [.c [] (Lb ha),.c [] (Pz _),.f (by simp; omega),.c [] (Em hp.ln hp.bd),.c [] (Qzg hp hd h1),.c [] (Q6x hp (Qf1 hp hd h1) h)] rfl rfl trivial
theorem Qf0 {a g:List Int} (ha:Pb a) (h:Tl a=some g):Pb g:=by
 unfold Tl at h
 split at h
 ·injection h with h; subst h; exact Ha ha
 ·obtain ⟨d,h1,h⟩:=Qf.1 h;obtain ⟨g1,h1,h⟩:=Qf.1 h;exact Qw9 h
theorem Q9p {p:List Int} (h:Pb p):Pb (Tg p):=⟨Uw _ _,Qd (Dm p) h.l,Qal h.b⟩
theorem Qv8:∀ {k:Nat} {a b:List Int} {l:List (List Int)},Pb a->Pb b->chF k a b=some l->l.length≤k/\∀ p∈l,Pb p
 | 0,_,_,_,_,_,h=>by cases h
 |
  k+1,a,b,l,ha,hb,h=>by
  simp only [chF] at h
  split at h
  ·injection h with h; subst h; exact ⟨by simp,λp hp=>by cases hp⟩
  ·rename_i h0;obtain ⟨r,hr,h⟩:=Qf.1 h;obtain ⟨rfl,hpb⟩:=Ax (Qd2 ha hb h0).1 hr;obtain ⟨l',h1,h⟩:=Qf.1 h;injection h with h; subst h;obtain ⟨i1,i2⟩:=Qv8 hb (Q9p hpb) h1;refine ⟨by simp; exact i1,λp hp=>?_⟩;rcases Qo.1 hp with rfl | hp
   ·exact hb
   ·exact i2 p hp
theorem chain_ok {p:List Int} {l:List (List Int)} (hp:Pb p) (h:C7 p=some l):l.length≤67/\∀ q∈l,Pb q:=by
 unfold C7 at h;obtain ⟨a,h1,h⟩:=Qf.1 h;have ha:=Qf0 hp h1
 split at h
 ·cases h
 ·obtain ⟨d,h2,h⟩:=Qf.1 h;obtain ⟨rfl,hd⟩:=Qkq h2;obtain ⟨l',h3,h⟩:=Qf.1 h;injection h with h; subst h;obtain ⟨i1,i2⟩:=Qv8 ha (Ha hd) h3;refine ⟨by simp; omega,λp hp=>?_⟩;rcases Qo.1 hp with rfl | hp
  ·exact ha
  ·exact i2 p hp
theorem Qkt (l:List (List Int)) (p:List Int):Tk l++[[pl p]]=Tk (l++[p]):=by simp [Tk]
theorem Cw (l:List (List Int)):(Tk l).length=l.length:=by simp [Tk]
theorem Q6a {p:List Int} {l:List (List Int)} (hp:Pb p) (h:C7 p=some l):W8 Tryz.prog 249 [pr p] [.one (.sh [.row (Tk l)]),.one (.int .i64 0)]:=by
 unfold C7 at h;obtain ⟨a,h1,h⟩:=Qf.1 h;have ha:=Qf0 hp h1
 split at h
 ·cases h
 rename_i h0;obtain ⟨d,h2,h⟩:=Qf.1 h;obtain ⟨rfl,hd⟩:=Qkq h2;obtain ⟨l',h3,h⟩:=Qf.1 h;injection h with h; subst h;refine Fv Tryz.func249 rfl ?_;refine go tt [.c [] (Qi2 hp h1),.f (by simpa using h0),.lo,.c [] (Em ha.ln ha.bd),.c [] (Q6t hd.t hd.ln' hd.bd)] rfl (by simp [W6]) ?_;obtain ⟨z,hz⟩:=nmE (if (U8 a).length=0 then 0 else Ga (U8 a));rw [<-hz];refine sb [(4,.v (pr a)),(7,.v (pr (Ui (U8 a)))),(5,.v (.one (.ow 1 0)))] [.row false 52 1 [[pl a]],.blk 327 [.orow 0 1 none],.blk 55 (Fi z)] rfl rfl ?_;have hll:=(Qv8 ha (Ha hd) h3).1;refine lp (S:=Nat×List (List Int)×List Int×List Int) 3 (λL1 s=>(4,.v (pr s.2.2.1))::(7,.v (pr s.2.2.2))::L1) (λs=>[.row false 52 1 (Tk s.2.1),.blk 327 [.orow 0 1 none],.blk 55 (Fi z)]) (λs=>s.1) (λs=>Pb s.2.2.1/\Pb s.2.2.2/\∃ m,chF s.1 s.2.2.1 s.2.2.2=some m/\s.2.1++m=a::l') (66,[a],a,Ui (U8 a)) ⟨ha,Ha hd,l',h3,rfl⟩ rfl (λ_ _=>rfl) rfl λ⟨k,out,A,C⟩ ⟨j1,j2,m,j3,j4⟩=>?_
 dsimp only at j1 j2 j3 j4 ⊢;have hol:out.length<=67:=by have:=congrArg List.length j4; simp at this; omega
 cases k with
 | zero=>cases j3
 |
  succ k =>
  simp only [chF] at j3
  split at j3
  ·rename_i h0;injection j3 with j3; subst j3;rw [Xe] at j4;rw [<-j4];exact en tt [.f (by simpa using h0)] rfl rfl trivial
  ·rename_i h0;obtain ⟨r,hr,j3⟩:=Qf.1 j3;obtain ⟨rfl,hpb⟩:=Ax (Qd2 j1 j2 h0).1 hr;obtain ⟨m',j6,j5⟩:=Qf.1 j3;injection j5 with j5; subst j5;refine go tt [.t (by simp; omega),.s (sz:=1) (λc hc=>by rw [Qm.1 hc]; rfl),.c [] (Q58 j1 j2 h0),.c [] (Q54 hpb.ln hpb.bd)] rfl (by simp [W6,Cw]; omega) ?_;exact rd (k,out++[C],C,Tg (He A C)) (by dsimp only; omega) ⟨j2,Q9p hpb,m',j6,by rw [<-j4]; simp⟩ (by rw [Qkt]; rfl)
structure Tb (t:Tm):Prop where
 p:Pb t.p
 lo:Qb t.lo
 hi:Qb t.hi
theorem Qzp (x y:Int):-1<=Me x y/\Me x y<=1:=by unfold Me; split <;> (try split) <;> omega
theorem Az (a b:Rat):-1<=Fy a b/\Fy a b<=1:=Qzp _ _
theorem Ab (p:List Int) (q:Rat):-1<=Ft p q/\Ft p q<=1:=Qzp _ _
theorem Qwz (p:List Int) (q:Rat):-1<=low p q/\low p q<=1:=by unfold low; split <;> exact Ab _ _
theorem Qb.s31 {q:Rat} (h:Qb q):Qs 2147483647 q:=h.mono (by decide)
theorem Qb.s32 {q:Rat} (h:Qb q):Qs 4294967295 q:=h.mono (by decide)
theorem Qhb {p:List Int} {q:Rat} (hp:Pb p) (hq:Qb q):W8 Tryz.prog 159 [pr p,.agg (rl q)] [.one (.int .i64 (Ft p q))]:=by
 have hm:p.length*(16777216+1)<=64*16777217:=Q0 _ hp.l;exact Qyz hp.t hp.ln hp.b hq (by omega)
theorem Zlr {p:List Int} {q:Rat} (hp:Pb p) (hq:Qb q):W8 Tryz.prog 159 [pr (U8 p),.agg (rl q)] [.one (.int .i64 (Ft (U8 p) q))]:=by
 have hl:=Qd (Tt p) (show p.length-1<=64 by have:=hp.l; omega);have hm:(U8 p).length*(16777216+1)<=64*16777217:=Q0 _ hl;exact Qyz (Uw _ _) (Zt hl (by omega)) (Qhm (t:=6) hp.b hp.l) hq (by omega)
theorem Be {t:Tm} (ht:Tb t):W8 Tryz.prog 135 [.agg (ta t)] [.one (.bool t.point)] :=
 w tt Tryz.func135 rfl [.c [] (C6 ht.lo.s31 ht.hi.s31)] rfl rfl trivial
theorem Qhp {t:Tm} (ht:Tb t):W8 Tryz.prog 134 [.agg (ta t)] [.agg (ta t)] :=
 w tt Tryz.func134 rfl [.c [] (Gm ht.p.t ht.p.ln ht.p.bd),.c [] (Lc ht.lo.s32),.c [] (Lc ht.hi.s32)] rfl rfl trivial
theorem Q67 {t:Tm} (ht:Tb t):W8 Tryz.prog 131 [.agg (ta t)] [.agg (ta t)]:=w tt Tryz.func131 rfl [.c [] (Qhp ht)] rfl rfl trivial
theorem Q6q {p:List Int} {q:Rat} (hp:Pb p) (hq:Qb q):W8 Tryz.prog 160 [pr p,.agg (rl q)] [.one (.int .i64 (low p q))]:=by
 unfold low;by_cases h:Ft p q=0
 ·rw [if_neg (by simpa using h)];exact w tt Tryz.func160 rfl [.c [] (Qhb hp hq),.f (by simpa using h),.c [] (Em hp.ln hp.bd),.c [] (Zlr hp hq)] rfl rfl trivial
 ·rw [if_pos h];exact w tt Tryz.func160 rfl [.c [] (Qhb hp hq),.t (by simpa using h)] rfl rfl trivial
theorem Q6n {p:List Int} {lo hi:Rat} (hp:Pb p) (hl:Qb lo) (hh:Qb hi):W8 Tryz.prog 138 [pr p,.agg (rl lo),.agg (rl hi)] [.one (.bool (Qdh p lo hi))]:=by
 by_cases h:Ft p hi=0
 ·exact w tt Tryz.func138 rfl [.c [] (Qhb hp hh),.t (by simpa using h)] rfl (by simp [Qdh,h]) trivial
 ·exact w tt Tryz.func138 rfl [.c [] (Qhb hp hh),.f (by simpa using h),.c [] (Q6q hp hl)] rfl (by simp [Qdh,h]) trivial
theorem Qe2 {t:Tm} {q:Rat} (ht:Tb t) (hq:Qb q):W8 Tryz.prog 115 [.agg (ta t),.agg (rl q)] [.one (.int .i64 (Uq t q))]:=by
 have cp:=Be ht;unfold Uq;by_cases h1:t.point=true
 ·rw [if_pos h1];exact w tt Tryz.func115 rfl [.c [] cp,.t h1,.c [] (C6 ht.lo.s31 hq.s31)] rfl rfl trivial
 rw [if_neg h1];have h1:t.point=false:=by simpa using h1
 have c1:=C6 hq.s31 ht.lo.s31;have c2:=C6 hq.s31 ht.hi.s31;by_cases h2:Fy q t.lo<=0
 ·rw [if_pos h2];exact w tt Tryz.func115 rfl [.c [] cp,.f h1,.c [] c1,.t (by simpa using h2)] rfl rfl trivial
 rw [if_neg h2];by_cases h3:0<Fy q t.hi
 ·rw [if_pos h3];exact w tt Tryz.func115 rfl [.c [] cp,.f h1,.c [] c1,.f (by simpa using h2),.c [] c2,.t (by simpa using h3)] rfl rfl trivial
 rw [if_neg h3];by_cases h4:Ft t.p q=0
 ·rw [if_pos h4];exact w tt Tryz.func115 rfl [.c [] cp,.f h1,.c [] c1,.f (by simpa using h2),.c [] c2,.f (by simpa using h3),.c [] (Qhb ht.p hq),.t (by simpa using h4)] rfl rfl trivial
 rw [if_neg h4];by_cases h5:Ft t.p q=low t.p t.lo
 ·rw [if_pos h5];exact w tt Tryz.func115 rfl [.c [] cp,.f h1,.c [] c1,.f (by simpa using h2),.c [] c2,.f (by simpa using h3),.c [] (Qhb ht.p hq),.f (by simpa using h4),.c [] (Q6q ht.p ht.lo),.t (by simpa using h5)] rfl rfl trivial
 ·rw [if_neg h5];exact w tt Tryz.func115 rfl [.c [] cp,.f h1,.c [] c1,.f (by simpa using h2),.c [] c2,.f (by simpa using h3),.c [] (Qhb ht.p hq),.f (by simpa using h4),.c [] (Q6q ht.p ht.lo),.f (by simpa using h5)] rfl rfl trivial
theorem Zd0 (t:Tm) (q:Rat):-1<=Uq t q/\Uq t q<=1:=by
 unfold Uq;have:=Az t.lo q
 repeat' split
 all_goals omega
theorem Zd7 (q:Rat):0<(q.den:Int):=by have:=q.den_pos; omega
theorem Zg1 {a b:Rat} (ha:Qb a) (hb:Qb b):W8 Tryz.prog 228 [.agg (rl a),.agg (rl b)] [.agg (rl (mid a b))]:=by
 have h1:Uh (a.num*(b.den:Int))<=33554432:=Qd (Us _ _) (by have:=ha.1; have:=hb.2; omega);have h2:Uh (b.num*(a.den:Int))<=33554432:=Qd (Us _ _) (by have:=hb.1; have:=ha.2; omega);have h3:Uh ((a.den:Int)*(b.den:Int))<=33554432:=Qd (Us _ _) (by have:=ha.2; have:=hb.2; omega);have h4:Uh (2:Int)<=2:=by decide
 have h5:Uh (a.num*(b.den:Int)+b.num*(a.den:Int))<=33554433:=Qd (Qau _ _) (by omega);have h6:Uh ((a.den:Int)*(b.den:Int)*2)<=33554434:=Qd (Us _ _) (by omega);have h0:(a.den:Int)*(b.den:Int)*2≠0:=by
  have:=Int.mul_pos (Zd7 a) (Zd7 b); omega
 exact w tt Tryz.func228 rfl [.c [] (Qox ha.s31 hb.s31),.c [] (Qb0 (W9 _) (W9 _) (by omega) (by omega)),.c [] (Qvo (z:=2) (by decide)),.c [] (C5 (W9 _) (W9 _) (by omega) (by omega)),.c [] (Iz h0 (by omega) (by omega))] rfl rfl trivial
theorem Qo2 {a b:Rat} (ha:Qb a) (hb:Qb b):W8 Tryz.prog 182 [.agg (rl a),.agg (rl b)] [.agg (rl (Qk7 a b))]:=by
 have h1:Uh (a.num*(b.den:Int))<=33554432:=Qd (Us _ _) (by have:=ha.1; have:=hb.2; omega);have h2:Uh (b.num*(a.den:Int))<=33554432:=Qd (Us _ _) (by have:=hb.1; have:=ha.2; omega);have h3:Uh ((a.den:Int)*(b.den:Int))<=33554432:=Qd (Us _ _) (by have:=ha.2; have:=hb.2; omega);have h5:Uh (a.num*(b.den:Int)-b.num*(a.den:Int))<=33554433:=Qd (Qpq _ _) (by omega);have h0:(a.den:Int)*(b.den:Int)≠0:=by
  have:=Int.mul_pos (Zd7 a) (Zd7 b); omega
 exact w tt Tryz.func182 rfl [.c [] (Qox ha.s31 hb.s31),.c [] (Q6g (W9 _) (W9 _) (by omega) (by omega)),.c [] (Iz h0 (by omega) (by omega))] rfl rfl trivial
theorem Qi8 {q r:Rat} (h:chq q=some r):r=q/\Qb q:=by
 unfold chq at h
 split at h
 ·rename_i hc; injection h with h; exact ⟨h.symm,hc⟩
 ·cases h
theorem Qvw {t u:Tm} (ht:Tb t) (h:Qpj t=some u):W8 Tryz.prog 183 [.agg (ta t)] [.agg (ta u)]:=by
 have cp:=Be ht;unfold Qpj at h
 split at h
 ·rename_i h1;injection h with h; subst h;exact w tt Tryz.func183 rfl [.c [] cp,.t h1] rfl rfl trivial
 ·rename_i h1;have h1:t.point=false:=by simpa using h1
  obtain ⟨m,hm0,h⟩:=Qf.1 h;obtain ⟨rfl,hm⟩:=Qi8 hm0;injection h with h;subst h;have cm:=Zg1 ht.lo ht.hi;have cc:=Qe2 ht hm;by_cases h2:Uq t (mid t.lo t.hi)=0
  ·rw [if_pos h2];exact w tt Tryz.func183 rfl [.c [] cp,.f h1,.c [] cm,.c [] cc,.t (by simpa using h2)] rfl rfl trivial
  rw [if_neg h2];by_cases h3:Uq t (mid t.lo t.hi)=-1
  ·rw [if_pos h3];exact w tt Tryz.func183 rfl [.c [] cp,.f h1,.c [] cm,.c [] cc,.f (by simpa using h2),.t (by simpa using h3)] rfl rfl trivial
  ·rw [if_neg h3];exact w tt Tryz.func183 rfl [.c [] cp,.f h1,.c [] cm,.c [] cc,.f (by simpa using h2),.f (by simpa using h3)] rfl rfl trivial
theorem Qqv {t u:Tm} (ht:Tb t) (h:Qpj t=some u):Tb u:=by
 unfold Qpj at h
 split at h
 ·injection h with h; subst h; exact ht
 ·obtain ⟨m,hm0,h⟩:=Qf.1 h;obtain ⟨rfl,hm⟩:=Qi8 hm0;injection h with h;subst h
  repeat' split
  ·exact ⟨ht.p,hm,hm⟩
  ·exact ⟨ht.p,ht.lo,hm⟩
  ·exact ⟨ht.p,hm,ht.hi⟩
theorem As {z:Int} (h:Uh z<=4294967296):W8 Tryz.prog 225 [.one (mg z)] [.one (.int .i64 (Uh z:Int))]:=by
 have h1:=Qvk (l:=Up z.natAbs) (Bq _) (by rw [Fa]; exact h);rw [Fa] at h1; exact h1
theorem Qk1 {p:List Int} {i:Nat} {z:Int} (h:p[i]? = some z):Fj (p.take (i+1))=max (Fj (p.take i)) (Uh z):=by
 unfold Fj; rw [List.take_succ,h,Option.toList_some,List.foldl_append]; rfl
theorem Ty {p:List Int} {s:Nat} (h:Bd s p):∀ i,Fj (p.take i)<=s
 | 0=>by simp [Fj]
 |
  i+1=>by
  cases hz:p[i]? with
  |
   none =>
   rw [Qj (by have:=Ji.1 hz; omega),<-Qj (l:=p) (i:=i) (by have:=Ji.1 hz; omega)];exact Ty h i
  | some z=>rw [Qk1 hz]; have:=Ty h i; have:=Q5g h hz; omega
theorem Qo3 {p:List Int} (hp:Pb p):W8 Tryz.prog 226 [pr p] [.one (.int .i64 (Fj p:Int))]:=by
 have hl:=hp.l;refine Fv Tryz.func226 rfl ?_;refine go tt [] rfl trivial ?_;refine lp (S:=Nat) 0 (λL1 i=>(8,.v (.one (.int .i64 (i:Int))))::(3,.v (.one (.int .i64 (Fj (p.take i):Int))))::L1) (λ_=>[]) (λi=>p.length-i) (λi=>i<=p.length) 0 (Qg _) rfl (λ_ _=>rfl) rfl λi hi=>?_
 by_cases hlt:i<p.length
 ·have hg:=Gy hlt;have hz:=Ul hp.b i;have hs:=Qk1 hg;refine go tt [.t (by simp; omega),.x (Ru hg),.c [] (As (by omega)),.r 16 (eI (b:=(Fj (p.take (i+1)):Int)) (by rw [hs]; omega))] rfl (by simp [W6]; omega) ?_;exact rd (i+1) (by omega) hlt rfl
 ·obtain rfl:i=p.length:=by omega
  rw [Q4];exact en tt [.f (by simp)] rfl rfl trivial
theorem Zdw {a:Tm} {b:Tm} (ha:Tb a) (hb:Tb b):W8 Tryz.prog 181 [.agg (ta a),.agg (ta b)] [.one (.int .i64 (Ti a b:Nat))]:=by
 have l1:=ha.p.l;have l2:=hb.p.l;have b1:=ha.lo.1;have b2:=ha.hi.1;have b3:=hb.lo.1;have b4:=hb.hi.1;have s1:Fj a.p<=16777216:=by have:=Ty ha.p.b a.p.length; rwa [Q4] at this
 have s2:Fj b.p<=16777216:=by have:=Ty hb.p.b b.p.length; rwa [Q4] at this
 obtain ⟨N,hN⟩:=nmE (4*(a.p.length+b.p.length));obtain ⟨S,hS⟩:=nmE (Fj a.p+Fj b.p+(a.p.length+b.p.length)+8);have hNS:N*S<=512*33554568:=Zy (by omega) (by omega);have h0:(N:Int)*(S:Int)=((N*S:Nat):Int):=(Y7 _ _).symm;have hst:Ti a b=64+2*(Uh a.lo.num+Uh a.hi.num+Uh b.lo.num+Uh b.hi.num)+N*S:=by rw [hN,hS]; rfl
 rw [hst];exact w tt Tryz.func181 rfl [.c [] (As (z:=a.lo.num) (by omega)),.c [] (As (z:=a.hi.num) (by omega)),.c [] (As (z:=b.lo.num) (by omega)),.c [] (As (z:=b.hi.num) (by omega)),.r 41 (eI (b:=(N:Int)) (by rw [hN]; simp)),.c [] (Qo3 ha.p),.c [] (Qo3 hb.p),.r 51 (eI (b:=(S:Int)) (by rw [hS]; simp)),.r 52 (eI (b:=((N*S:Nat):Int)) h0)] rfl (by simp) (by rw [h0]; simp [W6]; omega)
def Qx7 (p:List Int) (a:Tm):Nat:=64+2*(Uh a.lo.num+Uh a.hi.num)+4*(a.p.length+p.length)*(Fj a.p+Fj p+(a.p.length+p.length)+8)
theorem Qys:W8 Tryz.prog 225 [lr []] [.one (.int .i64 0)]:=Qvk (l:=[]) (by simp [Sm]) (by decide)
theorem Q66 {a:Tm} {p:List Int} (ha:Tb a) (hp:Pb p):W8 Tryz.prog 181 [.agg (ta a),.agg ([pl p,.bool false,.row [],.bool false,.row [],.bool false,.row [],.bool false,.row []])] [.one (.int .i64 (Qx7 p a:Nat))]:=by
 have l1:=ha.p.l;have l2:=hp.l;have b1:=ha.lo.1;have b2:=ha.hi.1;have s1:Fj a.p<=16777216:=by have:=Ty ha.p.b a.p.length; rwa [Q4] at this
 have s2:Fj p<=16777216:=by have:=Ty hp.b p.length; rwa [Q4] at this
 obtain ⟨N,hN⟩:=nmE (4*(a.p.length+p.length));obtain ⟨S,hS⟩:=nmE (Fj a.p+Fj p+(a.p.length+p.length)+8);have hNS:N*S<=512*33554568:=Zy (by omega) (by omega);have h0:(N:Int)*(S:Int)=((N*S:Nat):Int):=(Y7 _ _).symm;have hst:Qx7 p a=64+2*(Uh a.lo.num+Uh a.hi.num)+N*S:=by rw [hN,hS]; rfl
 rw [hst];exact w tt Tryz.func181 rfl [.c [] (As (z:=a.lo.num) (by omega)),.c [] (As (z:=a.hi.num) (by omega)),.c [] Qys,.c [] Qys,.r 41 (eI (b:=(N:Int)) (by rw [hN]; simp)),.c [] (Qo3 ha.p),.c [] (Qo3 hp),.r 51 (eI (b:=(S:Int)) (by rw [hS]; simp)),.r 52 (eI (b:=((N*S:Nat):Int)) h0)] rfl (by simp) (by rw [h0]; simp [W6]; omega)
def tst (sg:List Int->Int) (l:List (List Int)) (i:Nat):Nat×Int:=(l.take i).foldl (Rz sg) (0,0)
theorem Qqz {sg:List Int->Int} (hs:∀ p,-1<=sg p/\sg p<=1) (l:List (List Int)):∀ i,(tst sg l i).1<=i/\-1<=(tst sg l i).2/\(tst sg l i).2<=1
 | 0=>⟨Qn _,show (-1:Int)<=0 by decide,show (0:Int)<=1 by decide⟩
 |
  i+1=>by
  obtain ⟨h1,h2,h3⟩:=Qqz hs l i;cases h:l[i]? with
  |
   none =>
   have:tst sg l (i+1)=tst sg l i:=by unfold tst; rw [List.take_of_length_le (by have:=List.getElem?_eq_none_iff.1 h; omega),List.take_of_length_le (List.getElem?_eq_none_iff.1 h)]
   rw [this]; omega
  |
   some p =>
   have:tst sg l (i+1)=Rz sg (tst sg l i) p:=Hh _ _ _ h;rw [this];have:=hs p;unfold Rz
   split
   ·omega
   ·dsimp only; split <;> omega
theorem Zdx {l:List (List Int)} {fid:Nat} {l1:List LV} {sg:List Int->Int} (hl:l.length≤1000) (hs:∀ p,-1≤sg p/\sg p≤1) (h:∀ p∈l,W8 Tryz.prog fid [pr p,.one (.sh l1)] [.one (.int .i64 (sg p))]):W8 Tryz.prog 290 [.one (.sh [.row (Tk l)]),.one (.fn fid [] [.sh l1])] [.one (.int .i64 (Mw sg l:Nat))]:=by
 have hpl:=Cw l;refine Fv Tryz.func290 rfl ?_;refine go tt [] rfl trivial ?_;refine lp (S:=Nat) 0 (λL1 i=>(15,.v (.one (.int .i64 (i:Int))))::(5,.v (.one (.int .i64 ((tst sg l i).1:Int))))::(6,.v (.one (.int .i64 (tst sg l i).2)))::L1) (λ_=>[]) (λi=>l.length-i) (λi=>i<=l.length) 0 (Qg _) rfl (λ_ _=>rfl) rfl λi hi=>?_
 by_cases hlt:i<l.length
 ·obtain ⟨p,hp⟩:=gxE (l:=l) (i:=i) hlt;have hst:tst sg l (i+1)=Rz sg (tst sg l i) p:=Hh _ _ _ hp;obtain ⟨b1,b2,b3⟩:=Qqz hs l i;have b4:=hs p;by_cases h0:sg p=0
  ·refine go tt [.t (by simp [hpl]; omega),.x (Hw hp),.c [] (h p (Qa hp)),.t (by simpa using h0)] rfl (by simp [W6]; omega) ?_;exact rd (i+1) (by omega) hlt (by rw [hst,show Rz sg (tst sg l i) p=tst sg l i from by unfold Rz; rw [if_pos h0]]; rfl)
  ·by_cases h1:(tst sg l i).2=-(sg p)
   ·refine go tt [.t (by simp [hpl]; omega),.x (Hw hp),.c [] (h p (Qa hp)),.f (by simpa using h0),.t (by simpa using h1)] rfl (by simp [W6]; omega) ?_;exact rd (i+1) (by omega) hlt (by rw [hst,show Rz sg (tst sg l i) p=((tst sg l i).1+1,sg p) from by unfold Rz; rw [if_neg h0,if_pos h1]]; rfl)
   ·refine go tt [.t (by simp [hpl]; omega),.x (Hw hp),.c [] (h p (Qa hp)),.f (by simpa using h0),.f (by simpa using h1)] rfl (by simp [W6]; omega) ?_;exact rd (i+1) (by omega) hlt (by rw [hst,show Rz sg (tst sg l i) p=((tst sg l i).1,sg p) from by unfold Rz; rw [if_neg h0,if_neg h1]]; rfl)
 ·obtain rfl:i=l.length:=by omega
  refine en tt [.f (by simp [hpl])] rfl ?_ trivial;unfold tst Mw; rw [List.take_length]
theorem Q6e {p:List Int} {q:Rat} (hp:Pb p) (hq:Qb q):W8 Tryz.prog 291 [pr p,.one (.sh (rl q))] [.one (.int .i64 (Ft p q))]:=w tt Tryz.func291 rfl [.c [] (Qhb hp hq)] rfl rfl trivial
theorem Qy2 {l:List (List Int)} {q:Rat} (hl:l.length≤1000) (hp:∀ p∈l,Pb p) (hq:Qb q):W8 Tryz.prog 278 [.one (.sh [.row (Tk l)]),.agg (rl q)] [.one (.int .i64 (Mx l q:Nat))] :=
 w tt Tryz.func278 rfl [.c [] (Zdx (fid:=291) (l1:=rl q) (sg:=λp=>Ft p q) hl (λp=>Ab p q) λp h=>Q6e (hp p h) hq)] rfl rfl trivial
theorem Bs {sg:List Int->Int} (hs:∀ p,-1<=sg p/\sg p<=1) (l:List (List Int)):Mw sg l<=l.length:=by
 have:=(Qqz hs l l.length).1;unfold tst at this; rwa [List.take_length] at this
theorem Ql8 {l:List (List Int)} {lo hi:Rat} (hl:l.length≤1000) (hp:∀ p∈l,Pb p) (ql:Qb lo) (qh:Qb hi):W8 Tryz.prog 250 [.one (.sh [.row (Tk l)]),.agg (rl lo),.agg (rl hi)] [.one (.int .i64 (Ho l lo hi))]:=by
 have b1:Mx l lo<=l.length:=Bs (λp=>Ab p lo) l;have b2:Mx l hi<=l.length:=Bs (λp=>Ab p hi) l;have c1:=C6 qh.s31 ql.s31;unfold Ho;by_cases h:Fy hi lo<0
 ·rw [if_pos h];exact w tt Tryz.func250 rfl [.c [] c1,.t (by simpa using h)] rfl rfl trivial
 ·rw [if_neg h];exact w tt Tryz.func250 rfl [.c [] c1,.f (by simpa using h),.c [] (Qy2 hl hp ql),.c [] (Qy2 hl hp qh)] rfl rfl (by simp [W6]; omega)
def zTm:List LV:=[.nils,.bool false,.nils,.bool false,.nils,.bool false,.nils,.bool false,.nils]
theorem Q4i {a b:Tm} (ha:Tb a) (hb:Tb b):Ti a b<=17179938816+200000000:=by
 have l1:=ha.p.l;have l2:=hb.p.l;have b1:=ha.lo.1;have b2:=ha.hi.1;have b3:=hb.lo.1;have b4:=hb.hi.1;have s1:Fj a.p<=16777216:=by have:=Ty ha.p.b a.p.length; rwa [Q4] at this
 have s2:Fj b.p<=16777216:=by have:=Ty hb.p.b b.p.length; rwa [Q4] at this
 have:4*(a.p.length+b.p.length)*(Fj a.p+Fj b.p+(a.p.length+b.p.length)+8)<=512*33554568:=Zy (by omega) (by omega);unfold Ti; omega
theorem Zfp {a b:Rat} (ha:Qb a) (hb:Qb b):Qs 2147483647 (Qk7 a b):=by
 have h1:Uh (a.num*(b.den:Int))<=33554432:=Qd (Us _ _) (by have:=ha.1; have:=hb.2; omega);have h2:Uh (b.num*(a.den:Int))<=33554432:=Qd (Us _ _) (by have:=hb.1; have:=ha.2; omega);have h3:Uh ((a.den:Int)*(b.den:Int))<=33554432:=Qd (Us _ _) (by have:=ha.2; have:=hb.2; omega);have h5:Uh (a.num*(b.den:Int)-b.num*(a.den:Int))<=33554433:=Qd (Qpq _ _) (by omega);exact (Qs.divInt (s:=33554433) h5 (by omega) (by omega)).mono (by omega)
theorem Qou {a b:Tm} {r:Tm×Tm×Int} (ha:Tb a) (hb:Tb b) (h:apF (Ti a b) a b=some r):W8 Tryz.prog 139 [.agg (ta a),.agg (ta b)] [.agg (ta r.1),.agg (ta r.2.1),.one (.int .i64 r.2.2)]:=by
 have hsb:=Q4i ha hb;refine Fv Tryz.func139 rfl ?_;refine go tt [.c [] (Zdw ha hb)] rfl trivial ?_;obtain ⟨n,hn⟩:=nmE (Ti a b);rw [<-hn] at h hsb ⊢;refine sb [(10,.v (.one (.int .i64 0))),(9,.v (.one (.int .i64 (n:Int)))),(5,.v (.one (.ow 3 0))),(4,.v (.one (.ow 2 0))),(3,.v (.one (.ow 1 0))),(2,.v (.one (.ow 0 0)))] [.blk 79 (ta a),.blk 79 (ta b),.blk 79 zTm,.blk 79 zTm] rfl rfl ?_;refine lp (S:=Nat×Tm×Tm) 4 (λL1 s=>(10,.v (.one (.int .i64 (s.1:Int))))::L1) (λs=>[.blk 79 (ta s.2.1),.blk 79 (ta s.2.2),.blk 79 zTm,.blk 79 zTm]) (λs=>n-s.1) (λs=>s.1<=n/\Tb s.2.1/\Tb s.2.2/\apF (n-s.1) s.2.1 s.2.2=some r) (0,a,b) ⟨Qg _,ha,hb,h⟩ rfl (λ_ _=>rfl) rfl λ⟨i,u,v⟩ ⟨j1,j2,j3,j4⟩=>?_
 dsimp only at j1 j2 j3 j4 ⊢;by_cases hi:i<n
 ·obtain ⟨k,hk⟩:∃ k,n-i=k+1:=⟨n-i-1,by omega⟩;have hk':n-(i+1)=k:=by omega
  rw [hk] at j4;have c1:=C6 j2.hi.s31 j3.lo.s31;have c2:=C6 j3.hi.s31 j2.lo.s31;have pu:=Be j2;have pv:=Be j3;have hlt:decide ((i:Int)<(n:Int))=true:=by simp; omega
  simp only [apF] at j4;refine go tt [.t hlt] rfl trivial ?_;refine ct 3 (S:=Unit) (λ_=>[(10,.v (.one (.int .i64 (i:Int)))),(9,.v (.one (.int .i64 (n:Int)))),(5,.v (.one (.ow 3 0))),(4,.v (.one (.ow 2 0))),(3,.v (.one (.ow 1 0))),(2,.v (.one (.ow 0 0)))]) (λ_=>[.blk 79 (ta u),.blk 79 (ta v),.blk 79 zTm,.blk 79 zTm]) (λ_=>¬Ba u v=true/\¬Ba v u=true) rfl ?_ ?_
  ·have bA:Ba u v=(decide (Fy u.hi v.lo<=0) && !(u.point && v.point && decide (Fy u.hi v.lo=0))):=by
    unfold Ba; cases u.point <;> cases v.point <;> simp
   have bB:Ba v u=(decide (Fy v.hi u.lo<=0) && !(u.point && v.point && decide (Fy v.hi u.lo=0))):=by
    unfold Ba; cases u.point <;> cases v.point <;> simp
   obtain ⟨a0,A'⟩:∃ b,decide (Fy u.hi v.lo<=0)=b:=⟨_,rfl⟩;obtain ⟨b0,B'⟩:∃ b,decide (Fy v.hi u.lo<=0)=b:=⟨_,rfl⟩;obtain ⟨p0,P'⟩:∃ b,u.point=b:=⟨_,rfl⟩;obtain ⟨q0,Q'⟩:∃ b,v.point=b:=⟨_,rfl⟩;obtain ⟨x0,X'⟩:∃ b,decide (Fy u.hi v.lo=0)=b:=⟨_,rfl⟩;obtain ⟨y0,Y'⟩:∃ b,decide (Fy v.hi u.lo=0)=b:=⟨_,rfl⟩;rw [A',P',Q',X'] at bA;rw [B',P',Q',Y'] at bB;have r1:Ba u v=true->(u,v,-1)=r:=λh=>by rw [if_pos h] at j4; injection j4
   have r2:¬Ba u v=true->Ba v u=true->(u,v,1)=r:=λh h'=>by rw [if_neg h,if_pos h'] at j4; injection j4
   clear j4;cases a0
   ·cases b0
    ·exact go tt [.c [] c1,.g 19 false A',.f rfl,.c [] c2,.g 45 false B',.f rfl] rfl trivial (rc () ⟨by rw [bA]; simp,by rw [bB]; simp⟩ rfl)
    ·cases p0
     ·obtain rfl:=r2 (by rw [bA]; simp) (by rw [bB]; rfl);exact en tt [.c [] c1,.g 19 false A',.f rfl,.c [] c2,.g 45 true B',.c [] pu,.g 48 false P',.g 52 false rfl,.t rfl] rfl rfl trivial
     ·cases q0
      ·obtain rfl:=r2 (by rw [bA]; simp) (by rw [bB]; rfl);exact en tt [.c [] c1,.g 19 false A',.f rfl,.c [] c2,.g 45 true B',.c [] pu,.g 48 true P',.c [] pv,.g 52 false Q',.t rfl] rfl rfl trivial
      ·cases y0
       ·obtain rfl:=r2 (by rw [bA]; simp) (by rw [bB]; rfl);exact en tt [.c [] c1,.g 19 false A',.f rfl,.c [] c2,.g 45 true B',.c [] pu,.g 48 true P',.c [] pv,.g 52 true Q',.c [] c2,.t (by simpa using Y')] rfl rfl trivial
       ·exact go tt [.c [] c1,.g 19 false A',.f rfl,.c [] c2,.g 45 true B',.c [] pu,.g 48 true P',.c [] pv,.g 52 true Q',.c [] c2,.f (by simpa using Y')] rfl trivial (rc () ⟨by rw [bA]; simp,by rw [bB]; simp⟩ rfl)
   ·cases p0
    ·obtain rfl:=r1 (by rw [bA]; rfl);exact en tt [.c [] c1,.g 19 true A',.c [] pu,.g 22 false P',.g 26 false rfl,.t rfl] rfl rfl trivial
    ·cases q0
     ·obtain rfl:=r1 (by rw [bA]; rfl);exact en tt [.c [] c1,.g 19 true A',.c [] pu,.g 22 true P',.c [] pv,.g 26 false Q',.t rfl] rfl rfl trivial
     ·cases x0
      ·obtain rfl:=r1 (by rw [bA]; rfl);exact en tt [.c [] c1,.g 19 true A',.c [] pu,.g 22 true P',.c [] pv,.g 26 true Q',.c [] c1,.t (by simpa using X')] rfl rfl trivial
      ·cases b0
       ·exact go tt [.c [] c1,.g 19 true A',.c [] pu,.g 22 true P',.c [] pv,.g 26 true Q',.c [] c1,.f (by simpa using X'),.c [] c2,.g 45 false B',.f rfl] rfl trivial (rc () ⟨by rw [bA]; simp,by rw [bB]; simp⟩ rfl)
       ·cases y0
        ·obtain rfl:=r2 (by rw [bA]; simp) (by rw [bB]; rfl);exact en tt [.c [] c1,.g 19 true A',.c [] pu,.g 22 true P',.c [] pv,.g 26 true Q',.c [] c1,.f (by simpa using X'),.c [] c2,.g 45 true B',.c [] pu,.g 48 true P',.c [] pv,.g 52 true Q',.c [] c2,.t (by simpa using Y')] rfl rfl trivial
        ·exact go tt [.c [] c1,.g 19 true A',.c [] pu,.g 22 true P',.c [] pv,.g 26 true Q',.c [] c1,.f (by simpa using X'),.c [] c2,.g 45 true B',.c [] pu,.g 48 true P',.c [] pv,.g 52 true Q',.c [] c2,.f (by simpa using Y')] rfl trivial (rc () ⟨by rw [bA]; simp,by rw [bB]; simp⟩ rfl)
  ·rintro _ ⟨n1,n2⟩
   rw [if_neg n1,if_neg n2] at j4;have qr:∀ {x y:Rat},Qb x->Qb y->Qs 2147483647 (Qk7 x y):=λh1 h2=>Zfp h1 h2
   have cc:=C6 (qr j2.hi j2.lo) (qr j3.hi j3.lo);by_cases D:0<=Fy (Qk7 u.hi u.lo) (Qk7 v.hi v.lo)
   ·rw [if_pos D] at j4;obtain ⟨x,x1,x2⟩:=Qf.1 j4;refine go tt [.c [] (Qo2 j2.hi j2.lo),.c [] (Qo2 j3.hi j3.lo),.c [] cc,.t (by simpa using D),.c [] (Qvw j2 x1)] rfl (by simp [W6]; omega) ?_;exact rd (i+1,x,v) (by dsimp only; omega) ⟨hi,Qqv j2 x1,j3,by dsimp only; rw [hk']; exact x2⟩ rfl
   ·rw [if_neg D] at j4;obtain ⟨x,x1,x2⟩:=Qf.1 j4;refine go tt [.c [] (Qo2 j2.hi j2.lo),.c [] (Qo2 j3.hi j3.lo),.c [] cc,.f (by simpa using D),.c [] (Qvw j3 x1)] rfl (by simp [W6]; omega) ?_;exact rd (i+1,u,x) (by dsimp only; omega) ⟨hi,j2,Qqv j3 x1,by dsimp only; rw [hk']; exact x2⟩ rfl
 ·obtain rfl:i=n:=by omega
  rw [Ys] at j4;simp only [apF] at j4;injection j4 with j4; subst j4;exact en tt [.f (by simp)] rfl rfl trivial
theorem Zdq {a b:Rat} (ha:Qb a) (hb:Qb b):W8 Tryz.prog 60 [.agg (rl a),.one (.row [rl b])] [.agg (rl (if 0<Fy b a then b else a))]:=by
 have ca:=Qho (W9 a.num) (W9 (a.den:Int)) ha.s32.1 ha.s32.2;have cb:=Qho (W9 b.num) (W9 (b.den:Int)) hb.s32.1 hb.s32.2;rw [Ie] at ca cb;have cc:=C6 hb.s31 ha.s31;refine Fv Tryz.func60 rfl ?_;refine go tt [.c [] ca] rfl trivial ?_;refine lp (S:=Nat) 3 (λL1 i=>(12,.v (.one (.int .i64 (i:Int))))::L1) (λi=>[.blk 74 (rl a),.blk 74 [.bool false,.nils,.bool false,.nils],.blk 74 (rl (if i=0 then a else if 0<Fy b a then b else a))]) (λi=>1-i) (λi=>i<=1) 0 (Qg _) rfl (λ_ _=>rfl) rfl λi hi=>?_
 rcases (show i=0\/i=1 by omega) with rfl | rfl
 ·by_cases h:0<Fy b a
  ·refine go tt [.t rfl,.x (i:=0) (xs:=rl b) rfl,.c [] cc,.t (by simpa using h),.c [] cb] rfl (by simp [W6]) ?_;exact rd 1 (by omega) (by omega) (by rw [if_pos h]; rfl)
  ·refine go tt [.t rfl,.x (i:=0) (xs:=rl b) rfl,.c [] cc,.f (by simpa using h)] rfl (by simp [W6]) ?_;exact rd 1 (by omega) (by omega) (by rw [if_neg h]; rfl)
 ·exact en tt [.f rfl] rfl rfl trivial
theorem Qiv {a b:Tm} {c:Int} (ha:Tb a) (hb:Tb b) (h:Qe7 a b=some c):W8 Tryz.prog 78 [.agg (ta a),.agg (ta b)] [.one (.int .i64 c)]:=by
 have ca:=Qhp ha;have cb:=Qhp hb;have pa:=Be ha;have pb:=Be hb;unfold Qe7 at h;by_cases h1:a.point=true
 ·rw [if_pos h1] at h;injection h with h; subst h;have:=Zd0 b a.lo;exact w tt Tryz.func78 rfl [.c [] ca,.c [] cb,.c [] pa,.t h1,.c [] (Qe2 hb ha.lo)] rfl rfl (by simp [W6]; omega)
 rw [if_neg h1] at h;have h1:a.point=false:=by simpa using h1
 by_cases h2:b.point=true
 ·rw [if_pos h2] at h;injection h with h; subst h;exact w tt Tryz.func78 rfl [.c [] ca,.c [] cb,.c [] pa,.f h1,.c [] pb,.t h2,.c [] (Qe2 ha hb.lo)] rfl rfl trivial
 rw [if_neg h2] at h;have h2:b.point=false:=by simpa using h2
 obtain ⟨lo,hlo⟩:=nmE (if 0<Fy b.lo a.lo then b.lo else a.lo);obtain ⟨hi,hhi⟩:=nmE (if Fy b.hi a.hi<0 then b.hi else a.hi);have h:(if Fy lo hi<0 then (Qp7 a.p b.p).bind λg=>if 1<g.length/\Qdh g lo hi=true then some 0 else (apF (Ti a b) a b).bind λr=>some r.2.2 else (apF (Ti a b) a b).bind λr=>some r.2.2)=some c:=by rw [hlo,hhi]; exact h
 have qlo:Qb lo:=by rw [hlo]; split; exact hb.lo; exact ha.lo
 have qhi:Qb hi:=by rw [hhi]; split; exact hb.hi; exact ha.hi
 have cm:=Zdq ha.lo hb.lo;rw [<-hlo] at cm;have cc1:=C6 hb.hi.s31 ha.hi.s31;have cc2:=C6 qlo.s31 qhi.s31;refine Fv Tryz.func78 rfl ?_;refine go tt [.c [] ca,.c [] cb,.c [] pa,.f h1,.c [] pb,.f h2,.c [] cm] rfl trivial ?_;refine ct 2 (S:=Unit) (λ_=>[(6,.v (.one (.ow 3 0))),(5,.v (.one (.ow 2 0))),(4,.v (.one (.int .i64 0))),(3,.v (.one (.ow 1 0))),(2,.v (.one (.ow 0 0)))]) (λ_=>[.blk 79 (ta a),.blk 79 (ta b),.blk 74 (rl lo),.blk 74 (rl hi)]) (λ_=>True) rfl ?_ ?_
 ·by_cases D:Fy b.hi a.hi<0
  ·rw [if_pos D] at hhi; subst hhi;exact go tt [.c [] cc1,.t (by simpa using D)] rfl trivial (rc () trivial rfl)
  ·rw [if_neg D] at hhi; subst hhi;exact go tt [.c [] cc1,.f (by simpa using D)] rfl trivial (rc () trivial rfl)
 ·rintro _ _
  by_cases D:Fy lo hi<0
  ·rw [if_pos D] at h;obtain ⟨g,g1,h⟩:=Qf.1 h;have cg:=Q53 ha.p hb.p g1;have pg:=Q9o ha.p hb.p g1;have ch:=Q6n pg qlo qhi;by_cases G:1<g.length
   ·by_cases R:Qdh g lo hi=true
    ·rw [if_pos ⟨G,R⟩] at h;injection h with h; subst h;exact en tt [.c [] cc2,.t (by simpa using D),.c [] cg,.c [] (Pz g),.g 58 true (by simp; omega),.c [] ch,.t R] rfl rfl trivial
    ·rw [if_neg λh=>R h.2] at h;obtain ⟨r,r1,h⟩:=Qf.1 h;injection h with h; subst h;exact en tt [.c [] cc2,.t (by simpa using D),.c [] cg,.c [] (Pz g),.g 58 true (by simp; omega),.c [] ch,.f (by simpa using R),.c [] (Qou ha hb r1)] rfl rfl trivial
   ·rw [if_neg λh=>G h.1] at h;obtain ⟨r,r1,h⟩:=Qf.1 h;injection h with h; subst h;exact en tt [.c [] cc2,.t (by simpa using D),.c [] cg,.c [] (Pz g),.g 58 false (by simp; omega),.f rfl,.c [] (Qou ha hb r1)] rfl rfl trivial
  ·rw [if_neg D] at h;obtain ⟨r,r1,h⟩:=Qf.1 h;injection h with h; subst h;exact en tt [.c [] cc2,.f (by simpa using D),.c [] (Qou ha hb r1)] rfl rfl trivial
theorem Zct {p:List Int} {a:Tm} {s:Int} (hp:Pb p) (ha:Tb a) (h:Qee p a=some s):W8 Tryz.prog 219 [pr p,.agg (ta a)] [.one (.int .i64 s)]:=by
 have ca:=Qhp ha;have pa:=Be ha;have cn:=Gm hp.t hp.ln hp.bd;unfold Qee at h;by_cases h0:p.length=0
 ·rw [if_pos h0] at h;injection h with h; subst h;exact w tt Tryz.func219 rfl [.c [] cn,.c [] ca,.t (by simp; exact Qk h0)] rfl rfl trivial
 rw [if_neg h0] at h;have h0:p≠[]:=λe=>h0 (by rw [e]; rfl)
 by_cases h1:a.point=true
 ·rw [if_pos h1] at h;injection h with h; subst h;exact w tt Tryz.func219 rfl [.c [] cn,.c [] ca,.f (by simpa using h0),.c [] pa,.t h1,.c [] (Qhb hp ha.lo)] rfl rfl trivial
 rw [if_neg h1] at h;have h1:a.point=false:=by simpa using h1
 obtain ⟨g,g1,h⟩:=Qf.1 h;have cg:=Q53 hp ha.p g1;have pg:=Q9o hp ha.p g1;have ch:=Q6n pg ha.lo ha.hi;by_cases G:1<g.length/\Qdh g a.lo a.hi=true
 ·rw [if_pos G] at h;injection h with h; subst h;exact w tt Tryz.func219 rfl [.c [] cn,.c [] ca,.f (by simpa using h0),.c [] pa,.f h1,.c [] cg,.c [] (Pz g),.g 29 true (by simp; omega),.c [] ch,.t G.2] rfl rfl trivial
 rw [if_neg G] at h;obtain ⟨c,c1,h⟩:=Qf.1 h;obtain ⟨u,u1,h⟩:=Qf.1 h;injection h with h; subst h;obtain ⟨cl,call⟩:=chain_ok hp c1;obtain ⟨n,hn⟩:=nmE (64+2*(Uh a.lo.num+Uh a.hi.num)+4*(a.p.length+p.length)*(Fj a.p+Fj p+(a.p.length+p.length)+8));have cst:=Q66 ha hp;rw [show Qx7 p a=n from hn.symm] at cst;rw [<-hn] at u1;have hnb:n<=17179938816+200000000:=by
  have l1:=ha.p.l;have l2:=hp.l;have b1:=ha.lo.1;have b2:=ha.hi.1;have s1:Fj a.p<=16777216:=by have:=Ty ha.p.b a.p.length; rwa [Q4] at this
  have s2:Fj p<=16777216:=by have:=Ty hp.b p.length; rwa [Q4] at this
  have:4*(a.p.length+p.length)*(Fj a.p+Fj p+(a.p.length+p.length)+8)<=512*33554568:=Zy (by omega) (by omega);omega
 refine Fv Tryz.func219 rfl ?_;refine go tt [.c [] cn,.c [] ca,.f (by simpa using h0),.c [] pa,.f h1,.c [] cg] rfl trivial ?_;refine ct 2 (S:=Unit) (λ_=>[(3,.v (.one (.ow 0 0))),(0,.v (pr p))]) (λ_=>[.blk 79 (ta a)]) (λ_=>True) rfl ?_ ?_
 ·by_cases G1:1<g.length
  ·exact go tt [.c [] (Pz g),.g 29 true (by simp; omega),.c [] ch,.f (by simpa using λh=>G ⟨G1,h⟩)] rfl trivial (rc () trivial rfl)
  ·exact go tt [.c [] (Pz g),.g 29 false (by simp; omega),.f rfl] rfl trivial (rc () trivial rfl)
 rintro _ _
 refine go tt [.c [] (Q6a hp c1),.c [] cst] rfl trivial ?_;refine lp (S:=Nat×Tm) 1 (λL1 s=>(46,.v (.one (.int .i64 (s.1:Int))))::L1) (λs=>[.blk 79 (ta s.2)]) (λs=>n-s.1) (λs=>s.1<=n/\Tb s.2/\sgF c (n-s.1) s.2=some u) (0,a) ⟨Qg _,ha,u1⟩ rfl (λ_ _=>rfl) rfl λ⟨i,x⟩ ⟨j1,j2,j3⟩=>?_
 dsimp only at j1 j2 j3 ⊢;by_cases hi:i<n
 ·obtain ⟨k,hk⟩:∃ k,n-i=k+1:=⟨n-i-1,by omega⟩;have hk':n-(i+1)=k:=by omega
  rw [hk] at j3;simp only [sgF] at j3;have px:=Be j2;have cb:=Ql8 (by omega) call j2.lo j2.hi;have hlt:decide ((i:Int)<(n:Int))=true:=by simp; omega
  by_cases X:x.point=true
  ·rw [if_pos (.inl X)] at j3;injection j3 with j3; subst j3;exact en tt [.t hlt,.c [] px,.g 50 true X,.t rfl,.c [] (Qhb hp j2.hi)] rfl rfl trivial
  ·have X':x.point=false:=by simpa using X
   by_cases Z:Ho c x.lo x.hi=0
   ·rw [if_pos (.inr Z)] at j3;injection j3 with j3; subst j3;exact en tt [.t hlt,.c [] px,.g 50 false X',.c [] cb,.t (by simpa using Z),.c [] (Qhb hp j2.hi)] rfl rfl trivial
   ·rw [if_neg (by rintro (h | h); exact X h; exact Z h)] at j3;obtain ⟨v,v1,v2⟩:=Qf.1 j3;refine go tt [.t hlt,.c [] px,.g 50 false X',.c [] cb,.f (by simpa using Z),.c [] (Qvw j2 v1)] rfl (by simp [W6]; omega) ?_;exact rd (i+1,v) (by dsimp only; omega) ⟨hi,Qqv j2 v1,by dsimp only; rw [hk']; exact v2⟩ rfl
 ·obtain rfl:i=n:=by omega
  rw [Ys] at j3;simp only [sgF] at j3;injection j3 with j3; subst j3;exact en tt [.f (by simp),.c [] (Qhb hp j2.hi)] rfl rfl trivial
abbrev tas (l:List Tm):LV:=.row (l.map λt=>ta t)
theorem Qij {l:List Tm} {i:Nat} {t:Tm} (h:l[i]? = some t):(l.map λt=>ta t)[i]? = some (ta t):=Ff h
def zTr:List LV:=[.row [],.bool false,.row [],.bool false,.row [],.bool false,.row [],.bool false,.row []]
theorem Q5v:W8 Tryz.prog 72 [.one (.row [])] [.agg zTr,.one (.bool false)]:=w tt Tryz.func72 rfl [.t rfl] rfl rfl trivial
theorem Ix {b:Tm} {l:List Tm} {m:Tm} (hb:Tb b) (hl:∀ t∈l,Tb t) (hn:l.length≤1000000) (h:A9 b l=some m):W8 Tryz.prog 72 [.one (tas (b::l))] [.agg (ta m),.one (.bool true)]:=by
 refine Fv Tryz.func72 rfl ?_;refine go tt [.f (by simp; omega),.x (i:=0) (xs:=ta b) rfl,.i 1] rfl (by simp [W6]; exact ⟨rfl,λ_ _=>rfl⟩) ?_;refine lp (S:=Nat×Tm) 2 (λL1 s=>(17,.v (.one (.int .i64 (s.1:Int))))::L1) (λs=>[.blk 79 zTm,.blk 79 (ta s.2)]) (λs=>l.length-s.1) (λs=>s.1<=l.length/\Tb s.2/\A9 s.2 (l.drop s.1)=some m) (0,b) ⟨Qg _,hb,h⟩ rfl (λ_ _=>rfl) rfl λ⟨i,x⟩ ⟨j1,j2,j3⟩=>?_
 dsimp only at j1 j2 j3 ⊢;by_cases hi:i<l.length
 ·obtain ⟨a,ha⟩:=gxE (l:=l) (i:=i) hi;have hdr:l.drop i=a::l.drop (i+1):=by
   rw [Zj hi]; congr 1;have:=Qe hi; rw [ha] at this; injection this with this; exact this.symm
  rw [hdr] at j3;simp only [A9] at j3;obtain ⟨c,c1,j3⟩:=Qf.1 j3;have ta':=hl a (Qa ha);by_cases hc:c<0
  ·rw [if_pos hc] at j3;refine go tt [.t (by simp; omega),.x (Qij ha),.c [] (Qiv ta' j2 c1),.t (by simpa using hc)] rfl (by simp [W6]; omega) ?_;exact rd (i+1,a) (by dsimp only; omega) ⟨hi,ta',j3⟩ rfl
  ·rw [if_neg hc] at j3;refine go tt [.t (by simp; omega),.x (Qij ha),.c [] (Qiv ta' j2 c1),.f (by simpa using hc)] rfl (by simp [W6]; omega) ?_;exact rd (i+1,x) (by dsimp only; omega) ⟨hi,j2,j3⟩ rfl
 ·obtain rfl:i=l.length:=by omega
  rw [Vn] at j3;simp only [A9] at j3;injection j3 with j3; subst j3;exact en tt [.f (by simp),.c [] (Q67 j2)] rfl rfl trivial
end Orr
