/- R4 RefPL CrvL CrowdL PredL CertL Y1 Y2 Q1 C1 C2 D1 E1 AlgL F1 F2 F3 F4 F5 -/
import Derived.Test.YtpnhifedfcgjbaaGreatPart04
import Derived.Test.YtpnhifedfcgjbaaGreatPart00
set_option linter.all false
namespace Orr
open Go Go.Proofs
set_option maxRecDepth 10000
theorem Zh9 {a b:Int} (h:(decide (a<0) == decide (b<0))=true):Us (decide (a<0)) (a.natAbs+b.natAbs)=a+b:=by
 unfold Us;by_cases h1:a<0 <;> by_cases h2:b<0 <;> simp [h1,h2] at h ⊢ <;> omega
theorem Zic {a b:Int} (h:¬(decide (a<0) == decide (b<0))=true) (hl:b.natAbs<=a.natAbs):Us (decide (a<0)) (a.natAbs-b.natAbs)=a+b:=by
 unfold Us;by_cases h1:a<0 <;> by_cases h2:b<0 <;> simp [h1,h2] at h ⊢ <;> omega
theorem Zcu {a b:Int} (h:¬(decide (a<0) == decide (b<0))=true) (hl:¬b.natAbs<=a.natAbs):Us (decide (b<0)) (b.natAbs-a.natAbs)=a+b:=by
 unfold Us;by_cases h1:a<0 <;> by_cases h2:b<0 <;> simp [h1,h2] at h ⊢ <;> omega
theorem Qb0 (a:Int):(∃ m:Nat,a=(m:Int))\/∃ m:Nat,a=-(m:Int)/\0<m:=by
 rcases K7 a 0 with h | h
 ·exact .inr ⟨a.natAbs,by omega,by omega⟩
 ·exact .inl ⟨a.natAbs,by omega⟩
theorem Zib (a b:Int):Us (!(decide (a<0) == decide (b<0))) (a.natAbs*b.natAbs)=a*b:=by
 rcases Qb0 a with ⟨m,rfl⟩ | ⟨m,rfl,hm⟩ <;> rcases Qb0 b with ⟨n,rfl⟩ | ⟨n,rfl,hn⟩
 ·simp [Us,show ¬((m:Int)<0) by omega,show ¬((n:Int)<0) by omega]
 ·simp [Us,show ¬((m:Int)<0) by omega,show (-(n:Int)<0) by omega,hn,V7]
 ·simp [Us,show (-(m:Int)<0) by omega,show ¬((n:Int)<0) by omega,hm,Vj]
 ·simp [Us,show (-(m:Int)<0) by omega,show (-(n:Int)<0) by omega,hm,hn,W7]
theorem Zia {a b:Int} (h:a % b=0):Us (!(decide (a<0) == decide (b<0))) (a.natAbs / b.natAbs)=a / b:=by
 by_cases hb:b=0
 ·subst hb; simp [Us]
 obtain ⟨c,rfl⟩:=Yp h;rw [Xx _ hb,J0,Nat.mul_div_cancel_left _ (by omega)];rcases Qb0 b with ⟨n,rfl⟩ | ⟨n,rfl,hn⟩ <;> rcases Qb0 c with ⟨m,rfl⟩ | ⟨m,rfl,hm⟩
 ·have:¬((n:Int)*(m:Int)<0):=by rw [<-Ve]; omega
  simp [Us,this,show ¬((n:Int)<0) by omega]
 ·have h1:0<n*m:=Yd (by omega) hm;have:((n:Int)*-(m:Int)<0):=by rw [V7,<-Ve]; omega
  simp only [this,show ¬((n:Int)<0) by omega];simp [Us]
 ·by_cases h0:m=0
  ·subst h0; simp [Us]
  ·have h1:0<n*m:=Yd hn (by omega);have:(-(n:Int)*(m:Int)<0):=by rw [Vj,<-Ve]; omega
   simp only [this,show (-(n:Int)<0) by omega];simp [Us]
 ·have:¬(-(n:Int)*-(m:Int)<0):=by rw [W7,<-Ve]; omega
  simp only [this,show (-(n:Int)<0) by omega];simp [Us]
theorem Zc1 (a b:Int):Int.sign (a-b)=Na a b:=by
 unfold Na;rcases J5 a b with h | h | h
 ·rw [if_pos h,X4 (by omega)]
 ·rw [if_neg (by omega),if_neg (by omega),h,Int.sub_self]; rfl
 ·rw [if_neg (by omega),if_pos h,Jf (by omega)]
theorem Q1i {x y:Nat}:0<=Ot x y↔y<=x:=by
 unfold Ot;constructor
 ·intro h; split at h
  ·omega
  ·omega
 ·intro h; split
  ·omega
  ·split <;> omega
theorem Qkd {x e:Nat} (h:(Fb x).length=1) (he:(Fb x)[0]? = some e):x=e:=by
 rcases hd:Fb x with _ | ⟨u,l⟩
 ·rw [hd] at h; cases h
 ·rcases l with _ | ⟨w,l⟩
  ·rw [hd] at he; simp at he;have:=Hi x;rw [hd] at this; simp [H5] at this; omega
  ·rw [hd] at h; simp at h
theorem Qyf {a b:Int} (hb:0<b):ri (a / ((Int.gcd a b:Nat):Int))++ri (b / ((Int.gcd a b:Nat):Int))=fr (Rat.divInt a b):=by
 obtain ⟨h1,h2⟩:=Qq7 (n:=a) hb;rw [Nh,Int.gcd_comm] at h1 h2;rw [h1,h2]
theorem Qyg (a:Int):ri a++ri 1=fr (Rat.divInt a 1):=by
 have h:=Qyf (a:=a) (b:=1) (by decide);rw [show ((Int.gcd a 1:Nat):Int)=1 by simp] at h;simpa using h
theorem Qn7 {a b:Int} (hb:b≠0) (ha2:Uv a<=90000000) (hb2:Uv b<=90000000):Uv ((Int.gcd a b:Nat):Int)<=90000000/\((Int.gcd a b:Nat):Int)≠0/\a % ((Int.gcd a b:Nat):Int)=0/\b % ((Int.gcd a b:Nat):Int)=0:=by
 have h1:=Q2c (n:=a) hb hb2;have h2:=Qt7 (n:=a) hb;have h3:=Qk2 a b;have h4:=Qk3 a b;rw [Nh,Int.gcd_comm] at h1 h2 h3 h4;exact ⟨h1,by omega,h3,h4⟩
theorem Qo2 {a b:Int} (h:b<0):Gb a b=Rat.divInt (-a) (-b):=by
 unfold Gb; rw [if_neg (by omega)];exact (Rat.neg_divInt_neg a b).symm
theorem Qbx {a b:Int} (h:0<b):Gb a b=Rat.divInt a b:=by
 unfold Gb; rw [if_neg (by omega)]
theorem Qm7 (a b:Rat):Gb (a.num*(b.den:Int)+b.num*(a.den:Int)) ((a.den:Int)*(b.den:Int))=a+b:=by
 unfold Gb;rw [if_neg (Jk (Mm a) (Mm b)),<-Rat.divInt_add_divInt _ _ (Mm a) (Mm b),Zs,Zs]
theorem Qoj (a b:Rat):Gb (a.num*b.num) ((a.den:Int)*(b.den:Int))=a*b:=by
 unfold Gb;rw [if_neg (Jk (Mm a) (Mm b)),<-Kz,Zs,Zs]
theorem Qo1 {a b:Rat} (h:b≠0):Gb (a.num*(b.den:Int)) ((a.den:Int)*b.num)=a / b:=by
 have hn:b.num≠0:=λe=>h (Rat.num_eq_zero.1 e)
 unfold Gb;rw [if_neg (Jk (Mm a) hn),<-Kz,Zs,Yj];congr 1
 conv=>rhs; rw [<-Zs b,Rat.inv_divInt]
theorem Zma {s:Nat} {a b:Rat} (ha:Qs s a) (hb:Qs s b):Qs (2*s+1) (a+b):=by
 rw [<-Qm7];unfold Gb;rw [if_neg (Jk (Mm a) (Mm b))];refine Qs.divInt (Qc (I3 _ _) ?_) (Qc (U6 _ _) (by have:=ha.2; have:=hb.2; omega)) (by omega);have h1:=U6 a.num (b.den:Int);have h2:=U6 b.num (a.den:Int);have:=ha.1; have:=ha.2; have:=hb.1; have:=hb.2;omega
theorem Qf1 {z:Int} (hz:Uv z<=100000000):Uk Tryz.prog 37 [.agg (Gk z)] [.agg (ri z)]:=by
 have hl:(U8 z.natAbs).length<=1099511627776:=by have h2:32*(U8 z.natAbs).length<=100000000+31:=Rm hz; omega
 have h:=Zeu (l:=U8 z.natAbs) (λu hu=>(By _).1 u hu) hl (by rw [Fu]; exact hz);rw [Fu] at h;have hm:=Ed (decide (z<0)) z.natAbs;have e:Us (decide (z<0)) z.natAbs=z:=by unfold Us; by_cases h:z<0 <;> simp [h] <;> omega
 rw [e] at hm;exact w tt Tryz.func37 rfl [.c [] h,.c [] hm] rfl rfl trivial
theorem Q04 {z:Int}:Uk Tryz.prog 122 [.agg (ri z)] [.one (.int .i64 (Int.sign z))]:=by
 have hn:=Qd2 (x:=z.natAbs);have hl:=Qcy z.natAbs;rcases J5 z 0 with h | h | h
 ·rw [X4 h];exact w tt Tryz.func122 rfl [.f (by simp only [Ho]; exact decide_eq_false (by omega)),.t (decide_eq_true h)] rfl rfl trivial
 ·subst h;exact w tt Tryz.func122 rfl [.t (by simp only [Ho]; show decide (((Fb 0).length:Int)=0)=true; rw [Gl]; rfl)] rfl rfl trivial
 ·rw [Jf h];exact w tt Tryz.func122 rfl [.f (by simp only [Ho]; exact decide_eq_false (by omega)),.f (decide_eq_false (by omega))] rfl rfl trivial
theorem Qxk {a b:Int} (ha:Uv a<=200000000) (hb:Uv b<=200000000):Uk Tryz.prog 143 [.agg (ri a),.agg (ri b)] [.agg (ri (a+b))]:=by
 by_cases hs:(decide (a<0) == decide (b<0))=true
 ·have cm:=Ed (decide (a<0)) (a.natAbs+b.natAbs);rw [Zh9 hs] at cm;exact w tt Tryz.func143 rfl [.t hs,.c [] (Zkm ha hb),.c [] cm] rfl rfl trivial
 ·have hs':(decide (a<0) == decide (b<0))=false:=by simpa using hs
  by_cases hl:b.natAbs<=a.natAbs
  ·have cm:=Ed (decide (a<0)) (a.natAbs-b.natAbs);rw [Zic hs hl] at cm;exact w tt Tryz.func143 rfl [.f hs',.c [] (Qw9 ha hb),.t (decide_eq_true (Q1i.2 hl)),.c [] (Qxj ha hb hl),.c [] cm] rfl rfl trivial
  ·have cm:=Ed (decide (b<0)) (b.natAbs-a.natAbs);rw [Zcu hs hl] at cm;exact w tt Tryz.func143 rfl [.f hs',.c [] (Qw9 ha hb),.f (decide_eq_false λh=>hl (Q1i.1 h)),.c [] (Qxj hb ha (by omega)),.c [] cm] rfl rfl trivial
theorem Q78 {a b:Int} (ha:Uv a<=200000000) (hb:Uv b<=200000000):Uk Tryz.prog 123 [.agg (ri a),.agg (ri b)] [.agg (ri (a-b))]:=by
 have ca:=Qxk (a:=a) (b:=-b) ha (by rw [Gg]; exact hb);rw [show a+-b=a-b from by omega] at ca;exact w tt Tryz.func123 rfl [.c [] (Ii (z:=b)),.c [] ca] rfl rfl trivial
theorem S7 {a b:Int} (ha:Uv a<=200000000) (hb:Uv b<=200000000):Uk Tryz.prog 36 [.agg (ri a),.agg (ri b)] [.agg (ri (a*b))]:=by
 have cm:=Ed (!(decide (a<0) == decide (b<0))) (a.natAbs*b.natAbs);rw [Zib] at cm;exact w tt Tryz.func36 rfl [.c [] (Zkq ha hb),.c [] cm] rfl rfl trivial
theorem Zkv {a b:Int} (ha:Uv a<=200000000) (hb:Uv b<=200000000):Uk Tryz.prog 62 [.agg (ri a),.agg (ri b)] [.one (.int .i64 (Na a b))]:=by
 have h:=Q04 (z:=a-b);rw [Zc1] at h;exact w tt Tryz.func62 rfl [.c [] (Q78 ha hb),.c [] h] rfl rfl trivial
theorem Qf3 {a b:Int} (ha:Uv a<=90000000) (hb:Uv b<=90000000) (h0:b≠0) (hd:a % b=0):Uk Tryz.prog 101 [.agg (ri a),.agg (ri b)] [.agg (ri (a / b))]:=by
 have cm:=Ed (!(decide (a<0) == decide (b<0))) (a.natAbs / b.natAbs);rw [Zia hd] at cm;exact w tt Tryz.func101 rfl [.c [] (Q7b ha hb (by omega)),.c [] cm] rfl rfl trivial
theorem Zmd (x:Nat):ri ((x:Nat):Int)=[nd x,.bool false]:=by
 unfold ri sg;rw [Z9,decide_eq_false (by omega)]
theorem Qj3 {a b:Int} (ha:Uv a<=90000000) (hb:Uv b<=90000000):Uk Tryz.prog 100 [.agg (ri a),.agg (ri b)] [.agg (ri ((Int.gcd a b:Nat):Int))]:=by
 rw [Zmd];refine Gm Tryz.func100 rfl ?_;refine go tt [] rfl trivial ?_;refine lp (S:=Nat×Nat) 3 (λL1 s=>(5,.v (.one (nd s.1)))::(6,.v (.one (nd s.2)))::L1) (λ_=>[.blk 33 (ri a),.blk 33 (ri b),.blk 33 [.nils,.bool false]]) (λs=>s.2) (λs=>Nat.gcd s.1 s.2=Int.gcd a b/\sz s.1<=90000000/\sz s.2<=90000000) (a.natAbs,b.natAbs) ⟨rfl,ha,hb⟩ rfl (λ_ _=>rfl) rfl λs hs=>?_
 obtain ⟨x,y⟩:=s;obtain ⟨hp0,hp1,hp2⟩:=hs;dsimp only at hp0 hp1 hp2 ⊢;have hyn:=Qd2 (x:=y);have hyl:=Qcy y;by_cases h1:y=0
 ·have e:Int.gcd a b=x:=by rw [<-hp0,h1,Nat.gcd_zero_right]
  rw [e];exact en tt [.f (by simp only [Ho]; exact decide_eq_false (by omega))] rfl rfl trivial
 ·have hlt:=Xf x (show 0<y by omega);refine go tt [.t (by simp only [Ho]; exact decide_eq_true (by omega)),.c [] (Q7b hp1 hp2 (by omega))] rfl trivial ?_;exact rd (y,x % y) (by dsimp only; omega) ⟨by dsimp only; rw [<-hp0,Nat.gcd_comm x y,Nat.gcd_rec y x,Nat.gcd_comm],hp2,Nat.le_trans (Hy (by dsimp only; omega)) hp2⟩ rfl
theorem Qbg {a b:Int} (ha:Uv a<=90000000) (hb:Uv b<=90000000):Uk Tryz.prog 48 [.agg (ri a),.agg (ri b)] [.agg (fr (Gb a b))]:=by
 rcases J5 b 0 with hs | hs | hs
 ·skip
  by_cases h1:-b=1
  ·have h0:(M4 (Fb (-b).natAbs))[0]? = some [LV.int .i64 1]:=by rw [h1,show (1:Int).natAbs=1 from rfl,Ek]; rfl
   have hl1:decide (((M4 (Fb (-b).natAbs)).length:Int)=1)=true:=by rw [h1,show (1:Int).natAbs=1 from rfl,Ek]; rfl
   have e:fr (Gb a b)=ri (-a)++ri (-b):=by rw [Qo2 hs,h1]; exact (Qyg _).symm
   rw [e];exact w tt Tryz.func48 rfl [.c [] (Mg (z:=b)),.f (decide_eq_false (by omega)),.t (decide_eq_true hs),.c [] (Ii (z:=a)),.c [] (Ii (z:=b)),.g 19 true hl1,.x h0,.t rfl] rfl rfl trivial
  ·have hgf:=Qn7 (a:=-a) (b:=-b) (by omega) (by first | exact ha | (rw [Gg]; exact ha)) (by first | exact hb | (rw [Gg]; exact hb));have cg:=Qj3 (a:=-a) (b:=-b) (by first | exact ha | (rw [Gg]; exact ha)) (by first | exact hb | (rw [Gg]; exact hb));have q1:=Qf3 (a:=-a) (b:=((Int.gcd (-a) (-b):Nat):Int)) (by first | exact ha | (rw [Gg]; exact ha)) hgf.1 hgf.2.1 hgf.2.2.1;have q2:=Qf3 (a:=-b) (b:=((Int.gcd (-a) (-b):Nat):Int)) (by first | exact hb | (rw [Gg]; exact hb)) hgf.1 hgf.2.1 hgf.2.2.2;have e:fr (Gb a b)=ri ((-a) / ((Int.gcd (-a) (-b):Nat):Int))++ri ((-b) / ((Int.gcd (-a) (-b):Nat):Int)):=by rw [Qo2 hs]; exact (Qyf (by omega)).symm
   rw [e];have hl:=Qcy (-b).natAbs;by_cases hl1:(Fb (-b).natAbs).length=1
   ·obtain ⟨u,hu⟩:=gxE (l:=(Fb (-b).natAbs)) (i:=0) (by omega);have hue:=Qkd hl1 hu;exact w tt Tryz.func48 rfl [.c [] (Mg (z:=b)),.f (decide_eq_false (by omega)),.t (decide_eq_true hs),.c [] (Ii (z:=a)),.c [] (Ii (z:=b)),.g 19 true (by simp only [Ho]; exact decide_eq_true (by omega)),.x (Fv hu),.f (decide_eq_false (by omega)),.c [] cg,.c [] q1,.c [] q2] rfl rfl trivial
   ·exact w tt Tryz.func48 rfl [.c [] (Mg (z:=b)),.f (decide_eq_false (by omega)),.t (decide_eq_true hs),.c [] (Ii (z:=a)),.c [] (Ii (z:=b)),.g 19 false (by simp only [Ho]; exact decide_eq_false (by omega)),.f rfl,.c [] cg,.c [] q1,.c [] q2] rfl rfl trivial
 ·subst hs;have h0:(M4 (Fb (1:Int).natAbs))[0]? = some [LV.int .i64 1]:=by rw [show (1:Int).natAbs=1 from rfl,Ek]; rfl
  have h1:decide (((M4 (Fb (1:Int).natAbs)).length:Int)=1)=true:=by rw [show (1:Int).natAbs=1 from rfl,Ek]; rfl
  have e:fr (Gb a 0)=ri a++ri 1:=(Qyg a).symm;rw [e];exact w tt Tryz.func48 rfl [.c [] (Mg (z:=0)),.t rfl,.c [] (C7 (n:=1) (by decide)),.f rfl,.g 19 true h1,.x h0,.t rfl] rfl rfl trivial
 ·skip
  by_cases h1:b=1
  ·have h0:(M4 (Fb (b).natAbs))[0]? = some [LV.int .i64 1]:=by rw [h1,show (1:Int).natAbs=1 from rfl,Ek]; rfl
   have hl1:decide (((M4 (Fb (b).natAbs)).length:Int)=1)=true:=by rw [h1,show (1:Int).natAbs=1 from rfl,Ek]; rfl
   have e:fr (Gb a b)=ri (a)++ri (b):=by rw [Qbx hs,h1]; exact (Qyg _).symm
   rw [e];exact w tt Tryz.func48 rfl [.c [] (Mg (z:=b)),.f (decide_eq_false (by omega)),.f (decide_eq_false (by omega)),.g 19 true hl1,.x h0,.t rfl] rfl rfl trivial
  ·have hgf:=Qn7 (a:=a) (b:=b) (by omega) (by first | exact ha | (rw [Gg]; exact ha)) (by first | exact hb | (rw [Gg]; exact hb));have cg:=Qj3 (a:=a) (b:=b) (by first | exact ha | (rw [Gg]; exact ha)) (by first | exact hb | (rw [Gg]; exact hb));have q1:=Qf3 (a:=a) (b:=((Int.gcd (a) (b):Nat):Int)) (by first | exact ha | (rw [Gg]; exact ha)) hgf.1 hgf.2.1 hgf.2.2.1;have q2:=Qf3 (a:=b) (b:=((Int.gcd (a) (b):Nat):Int)) (by first | exact hb | (rw [Gg]; exact hb)) hgf.1 hgf.2.1 hgf.2.2.2;have e:fr (Gb a b)=ri ((a) / ((Int.gcd (a) (b):Nat):Int))++ri ((b) / ((Int.gcd (a) (b):Nat):Int)):=by rw [Qbx hs]; exact (Qyf (by omega)).symm
   rw [e];have hl:=Qcy (b).natAbs;by_cases hl1:(Fb (b).natAbs).length=1
   ·obtain ⟨u,hu⟩:=gxE (l:=(Fb (b).natAbs)) (i:=0) (by omega);have hue:=Qkd hl1 hu;exact w tt Tryz.func48 rfl [.c [] (Mg (z:=b)),.f (decide_eq_false (by omega)),.f (decide_eq_false (by omega)),.g 19 true (by simp only [Ho]; exact decide_eq_true (by omega)),.x (Fv hu),.f (decide_eq_false (by omega)),.c [] cg,.c [] q1,.c [] q2] rfl rfl trivial
   ·exact w tt Tryz.func48 rfl [.c [] (Mg (z:=b)),.f (decide_eq_false (by omega)),.f (decide_eq_false (by omega)),.g 19 false (by simp only [Ho]; exact decide_eq_false (by omega)),.f rfl,.c [] cg,.c [] q1,.c [] q2] rfl rfl trivial
theorem Zi7 {n d:Int} (hn:-1000000000<=n/\n<=1000000000) (hd:-1000000000<=d/\d<=1000000000):Uk Tryz.prog 17 [.one (.int .i64 n),.one (.int .i64 d)] [.agg (fr (Gb n d))]:=by
 have b1:Uv n<=90000000:=Qc (Rr.2 (show n.natAbs<2^40 by omega)) (by decide);have b2:Uv d<=90000000:=Qc (Rr.2 (show d.natAbs<2^40 by omega)) (by decide);exact w tt Tryz.func17 rfl [.c [] (C7 (by omega)),.c [] (C7 (by omega)),.c [] (Qbg b1 b2)] rfl rfl trivial
theorem Zks {a:Rat}:Uk Tryz.prog 47 [.agg (fr a)] [.agg (fr (-a))]:=by
 have e:fr (-a)=ri (-a.num)++ri (a.den:Int):=rfl;rw [e];exact w tt Tryz.func47 rfl [.c [] (Ii (z:=a.num))] rfl rfl trivial
theorem Qw7 {a b:Rat} (ha:Qs 20000000 a) (hb:Qs 20000000 b):Uk Tryz.prog 110 [.agg (fr a),.agg (fr b)] [.agg (fr (a+b))]:=by
 have k1:=U6 a.num (b.den:Int);have k2:=U6 b.num (a.den:Int);have k3:=U6 (a.den:Int) (b.den:Int);have k4:=I3 (a.num*(b.den:Int)) (b.num*(a.den:Int));have h1:=ha.1; have h2:=ha.2; have h3:=hb.1; have h4:=hb.2;have cm:=Qbg (a:=a.num*(b.den:Int)+b.num*(a.den:Int)) (b:=(a.den:Int)*(b.den:Int)) (by omega) (by omega);rw [Qm7] at cm;exact w tt Tryz.func110 rfl [.c [] (S7 (a:=a.num) (b:=(b.den:Int)) (by omega) (by omega)),.c [] (S7 (a:=b.num) (b:=(a.den:Int)) (by omega) (by omega)),.c [] (Qxk (by omega) (by omega)),.c [] (S7 (a:=(a.den:Int)) (b:=(b.den:Int)) (by omega) (by omega)),.c [] cm] rfl rfl trivial
theorem Qxc {a b:Rat} (ha:Qs 40000000 a) (hb:Qs 40000000 b):Uk Tryz.prog 107 [.agg (fr a),.agg (fr b)] [.agg (fr (a*b))]:=by
 have k1:=U6 a.num b.num;have k3:=U6 (a.den:Int) (b.den:Int);have h1:=ha.1; have h2:=ha.2; have h3:=hb.1; have h4:=hb.2;have cm:=Qbg (a:=a.num*b.num) (b:=(a.den:Int)*(b.den:Int)) (by omega) (by omega);rw [Qoj] at cm;exact w tt Tryz.func107 rfl [.c [] (S7 (a:=a.num) (b:=b.num) (by omega) (by omega)),.c [] (S7 (a:=(a.den:Int)) (b:=(b.den:Int)) (by omega) (by omega)),.c [] cm] rfl rfl trivial
theorem Qxg {a b:Rat} (ha:Qs 40000000 a) (hb:Qs 40000000 b) (h0:b≠0):Uk Tryz.prog 176 [.agg (fr a),.agg (fr b)] [.agg (fr (a / b))]:=by
 have k1:=U6 a.num (b.den:Int);have k3:=U6 (a.den:Int) b.num;have h1:=ha.1; have h2:=ha.2; have h3:=hb.1; have h4:=hb.2;have cm:=Qbg (a:=a.num*(b.den:Int)) (b:=(a.den:Int)*b.num) (by omega) (by omega);rw [Qo1 h0] at cm;exact w tt Tryz.func176 rfl [.c [] (S7 (a:=a.num) (b:=(b.den:Int)) (by omega) (by omega)),.c [] (S7 (a:=(a.den:Int)) (b:=b.num) (by omega) (by omega)),.c [] cm] rfl rfl trivial
theorem De {a b:Rat} (ha:Qs 40000000 a) (hb:Qs 40000000 b):Uk Tryz.prog 21 [.agg (fr a),.agg (fr b)] [.one (.int .i64 (Fi a b))]:=by
 have k1:=U6 a.num (b.den:Int);have k2:=U6 b.num (a.den:Int);have h1:=ha.1; have h2:=ha.2; have h3:=hb.1; have h4:=hb.2;exact w tt Tryz.func21 rfl [.c [] (S7 (a:=a.num) (b:=(b.den:Int)) (by omega) (by omega)),.c [] (S7 (a:=b.num) (b:=(a.den:Int)) (by omega) (by omega)),.c [] (Zkv (a:=a.num*(b.den:Int)) (b:=b.num*(a.den:Int)) (by omega) (by omega))] rfl rfl trivial
end Orr
namespace Orr
def Bn:List Rat->List Rat
 | []=>[]
 |
  x::l=>match Bn l with
  | []=>if x=0 then [] else [x]
  | y::k=>x::y::k
theorem Qa4:∀ {l:List Rat},(∀ x∈l,x=0)->Bn l=[]
 | [],_=>rfl
 |
  x::l,h=>by
  have ih:=Qa4 (l:=l) (λy hy=>h y (Qj _ hy));simp [Bn,ih,h x (Qr ..)]
theorem Ql6:∀ {l:List Rat} {m:Nat} {y:Rat},(∀ j x,m<j->l[j]? = some x->x=0)->l[m]? = some y->y≠0->Bn l=l.take (m+1)
 | [],m,y,_,h,_=>by simp at h
 |
  x::l,0,y,h1,h2,h3=>by
  have h0:Bn l=[]:=Qa4 λz hz=>by
   obtain ⟨j,hj⟩:=Zh.1 hz;exact h1 (j+1) z (by omega) (by simpa using hj)
  simp at h2;subst h2;simp [Bn,h0,h3]
 |
  x::l,m+1,y,h1,h2,h3=>by
  have ih:=Ql6 (l:=l) (m:=m) (y:=y) (λj z hj hz=>h1 (j+1) z (by omega) (by simpa using hz)) (by simpa using h2) h3;cases hl:l with
  | nil=>subst hl; simp at h2
  |
   cons u k =>
   subst hl;rw [Yt] at ih;simp only [Bn] at ih ⊢;rw [ih];simp
theorem Qg6 {l:List Rat} {m:Nat} (hm:m<=l.length) (h1:∀ j x,m<=j->l[j]? = some x->x=0) (h2:0<m->∃ y,l[m-1]? = some y/\y≠0):Bn l=l.take m:=by
 rcases Qz m with h0 | h0
 ·subst h0;rw [Qa4 λz hz=>?_]; rfl;obtain ⟨j,hj⟩:=Zh.1 hz;exact h1 j z (by omega) hj
 ·obtain ⟨y,hy,hy0⟩:=h2 h0;have:=Ql6 (l:=l) (m:=m-1) (y:=y) (λj x hj hx=>h1 j x (by omega) hx) hy hy0;rwa [show m-1+1=m from by omega] at this
theorem Qo8:∀ (l:List Rat),∀ z∈Bn l,z∈l
 | [],z,h=>h
 |
  x::l,z,h=>by
  simp only [Bn] at h;have ih:=Qo8 l
  split at h
  ·split at h
   ·cases h
   ·simp at h; simp [h]
  ·rename_i y k e;rw [e] at ih;rcases Qp.1 h with h | h
   ·simp [h]
   ·exact Qj _ (ih z h)
theorem Qo7:∀ (l:List Rat),(Bn l).length<=l.length
 | []=>Qm _
 |
  x::l=>by
  have ih:=Qo7 l;simp only [Bn]
  split
  ·split <;> simp
  ·rename_i y k e;rw [e] at ih;simp at ih ⊢; omega
def zp (p:List Int):List Rat:=p.map λ(z:Int)=>(z:Rat)
theorem Ny:∀ (p:List Int),Bn (zp p)=zp (trim p)
 | []=>rfl
 |
  x::l=>by
  have ih:=Ny l;unfold zp at ih ⊢;simp only [Zz,Bn,trim,ih];cases h:trim l with
  |
   nil =>
   simp only [X8];by_cases hx:x=0
   ·subst hx; simp
   ·have:(x:Rat)≠0:=λe=>hx (by exact_mod_cast e)
    simp [hx,this]
  | cons y k=>simp
theorem Su (p:List Int):(zp p).length=p.length:=Q8 _
theorem Zd2 {p:List Int} {i:Nat} {z:Int} (h:p[i]? = some z):(zp p)[i]? = some (z:Rat):=by simp [zp,h]
theorem Qfs (p:List Int) (i:Nat):(zp p).getD i 0=((p.getD i 0:Int):Rat):=by
 simp only [Qg,zp,Q9];cases p[i]? <;> rfl
def Rb (s:Nat) (p:List Rat):Prop:=∀ q∈p,Qs s q
theorem Rb.mono {s t:Nat} {p:List Rat} (h:Rb s p) (ht:s<=t):Rb t p:=λq hq=>(h q hq).mono ht
theorem Rb.get {s:Nat} {p:List Rat} (h:Rb s p) {i:Nat} {q:Rat} (hq:p[i]? = some q):Qs s q:=h q (Qa hq)
theorem C0 {s:Nat} {z:Int} (h:Uv z<=s) (h1:1<=s):Qs s (z:Rat):=⟨by simpa using h,Qc (show Uv ((1:Nat):Int)<=1 by decide) h1⟩
theorem Qci {s:Nat} {p:List Int} (h:Bd s p) (h1:1<=s):Rb s (zp p):=λq hq=>by
 obtain ⟨z,hz,rfl⟩:=Za.1 hq;exact C0 (h z hz) h1
theorem Zht {s:Nat} (h1:1<=s):Qs s 0:=C0 (z:=0) (by simp [P8]) h1
theorem Rb.getD {s:Nat} {p:List Rat} (h:Rb s p) (h1:1<=s) (i:Nat):Qs s (p.getD i 0):=by
 rw [Qg];cases e:p[i]? with
 | none=>exact Zht h1
 | some q=>exact h.get e
theorem Rb.trim {s:Nat} {p:List Rat} (h:Rb s p):Rb s (Bn p):=λq hq=>h q (Qo8 p q hq)
def Ow (f:Nat->Rat) (n:Nat):List Rat:=(List.range n).map f
theorem Qfe (f:Nat->Rat) (n:Nat):(Ow f n).length=n:=by simp [Ow]
theorem Qpd (f:Nat->Rat) (n:Nat):Ow f (n+1)=Ow f n++[f n]:=by simp [Ow,Wa]
theorem Zik {s n:Nat} {f:Nat->Rat} (h:∀ i,i<n->Qs s (f i)):Rb s (Ow f n):=λq hq=>by
 obtain ⟨i,hi,rfl⟩:=Za.1 hq;exact h i (Kk.1 hi)
theorem Qjj {f:Nat->Rat} {g:Nat->Int} (n:Nat) (h:∀ i,i<n->f i=(g i:Rat)):Ow f n=zp ((List.range n).map g):=by
 simp only [Ow,zp,List.map_map];exact Ju λi hi=>h i (Kk.1 hi)
def Q5w (p q:List Rat):List Rat:=Bn (Ow (λi=>p.getD i 0+q.getD i 0) (max p.length q.length))
def P0 (p:List Rat) (c:Rat):List Rat:=Bn (Ow (λi=>p.getD i 0*c) p.length)
def Qr2 (p:List Rat):List Rat:=P0 p (-1)
def Ql5 (p q:List Rat):List Rat:=Q5w p (Qr2 q)
theorem Q3i (p q:List Int):Q5w (zp p) (zp q)=zp (L9 p q):=by
 unfold Q5w L9 Pp;rw [Qjj (g:=λk=>p.getD k 0+q.getD k 0) _ λi _=>by rw [Qfs,Qfs,Ke],Ny,Su,Su]
theorem Qo5 (p:List Int) (c:Int):P0 (zp p) (c:Rat)=zp (Ff p c):=by
 unfold P0 Ff Pp;rw [Qjj (g:=λk=>p.getD k 0*c) _ λi _=>by rw [Qfs,X1],Ny,Su]
theorem Qzc (p:List Int):Ff p (-1)=Se p:=by
 unfold Ff Se Pp;congr 2;funext k;omega
theorem Q3k (p:List Int):Qr2 (zp p)=zp (Se p):=by
 rw [<-Qzc,<-Qo5]; rfl
theorem Qhl {p q:List Int} (hp:Uo p) (hq:Uo q) (h:∀ k,p.getD k 0=q.getD k 0):p=q:=by
 have key:∀ {p q:List Int},Uo q->(∀ k,p.getD k 0=q.getD k 0)->q.length<=p.length:=by
  intro p q hq h;rcases Zb p.length q.length with h1 | h1
  ·have h2:=Gv hq (by omega);rw [<-h,Qg,Qt (by omega)] at h2;exact (h2 rfl).elim
  ·exact h1
 exact Qkr (Kd (key hp λk=>(h k).symm) (key hq h)) λj _=>h j
theorem Qx6 {n m:Nat} {f g:Nat->Int} (hn:n<=m) (h:∀ k,k<n->f k=g k) (h0:∀ k,n<=k->k<m->g k=0):Pp n f=Pp m g:=by
 refine Qhl (U3 _ _) (U3 _ _) λk=>?_
 rw [Ry,Ry];by_cases h1:k<n
 ·rw [if_pos h1,if_pos (by omega),h k h1]
 ·rw [if_neg h1];by_cases h2:k<m
  ·rw [if_pos h2,h0 k (by omega) h2]
  ·rw [if_neg h2]
theorem Zh0 (p q:List Int):Ql5 (zp p) (zp q)=zp (Tx p q):=by
 unfold Ql5;rw [Q3k,Q3i];congr 1;have hl:=Nj q;unfold L9 Tx;refine Qx6 (by omega) (λk _=>?_) λk h1 h2=>?_
 ·unfold Se;rw [Ry]
  split
  ·omega
  ·rename_i h;have:q.getD k 0=0:=by rw [Qg,Qt (by omega)]; rfl
   omega
 ·have h3:p.getD k 0=0:=by rw [Qg,Qt (by omega)]; rfl
  have h4:(Se q).getD k 0=0:=by rw [Qg,Qt (by omega)]; rfl
  unfold Se at h4;rw [Ry] at h4
  split at h4
  ·omega
  ·have:q.getD k 0=0:=by rw [Qg,Qt (by omega)]; rfl
   omega
structure Crv where
 x:List Int
 y:List Int
 d:Int
abbrev cl (k:Crv):List LV:=[pl k.x,pl k.y,sg k.d,mg k.d]
def Crv.d' (k:Crv):Int:=if k.d=0 then 1 else k.d
def Crv.g (k:Crv):Int:=if k.d'<0 then -((Gz (k.d'::(trim k.x++trim k.y)):Nat):Int) else (Gz (k.d'::(trim k.x++trim k.y)):Nat)
def Crv.norm (k:Crv):Crv:=⟨trim ((trim k.x).map (· / k.g)),trim ((trim k.y).map (· / k.g)),k.d' / k.g⟩
theorem Qac {l:List Int}:∀ z∈l,((Gz l:Nat):Int)∣z:=by
 have key:∀ (l:List Int) (g:Nat),(l.foldl (λg z=>Nat.gcd g z.natAbs) g∣g)/\∀ z∈l,l.foldl (λg z=>Nat.gcd g z.natAbs) g∣z.natAbs:=by
  intro l
  induction l with
  | nil=>intro g; exact ⟨Nat.dvd_refl _,by simp⟩
  |
   cons u l ih =>
   intro g;obtain ⟨h1,h2⟩:=ih (Nat.gcd g u.natAbs);refine ⟨Nat.dvd_trans h1 (Kt _ _),λz hz=>?_⟩;rcases Qp.1 hz with rfl | hz
   ·exact Nat.dvd_trans h1 (Wx _ _)
   ·exact h2 z hz
 intro z hz;have:=(key l 0).2 z hz;exact Wn.2 this
theorem Crv.d'_ne (k:Crv):k.d'≠0:=by unfold Crv.d'; split <;> omega
theorem Crv.gcd_ne (k:Crv):Gz (k.d'::(trim k.x++trim k.y))≠0:=by
 intro e;have h:=Qac (l:=k.d'::(trim k.x++trim k.y)) k.d' (Qr ..);rw [e] at h;exact k.d'_ne (by simpa using h)
theorem Crv.g_ne (k:Crv):k.g≠0:=by
 have h0:=k.gcd_ne;unfold Crv.g
 split <;> omega
theorem Crv.g_dvd (k:Crv):∀ z∈k.d'::(trim k.x++trim k.y),z % k.g=0:=by
 intro z hz;have h:=Qac z hz;refine J1 ?_;unfold Crv.g
 split
 ·exact Ue.2 h
 ·exact h
theorem Crv.isz_g (k:Crv) {s:Nat} (h:Uv k.d'<=s):Uv k.g<=s:=by
 have hd:=Qac (l:=k.d'::(trim k.x++trim k.y)) k.d' (Qr ..);have hle:Gz (k.d'::(trim k.x++trim k.y))<=k.d'.natAbs:=V6 (by have:=k.d'_ne; omega) (Wn.1 hd);refine Qc (Hy ?_) h;unfold Crv.g
 split <;> simp <;> exact hle
structure Cs (s n:Nat) (k:Crv):Prop where
 x:Bd s k.x
 y:Bd s k.y
 d:Uv k.d<=s
 lx:k.x.length<=n
 ly:k.y.length<=n
theorem Qqy {k:Crv} {s:Nat} (h:Uv k.d<=s) (h1:1<=s):Uv k.d'<=s:=by unfold Crv.d'; split <;> first | exact h1 | exact h
theorem Qfy {s:Nat} {p:List Int} (h:Bd s p) (g:Int):Bd s (p.map (· / g)):=λz hz=>by
 obtain ⟨u,hu,rfl⟩:=Za.1 hz;exact Qc (Qaf u g) (h u hu)
theorem Cs.norm {s n:Nat} {k:Crv} (h:Cs s n k) (h1:1<=s):Cs s n k.norm:=by
 refine ⟨Ru (Qfy (Ru h.x) _),Ru (Qfy (Ru h.y) _),Qc (Qaf _ _) (Qqy h.d h1),?_,?_⟩
 ·refine Qc (He _) ?_; rw [Q8]; exact Qc (He _) h.lx
 ·refine Qc (He _) ?_; rw [Q8]; exact Qc (He _) h.ly
theorem Cs.mono {s n t m:Nat} {k:Crv} (h:Cs s n k) (hs:s<=t) (hn:n<=m):Cs t m k:=⟨Uj h.x hs,Uj h.y hs,Qc h.d hs,Qc h.lx hn,Qc h.ly hn⟩
def Nml (k:Crv):Prop:=Uo k.x/\Uo k.y/\0<k.d/\Gz (k.d::(k.x++k.y))=1
theorem Crv.norm_of {k:Crv} (h:Nml k):k.norm=k:=by
 obtain ⟨h1,h2,h3,h4⟩:=h;have hd:k.d'=k.d:=by unfold Crv.d'; rw [if_neg (by omega)]
 have hx:trim k.x=k.x:=h1;have hy:trim k.y=k.y:=h2;have hg:k.g=1:=by unfold Crv.g; rw [hd,hx,hy,h4,if_neg (by omega)]; rfl
 unfold Crv.norm;rw [hg,hd,hx,hy];simp [hx,hy]
theorem Qqr {l:List Int} {g:Int} (hg:g≠0) (hga:g.natAbs=Gz l):Gz (l.map (· / g))=1:=by
 have key:∀ (l:List Int) (a:Nat),(∀ z∈l,g∣z)->l.foldl (λa z=>Nat.gcd a z.natAbs) (a*g.natAbs)=((l.map (· / g)).foldl (λa z=>Nat.gcd a z.natAbs) a)*g.natAbs:=by
  intro l
  induction l with
  | nil=>intro a _; rfl
  |
   cons z l ih =>
   intro a h;simp only [Zz,Xe];have hz:z.natAbs=(z / g).natAbs*g.natAbs:=by
    obtain ⟨q,rfl⟩:=h z (Qr ..);rw [Xx _ hg,J0,Zi]
   rw [hz,Nat.gcd_mul_right];exact ih _ λu hu=>h u (Qj _ hu)
 have h:=key l 0 λz hz=>Xn.1 (by rw [hga]; exact Xn.2 (Qac z hz))
 rw [Ye] at h;have h':Gz l=Gz (l.map (· / g))*g.natAbs:=h;rw [<-hga] at h';have hp:0<g.natAbs:=by omega
 exact Nat.eq_of_mul_eq_mul_right hp (by rw [Ug]; exact h'.symm)
theorem Ly {l:List Int} {g:Int} (ht:Uo l) (hg:g≠0) (hd:∀ z∈l,g∣z):Uo (l.map (· / g)):=by
 induction l with
 | nil=>rfl
 |
  cons x l ih =>
  have hne:∀ z∈x::l,z≠0->z / g≠0:=λz hz h0 h1=>by
   obtain ⟨q,rfl⟩:=hd z hz;rw [Xx _ hg] at h1;rw [h1] at h0; simp at h0
  unfold Uo at ht ih ⊢;cases hl:trim l with
  |
   nil =>
   simp only [trim,hl] at ht
   split at ht
   ·cases ht
   ·rename_i hx;injection ht with _ h2;subst h2;simp [trim,hne x (Qr ..) hx]
  |
   cons y k =>
   simp only [trim,hl] at ht;injection ht with _ h2;have hll:trim l=l:=by rw [hl]; exact h2
   have ih:=ih hll λz hz=>hd z (Qj _ hz)
   rw [Zz];have hne2:l.map (· / g)≠[]:=by rw [<-hll,hl]; simp
   cases hm:l.map (· / g) with
   | nil=>exact absurd hm hne2
   |
    cons u w =>
    rw [hm] at ih;have e:trim (x / g::u::w)=match trim (u::w) with | []=>if x / g=0 then [] else [x / g] | y::k=>x / g::y::k:=rfl
    rw [e,ih]
theorem Crv.nml (k:Crv):Nml k.norm:=by
 have hg:=k.g_ne;have hdv:∀ z∈k.d'::(trim k.x++trim k.y),k.g∣z:=λz hz=>Yp (k.g_dvd z hz)
 have hx:=Ly (g:=k.g) (Ha k.x) hg λz hz=>hdv z (by simp [hz])
 have hy:=Ly (g:=k.g) (Ha k.y) hg λz hz=>hdv z (by simp [hz])
 refine ⟨Ha _,Ha _,?_,?_⟩
 ·show 0<k.d' / k.g;obtain ⟨q,hq⟩:=hdv k.d' (Qr ..);have h0:=k.d'_ne;have hgc:=k.gcd_ne;have e:k.d' / k.g=q:=by rw [hq,Xx _ hg]
  rw [e];unfold Crv.g at hq hg;have hq0:q≠0:=λe=>by rw [e,Vs] at hq; exact h0 hq
  split at hq
  ·rename_i hneg;rcases Wm hq0 with h | h
   ·have:=Kb (a:=-((Gz (k.d'::(trim k.x++trim k.y)):Nat):Int)) (b:=q) (by omega) h;omega
   ·exact h
  ·rename_i hneg;rcases Wm hq0 with h | h
   ·have:=Ka (a:=((Gz (k.d'::(trim k.x++trim k.y)):Nat):Int)) (b:=q) (by omega) h;omega
   ·exact h
 ·show Gz (k.d' / k.g::(trim ((trim k.x).map (· / k.g))++trim ((trim k.y).map (· / k.g))))=1;rw [show trim ((trim k.x).map (· / k.g))=(trim k.x).map (· / k.g) from hx,show trim ((trim k.y).map (· / k.g))=(trim k.y).map (· / k.g) from hy,<-Xv,<-Zz (f:=(· / k.g))];refine Qqr hg ?_;unfold Crv.g
  split <;> omega
structure Pt where
 c:Crv
 id:Int
def G0 (p:Pt):List LV:=[pl p.c.x,pl p.c.y,sg p.c.d,mg p.c.d,.int .i64 p.id]
def pts (l:List Pt):LV:=.row (l.map G0)
def pos:List Pt->Int->Nat
 | [],_=>0
 | p::l,id=>if p.id<id then pos l id+1 else 0
def has (l:List Pt) (id:Int):Bool:=match l[pos l id]? with
 | some p=>decide (p.id=id)
 | none=>false
theorem Zbo (l:List Pt) (id:Int):pos l id<=l.length:=by
 induction l with
 | nil=>exact Qm _
 | cons p l ih=>simp only [pos]; split <;> simp <;> omega
theorem Qza:∀ {l:List Pt} {id:Int} {k:Nat},(∀ j p,j<k->l[j]? = some p->p.id<id)->(k=l.length\/∃ p,l[k]? = some p/\¬p.id<id)->pos l id=k
 |
  [],id,k,_,h=>by
  rcases h with h | ⟨p,h,_⟩
  ·subst h; rfl
  ·simp at h
 |
  q::l,id,0,_,h=>by
  rcases h with h | ⟨p,h,h2⟩
  ·simp at h
  ·simp at h; subst h; simp [pos,h2]
 |
  q::l,id,k+1,h1,h=>by
  have hq:=h1 0 q (by omega) rfl;simp only [pos,hq,if_true];rw [Qza (k:=k) (λj p hj hp=>h1 (j+1) p (by omega) (by simpa using hp))];rcases h with h | ⟨p,h,h2⟩
  ·left; simpa using h
  ·right; exact ⟨p,by simpa using h,h2⟩
def put (l:List Pt) (q:Pt):List Pt:=l.take (pos l q.id)++q::l.drop (pos l q.id)
def Qaz (l:List Pt) (q:Pt):Int:=if has l q.id=true then 6 else if 6<=l.length then 9 else 0
def Qws (s n:Nat) (p:Pt):Prop:=Nml p.c/\Cs s n p.c
theorem Q3d (l:List Pt) (q:Pt):(put l q).length=l.length+1:=by
 have:=Zbo l q.id;simp [put]; omega
theorem Q3e {l:List Pt} {q p:Pt} (h:p∈put l q):p=q\/p∈l:=by
 unfold put at h;rcases Qw.1 h with h | h
 ·exact .inr (Qn h)
 ·rcases Qp.1 h with h | h
  ·exact .inl h
  ·exact .inr (Q0 h)
def Ts:List Pt->List Pt->List Pt×Int
 | acc,[]=>(acc,0)
 | acc,q::qs=>if Qaz acc q=0 then Ts (put acc q) qs else ([],Qaz acc q)
def Ai (a b:Crv):Bool:=decide (a.x=b.x/\a.y=b.y/\a.d=b.d)
def L6 (out:List Pt) (p:Pt):List Pt:=if out.any (λq=>Ai p.c q.c)=true then out else out++[p]
def Ds (l:List Pt):List Pt:=l.foldl L6 []
theorem Q6f {out:List Pt} {p q:Pt} (h:q∈L6 out p):q∈out\/q=p:=by
 unfold L6 at h
 split at h
 ·exact .inl h
 ·rcases Qw.1 h with h | h
  ·exact .inl h
  ·exact .inr (by simpa using h)
theorem Q6e (out:List Pt) (p:Pt):(L6 out p).length<=out.length+1:=by
 unfold L6; split <;> simp
theorem Hh {α β:Type} (f:β->α->β) (b:β) (l:List α) {i:Nat} {x:α} (h:l[i]? = some x):(l.take (i+1)).foldl f b=f ((l.take i).foldl f b) x:=by
 rw [Ym,h]; simp [Y6]
theorem Qcq (l:List Pt) (i:Nat):∀ q∈(l.take i).foldl L6 [],q∈l:=by
 induction i with
 | zero=>simp
 |
  succ i ih =>
  intro q hq;cases hi:l[i]? with
  |
   none =>
   rw [Qk (by have:=Jv.1 hi; omega)] at hq;rw [Qk (Jv.1 hi)] at ih;exact ih q hq
  |
   some x =>
   rw [Hh _ _ _ hi] at hq;rcases Q6f hq with h | h
   ·exact ih q h
   ·subst h; exact Qa hi
theorem Qcp (l:List Pt) (i:Nat):((l.take i).foldl L6 []).length<=i:=by
 induction i with
 | zero=>simp
 |
  succ i ih =>
  cases hi:l[i]? with
  |
   none =>
   rw [Qk (by have:=Jv.1 hi; omega)];rw [Qk (Jv.1 hi)] at ih;omega
  |
   some x =>
   rw [Hh _ _ _ hi];have:=Q6e ((l.take i).foldl L6 []) x;omega
theorem Qfn {l:List Pt} {q:Pt} (h:q∈Ds l):q∈l:=by
 have:=Qcq l l.length q;rw [Q4] at this;exact this h
theorem Qbc (l:List Pt):(Ds l).length<=l.length:=by
 have:=Qcp l l.length;rwa [Q4] at this
def IsPt (s n:Nat) (z:List LV) (q:Pt):Prop:=∃ lx ly b l px py d,z=[.row lx,.row ly,.bool b,Zm1 l,.int .i64 q.id]/\IsInts lx px/\IsInts ly py/\Hu (.bool b) (Zm1 l) d/\Cs s n ⟨px,py,d⟩/\q.c=Crv.norm ⟨px,py,d⟩
theorem Zlp {s n:Nat} {p:Pt} (h:Qws s n p):IsPt s n (G0 p) p:=by
 obtain ⟨b,l,h1,h2,h3,h4⟩:=Ul p.c.d;refine ⟨_,_,decide (p.c.d<0),U8 p.c.d.natAbs,_,_,p.c.d,rfl,Gw _,Gw _,Ul _,h.2,(Crv.norm_of h.1).symm⟩
def IsPts (s n:Nat):List (List LV)->List Pt->Prop
 | [],[]=>True
 | z::zs,q::qs=>IsPt s n z q/\IsPts s n zs qs
 | _,_=>False
theorem IsPts.len {s n:Nat}:∀ {zs:List (List LV)} {qs:List Pt},IsPts s n zs qs->zs.length=qs.length
 | [],[],_=>rfl
 | _::_,_::_,h=>by simp [h.2.len]
 | [],_::_,h=>h.elim
 | _::_,[],h=>h.elim
theorem IsPts.get {s n:Nat}:∀ {zs:List (List LV)} {qs:List Pt},IsPts s n zs qs->∀ {i:Nat} {q:Pt},qs[i]? = some q->∃ z,zs[i]? = some z/\IsPt s n z q
 | [],[],_,i,q,h=>by simp at h
 | z::zs,q::qs,h,0,r,hr=>by simp at hr; subst hr; exact ⟨z,rfl,h.1⟩
 | z::zs,q::qs,h,i+1,r,hr=>by simpa using h.2.get (i:=i) (by simpa using hr)
 | [],_::_,h,_,_,_=>h.elim
 | _::_,[],h,_,_,_=>h.elim
theorem Q2b {s n:Nat}:∀ {l:List Pt},(∀ p∈l,Qws s n p)->IsPts s n (l.map G0) l
 | [],_=>trivial
 | p::l,h=>⟨Zlp (h p (Qr ..)),Q2b λq hq=>h q (Qj _ hq)⟩
theorem IsPt.ok {s n:Nat} {z:List LV} {q:Pt} (h:IsPt s n z q) (h1:1<=s):Qws s n q:=by
 obtain ⟨lx,ly,b,l,px,py,d,_,_,_,_,hc,e⟩:=h;unfold Qws;rw [e];exact ⟨Crv.nml _,hc.norm h1⟩
theorem Q5l (acc qs:List Pt) {i:Nat} {q:Pt} (hi:qs[i]? = some q) (h:Ts acc (qs.take i)=((Ts acc (qs.take i)).1,0)):Ts acc (qs.take (i+1))=if Qaz (Ts acc (qs.take i)).1 q=0 then (put (Ts acc (qs.take i)).1 q,0) else ([],Qaz (Ts acc (qs.take i)).1 q):=by
 induction qs generalizing acc i with
 | nil=>simp at hi
 |
  cons x qs ih =>
  cases i with
  | zero=>simp at hi; subst hi; simp [Ts]
  |
   succ i =>
   simp only [Yt,Ts] at h ⊢;by_cases h0:Qaz acc x=0
   ·simp only [h0,if_true] at h ⊢;exact ih (put acc x) (by simpa using hi) h
   ·simp only [h0,if_false] at h;injection h with _ h;exact absurd h h0
theorem Za3 (acc qs:List Pt) {i:Nat} {e:Int} (he:e≠0) (h:Ts acc (qs.take i)=([],e)):Ts acc qs=([],e):=by
 induction qs generalizing acc i with
 | nil=>simp [Ts] at h; exact absurd h.2.symm he
 |
  cons x qs ih =>
  cases i with
  | zero=>simp [Ts] at h; exact absurd h.2.symm he
  |
   succ i =>
   simp only [Yt,Ts] at h ⊢;by_cases h0:Qaz acc x=0
   ·simp only [h0,if_true] at h ⊢; exact ih _ h
   ·simp only [h0,if_false] at h ⊢; exact h
def Fc (p:List Int) (q:Rat):Int:=Na (Zhp p q.num q.den) 0
abbrev qa (q:Rat):List LV:=pl [-q.num,(q.den:Int)]::(rl q++rl q)
def Rh (sgn:List Int->Int):Nat->List Int->Int
 | 0,_=>0
 | k+1,p=>if p.length=0 then 0 else if sgn p=0 then Rh sgn k (Fe p) else sgn p
theorem Qad (sgn:List Int->Int):∀ (k:Nat) (p:List Int),p.length<=k->Rh sgn k p=Rh sgn p.length p
 |
  0,p,h=>by
  have:p.length=0:=by omega
  rw [this]
 |
  k+1,p,h=>by
  cases hp:p.length with
  | zero=>simp [Rh,hp]
  |
   succ m =>
   simp only [Rh];have h1:=Tr p;rw [Qad sgn k (Fe p) (by omega),Qad sgn m (Fe p) (by omega)]
theorem Qhq (sgn:List Int->Int) {p:List Int} (h:p.length=0):Rh sgn p.length p=0:=by rw [h]; rfl
theorem Qho (sgn:List Int->Int) {p:List Int} (h:0<p.length) (hs:sgn p≠0):Rh sgn p.length p=sgn p:=by
 obtain ⟨m,hm⟩:∃ m,p.length=m+1:=⟨p.length-1,by omega⟩;rw [hm]; simp only [Rh]; rw [if_neg (by omega),if_neg hs]
theorem Qhp (sgn:List Int->Int) {p:List Int} (h:0<p.length) (hs:sgn p=0):Rh sgn p.length p=Rh sgn (Fe p).length (Fe p):=by
 obtain ⟨m,hm⟩:∃ m,p.length=m+1:=⟨p.length-1,by omega⟩;rw [hm]; simp only [Rh]; rw [if_neg (by omega),if_pos hs];exact Qad sgn m _ (by have:=Tr p; omega)
structure Tm where
 p:List Int
 lo:Rat
 hi:Rat
abbrev ta (t:Tm):List LV:=pl t.p::(rl t.lo++rl t.hi)
abbrev tq (q:Rat):Tm:=⟨[-q.num,(q.den:Int)],q,q⟩
def Mp (sg:List Int->Int) (p:List Int):Int:=Rh sg p.length p
def Qc2 (p:List Int) (q:Rat):Int:=Mp (λp=>Fc p q) p
structure Pb (p:List Int):Prop where
 t:Uo p
 l:p.length<=64
 b:Bd 16777216 p
abbrev Qb (q:Rat):Prop:=Qs 16777216 q
abbrev Cb (k:Crv):Prop:=Cs 1048576 16 k
def Zl9 (a b:Crv):List Int:=Tx (Ff b.x a.d) (Ff a.x b.d)
def Zl8 (a b:Crv):List Int:=Tx (Ff b.y a.d) (Ff a.y b.d)
def Zbk (sg:List Int->Int) (a b:Pt):List (List Int)->Bool
 | []=>decide (a.id<b.id)
 | p::l=>if 0<p.length then decide (0<Mp sg p) else Zbk sg a b l
def Qwz (sg:List Int->Int) (a b:Pt):Bool:=Zbk sg a b [Zl9 a.c b.c,Zl8 a.c b.c]
end Orr
namespace Orr
open Go
structure Ct where
 kind:Int
 i0:Int
 i1:Int
 i2:Int
 i3:Int
 p:List Int
 want:Int
abbrev Qep (c:Ct):List LV:=[.int .i64 c.kind,.int .i64 c.i0,.int .i64 c.i1,.int .i64 c.i2,.int .i64 c.i3,pl c.p,.int .i64 c.want]
def Hx:List Int->List Int->Bool
 | x::l,y::m=>if x=y then Hx l m else decide (x<y)
 | _,_=>false
def Bh (a b:Ct):Bool:=Hx [a.kind,a.i0,a.i1,a.i2,a.i3] [b.kind,b.i0,b.i1,b.i2,b.i3]
def Qau (out:List Ct) (c:Ct):Nat->Nat
 | 0=>0
 |
  k+1=>match out[k]? with
  | some x=>if Bh c x=true then Qau out c k else k+1
  | none=>k+1
theorem Q27 (out:List Ct) (c:Ct):∀ k,Qau out c k<=k
 | 0=>Qm _
 |
  k+1=>by
  simp only [Qau]
  split
  ·split
   ·exact Nat.le_succ_of_le (Q27 out c k)
   ·exact Qm _
  ·exact Qm _
theorem Zhg {out:List Ct} {c x:Ct} {k:Nat} (hx:out[k]? = some x) (h:Bh c x=true):Qau out c (k+1)=Qau out c k:=by
 simp only [Qau,hx,h,if_true]
theorem Zbn {out:List Ct} {c x:Ct} {k:Nat} (hx:out[k]? = some x) (h:Bh c x=false):Qau out c (k+1)=k+1:=by
 simp [Qau,hx,h]
def Qc3 (out:List Ct) (c:Ct):List Ct:=out.take (Qau out c out.length)++c::out.drop (Qau out c out.length)
theorem Zaf (out:List Ct) (c:Ct):(Qc3 out c).length=out.length+1:=by
 have:=Q27 out c out.length;simp [Qc3]; omega
theorem Zag {out:List Ct} {c x:Ct} (h:x∈Qc3 out c):x=c\/x∈out:=by
 simp only [Qc3,Qw,Qp] at h;rcases h with h | h | h
 ·exact .inr (Qn h)
 ·exact .inl h
 ·exact .inr (Q0 h)
def G5 (l:List Ct):List Ct:=l.foldl Qc3 []
theorem Qz1 (l:List Ct) (c:Ct):G5 (l++[c])=Qc3 (G5 l) c:=by simp [G5,Y6]
theorem Qz2 {l:List Ct} {i:Nat} {c:Ct} (h:l[i]? = some c):G5 (l.take (i+1))=Qc3 (G5 (l.take i)) c:=by
 rw [Zw,h]; exact Qz1 _ _
theorem Qn2:∀ (l acc:List Ct),(l.foldl Qc3 acc).length=acc.length+l.length
 | [],acc=>by simp
 | c::l,acc=>by simp only [Xe]; rw [Qn2 l (Qc3 acc c),Zaf]; simp; omega
theorem D4 (l:List Ct):(G5 l).length=l.length:=by unfold G5; rw [Qn2]; simp
theorem Qn3:∀ (l acc:List Ct) {x:Ct},x∈l.foldl Qc3 acc->x∈l\/x∈acc
 | [],acc,x,h=>.inr h
 |
  c::l,acc,x,h=>by
  simp only [Xe] at h;rcases Qn3 l _ h with h | h
  ·exact .inl (Qj _ h)
  ·rcases Zag h with rfl | h
   ·exact .inl (Qr ..)
   ·exact .inr h
theorem Qg8 {l:List Ct} {x:Ct} (h:x∈G5 l):x∈l:=by
 rcases Qn3 l [] h with h | h
 ·exact h
 ·cases h
theorem Quh {α:Type} (l:List α) (z x:α) {k m':Nat} (hk:k<=l.length) (hm:m'=l.length-k) :
 ((l++[z]).take (k+1)++((l++[z]).drop k).take m'++(l++[z]).drop (k+1+m')).set k x=l.take k++x::l.drop k:=by
 subst hm;have e1:((l++[z]).drop k).take (l.length-k)=l.drop k:=by
  rw [Vn hk,Yo (by simp),Qk (by simp)]
 have e2:(l++[z]).drop (k+1+(l.length-k))=[]:=Yx (by simp; omega);rw [e1,e2,Xi];have e3:(l++[z]).take (k+1)=(l++[z]).take k++[(l++[z])[k]'(by simp; omega)]:=by rw [List.take_succ_eq_append_getElem]
 rw [e3,Yo hk,Zg,List.set_append,if_neg (by simp; omega)];simp [Zt hk]
end Orr
namespace Orr
open Go Go.Proofs
set_option maxRecDepth 10000
abbrev pr (p:List Int):TV:=.one (pl p)
theorem Sp {p:List Int} {i:Nat} {z:Int} (h:p[i]? = some z):(p.map Gk)[i]? = some (Gk z):=Gh h
theorem Qj4 (p:List Int):Uk Tryz.prog 158 [pr p] [pr (trim p)]:=by
 refine Gm Tryz.func158 rfl (ln 0 rfl rfl λhl=>?_);rw [Q8] at hl;refine go tt [] rfl trivial ?_;refine lp (S:=Nat) 0 (λL1 n=>(3,.v (.one (.int .i64 (n:Int))))::L1) (λ_=>[]) id (λn=>n<=p.length/\∀ j x,n<=j->p[j]? = some x->x=0) (p.map Gk).length ⟨by simp,λj x h1 h2=>by
  have:=(Qd.1 h2).1; simp at h1; omega⟩ rfl (λ_ _=>rfl) rfl λn ⟨h1,h2⟩=>?_
 cases n with
 | zero=>exact en tt [.f (by simp),.f rfl,.i 0] rfl (by rw [Qwe h1 h2 (λh=>by omega)]; simp [pl]) (by simp [Ui])
 |
  succ n =>
  obtain ⟨x,hx⟩:=gxE (l:=p) (i:=n) (by omega);by_cases h0:x=0
  ·refine go tt [.t (by simp),.r 11 (v:=.one (.int .i64 (n:Int))) (by simp),.x (Sp hx),.c [] Ex,.t (by simp [h0]),.r 17 (v:=.one (.int .i64 (n:Int))) (by simp)] rfl (by simp [Ui]; omega) ?_;exact rd n (by simp) ⟨by omega,λj y h3 h4=>by
    rcases Vf h3 with rfl | h3
    ·rw [hx] at h4; injection h4 with h4; rw [<-h4,h0]
    ·exact h2 j y h3 h4⟩ rfl
  ·exact en tt [.t (by simp),.r 11 (v:=.one (.int .i64 (n:Int))) (by simp),.x (Sp hx),.c [] Ex,.f (by simp [h0]),.i (n+1)] rfl (by rw [Qwe h1 h2 (λ_=>⟨x,hx,h0⟩)]; simp [pl,Yn]) (by simp [Ui] <;> omega)
theorem Q06 (p:List Int) (k:Nat):Uk Tryz.prog 244 [pr p,.one (.int .i64 (k:Int))] [.agg (Gk (p.getD k 0))]:=by
 by_cases h:k<p.length
 ·have hx:=Qe h;have e:p.getD k 0=p[k]:=by simp [List.getD,hx]
  rw [e];exact w tt Tryz.func244 rfl [.t (by simp; omega),.x (Sp hx)] rfl rfl trivial
 ·have e:p.getD k 0=0:=by simp [List.getD,Qt (Yv h)]
  rw [e,Lp];exact w tt Tryz.func244 rfl [.f (by simp; omega)] rfl rfl trivial
def fil (f:Nat->List LV) (z:List LV) (n k:Nat):List (List LV):=(List.range n).map λi=>if i<k then f i else z
theorem Eo (f:Nat->List LV) (z:List LV) (n k:Nat):(fil f z n k).length=n:=by simp [fil]
theorem Lh (f:Nat->List LV) (z:List LV) (n:Nat):List.replicate n z=fil f z n 0:=by
 refine Xt λi=>?_
 simp only [fil,J4,Q9];by_cases h:i<n
 ·simp [h]
 ·simp [h]
theorem Ix (f:Nat->List LV) (z:List LV) (n:Nat):fil f z n n=(List.range n).map f:=by
 refine Ju λi hi=>?_
 rw [if_pos (Kk.1 hi)]
theorem Iy (f:Nat->List LV) (z:List LV) {n k:Nat} (h:k<n):(fil f z n k).set k (f k)=fil f z n (k+1):=by
 refine Xt λi=>?_
 rw [J6];simp only [fil,Q9,Q8,List.length_range,h,if_true];by_cases e:k=i
 ·subst e; simp [h]
 ·simp only [e,if_false];by_cases hi:i<n
  ·simp only [X3 hi,J9];congr 1;by_cases h2:i<k
   ·rw [if_pos h2,if_pos (by omega)]
   ·rw [if_neg h2,if_neg (by omega)]
  ·simp [Qt,hi]
theorem Qp5 {n fid:Nat} {l1 l2:List LV} {g:Nat->Int} (hn:n<274877906944) (h:∀ k,k<n->Uk Tryz.prog fid [.one (.int .i64 (k:Int)),.one (.sh l1),.one (.sh l2)] [.agg (Gk (g k))]):Uk Tryz.prog 240 [.one (.int .i64 (n:Int)),.one (.fn fid [] [.sh l1,.sh l2])] [pr (Pp n g)]:=by
 refine Gm Tryz.func240 rfl ?_;refine go tt [.i n,.i n,.r 10 (eI (b:=(n:Int)) (by simp))] rfl (by simp [Ui]; omega) ?_;rw [Lh λk=>Gk (g k)];refine lp (S:=Nat) 1 (λL1 k=>(11,.v (.one (.int .i64 (k:Int))))::L1) (λk=>[.row false 55 2 (fil (λk=>Gk (g k)) [.bool false,.nils] n k)]) (λk=>n-k) (λk=>k<=n) 0 (Qh _) rfl (λ_ _=>rfl) rfl λk hk=>?_
 by_cases hlt:k<n
 ·refine go tt [.t (by simp; omega),.c [] (h k hlt),.i k] rfl (by simp [Ui,Eo]; omega) ?_;have e:=Iy (λk=>Gk (g k)) [.bool false,.nils] hlt;rw [e];exact rd (k+1) (by omega) hlt rfl
 ·obtain rfl:k=n:=by omega
  have e:fil (λk=>Gk (g k)) [.bool false,.nils] k k=((List.range k).map g).map Gk:=by rw [Ix]; simp
  rw [e];exact en tt [.f (by simp),.c [] (Qj4 _)] rfl rfl trivial
theorem Q03 {n fid:Nat} {l1:List LV} {g:Nat->Int} (hn:n<274877906944) (h:∀ k,k<n->Uk Tryz.prog fid [.one (.int .i64 (k:Int)),.one (.sh l1)] [.agg (Gk (g k))]):Uk Tryz.prog 240 [.one (.int .i64 (n:Int)),.one (.fn fid [] [.sh l1])] [pr (Pp n g)]:=by
 refine Gm Tryz.func240 rfl ?_;refine go tt [.i n,.i n,.r 10 (eI (b:=(n:Int)) (by simp))] rfl (by simp [Ui]; omega) ?_;rw [Lh λk=>Gk (g k)];refine lp (S:=Nat) 1 (λL1 k=>(11,.v (.one (.int .i64 (k:Int))))::L1) (λk=>[.row false 55 2 (fil (λk=>Gk (g k)) [.bool false,.nils] n k)]) (λk=>n-k) (λk=>k<=n) 0 (Qh _) rfl (λ_ _=>rfl) rfl λk hk=>?_
 by_cases hlt:k<n
 ·refine go tt [.t (by simp; omega),.c [] (h k hlt),.i k] rfl (by simp [Ui,Eo]; omega) ?_;have e:=Iy (λk=>Gk (g k)) [.bool false,.nils] hlt;rw [e];exact rd (k+1) (by omega) hlt rfl
 ·obtain rfl:k=n:=by omega
  have e:fil (λk=>Gk (g k)) [.bool false,.nils] k k=((List.range k).map g).map Gk:=by rw [Ix]; simp
  rw [e];exact en tt [.f (by simp),.c [] (Qj4 _)] rfl rfl trivial
theorem Zkl {p q:List Int} (k:Nat) (hp:Bd 4294967295 p) (hq:Bd 4294967295 q):Uk Tryz.prog 248 [.one (.int .i64 (k:Int)),.one (.sh [pl p]),.one (.sh [pl q])] [.agg (Gk (p.getD k 0+q.getD k 0))] :=
 w tt Tryz.func248 rfl [.c [] (Q06 p k),.c [] (Q06 q k),.c [] (Qct (Ul _) (Ul _) (Uw hp k) (Uw hq k))] rfl rfl trivial
theorem Zku {p q:List Int} (k:Nat) (hp:Bd 4294967295 p) (hq:Bd 4294967295 q):Uk Tryz.prog 243 [.one (.int .i64 (k:Int)),.one (.sh [pl p]),.one (.sh [pl q])] [.agg (Gk (p.getD k 0-q.getD k 0))] :=
 w tt Tryz.func243 rfl [.c [] (Q06 p k),.c [] (Q06 q k),.c [] (Q74 (Ul _) (Ul _) (Uw hp k) (Uw hq k))] rfl rfl trivial
theorem Hq {p:List Int} {k:Nat} (h:k<p.length):p[k]? = some (p.getD k 0):=by simp [List.getD,Qe h]
theorem Q7y {p:List Int} {c:Int} {k:Nat} (hk:k<p.length) (hp:Bd 4294967295 p) (hc:Uv c<=4294967295):Uk Tryz.prog 245 [.one (.int .i64 (k:Int)),.one (.sh [pl p]),.one (.sh (Gk c))] [.agg (Gk (p.getD k 0*c))] :=
 w tt Tryz.func245 rfl [.x (Sp (Hq hk)),.c [] (D8 (Ul _) (Ul _) (Uw hp k) hc)] rfl rfl trivial
theorem Zkr {p:List Int} {k:Nat} (hk:k<p.length) (hp:Bd 4294967295 p):Uk Tryz.prog 285 [.one (.int .i64 (k:Int)),.one (.sh [pl p])] [.agg (Gk (-(p.getD k 0)))] :=
 w tt Tryz.func285 rfl [.x (Sp (Hq hk)),.c [] (Qjz (Ul _) (Uw hp k))] rfl rfl trivial
theorem Q4b {p:List Int} {k:Nat} (hk:k+1<p.length) (hl:p.length<274877906944) (hp:Bd 4294967295 p):Uk Tryz.prog 241 [.one (.int .i64 (k:Int)),.one (.sh [pl p])] [.agg (Gk (p.getD (k+1) 0*((k+1:Nat):Int)))] :=
 w tt Tryz.func241 rfl [.x (Sp (Hq hk)),.r 10 (eI (b:=((k+1:Nat):Int)) (by omega)),.c [] (Qxd (by omega)),.c [] (D8 (Ul _) (Ul _) (Uw hp _) (Q5a (show k+1<274877906944 by omega)))] rfl rfl (by simp [Ui] <;> omega)
theorem Qxe {p q:List Int} (hlp:p.length<274877906944) (hlq:q.length<274877906944) (hp:Bd 4294967295 p) (hq:Bd 4294967295 q):Uk Tryz.prog 214 [pr p,pr q] [pr (L9 p q)] :=
 w tt Tryz.func214 rfl [.r 9 (eI (b:=((max p.length q.length:Nat):Int)) (by simp; omega)),.c [] (Qp5 (by omega) λk _=>Zkl k hp hq)] rfl rfl trivial
theorem Qxf {p q:List Int} (hlp:p.length<274877906944) (hlq:q.length<274877906944) (hp:Bd 4294967295 p) (hq:Bd 4294967295 q):Uk Tryz.prog 208 [pr p,pr q] [pr (Tx p q)] :=
 w tt Tryz.func208 rfl [.r 9 (eI (b:=((max p.length q.length:Nat):Int)) (by simp; omega)),.c [] (Qp5 (by omega) λk _=>Zku k hp hq)] rfl rfl trivial
theorem Q7s {p:List Int} (hlp:p.length<274877906944) (hp:Bd 4294967295 p):Uk Tryz.prog 260 [pr p] [pr (Se p)] :=
 w tt Tryz.func260 rfl [.r 4 (eI (b:=(p.length:Int)) (by simp)),.c [] (Q03 hlp λk hk=>Zkr hk hp)] rfl rfl trivial
theorem Qdw {p:List Int} {c:Int} (hlp:p.length<274877906944) (hp:Bd 4294967295 p) (hc:Uv c<=4294967295):Uk Tryz.prog 209 [pr p,.agg (Gk c)] [pr (Ff p c)] :=
 w tt Tryz.func209 rfl [.r 6 (eI (b:=(p.length:Int)) (by simp)),.c [] (Qp5 hlp λk hk=>Q7y hk hp hc)] rfl rfl trivial
theorem Ag {p:List Int} (hlp:p.length<274877906944) (hp:Bd 4294967295 p):Uk Tryz.prog 202 [pr p] [pr (Fe p)] :=
 w tt Tryz.func202 rfl [.r 6 (eI (b:=((p.length-1:Nat):Int)) (by simp; omega)),.c [] (Q03 (by omega) λk hk=>Q4b (by omega) hlp hp)] rfl rfl (by simp [Ui]; omega)
theorem Dc {ls:List (List LV)} {p:List Int} (hi:IsInts ls p) (hl:p.length<274877906944) (hs:Bd 4294967295 p):Uk Tryz.prog 126 [.one (.row ls)] [pr (trim p)]:=by
 refine Gm Tryz.func126 rfl ?_;have hlen:=hi.len;refine go tt [.i ls.length,.i ls.length] rfl (by simp [Ui]; omega) ?_;rw [Lh λk=>Gk (p.getD k 0)];refine lp (S:=Nat) 1 (λL1 k=>(11,.v (.one (.int .i64 (k:Int))))::L1) (λk=>[.row false 55 2 (fil (λk=>Gk (p.getD k 0)) [.bool false,.nils] ls.length k)]) (λk=>ls.length-k) (λk=>k<=ls.length) 0 (Qh _) rfl (λ_ _=>rfl) rfl λk hk=>?_
 by_cases hlt:k<ls.length
 ·obtain ⟨x,y,hx,hxy⟩:=hi.get (Hq (p:=p) (k:=k) (by omega));have cn:=Dd hxy (Uw hs k);obtain ⟨b,l,rfl,rfl,_⟩:=hxy;refine go tt [.t (by simp; omega),.x hx,.c [] cn,.i k] rfl (by simp [Ui,Eo]; omega) ?_;have e:=Iy (λk=>Gk (p.getD k 0)) [.bool false,.nils] hlt;rw [e];exact rd (k+1) (by omega) hlt rfl
 ·obtain rfl:k=ls.length:=by omega
  have e:fil (λk=>Gk (p.getD k 0)) [.bool false,.nils] ls.length ls.length=p.map Gk:=by
   rw [Ix,hlen];refine Xt λi=>?_
   by_cases hi:i<p.length
   ·simp [X3 hi,List.getD,Qe hi]
   ·simp [Qt,hi]
  rw [e];exact en tt [.f (by simp),.c [] (Qj4 _)] rfl rfl trivial
theorem G8 {p:List Int} (ht:Uo p) (hl:p.length<274877906944) (hs:Bd 4294967295 p):Uk Tryz.prog 126 [pr p] [pr p]:=by
 have:=Dc (Gw p) hl hs;rw [ht] at this; exact this
theorem Zgj {p:List Int} {i:Nat} {z:Int} (h:p[i]? = some z):(p.map λ(x:Int)=>[LV.int .i64 x])[i]? = some [.int .i64 z]:=Gh h
theorem Q0y {p:List Int} (hl:p.length<274877906944) (hr:∀ z∈p,-9223372036854775808≤z/\z≤9223372036854775807):Uk Tryz.prog 114 [.one (ids p)] [pr (trim p)]:=by
 refine Gm Tryz.func114 rfl ?_;refine go tt [.r 7 (eI (b:=(p.length:Int)) (by simp)),.i p.length,.i p.length,.r 10 (eI (b:=(p.length:Int)) (by simp))] rfl (by simp [Ui]; omega) ?_;rw [Lh λk=>Gk (p.getD k 0)];refine lp (S:=Nat) 1 (λL1 k=>(11,.v (.one (.int .i64 (k:Int))))::L1) (λk=>[.row false 55 2 (fil (λk=>Gk (p.getD k 0)) [.bool false,.nils] p.length k)]) (λk=>p.length-k) (λk=>k<=p.length) 0 (Qh _) rfl (λ_ _=>rfl) rfl λk hk=>?_
 by_cases hlt:k<p.length
 ·have hg:=Hq hlt;refine go tt [.t (by simp; omega),.x (Zgj hg),.c [] (Qxd (hr _ (Qa hg))),.i k] rfl (by simp [Ui,Eo]; omega) ?_;have e:=Iy (λk=>Gk (p.getD k 0)) [.bool false,.nils] hlt;rw [e];exact rd (k+1) (by omega) hlt rfl
 ·obtain rfl:k=p.length:=by omega
  have e:fil (λk=>Gk (p.getD k 0)) [.bool false,.nils] p.length p.length=p.map Gk:=by
   rw [Ix];refine Xt λi=>?_
   by_cases hi:i<p.length
   ·simp [X3 hi,List.getD,Qe hi]
   ·simp [Qt,hi]
  rw [e];exact en tt [.f (by simp),.c [] (Qj4 _)] rfl rfl trivial
theorem Qy7 (l:List Int) (i:Nat) (z:Int):(l.map Gk).set i (Gk z)=(l.set i z).map Gk:=by rw [Yz]
theorem Qjc (m:Nat):((List.replicate m [LV.bool false,LV.nils]).map λc=>c.map Qih)=(List.replicate m (0:Int)).map Gk:=by
 simp [Lp,Qih]
theorem Qpy {p0 q:List Int} {s t:Nat} (tq:Uo q) (hlp:p0.length<137438953472) (hlq:q.length<137438953472) (hp:Bd s p0) (hq:Bd t q) (hst:s+t<=4294967000):Uk Tryz.prog 215 [pr p0,pr q] [pr (U5 (trim p0) q)]:=by
 have cp:=Dc (Gw p0) (by omega) (Uj hp (show s<=4294967295 by omega));have hp:=Ru hp;have hlp:=Zv (He p0) hlp;obtain ⟨p,ep⟩:=nmE (trim p0);rw [<-ep] at cp hp hlp ⊢;have cq:=G8 tq (by omega) (Uj hq (show t<=4294967295 by omega));by_cases h0:p.length=0
 ·have e:U5 p q=[]:=by unfold U5; rw [if_pos (.inl h0)]
  rw [e];exact w tt Tryz.func215 rfl [.c [] cp,.c [] cq,.t (by simp; exact Qi h0),.t rfl] rfl rfl trivial
 by_cases h1:q.length=0
 ·have e:U5 p q=[]:=by unfold U5; rw [if_pos (.inr h1)]
  rw [e];exact w tt Tryz.func215 rfl [.c [] cp,.c [] cq,.f (by simp; intro h; subst h; simp at h0),.t (by simp; exact Qi h1)] rfl rfl trivial
 refine Gm Tryz.func215 rfl ?_;have e:U5 p q=trim (Cx p q (List.replicate (p.length+q.length-1) 0) p.length):=by unfold U5; rw [if_neg (by omega)]
 rw [e];obtain ⟨N,hN⟩:=nmE (p.length+q.length-1);rw [<-hN];obtain ⟨o,ho⟩:=nmE (List.replicate N (0:Int));rw [<-ho];have hol:o.length=N:=by rw [ho]; simp
 have ho0:∀ m,o.getD m 0=0:=λm=>by rw [ho]; exact Rq N m
 refine go tt [.c [] cp,.c [] cq,.f (by simp; intro h; subst h; simp at h0),.f (by simp; intro h; subst h; simp at h1),.r 27 (eI (b:=(N:Int)) (by simp; omega)),.i N,.i N] rfl (by simp [Ui]; omega) ?_;refine nl 0 rfl rfl rfl ?_;rw [Qjc,<-ho];refine lp (S:=Nat) 1 (λL1 i=>(31,.v (.one (.int .i64 (i:Int))))::L1) (λi=>[.row false 55 2 ((Cx p q o i).map Gk)]) (λi=>p.length-i) (λi=>i<=p.length) 0 (Qh _) rfl (λ_ _=>rfl) rfl λi hi=>?_
 by_cases hlt:i<p.length
 ·refine go tt [.t (by simp; omega),.x (Sp (Hq hlt))] rfl trivial ?_;refine lp (S:=Nat) 2 (λL1 k=>(38,.v (.one (.int .i64 (k:Int))))::L1) (λk=>[.row false 55 2 ((Ar (p.getD i 0) q i (Cx p q o i) k).map Gk),.blk 55 (Gk (p.getD i 0))]) (λk=>q.length-k) (λk=>k<=q.length) 0 (Qh _) rfl (λ_ _=>rfl) rfl λk hk=>?_
  by_cases hk2:k<q.length
  ·have hm1:Uv ((Ar (p.getD i 0) q i (Cx p q o i) k).getD (i+k) 0)<=4294967295:=Qc (E5 (t:=39) (Qrc (by rw [Cn]; omega) (Qrb (λj hj=>by omega) ho0 (λi j=>P9 (Uw hp i) (Uw hq j))) (λj=>P9 (Uw hp i) (Uw hq j)) (i+k)) (Ki (show i+1<549755813888 by omega) (by decide))) (by omega);have hm2:Uv (p.getD i 0*q.getD k 0)<=4294967295:=Qc (U6 _ _) (by have:=Uw hp i; have:=Uw hq k; omega);have hg:(Ar (p.getD i 0) q i (Cx p q o i) k)[i+k]? = some ((Ar (p.getD i 0) q i (Cx p q o i) k).getD (i+k) 0):=Hq (by rw [As,Cn]; omega);refine go tt [.t (by simp; omega),.x (Sp (Hq hk2)),.i (i+k),.x (Sp hg),.c [] (D8 (Ul _) (Ul _) (Qc (Uw hp i) (by omega)) (Qc (Uw hq k) (by omega))),.c [] (Qct (Ul _) (Ul _) hm1 hm2),.i (i+k)] rfl (by simp [Ui,As,Cn] <;> omega) ?_;rw [Qy7];exact rd (k+1) (by omega) hk2 rfl
  ·obtain rfl:k=q.length:=by omega
   exact go tt [.f (by simp)] rfl (by simp [Ui]; omega) (rd (i+1) (by omega) hlt rfl)
 ·obtain rfl:i=p.length:=by omega
  exact en tt [.f (by simp),.c [] (Qj4 _)] rfl rfl trivial
theorem Qpx {p q:List Int} {s t:Nat} (tp:Uo p) (tq:Uo q) (hlp:p.length<137438953472) (hlq:q.length<137438953472) (hp:Bd s p) (hq:Bd t q) (hst:s+t<=4294967000):Uk Tryz.prog 215 [pr p,pr q] [pr (U5 p q)]:=by
 have h:=Qpy tq hlp hlq hp hq hst;rw [show trim p=p from tp] at h;exact h
theorem Qpz {p q:List Int} (hlp:p.length<274877906944) (hlq:q.length<274877906944) (hp:Bd 4294967295 p) (hq:Bd 4294967295 q):Uk Tryz.prog 203 [pr p,pr q] [.one (.bool (decide (trim p=trim q)))]:=by
 refine Gm Tryz.func203 rfl ?_;have cp:=Dc (Gw p) hlp hp;have cq:=Dc (Gw q) hlq hq;have bp:=Ru hp;have bq:=Ru hq;have l1:=He p;have l2:=He q;obtain ⟨a,ha⟩:=nmE (trim p);obtain ⟨b,hb⟩:=nmE (trim q);rw [<-ha] at cp bp l1 ⊢;rw [<-hb] at cq bq l2 ⊢;by_cases hl:a.length=b.length
 ·refine go tt [.c [] cp,.c [] cq,.f (by simp; omega)] rfl trivial ?_;refine lp (S:=Nat) 0 (λL1 i=>(18,.v (.one (.int .i64 (i:Int))))::L1) (λ_=>[]) (λi=>a.length-i) (λi=>i<=a.length/\a.take i=b.take i) 0 ⟨Qh _,rfl⟩ rfl (λ_ _=>rfl) rfl λi ⟨hi,he⟩=>?_
  by_cases hlt:i<a.length
  ·have ga:=Hq hlt;have gb:=Hq (p:=b) (k:=i) (by omega);have cc:=Qf2 (Ul (a.getD i 0)) (Ul (b.getD i 0)) (Uw bp i) (Uw bq i);by_cases hz:a.getD i 0=b.getD i 0
   ·refine go tt [.t (by simp; omega),.x (Sp ga),.x (Sp gb),.c [] cc,.f (by simpa using Qqb.2 hz)] rfl (by simp [Ui]; omega) ?_;exact rd (i+1) (by omega) ⟨hlt,by rw [Ym,Ym,he,ga,gb,hz]⟩ rfl
   ·exact en tt [.t (by simp; omega),.x (Sp ga),.x (Sp gb),.c [] cc,.t (by have:=mt Qqb.1 hz; simpa using this)] rfl (by rw [decide_eq_false]; intro h; exact hz (by rw [h])) trivial
  ·obtain rfl:i=a.length:=by omega
   rw [Q4,hl,Q4] at he;exact en tt [.f (by simp)] rfl (by rw [decide_eq_true he]) trivial
 ·exact en tt [.c [] cp,.c [] cq,.t (by simp; omega)] rfl (by rw [decide_eq_false]; intro h; exact hl (by rw [h])) trivial
theorem Q7u {p:List Int} {n d:Int} {s t:Nat} (hl:p.length<274877906944) (hp:Bd s p) (hn:Uv n<=t) (hd:Uv d<=t) (hst:s+p.length*(t+1)+2*t+10<=4294967295):Uk Tryz.prog 201 [pr p,.agg (Gk n),.agg (Gk d)] [.agg (Gk (Zhp p n d))]:=by
 refine Gm Tryz.func201 rfl ?_;refine go tt [.c [] (Qxd (z:=1) (by decide)),.r 13 (eI (b:=(p.length:Int)-1-((0:Nat):Int)) (by simp))] rfl (by simp [Ui]; omega) ?_;refine nlb 3 rfl rfl rfl ?_;have e0:[LV.bool false,LV.nils].map Qih=Gk (Pj p n d 0).1:=by simp [Qih,Pj,Lp]
 rw [e0];refine lp (S:=Nat) 5 (λL1 j=>(9,.v (.one (.int .i64 ((p.length:Int)-1-(j:Int)))))::L1) (λj=>[.blk 55 (Gk n),.blk 55 (Gk d),.blk 55 [.bool false,.nils],.blk 55 (Gk (Pj p n d j).1),.blk 55 (Gk (Pj p n d j).2)]) (λj=>p.length-j) (λj=>j<=p.length) 0 (Qh _) rfl (λ_ _=>rfl) rfl λj hj=>?_
 have hv:=Qsm (k:=j) hp hn hd;have hjl:j*(t+1)<=p.length*(t+1):=Qy _ (by omega);have hjl2:j*t<=j*(t+1):=Zj _ (by omega);by_cases hlt:j<p.length
 ·have hc:=Uw hp (p.length-1-j);have hm1:Uv ((Pj p n d j).1*n)<=4294967295:=Qc (U6 _ _) (by omega);have hm2:Uv (p.getD (p.length-1-j) 0*(Pj p n d j).2)<=4294967295:=Qc (U6 _ _) (by omega);refine go tt [.t (by simp; omega),.c [] (D8 (Ul _) (Ul _) (by omega) (by omega)),.r 22 (eI (b:=((p.length-1-j:Nat):Int)) (by omega)),.x (Sp (Hq (p:=p) (k:=p.length-1-j) (by omega))),.c [] (D8 (Ul _) (Ul _) (by omega) (by omega)),.c [] (Qct (Ul _) (Ul _) hm1 hm2),.c [] (D8 (Ul _) (Ul _) (by omega) (by omega)),.r 17 (eI (b:=(p.length:Int)-1-((j+1:Nat):Int)) (by omega))] rfl (by simp [Ui] <;> omega) ?_;exact rd (j+1) (by omega) hlt rfl
 ·obtain rfl:j=p.length:=by omega
  exact en tt [.f (by simp; omega)] rfl rfl trivial
theorem B7 {p:List Int} (tp:Uo p) (hl:p.length<274877906944) (hp:Bd 4294967295 p):Uk Tryz.prog 259 [pr p] [.agg (Gk (p.getD (p.length-1) 0))]:=by
 have cn:=G8 tp hl hp;by_cases h0:p=[]
 ·subst h0;exact w tt Tryz.func259 rfl [.c [] cn,.t (by simp)] rfl (by simp [Lp]) trivial
 ·have hpl:0<p.length:=Jt.2 h0;exact w tt Tryz.func259 rfl [.c [] cn,.f (by simpa using h0),.r 12 (eI (b:=((p.length-1:Nat):Int)) (by simp; omega)),.x (Sp (Hq (by omega)))] rfl rfl (by simp [Ui]; omega)
theorem Zjy {a b:Int} {q:Rat} (h1:a=q.num) (h2:b=(q.den:Int)):[sg a,mg a,sg b,mg b]=rl q:=by rw [h1,h2]
theorem O3 {n d:Int} (h0:d≠0) (hn:Uv n<=4294967295) (hd:Uv d<=4294967295):Uk Tryz.prog 163 [.agg (Gk n),.agg (Gk d)] [.agg (rl (Rat.divInt n d))]:=by
 have cg:=Q7g (Gw [n,d]) (λz hz=>by simp at hz; rcases hz with rfl | rfl <;> assumption);have gp:=Qt7 (n:=n) h0;have gs:=Q2c (n:=n) h0 hd;have m1:=Qk2 n d;have m2:=Qk3 n d;obtain ⟨g,hg⟩:=nmE (((Gz [n,d]:Nat):Int));rw [<-hg] at cg gp gs m1 m2;by_cases hneg:d<0
 ·obtain ⟨e1,e2⟩:=Zgw (n:=n) hneg;rw [<-hg] at e1 e2;rw [<-Zjy e1 e2];exact w tt Tryz.func163 rfl [.c [] cg,.t (by simpa using hneg),.c [] (Qjz (Ul n) hn),.c [] (Qjz (Ul d) hd),.c [] (Ec (Ul _) (Ul _) (by rw [Gg]; exact hn) gs (by omega) (Q2u m1)),.c [] (Ec (Ul _) (Ul _) (by rw [Gg]; exact hd) gs (by omega) (Q2u m2))] rfl rfl trivial
 ·obtain ⟨e1,e2⟩:=Qq7 (n:=n) (d:=d) (by omega);rw [<-hg] at e1 e2;rw [<-Zjy e1 e2];exact w tt Tryz.func163 rfl [.c [] cg,.f (by simpa using hneg),.c [] (Ec (Ul _) (Ul _) hn gs (by omega) m1),.c [] (Ec (Ul _) (Ul _) hd gs (by omega) m2)] rfl rfl trivial
theorem Qir {x y x' y':LV} {n d:Int} (h1:Hu x y n) (h2:Hu x' y' d) (hn:Uv n<=4294967295) (hd:Uv d<=4294967295):Uk Tryz.prog 117 [.agg [x,y,x',y']] [.agg (rl (Gb n d))]:=by
 have c1:=Dd h1 hn;have c2:=Dd h2 hd;obtain ⟨b,l,rfl,rfl,_⟩:=h1;obtain ⟨b',l',rfl,rfl,_⟩:=h2;by_cases h0:d=0
 ·have e:Gb n d=Rat.divInt n 1:=by unfold Gb; rw [if_pos h0]
  rw [e];exact w tt Tryz.func117 rfl [.c [] c2,.c [] Ex,.t (by simpa using h0),.c [] (Qxd (z:=1) (by decide)),.c [] c1,.c [] (O3 (by decide) hn (by decide))] rfl rfl trivial
 ·have e:Gb n d=Rat.divInt n d:=by unfold Gb; rw [if_neg h0]
  rw [e];exact w tt Tryz.func117 rfl [.c [] c2,.c [] Ex,.f (by simpa using h0),.c [] c1,.c [] (O3 h0 hn hd)] rfl rfl trivial
theorem Qj9 {q:Rat} (hq:Qs 4294967295 q):Uk Tryz.prog 117 [.agg (rl q)] [.agg (rl q)]:=by
 have:=Qir (Ul q.num) (Ul (q.den:Int)) hq.1 hq.2;rwa [I9] at this
theorem Qp3 {a b:Rat} (ha:Qs 2147483647 a) (hb:Qs 2147483647 b):Uk Tryz.prog 164 [.agg (rl a),.agg (rl b)] [.agg (Gk (a.num*(b.den:Int))),.agg (Gk (b.num*(a.den:Int))),.agg (Gk ((a.den:Int)*(b.den:Int)))] :=
 w tt Tryz.func164 rfl [.c [] (Qj9 (ha.mono (by decide))),.c [] (Qj9 (hb.mono (by decide))),.c [] (D8 (Ul _) (Ul _) (Qc ha.1 (by decide)) (Qc hb.2 (by decide))),.c [] (D8 (Ul _) (Ul _) (Qc hb.1 (by decide)) (Qc ha.2 (by decide))),.c [] (D8 (Ul _) (Ul _) (Qc ha.2 (by decide)) (Qc hb.2 (by decide)))] rfl rfl trivial
theorem D9 {a b:Rat} (ha:Qs 2147483647 a) (hb:Qs 2147483647 b):Uk Tryz.prog 118 [.agg (rl a),.agg (rl b)] [.one (.int .i64 (Fi a b))] :=
 w tt Tryz.func118 rfl [.c [] (Qp3 ha hb),.c [] (Qf2 (Ul _) (Ul _) (Qc (U6 _ _) (by have:=ha.1; have:=hb.2; omega)) (Qc (U6 _ _) (by have:=hb.1; have:=ha.2; omega)))] rfl rfl trivial
theorem Q8p {x y x' y':LV} {n d:Int} (h1:Hu x y n) (h2:Hu x' y' d) (hn:Uv n<=4294967295) (hd:Uv d<=4294967295):Uk Tryz.prog 60 [.agg [x,y,x',y'],.one (.row [])] [.agg (rl (Gb n d))]:=by
 have c1:=Qir h1 h2 hn hd;obtain ⟨b,l,rfl,rfl,_⟩:=h1;obtain ⟨b',l',rfl,rfl,_⟩:=h2;refine Gm Tryz.func60 rfl ?_;refine go tt [.c [] c1] rfl trivial ?_;refine lp (S:=Unit) 3 (λL1 _=>(12,.v (.one (.int .i64 0)))::L1) (λ_=>[.blk 74 [.bool b,.row (lm l),.bool b',.row (lm l')],.blk 74 [.bool false,.nils,.bool false,.nils],.blk 74 (rl (Gb n d))]) (λ_=>0) (λ_=>True) () trivial rfl (λ_ _=>rfl) rfl λ_ _=>?_
 exact en tt [.f (by simp)] rfl rfl trivial
theorem Ik {q:Rat} (hq:Qs 4294967295 q):Uk Tryz.prog 60 [.agg (rl q),.one (.row [])] [.agg (rl q)]:=by
 have:=Q8p (Ul q.num) (Ul (q.den:Int)) hq.1 hq.2;rwa [I9] at this
theorem Zff {q:Rat} (hq:Qs 4294967295 q):Uk Tryz.prog 200 [.agg (rl q)] [.agg (rl q)]:=w tt Tryz.func200 rfl [.c [] (Ik hq)] rfl rfl trivial
theorem Q0z {p:List Int} {q:Rat} {s t:Nat} (tp:Uo p) (hl:p.length<274877906944) (hp:Bd s p) (hq:Qs t q) (hst:s+p.length*(t+1)+2*t+10<=4294967295):Uk Tryz.prog 159 [pr p,.agg (rl q)] [.one (.int .i64 (Fc p q))]:=by
 have cc:=Qf2 (Ul (Zhp p q.num q.den)) Bw (Qc (Qsm hp hq.1 hq.2).1 (by omega)) (by decide);exact w tt Tryz.func159 rfl [.c [] (Zff (hq.mono (by omega))),.c [] (G8 tp hl (Uj hp (by omega))),.c [] (Q7u hl hp hq.1 hq.2 hst),.c [] cc] rfl rfl trivial
theorem Q8f {p:List Int} {g:Int} (hl:p.length<274877906944) (hp:Bd 4294967295 p) (hg:Uv g≤4294967295) (h0:g≠0) (hd:∀ z∈p,z % g=0):Uk Tryz.prog 199 [pr p,.agg (Gk g)] [pr (trim (p.map (· / g)))]:=by
 refine Gm Tryz.func199 rfl ?_;refine go tt [.r 9 (eI (b:=(p.length:Int)) (by simp)),.i p.length,.i p.length,.r 12 (eI (b:=(p.length:Int)) (by simp))] rfl (by simp [Ui]; omega) ?_;rw [Lh λk=>Gk (p.getD k 0 / g)];refine lp (S:=Nat) 2 (λL1 k=>(13,.v (.one (.int .i64 (k:Int))))::L1) (λk=>[.blk 55 (Gk g),.row false 55 2 (fil (λk=>Gk (p.getD k 0 / g)) [.bool false,.nils] p.length k)]) (λk=>p.length-k) (λk=>k<=p.length) 0 (Qh _) rfl (λ_ _=>rfl) rfl λk hk=>?_
 by_cases hlt:k<p.length
 ·have hg2:=Hq hlt;refine go tt [.t (by simp; omega),.x (Sp hg2),.c [] (Ec (Ul _) (Ul _) (Uw hp k) hg h0 (hd _ (Qa hg2))),.i k] rfl (by simp [Ui,Eo]; omega) ?_;have e:=Iy (λk=>Gk (p.getD k 0 / g)) [.bool false,.nils] hlt;rw [e];exact rd (k+1) (by omega) hlt rfl
 ·obtain rfl:k=p.length:=by omega
  have e:fil (λk=>Gk (p.getD k 0 / g)) [.bool false,.nils] p.length p.length=(p.map (· / g)).map Gk:=by
   rw [Ix];refine Xt λi=>?_
   by_cases hi:i<p.length
   ·simp [X3 hi,List.getD,Qe hi]
   ·simp [Qt,hi]
  rw [e];exact en tt [.f (by simp),.c [] (Dc (Gw (p.map (· / g))) (by simp; exact hl) (Qfy hp g))] rfl rfl trivial
theorem Qlp (p:List Int):∀ c∈p.map Gk,c.length=2:=Zju p λ_=>rfl
theorem Qp2 {lx ly:List (List LV)} {px py:List Int} {x y:LV} {d:Int} (hx:IsInts lx px) (hy:IsInts ly py) (hd:Hu x y d) (hk:Cs 4294967294 1073741824 (Crv.mk px py d)):Uk Tryz.prog 157 [.agg [.row lx,.row ly,x,y]] [.agg (cl (Crv.norm (Crv.mk px py d)))]:=by
 have hlx:=hk.lx;have hly:=hk.ly;simp only at hlx hly;have htx:=He px;have hty:=He py;have hd1:Uv (Crv.mk px py d).d'<=4294967295:=Qc (Qqy hk.d (by omega)) (by omega);have hg1:=Crv.isz_g (Crv.mk px py d) hd1;have hg0:=Crv.g_ne (Crv.mk px py d);have hgd:=Crv.g_dvd (Crv.mk px py d);have cx:=Dc hx (by omega) (Uj hk.x (by omega));have cy:=Dc hy (by omega) (Uj hk.y (by omega));have cd:=Dd hd (Qc hk.d (by omega));have bx:Bd 4294967295 (trim px):=Uj (Ru hk.x) (by omega);have by_:Bd 4294967295 (trim py):=Uj (Ru hk.y) (by omega);obtain ⟨b,l,rfl,rfl,_⟩:=hd;obtain ⟨e,he⟩:=nmE ((Crv.mk px py d).d');obtain ⟨g,hgg⟩:=nmE ((Crv.mk px py d).g);obtain ⟨X,hX⟩:=nmE (trim px);obtain ⟨Y,hY⟩:=nmE (trim py);have hnorm:(Crv.mk px py d).norm=⟨trim (X.map (· / g)),trim (Y.map (· / g)),e / g⟩:=by rw [he,hgg,hX,hY]; rfl
 rw [hnorm];have hgdef:g=if e<0 then -((Gz (e::(X++Y)):Nat):Int) else (Gz (e::(X++Y)):Nat):=by rw [hgg,he,hX,hY]; rfl
 have hde:e=if d=0 then 1 else d:=by rw [he]; rfl
 simp only [<-he,<-hgg,<-hX,<-hY] at hd1 hg1 hg0 hgd htx hty cx cy bx by_;clear hnorm hgg he hX hY;refine Gm Tryz.func157 rfl ?_;refine go tt [.c [] cx,.c [] cy,.c [] cd,.c [] Ex] rfl trivial ?_;refine ct 1 (S:=Unit) (λ_=>[(2,.v (.one (.ow 1 0))),(3,.v (pr X)),(4,.v (pr Y)),(5,.v (.one (.ow 2 0)))]) (λ_=>[.blk 57 [.row lx,.row ly,.bool b,.row (lm l)],.blk 57 [.nils,.nils,.bool false,.nils],.blk 55 (Gk e)]) (λ_=>True) rfl ?_ ?_
 ·by_cases h0:d=0
  ·rw [hde,if_pos h0];exact go tt [.t (by simpa using h0),.c [] (Qxd (z:=1) (by decide))] rfl trivial (rc () trivial rfl)
  ·rw [hde,if_neg h0];exact go tt [.f (by simpa using h0)] rfl trivial (rc () trivial rfl)
 ·intro _ _;have hgi:IsInts ([Gk e]++X.map Gk++Y.map Gk) (e::(X++Y)):=by
   have:=Gw (e::(X++Y));simpa using this
  have hgs:∀ z∈e::(X++Y),Uv z≤4294967295:=λz hz=>by
   rcases Qp.1 hz with rfl | hz
   ·exact hd1
   ·rcases Qw.1 hz with hz | hz
    ·exact bx z hz
    ·exact by_ z hz
  have cg:=Q7g hgi hgs;have co1:=Q8f (p:=X) (by omega) bx hg1 hg0 λz hz=>hgd z (Qj _ (K9 _ hz))
  have co2:=Q8f (p:=Y) (by omega) by_ hg1 hg0 λz hz=>hgd z (Qj _ (Kx _ hz))
  have ce:=Ec (Ul e) (Ul g) hd1 hg1 hg0 (hgd e (Qr ..));have hszg:=Qi1 hgs;by_cases hneg:e<0
  ·rw [if_pos hneg] at hgdef;have cn:=Qjz (Ul ((Gz (e::(X++Y)):Nat):Int)) hszg;rw [<-hgdef] at cn;exact en tt [.lo,.s (Qlp X),.s (Qlp Y),.c [] cg,.t (by simpa using hneg),.c [] cn,.c [] ce,.c [] co1,.c [] co2] rfl rfl (by simp [Ui]; omega)
  ·rw [if_neg hneg] at hgdef;rw [<-hgdef] at cg;exact en tt [.lo,.s (Qlp X),.s (Qlp Y),.c [] cg,.f (by simpa using hneg),.c [] ce,.c [] co1,.c [] co2] rfl rfl (by simp [Ui]; omega)
theorem Qs9 {k:Crv} (hn:Nml k) (hk:Cs 4294967294 1073741824 k):Uk Tryz.prog 157 [.agg (cl k)] [.agg (cl k)]:=by
 have h:=Qp2 (Gw k.x) (Gw k.y) (Ul k.d) hk;rw [Crv.norm_of hn] at h; exact h
theorem Qp1 {lx ly:List (List LV)} {px py:List Int} {x y:LV} {d:Int} (hx:IsInts lx px) (hy:IsInts ly py) (hd:Hu x y d) (hk:Cs 4294967294 1073741824 (Crv.mk px py d)) (h0:d≠0):Uk Tryz.prog 188 [.one (.row lx),.one (.row ly),.agg [x,y]] [.agg (cl (Crv.norm (Crv.mk px py d))),.one (.int .i64 0)]:=by
 have cd:=Dd hd (Qc hk.d (by omega));have cn:=Qp2 hx hy hd hk;obtain ⟨b,l,rfl,rfl,_⟩:=hd;exact w tt Tryz.func188 rfl [.c [] cd,.c [] Ex,.f (by simpa using h0),.c [] cn] rfl rfl trivial
theorem Zn1 {lx ly:List (List LV)} {px py:List Int} (hx:IsInts lx px) (hy:IsInts ly py) (hk:Cs 4294967294 1073741824 (Crv.mk px py 0)):Uk Tryz.prog 113 [.one (.row lx),.one (.row ly)] [.agg (cl (Crv.norm (Crv.mk px py 0)))] :=
 w tt Tryz.func113 rfl [.c [] (Qp2 hx hy Bw hk)] rfl rfl trivial
def Qpc (x y:Int):Crv:=Crv.norm ⟨trim [x],trim [y],0⟩
theorem Qto {x y:Int} (hx:-9223372036854775808<=x/\x<=9223372036854775807) (hy:-9223372036854775808<=y/\y<=9223372036854775807):Cs 64 1 ⟨trim [x],trim [y],0⟩:=by
 have key:∀ z:Int,-9223372036854775808<=z/\z<=9223372036854775807->Uv z<=64:=λz hz=>by
  rw [Rr];have:(2:Nat)^64=18446744073709551616:=by decide
  omega
 refine ⟨Ru λz hz=>?_,Ru λz hz=>?_,Qh _,He [x],He [y]⟩
 ·rw [Ql] at hz; rw [hz]; exact key x hx
 ·rw [Ql] at hz; rw [hz]; exact key y hy
theorem Qiq {x y:Int} (hx:-9223372036854775808<=x/\x<=9223372036854775807) (hy:-9223372036854775808<=y/\y<=9223372036854775807):Uk Tryz.prog 57 [.one (.int .i64 x),.one (.int .i64 y)] [.agg (cl (Qpc x y))] :=
 w tt Tryz.func57 rfl [.c [] (Q0y (p:=[x]) (show 1<274877906944 by decide) (by intro z hz; rw [Ql] at hz; rw [hz]; exact hx)),.c [] (Q0y (p:=[y]) (show 1<274877906944 by decide) (by intro z hz; rw [Ql] at hz; rw [hz]; exact hy)),.c [] (Zn1 (Gw _) (Gw _) ((Qto hx hy).mono (by omega) (by omega)))] rfl rfl trivial
theorem Ze8 {a b:Crv} (ha:Nml a) (hb:Nml b) (ca:Cs 4294967294 1073741824 a) (cb:Cs 4294967294 1073741824 b):Uk Tryz.prog 166 [.agg (cl a),.agg (cl b)] [.one (.bool (Ai a b))]:=by
 have na:=Qs9 ha ca;have nb:=Qs9 hb cb;have alx:=ca.lx;have aly:=ca.ly;have blx:=cb.lx;have bly:=cb.ly;have sx:=Qpz (p:=a.x) (q:=b.x) (by omega) (by omega) (Uj ca.x (by omega)) (Uj cb.x (by omega));have sy:=Qpz (p:=a.y) (q:=b.y) (by omega) (by omega) (Uj ca.y (by omega)) (Uj cb.y (by omega));have sd:=Qf2 (Ul a.d) (Ul b.d) (Qc ca.d (by omega)) (Qc cb.d (by omega));rw [ha.1,hb.1] at sx;rw [ha.2.1,hb.2.1] at sy;by_cases h1:a.x=b.x
 ·by_cases h2:a.y=b.y
  ·exact w tt Tryz.func166 rfl [.c [] na,.c [] nb,.c [] sx,.t (by simpa using h1),.c [] sy,.t (by simpa using h2),.c [] sd] rfl (by simp [Ai,h1,h2,Qqb]) trivial
  ·exact w tt Tryz.func166 rfl [.c [] na,.c [] nb,.c [] sx,.t (by simpa using h1),.c [] sy,.f (by simpa using h2)] rfl (by simp [Ai,h1,h2]) trivial
 ·exact w tt Tryz.func166 rfl [.c [] na,.c [] nb,.c [] sx,.f (by simpa using h1),.f rfl] rfl (by simp [Ai,h1]) trivial
theorem Hb {l:List Pt} {i:Nat} {p:Pt} (h:l[i]? = some p):(l.map G0)[i]? = some [pl p.c.x,pl p.c.y,sg p.c.d,mg p.c.d,.int .i64 p.id]:=Gh h
theorem Qvu (l:List Pt):∀ c∈l.map G0,c.length=5:=Zju l λ_=>rfl
theorem Zfc {lx ly:List (List LV)} {px py:List Int} {x y:LV} {d:Int} (hx:IsInts lx px) (hy:IsInts ly py) (hd:Hu x y d) (hk:Cs 4294967294 1073741824 (Crv.mk px py d)) (id:Int):Uk Tryz.prog 148 [.agg [.row lx,.row ly,x,y,.int .i64 id]] [.agg (G0 ⟨Crv.norm (Crv.mk px py d),id⟩)]:=by
 have cd:=Dd hd (Qc hk.d (by omega));by_cases h0:d=0
 ·subst h0;have ck:Cs 4294967294 1073741824 (Crv.mk px py 1):=⟨hk.x,hk.y,show Uv 1<=4294967294 by decide,hk.lx,hk.ly⟩;have cm:=Qp1 hx hy (Ul 1) ck (by decide);have e:Crv.norm (Crv.mk px py 1)=Crv.norm (Crv.mk px py 0):=by simp only [Crv.norm,Crv.g,Crv.d']; rfl
  rw [e] at cm;obtain ⟨b,l,rfl,rfl,_⟩:=hd;exact w tt Tryz.func148 rfl [.c [] cd,.c [] Ex,.t (by simp),.c [] (Qxd (z:=1) (by decide)),.c [] cm] rfl rfl trivial
 ·have cm:=Qp1 hx hy hd hk h0;obtain ⟨b,l,rfl,rfl,_⟩:=hd;exact w tt Tryz.func148 rfl [.c [] cd,.c [] Ex,.f (by simpa using h0),.c [] cm] rfl rfl trivial
theorem Zn2 {l:List Pt} (id:Int) (hl:l.length<1073741824):Uk Tryz.prog 147 [.agg [pts l],.one (.int .i64 id)] [.one (.int .i64 (pos l id:Int)),.one (.bool (has l id))]:=by
 refine Gm Tryz.func147 rfl ?_;refine go tt [] rfl trivial ?_;refine ct 2 (S:=Unit) (λ_=>[(1,.v (.one (.int .i64 id))),(2,.v (.one (.ow 0 0))),(6,.v (.one (.int .i64 (pos l id:Int))))]) (λ_=>[.blk 84 [pts l]]) (λ_=>True) rfl ?_ ?_
 ·refine lp (S:=Nat) 1 (λL1 k=>(6,.v (.one (.int .i64 (k:Int))))::L1) (λ_=>[.blk 84 [pts l]]) (λk=>l.length-k) (λk=>k<=l.length/\∀ j p,j<k->l[j]? = some p->p.id<id) 0 ⟨Qh _,λj p h=>by omega⟩ rfl (λ_ _=>rfl) rfl λk ⟨hk,hlt⟩=>?_
  by_cases h:k<l.length
  ·obtain ⟨p,hp⟩:=gxE (l:=l) (i:=k) h;by_cases hid:p.id<id
   ·refine go tt [.t (by simp; omega),.x (Hb hp),.t (by simpa using hid)] rfl (by simp [Ui]; omega) ?_;exact rd (k+1) (by omega) ⟨h,λj q hj hq=>by
     rcases Zb j k with h2 | h2
     ·exact hlt j q h2 hq
     ·have:j=k:=by omega
      subst this; rw [hp] at hq; injection hq with hq; rw [<-hq]; exact hid⟩ rfl
   ·have e:=Qza hlt (.inr ⟨p,hp,hid⟩);refine go tt [.t (by simp; omega),.x (Hb hp),.f (by simpa using hid)] rfl trivial ?_;rw [e];exact rc () trivial rfl
  ·obtain rfl:k=l.length:=by omega
   have e:=Qza hlt (.inl rfl);refine go tt [.f (by simp),.f rfl] rfl trivial ?_;rw [e];exact rc () trivial rfl
 ·intro _ _;by_cases h:pos l id<l.length
  ·obtain ⟨p,hp⟩:=gxE (l:=l) (i:=pos l id) h;have e:has l id=decide (p.id=id):=by simp [has,hp]
   rw [e];exact en tt [.g 30 true (by simp; omega),.x (Hb hp)] rfl rfl trivial
  ·have e:has l id=false:=by simp [has,Qt (Yv h)]
   rw [e];exact en tt [.g 30 false (by simp; omega)] rfl rfl trivial
theorem Znw {lx ly:List (List LV)} {px py:List Int} {x y:LV} {d id:Int} {l:List Pt} (hx:IsInts lx px) (hy:IsInts ly py) (hd:Hu x y d) (hk:Cs 4294967294 1073741824 (Crv.mk px py d)) (hl:l.length<=1000000) :
 Uk Tryz.prog 90 [.agg [pts l],.agg [.row lx,.row ly,x,y,.int .i64 id]] [.agg [pts (if Qaz l (Pt.mk (Crv.norm (Crv.mk px py d)) id)=0 then put l (Pt.mk (Crv.norm (Crv.mk px py d)) id) else l)],.one (.int .i64 (Qaz l (Pt.mk (Crv.norm (Crv.mk px py d)) id)))]:=by
 have ca:=Zn2 (l:=l) id (by omega);have cf:=Zfc hx hy hd hk id;obtain ⟨b,r,rfl,rfl,_⟩:=hd;obtain ⟨q,hq⟩:=nmE (Pt.mk (Crv.norm (Crv.mk px py d)) id);have hqi:q.id=id:=by rw [hq]
 rw [<-hq] at cf ⊢;have hpl:=Zbo l id;by_cases h1:has l id=true
 ·have e:Qaz l q=6:=by simp [Qaz,hqi,h1]
  rw [e,if_neg (by decide)];exact w tt Tryz.func90 rfl [.c [] ca,.t h1] rfl rfl trivial
 by_cases h2:6<=l.length
 ·have e:Qaz l q=9:=by simp [Qaz,hqi,h1,h2]
  rw [e,if_neg (by decide)];exact w tt Tryz.func90 rfl [.c [] ca,.f (by simpa using h1),.t (by simp; omega)] rfl rfl trivial
 have e:Qaz l q=0:=by simp [Qaz,hqi,h1,h2]
 rw [e,if_pos rfl];have s1:∀ c∈(l.map G0).take (pos l id),c.length=5:=λc hc=>Qvu l c (Qn hc)
 have s3:∀ c∈(l.map G0).drop (pos l id),c.length=5:=λc hc=>Qvu l c (Q0 hc)
 refine w tt Tryz.func90 rfl [.c [] ca,.f (by simpa using h1),.f (by simp; omega),.i (pos l id),.s s1,.c [] cf,.i (pos l id),.s s3] rfl ?_ ?_
 ·simp [put,hqi,pts,Yn,Ws,G0]
 ·simp [Ui];exact ⟨by omega,hpl,λ_ _=>rfl,by omega,by omega,hpl⟩
theorem Za4:∀ (qs:List Pt),(Ts [] qs).1.length<=qs.length:=by
 have key:∀ (qs acc:List Pt),(Ts acc qs).1.length<=acc.length+qs.length:=by
  intro qs
  induction qs with
  | nil=>intro acc; simp [Ts]
  |
   cons q qs ih =>
   intro acc;simp only [Ts]
   split
   ·have:=ih (put acc q); rw [Q3d] at this; simp only [Q6]; omega
   ·simp
 intro qs;have:=key qs [];simpa using this
theorem Znt {zs:List (List LV)} {qs:List Pt} (hz:IsPts 4294967294 1073741824 zs qs) (hl:qs.length<=6):Uk Tryz.prog 96 [.one (.row zs)] [.agg [pts (Ts [] qs).1],.one (.int .i64 (Ts [] qs).2)]:=by
 refine Gm Tryz.func96 rfl ?_;have hzl:=hz.len;refine go tt [.f (by simp; omega)] rfl trivial ?_;refine nlb 1 rfl rfl rfl ?_;refine lp (S:=Nat) 2 (λL1 i=>(14,.v (.one (.int .i64 (i:Int))))::L1) (λi=>[.blk 84 [.nils],.blk 84 [pts (Ts [] (qs.take i)).1]]) (λi=>qs.length-i) (λi=>i<=qs.length/\(Ts [] (qs.take i)).2=0) 0 ⟨Qh _,rfl⟩ rfl (λ_ _=>rfl) rfl λi ⟨hi,h0⟩=>?_
 by_cases hlt:i<qs.length
 ·have hqi:qs[i]? = some qs[i]:=Qe hlt;obtain ⟨z,hzi,lx,ly,b,r,px,py,d,rfl,hx,hy,hd,hk,hc⟩:=hz.get hqi;have hq:(Pt.mk (Crv.norm (Crv.mk px py d)) qs[i].id)=qs[i]:=by rw [<-hc]
  have hst:=Q5l [] qs hqi (by rw [<-h0]);have hnl:=Za4 (qs.take i);have cp:=Znw (l:=(Ts [] (qs.take i)).1) (id:=qs[i].id) hx hy hd hk (by rw [Qx] at hnl; omega);rw [hq] at cp;by_cases he:Qaz (Ts [] (qs.take i)).1 qs[i]=0
  ·rw [if_pos he] at hst;rw [he,if_pos rfl] at cp;refine go tt [.t (by simp; omega),.x hzi,.c [] cp,.f rfl] rfl (by simp [Ui]; omega) ?_;exact rd (i+1) (by omega) ⟨hlt,by rw [hst]⟩ (by rw [hst]; rfl)
  ·rw [if_neg he] at hst;have herr:=Za3 [] qs he hst;rw [herr];exact en tt [.t (by simp; omega),.x hzi,.c [] cp,.t (by simpa using he)] rfl rfl trivial
 ·obtain rfl:i=qs.length:=by omega
  rw [Q4] at h0;rw [Q4,h0];exact en tt [.f (by simp; omega)] rfl rfl trivial
theorem Q75 {l:List Pt} (hok:∀ p∈l,Qws 4294967294 1073741824 p) (hl:l.length<1073741824):Uk Tryz.prog 119 [.agg [pts l]] [.one (pts (Ds l))]:=by
 refine Gm Tryz.func119 rfl ?_;refine go tt [.o 3 114 5] rfl trivial ?_;refine lp (S:=Nat) 2 (λL1 i=>(12,.v (.one (.int .i64 (i:Int))))::(3,.v (.one (.orow 1 5 none)))::L1) (λi=>[.blk 84 [pts l],.row false 114 5 (((l.take i).foldl L6 []).map G0)]) (λi=>l.length-i) (λi=>i<=l.length) 0 (Qh _) rfl (λ_ _=>rfl) rfl λi hi=>?_
 by_cases hlt:i<l.length
 ·obtain ⟨p,hp⟩:=gxE (l:=l) (i:=i) hlt;obtain ⟨hn,hk⟩:=hok p (Qa hp);have hws:=Hh L6 [] l hp;have hwl:=Qcp l i;have hwm:=Qcq l i;obtain ⟨o,ho⟩:=nmE ((l.take i).foldl L6 []);rw [<-ho] at hws hwl hwm ⊢;refine go tt [.t (by simp; omega),.x (Hb hp)] rfl trivial ?_;refine lp (S:=Nat) 3 (λL1 k=>(18,.v (.one (.int .i64 (k:Int))))::(6,.v (.one (.bool ((o.take k).any λq=>Ai p.c q.c))))::L1) (λk=>[.blk 84 [pts l],.row false 114 5 (o.map G0),.blk 114 (G0 p)]) (λk=>o.length-k) (λk=>k<=o.length) 0 (Qh _) rfl (λ_ _=>rfl) rfl λk hk2=>?_
  by_cases hk3:k<o.length
  ·obtain ⟨q,hq⟩:=gxE (l:=o) (i:=k) hk3;obtain ⟨hqn,hqk⟩:=hok q (hwm q (Qa hq));have hany:((o.take (k+1)).any λq=>Ai p.c q.c)=(((o.take k).any λq=>Ai p.c q.c) || Ai p.c q.c):=by rw [Ym,hq,List.any_append]; simp
   cases hb:(o.take k).any λq=>Ai p.c q.c with
   |
    true =>
    rw [hb] at hany;refine go tt [.t (by simp; omega),.i k,.x (Hb hq),.t rfl,.r 29 (v:=.one (.bool ((o.take (k+1)).any λq=>Ai p.c q.c))) (by rw [hany]; rfl)] rfl (by simp [Ui]; omega) ?_;exact rd (k+1) (by omega) hk3 rfl
   |
    false =>
    rw [hb] at hany;refine go tt [.t (by simp; omega),.i k,.x (Hb hq),.f rfl,.c [] (Ze8 hn hqn hk hqk),.r 29 (v:=.one (.bool ((o.take (k+1)).any λq=>Ai p.c q.c))) (by rw [hany]; rfl)] rfl (by simp [Ui]; omega) ?_;exact rd (k+1) (by omega) hk3 rfl
  ·obtain rfl:k=o.length:=by omega
   rw [Q4];cases hb:o.any λq=>Ai p.c q.c with
   |
    true =>
    have e:L6 o p=o:=by unfold L6; rw [if_pos hb]
    exact go tt [.f (by simp),.f rfl] rfl (by simp [Ui]; omega) (rd (i+1) (by omega) hlt (by rw [hws,e]; rfl))
   |
    false =>
    have e:L6 o p=o++[p]:=by unfold L6; rw [if_neg (by rw [hb]; decide)]
    exact go tt [.f (by simp),.t rfl] rfl (by simp [Ui]; omega) (rd (i+1) (by omega) hlt (by rw [hws,e,Xv]; rfl))
 ·obtain rfl:i=l.length:=by omega
  exact en tt [.f (by simp)] rfl (by rw [Q4]; rfl) trivial
theorem Qse (q:Rat):Uo [-q.num,(q.den:Int)]:=by
 have:=q.den_nz;simp [Uo,trim,this]
theorem Zno {s:Nat} {q:Rat} (h:Qs s q):Bd s [-q.num,(q.den:Int)]:=λz hz=>by
 simp at hz;rcases hz with rfl | rfl
 ·rw [Gg]; exact h.1
 ·exact h.2
theorem Zja {x y x' y':LV} {n d:Int} (h1:Hu x y n) (h2:Hu x' y' d) (hn:Uv n<=4294967295) (hd:Uv d<=4294967295) (hq:Qs 4294967295 (Gb n d)):Uk Tryz.prog 70 [.agg [x,y,x',y']] [.agg (qa (Gb n d))]:=by
 have c1:=Q8p h1 h2 hn hd;obtain ⟨b,l,rfl,rfl,_⟩:=h1;obtain ⟨b',l',rfl,rfl,_⟩:=h2;exact w tt Tryz.func70 rfl [.c [] c1,.c [] (Qjz (Ul _) hq.1),.c [] (Ik hq)] rfl rfl trivial
theorem Q07 {k:Crv} (hn:Nml k) (hk:Cs 4294967294 1073741824 k):Uk Tryz.prog 207 [.agg (cl k)] [.agg (cl k)]:=by
 have h0:k.d≠0:=by have:=hn.2.2.1; omega
 have cm:=Qp1 (Gw k.x) (Gw k.y) (Ul k.d) hk h0;rw [show Crv.mk k.x k.y k.d=k from rfl,Crv.norm_of hn] at cm;exact w tt Tryz.func207 rfl [.c [] (Dd (Ul k.d) (Qc hk.d (by omega))),.c [] Ex,.f (by simpa using h0),.c [] cm] rfl rfl trivial
def Sx (ps:List (List Int)):List (List LV):=ps.map λp=>[pl p]
theorem Ro {ps:List (List Int)} {i:Nat} {p:List Int} (h:ps[i]? = some p):(Sx ps)[i]? = some [pl p]:=Gh h
theorem Q4h:Uk Tryz.prog 167 [.one (.int .i64 3)] [.one (.int .i64 3)]:=w tt Tryz.func167 rfl [.f rfl,.f rfl,.t rfl] rfl rfl trivial
theorem Q4i:Uk Tryz.prog 167 [.one (.int .i64 4)] [.one (.int .i64 4)]:=w tt Tryz.func167 rfl [.f rfl,.f rfl,.f rfl,.t rfl,.t rfl] rfl rfl trivial
theorem Q7l {k i0 i1 i2 i3 l j0 j1 j2 j3:Int}:Uk Tryz.prog 125 [.agg [.int .i64 k,.int .i64 i0,.int .i64 i1,.int .i64 i2,.int .i64 i3],.agg [.int .i64 l,.int .i64 j0,.int .i64 j1,.int .i64 j2,.int .i64 j3]] [.one (.bool (Hx [k,i0,i1,i2,i3] [l,j0,j1,j2,j3]))]:=by
 by_cases hk:k=l
 ·subst hk;rw [show Hx [k,i0,i1,i2,i3] [k,j0,j1,j2,j3]=Hx [i0,i1,i2,i3] [j0,j1,j2,j3] from by simp [Hx]];refine Gm Tryz.func125 rfl ?_;refine go tt [.f (by simp)] rfl trivial ?_;refine lp (S:=Nat) 2 (λL1 i=>(19,.v (.one (.int .i64 (i:Int))))::L1) (λ_=>[.blk 97 [.int .i64 k,.int .i64 i0,.int .i64 i1,.int .i64 i2,.int .i64 i3],.blk 97 [.int .i64 k,.int .i64 j0,.int .i64 j1,.int .i64 j2,.int .i64 j3]]) (λi=>4-i) (λi=>i<=4/\Hx ([i0,i1,i2,i3].drop i) ([j0,j1,j2,j3].drop i)=Hx [i0,i1,i2,i3] [j0,j1,j2,j3]) 0 ⟨by omega,rfl⟩ rfl (λ_ _=>rfl) rfl λi ⟨hi,he⟩=>?_
  rw [<-he];rcases (show i=0\/i=1\/i=2\/i=3\/i=4 by omega) with rfl | rfl | rfl | rfl | rfl
  ·by_cases h:i0=j0
   ·exact go tt [.t rfl,.i 0,.i 0,.f (by simpa using h)] rfl (by simp [Ui]) (rd 1 (by omega) ⟨by omega,by simp [Hx,h]⟩ rfl)
   ·exact en tt [.t rfl,.i 0,.i 0,.t (by simpa using h),.i 0] rfl (by simp [Hx,h]) trivial
  ·by_cases h:i1=j1
   ·exact go tt [.t rfl,.i 1,.i 1,.f (by simpa using h)] rfl (by simp [Ui]) (rd 2 (by omega) ⟨by omega,by simp [Hx,h]⟩ rfl)
   ·exact en tt [.t rfl,.i 1,.i 1,.t (by simpa using h),.i 1] rfl (by simp [Hx,h]) trivial
  ·by_cases h:i2=j2
   ·exact go tt [.t rfl,.i 2,.i 2,.f (by simpa using h)] rfl (by simp [Ui]) (rd 3 (by omega) ⟨by omega,by simp [Hx,h]⟩ rfl)
   ·exact en tt [.t rfl,.i 2,.i 2,.t (by simpa using h),.i 2] rfl (by simp [Hx,h]) trivial
  ·by_cases h:i3=j3
   ·exact go tt [.t rfl,.i 3,.i 3,.f (by simpa using h)] rfl (by simp [Ui]) (rd 4 (by omega) ⟨by omega,by simp [Hx,h]⟩ rfl)
   ·exact en tt [.t rfl,.i 3,.i 3,.t (by simpa using h),.i 3] rfl (by simp [Hx,h]) trivial
  ·exact en tt [.f rfl] rfl (by simp [Hx]) trivial
 ·exact w tt Tryz.func125 rfl [.t (by simpa using hk)] rfl (by simp [Hx,hk]) trivial
abbrev zCt:List LV:=[.int .i64 0,.int .i64 0,.int .i64 0,.int .i64 0,.int .i64 0,.nils,.int .i64 0]
def Fa (l:List Ct):List (List LV):=l.map Qep
theorem Qcx {l:List Ct} {i:Nat} {c:Ct} (h:l[i]? = some c):(Fa l)[i]? = some (Qep c):=Gh h
theorem Nf (l:List Ct):(Fa l).length=l.length:=by simp [Fa]
theorem Q85 (l:List Ct):∀ c∈Fa l,c.length=7:=λc hc=>by
 obtain ⟨x,_,rfl⟩:=Za.1 hc; rfl
theorem Zai {O:List Ct} {z:List LV} {c:Ct} {k m:Nat} {l2:List (List LV)} (hk:k<=O.length) (hp:Qau O c O.length=k) (hm:m=O.length-k) (h2:l2.take m=((Fa O++[z]).drop k).take m) :
 ((Fa O++[z]).take (k+1)++(l2.take m++(Fa O++[z]).drop (k+1+m))).set k (Qep c)=Fa (Qc3 O c):=by
 rw [h2,<-Zg,Quh (Fa O) z (Qep c) (by rw [Nf]; omega) (by rw [Nf]; omega)];simp [Qc3,hp,Fa,Yn,Ws]
theorem Qxi {l:List Ct} (hl:∀ c∈l,Pb c.p) (hn:l.length≤1000000):Uk Tryz.prog 66 [.one (.row (Fa l))] [.one (.row (Fa (G5 l)))]:=by
 have hcl:=Nf l;refine Gm Tryz.func66 rfl ?_;refine go tt [.o 3 99 7] rfl trivial ?_;refine lp (S:=Nat) 1 (λL1 i=>(9,.v (.one (.int .i64 (i:Int))))::(3,.v (.one (.orow 0 7 none)))::L1) (λi=>[.row false 99 7 (Fa (G5 (l.take i)))]) (λi=>l.length-i) (λi=>i<=l.length) 0 (Qh _) rfl (λ_ _=>rfl) rfl λi hi=>?_
 by_cases hlt:i<l.length
 ·obtain ⟨c,hc⟩:=gxE (l:=l) (i:=i) hlt;have hst:=Qz2 hc;have hcp:=hl c (Qa hc);obtain ⟨O,hO⟩:=nmE (G5 (l.take i));have hOl:O.length=i:=by rw [hO,D4,Qx]; omega
  rw [<-hO] at hst ⊢;refine go tt [.t (by simp [hcl]; omega),.x (Qcx hc)] rfl trivial ?_;refine lp (S:=Nat) 2 (λL1 k=>(6,.v (.one (.int .i64 (k:Int))))::L1) (λk=>[.row false 99 7 (Fa O),.blk 99 (Qep c)]) id (λk=>k<=O.length/\Qau O c k=Qau O c O.length) (Fa O).length ⟨by rw [Nf]; exact Qm _,by rw [Nf]⟩ rfl (λ_ _=>rfl) rfl λk ⟨hk,hp⟩=>?_
  have hz:∀ y∈[zCt],y.length=7:=λy hy=>by rw [Ql.1 hy]; rfl
  have h77:∀ y∈Fa O++[zCt],y.length=7:=λy hy=>by
   rcases Qw.1 hy with hy | hy
   ·exact Q85 O y hy
   ·exact hz y hy
  cases k with
  |
   zero =>
   have hp:Qau O c O.length=0:=by rw [<-hp]; rfl
   refine go tt [.g 17 false (by simp),.f rfl,.s (sz:=7) hz,.r 36 (eI (b:=((0+1:Nat):Int)) (by simp)),.i (0+1),.i (0),.s (sz:=7) (λy hy=>h77 y (Qn hy)),.i (O.length),.c [] (G8 hcp.t (by have:=hcp.l; omega) (Uj hcp.b (by omega))),.i (0)] rfl (by simp [Ui,Nf]; omega) ?_;exact rd (i+1) (by omega) hlt (by rw [hst,<-Zai (z:=zCt) (l2:=(Fa O++[zCt]).take ((Fa O++[zCt]).length-0)) (k:=0) (m:=O.length) (by omega) hp (by omega) (by congr 1; exact Qk (by simp))]; rfl)
  |
   succ k =>
   obtain ⟨x,hx⟩:=gxE (l:=O) (i:=k) (by omega);by_cases hlc:Bh c x=true
   ·refine go tt [.g 17 true (by simp),.r 22 (eI (b:=(k:Int)) (by simp)),.i k,.x (Qcx hx),.c [] Q7l,.t hlc,.r 29 (eI (b:=(k:Int)) (by simp))] rfl (by simp [Ui,Nf]; omega) ?_;exact rd k (by simp) ⟨by omega,by rw [<-hp,Zhg hx hlc]⟩ rfl
   ·have hlc:Bh c x=false:=by simpa using hlc
    have hp:Qau O c O.length=k+1:=by rw [<-hp,Zbn hx hlc]
    refine go tt [.g 17 true (by simp),.r 22 (eI (b:=(k:Int)) (by simp)),.i k,.x (Qcx hx),.c [] Q7l,.f hlc,.s (sz:=7) hz,.r 36 (eI (b:=((k+1+1:Nat):Int)) (by simp)),.i (k+1+1),.i (k+1),.s (sz:=7) (λy hy=>h77 y (Q0 (Qn hy))),.i (O.length-(k+1)),.c [] (G8 hcp.t (by have:=hcp.l; omega) (Uj hcp.b (by omega))),.i (k+1)] rfl (by simp [Ui,Nf]; omega) ?_;exact rd (i+1) (by omega) hlt (by rw [hst,<-Zai (z:=zCt) (l2:=((Fa O++[zCt]).drop (k+1)).take ((Fa O++[zCt]).length-(k+1))) (k:=k+1) (m:=O.length-(k+1)) (by omega) hp (by omega) (by congr 1; exact Qk (by simp))]; rfl)
 ·obtain rfl:i=l.length:=by omega
  rw [Q4];exact en tt [.f (by simp [hcl])] rfl rfl trivial
end Orr
namespace Orr
def Ux (p:List Int):Int:=p.getD (p.length-1) 0
def chk (p:List Int):Option (List Int):=if p.length<=64/\(p.all λz=>Nat.ble (Uv z) 16777216)=true then some p else none
def chq (q:Rat):Option Rat:=if Uv q.num<=16777216/\Uv (q.den:Int)<=16777216 then some q else none
def Rk (p:List Int):Int:=(Gz p:Nat)
def Bm (p:List Int) (c:Int):List Int:=trim (p.map (· / c))
def Fy (p:List Int):Int:=if Ux p<0 then -Rk p else Rk p
def Uq (p:List Int):List Int:=if p.length=0 then [] else Bm p (Fy p)
def mono (i:Nat) (x:Int):List Int:=List.replicate i 0++[x]
def psd (b:List Int) (c:Int):Nat->List Int×List Int->List Int×List Int
 | 0,s=>s
 |
  i+1,(q,r) =>
  psd b c i (L9 (Ff q c) (mono i (if r.length=b.length+i then Ux r else 0)),Tx (Ff r c) (U5 (trim (mono i (if r.length=b.length+i then Ux r else 0))) b))
def Sr (a b:List Int):List Int:=(psd b (Ux b) (a.length+1-b.length) ([],a)).2
def Py (a b r:List Int):List Int:=if (a.length+1-b.length) % 2=1/\Ux b<0 then Se r else r
def Lr (r:List Int):List Int:=if r.length=0 then [] else Bm r (Rk r)
def Gi (a b:List Int):List Int:=Lr (Py a b (Sr a b))
def Qrk (b:List Int):Nat->List Int->List Int->Option (List Int)
 | 0,a,q=>if a.length=0 then some q else none
 | i+1,a,q=>if a.length<b.length+i then Qrk b i a q else if Ux a % Ux b=0 then Qrk b i (Tx a (U5 (trim (mono i (Ux a / Ux b))) b)) (q.set i (Ux a / Ux b)) else none
def Qav (a b:List Int):Option (List Int):=if b.length=0 then none else (Qrk b (a.length+1-b.length) a (List.replicate (a.length+1-b.length) 0)).bind λq=>chk (trim q)
def Qg9:Nat->List Int->List Int->Option (List Int)
 | 0,_,_=>none
 | k+1,a,b=>if b.length=0 then some a else (chk (Gi a b)).bind λr=>Qg9 k b r
def Qay (a b:List Int):Option (List Int):=(Qg9 66 (Uq a) (Uq b)).map Uq
def Qrm (a b:List Int):Option (List Int):=(Qay [] a).bind λg=>Qay g b
def Sy (a:List Int):Option (List Int):=if (Uq a).length<2 then some (Uq a) else (chk (Fe (Uq a))).bind λd=>(Qay (Uq a) d).bind λg=>Qav (Uq a) g
def Qgp:Nat->List Int->Option (List (List Int))
 | 0,_=>none
 | k+1,g=>if g.length<2 then some [] else (chk (Fe g)).bind λd=>(Qay g d).bind λh=>(Qav g h).bind λw=>(Qgp k h).bind λl=>some (w::l)
def Qmw:List (List Int)->Option (List (List Int))
 | []=>some []
 | [w]=>some [w]
 | w::v::l=>(Qav w v).bind λf=>(Qmw (v::l)).bind λr=>some (f::r)
def Qeo:Nat->List Int->List (List Int)->Option (List Int)
 | _,p,[]=>some p
 | i,p,f::l=>if i % 2=0 then (chk (U5 p f)).bind λq=>Qeo (i+1) q l else Qeo (i+1) p l
def Qy8 (a:List Int):Option (List Int):=if (Uq a).length=0 then some [] else (Qgp 66 (Uq a)).bind λl=>(Qmw l).bind λfs=>Qeo 0 [1] fs
def chF:Nat->List Int->List Int->Option (List (List Int))
 | 0,_,_=>none
 | k+1,a,b=>if b.length=0 then some [] else (chk (Gi a b)).bind λr=>(chF k b (Se r)).bind λl=>some (b::l)
def chain (p:List Int):Option (List (List Int)):=(Sy p).bind λa=>if a.length=0 then none else (chk (Fe a)).bind λd=>(chF 66 a (Uq d)).bind λl=>some (a::l)
def Hz (sg:List Int->Int) (s:Nat×Int) (p:List Int):Nat×Int:=if sg p=0 then s else (if s.2=-(sg p) then s.1+1 else s.1,sg p)
def Me (sg:List Int->Int) (l:List (List Int)):Nat:=(l.foldl (Hz sg) (0,0)).1
def S0 (l:List (List Int)) (q:Rat):Nat:=Me (λp=>Fc p q) l
def Hd (l:List (List Int)) (lo hi:Rat):Int:=if Fi hi lo<0 then 0 else (S0 l lo:Int)-(S0 l hi:Int)
def Qd6 (p:List Int):Int:=Int.sign (Ux p)
def Ou (p:List Int):Int:=if p.length % 2=0 then -Int.sign (Ux p) else Int.sign (Ux p)
def Qa2 (l:List (List Int)):Int:=(Me Ou l:Int)-(Me Qd6 l:Int)
def most:List Int->Nat:=λl=>l.foldl (λm z=>if m<z.natAbs then z.natAbs else m) 0
def Fz (p:List Int):Rat:=Rat.divInt (((Ux p).natAbs:Int)+(most (p.take (p.length-1)):Int)) ((Ux p).natAbs:Int)
def Om (a b:Rat):Rat:=Rat.divInt (a.num*(b.den:Int)+b.num*(a.den:Int)) ((a.den:Int)*(b.den:Int)*2)
def Lu (p:List Int) (c:List (List Int)):Nat->Rat->Rat->Int->Option (List Tm)
 | 0,_,_,_=>none
 | k+1,lo,hi,n=>if n=0 then some [] else if n=1 then some [⟨p,lo,hi⟩] else (chq (Om lo hi)).bind λm=>(Lu p c k lo m (Hd c lo m)).bind λl=>(Lu p c k m hi (n-Hd c lo m)).bind λr=>some (l++r)
def Ql2 (p:List Int):Option (List Tm):=(chain p).bind λc=>(Sy p).bind λq=>(chq (Fz q)).bind λb=>Lu q c 100000 (-b) b (Qa2 c)
def Tm.point (a:Tm):Bool:=decide (0<=Fi a.lo a.hi)
def low (p:List Int) (q:Rat):Int:=if Fc p q≠0 then Fc p q else Fc (Fe p) q
def Qeb (p:List Int) (lo hi:Rat):Bool:=decide (Fc p hi=0\/Fc p hi≠low p lo)
def U0 (a:Tm) (t:Rat):Int :=
 if a.point=true then Fi a.lo t else if Fi t a.lo<=0 then 1 else if 0<Fi t a.hi then -1 else if Fc a.p t=0 then 0 else if Fc a.p t=low a.p a.lo then 1 else -1
def Qqu (a:Tm):Option Tm:=if a.point=true then some a else (chq (Om a.lo a.hi)).bind λm =>
 some (if U0 a m=0 then ⟨a.p,m,m⟩ else if U0 a m=-1 then ⟨a.p,a.lo,m⟩ else ⟨a.p,m,a.hi⟩)
def Ga (p:List Int):Nat:=p.foldl (λn z=>max n (Uv z)) 0
def Ss (a b:Tm):Nat:=64+2*(Uv a.lo.num+Uv a.hi.num+Uv b.lo.num+Uv b.hi.num)+4*(a.p.length+b.p.length)*(Ga a.p+Ga b.p+(a.p.length+b.p.length)+8)
def Ql4 (a b:Rat):Rat:=Rat.divInt (a.num*(b.den:Int)-b.num*(a.den:Int)) ((a.den:Int)*(b.den:Int))
def Ch (a b:Tm):Bool:=decide (Fi a.hi b.lo<=0/\¬((a.point=true/\b.point=true)/\Fi a.hi b.lo=0))
def apF:Nat->Tm->Tm->Option (Tm×Tm×Int)
 | 0,a,b=>some (a,b,0)
 |
  k+1,a,b=>if Ch a b=true then some (a,b,-1) else if Ch b a=true then some (a,b,1) else
  if 0<=Fi (Ql4 a.hi a.lo) (Ql4 b.hi b.lo) then (Qqu a).bind λx=>apF k x b else (Qqu b).bind λx=>apF k a x
def Qie (a b:Tm):Option Int:=if a.point=true then some (-U0 b a.lo) else if b.point=true then some (U0 a b.lo) else
 let lo:=if 0<Fi b.lo a.lo then b.lo else a.lo
 let hi:=if Fi b.hi a.hi<0 then b.hi else a.hi
 if Fi lo hi<0 then (Qrm a.p b.p).bind λg=>if 1<g.length/\Qeb g lo hi=true then some 0 else (apF (Ss a b) a b).bind λr=>some r.2.2
 else (apF (Ss a b) a b).bind λr=>some r.2.2
def sgF (c:List (List Int)):Nat->Tm->Option Tm
 | 0,a=>some a
 | k+1,a=>if a.point=true\/Hd c a.lo a.hi=0 then some a else (Qqu a).bind λx=>sgF c k x
def Qcl (p:List Int) (a:Tm):Option Int:=if p.length=0 then some 0 else if a.point=true then some (Fc p a.lo) else
 (Qrm p a.p).bind λg=>if 1<g.length/\Qeb g a.lo a.hi=true then some 0 else (chain p).bind λc=>(sgF c (64+2*(Uv a.lo.num+Uv a.hi.num)+4*(a.p.length+p.length)*(Ga a.p+Ga p+(a.p.length+p.length)+8)) a).bind λx=>some (Fc p x.hi)
def I4:Tm->List Tm->Option Tm
 | b,[]=>some b
 | b,a::l=>(Qie a b).bind λc=>I4 (if c<0 then a else b) l
def Qcg (a:Tm):List Tm->Option (Option Tm)
 | []=>some none
 | r::l=>(Qie r a).bind λc=>if 0<c then some (some r) else Qcg a l
def E9 (p:List Int):Option (List Tm):=(Qy8 p).bind λq=>if q.length=0 then some [] else Ql2 q
def Qh0 (p:List Int) (a:Tm):Option (Option Tm):=(E9 p).bind λl=>Qcg a l
end Orr
namespace Orr
open Go Go.Proofs
set_option maxRecDepth 10000
theorem Cc {p:List Int} (tp:Uo p) (h:p.length≠0):Ux p≠0:=Gv tp (by omega)
theorem Qlc {p:List Int} (h:p.length≠0):Ux p∈p:=Qa (Hq (by omega))
theorem P7 {s:Nat} {p:List Int} (h:Bd s p):Uv (Ux p)<=s:=Uw h _
theorem Dx {p:List Int}:∀ z∈p,Rk p∣z:=Qac
theorem Av {p:List Int} (tp:Uo p) (h:p.length≠0):Rk p≠0:=λh0=>Cc tp h (Int.zero_dvd.1 (h0 ▸ Dx _ (Qlc h)))
theorem Qbo {p:List Int} (h:Bd 4294967295 p):Uv (Rk p)<=4294967295:=Qi1 h
theorem Q26 {p:List Int} (tp:Uo p) (h:p.length≠0):Fy p≠0:=by
 have:=Av tp h;unfold Fy; split <;> omega
theorem Qex {p:List Int}:∀ z∈p,Fy p∣z:=λz hz=>by
 unfold Fy; split
 ·exact Ue.2 (Dx z hz)
 ·exact Dx z hz
theorem Zam {p:List Int} (h:Bd 4294967295 p):Uv (Fy p)<=4294967295:=by
 unfold Fy; split
 ·rw [Gg]; exact Qbo h
 ·exact Qbo h
theorem Qjr {s:Nat} {p:List Int} (h:Bd s p) (c:Int):Bd s (Bm p c):=Ru (Qfy h c)
theorem Qod (p:List Int) (c:Int):(Bm p c).length<=p.length:=Qc (He _) (by simp)
theorem Oc (p:List Int) (c:Int):Uo (Bm p c):=Ha _
theorem Zbh {p:List Int} (h:Pb p) (c:Int):Pb (Bm p c):=⟨Oc _ _,Qc (Qod _ _) h.l,Qjr h.b c⟩
theorem Qgw:Pb []:=⟨rfl,by simp,O2⟩
theorem Hr {p:List Int} (h:Pb p):Pb (Uq p):=by
 unfold Uq; split
 ·exact Qgw
 ·exact Zbh h _
theorem Pb.bd {p:List Int} (h:Pb p):Bd 4294967295 p:=Uj h.b (by omega)
theorem Pb.ln {p:List Int} (h:Pb p):p.length<274877906944:=Zv h.l (by omega)
theorem Pb.ln' {p:List Int} (h:Pb p):p.length<8589934592:=Zv h.l (by omega)
theorem Il {p q:List Int} (tp:Uo p) (h:chk p=some q):q=p/\Pb p:=by
 unfold chk at h
 split at h
 ·rename_i hc;injection h with h;refine ⟨h.symm,tp,hc.1,λz hz=>?_⟩;have:=Yu.1 hc.2 z hz;exact Zf this
 ·cases h
theorem Q02 {p:List Int} {g:Int} (hl:p.length<274877906944) (hp:Bd 4294967295 p) (hg:Uv g≤4294967295) (h0:g≠0) (hd:∀ z∈p,g∣z):Uk Tryz.prog 261 [pr p,.agg (Gk g)] [pr (Bm p g)]:=by
 refine Gm Tryz.func261 rfl ?_;refine go tt [.r 9 (eI (b:=(p.length:Int)) (by simp)),.i p.length,.i p.length,.r 12 (eI (b:=(p.length:Int)) (by simp))] rfl (by simp [Ui]; omega) ?_;rw [Lh λk=>Gk (p.getD k 0 / g)];refine lp (S:=Nat) 2 (λL1 k=>(13,.v (.one (.int .i64 (k:Int))))::L1) (λk=>[.blk 55 (Gk g),.row false 55 2 (fil (λk=>Gk (p.getD k 0 / g)) [.bool false,.nils] p.length k)]) (λk=>p.length-k) (λk=>k<=p.length) 0 (Qh _) rfl (λ_ _=>rfl) rfl λk hk=>?_
 by_cases hlt:k<p.length
 ·have hg2:=Hq hlt;refine go tt [.t (by simp; omega),.x (Sp hg2),.c [] (Ec (Ul _) (Ul _) (Uw hp k) hg h0 (J1 (hd _ (Qa hg2)))),.i k] rfl (by simp [Ui,Eo]; omega) ?_;have e:=Iy (λk=>Gk (p.getD k 0 / g)) [.bool false,.nils] hlt;rw [e];exact rd (k+1) (by omega) hlt rfl
 ·obtain rfl:k=p.length:=by omega
  have e:fil (λk=>Gk (p.getD k 0 / g)) [.bool false,.nils] p.length p.length=(p.map (· / g)).map Gk:=by
   rw [Ix];refine Xt λi=>?_
   by_cases hi:i<p.length
   ·simp [X3 hi,List.getD,Qe hi]
   ·simp [Qt,hi]
  rw [e];exact en tt [.f (by simp),.c [] (Dc (Gw (p.map (· / g))) (by simp; exact hl) (Qfy hp g))] rfl rfl trivial
theorem Qf0 {p:List Int} (hl:p.length<8589934592) (hp:Bd 4294967295 p):Uk Tryz.prog 262 [.one (.row [[pl p]])] [.agg (Gk (Rk p))]:=by
 refine Gm Tryz.func262 rfl ?_;refine go tt [.o 3 55 2] rfl trivial ?_;refine lp (S:=Nat) 2 (λL1 i=>(8,.v (.one (.int .i64 (i:Int))))::(3,.v (.one (.orow 1 2 none)))::L1) (λi=>[.blk 55 [.bool false,.nils],.row false 55 2 (if i=0 then [] else p.map Gk)]) (λi=>1-i) (λi=>i<=1) 0 (Qh _) rfl (λ_ _=>rfl) rfl λi hi=>?_
 rcases (show i=0\/i=1 by omega) with rfl | rfl
 ·refine go tt [.t rfl,.x (i:=0) (xs:=[pl p]) rfl,.s (Qlp p)] rfl (by simp [Ui]; omega) ?_;exact rd 1 (by omega) (by omega) rfl
 ·exact en tt [.f rfl,.c [] (Q7g (Gw p) hp)] rfl rfl trivial
theorem Q8g {p:List Int} (tp:Uo p) (hl':p.length<8589934592) (hp:Bd 4294967295 p):Uk Tryz.prog 257 [pr p] [.agg (Gk (if p.length=0 then 0 else Fy p)),pr (Uq p)]:=by
 have hl:p.length<274877906944:=by omega
 have cn:=G8 tp hl hp;by_cases h0:p.length=0
 ·have e:p=[]:=Qi h0;subst e;exact w tt Tryz.func257 rfl [.c [] cn,.t rfl] rfl (by simp [Lp,Uq]; rfl) trivial
 ·have hpf:Uq p=Bm p (Fy p):=by unfold Uq; rw [if_neg h0]
  rw [if_neg h0,hpf];have co:=Q02 hl hp (Zam hp) (Q26 tp h0) Qex;by_cases hneg:Ux p<0
  ·have e:Fy p=-Rk p:=by unfold Fy; rw [if_pos hneg]
   rw [e] at co ⊢;exact w tt Tryz.func257 rfl [.c [] cn,.f (by simpa using h0),.c [] (Qf0 hl' hp),.c [] (B7 tp hl hp),.t (by simpa [Ux] using hneg),.c [] (Qjz (Ul _) (Qbo hp)),.c [] co] rfl rfl trivial
  ·have e:Fy p=Rk p:=by unfold Fy; rw [if_neg hneg]
   rw [e] at co ⊢;exact w tt Tryz.func257 rfl [.c [] cn,.f (by simpa using h0),.c [] (Qf0 hl' hp),.c [] (B7 tp hl hp),.f (by simpa [Ux] using hneg),.c [] co] rfl rfl trivial
theorem Ee {p:List Int} (hp:Pb p):Uk Tryz.prog 223 [pr p] [pr (Uq p)] :=
 w tt Tryz.func223 rfl [.c [] (Q8g hp.t hp.ln' hp.bd)] rfl rfl trivial
theorem Mz (p:List Int):Uk Tryz.prog 137 [pr p] [.one (.int .i64 ((p.length:Int)-1))]:=by
 have h:Uk Tryz.prog 137 [pr p] [.one (.int .i64 (((p.map Gk).length:Int)-1))]:=Gm Tryz.func137 rfl (ln 0 rfl rfl λhl=>en tt [] rfl rfl (by simp [Ui] at hl ⊢; omega));rw [Q8] at h; exact h
theorem Aq (i:Nat) (x:Int):(mono i x).length=i+1:=by simp [mono]
theorem Qjp {s i:Nat} {x:Int} (h:Uv x<=s):Bd s (mono i x):=λz hz=>by
 simp only [mono,Qw,Ql] at hz;rcases hz with hz | rfl
 ·rw [(List.mem_replicate.1 hz).2,P8]; exact Qh _
 ·exact h
def stq (c:Int) (i:Nat) (x:Int) (q:List Int):List Int:=L9 (Ff q c) (mono i x)
def str (b:List Int) (c:Int) (i:Nat) (x:Int) (r:List Int):List Int:=Tx (Ff r c) (U5 (trim (mono i x)) b)
theorem Zki {u t i:Nat} {c x:Int} {q:List Int} (hq:Bd u q) (hc:Uv c<=t) (hx:Uv x<=u):Bd (u+t+8) (stq c i x q) :=
 Uj (Qdt (Bq hq hc) (Qjp hx)) (by omega)
theorem Zgt {c x:Int} {i:Nat} {q:List Int}:(stq c i x q).length<=max q.length (i+1):=by
 have h:=Qah (Ff q c) (mono i x);have h1:=Mq q c;rw [Aq] at h;unfold stq; omega
theorem Qq1 {i:Nat} {x:Int} {b:List Int}:(U5 (trim (mono i x)) b).length<=i+b.length:=by
 have h:=H8 (trim (mono i x)) b;have h1:=He (mono i x);rw [Aq] at h1; omega
theorem Q0q {u t i:Nat} {x:Int} {b:List Int} (hb:Bd t b) (hx:Uv x<=u) (hi:i<=64):Bd (u+t+7) (U5 (trim (mono i x)) b) :=
 To (Ru (Qjp hx)) hb (Zv (He _) (by rw [Aq]; omega))
theorem Qwy {u t i:Nat} {c x:Int} {b r:List Int} (hr:Bd u r) (hb:Bd t b) (hc:Uv c<=t) (hx:Uv x<=u) (hi:i<=64):Bd (u+t+8) (str b c i x r) :=
 Uj (Qpu (Bq hr hc) (Q0q hb hx hi)) (by omega)
theorem Qq2 {c x:Int} {i:Nat} {b r:List Int}:(str b c i x r).length<=max r.length (i+b.length):=by
 have h:=Qeg (Ff r c) (U5 (trim (mono i x)) b);have h1:=Mq r c;have h2:=Qq1 (i:=i) (x:=x) (b:=b);unfold str; omega
theorem Quw (i:Nat) (x:Int):((List.replicate (i+1) (0:Int)).map Gk).set i (Gk x)=(mono i x).map Gk:=by
 rw [Qy7,mono];congr 1;refine Xt λj=>?_
 simp only [J6,List.getElem?_append,J4,Jj];by_cases h:j=i
 ·subst h; simp
 ·rw [if_neg (by omega)];by_cases h2:j<i
  ·simp [h2]; omega
  ·rw [if_neg (by omega),if_neg h2];cases hj:j-i with
   | zero=>omega
   | succ m=>simp
theorem Q2r (i:Nat) {x:Int} {y:List LV} (h:y.map Qih=Gk x):(((List.replicate (i+1) [LV.bool false,LV.nils]).set i y).map λc=>c.map Qih)=(mono i x).map Gk:=by
 rw [Yz,Qjc,h]; exact Quw i x
theorem Qax {b:List Int} {c:Int} {i:Nat} {q r:List Int} {x:Int} (hx:x=if r.length=b.length+i then Ux r else 0):psd b c (i+1) (q,r)=psd b c i (stq c i x q,str b c i x r):=by
 subst hx; rfl
theorem Q7t {a b:List Int} (ha:Pb a) (hb:Pb b) (h0:b.length≠0):Uk Tryz.prog 258 [pr a,pr b] [pr (psd b (Ux b) (a.length+1-b.length) ([],a)).1,pr (Sr a b),.one (.int .i64 ((a.length+1-b.length:Nat):Int)),.one (.int .i64 0)]:=by
 have hal:=ha.l;have hbl:=hb.l;have hlb:Uv (Ux b)<=16777216:=P7 hb.b;obtain ⟨c,hc⟩:=nmE (Ux b);have cl:=B7 hb.t hb.ln hb.bd;rw [show b.getD (b.length-1) 0=c from hc.symm] at cl;obtain ⟨k,hk⟩:=nmE (a.length+1-b.length);unfold Sr;rw [<-hc,<-hk];rw [<-hc] at hlb;refine Gm Tryz.func258 rfl ?_;refine go tt [.z 4,.c [] (G8 ha.t ha.ln ha.bd),.c [] (G8 hb.t hb.ln hb.bd),.f (by simpa using h0),.c [] cl,.c [] (Mz a),.c [] (Mz b),.r 27 (eI (b:=(k:Int)) (by omega))] rfl (by simp [Ui]; omega) ?_;refine lp (S:=Nat×List Int×List Int) 1 (λL1 s=>(4,.v (pr s.2.1))::(5,.v (pr s.2.2))::(9,.v (.one (.int .i64 ((s.1:Int)-1))))::L1) (λ_=>[.blk 55 (Gk c)]) (λs=>s.1) (λs=>s.1<=k/\Uo s.2.2/\s.2.1.length<=66/\s.2.2.length<=a.length/\Bd (16777216+(k-s.1)*16777224) s.2.1/\Bd (16777216+(k-s.1)*16777224) s.2.2/\psd b c s.1 s.2=psd b c k ([],a)) (k,[],a) ⟨Qm _,ha.t,by simp,Qm _,O2,by simpa using ha.b,rfl⟩ rfl (λ_ _=>rfl) rfl λ⟨i,q,r⟩ ⟨j1,j2,j3,j4,j5,j6,j7⟩=>?_
 dsimp only at j1 j2 j3 j4 j5 j6 j7 ⊢;rw [<-j7];cases i with
 | zero=>exact en tt [.f (by simp)] rfl rfl trivial
 |
  succ i =>
  obtain ⟨x,hx⟩:=nmE (if r.length=b.length+i then Ux r else 0);obtain ⟨u,hu⟩:=nmE (16777216+(k-(i+1))*16777224);rw [<-hu] at j5 j6;have hub:u<=1107296256:=by
   have:(k-(i+1))*16777224<=64*16777224:=Qy _ (by omega);omega
  have hxs:Uv x<=u:=by
   rw [hx]; split
   ·exact P7 j6
   ·rw [P8]; exact Qh _
  have cs:=Qdw (p:=q) (c:=c) (by omega) (Uj j5 (by omega)) (by omega);have cs2:=Qdw (p:=r) (c:=c) (by omega) (Uj j6 (by omega)) (by omega);have l1:=Mq q c;have l2:=Mq r c;have ca:=Qxe (p:=Ff q c) (q:=mono i x) (by omega) (by rw [Aq]; omega) (Uj (Bq j5 hlb) (by omega)) (Uj (Qjp hxs) (by omega));have cm:=Qpy (p0:=mono i x) hb.t (by rw [Aq]; omega) (by omega) (Qjp hxs) hb.b (by omega);have l3:=Qq1 (i:=i) (x:=x) (b:=b);have cb:=Qxf (p:=Ff r c) (q:=U5 (trim (mono i x)) b) (by omega) (by omega) (Uj (Bq j6 hlb) (by omega)) (Uj (Q0q hb.b hxs (by omega)) (by omega));have hst:=Qax (b:=b) (c:=c) (q:=q) hx;have hI:i<=k/\Uo (str b c i x r)/\(stq c i x q).length<=66/\(str b c i x r).length<=a.length/\Bd (16777216+(k-i)*16777224) (stq c i x q)/\Bd (16777216+(k-i)*16777224) (str b c i x r):=by
   have l5:=Zgt (c:=c) (x:=x) (i:=i) (q:=q);have l6:=Qq2 (c:=c) (x:=x) (i:=i) (b:=b) (r:=r);have hku:u+16777216+8=16777216+(k-i)*16777224:=by
    rw [hu,show k-i=(k-(i+1))+1 from by omega,Js]; omega
   refine ⟨by omega,U3 _ _,by omega,by omega,?_,?_⟩
   ·rw [<-hku]; exact Zki j5 hlb hxs
   ·rw [<-hku]; exact Qwy j6 hb.b hlb hxs (by omega)
  rw [hst];by_cases h:r.length=b.length+i
  ·refine go tt [.t (by simp <;> omega),.c [] (Mz r),.c [] (Mz b),.t (by simp; omega),.c [] (B7 j2 (by omega) (Uj j6 (by omega))),.r 44 (eI (b:=((i+1:Nat):Int)) (by omega)),.i (i+1),.i (i+1),.r 47 (eI (b:=(i:Int)) (by omega)),.i i] rfl (by simp [Ui]; omega) ?_;refine nl 2 rfl rfl rfl ?_;rw [Q2r i (x:=x) (by rw [hx,if_pos h]; rfl)];refine go tt [.c [] cs,.c [] ca,.c [] cs2,.c [] cm,.c [] cb,.r 33 (eI (b:=(i:Int)-1) (by omega))] rfl (by simp [Ui]; omega) ?_;exact rd (i,stq c i x q,str b c i x r) (by dsimp only; omega) ⟨hI.1,hI.2.1,hI.2.2.1,hI.2.2.2.1,hI.2.2.2.2.1,hI.2.2.2.2.2,rfl⟩ rfl
  ·refine go tt [.t (by simp <;> omega),.c [] (Mz r),.c [] (Mz b),.f (by simp; omega),.r 44 (eI (b:=((i+1:Nat):Int)) (by omega)),.i (i+1),.i (i+1),.r 47 (eI (b:=(i:Int)) (by omega)),.i i] rfl (by simp [Ui]; omega) ?_;refine nl 2 rfl rfl rfl ?_;rw [Q2r i (x:=x) (by rw [hx,if_neg h,Lp]; rfl)];refine go tt [.c [] cs,.c [] ca,.c [] cs2,.c [] cm,.c [] cb,.r 33 (eI (b:=(i:Int)-1) (by omega))] rfl (by simp [Ui]; omega) ?_;exact rd (i,stq c i x q,str b c i x r) (by dsimp only; omega) ⟨hI.1,hI.2.1,hI.2.2.1,hI.2.2.2.1,hI.2.2.2.2.1,hI.2.2.2.2.2,rfl⟩ rfl
theorem Zbr {b:List Int} {c:Int} (hb:Bd 16777216 b) (hc:Uv c<=16777216) {n:Nat}:∀ (i u:Nat) (q r:List Int),i<=64->i+b.length<=n+1->Uo r->r.length<=n->Bd u r->Uo (psd b c i (q,r)).2/\(psd b c i (q,r)).2.length<=n/\Bd (u+i*16777224) (psd b c i (q,r)).2
 | 0,u,q,r,_,_,h1,h2,h3=>⟨h1,h2,by simpa [psd] using h3⟩
 |
  i+1,u,q,r,hi,hn,h1,h2,h3=>by
  rw [Qax rfl];have hx:Uv (if r.length=b.length+i then Ux r else 0)<=u:=by
   split
   ·exact P7 h3
   ·rw [P8]; exact Qh _
  have l6:=Qq2 (c:=c) (x:=if r.length=b.length+i then Ux r else 0) (i:=i) (b:=b) (r:=r);have:=Zbr hb hc (n:=n) i (u+16777216+8) (stq c i (if r.length=b.length+i then Ux r else 0) q) (str b c i (if r.length=b.length+i then Ux r else 0) r) (by omega) (by omega) (U3 _ _) (by omega) (Qwy h3 hb hc hx (by omega));exact ⟨this.1,this.2.1,Uj this.2.2 (by omega)⟩
theorem Q29 {a b:List Int} (ha:Pb a) (hb:Pb b) (h0:b.length≠0):Uo (Sr a b)/\(Sr a b).length<=a.length/\Bd 1107296256 (Sr a b):=by
 have hal:=ha.l;by_cases h:b.length<=a.length+1
 ·obtain ⟨h1,h2,h3⟩:=Zbr hb.b (P7 hb.b) (n:=a.length) (a.length+1-b.length) 16777216 [] a (by omega) (by omega) ha.t (Qm _) ha.b;refine ⟨h1,h2,Uj h3 ?_⟩;have:(a.length+1-b.length)*16777224<=64*16777224:=Qy _ (by omega);omega
 ·have e:Sr a b=a:=by unfold Sr; rw [show a.length+1-b.length=0 from by omega]; rfl
  rw [e];exact ⟨ha.t,Qm _,Uj ha.b (by omega)⟩
theorem Qe1 {a b r:List Int} {s n:Nat} (h1:Uo r) (h2:r.length<=n) (h3:Bd s r):Uo (Py a b r)/\(Py a b r).length<=n/\Bd s (Py a b r):=by
 unfold Py; split
 ·exact ⟨U3 _ _,Qc (Nj r) h2,If h3⟩
 ·exact ⟨h1,h2,h3⟩
theorem Qlr {r:List Int} {s n:Nat} (h2:r.length<=n) (h3:Bd s r):Uo (Lr r)/\(Lr r).length<=n/\Bd s (Lr r):=by
 unfold Lr; split
 ·exact ⟨rfl,by simp,O2⟩
 ·exact ⟨Oc _ _,Qc (Qod _ _) h2,Qjr h3 _⟩
theorem Qe0 {a b:List Int} (ha:Pb a) (hb:Pb b) (h0:b.length≠0):Uo (Gi a b)/\(Gi a b).length<=a.length/\Bd 1107296256 (Gi a b):=by
 obtain ⟨h1,h2,h3⟩:=Q29 ha hb h0;obtain ⟨h4,h5,h6⟩:=Qe1 (a:=a) (b:=b) h1 h2 h3;exact Qlr h5 h6
theorem Q7v {a b:List Int} (ha:Pb a) (hb:Pb b) (h0:b.length≠0):Uk Tryz.prog 224 [pr a,pr b] [pr (Gi a b),.one (.int .i64 0)]:=by
 obtain ⟨h1,h2,h3⟩:=Q29 ha hb h0;obtain ⟨h4,h5,h6⟩:=Qe1 (a:=a) (b:=b) h1 h2 h3;have hal:=ha.l;have cp:=Q7t ha hb h0;have cl:=B7 hb.t hb.ln hb.bd;have cn:=Q7s (p:=Sr a b) (by omega) (Uj h3 (by omega));unfold Gi;obtain ⟨r,hr⟩:=nmE (Py a b (Sr a b));have cc:=Qf0 (p:=r) (by rw [hr]; omega) (by rw [hr]; exact Uj h6 (by omega));rw [<-hr] at h4 h5 h6 ⊢;obtain ⟨k,hk⟩:=nmE (a.length+1-b.length);rw [<-hk] at cp;have em:((k:Int).tmod 2)=((k % 2:Nat):Int):=by rw [Y4 (by omega)]; omega
 have key:Lr r=if r.length=0 then [] else Bm r (Rk r):=rfl
 by_cases hz:r.length=0
 ·rw [key,if_pos hz];by_cases hodd:k % 2=1
  ·by_cases hneg:Ux b<0
   ·have e:r=Se (Sr a b):=by rw [hr]; unfold Py; rw [if_pos ⟨by rw [<-hk]; exact hodd,hneg⟩]
    rw [e] at hz;exact w tt Tryz.func224 rfl [.c [] cp,.f (by simp),.r 22 (eI em),.t (by simp; omega),.c [] cl,.t (by simpa [Ux] using hneg),.c [] cn,.t (by simpa using hz)] rfl rfl (by simp [Ui])
   ·have e:r=Sr a b:=by rw [hr]; unfold Py; rw [if_neg (λh=>hneg h.2)]
    rw [e] at hz;exact w tt Tryz.func224 rfl [.c [] cp,.f (by simp),.r 22 (eI em),.t (by simp; omega),.c [] cl,.f (by simpa [Ux] using hneg),.t (by simpa using hz)] rfl rfl (by simp [Ui])
  ·have e:r=Sr a b:=by rw [hr]; unfold Py; rw [if_neg (λh=>hodd (by rw [hk]; exact h.1))]
   rw [e] at hz;exact w tt Tryz.func224 rfl [.c [] cp,.f (by simp),.r 22 (eI em),.f (by simp; omega),.f rfl,.t (by simpa using hz)] rfl rfl (by simp [Ui])
 ·rw [key,if_neg hz];have cd:=Q02 (p:=r) (g:=Rk r) (by omega) (Uj h6 (by omega)) (Qbo (Uj h6 (by omega))) (Av h4 hz) Dx;by_cases hodd:k % 2=1
  ·by_cases hneg:Ux b<0
   ·have e:r=Se (Sr a b):=by rw [hr]; unfold Py; rw [if_pos ⟨by rw [<-hk]; exact hodd,hneg⟩]
    rw [e] at hz cc cd ⊢;exact w tt Tryz.func224 rfl [.c [] cp,.f (by simp),.r 22 (eI em),.t (by simp; omega),.c [] cl,.t (by simpa [Ux] using hneg),.c [] cn,.f (by simpa using hz),.c [] cc,.c [] cd] rfl rfl (by simp [Ui])
   ·have e:r=Sr a b:=by rw [hr]; unfold Py; rw [if_neg (λh=>hneg h.2)]
    rw [e] at hz cc cd ⊢;exact w tt Tryz.func224 rfl [.c [] cp,.f (by simp),.r 22 (eI em),.t (by simp; omega),.c [] cl,.f (by simpa [Ux] using hneg),.f (by simpa using hz),.c [] cc,.c [] cd] rfl rfl (by simp [Ui])
  ·have e:r=Sr a b:=by rw [hr]; unfold Py; rw [if_neg (λh=>hodd (by rw [hk]; exact h.1))]
   rw [e] at hz cc cd ⊢;exact w tt Tryz.func224 rfl [.c [] cp,.f (by simp),.r 22 (eI em),.f (by simp; omega),.f rfl,.f (by simpa using hz),.c [] cc,.c [] cd] rfl rfl (by simp [Ui])
theorem Zgn {s:Nat} {x:Int} (h:Uv x<=s) (g:Int):Uv (x / g)<=s:=Qfy (p:=[x]) (λz hz=>by rw [Ql.1 hz]; exact h) g _ (by simp)
def sta (b:List Int) (i:Nat) (x:Int) (a:List Int):List Int:=Tx a (U5 (trim (mono i x)) b)
theorem Zkh {u t i:Nat} {x:Int} {b a:List Int} (ha:Bd u a) (hb:Bd t b) (hx:Uv x<=u) (hi:i<=64):Bd (u+t+8) (sta b i x a) :=
 Uj (Qpu ha (Q0q hb hx hi)) (by omega)
theorem Q2j {x:Int} {i:Nat} {b a:List Int}:(sta b i x a).length<=max a.length (i+b.length):=by
 have h:=Qeg a (U5 (trim (mono i x)) b);have h2:=Qq1 (i:=i) (x:=x) (b:=b);unfold sta; omega
theorem Zem (s n:Nat):Bd s (List.replicate n 0):=λz hz=>by rw [(List.mem_replicate.1 hz).2,P8]; exact Qh _
theorem Zkg {s i:Nat} {l:List Int} {x:Int} (h:Bd s l) (hx:Uv x<=s):Bd s (l.set i x):=λz hz=>by
 rcases Yi hz with hz | rfl
 ·exact h z hz
 ·exact hx
theorem Q7q {a b q:List Int} (ha:Pb a) (hb:Pb b) (h:Qav a b=some q):Uk Tryz.prog 292 [pr a,pr b] [pr q,.one (.int .i64 0)]:=by
 unfold Qav at h
 split at h
 ·cases h
 rename_i h0;obtain ⟨k,hk⟩:=nmE (a.length+1-b.length);rw [<-hk] at h;obtain ⟨q',hq,hq2⟩:=Qf.1 h;obtain ⟨rfl,hpb⟩:=Il (Ha _) hq2;have hal:=ha.l;have hbl:=hb.l;refine Gm Tryz.func292 rfl ?_;refine go tt [.c [] (G8 ha.t ha.ln ha.bd),.c [] (G8 hb.t hb.ln hb.bd),.f (by simpa using h0),.r 24 (eI (b:=(k:Int)) (by simp; omega)),.i k,.i k,.r 27 (eI (b:=(k:Int)) (by simp))] rfl (by simp [Ui]; omega) ?_;refine nl 0 rfl rfl rfl ?_;rw [Qjc];refine lp (S:=Nat×List Int×List Int) 1 (λL1 s=>(0,.v (pr s.2.1))::(7,.v (.one (.int .i64 ((s.1:Int)-1))))::L1) (λs=>[.row false 55 2 (s.2.2.map Gk)]) (λs=>s.1) (λs=>s.1<=k/\Uo s.2.1/\s.2.1.length<=a.length/\Bd (16777216+(k-s.1)*16777224) s.2.1/\s.2.2.length=k/\Bd 1107296256 s.2.2/\Qrk b s.1 s.2.1 s.2.2=some q') (k,a,List.replicate k 0) ⟨Qm _,ha.t,Qm _,by simpa using ha.b,by simp,Zem _ _,hq⟩ rfl (λ_ _=>rfl) rfl λ⟨i,A,Q⟩ ⟨j1,j2,j3,j4,j5,j7,j6⟩=>?_
 dsimp only at j1 j2 j3 j4 j5 j6 j7 ⊢;cases i with
 |
  zero =>
  simp only [Qrk] at j6
  split at j6
  ·rename_i hA;injection j6 with j6; subst j6;exact en tt [.f (by simp),.f (by simpa using hA),.c [] (Dc (Gw Q) (by omega) (Uj j7 (by omega)))] rfl rfl trivial
  ·cases j6
 |
  succ i =>
  obtain ⟨u,hu⟩:=nmE (16777216+(k-(i+1))*16777224);rw [<-hu] at j4;have hub:u<=1107296256:=by
   have:(k-(i+1))*16777224<=64*16777224:=Qy _ (by omega);omega
  have hku:u+16777216+8=16777216+(k-i)*16777224:=by
   rw [hu,show k-i=(k-(i+1))+1 from by omega,Js]; omega
  simp only [Qrk] at j6;by_cases hlt:A.length<b.length+i
  ·rw [if_pos hlt] at j6;refine go tt [.t (by simp <;> omega),.c [] (Mz A),.c [] (Mz b),.t (by simp; omega),.r 32 (eI (b:=(i:Int)-1) (by omega))] rfl (by simp [Ui]; omega) ?_;exact rd (i,A,Q) (by dsimp only; omega) ⟨by dsimp only; omega,j2,j3,Uj j4 (by dsimp only; omega),j5,j7,j6⟩ rfl
  ·rw [if_neg hlt] at j6
   split at j6
   ·rename_i hdv;obtain ⟨x,hx⟩:=nmE (Ux A / Ux b);rw [<-hx] at j6;have hxs:Uv x<=u:=by rw [hx]; exact Zgn (P7 j4) _
    have ce:=Ec (Ul (Ux A)) (Ul (Ux b)) (Qc (P7 j4) (by omega)) (Qc (P7 hb.b) (by omega)) (Cc hb.t h0) hdv;rw [<-hx] at ce;have cm:Uk Tryz.prog 215 [.one (.row ((mono i x).map Gk)),pr b] [pr (U5 (trim (mono i x)) b)]:=Qpy (p0:=mono i x) hb.t (by rw [Aq]; omega) (by omega) (Qjp hxs) hb.b (by omega);have l3:=Qq1 (i:=i) (x:=x) (b:=b);have l4:=Q2j (i:=i) (x:=x) (b:=b) (a:=A);have cb:=Qxf (p:=A) (q:=U5 (trim (mono i x)) b) (by omega) (by omega) (Uj j4 (by omega)) (Uj (Q0q hb.b hxs (by omega)) (by omega));refine go tt [.t (by simp <;> omega),.c [] (Mz A),.c [] (Mz b),.f (by simp; omega),.c [] (B7 j2 (by omega) (Uj j4 (by omega))),.c [] (B7 hb.t hb.ln hb.bd),.c [] ce,.f rfl,.r 51 (eI (b:=(i:Int)) (by omega)),.i i,.r 55 (eI (b:=((i+1:Nat):Int)) (by omega)),.i (i+1),.i (i+1),.r 58 (eI (b:=(i:Int)) (by omega))] rfl (by simp [Ui]; omega) ?_;refine nl 2 rfl rfl rfl ?_;rw [Qjc,Qy7];rw [<-Quw i x] at cm;refine go tt [.i i,.c [] cm,.c [] cb,.r 32 (eI (b:=(i:Int)-1) (by omega))] rfl (by simp [Ui]; omega) ?_;exact rd (i,sta b i x A,Q.set i x) (by dsimp only; omega) ⟨by dsimp only; omega,U3 _ _,by dsimp only; omega,by dsimp only; rw [<-hku]; exact Zkh j4 hb.b hxs (by omega),by simpa using j5,Zkg j7 (Nat.le_trans hxs hub),j6⟩ rfl
   ·cases j6
theorem Qy5 {a b q:List Int} (h:Qav a b=some q):Pb q:=by
 unfold Qav at h
 split at h
 ·cases h
 ·obtain ⟨q',_,hq2⟩:=Qf.1 h;obtain ⟨rfl,hpb⟩:=Il (Ha _) hq2;exact hpb
theorem Q8k {a b q:List Int} (ha:Pb a) (hb:Pb b) (h:Qav a b=some q):Uk Tryz.prog 279 [pr a,pr b] [pr q] :=
 w tt Tryz.func279 rfl [.c [] (Q7q ha hb h)] rfl rfl trivial
theorem Qsj:∀ {k:Nat} {a b g:List Int},Pb a->Pb b->Qg9 k a b=some g->Pb g
 | 0,_,_,_,_,_,h=>by cases h
 |
  k+1,a,b,g,ha,hb,h=>by
  simp only [Qg9] at h
  split at h
  ·injection h with h; subst h; exact ha
  ·rename_i h0;obtain ⟨r,hr,h⟩:=Qf.1 h;obtain ⟨rfl,hpb⟩:=Il (Qe0 ha hb h0).1 hr;exact Qsj hb hpb h
theorem Q1c {a b g:List Int} (ha:Pb a) (hb:Pb b) (h:Qay a b=some g):Uk Tryz.prog 180 [pr a,pr b] [pr g]:=by
 unfold Qay at h;obtain ⟨g',h2,rfl⟩:=Vl.1 h;have hg:=Qsj (Hr ha) (Hr hb) h2;refine Gm Tryz.func180 rfl ?_;refine go tt [.c [] (Ee ha),.c [] (Ee hb)] rfl trivial ?_;refine lp (S:=Nat×List Int×List Int) 0 (λL1 s=>(0,.v (pr s.2.1))::(1,.v (pr s.2.2))::L1) (λ_=>[]) (λs=>s.1) (λs=>Pb s.2.1/\Pb s.2.2/\Qg9 s.1 s.2.1 s.2.2=some g') (66,Uq a,Uq b) ⟨Hr ha,Hr hb,h2⟩ rfl (λ_ _=>rfl) rfl λ⟨k,A,C⟩ ⟨j1,j2,j3⟩=>?_
 dsimp only at j1 j2 j3 ⊢;cases k with
 | zero=>cases j3
 |
  succ k =>
  simp only [Qg9] at j3
  split at j3
  ·rename_i h0;injection j3 with j3; subst j3;exact en tt [.f (by simpa using h0),.c [] (Ee j1)] rfl rfl trivial
  ·rename_i h0;obtain ⟨r,hr,j3⟩:=Qf.1 j3;obtain ⟨rfl,hpb⟩:=Il (Qe0 j1 j2 h0).1 hr;refine go tt [.t (by simp; omega),.c [] (Q7v j1 j2 h0)] rfl trivial ?_;exact rd (k,C,Gi A C) (by dsimp only; omega) ⟨j2,hpb,j3⟩ rfl
theorem Qgy {a b g:List Int} (ha:Pb a) (hb:Pb b) (h:Qay a b=some g):Pb g:=by
 unfold Qay at h;obtain ⟨g',h2,rfl⟩:=Vl.1 h;exact Hr (Qsj (Hr ha) (Hr hb) h2)
theorem Q7r {a b g:List Int} (ha:Pb a) (hb:Pb b) (h:Qrm a b=some g):Uk Tryz.prog 136 [.one (.row (Sx [a,b]))] [pr g]:=by
 unfold Qrm at h;obtain ⟨g1,h1,h2⟩:=Qf.1 h;have hg1:=Qgy Qgw ha h1;refine Gm Tryz.func136 rfl ?_;refine go tt [.z 3] rfl trivial ?_;refine lp (S:=Nat) 0 (λL1 i=>(8,.v (.one (.int .i64 (i:Int))))::(3,.v (pr (if i=0 then [] else if i=1 then g1 else g)))::L1) (λ_=>[]) (λi=>2-i) (λi=>i<=2) 0 (Qh _) rfl (λ_ _=>rfl) rfl λi hi=>?_
 rcases (show i=0\/i=1\/i=2 by omega) with rfl | rfl | rfl
 ·refine go tt [.t rfl,.x (Ro (i:=0) (p:=a) rfl),.c [] (Q1c Qgw ha h1)] rfl (by simp [Ui]) ?_;exact rd 1 (by omega) (by omega) rfl
 ·refine go tt [.t rfl,.x (Ro (i:=1) (p:=b) rfl),.c [] (Q1c hg1 hb h2)] rfl (by simp [Ui]) ?_;exact rd 2 (by omega) (by omega) rfl
 ·exact en tt [.f rfl] rfl rfl trivial
theorem Zbe {a b g:List Int} (ha:Pb a) (hb:Pb b) (h:Qrm a b=some g):Pb g:=by
 unfold Qrm at h;obtain ⟨g1,h1,h2⟩:=Qf.1 h;exact Qgy (Qgy Qgw ha h1) hb h2
theorem Qln {p d:List Int} (h:chk (Fe p)=some d):d=Fe p/\Pb (Fe p):=Il (U3 _ _) h
theorem Qj1 {a g:List Int} (ha:Pb a) (h:Sy a=some g):Uk Tryz.prog 251 [pr a] [pr g]:=by
 have hp:=Hr ha;unfold Sy at h
 split at h
 ·rename_i h0;injection h with h; subst h;exact w tt Tryz.func251 rfl [.c [] (Ee ha),.c [] (Mz _),.t (by simp; omega)] rfl rfl trivial
 ·rename_i h0;obtain ⟨d,h1,h⟩:=Qf.1 h;obtain ⟨rfl,hd⟩:=Qln h1;obtain ⟨g1,h1,h⟩:=Qf.1 h;exact w tt Tryz.func251 rfl [.c [] (Ee ha),.c [] (Mz _),.f (by simp; omega),.c [] (Ag hp.ln hp.bd),.c [] (Q1c hp hd h1),.c [] (Q8k hp (Qgy hp hd h1) h)] rfl rfl trivial
theorem Qgx {a g:List Int} (ha:Pb a) (h:Sy a=some g):Pb g:=by
 unfold Sy at h
 split at h
 ·injection h with h; subst h; exact Hr ha
 ·obtain ⟨d,h1,h⟩:=Qf.1 h;obtain ⟨g1,h1,h⟩:=Qf.1 h;exact Qy5 h
theorem Zbf {p:List Int} (h:Pb p):Pb (Se p):=⟨U3 _ _,Qc (Nj p) h.l,If h.b⟩
theorem Qxy:∀ {k:Nat} {a b:List Int} {l:List (List Int)},Pb a->Pb b->chF k a b=some l->l.length≤k/\∀ p∈l,Pb p
 | 0,_,_,_,_,_,h=>by cases h
 |
  k+1,a,b,l,ha,hb,h=>by
  simp only [chF] at h
  split at h
  ·injection h with h; subst h; exact ⟨by simp,λp hp=>by cases hp⟩
  ·rename_i h0;obtain ⟨r,hr,h⟩:=Qf.1 h;obtain ⟨rfl,hpb⟩:=Il (Qe0 ha hb h0).1 hr;obtain ⟨l',h1,h⟩:=Qf.1 h;injection h with h; subst h;obtain ⟨i1,i2⟩:=Qxy hb (Zbf hpb) h1;refine ⟨by simp; exact i1,λp hp=>?_⟩;rcases Qp.1 hp with rfl | hp
   ·exact hb
   ·exact i2 p hp
theorem chain_ok {p:List Int} {l:List (List Int)} (hp:Pb p) (h:chain p=some l):l.length≤67/\∀ q∈l,Pb q:=by
 unfold chain at h;obtain ⟨a,h1,h⟩:=Qf.1 h;have ha:=Qgx hp h1
 split at h
 ·cases h
 ·obtain ⟨d,h2,h⟩:=Qf.1 h;obtain ⟨rfl,hd⟩:=Qln h2;obtain ⟨l',h3,h⟩:=Qf.1 h;injection h with h; subst h;obtain ⟨i1,i2⟩:=Qxy ha (Hr hd) h3;refine ⟨by simp; omega,λp hp=>?_⟩;rcases Qp.1 hp with rfl | hp
  ·exact ha
  ·exact i2 p hp
theorem Qlq (l:List (List Int)) (p:List Int):Sx l++[[pl p]]=Sx (l++[p]):=by simp [Sx]
theorem Dy (l:List (List Int)):(Sx l).length=l.length:=by simp [Sx]
theorem Q7x {p:List Int} {l:List (List Int)} (hp:Pb p) (h:chain p=some l):Uk Tryz.prog 249 [pr p] [.one (.sh [.row (Sx l)]),.one (.int .i64 0)]:=by
 unfold chain at h;obtain ⟨a,h1,h⟩:=Qf.1 h;have ha:=Qgx hp h1
 split at h
 ·cases h
 rename_i h0;obtain ⟨d,h2,h⟩:=Qf.1 h;obtain ⟨rfl,hd⟩:=Qln h2;obtain ⟨l',h3,h⟩:=Qf.1 h;injection h with h; subst h;refine Gm Tryz.func249 rfl ?_;refine go tt [.c [] (Qj1 hp h1),.f (by simpa using h0),.lo,.c [] (Ag ha.ln ha.bd),.c [] (Q8g hd.t hd.ln' hd.bd)] rfl (by simp [Ui]) ?_;obtain ⟨z,hz⟩:=nmE (if (Fe a).length=0 then 0 else Fy (Fe a));rw [<-hz];refine sb [(4,.v (pr a)),(7,.v (pr (Uq (Fe a)))),(5,.v (.one (.ow 1 0)))] [.row false 52 1 [[pl a]],.blk 327 [.orow 0 1 none],.blk 55 (Gk z)] rfl rfl ?_;have hll:=(Qxy ha (Hr hd) h3).1;refine lp (S:=Nat×List (List Int)×List Int×List Int) 3 (λL1 s=>(4,.v (pr s.2.2.1))::(7,.v (pr s.2.2.2))::L1) (λs=>[.row false 52 1 (Sx s.2.1),.blk 327 [.orow 0 1 none],.blk 55 (Gk z)]) (λs=>s.1) (λs=>Pb s.2.2.1/\Pb s.2.2.2/\∃ m,chF s.1 s.2.2.1 s.2.2.2=some m/\s.2.1++m=a::l') (66,[a],a,Uq (Fe a)) ⟨ha,Hr hd,l',h3,rfl⟩ rfl (λ_ _=>rfl) rfl λ⟨k,out,A,C⟩ ⟨j1,j2,m,j3,j4⟩=>?_
 dsimp only at j1 j2 j3 j4 ⊢;have hol:out.length<=67:=by have:=congrArg List.length j4; simp at this; omega
 cases k with
 | zero=>cases j3
 |
  succ k =>
  simp only [chF] at j3
  split at j3
  ·rename_i h0;injection j3 with j3; subst j3;rw [Xi] at j4;rw [<-j4];exact en tt [.f (by simpa using h0)] rfl rfl trivial
  ·rename_i h0;obtain ⟨r,hr,j3⟩:=Qf.1 j3;obtain ⟨rfl,hpb⟩:=Il (Qe0 j1 j2 h0).1 hr;obtain ⟨m',j6,j5⟩:=Qf.1 j3;injection j5 with j5; subst j5;refine go tt [.t (by simp; omega),.s (sz:=1) (λc hc=>by rw [Ql.1 hc]; rfl),.c [] (Q7v j1 j2 h0),.c [] (Q7s hpb.ln hpb.bd)] rfl (by simp [Ui,Dy]; omega) ?_;exact rd (k,out++[C],C,Se (Gi A C)) (by dsimp only; omega) ⟨j2,Zbf hpb,m',j6,by rw [<-j4]; simp⟩ (by rw [Qlq]; rfl)
structure Tb (t:Tm):Prop where
 p:Pb t.p
 lo:Qb t.lo
 hi:Qb t.hi
theorem Q1k (x y:Int):-1<=Na x y/\Na x y<=1:=by unfold Na; split <;> (try split) <;> omega
theorem Io (a b:Rat):-1<=Fi a b/\Fi a b<=1:=Q1k _ _
theorem Np (p:List Int) (q:Rat):-1<=Fc p q/\Fc p q<=1:=Q1k _ _
theorem Qyt (p:List Int) (q:Rat):-1<=low p q/\low p q<=1:=by unfold low; split <;> exact Np _ _
theorem Qb.s31 {q:Rat} (h:Qb q):Qs 2147483647 q:=h.mono (by decide)
theorem Qb.s32 {q:Rat} (h:Qb q):Qs 4294967295 q:=h.mono (by decide)
theorem Qid {p:List Int} {q:Rat} (hp:Pb p) (hq:Qb q):Uk Tryz.prog 159 [pr p,.agg (rl q)] [.one (.int .i64 (Fc p q))]:=by
 have hm:p.length*(16777216+1)<=64*16777217:=Qy _ hp.l;exact Q0z hp.t hp.ln hp.b hq (by omega)
theorem Znv {p:List Int} {q:Rat} (hp:Pb p) (hq:Qb q):Uk Tryz.prog 159 [pr (Fe p),.agg (rl q)] [.one (.int .i64 (Fc (Fe p) q))]:=by
 have hl:=Qc (Tr p) (show p.length-1<=64 by have:=hp.l; omega);have hm:(Fe p).length*(16777216+1)<=64*16777217:=Qy _ hl;exact Q0z (U3 _ _) (Zv hl (by omega)) (Qip (t:=6) hp.b hp.l) hq (by omega)
theorem Ci {t:Tm} (ht:Tb t):Uk Tryz.prog 135 [.agg (ta t)] [.one (.bool t.point)] :=
 w tt Tryz.func135 rfl [.c [] (D9 ht.lo.s31 ht.hi.s31)] rfl rfl trivial
theorem Qis {t:Tm} (ht:Tb t):Uk Tryz.prog 134 [.agg (ta t)] [.agg (ta t)] :=
 w tt Tryz.func134 rfl [.c [] (G8 ht.p.t ht.p.ln ht.p.bd),.c [] (Ik ht.lo.s32),.c [] (Ik ht.hi.s32)] rfl rfl trivial
theorem Q8t {t:Tm} (ht:Tb t):Uk Tryz.prog 131 [.agg (ta t)] [.agg (ta t)]:=w tt Tryz.func131 rfl [.c [] (Qis ht)] rfl rfl trivial
theorem Q8d {p:List Int} {q:Rat} (hp:Pb p) (hq:Qb q):Uk Tryz.prog 160 [pr p,.agg (rl q)] [.one (.int .i64 (low p q))]:=by
 unfold low;by_cases h:Fc p q=0
 ·rw [if_neg (by simpa using h)];exact w tt Tryz.func160 rfl [.c [] (Qid hp hq),.f (by simpa using h),.c [] (Ag hp.ln hp.bd),.c [] (Znv hp hq)] rfl rfl trivial
 ·rw [if_pos h];exact w tt Tryz.func160 rfl [.c [] (Qid hp hq),.t (by simpa using h)] rfl rfl trivial
theorem Q8a {p:List Int} {lo hi:Rat} (hp:Pb p) (hl:Qb lo) (hh:Qb hi):Uk Tryz.prog 138 [pr p,.agg (rl lo),.agg (rl hi)] [.one (.bool (Qeb p lo hi))]:=by
 by_cases h:Fc p hi=0
 ·exact w tt Tryz.func138 rfl [.c [] (Qid hp hh),.t (by simpa using h)] rfl (by simp [Qeb,h]) trivial
 ·exact w tt Tryz.func138 rfl [.c [] (Qid hp hh),.f (by simpa using h),.c [] (Q8d hp hl)] rfl (by simp [Qeb,h]) trivial
theorem Qjx {t:Tm} {q:Rat} (ht:Tb t) (hq:Qb q):Uk Tryz.prog 115 [.agg (ta t),.agg (rl q)] [.one (.int .i64 (U0 t q))]:=by
 have cp:=Ci ht;unfold U0;by_cases h1:t.point=true
 ·rw [if_pos h1];exact w tt Tryz.func115 rfl [.c [] cp,.t h1,.c [] (D9 ht.lo.s31 hq.s31)] rfl rfl trivial
 rw [if_neg h1];have h1:t.point=false:=by simpa using h1
 have c1:=D9 hq.s31 ht.lo.s31;have c2:=D9 hq.s31 ht.hi.s31;by_cases h2:Fi q t.lo<=0
 ·rw [if_pos h2];exact w tt Tryz.func115 rfl [.c [] cp,.f h1,.c [] c1,.t (by simpa using h2)] rfl rfl trivial
 rw [if_neg h2];by_cases h3:0<Fi q t.hi
 ·rw [if_pos h3];exact w tt Tryz.func115 rfl [.c [] cp,.f h1,.c [] c1,.f (by simpa using h2),.c [] c2,.t (by simpa using h3)] rfl rfl trivial
 rw [if_neg h3];by_cases h4:Fc t.p q=0
 ·rw [if_pos h4];exact w tt Tryz.func115 rfl [.c [] cp,.f h1,.c [] c1,.f (by simpa using h2),.c [] c2,.f (by simpa using h3),.c [] (Qid ht.p hq),.t (by simpa using h4)] rfl rfl trivial
 rw [if_neg h4];by_cases h5:Fc t.p q=low t.p t.lo
 ·rw [if_pos h5];exact w tt Tryz.func115 rfl [.c [] cp,.f h1,.c [] c1,.f (by simpa using h2),.c [] c2,.f (by simpa using h3),.c [] (Qid ht.p hq),.f (by simpa using h4),.c [] (Q8d ht.p ht.lo),.t (by simpa using h5)] rfl rfl trivial
 ·rw [if_neg h5];exact w tt Tryz.func115 rfl [.c [] cp,.f h1,.c [] c1,.f (by simpa using h2),.c [] c2,.f (by simpa using h3),.c [] (Qid ht.p hq),.f (by simpa using h4),.c [] (Q8d ht.p ht.lo),.f (by simpa using h5)] rfl rfl trivial
theorem Zfw (t:Tm) (q:Rat):-1<=U0 t q/\U0 t q<=1:=by
 unfold U0;have:=Io t.lo q
 repeat' split
 all_goals omega
theorem Zf4 (q:Rat):0<(q.den:Int):=by have:=q.den_pos; omega
theorem Zi6 {a b:Rat} (ha:Qb a) (hb:Qb b):Uk Tryz.prog 228 [.agg (rl a),.agg (rl b)] [.agg (rl (Om a b))]:=by
 have h1:Uv (a.num*(b.den:Int))<=33554432:=Qc (U6 _ _) (by have:=ha.1; have:=hb.2; omega);have h2:Uv (b.num*(a.den:Int))<=33554432:=Qc (U6 _ _) (by have:=hb.1; have:=ha.2; omega);have h3:Uv ((a.den:Int)*(b.den:Int))<=33554432:=Qc (U6 _ _) (by have:=ha.2; have:=hb.2; omega);have h4:Uv (2:Int)<=2:=by decide
 have h5:Uv (a.num*(b.den:Int)+b.num*(a.den:Int))<=33554433:=Qc (I3 _ _) (by omega);have h6:Uv ((a.den:Int)*(b.den:Int)*2)<=33554434:=Qc (U6 _ _) (by omega);have h0:(a.den:Int)*(b.den:Int)*2≠0:=by
  have:=Ud (Zf4 a) (Zf4 b); omega
 exact w tt Tryz.func228 rfl [.c [] (Qp3 ha.s31 hb.s31),.c [] (Qct (Ul _) (Ul _) (by omega) (by omega)),.c [] (Qxd (z:=2) (by decide)),.c [] (D8 (Ul _) (Ul _) (by omega) (by omega)),.c [] (O3 h0 (by omega) (by omega))] rfl rfl trivial
theorem Qp8 {a b:Rat} (ha:Qb a) (hb:Qb b):Uk Tryz.prog 182 [.agg (rl a),.agg (rl b)] [.agg (rl (Ql4 a b))]:=by
 have h1:Uv (a.num*(b.den:Int))<=33554432:=Qc (U6 _ _) (by have:=ha.1; have:=hb.2; omega);have h2:Uv (b.num*(a.den:Int))<=33554432:=Qc (U6 _ _) (by have:=hb.1; have:=ha.2; omega);have h3:Uv ((a.den:Int)*(b.den:Int))<=33554432:=Qc (U6 _ _) (by have:=ha.2; have:=hb.2; omega);have h5:Uv (a.num*(b.den:Int)-b.num*(a.den:Int))<=33554433:=Qc (Qi2 _ _) (by omega);have h0:(a.den:Int)*(b.den:Int)≠0:=by
  have:=Ud (Zf4 a) (Zf4 b); omega
 exact w tt Tryz.func182 rfl [.c [] (Qp3 ha.s31 hb.s31),.c [] (Q74 (Ul _) (Ul _) (by omega) (by omega)),.c [] (O3 h0 (by omega) (by omega))] rfl rfl trivial
theorem Qka {q r:Rat} (h:chq q=some r):r=q/\Qb q:=by
 unfold chq at h
 split at h
 ·rename_i hc; injection h with h; exact ⟨h.symm,hc⟩
 ·cases h
theorem Qxl {t u:Tm} (ht:Tb t) (h:Qqu t=some u):Uk Tryz.prog 183 [.agg (ta t)] [.agg (ta u)]:=by
 have cp:=Ci ht;unfold Qqu at h
 split at h
 ·rename_i h1;injection h with h; subst h;exact w tt Tryz.func183 rfl [.c [] cp,.t h1] rfl rfl trivial
 ·rename_i h1;have h1:t.point=false:=by simpa using h1
  obtain ⟨m,hm0,h⟩:=Qf.1 h;obtain ⟨rfl,hm⟩:=Qka hm0;injection h with h;subst h;have cm:=Zi6 ht.lo ht.hi;have cc:=Qjx ht hm;by_cases h2:U0 t (Om t.lo t.hi)=0
  ·rw [if_pos h2];exact w tt Tryz.func183 rfl [.c [] cp,.f h1,.c [] cm,.c [] cc,.t (by simpa using h2)] rfl rfl trivial
  rw [if_neg h2];by_cases h3:U0 t (Om t.lo t.hi)=-1
  ·rw [if_pos h3];exact w tt Tryz.func183 rfl [.c [] cp,.f h1,.c [] cm,.c [] cc,.f (by simpa using h2),.t (by simpa using h3)] rfl rfl trivial
  ·rw [if_neg h3];exact w tt Tryz.func183 rfl [.c [] cp,.f h1,.c [] cm,.c [] cc,.f (by simpa using h2),.f (by simpa using h3)] rfl rfl trivial
theorem Qsd {t u:Tm} (ht:Tb t) (h:Qqu t=some u):Tb u:=by
 unfold Qqu at h
 split at h
 ·injection h with h; subst h; exact ht
 ·obtain ⟨m,hm0,h⟩:=Qf.1 h;obtain ⟨rfl,hm⟩:=Qka hm0;injection h with h;subst h
  repeat' split
  ·exact ⟨ht.p,hm,hm⟩
  ·exact ⟨ht.p,ht.lo,hm⟩
  ·exact ⟨ht.p,hm,ht.hi⟩
theorem Ih {z:Int} (h:Uv z<=4294967296):Uk Tryz.prog 225 [.one (mg z)] [.one (.int .i64 (Uv z:Int))]:=by
 have h1:=Qw8 (l:=U8 z.natAbs) (Cu _) (by rw [Fu]; exact h);rw [Fu] at h1; exact h1
theorem Qlx {p:List Int} {i:Nat} {z:Int} (h:p[i]? = some z):Ga (p.take (i+1))=max (Ga (p.take i)) (Uv z):=by
 unfold Ga; rw [List.take_succ,h,Option.toList_some,List.foldl_append]; rfl
theorem Pf {p:List Int} {s:Nat} (h:Bd s p):∀ i,Ga (p.take i)<=s
 | 0=>by simp [Ga]
 |
  i+1=>by
  cases hz:p[i]? with
  |
   none =>
   rw [Qk (by have:=Jv.1 hz; omega),<-Qk (l:=p) (i:=i) (by have:=Jv.1 hz; omega)];exact Pf h i
  | some z=>rw [Qlx hz]; have:=Pf h i; have:=Q63 h hz; omega
theorem Qp9 {p:List Int} (hp:Pb p):Uk Tryz.prog 226 [pr p] [.one (.int .i64 (Ga p:Int))]:=by
 have hl:=hp.l;refine Gm Tryz.func226 rfl ?_;refine go tt [] rfl trivial ?_;refine lp (S:=Nat) 0 (λL1 i=>(8,.v (.one (.int .i64 (i:Int))))::(3,.v (.one (.int .i64 (Ga (p.take i):Int))))::L1) (λ_=>[]) (λi=>p.length-i) (λi=>i<=p.length) 0 (Qh _) rfl (λ_ _=>rfl) rfl λi hi=>?_
 by_cases hlt:i<p.length
 ·have hg:=Hq hlt;have hz:=Uw hp.b i;have hs:=Qlx hg;refine go tt [.t (by simp; omega),.x (Sp hg),.c [] (Ih (by omega)),.r 16 (eI (b:=(Ga (p.take (i+1)):Int)) (by rw [hs]; omega))] rfl (by simp [Ui]; omega) ?_;exact rd (i+1) (by omega) hlt rfl
 ·obtain rfl:i=p.length:=by omega
  rw [Q4];exact en tt [.f (by simp)] rfl rfl trivial
theorem Zfs {a:Tm} {b:Tm} (ha:Tb a) (hb:Tb b):Uk Tryz.prog 181 [.agg (ta a),.agg (ta b)] [.one (.int .i64 (Ss a b:Nat))]:=by
 have l1:=ha.p.l;have l2:=hb.p.l;have b1:=ha.lo.1;have b2:=ha.hi.1;have b3:=hb.lo.1;have b4:=hb.hi.1;have s1:Ga a.p<=16777216:=by have:=Pf ha.p.b a.p.length; rwa [Q4] at this
 have s2:Ga b.p<=16777216:=by have:=Pf hb.p.b b.p.length; rwa [Q4] at this
 obtain ⟨N,hN⟩:=nmE (4*(a.p.length+b.p.length));obtain ⟨S,hS⟩:=nmE (Ga a.p+Ga b.p+(a.p.length+b.p.length)+8);have hNS:N*S<=512*33554568:=Zx (by omega) (by omega);have h0:(N:Int)*(S:Int)=((N*S:Nat):Int):=(Ve _ _).symm;have hst:Ss a b=64+2*(Uv a.lo.num+Uv a.hi.num+Uv b.lo.num+Uv b.hi.num)+N*S:=by rw [hN,hS]; rfl
 rw [hst];exact w tt Tryz.func181 rfl [.c [] (Ih (z:=a.lo.num) (by omega)),.c [] (Ih (z:=a.hi.num) (by omega)),.c [] (Ih (z:=b.lo.num) (by omega)),.c [] (Ih (z:=b.hi.num) (by omega)),.r 41 (eI (b:=(N:Int)) (by rw [hN]; simp)),.c [] (Qp9 ha.p),.c [] (Qp9 hb.p),.r 51 (eI (b:=(S:Int)) (by rw [hS]; simp)),.r 52 (eI (b:=((N*S:Nat):Int)) h0)] rfl (by simp) (by rw [h0]; simp [Ui]; omega)
def Qz6 (p:List Int) (a:Tm):Nat:=64+2*(Uv a.lo.num+Uv a.hi.num)+4*(a.p.length+p.length)*(Ga a.p+Ga p+(a.p.length+p.length)+8)
theorem Q0r:Uk Tryz.prog 225 [lr []] [.one (.int .i64 0)]:=Qw8 (l:=[]) (by simp [Sm]) (by decide)
theorem Q8s {a:Tm} {p:List Int} (ha:Tb a) (hp:Pb p):Uk Tryz.prog 181 [.agg (ta a),.agg ([pl p,.bool false,.row [],.bool false,.row [],.bool false,.row [],.bool false,.row []])] [.one (.int .i64 (Qz6 p a:Nat))]:=by
 have l1:=ha.p.l;have l2:=hp.l;have b1:=ha.lo.1;have b2:=ha.hi.1;have s1:Ga a.p<=16777216:=by have:=Pf ha.p.b a.p.length; rwa [Q4] at this
 have s2:Ga p<=16777216:=by have:=Pf hp.b p.length; rwa [Q4] at this
 obtain ⟨N,hN⟩:=nmE (4*(a.p.length+p.length));obtain ⟨S,hS⟩:=nmE (Ga a.p+Ga p+(a.p.length+p.length)+8);have hNS:N*S<=512*33554568:=Zx (by omega) (by omega);have h0:(N:Int)*(S:Int)=((N*S:Nat):Int):=(Ve _ _).symm;have hst:Qz6 p a=64+2*(Uv a.lo.num+Uv a.hi.num)+N*S:=by rw [hN,hS]; rfl
 rw [hst];exact w tt Tryz.func181 rfl [.c [] (Ih (z:=a.lo.num) (by omega)),.c [] (Ih (z:=a.hi.num) (by omega)),.c [] Q0r,.c [] Q0r,.r 41 (eI (b:=(N:Int)) (by rw [hN]; simp)),.c [] (Qp9 ha.p),.c [] (Qp9 hp),.r 51 (eI (b:=(S:Int)) (by rw [hS]; simp)),.r 52 (eI (b:=((N*S:Nat):Int)) h0)] rfl (by simp) (by rw [h0]; simp [Ui]; omega)
def D6 (sg:List Int->Int) (l:List (List Int)) (i:Nat):Nat×Int:=(l.take i).foldl (Hz sg) (0,0)
theorem Qmk {sg:List Int->Int} (hs:∀ p,-1<=sg p/\sg p<=1) (l:List (List Int)):∀ i,(D6 sg l i).1<=i/\-1<=(D6 sg l i).2/\(D6 sg l i).2<=1
 | 0=>⟨Qm _,show (-1:Int)<=0 by decide,show (0:Int)<=1 by decide⟩
 |
  i+1=>by
  obtain ⟨h1,h2,h3⟩:=Qmk hs l i;cases h:l[i]? with
  |
   none =>
   have:D6 sg l (i+1)=D6 sg l i:=by unfold D6; rw [List.take_of_length_le (by have:=List.getElem?_eq_none_iff.1 h; omega),List.take_of_length_le (List.getElem?_eq_none_iff.1 h)]
   rw [this]; omega
  |
   some p =>
   have:D6 sg l (i+1)=Hz sg (D6 sg l i) p:=Hh _ _ _ h;rw [this];have:=hs p;unfold Hz
   split
   ·omega
   ·dsimp only; split <;> omega
theorem Zft {l:List (List Int)} {fid:Nat} {l1:List LV} {sg:List Int->Int} (hl:l.length≤1000) (hs:∀ p,-1≤sg p/\sg p≤1) (h:∀ p∈l,Uk Tryz.prog fid [pr p,.one (.sh l1)] [.one (.int .i64 (sg p))]):Uk Tryz.prog 290 [.one (.sh [.row (Sx l)]),.one (.fn fid [] [.sh l1])] [.one (.int .i64 (Me sg l:Nat))]:=by
 have hpl:=Dy l;refine Gm Tryz.func290 rfl ?_;refine go tt [] rfl trivial ?_;refine lp (S:=Nat) 0 (λL1 i=>(15,.v (.one (.int .i64 (i:Int))))::(5,.v (.one (.int .i64 ((D6 sg l i).1:Int))))::(6,.v (.one (.int .i64 (D6 sg l i).2)))::L1) (λ_=>[]) (λi=>l.length-i) (λi=>i<=l.length) 0 (Qh _) rfl (λ_ _=>rfl) rfl λi hi=>?_
 by_cases hlt:i<l.length
 ·obtain ⟨p,hp⟩:=gxE (l:=l) (i:=i) hlt;have hst:D6 sg l (i+1)=Hz sg (D6 sg l i) p:=Hh _ _ _ hp;obtain ⟨b1,b2,b3⟩:=Qmk hs l i;have b4:=hs p;by_cases h0:sg p=0
  ·refine go tt [.t (by simp [hpl]; omega),.x (Ro hp),.c [] (h p (Qa hp)),.t (by simpa using h0)] rfl (by simp [Ui]; omega) ?_;exact rd (i+1) (by omega) hlt (by rw [hst,show Hz sg (D6 sg l i) p=D6 sg l i from by unfold Hz; rw [if_pos h0]]; rfl)
  ·by_cases h1:(D6 sg l i).2=-(sg p)
   ·refine go tt [.t (by simp [hpl]; omega),.x (Ro hp),.c [] (h p (Qa hp)),.f (by simpa using h0),.t (by simpa using h1)] rfl (by simp [Ui]; omega) ?_;exact rd (i+1) (by omega) hlt (by rw [hst,show Hz sg (D6 sg l i) p=((D6 sg l i).1+1,sg p) from by unfold Hz; rw [if_neg h0,if_pos h1]]; rfl)
   ·refine go tt [.t (by simp [hpl]; omega),.x (Ro hp),.c [] (h p (Qa hp)),.f (by simpa using h0),.f (by simpa using h1)] rfl (by simp [Ui]; omega) ?_;exact rd (i+1) (by omega) hlt (by rw [hst,show Hz sg (D6 sg l i) p=((D6 sg l i).1,sg p) from by unfold Hz; rw [if_neg h0,if_neg h1]]; rfl)
 ·obtain rfl:i=l.length:=by omega
  refine en tt [.f (by simp [hpl])] rfl ?_ trivial;unfold D6 Me; rw [List.take_length]
theorem Q72 {p:List Int} {q:Rat} (hp:Pb p) (hq:Qb q):Uk Tryz.prog 291 [pr p,.one (.sh (rl q))] [.one (.int .i64 (Fc p q))]:=w tt Tryz.func291 rfl [.c [] (Qid hp hq)] rfl rfl trivial
theorem Q01 {l:List (List Int)} {q:Rat} (hl:l.length≤1000) (hp:∀ p∈l,Pb p) (hq:Qb q):Uk Tryz.prog 278 [.one (.sh [.row (Sx l)]),.agg (rl q)] [.one (.int .i64 (S0 l q:Nat))] :=
 w tt Tryz.func278 rfl [.c [] (Zft (fid:=291) (l1:=rl q) (sg:=λp=>Fc p q) hl (λp=>Np p q) λp h=>Q72 (hp p h) hq)] rfl rfl trivial
theorem Mf {sg:List Int->Int} (hs:∀ p,-1<=sg p/\sg p<=1) (l:List (List Int)):Me sg l<=l.length:=by
 have:=(Qmk hs l l.length).1;unfold D6 at this; rwa [List.take_length] at this
theorem Qm9 {l:List (List Int)} {lo hi:Rat} (hl:l.length≤1000) (hp:∀ p∈l,Pb p) (ql:Qb lo) (qh:Qb hi):Uk Tryz.prog 250 [.one (.sh [.row (Sx l)]),.agg (rl lo),.agg (rl hi)] [.one (.int .i64 (Hd l lo hi))]:=by
 have b1:S0 l lo<=l.length:=Mf (λp=>Np p lo) l;have b2:S0 l hi<=l.length:=Mf (λp=>Np p hi) l;have c1:=D9 qh.s31 ql.s31;unfold Hd;by_cases h:Fi hi lo<0
 ·rw [if_pos h];exact w tt Tryz.func250 rfl [.c [] c1,.t (by simpa using h)] rfl rfl trivial
 ·rw [if_neg h];exact w tt Tryz.func250 rfl [.c [] c1,.f (by simpa using h),.c [] (Q01 hl hp ql),.c [] (Q01 hl hp qh)] rfl rfl (by simp [Ui]; omega)
def zTm:List LV:=[.nils,.bool false,.nils,.bool false,.nils,.bool false,.nils,.bool false,.nils]
theorem Q53 {a b:Tm} (ha:Tb a) (hb:Tb b):Ss a b<=17179938816+200000000:=by
 have l1:=ha.p.l;have l2:=hb.p.l;have b1:=ha.lo.1;have b2:=ha.hi.1;have b3:=hb.lo.1;have b4:=hb.hi.1;have s1:Ga a.p<=16777216:=by have:=Pf ha.p.b a.p.length; rwa [Q4] at this
 have s2:Ga b.p<=16777216:=by have:=Pf hb.p.b b.p.length; rwa [Q4] at this
 have:4*(a.p.length+b.p.length)*(Ga a.p+Ga b.p+(a.p.length+b.p.length)+8)<=512*33554568:=Zx (by omega) (by omega);unfold Ss; omega
theorem Zhs {a b:Rat} (ha:Qb a) (hb:Qb b):Qs 2147483647 (Ql4 a b):=by
 have h1:Uv (a.num*(b.den:Int))<=33554432:=Qc (U6 _ _) (by have:=ha.1; have:=hb.2; omega);have h2:Uv (b.num*(a.den:Int))<=33554432:=Qc (U6 _ _) (by have:=hb.1; have:=ha.2; omega);have h3:Uv ((a.den:Int)*(b.den:Int))<=33554432:=Qc (U6 _ _) (by have:=ha.2; have:=hb.2; omega);have h5:Uv (a.num*(b.den:Int)-b.num*(a.den:Int))<=33554433:=Qc (Qi2 _ _) (by omega);exact (Qs.divInt (s:=33554433) h5 (by omega) (by omega)).mono (by omega)
theorem Qp0 {a b:Tm} {r:Tm×Tm×Int} (ha:Tb a) (hb:Tb b) (h:apF (Ss a b) a b=some r):Uk Tryz.prog 139 [.agg (ta a),.agg (ta b)] [.agg (ta r.1),.agg (ta r.2.1),.one (.int .i64 r.2.2)]:=by
 have hsb:=Q53 ha hb;refine Gm Tryz.func139 rfl ?_;refine go tt [.c [] (Zfs ha hb)] rfl trivial ?_;obtain ⟨n,hn⟩:=nmE (Ss a b);rw [<-hn] at h hsb ⊢;refine sb [(10,.v (.one (.int .i64 0))),(9,.v (.one (.int .i64 (n:Int)))),(5,.v (.one (.ow 3 0))),(4,.v (.one (.ow 2 0))),(3,.v (.one (.ow 1 0))),(2,.v (.one (.ow 0 0)))] [.blk 79 (ta a),.blk 79 (ta b),.blk 79 zTm,.blk 79 zTm] rfl rfl ?_;refine lp (S:=Nat×Tm×Tm) 4 (λL1 s=>(10,.v (.one (.int .i64 (s.1:Int))))::L1) (λs=>[.blk 79 (ta s.2.1),.blk 79 (ta s.2.2),.blk 79 zTm,.blk 79 zTm]) (λs=>n-s.1) (λs=>s.1<=n/\Tb s.2.1/\Tb s.2.2/\apF (n-s.1) s.2.1 s.2.2=some r) (0,a,b) ⟨Qh _,ha,hb,h⟩ rfl (λ_ _=>rfl) rfl λ⟨i,u,v⟩ ⟨j1,j2,j3,j4⟩=>?_
 dsimp only at j1 j2 j3 j4 ⊢;by_cases hi:i<n
 ·obtain ⟨k,hk⟩:∃ k,n-i=k+1:=⟨n-i-1,by omega⟩;have hk':n-(i+1)=k:=by omega
  rw [hk] at j4;have c1:=D9 j2.hi.s31 j3.lo.s31;have c2:=D9 j3.hi.s31 j2.lo.s31;have pu:=Ci j2;have pv:=Ci j3;have hlt:decide ((i:Int)<(n:Int))=true:=by simp; omega
  simp only [apF] at j4;refine go tt [.t hlt] rfl trivial ?_;refine ct 3 (S:=Unit) (λ_=>[(10,.v (.one (.int .i64 (i:Int)))),(9,.v (.one (.int .i64 (n:Int)))),(5,.v (.one (.ow 3 0))),(4,.v (.one (.ow 2 0))),(3,.v (.one (.ow 1 0))),(2,.v (.one (.ow 0 0)))]) (λ_=>[.blk 79 (ta u),.blk 79 (ta v),.blk 79 zTm,.blk 79 zTm]) (λ_=>¬Ch u v=true/\¬Ch v u=true) rfl ?_ ?_
  ·have bA:Ch u v=(decide (Fi u.hi v.lo<=0) && !(u.point && v.point && decide (Fi u.hi v.lo=0))):=by
    unfold Ch; cases u.point <;> cases v.point <;> simp
   have bB:Ch v u=(decide (Fi v.hi u.lo<=0) && !(u.point && v.point && decide (Fi v.hi u.lo=0))):=by
    unfold Ch; cases u.point <;> cases v.point <;> simp
   obtain ⟨a0,A'⟩:∃ b,decide (Fi u.hi v.lo<=0)=b:=⟨_,rfl⟩;obtain ⟨b0,B'⟩:∃ b,decide (Fi v.hi u.lo<=0)=b:=⟨_,rfl⟩;obtain ⟨p0,P'⟩:∃ b,u.point=b:=⟨_,rfl⟩;obtain ⟨q0,Q'⟩:∃ b,v.point=b:=⟨_,rfl⟩;obtain ⟨x0,X'⟩:∃ b,decide (Fi u.hi v.lo=0)=b:=⟨_,rfl⟩;obtain ⟨y0,Y'⟩:∃ b,decide (Fi v.hi u.lo=0)=b:=⟨_,rfl⟩;rw [A',P',Q',X'] at bA;rw [B',P',Q',Y'] at bB;have r1:Ch u v=true->(u,v,-1)=r:=λh=>by rw [if_pos h] at j4; injection j4
   have r2:¬Ch u v=true->Ch v u=true->(u,v,1)=r:=λh h'=>by rw [if_neg h,if_pos h'] at j4; injection j4
   clear j4;cases a0
   ·cases b0
    ·exact go tt [.c [] c1,.g 19 false A',.f rfl,.c [] c2,.g 45 false B',.f rfl] rfl trivial (rc () ⟨by rw [bA]; simp,by rw [bB]; simp⟩ rfl)
    ·cases p0
     ·obtain rfl:=r2 (by rw [bA]; simp) (by rw [bB]; rfl);exact en tt [.c [] c1,.g 19 false A',.f rfl,.c [] c2,.g 45 true B',.c [] pu,.g 48 false P',.g 52 false rfl,.t rfl] rfl rfl trivial
     ·cases q0
      ·obtain rfl:=r2 (by rw [bA]; simp) (by rw [bB]; rfl);exact en tt [.c [] c1,.g 19 false A',.f rfl,.c [] c2,.g 45 true B',.c [] pu,.g 48 true P',.c [] pv,.g 52 false Q',.t rfl] rfl rfl trivial
      ·cases y0
       ·obtain rfl:=r2 (by rw [bA]; simp) (by rw [bB]; rfl);exact en tt [.c [] c1,.g 19 false A',.f rfl,.c [] c2,.g 45 true B',.c [] pu,.g 48 true P',.c [] pv,.g 52 true Q',.c [] c2,.t (by simpa using Y')] rfl rfl trivial
       ·exact go tt [.c [] c1,.g 19 false A',.f rfl,.c [] c2,.g 45 true B',.c [] pu,.g 48 true P',.c [] pv,.g 52 true Q',.c [] c2,.f (by simpa using Y')] rfl trivial (rc () ⟨by rw [bA]; simp,by rw [bB]; simp⟩ rfl)
   ·cases p0
    ·obtain rfl:=r1 (by rw [bA]; rfl);exact en tt [.c [] c1,.g 19 true A',.c [] pu,.g 22 false P',.g 26 false rfl,.t rfl] rfl rfl trivial
    ·cases q0
     ·obtain rfl:=r1 (by rw [bA]; rfl);exact en tt [.c [] c1,.g 19 true A',.c [] pu,.g 22 true P',.c [] pv,.g 26 false Q',.t rfl] rfl rfl trivial
     ·cases x0
      ·obtain rfl:=r1 (by rw [bA]; rfl);exact en tt [.c [] c1,.g 19 true A',.c [] pu,.g 22 true P',.c [] pv,.g 26 true Q',.c [] c1,.t (by simpa using X')] rfl rfl trivial
      ·cases b0
       ·exact go tt [.c [] c1,.g 19 true A',.c [] pu,.g 22 true P',.c [] pv,.g 26 true Q',.c [] c1,.f (by simpa using X'),.c [] c2,.g 45 false B',.f rfl] rfl trivial (rc () ⟨by rw [bA]; simp,by rw [bB]; simp⟩ rfl)
       ·cases y0
        ·obtain rfl:=r2 (by rw [bA]; simp) (by rw [bB]; rfl);exact en tt [.c [] c1,.g 19 true A',.c [] pu,.g 22 true P',.c [] pv,.g 26 true Q',.c [] c1,.f (by simpa using X'),.c [] c2,.g 45 true B',.c [] pu,.g 48 true P',.c [] pv,.g 52 true Q',.c [] c2,.t (by simpa using Y')] rfl rfl trivial
        ·exact go tt [.c [] c1,.g 19 true A',.c [] pu,.g 22 true P',.c [] pv,.g 26 true Q',.c [] c1,.f (by simpa using X'),.c [] c2,.g 45 true B',.c [] pu,.g 48 true P',.c [] pv,.g 52 true Q',.c [] c2,.f (by simpa using Y')] rfl trivial (rc () ⟨by rw [bA]; simp,by rw [bB]; simp⟩ rfl)
  ·rintro _ ⟨n1,n2⟩
   rw [if_neg n1,if_neg n2] at j4;have qr:∀ {x y:Rat},Qb x->Qb y->Qs 2147483647 (Ql4 x y):=λh1 h2=>Zhs h1 h2
   have cc:=D9 (qr j2.hi j2.lo) (qr j3.hi j3.lo);by_cases D:0<=Fi (Ql4 u.hi u.lo) (Ql4 v.hi v.lo)
   ·rw [if_pos D] at j4;obtain ⟨x,x1,x2⟩:=Qf.1 j4;refine go tt [.c [] (Qp8 j2.hi j2.lo),.c [] (Qp8 j3.hi j3.lo),.c [] cc,.t (by simpa using D),.c [] (Qxl j2 x1)] rfl (by simp [Ui]; omega) ?_;exact rd (i+1,x,v) (by dsimp only; omega) ⟨hi,Qsd j2 x1,j3,by dsimp only; rw [hk']; exact x2⟩ rfl
   ·rw [if_neg D] at j4;obtain ⟨x,x1,x2⟩:=Qf.1 j4;refine go tt [.c [] (Qp8 j2.hi j2.lo),.c [] (Qp8 j3.hi j3.lo),.c [] cc,.f (by simpa using D),.c [] (Qxl j3 x1)] rfl (by simp [Ui]; omega) ?_;exact rd (i+1,u,x) (by dsimp only; omega) ⟨hi,j2,Qsd j3 x1,by dsimp only; rw [hk']; exact x2⟩ rfl
 ·obtain rfl:i=n:=by omega
  rw [Yl] at j4;simp only [apF] at j4;injection j4 with j4; subst j4;exact en tt [.f (by simp)] rfl rfl trivial
theorem Zfm {a b:Rat} (ha:Qb a) (hb:Qb b):Uk Tryz.prog 60 [.agg (rl a),.one (.row [rl b])] [.agg (rl (if 0<Fi b a then b else a))]:=by
 have ca:=Qir (Ul a.num) (Ul (a.den:Int)) ha.s32.1 ha.s32.2;have cb:=Qir (Ul b.num) (Ul (b.den:Int)) hb.s32.1 hb.s32.2;rw [I9] at ca cb;have cc:=D9 hb.s31 ha.s31;refine Gm Tryz.func60 rfl ?_;refine go tt [.c [] ca] rfl trivial ?_;refine lp (S:=Nat) 3 (λL1 i=>(12,.v (.one (.int .i64 (i:Int))))::L1) (λi=>[.blk 74 (rl a),.blk 74 [.bool false,.nils,.bool false,.nils],.blk 74 (rl (if i=0 then a else if 0<Fi b a then b else a))]) (λi=>1-i) (λi=>i<=1) 0 (Qh _) rfl (λ_ _=>rfl) rfl λi hi=>?_
 rcases (show i=0\/i=1 by omega) with rfl | rfl
 ·by_cases h:0<Fi b a
  ·refine go tt [.t rfl,.x (i:=0) (xs:=rl b) rfl,.c [] cc,.t (by simpa using h),.c [] cb] rfl (by simp [Ui]) ?_;exact rd 1 (by omega) (by omega) (by rw [if_pos h]; rfl)
  ·refine go tt [.t rfl,.x (i:=0) (xs:=rl b) rfl,.c [] cc,.f (by simpa using h)] rfl (by simp [Ui]) ?_;exact rd 1 (by omega) (by omega) (by rw [if_neg h]; rfl)
 ·exact en tt [.f rfl] rfl rfl trivial
theorem Qjw {a b:Tm} {c:Int} (ha:Tb a) (hb:Tb b) (h:Qie a b=some c):Uk Tryz.prog 78 [.agg (ta a),.agg (ta b)] [.one (.int .i64 c)]:=by
 have ca:=Qis ha;have cb:=Qis hb;have pa:=Ci ha;have pb:=Ci hb;unfold Qie at h;by_cases h1:a.point=true
 ·rw [if_pos h1] at h;injection h with h; subst h;have:=Zfw b a.lo;exact w tt Tryz.func78 rfl [.c [] ca,.c [] cb,.c [] pa,.t h1,.c [] (Qjx hb ha.lo)] rfl rfl (by simp [Ui]; omega)
 rw [if_neg h1] at h;have h1:a.point=false:=by simpa using h1
 by_cases h2:b.point=true
 ·rw [if_pos h2] at h;injection h with h; subst h;exact w tt Tryz.func78 rfl [.c [] ca,.c [] cb,.c [] pa,.f h1,.c [] pb,.t h2,.c [] (Qjx ha hb.lo)] rfl rfl trivial
 rw [if_neg h2] at h;have h2:b.point=false:=by simpa using h2
 obtain ⟨lo,hlo⟩:=nmE (if 0<Fi b.lo a.lo then b.lo else a.lo);obtain ⟨hi,hhi⟩:=nmE (if Fi b.hi a.hi<0 then b.hi else a.hi);have h:(if Fi lo hi<0 then (Qrm a.p b.p).bind λg=>if 1<g.length/\Qeb g lo hi=true then some 0 else (apF (Ss a b) a b).bind λr=>some r.2.2 else (apF (Ss a b) a b).bind λr=>some r.2.2)=some c:=by rw [hlo,hhi]; exact h
 have qlo:Qb lo:=by rw [hlo]; split; exact hb.lo; exact ha.lo
 have qhi:Qb hi:=by rw [hhi]; split; exact hb.hi; exact ha.hi
 have cm:=Zfm ha.lo hb.lo;rw [<-hlo] at cm;have cc1:=D9 hb.hi.s31 ha.hi.s31;have cc2:=D9 qlo.s31 qhi.s31;refine Gm Tryz.func78 rfl ?_;refine go tt [.c [] ca,.c [] cb,.c [] pa,.f h1,.c [] pb,.f h2,.c [] cm] rfl trivial ?_;refine ct 2 (S:=Unit) (λ_=>[(6,.v (.one (.ow 3 0))),(5,.v (.one (.ow 2 0))),(4,.v (.one (.int .i64 0))),(3,.v (.one (.ow 1 0))),(2,.v (.one (.ow 0 0)))]) (λ_=>[.blk 79 (ta a),.blk 79 (ta b),.blk 74 (rl lo),.blk 74 (rl hi)]) (λ_=>True) rfl ?_ ?_
 ·by_cases D:Fi b.hi a.hi<0
  ·rw [if_pos D] at hhi; subst hhi;exact go tt [.c [] cc1,.t (by simpa using D)] rfl trivial (rc () trivial rfl)
  ·rw [if_neg D] at hhi; subst hhi;exact go tt [.c [] cc1,.f (by simpa using D)] rfl trivial (rc () trivial rfl)
 ·rintro _ _
  by_cases D:Fi lo hi<0
  ·rw [if_pos D] at h;obtain ⟨g,g1,h⟩:=Qf.1 h;have cg:=Q7r ha.p hb.p g1;have pg:=Zbe ha.p hb.p g1;have ch:=Q8a pg qlo qhi;by_cases G:1<g.length
   ·by_cases R:Qeb g lo hi=true
    ·rw [if_pos ⟨G,R⟩] at h;injection h with h; subst h;exact en tt [.c [] cc2,.t (by simpa using D),.c [] cg,.c [] (Mz g),.g 58 true (by simp; omega),.c [] ch,.t R] rfl rfl trivial
    ·rw [if_neg λh=>R h.2] at h;obtain ⟨r,r1,h⟩:=Qf.1 h;injection h with h; subst h;exact en tt [.c [] cc2,.t (by simpa using D),.c [] cg,.c [] (Mz g),.g 58 true (by simp; omega),.c [] ch,.f (by simpa using R),.c [] (Qp0 ha hb r1)] rfl rfl trivial
   ·rw [if_neg λh=>G h.1] at h;obtain ⟨r,r1,h⟩:=Qf.1 h;injection h with h; subst h;exact en tt [.c [] cc2,.t (by simpa using D),.c [] cg,.c [] (Mz g),.g 58 false (by simp; omega),.f rfl,.c [] (Qp0 ha hb r1)] rfl rfl trivial
  ·rw [if_neg D] at h;obtain ⟨r,r1,h⟩:=Qf.1 h;injection h with h; subst h;exact en tt [.c [] cc2,.f (by simpa using D),.c [] (Qp0 ha hb r1)] rfl rfl trivial
theorem Zer {p:List Int} {a:Tm} {s:Int} (hp:Pb p) (ha:Tb a) (h:Qcl p a=some s):Uk Tryz.prog 219 [pr p,.agg (ta a)] [.one (.int .i64 s)]:=by
 have ca:=Qis ha;have pa:=Ci ha;have cn:=G8 hp.t hp.ln hp.bd;unfold Qcl at h;by_cases h0:p.length=0
 ·rw [if_pos h0] at h;injection h with h; subst h;exact w tt Tryz.func219 rfl [.c [] cn,.c [] ca,.t (by simp; exact Qi h0)] rfl rfl trivial
 rw [if_neg h0] at h;have h0:p≠[]:=λe=>h0 (by rw [e]; rfl)
 by_cases h1:a.point=true
 ·rw [if_pos h1] at h;injection h with h; subst h;exact w tt Tryz.func219 rfl [.c [] cn,.c [] ca,.f (by simpa using h0),.c [] pa,.t h1,.c [] (Qid hp ha.lo)] rfl rfl trivial
 rw [if_neg h1] at h;have h1:a.point=false:=by simpa using h1
 obtain ⟨g,g1,h⟩:=Qf.1 h;have cg:=Q7r hp ha.p g1;have pg:=Zbe hp ha.p g1;have ch:=Q8a pg ha.lo ha.hi;by_cases G:1<g.length/\Qeb g a.lo a.hi=true
 ·rw [if_pos G] at h;injection h with h; subst h;exact w tt Tryz.func219 rfl [.c [] cn,.c [] ca,.f (by simpa using h0),.c [] pa,.f h1,.c [] cg,.c [] (Mz g),.g 29 true (by simp; omega),.c [] ch,.t G.2] rfl rfl trivial
 rw [if_neg G] at h;obtain ⟨c,c1,h⟩:=Qf.1 h;obtain ⟨u,u1,h⟩:=Qf.1 h;injection h with h; subst h;obtain ⟨cl,call⟩:=chain_ok hp c1;obtain ⟨n,hn⟩:=nmE (64+2*(Uv a.lo.num+Uv a.hi.num)+4*(a.p.length+p.length)*(Ga a.p+Ga p+(a.p.length+p.length)+8));have cst:=Q8s ha hp;rw [show Qz6 p a=n from hn.symm] at cst;rw [<-hn] at u1;have hnb:n<=17179938816+200000000:=by
  have l1:=ha.p.l;have l2:=hp.l;have b1:=ha.lo.1;have b2:=ha.hi.1;have s1:Ga a.p<=16777216:=by have:=Pf ha.p.b a.p.length; rwa [Q4] at this
  have s2:Ga p<=16777216:=by have:=Pf hp.b p.length; rwa [Q4] at this
  have:4*(a.p.length+p.length)*(Ga a.p+Ga p+(a.p.length+p.length)+8)<=512*33554568:=Zx (by omega) (by omega);omega
 refine Gm Tryz.func219 rfl ?_;refine go tt [.c [] cn,.c [] ca,.f (by simpa using h0),.c [] pa,.f h1,.c [] cg] rfl trivial ?_;refine ct 2 (S:=Unit) (λ_=>[(3,.v (.one (.ow 0 0))),(0,.v (pr p))]) (λ_=>[.blk 79 (ta a)]) (λ_=>True) rfl ?_ ?_
 ·by_cases G1:1<g.length
  ·exact go tt [.c [] (Mz g),.g 29 true (by simp; omega),.c [] ch,.f (by simpa using λh=>G ⟨G1,h⟩)] rfl trivial (rc () trivial rfl)
  ·exact go tt [.c [] (Mz g),.g 29 false (by simp; omega),.f rfl] rfl trivial (rc () trivial rfl)
 rintro _ _
 refine go tt [.c [] (Q7x hp c1),.c [] cst] rfl trivial ?_;refine lp (S:=Nat×Tm) 1 (λL1 s=>(46,.v (.one (.int .i64 (s.1:Int))))::L1) (λs=>[.blk 79 (ta s.2)]) (λs=>n-s.1) (λs=>s.1<=n/\Tb s.2/\sgF c (n-s.1) s.2=some u) (0,a) ⟨Qh _,ha,u1⟩ rfl (λ_ _=>rfl) rfl λ⟨i,x⟩ ⟨j1,j2,j3⟩=>?_
 dsimp only at j1 j2 j3 ⊢;by_cases hi:i<n
 ·obtain ⟨k,hk⟩:∃ k,n-i=k+1:=⟨n-i-1,by omega⟩;have hk':n-(i+1)=k:=by omega
  rw [hk] at j3;simp only [sgF] at j3;have px:=Ci j2;have cb:=Qm9 (by omega) call j2.lo j2.hi;have hlt:decide ((i:Int)<(n:Int))=true:=by simp; omega
  by_cases X:x.point=true
  ·rw [if_pos (.inl X)] at j3;injection j3 with j3; subst j3;exact en tt [.t hlt,.c [] px,.g 50 true X,.t rfl,.c [] (Qid hp j2.hi)] rfl rfl trivial
  ·have X':x.point=false:=by simpa using X
   by_cases Z:Hd c x.lo x.hi=0
   ·rw [if_pos (.inr Z)] at j3;injection j3 with j3; subst j3;exact en tt [.t hlt,.c [] px,.g 50 false X',.c [] cb,.t (by simpa using Z),.c [] (Qid hp j2.hi)] rfl rfl trivial
   ·rw [if_neg (by rintro (h | h); exact X h; exact Z h)] at j3;obtain ⟨v,v1,v2⟩:=Qf.1 j3;refine go tt [.t hlt,.c [] px,.g 50 false X',.c [] cb,.f (by simpa using Z),.c [] (Qxl j2 v1)] rfl (by simp [Ui]; omega) ?_;exact rd (i+1,v) (by dsimp only; omega) ⟨hi,Qsd j2 v1,by dsimp only; rw [hk']; exact v2⟩ rfl
 ·obtain rfl:i=n:=by omega
  rw [Yl] at j3;simp only [sgF] at j3;injection j3 with j3; subst j3;exact en tt [.f (by simp),.c [] (Qid hp j2.hi)] rfl rfl trivial
abbrev tas (l:List Tm):LV:=.row (l.map λt=>ta t)
theorem Qjk {l:List Tm} {i:Nat} {t:Tm} (h:l[i]? = some t):(l.map λt=>ta t)[i]? = some (ta t):=Gh h
def zTr:List LV:=[.row [],.bool false,.row [],.bool false,.row [],.bool false,.row [],.bool false,.row []]
theorem Q7k:Uk Tryz.prog 72 [.one (.row [])] [.agg zTr,.one (.bool false)]:=w tt Tryz.func72 rfl [.t rfl] rfl rfl trivial
theorem Af {b:Tm} {l:List Tm} {m:Tm} (hb:Tb b) (hl:∀ t∈l,Tb t) (hn:l.length≤1000000) (h:I4 b l=some m):Uk Tryz.prog 72 [.one (tas (b::l))] [.agg (ta m),.one (.bool true)]:=by
 refine Gm Tryz.func72 rfl ?_;refine go tt [.f (by simp; omega),.x (i:=0) (xs:=ta b) rfl,.i 1] rfl (by simp [Ui]; exact ⟨rfl,λ_ _=>rfl⟩) ?_;refine lp (S:=Nat×Tm) 2 (λL1 s=>(17,.v (.one (.int .i64 (s.1:Int))))::L1) (λs=>[.blk 79 zTm,.blk 79 (ta s.2)]) (λs=>l.length-s.1) (λs=>s.1<=l.length/\Tb s.2/\I4 s.2 (l.drop s.1)=some m) (0,b) ⟨Qh _,hb,h⟩ rfl (λ_ _=>rfl) rfl λ⟨i,x⟩ ⟨j1,j2,j3⟩=>?_
 dsimp only at j1 j2 j3 ⊢;by_cases hi:i<l.length
 ·obtain ⟨a,ha⟩:=gxE (l:=l) (i:=i) hi;have hdr:l.drop i=a::l.drop (i+1):=by
   rw [Zl hi]; congr 1;have:=Qe hi; rw [ha] at this; injection this with this; exact this.symm
  rw [hdr] at j3;simp only [I4] at j3;obtain ⟨c,c1,j3⟩:=Qf.1 j3;have ta':=hl a (Qa ha);by_cases hc:c<0
  ·rw [if_pos hc] at j3;refine go tt [.t (by simp; omega),.x (Qjk ha),.c [] (Qjw ta' j2 c1),.t (by simpa using hc)] rfl (by simp [Ui]; omega) ?_;exact rd (i+1,a) (by dsimp only; omega) ⟨hi,ta',j3⟩ rfl
  ·rw [if_neg hc] at j3;refine go tt [.t (by simp; omega),.x (Qjk ha),.c [] (Qjw ta' j2 c1),.f (by simpa using hc)] rfl (by simp [Ui]; omega) ?_;exact rd (i+1,x) (by dsimp only; omega) ⟨hi,j2,j3⟩ rfl
 ·obtain rfl:i=l.length:=by omega
  rw [Vz] at j3;simp only [I4] at j3;injection j3 with j3; subst j3;exact en tt [.f (by simp),.c [] (Q8t j2)] rfl rfl trivial
end Orr
