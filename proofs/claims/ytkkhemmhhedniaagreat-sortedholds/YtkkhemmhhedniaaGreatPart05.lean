/- R4 RefPL CrvL CrowdL PredL CertL Y1 Y2 Q1 C1 C2 D1 E1 AlgL F1 F2 F3 F4 F5 -/
import Derived.Test.YtkkhemmhhedniaaGreatPart04
import Derived.Test.YtkkhemmhhedniaaGreatPart00
set_option linter.all false
namespace Orr
open Go Go.Proofs
set_option maxRecDepth 10000
theorem Zda {a b:Int} (h:(decide (a<0) == decide (b<0))=true):Uj (decide (a<0)) (a.natAbs+b.natAbs)=a+b:=by
 unfold Uj;by_cases h1:a<0 <;> by_cases h2:b<0 <;> simp [h1,h2] at h ⊢ <;> omega
theorem Zdd {a b:Int} (h:¬(decide (a<0) == decide (b<0))=true) (hl:b.natAbs<=a.natAbs):Uj (decide (a<0)) (a.natAbs-b.natAbs)=a+b:=by
 unfold Uj;by_cases h1:a<0 <;> by_cases h2:b<0 <;> simp [h1,h2] at h ⊢ <;> omega
theorem Q72 {a b:Int} (h:¬(decide (a<0) == decide (b<0))=true) (hl:¬b.natAbs<=a.natAbs):Uj (decide (b<0)) (b.natAbs-a.natAbs)=a+b:=by
 unfold Uj;by_cases h1:a<0 <;> by_cases h2:b<0 <;> simp [h1,h2] at h ⊢ <;> omega
theorem Qab (a:Int):(∃ m:Nat,a=(m:Int))\/∃ m:Nat,a=-(m:Int)/\0<m:=by
 rcases Kq a 0 with h | h
 ·exact .inr ⟨a.natAbs,by omega,by omega⟩
 ·exact .inl ⟨a.natAbs,by omega⟩
theorem Zdc (a b:Int):Uj (!(decide (a<0) == decide (b<0))) (a.natAbs*b.natAbs)=a*b:=by
 rcases Qab a with ⟨m,rfl⟩ | ⟨m,rfl,hm⟩ <;> rcases Qab b with ⟨n,rfl⟩ | ⟨n,rfl,hn⟩
 ·simp [Uj,show ¬((m:Int)<0) by omega,show ¬((n:Int)<0) by omega]
 ·simp [Uj,show ¬((m:Int)<0) by omega,show (-(n:Int)<0) by omega,hn,Vu]
 ·simp [Uj,show (-(m:Int)<0) by omega,show ¬((n:Int)<0) by omega,hm,Y6]
 ·simp [Uj,show (-(m:Int)<0) by omega,show (-(n:Int)<0) by omega,hm,hn,Wx]
theorem Zdb {a b:Int} (h:a % b=0):Uj (!(decide (a<0) == decide (b<0))) (a.natAbs / b.natAbs)=a / b:=by
 by_cases hb:b=0
 ·subst hb; simp [Uj]
 obtain ⟨c,rfl⟩:=Yf h;rw [Xv _ hb,Jt,Nat.mul_div_cancel_left _ (by omega)];rcases Qab b with ⟨n,rfl⟩ | ⟨n,rfl,hn⟩ <;> rcases Qab c with ⟨m,rfl⟩ | ⟨m,rfl,hm⟩
 ·have:¬((n:Int)*(m:Int)<0):=by rw [<-Yz]; omega
  simp [Uj,this,show ¬((n:Int)<0) by omega]
 ·have h1:0<n*m:=J4 (by omega) hm;have:((n:Int)*-(m:Int)<0):=by rw [Vu,<-Yz]; omega
  simp only [this,show ¬((n:Int)<0) by omega];simp [Uj]
 ·by_cases h0:m=0
  ·subst h0; simp [Uj]
  ·have h1:0<n*m:=J4 hn (by omega);have:(-(n:Int)*(m:Int)<0):=by rw [Y6,<-Yz]; omega
   simp only [this,show (-(n:Int)<0) by omega];simp [Uj]
 ·have:¬(-(n:Int)*-(m:Int)<0):=by rw [Wx,<-Yz]; omega
  simp only [this,show (-(n:Int)<0) by omega];simp [Uj]
theorem Q79 (a b:Int):Int.sign (a-b)=Mj a b:=by
 unfold Mj;rcases Jx a b with h | h | h
 ·rw [if_pos h,X2 (by omega)]
 ·rw [if_neg (by omega),if_neg (by omega),h,Int.sub_self]; rfl
 ·rw [if_neg (by omega),if_pos h,Jb (by omega)]
theorem Qw3 {x y:Nat}:0<=A5 x y↔y<=x:=by
 unfold A5;constructor
 ·intro h; split at h
  ·omega
  ·omega
 ·intro h; split
  ·omega
  ·split <;> omega
theorem Qhl {x e:Nat} (h:(U0 x).length=1) (he:(U0 x)[0]? = some e):x=e:=by
 rcases hd:U0 x with _ | ⟨u,l⟩
 ·rw [hd] at h; cases h
 ·rcases l with _ | ⟨w,l⟩
  ·rw [hd] at he; simp at he;have:=G6 x;rw [hd] at this; simp [Hr] at this; omega
  ·rw [hd] at h; simp at h
theorem Qt4 {a b:Int} (hb:0<b):ri (a / ((Int.gcd a b:Nat):Int))++ri (b / ((Int.gcd a b:Nat):Int))=fr (Rat.divInt a b):=by
 obtain ⟨h1,h2⟩:=Qns (n:=a) hb;rw [Mq,Int.gcd_comm] at h1 h2;rw [h1,h2]
theorem Qt5 (a:Int):ri a++ri 1=fr (Rat.divInt a 1):=by
 have h:=Qt4 (a:=a) (b:=1) (by decide);rw [show ((Int.gcd a 1:Nat):Int)=1 by simp] at h;simpa using h
theorem Qkz {a b:Int} (hb:b≠0) (ha2:Ul a<=90000000) (hb2:Ul b<=90000000):Ul ((Int.gcd a b:Nat):Int)<=90000000/\((Int.gcd a b:Nat):Int)≠0/\a % ((Int.gcd a b:Nat):Int)=0/\b % ((Int.gcd a b:Nat):Int)=0:=by
 have h1:=Qxw (n:=a) hb hb2;have h2:=Qqg (n:=a) hb;have h3:=Qh7 a b;have h4:=Qh8 a b;rw [Mq,Int.gcd_comm] at h1 h2 h3 h4;exact ⟨h1,by omega,h3,h4⟩
theorem Qls {a b:Int} (h:b<0):Fg a b=Rat.divInt (-a) (-b):=by
 unfold Fg; rw [if_neg (by omega)];exact (Rat.neg_divInt_neg a b).symm
theorem O8 {a b:Int} (h:0<b):Fg a b=Rat.divInt a b:=by
 unfold Fg; rw [if_neg (by omega)]
theorem Qj2 (a b:Rat):Fg (a.num*(b.den:Int)+b.num*(a.den:Int)) ((a.den:Int)*(b.den:Int))=a+b:=by
 unfold Fg;rw [if_neg (Jg (P7 a) (P7 b)),<-Rat.divInt_add_divInt _ _ (P7 a) (P7 b),Zp,Zp]
theorem Qla (a b:Rat):Fg (a.num*b.num) ((a.den:Int)*(b.den:Int))=a*b:=by
 unfold Fg;rw [if_neg (Jg (P7 a) (P7 b)),<-Km,Zp,Zp]
theorem Qlr {a b:Rat} (h:b≠0):Fg (a.num*(b.den:Int)) ((a.den:Int)*b.num)=a / b:=by
 have hn:b.num≠0:=λe=>h (Rat.num_eq_zero.1 e)
 unfold Fg;rw [if_neg (Jg (P7 a) hn),<-Km,Zp,Js];congr 1
 conv=>rhs; rw [<-Zp b,Rat.inv_divInt]
theorem Zg8 {s:Nat} {a b:Rat} (ha:Qs s a) (hb:Qs s b):Qs (2*s+1) (a+b):=by
 rw [<-Qj2];unfold Fg;rw [if_neg (Jg (P7 a) (P7 b))];refine Qs.divInt (Qa (Ag _ _) ?_) (Qa (Uv _ _) (by have:=ha.2; have:=hb.2; omega)) (by omega);have h1:=Uv a.num (b.den:Int);have h2:=Uv b.num (a.den:Int);have:=ha.1; have:=ha.2; have:=hb.1; have:=hb.2;omega
theorem Qdn {z:Int} (hz:Ul z<=100000000):Ub Tryz.prog 56 [.agg (Ft z)] [.agg (ri z)]:=by
 have hl:(Ux z.natAbs).length<=1099511627776:=by have h2:32*(Ux z.natAbs).length<=100000000+31:=H5 hz; omega
 have h:=Q9x (l:=Ux z.natAbs) (λu hu=>(Nv _).1 u hu) hl (by rw [Fi]; exact hz);rw [Fi] at h;have hm:=Dy (decide (z<0)) z.natAbs;have e:Uj (decide (z<0)) z.natAbs=z:=by unfold Uj; by_cases h:z<0 <;> simp [h] <;> omega
 rw [e] at hm;exact w tt Tryz.func56 rfl [.c [] h,.c [] hm] rfl rfl trivial
theorem Qwq {z:Int}:Ub Tryz.prog 166 [.agg (ri z)] [.one (.int .i64 (Int.sign z))]:=by
 have hn:=Qby (x:=z.natAbs);have hl:=Qa1 z.natAbs;rcases Jx z 0 with h | h | h
 ·rw [X2 h];exact w tt Tryz.func166 rfl [.f (by simp only [Hf]; exact decide_eq_false (by omega)),.t (decide_eq_true h)] rfl rfl trivial
 ·subst h;exact w tt Tryz.func166 rfl [.t (by simp only [Hf]; show decide (((U0 0).length:Int)=0)=true; rw [Gd]; rfl)] rfl rfl trivial
 ·rw [Jb h];exact w tt Tryz.func166 rfl [.f (by simp only [Hf]; exact decide_eq_false (by omega)),.f (decide_eq_false (by omega))] rfl rfl trivial
theorem Qtj {a b:Int} (ha:Ul a<=200000000) (hb:Ul b<=200000000):Ub Tryz.prog 168 [.agg (ri a),.agg (ri b)] [.agg (ri (a+b))]:=by
 by_cases hs:(decide (a<0) == decide (b<0))=true
 ·have cm:=Dy (decide (a<0)) (a.natAbs+b.natAbs);rw [Zda hs] at cm;exact w tt Tryz.func168 rfl [.t hs,.c [] (Zfm ha hb),.c [] cm] rfl rfl trivial
 ·have hs':(decide (a<0) == decide (b<0))=false:=by simpa using hs
  by_cases hl:b.natAbs<=a.natAbs
  ·have cm:=Dy (decide (a<0)) (a.natAbs-b.natAbs);rw [Zdd hs hl] at cm;exact w tt Tryz.func168 rfl [.f hs',.c [] (Qs7 ha hb),.t (decide_eq_true (Qw3.2 hl)),.c [] (Qti ha hb hl),.c [] cm] rfl rfl trivial
  ·have cm:=Dy (decide (b<0)) (b.natAbs-a.natAbs);rw [Q72 hs hl] at cm;exact w tt Tryz.func168 rfl [.f hs',.c [] (Qs7 ha hb),.f (decide_eq_false λh=>hl (Qw3.1 h)),.c [] (Qti hb ha (by omega)),.c [] cm] rfl rfl trivial
theorem Q3d {a b:Int} (ha:Ul a<=200000000) (hb:Ul b<=200000000):Ub Tryz.prog 170 [.agg (ri a),.agg (ri b)] [.agg (ri (a-b))]:=by
 have ca:=Qtj (a:=a) (b:=-b) ha (by rw [Fy]; exact hb);rw [show a+-b=a-b from by omega] at ca;exact w tt Tryz.func170 rfl [.c [] (Ev (z:=b)),.c [] ca] rfl rfl trivial
theorem So {a b:Int} (ha:Ul a<=200000000) (hb:Ul b<=200000000):Ub Tryz.prog 55 [.agg (ri a),.agg (ri b)] [.agg (ri (a*b))]:=by
 have cm:=Dy (!(decide (a<0) == decide (b<0))) (a.natAbs*b.natAbs);rw [Zdc] at cm;exact w tt Tryz.func55 rfl [.c [] (Zfq ha hb),.c [] cm] rfl rfl trivial
theorem Zfw {a b:Int} (ha:Ul a<=200000000) (hb:Ul b<=200000000):Ub Tryz.prog 96 [.agg (ri a),.agg (ri b)] [.one (.int .i64 (Mj a b))]:=by
 have h:=Qwq (z:=a-b);rw [Q79] at h;exact w tt Tryz.func96 rfl [.c [] (Q3d ha hb),.c [] h] rfl rfl trivial
theorem Qdp {a b:Int} (ha:Ul a<=90000000) (hb:Ul b<=90000000) (h0:b≠0) (hd:a % b=0):Ub Tryz.prog 134 [.agg (ri a),.agg (ri b)] [.agg (ri (a / b))]:=by
 have cm:=Dy (!(decide (a<0) == decide (b<0))) (a.natAbs / b.natAbs);rw [Zdb hd] at cm;exact w tt Tryz.func134 rfl [.c [] (Q2e ha hb (by omega)),.c [] cm] rfl rfl trivial
theorem Zhc (x:Nat):ri ((x:Nat):Int)=[nd x,.bool false]:=by
 unfold ri sg;rw [Zx,decide_eq_false (by omega)]
theorem Qha {a b:Int} (ha:Ul a<=90000000) (hb:Ul b<=90000000):Ub Tryz.prog 133 [.agg (ri a),.agg (ri b)] [.agg (ri ((Int.gcd a b:Nat):Int))]:=by
 rw [Zhc];refine Gl Tryz.func133 rfl ?_;refine go tt [] rfl trivial ?_;refine lp (S:=Nat×Nat) 3 (λL1 s=>(5,.v (.one (nd s.1)))::(6,.v (.one (nd s.2)))::L1) (λ_=>[.blk 33 (ri a),.blk 33 (ri b),.blk 33 [.nils,.bool false]]) (λs=>s.2) (λs=>Nat.gcd s.1 s.2=Int.gcd a b/\sz s.1<=90000000/\sz s.2<=90000000) (a.natAbs,b.natAbs) ⟨rfl,ha,hb⟩ rfl (λ_ _=>rfl) rfl λs hs=>?_
 obtain ⟨x,y⟩:=s;obtain ⟨hp0,hp1,hp2⟩:=hs;dsimp only at hp0 hp1 hp2 ⊢;have hyn:=Qby (x:=y);have hyl:=Qa1 y;by_cases h1:y=0
 ·have e:Int.gcd a b=x:=by rw [<-hp0,h1,Nat.gcd_zero_right]
  rw [e];exact en tt [.f (by simp only [Hf]; exact decide_eq_false (by omega))] rfl rfl trivial
 ·have hlt:=Xb x (show 0<y by omega);refine go tt [.t (by simp only [Hf]; exact decide_eq_true (by omega)),.c [] (Q2e hp1 hp2 (by omega))] rfl trivial ?_;exact rd (y,x % y) (by dsimp only; omega) ⟨by dsimp only; rw [<-hp0,Nat.gcd_comm x y,Nat.gcd_rec y x,Nat.gcd_comm],hp2,Nat.le_trans (Hn (by dsimp only; omega)) hp2⟩ rfl
theorem Oo {a b:Int} (ha:Ul a<=90000000) (hb:Ul b<=90000000):Ub Tryz.prog 68 [.agg (ri a),.agg (ri b)] [.agg (fr (Fg a b))]:=by
 rcases Jx b 0 with hs | hs | hs
 ·skip
  by_cases h1:-b=1
  ·have h0:(Me (U0 (-b).natAbs))[0]? = some [LV.int .i64 1]:=by rw [h1,show (1:Int).natAbs=1 from rfl,D7]; rfl
   have hl1:decide (((Me (U0 (-b).natAbs)).length:Int)=1)=true:=by rw [h1,show (1:Int).natAbs=1 from rfl,D7]; rfl
   have e:fr (Fg a b)=ri (-a)++ri (-b):=by rw [Qls hs,h1]; exact (Qt5 _).symm
   rw [e];exact w tt Tryz.func68 rfl [.c [] (Py (z:=b)),.f (decide_eq_false (by omega)),.t (decide_eq_true hs),.c [] (Ev (z:=a)),.c [] (Ev (z:=b)),.g 19 true hl1,.x h0,.t rfl] rfl rfl trivial
  ·have hgf:=Qkz (a:=-a) (b:=-b) (by omega) (by first | exact ha | (rw [Fy]; exact ha)) (by first | exact hb | (rw [Fy]; exact hb));have cg:=Qha (a:=-a) (b:=-b) (by first | exact ha | (rw [Fy]; exact ha)) (by first | exact hb | (rw [Fy]; exact hb));have q1:=Qdp (a:=-a) (b:=((Int.gcd (-a) (-b):Nat):Int)) (by first | exact ha | (rw [Fy]; exact ha)) hgf.1 hgf.2.1 hgf.2.2.1;have q2:=Qdp (a:=-b) (b:=((Int.gcd (-a) (-b):Nat):Int)) (by first | exact hb | (rw [Fy]; exact hb)) hgf.1 hgf.2.1 hgf.2.2.2;have e:fr (Fg a b)=ri ((-a) / ((Int.gcd (-a) (-b):Nat):Int))++ri ((-b) / ((Int.gcd (-a) (-b):Nat):Int)):=by rw [Qls hs]; exact (Qt4 (by omega)).symm
   rw [e];have hl:=Qa1 (-b).natAbs;by_cases hl1:(U0 (-b).natAbs).length=1
   ·obtain ⟨u,hu⟩:=gxE (l:=(U0 (-b).natAbs)) (i:=0) (by omega);have hue:=Qhl hl1 hu;exact w tt Tryz.func68 rfl [.c [] (Py (z:=b)),.f (decide_eq_false (by omega)),.t (decide_eq_true hs),.c [] (Ev (z:=a)),.c [] (Ev (z:=b)),.g 19 true (by simp only [Hf]; exact decide_eq_true (by omega)),.x (Fj hu),.f (decide_eq_false (by omega)),.c [] cg,.c [] q1,.c [] q2] rfl rfl trivial
   ·exact w tt Tryz.func68 rfl [.c [] (Py (z:=b)),.f (decide_eq_false (by omega)),.t (decide_eq_true hs),.c [] (Ev (z:=a)),.c [] (Ev (z:=b)),.g 19 false (by simp only [Hf]; exact decide_eq_false (by omega)),.f rfl,.c [] cg,.c [] q1,.c [] q2] rfl rfl trivial
 ·subst hs;have h0:(Me (U0 (1:Int).natAbs))[0]? = some [LV.int .i64 1]:=by rw [show (1:Int).natAbs=1 from rfl,D7]; rfl
  have h1:decide (((Me (U0 (1:Int).natAbs)).length:Int)=1)=true:=by rw [show (1:Int).natAbs=1 from rfl,D7]; rfl
  have e:fr (Fg a 0)=ri a++ri 1:=(Qt5 a).symm;rw [e];exact w tt Tryz.func68 rfl [.c [] (Py (z:=0)),.t rfl,.c [] (Cc (n:=1) (by decide)),.f rfl,.g 19 true h1,.x h0,.t rfl] rfl rfl trivial
 ·skip
  by_cases h1:b=1
  ·have h0:(Me (U0 (b).natAbs))[0]? = some [LV.int .i64 1]:=by rw [h1,show (1:Int).natAbs=1 from rfl,D7]; rfl
   have hl1:decide (((Me (U0 (b).natAbs)).length:Int)=1)=true:=by rw [h1,show (1:Int).natAbs=1 from rfl,D7]; rfl
   have e:fr (Fg a b)=ri (a)++ri (b):=by rw [O8 hs,h1]; exact (Qt5 _).symm
   rw [e];exact w tt Tryz.func68 rfl [.c [] (Py (z:=b)),.f (decide_eq_false (by omega)),.f (decide_eq_false (by omega)),.g 19 true hl1,.x h0,.t rfl] rfl rfl trivial
  ·have hgf:=Qkz (a:=a) (b:=b) (by omega) (by first | exact ha | (rw [Fy]; exact ha)) (by first | exact hb | (rw [Fy]; exact hb));have cg:=Qha (a:=a) (b:=b) (by first | exact ha | (rw [Fy]; exact ha)) (by first | exact hb | (rw [Fy]; exact hb));have q1:=Qdp (a:=a) (b:=((Int.gcd (a) (b):Nat):Int)) (by first | exact ha | (rw [Fy]; exact ha)) hgf.1 hgf.2.1 hgf.2.2.1;have q2:=Qdp (a:=b) (b:=((Int.gcd (a) (b):Nat):Int)) (by first | exact hb | (rw [Fy]; exact hb)) hgf.1 hgf.2.1 hgf.2.2.2;have e:fr (Fg a b)=ri ((a) / ((Int.gcd (a) (b):Nat):Int))++ri ((b) / ((Int.gcd (a) (b):Nat):Int)):=by rw [O8 hs]; exact (Qt4 (by omega)).symm
   rw [e];have hl:=Qa1 (b).natAbs;by_cases hl1:(U0 (b).natAbs).length=1
   ·obtain ⟨u,hu⟩:=gxE (l:=(U0 (b).natAbs)) (i:=0) (by omega);have hue:=Qhl hl1 hu;exact w tt Tryz.func68 rfl [.c [] (Py (z:=b)),.f (decide_eq_false (by omega)),.f (decide_eq_false (by omega)),.g 19 true (by simp only [Hf]; exact decide_eq_true (by omega)),.x (Fj hu),.f (decide_eq_false (by omega)),.c [] cg,.c [] q1,.c [] q2] rfl rfl trivial
   ·exact w tt Tryz.func68 rfl [.c [] (Py (z:=b)),.f (decide_eq_false (by omega)),.f (decide_eq_false (by omega)),.g 19 false (by simp only [Hf]; exact decide_eq_false (by omega)),.f rfl,.c [] cg,.c [] q1,.c [] q2] rfl rfl trivial
theorem Zd6 {n d:Int} (hn:-1000000000<=n/\n<=1000000000) (hd:-1000000000<=d/\d<=1000000000):Ub Tryz.prog 112 [.one (.int .i64 n),.one (.int .i64 d)] [.agg (fr (Fg n d))]:=by
 have b1:Ul n<=90000000:=Qa (H7.2 (show n.natAbs<2^40 by omega)) (by decide);have b2:Ul d<=90000000:=Qa (H7.2 (show d.natAbs<2^40 by omega)) (by decide);exact w tt Tryz.func112 rfl [.c [] (Cc (by omega)),.c [] (Cc (by omega)),.c [] (Oo b1 b2)] rfl rfl trivial
theorem Zfs {a:Rat}:Ub Tryz.prog 67 [.agg (fr a)] [.agg (fr (-a))]:=by
 have e:fr (-a)=ri (-a.num)++ri (a.den:Int):=rfl;rw [e];exact w tt Tryz.func67 rfl [.c [] (Ev (z:=a.num))] rfl rfl trivial
theorem Qs5 {a b:Rat} (ha:Qs 20000000 a) (hb:Qs 20000000 b):Ub Tryz.prog 169 [.agg (fr a),.agg (fr b)] [.agg (fr (a+b))]:=by
 have k1:=Uv a.num (b.den:Int);have k2:=Uv b.num (a.den:Int);have k3:=Uv (a.den:Int) (b.den:Int);have k4:=Ag (a.num*(b.den:Int)) (b.num*(a.den:Int));have h1:=ha.1; have h2:=ha.2; have h3:=hb.1; have h4:=hb.2;have cm:=Oo (a:=a.num*(b.den:Int)+b.num*(a.den:Int)) (b:=(a.den:Int)*(b.den:Int)) (by omega) (by omega);rw [Qj2] at cm;exact w tt Tryz.func169 rfl [.c [] (So (a:=a.num) (b:=(b.den:Int)) (by omega) (by omega)),.c [] (So (a:=b.num) (b:=(a.den:Int)) (by omega) (by omega)),.c [] (Qtj (by omega) (by omega)),.c [] (So (a:=(a.den:Int)) (b:=(b.den:Int)) (by omega) (by omega)),.c [] cm] rfl rfl trivial
theorem Qta {a b:Rat} (ha:Qs 40000000 a) (hb:Qs 40000000 b):Ub Tryz.prog 139 [.agg (fr a),.agg (fr b)] [.agg (fr (a*b))]:=by
 have k1:=Uv a.num b.num;have k3:=Uv (a.den:Int) (b.den:Int);have h1:=ha.1; have h2:=ha.2; have h3:=hb.1; have h4:=hb.2;have cm:=Oo (a:=a.num*b.num) (b:=(a.den:Int)*(b.den:Int)) (by omega) (by omega);rw [Qla] at cm;exact w tt Tryz.func139 rfl [.c [] (So (a:=a.num) (b:=b.num) (by omega) (by omega)),.c [] (So (a:=(a.den:Int)) (b:=(b.den:Int)) (by omega) (by omega)),.c [] cm] rfl rfl trivial
theorem Qtd {a b:Rat} (ha:Qs 40000000 a) (hb:Qs 40000000 b) (h0:b≠0):Ub Tryz.prog 207 [.agg (fr a),.agg (fr b)] [.agg (fr (a / b))]:=by
 have k1:=Uv a.num (b.den:Int);have k3:=Uv (a.den:Int) b.num;have h1:=ha.1; have h2:=ha.2; have h3:=hb.1; have h4:=hb.2;have cm:=Oo (a:=a.num*(b.den:Int)) (b:=(a.den:Int)*b.num) (by omega) (by omega);rw [Qlr h0] at cm;exact w tt Tryz.func207 rfl [.c [] (So (a:=a.num) (b:=(b.den:Int)) (by omega) (by omega)),.c [] (So (a:=(a.den:Int)) (b:=b.num) (by omega) (by omega)),.c [] cm] rfl rfl trivial
theorem Cg {a b:Rat} (ha:Qs 40000000 a) (hb:Qs 40000000 b):Ub Tryz.prog 30 [.agg (fr a),.agg (fr b)] [.one (.int .i64 (U7 a b))]:=by
 have k1:=Uv a.num (b.den:Int);have k2:=Uv b.num (a.den:Int);have h1:=ha.1; have h2:=ha.2; have h3:=hb.1; have h4:=hb.2;exact w tt Tryz.func30 rfl [.c [] (So (a:=a.num) (b:=(b.den:Int)) (by omega) (by omega)),.c [] (So (a:=b.num) (b:=(a.den:Int)) (by omega) (by omega)),.c [] (Zfw (a:=a.num*(b.den:Int)) (b:=b.num*(a.den:Int)) (by omega) (by omega))] rfl rfl trivial
end Orr
namespace Orr
def Nn:List Rat->List Rat
 | []=>[]
 |
  x::l=>match Nn l with
  | []=>if x=0 then [] else [x]
  | y::k=>x::y::k
theorem Oe:∀ {l:List Rat},(∀ x∈l,x=0)->Nn l=[]
 | [],_=>rfl
 |
  x::l,h=>by
  have ih:=Oe (l:=l) (λy hy=>h y (Qj _ hy));simp [Nn,ih,h x (Qt ..)]
theorem Qi4:∀ {l:List Rat} {m:Nat} {y:Rat},(∀ j x,m<j->l[j]? = some x->x=0)->l[m]? = some y->y≠0->Nn l=l.take (m+1)
 | [],m,y,_,h,_=>by simp at h
 |
  x::l,0,y,h1,h2,h3=>by
  have h0:Nn l=[]:=Oe λz hz=>by
   obtain ⟨j,hj⟩:=Zc.1 hz;exact h1 (j+1) z (by omega) (by simpa using hj)
  simp at h2;subst h2;simp [Nn,h0,h3]
 |
  x::l,m+1,y,h1,h2,h3=>by
  have ih:=Qi4 (l:=l) (m:=m) (y:=y) (λj z hj hz=>h1 (j+1) z (by omega) (by simpa using hz)) (by simpa using h2) h3;cases hl:l with
  | nil=>subst hl; simp at h2
  |
   cons u k =>
   subst hl;rw [J0] at ih;simp only [Nn] at ih ⊢;rw [ih];simp
theorem Qes {l:List Rat} {m:Nat} (hm:m<=l.length) (h1:∀ j x,m<=j->l[j]? = some x->x=0) (h2:0<m->∃ y,l[m-1]? = some y/\y≠0):Nn l=l.take m:=by
 rcases Qx m with h0 | h0
 ·subst h0;rw [Oe λz hz=>?_]; rfl;obtain ⟨j,hj⟩:=Zc.1 hz;exact h1 j z (by omega) hj
 ·obtain ⟨y,hy,hy0⟩:=h2 h0;have:=Qi4 (l:=l) (m:=m-1) (y:=y) (λj x hj hx=>h1 j x (by omega) hx) hy hy0;rwa [show m-1+1=m from by omega] at this
theorem Ql0:∀ (l:List Rat),∀ z∈Nn l,z∈l
 | [],z,h=>h
 |
  x::l,z,h=>by
  simp only [Nn] at h;have ih:=Ql0 l
  split at h
  ·split at h
   ·cases h
   ·simp at h; simp [h]
  ·rename_i y k e;rw [e] at ih;rcases Qq.1 h with h | h
   ·simp [h]
   ·exact Qj _ (ih z h)
theorem Qlz:∀ (l:List Rat),(Nn l).length<=l.length
 | []=>Qk _
 |
  x::l=>by
  have ih:=Qlz l;simp only [Nn]
  split
  ·split <;> simp
  ·rename_i y k e;rw [e] at ih;simp at ih ⊢; omega
def zp (p:List Int):List Rat:=p.map λ(z:Int)=>(z:Rat)
theorem Nc:∀ (p:List Int),Nn (zp p)=zp (trim p)
 | []=>rfl
 |
  x::l=>by
  have ih:=Nc l;unfold zp at ih ⊢;simp only [Zw,Nn,trim,ih];cases h:trim l with
  |
   nil =>
   simp only [Jf];by_cases hx:x=0
   ·subst hx; simp
   ·have:(x:Rat)≠0:=λe=>hx (by exact_mod_cast e)
    simp [hx,this]
  | cons y k=>simp
theorem T0 (p:List Int):(zp p).length=p.length:=Ze _
theorem Q88 {p:List Int} {i:Nat} {z:Int} (h:p[i]? = some z):(zp p)[i]? = some (z:Rat):=by simp [zp,h]
theorem Qdf (p:List Int) (i:Nat):(zp p).getD i 0=((p.getD i 0:Int):Rat):=by
 simp only [Qg,zp,Q7];cases p[i]? <;> rfl
def Rb (s:Nat) (p:List Rat):Prop:=∀ q∈p,Qs s q
theorem Rb.mono {s t:Nat} {p:List Rat} (h:Rb s p) (ht:s<=t):Rb t p:=λq hq=>(h q hq).mono ht
theorem Rb.get {s:Nat} {p:List Rat} (h:Rb s p) {i:Nat} {q:Rat} (hq:p[i]? = some q):Qs s q:=h q (Qc hq)
theorem B8 {s:Nat} {z:Int} (h:Ul z<=s) (h1:1<=s):Qs s (z:Rat):=⟨by simpa using h,Qa (show Ul ((1:Nat):Int)<=1 by decide) h1⟩
theorem Qas {s:Nat} {p:List Int} (h:Bd s p) (h1:1<=s):Rb s (zp p):=λq hq=>by
 obtain ⟨z,hz,rfl⟩:=Zr.1 hq;exact B8 (h z hz) h1
theorem Zct {s:Nat} (h1:1<=s):Qs s 0:=B8 (z:=0) (by simp [Pp]) h1
theorem Rb.getD {s:Nat} {p:List Rat} (h:Rb s p) (h1:1<=s) (i:Nat):Qs s (p.getD i 0):=by
 rw [Qg];cases e:p[i]? with
 | none=>exact Zct h1
 | some q=>exact h.get e
theorem Rb.trim {s:Nat} {p:List Rat} (h:Rb s p):Rb s (Nn p):=λq hq=>h q (Ql0 p q hq)
def A7 (f:Nat->Rat) (n:Nat):List Rat:=(List.range n).map f
theorem Qc4 (f:Nat->Rat) (n:Nat):(A7 f n).length=n:=by simp [A7]
theorem Ql5 (f:Nat->Rat) (n:Nat):A7 f (n+1)=A7 f n++[f n]:=by simp [A7,Kt]
theorem Zdl {s n:Nat} {f:Nat->Rat} (h:∀ i,i<n->Qs s (f i)):Rb s (A7 f n):=λq hq=>by
 obtain ⟨i,hi,rfl⟩:=Zr.1 hq;exact h i (V8.1 hi)
theorem Qgv {f:Nat->Rat} {g:Nat->Int} (n:Nat) (h:∀ i,i<n->f i=(g i:Rat)):A7 f n=zp ((List.range n).map g):=by
 simp only [A7,zp,List.map_map];exact Vw λi hi=>h i (V8.1 hi)
def Q06 (p q:List Rat):List Rat:=Nn (A7 (λi=>p.getD i 0+q.getD i 0) (max p.length q.length))
def Pk (p:List Rat) (c:Rat):List Rat:=Nn (A7 (λi=>p.getD i 0*c) p.length)
def Qok (p:List Rat):List Rat:=Pk p (-1)
def Q7s (p q:List Rat):List Rat:=Q06 p (Qok q)
theorem Zcu (p q:List Int):Q06 (zp p) (zp q)=zp (Qal p q):=by
 unfold Q06 Qal S9;rw [Qgv (g:=λk=>p.getD k 0+q.getD k 0) _ λi _=>by rw [Qdf,Qdf,V3],Nc,T0,T0]
theorem Qlx (p:List Int) (c:Int):Pk (zp p) (c:Rat)=zp (Uu p c):=by
 unfold Pk Uu S9;rw [Qgv (g:=λk=>p.getD k 0*c) _ λi _=>by rw [Qdf,Xy],Nc,T0]
theorem Qu0 (p:List Int):Uu p (-1)=Sv p:=by
 unfold Uu Sv S9;congr 2;funext k;omega
theorem Qyy (p:List Int):Qok (zp p)=zp (Sv p):=by
 rw [<-Qu0,<-Qlx]; rfl
theorem Ir {p q:List Int} (hp:Uf p) (hq:Uf q) (h:∀ k,p.getD k 0=q.getD k 0):p=q:=by
 have key:∀ {p q:List Int},Uf q->(∀ k,p.getD k 0=q.getD k 0)->q.length<=p.length:=by
  intro p q hq h;rcases Q5 p.length q.length with h1 | h1
  ·have h2:=Gh hq (by omega);rw [<-h,Qg,Qr (by omega)] at h2;exact (h2 rfl).elim
  ·exact h1
 exact Qhy (V2 (key hp λk=>(h k).symm) (key hq h)) λj _=>h j
theorem Qt0 {n m:Nat} {f g:Nat->Int} (hn:n<=m) (h:∀ k,k<n->f k=g k) (h0:∀ k,n<=k->k<m->g k=0):S9 n f=S9 m g:=by
 refine Ir (Us _ _) (Us _ _) λk=>?_
 rw [H4,H4];by_cases h1:k<n
 ·rw [if_pos h1,if_pos (by omega),h k h1]
 ·rw [if_neg h1];by_cases h2:k<m
  ·rw [if_pos h2,h0 k (by omega) h2]
  ·rw [if_neg h2]
theorem Qy3 (p q:List Int):Q7s (zp p) (zp q)=zp (Tj p q):=by
 unfold Q7s;rw [Qyy,Zcu];congr 1;have hl:=Di q;unfold Qal Tj;refine Qt0 (by omega) (λk _=>?_) λk h1 h2=>?_
 ·unfold Sv;rw [H4]
  split
  ·omega
  ·rename_i h;have:q.getD k 0=0:=by rw [Qg,Qr (by omega)]; rfl
   omega
 ·have h3:p.getD k 0=0:=by rw [Qg,Qr (by omega)]; rfl
  have h4:(Sv q).getD k 0=0:=by rw [Qg,Qr (by omega)]; rfl
  unfold Sv at h4;rw [H4] at h4
  split at h4
  ·omega
  ·have:q.getD k 0=0:=by rw [Qg,Qr (by omega)]; rfl
   omega
structure Crv where
 x:List Int
 y:List Int
 d:Int
abbrev cl (k:Crv):List LV:=[pl k.x,pl k.y,sg k.d,mg k.d]
def Crv.d' (k:Crv):Int:=if k.d=0 then 1 else k.d
def Crv.g (k:Crv):Int:=if k.d'<0 then -((Gm (k.d'::(trim k.x++trim k.y)):Nat):Int) else (Gm (k.d'::(trim k.x++trim k.y)):Nat)
def Crv.norm (k:Crv):Crv:=⟨trim ((trim k.x).map (· / k.g)),trim ((trim k.y).map (· / k.g)),k.d' / k.g⟩
theorem Iu {l:List Int}:∀ z∈l,((Gm l:Nat):Int)∣z:=by
 have key:∀ (l:List Int) (g:Nat),(l.foldl (λg z=>Nat.gcd g z.natAbs) g∣g)/\∀ z∈l,l.foldl (λg z=>Nat.gcd g z.natAbs) g∣z.natAbs:=by
  intro l
  induction l with
  | nil=>intro g; exact ⟨Nat.dvd_refl _,by simp⟩
  |
   cons u l ih =>
   intro g;obtain ⟨h1,h2⟩:=ih (Nat.gcd g u.natAbs);refine ⟨Nat.dvd_trans h1 (Kg _ _),λz hz=>?_⟩;rcases Qq.1 hz with rfl | hz
   ·exact Nat.dvd_trans h1 (Wm _ _)
   ·exact h2 z hz
 intro z hz;have:=(key l 0).2 z hz;exact Wa.2 this
theorem Crv.d'_ne (k:Crv):k.d'≠0:=by unfold Crv.d'; split <;> omega
theorem Crv.gcd_ne (k:Crv):Gm (k.d'::(trim k.x++trim k.y))≠0:=by
 intro e;have h:=Iu (l:=k.d'::(trim k.x++trim k.y)) k.d' (Qt ..);rw [e] at h;exact k.d'_ne (by simpa using h)
theorem Crv.g_ne (k:Crv):k.g≠0:=by
 have h0:=k.gcd_ne;unfold Crv.g
 split <;> omega
theorem Crv.g_dvd (k:Crv):∀ z∈k.d'::(trim k.x++trim k.y),z % k.g=0:=by
 intro z hz;have h:=Iu z hz;refine Ju ?_;unfold Crv.g
 split
 ·exact W6.2 h
 ·exact h
theorem Crv.isz_g (k:Crv) {s:Nat} (h:Ul k.d'<=s):Ul k.g<=s:=by
 have hd:=Iu (l:=k.d'::(trim k.x++trim k.y)) k.d' (Qt ..);have hle:Gm (k.d'::(trim k.x++trim k.y))<=k.d'.natAbs:=Vs (by have:=k.d'_ne; omega) (Wa.1 hd);refine Qa (Hn ?_) h;unfold Crv.g
 split <;> simp <;> exact hle
structure Cs (s n:Nat) (k:Crv):Prop where
 x:Bd s k.x
 y:Bd s k.y
 d:Ul k.d<=s
 lx:k.x.length<=n
 ly:k.y.length<=n
theorem Qnj {k:Crv} {s:Nat} (h:Ul k.d<=s) (h1:1<=s):Ul k.d'<=s:=by unfold Crv.d'; split <;> first | exact h1 | exact h
theorem Qdk {s:Nat} {p:List Int} (h:Bd s p) (g:Int):Bd s (p.map (· / g)):=λz hz=>by
 obtain ⟨u,hu,rfl⟩:=Zr.1 hz;exact Qa (Ix u g) (h u hu)
theorem Cs.norm {s n:Nat} {k:Crv} (h:Cs s n k) (h1:1<=s):Cs s n k.norm:=by
 refine ⟨H9 (Qdk (H9 h.x) _),H9 (Qdk (H9 h.y) _),Qa (Ix _ _) (Qnj h.d h1),?_,?_⟩
 ·refine Qa (G0 _) ?_; rw [Ze]; exact Qa (G0 _) h.lx
 ·refine Qa (G0 _) ?_; rw [Ze]; exact Qa (G0 _) h.ly
theorem Cs.mono {s n t m:Nat} {k:Crv} (h:Cs s n k) (hs:s<=t) (hn:n<=m):Cs t m k:=⟨W9 h.x hs,W9 h.y hs,Qa h.d hs,Qa h.lx hn,Qa h.ly hn⟩
def Nml (k:Crv):Prop:=Uf k.x/\Uf k.y/\0<k.d/\Gm (k.d::(k.x++k.y))=1
theorem Crv.norm_of {k:Crv} (h:Nml k):k.norm=k:=by
 obtain ⟨h1,h2,h3,h4⟩:=h;have hd:k.d'=k.d:=by unfold Crv.d'; rw [if_neg (by omega)]
 have hx:trim k.x=k.x:=h1;have hy:trim k.y=k.y:=h2;have hg:k.g=1:=by unfold Crv.g; rw [hd,hx,hy,h4,if_neg (by omega)]; rfl
 unfold Crv.norm;rw [hg,hd,hx,hy];simp [hx,hy]
theorem Qnc {l:List Int} {g:Int} (hg:g≠0) (hga:g.natAbs=Gm l):Gm (l.map (· / g))=1:=by
 have key:∀ (l:List Int) (a:Nat),(∀ z∈l,g∣z)->l.foldl (λa z=>Nat.gcd a z.natAbs) (a*g.natAbs)=((l.map (· / g)).foldl (λa z=>Nat.gcd a z.natAbs) a)*g.natAbs:=by
  intro l
  induction l with
  | nil=>intro a _; rfl
  |
   cons z l ih =>
   intro a h;simp only [Zw,Xi];have hz:z.natAbs=(z / g).natAbs*g.natAbs:=by
    obtain ⟨q,rfl⟩:=h z (Qt ..);rw [Xv _ hg,Jt,Zd]
   rw [hz,Nat.gcd_mul_right];exact ih _ λu hu=>h u (Qj _ hu)
 have h:=key l 0 λz hz=>Xj.1 (by rw [hga]; exact Xj.2 (Iu z hz))
 rw [Yp] at h;have h':Gm l=Gm (l.map (· / g))*g.natAbs:=h;rw [<-hga] at h';have hp:0<g.natAbs:=by omega
 exact Nat.eq_of_mul_eq_mul_right hp (by rw [K8]; exact h'.symm)
theorem Du {l:List Int} {g:Int} (ht:Uf l) (hg:g≠0) (hd:∀ z∈l,g∣z):Uf (l.map (· / g)):=by
 induction l with
 | nil=>rfl
 |
  cons x l ih =>
  have hne:∀ z∈x::l,z≠0->z / g≠0:=λz hz h0 h1=>by
   obtain ⟨q,rfl⟩:=hd z hz;rw [Xv _ hg] at h1;rw [h1] at h0; simp at h0
  unfold Uf at ht ih ⊢;cases hl:trim l with
  |
   nil =>
   simp only [trim,hl] at ht
   split at ht
   ·cases ht
   ·rename_i hx;injection ht with _ h2;subst h2;simp [trim,hne x (Qt ..) hx]
  |
   cons y k =>
   simp only [trim,hl] at ht;injection ht with _ h2;have hll:trim l=l:=by rw [hl]; exact h2
   have ih:=ih hll λz hz=>hd z (Qj _ hz)
   rw [Zw];have hne2:l.map (· / g)≠[]:=by rw [<-hll,hl]; simp
   cases hm:l.map (· / g) with
   | nil=>exact absurd hm hne2
   |
    cons u w =>
    rw [hm] at ih;have e:trim (x / g::u::w)=match trim (u::w) with | []=>if x / g=0 then [] else [x / g] | y::k=>x / g::y::k:=rfl
    rw [e,ih]
theorem Crv.nml (k:Crv):Nml k.norm:=by
 have hg:=k.g_ne;have hdv:∀ z∈k.d'::(trim k.x++trim k.y),k.g∣z:=λz hz=>Yf (k.g_dvd z hz)
 have hx:=Du (g:=k.g) (Gu k.x) hg λz hz=>hdv z (by simp [hz])
 have hy:=Du (g:=k.g) (Gu k.y) hg λz hz=>hdv z (by simp [hz])
 refine ⟨Gu _,Gu _,?_,?_⟩
 ·show 0<k.d' / k.g;obtain ⟨q,hq⟩:=hdv k.d' (Qt ..);have h0:=k.d'_ne;have hgc:=k.gcd_ne;have e:k.d' / k.g=q:=by rw [hq,Xv _ hg]
  rw [e];unfold Crv.g at hq hg;have hq0:q≠0:=λe=>by rw [e,Vg] at hq; exact h0 hq
  split at hq
  ·rename_i hneg;rcases K9 hq0 with h | h
   ·have:=V0 (a:=-((Gm (k.d'::(trim k.x++trim k.y)):Nat):Int)) (b:=q) (by omega) h;omega
   ·exact h
  ·rename_i hneg;rcases K9 hq0 with h | h
   ·have:=Vz (a:=((Gm (k.d'::(trim k.x++trim k.y)):Nat):Int)) (b:=q) (by omega) h;omega
   ·exact h
 ·show Gm (k.d' / k.g::(trim ((trim k.x).map (· / k.g))++trim ((trim k.y).map (· / k.g))))=1;rw [show trim ((trim k.x).map (· / k.g))=(trim k.x).map (· / k.g) from hx,show trim ((trim k.y).map (· / k.g))=(trim k.y).map (· / k.g) from hy,<-Ya,<-Zw (f:=(· / k.g))];refine Qnc hg ?_;unfold Crv.g
  split <;> omega
structure Pt where
 c:Crv
 id:Int
def P9 (p:Pt):List LV:=[pl p.c.x,pl p.c.y,sg p.c.d,mg p.c.d,.int .i64 p.id]
def pts (l:List Pt):LV:=.row (l.map P9)
def pos:List Pt->Int->Nat
 | [],_=>0
 | p::l,id=>if p.id<id then pos l id+1 else 0
def has (l:List Pt) (id:Int):Bool:=match l[pos l id]? with
 | some p=>decide (p.id=id)
 | none=>false
theorem Q6u (l:List Pt) (id:Int):pos l id<=l.length:=by
 induction l with
 | nil=>exact Qk _
 | cons p l ih=>simp only [pos]; split <;> simp <;> omega
theorem Quy:∀ {l:List Pt} {id:Int} {k:Nat},(∀ j p,j<k->l[j]? = some p->p.id<id)->(k=l.length\/∃ p,l[k]? = some p/\¬p.id<id)->pos l id=k
 |
  [],id,k,_,h=>by
  rcases h with h | ⟨p,h,_⟩
  ·subst h; rfl
  ·simp at h
 |
  q::l,id,0,_,h=>by
  rcases h with h | ⟨p,h,h2⟩
  ·simp at h
  ·simp at h; subst h; simp [pos,h2]
 |
  q::l,id,k+1,h1,h=>by
  have hq:=h1 0 q (by omega) rfl;simp only [pos,hq,if_true];rw [Quy (k:=k) (λj p hj hp=>h1 (j+1) p (by omega) (by simpa using hp))];rcases h with h | ⟨p,h,h2⟩
  ·left; simpa using h
  ·right; exact ⟨p,by simpa using h,h2⟩
def put (l:List Pt) (q:Pt):List Pt:=l.take (pos l q.id)++q::l.drop (pos l q.id)
def Ob (l:List Pt) (q:Pt):Int:=if has l q.id=true then 6 else if 6<=l.length then 9 else 0
def Q1y (s n:Nat) (p:Pt):Prop:=Nml p.c/\Cs s n p.c
theorem Qyt (l:List Pt) (q:Pt):(put l q).length=l.length+1:=by
 have:=Q6u l q.id;simp [put]; omega
theorem Qyu {l:List Pt} {q p:Pt} (h:p∈put l q):p=q\/p∈l:=by
 unfold put at h;rcases Qz.1 h with h | h
 ·exact .inr (Qn h)
 ·rcases Qq.1 h with h | h
  ·exact .inl h
  ·exact .inr (Zg h)
def Rz:List Pt->List Pt->List Pt×Int
 | acc,[]=>(acc,0)
 | acc,q::qs=>if Ob acc q=0 then Rz (put acc q) qs else ([],Ob acc q)
def Zi4 (a b:Crv):Bool:=decide (a.x=b.x/\a.y=b.y/\a.d=b.d)
def Zk7 (out:List Pt) (p:Pt):List Pt:=if out.any (λq=>Zi4 p.c q.c)=true then out else out++[p]
def Zol (l:List Pt):List Pt:=l.foldl Zk7 []
theorem Pz {α β:Type} (f:β->α->β) (b:β) (l:List α) {i:Nat} {x:α} (h:l[i]? = some x):(l.take (i+1)).foldl f b=f ((l.take i).foldl f b) x:=by
 rw [Vd,h]; simp [Vb]
def IsPt (s n:Nat) (z:List LV) (q:Pt):Prop:=∃ lx ly b l px py d,z=[.row lx,.row ly,.bool b,Zh0 l,.int .i64 q.id]/\IsInts lx px/\IsInts ly py/\He (.bool b) (Zh0 l) d/\Cs s n ⟨px,py,d⟩/\q.c=Crv.norm ⟨px,py,d⟩
theorem Zgs {s n:Nat} {p:Pt} (h:Q1y s n p):IsPt s n (P9 p) p:=by
 obtain ⟨b,l,h1,h2,h3,h4⟩:=Uc p.c.d;refine ⟨_,_,decide (p.c.d<0),Ux p.c.d.natAbs,_,_,p.c.d,rfl,Gi _,Gi _,Uc _,h.2,(Crv.norm_of h.1).symm⟩
def IsPts (s n:Nat):List (List LV)->List Pt->Prop
 | [],[]=>True
 | z::zs,q::qs=>IsPt s n z q/\IsPts s n zs qs
 | _,_=>False
theorem IsPts.len {s n:Nat}:∀ {zs:List (List LV)} {qs:List Pt},IsPts s n zs qs->zs.length=qs.length
 | [],[],_=>rfl
 | _::_,_::_,h=>by simp [h.2.len]
 | [],_::_,h=>h.elim
 | _::_,[],h=>h.elim
theorem IsPts.get {s n:Nat}:∀ {zs:List (List LV)} {qs:List Pt},IsPts s n zs qs->∀ {i:Nat} {q:Pt},qs[i]? = some q->∃ z,zs[i]? = some z/\IsPt s n z q
 | [],[],_,i,q,h=>by simp at h
 | z::zs,q::qs,h,0,r,hr=>by simp at hr; subst hr; exact ⟨z,rfl,h.1⟩
 | z::zs,q::qs,h,i+1,r,hr=>by simpa using h.2.get (i:=i) (by simpa using hr)
 | [],_::_,h,_,_,_=>h.elim
 | _::_,[],h,_,_,_=>h.elim
theorem Qxv {s n:Nat}:∀ {l:List Pt},(∀ p∈l,Q1y s n p)->IsPts s n (l.map P9) l
 | [],_=>trivial
 | p::l,h=>⟨Zgs (h p (Qt ..)),Qxv λq hq=>h q (Qj _ hq)⟩
theorem IsPt.ok {s n:Nat} {z:List LV} {q:Pt} (h:IsPt s n z q) (h1:1<=s):Q1y s n q:=by
 obtain ⟨lx,ly,b,l,px,py,d,_,_,_,_,hc,e⟩:=h;unfold Q1y;rw [e];exact ⟨Crv.nml _,hc.norm h1⟩
theorem Q0x (acc qs:List Pt) {i:Nat} {q:Pt} (hi:qs[i]? = some q) (h:Rz acc (qs.take i)=((Rz acc (qs.take i)).1,0)):Rz acc (qs.take (i+1))=if Ob (Rz acc (qs.take i)).1 q=0 then (put (Rz acc (qs.take i)).1 q,0) else ([],Ob (Rz acc (qs.take i)).1 q):=by
 induction qs generalizing acc i with
 | nil=>simp at hi
 |
  cons x qs ih =>
  cases i with
  | zero=>simp at hi; subst hi; simp [Rz]
  |
   succ i =>
   simp only [J0,Rz] at h ⊢;by_cases h0:Ob acc x=0
   ·simp only [h0,if_true] at h ⊢;exact ih (put acc x) (by simpa using hi) h
   ·simp only [h0,if_false] at h;injection h with _ h;exact absurd h h0
theorem Q6a (acc qs:List Pt) {i:Nat} {e:Int} (he:e≠0) (h:Rz acc (qs.take i)=([],e)):Rz acc qs=([],e):=by
 induction qs generalizing acc i with
 | nil=>simp [Rz] at h; exact absurd h.2.symm he
 |
  cons x qs ih =>
  cases i with
  | zero=>simp [Rz] at h; exact absurd h.2.symm he
  |
   succ i =>
   simp only [J0,Rz] at h ⊢;by_cases h0:Ob acc x=0
   ·simp only [h0,if_true] at h ⊢; exact ih _ h
   ·simp only [h0,if_false] at h ⊢; exact h
def U4 (p:List Int) (q:Rat):Int:=Mj (Zcp p q.num q.den) 0
abbrev qa (q:Rat):List LV:=pl [-q.num,(q.den:Int)]::(rl q++rl q)
def Ti (sgn:List Int->Int):Nat->List Int->Int
 | 0,_=>0
 | k+1,p=>if p.length=0 then 0 else if sgn p=0 then Ti sgn k (U3 p) else sgn p
theorem Iv (sgn:List Int->Int):∀ (k:Nat) (p:List Int),p.length<=k->Ti sgn k p=Ti sgn p.length p
 |
  0,p,h=>by
  have:p.length=0:=by omega
  rw [this]
 |
  k+1,p,h=>by
  cases hp:p.length with
  | zero=>simp [Ti,hp]
  |
   succ m =>
   simp only [Ti];have h1:=Ry p;rw [Iv sgn k (U3 p) (by omega),Iv sgn m (U3 p) (by omega)]
theorem Qfa (sgn:List Int->Int) {p:List Int} (h:p.length=0):Ti sgn p.length p=0:=by rw [h]; rfl
theorem Qe8 (sgn:List Int->Int) {p:List Int} (h:0<p.length) (hs:sgn p≠0):Ti sgn p.length p=sgn p:=by
 obtain ⟨m,hm⟩:∃ m,p.length=m+1:=⟨p.length-1,by omega⟩;rw [hm]; simp only [Ti]; rw [if_neg (by omega),if_neg hs]
theorem Qe9 (sgn:List Int->Int) {p:List Int} (h:0<p.length) (hs:sgn p=0):Ti sgn p.length p=Ti sgn (U3 p).length (U3 p):=by
 obtain ⟨m,hm⟩:∃ m,p.length=m+1:=⟨p.length-1,by omega⟩;rw [hm]; simp only [Ti]; rw [if_neg (by omega),if_pos hs];exact Iv sgn m _ (by have:=Ry p; omega)
structure Tm where
 p:List Int
 lo:Rat
 hi:Rat
abbrev ta (t:Tm):List LV:=pl t.p::(rl t.lo++rl t.hi)
abbrev tq (q:Rat):Tm:=⟨[-q.num,(q.den:Int)],q,q⟩
def Mk (sg:List Int->Int) (p:List Int):Int:=Ti sg p.length p
def Lk (p:List Int) (q:Rat):Int:=Mk (λp=>U4 p q) p
structure Pb (p:List Int):Prop where
 t:Uf p
 l:p.length<=64
 b:Bd 16777216 p
abbrev Qb (q:Rat):Prop:=Qs 16777216 q
abbrev Cb (k:Crv):Prop:=Cs 1048576 16 k
def Gz (a b:Crv):List Int:=Tj (Uu b.x a.d) (Uu a.x b.d)
def Hj (a b:Crv):List Int:=Tj (Uu b.y a.d) (Uu a.y b.d)
def Am (sg:List Int->Int) (a b:Pt):List (List Int)->Bool
 | []=>decide (a.id<b.id)
 | p::l=>if 0<p.length then decide (0<Mk sg p) else Am sg a b l
def P6 (sg:List Int->Int) (a b:Pt):Bool:=Am sg a b [Gz a.c b.c,Hj a.c b.c]
end Orr
namespace Orr
open Go
structure Ct where
 kind:Int
 i0:Int
 i1:Int
 i2:Int
 i3:Int
 p:List Int
 want:Int
abbrev Qjw (c:Ct):List LV:=[.int .i64 c.kind,.int .i64 c.i0,.int .i64 c.i1,.int .i64 c.i2,.int .i64 c.i3,pl c.p,.int .i64 c.want]
def E8 (p q:List Int):List Int:=if 0<p.length then p else q
def Hm:List Int->List Int->Bool
 | x::l,y::m=>if x=y then Hm l m else decide (x<y)
 | _,_=>false
def Nk (a b:Ct):Bool:=Hm [a.kind,a.i0,a.i1,a.i2,a.i3] [b.kind,b.i0,b.i1,b.i2,b.i3]
def I5 (out:List Ct) (c:Ct):Nat->Nat
 | 0=>0
 |
  k+1=>match out[k]? with
  | some x=>if Nk c x=true then I5 out c k else k+1
  | none=>k+1
theorem Qyn (out:List Ct) (c:Ct):∀ k,I5 out c k<=k
 | 0=>Qk _
 |
  k+1=>by
  simp only [I5]
  split
  ·split
   ·exact Nat.le_succ_of_le (Qyn out c k)
   ·exact Qk _
  ·exact Qk _
theorem Zcg {out:List Ct} {c x:Ct} {k:Nat} (hx:out[k]? = some x) (h:Nk c x=true):I5 out c (k+1)=I5 out c k:=by
 simp only [I5,hx,h,if_true]
theorem Q6t {out:List Ct} {c x:Ct} {k:Nat} (hx:out[k]? = some x) (h:Nk c x=false):I5 out c (k+1)=k+1:=by
 simp [I5,hx,h]
def Qa4 (out:List Ct) (c:Ct):List Ct:=out.take (I5 out c out.length)++c::out.drop (I5 out c out.length)
theorem Q5m (out:List Ct) (c:Ct):(Qa4 out c).length=out.length+1:=by
 have:=Qyn out c out.length;simp [Qa4]; omega
theorem Q5n {out:List Ct} {c x:Ct} (h:x∈Qa4 out c):x=c\/x∈out:=by
 simp only [Qa4,Qz,Qq] at h;rcases h with h | h | h
 ·exact .inr (Qn h)
 ·exact .inl h
 ·exact .inr (Zg h)
def Gk (l:List Ct):List Ct:=l.foldl Qa4 []
theorem Qvp (l:List Ct) (c:Ct):Gk (l++[c])=Qa4 (Gk l) c:=by simp [Gk,Vb]
theorem Qvq {l:List Ct} {i:Nat} {c:Ct} (h:l[i]? = some c):Gk (l.take (i+1))=Qa4 (Gk (l.take i)) c:=by
 rw [Xa,h]; exact Qvp _ _
theorem Qku:∀ (l acc:List Ct),(l.foldl Qa4 acc).length=acc.length+l.length
 | [],acc=>by simp
 | c::l,acc=>by simp only [Xi]; rw [Qku l (Qa4 acc c),Q5m]; simp; omega
theorem Nz (l:List Ct):(Gk l).length=l.length:=by unfold Gk; rw [Qku]; simp
theorem Qkv:∀ (l acc:List Ct) {x:Ct},x∈l.foldl Qa4 acc->x∈l\/x∈acc
 | [],acc,x,h=>.inr h
 |
  c::l,acc,x,h=>by
  simp only [Xi] at h;rcases Qkv l _ h with h | h
  ·exact .inl (Qj _ h)
  ·rcases Q5n h with rfl | h
   ·exact .inl (Qt ..)
   ·exact .inr h
theorem Qad {l:List Ct} {x:Ct} (h:x∈Gk l):x∈l:=by
 rcases Qkv l [] h with h | h
 ·exact h
 ·cases h
theorem Qqp {α:Type} (l:List α) (z x:α) {k m':Nat} (hk:k<=l.length) (hm:m'=l.length-k) :
 ((l++[z]).take (k+1)++((l++[z]).drop k).take m'++(l++[z]).drop (k+1+m')).set k x=l.take k++x::l.drop k:=by
 subst hm;have e1:((l++[z]).drop k).take (l.length-k)=l.drop k:=by
  rw [List.drop_append_of_le_length hk,Ye (by simp),Qo (by simp)]
 have e2:(l++[z]).drop (k+1+(l.length-k))=[]:=Yl (by simp; omega);rw [e1,e2,Xt];have e3:(l++[z]).take (k+1)=(l++[z]).take k++[(l++[z])[k]'(by simp; omega)]:=by rw [List.take_succ_eq_append_getElem]
 rw [e3,Ye hk,Zz,List.set_append,if_neg (by simp; omega)];simp [Zq hk]
def Pi (a b:Pt):List Int:=E8 (Gz a.c b.c) (Hj a.c b.c)
def Mv (sg:List Int->Int) (a b:Pt):Ct:={ kind:=1,i0:=a.id,i1:=b.id,i2:=0,i3:=0,p:=Pi a b,want:=Mk sg (Pi a b) }
end Orr
namespace Orr
open Go Go.Proofs
set_option maxRecDepth 10000
abbrev pr (p:List Int):TV:=.one (pl p)
theorem Tx {p:List Int} {i:Nat} {z:Int} (h:p[i]? = some z):(p.map Ft)[i]? = some (Ft z):=Gx h
theorem Qhb (p:List Int):Ub Tryz.prog 206 [pr p] [pr (trim p)]:=by
 refine Gl Tryz.func206 rfl (ln 0 rfl rfl λhl=>?_);rw [Ze] at hl;refine go tt [] rfl trivial ?_;refine lp (S:=Nat) 0 (λL1 n=>(3,.v (.one (.int .i64 (n:Int))))::L1) (λ_=>[]) id (λn=>n<=p.length/\∀ j x,n<=j->p[j]? = some x->x=0) (p.map Ft).length ⟨by simp,λj x h1 h2=>by
  have:=(Qf.1 h2).1; simp at h1; omega⟩ rfl (λ_ _=>rfl) rfl λn ⟨h1,h2⟩=>?_
 cases n with
 | zero=>exact en tt [.f (by simp),.f rfl,.i 0] rfl (by rw [Qsg h1 h2 (λh=>by omega)]; simp [pl]) (by simp [Ua])
 |
  succ n =>
  obtain ⟨x,hx⟩:=gxE (l:=p) (i:=n) (by omega);by_cases h0:x=0
  ·refine go tt [.t (by simp),.r 11 (v:=.one (.int .i64 (n:Int))) (by simp),.x (Tx hx),.c [] B7,.t (by simp [h0]),.r 17 (v:=.one (.int .i64 (n:Int))) (by simp)] rfl (by simp [Ua]; omega) ?_;exact rd n (by simp) ⟨by omega,λj y h3 h4=>by
    rcases Y0 h3 with rfl | h3
    ·rw [hx] at h4; injection h4 with h4; rw [<-h4,h0]
    ·exact h2 j y h3 h4⟩ rfl
  ·exact en tt [.t (by simp),.r 11 (v:=.one (.int .i64 (n:Int))) (by simp),.x (Tx hx),.c [] B7,.f (by simp [h0]),.i (n+1)] rfl (by rw [Qsg h1 h2 (λ_=>⟨x,hx,h0⟩)]; simp [pl,Yd]) (by simp [Ua] <;> omega)
theorem Qws (p:List Int) (k:Nat):Ub Tryz.prog 279 [pr p,.one (.int .i64 (k:Int))] [.agg (Ft (p.getD k 0))]:=by
 by_cases h:k<p.length
 ·have hx:=Qd h;have e:p.getD k 0=p[k]:=by simp [List.getD,hx]
  rw [e];exact w tt Tryz.func279 rfl [.t (by simp; omega),.x (Tx hx)] rfl rfl trivial
 ·have e:p.getD k 0=0:=by simp [List.getD,Qr (Yj h)]
  rw [e,Dm];exact w tt Tryz.func279 rfl [.f (by simp; omega)] rfl rfl trivial
def fil (f:Nat->List LV) (z:List LV) (n k:Nat):List (List LV):=(List.range n).map λi=>if i<k then f i else z
theorem La (f:Nat->List LV) (z:List LV) (n k:Nat):(fil f z n k).length=n:=by simp [fil]
theorem Dd (f:Nat->List LV) (z:List LV) (n:Nat):List.replicate n z=fil f z n 0:=by
 refine Xp λi=>?_
 simp only [fil,Jw,Q7];by_cases h:i<n
 ·simp [h]
 ·simp [h]
theorem Ab (f:Nat->List LV) (z:List LV) (n:Nat):fil f z n n=(List.range n).map f:=by
 refine Vw λi hi=>?_
 rw [if_pos (V8.1 hi)]
theorem Ac (f:Nat->List LV) (z:List LV) {n k:Nat} (h:k<n):(fil f z n k).set k (f k)=fil f z n (k+1):=by
 refine Xp λi=>?_
 rw [Yc];simp only [fil,Q7,Ze,List.length_range,h,if_true];by_cases e:k=i
 ·subst e; simp [h]
 ·simp only [e,if_false];by_cases hi:i<n
  ·simp only [X1 hi,Y4];congr 1;by_cases h2:i<k
   ·rw [if_pos h2,if_pos (by omega)]
   ·rw [if_neg h2,if_neg (by omega)]
  ·simp [Qr,hi]
theorem Qms {n fid:Nat} {l1 l2:List LV} {g:Nat->Int} (hn:n<274877906944) (h:∀ k,k<n->Ub Tryz.prog fid [.one (.int .i64 (k:Int)),.one (.sh l1),.one (.sh l2)] [.agg (Ft (g k))]):Ub Tryz.prog 246 [.one (.int .i64 (n:Int)),.one (.fn fid [] [.sh l1,.sh l2])] [pr (S9 n g)]:=by
 refine Gl Tryz.func246 rfl ?_;refine go tt [.i n,.i n,.r 10 (eI (b:=(n:Int)) (by simp))] rfl (by simp [Ua]; omega) ?_;rw [Dd λk=>Ft (g k)];refine lp (S:=Nat) 1 (λL1 k=>(11,.v (.one (.int .i64 (k:Int))))::L1) (λk=>[.row false 51 2 (fil (λk=>Ft (g k)) [.bool false,.nils] n k)]) (λk=>n-k) (λk=>k<=n) 0 (Qi _) rfl (λ_ _=>rfl) rfl λk hk=>?_
 by_cases hlt:k<n
 ·refine go tt [.t (by simp; omega),.c [] (h k hlt),.i k] rfl (by simp [Ua,La]; omega) ?_;have e:=Ac (λk=>Ft (g k)) [.bool false,.nils] hlt;rw [e];exact rd (k+1) (by omega) hlt rfl
 ·obtain rfl:k=n:=by omega
  have e:fil (λk=>Ft (g k)) [.bool false,.nils] k k=((List.range k).map g).map Ft:=by rw [Ab]; simp
  rw [e];exact en tt [.f (by simp),.c [] (Qhb _)] rfl rfl trivial
theorem Qwp {n fid:Nat} {l1:List LV} {g:Nat->Int} (hn:n<274877906944) (h:∀ k,k<n->Ub Tryz.prog fid [.one (.int .i64 (k:Int)),.one (.sh l1)] [.agg (Ft (g k))]):Ub Tryz.prog 246 [.one (.int .i64 (n:Int)),.one (.fn fid [] [.sh l1])] [pr (S9 n g)]:=by
 refine Gl Tryz.func246 rfl ?_;refine go tt [.i n,.i n,.r 10 (eI (b:=(n:Int)) (by simp))] rfl (by simp [Ua]; omega) ?_;rw [Dd λk=>Ft (g k)];refine lp (S:=Nat) 1 (λL1 k=>(11,.v (.one (.int .i64 (k:Int))))::L1) (λk=>[.row false 51 2 (fil (λk=>Ft (g k)) [.bool false,.nils] n k)]) (λk=>n-k) (λk=>k<=n) 0 (Qi _) rfl (λ_ _=>rfl) rfl λk hk=>?_
 by_cases hlt:k<n
 ·refine go tt [.t (by simp; omega),.c [] (h k hlt),.i k] rfl (by simp [Ua,La]; omega) ?_;have e:=Ac (λk=>Ft (g k)) [.bool false,.nils] hlt;rw [e];exact rd (k+1) (by omega) hlt rfl
 ·obtain rfl:k=n:=by omega
  have e:fil (λk=>Ft (g k)) [.bool false,.nils] k k=((List.range k).map g).map Ft:=by rw [Ab]; simp
  rw [e];exact en tt [.f (by simp),.c [] (Qhb _)] rfl rfl trivial
theorem Zfl {p q:List Int} (k:Nat) (hp:Bd 4294967295 p) (hq:Bd 4294967295 q):Ub Tryz.prog 285 [.one (.int .i64 (k:Int)),.one (.sh [pl p]),.one (.sh [pl q])] [.agg (Ft (p.getD k 0+q.getD k 0))] :=
 w tt Tryz.func285 rfl [.c [] (Qws p k),.c [] (Qws q k),.c [] (Qay (Uc _) (Uc _) (Um hp k) (Um hq k))] rfl rfl trivial
theorem Zfv {p q:List Int} (k:Nat) (hp:Bd 4294967295 p) (hq:Bd 4294967295 q):Ub Tryz.prog 278 [.one (.int .i64 (k:Int)),.one (.sh [pl p]),.one (.sh [pl q])] [.agg (Ft (p.getD k 0-q.getD k 0))] :=
 w tt Tryz.func278 rfl [.c [] (Qws p k),.c [] (Qws q k),.c [] (Q28 (Uc _) (Uc _) (Um hp k) (Um hq k))] rfl rfl trivial
theorem Hh {p:List Int} {k:Nat} (h:k<p.length):p[k]? = some (p.getD k 0):=by simp [List.getD,Qd h]
theorem Q23 {p:List Int} {c:Int} {k:Nat} (hk:k<p.length) (hp:Bd 4294967295 p) (hc:Ul c<=4294967295):Ub Tryz.prog 247 [.one (.int .i64 (k:Int)),.one (.sh [pl p]),.one (.sh (Ft c))] [.agg (Ft (p.getD k 0*c))] :=
 w tt Tryz.func247 rfl [.x (Tx (Hh hk)),.c [] (Ns (Uc _) (Uc _) (Um hp k) hc)] rfl rfl trivial
theorem Zfr {p:List Int} {k:Nat} (hk:k<p.length) (hp:Bd 4294967295 p):Ub Tryz.prog 333 [.one (.int .i64 (k:Int)),.one (.sh [pl p])] [.agg (Ft (-(p.getD k 0)))] :=
 w tt Tryz.func333 rfl [.x (Tx (Hh hk)),.c [] (Qe5 (Uc _) (Um hp k))] rfl rfl trivial
theorem Qzm {p:List Int} {k:Nat} (hk:k+1<p.length) (hl:p.length<274877906944) (hp:Bd 4294967295 p):Ub Tryz.prog 303 [.one (.int .i64 (k:Int)),.one (.sh [pl p])] [.agg (Ft (p.getD (k+1) 0*((k+1:Nat):Int)))] :=
 w tt Tryz.func303 rfl [.x (Tx (Hh hk)),.r 10 (eI (b:=((k+1:Nat):Int)) (by omega)),.c [] (Qjn (by omega)),.c [] (Ns (Uc _) (Uc _) (Um hp _) (Q0m (show k+1<274877906944 by omega)))] rfl rfl (by simp [Ua] <;> omega)
theorem Qtb {p q:List Int} (hlp:p.length<274877906944) (hlq:q.length<274877906944) (hp:Bd 4294967295 p) (hq:Bd 4294967295 q):Ub Tryz.prog 241 [pr p,pr q] [pr (Qal p q)] :=
 w tt Tryz.func241 rfl [.r 9 (eI (b:=((max p.length q.length:Nat):Int)) (by simp; omega)),.c [] (Qms (by omega) λk _=>Zfl k hp hq)] rfl rfl trivial
theorem Qmm {p q:List Int} (hlp:p.length<274877906944) (hlq:q.length<274877906944) (hp:Bd 4294967295 p) (hq:Bd 4294967295 q):Ub Tryz.prog 231 [pr p,pr q] [pr (Tj p q)] :=
 w tt Tryz.func231 rfl [.r 9 (eI (b:=((max p.length q.length:Nat):Int)) (by simp; omega)),.c [] (Qms (by omega) λk _=>Zfv k hp hq)] rfl rfl trivial
theorem Q2u {p:List Int} (hlp:p.length<274877906944) (hp:Bd 4294967295 p):Ub Tryz.prog 307 [pr p] [pr (Sv p)] :=
 w tt Tryz.func307 rfl [.r 4 (eI (b:=(p.length:Int)) (by simp)),.c [] (Qwp hlp λk hk=>Zfr hk hp)] rfl rfl trivial
theorem Bq {p:List Int} {c:Int} (hlp:p.length<274877906944) (hp:Bd 4294967295 p) (hc:Ul c<=4294967295):Ub Tryz.prog 186 [pr p,.agg (Ft c)] [pr (Uu p c)] :=
 w tt Tryz.func186 rfl [.r 6 (eI (b:=(p.length:Int)) (by simp)),.c [] (Qms hlp λk hk=>Q23 hk hp hc)] rfl rfl trivial
theorem Lv {p:List Int} (hlp:p.length<274877906944) (hp:Bd 4294967295 p):Ub Tryz.prog 265 [pr p] [pr (U3 p)] :=
 w tt Tryz.func265 rfl [.r 6 (eI (b:=((p.length-1:Nat):Int)) (by simp; omega)),.c [] (Qwp (by omega) λk hk=>Qzm (by omega) hlp hp)] rfl rfl (by simp [Ua]; omega)
theorem Be {ls:List (List LV)} {p:List Int} (hi:IsInts ls p) (hl:p.length<274877906944) (hs:Bd 4294967295 p):Ub Tryz.prog 153 [.one (.row ls)] [pr (trim p)]:=by
 refine Gl Tryz.func153 rfl ?_;have hlen:=hi.len;refine go tt [.i ls.length,.i ls.length] rfl (by simp [Ua]; omega) ?_;rw [Dd λk=>Ft (p.getD k 0)];refine lp (S:=Nat) 1 (λL1 k=>(11,.v (.one (.int .i64 (k:Int))))::L1) (λk=>[.row false 51 2 (fil (λk=>Ft (p.getD k 0)) [.bool false,.nils] ls.length k)]) (λk=>ls.length-k) (λk=>k<=ls.length) 0 (Qi _) rfl (λ_ _=>rfl) rfl λk hk=>?_
 by_cases hlt:k<ls.length
 ·obtain ⟨x,y,hx,hxy⟩:=hi.get (Hh (p:=p) (k:=k) (by omega));have cn:=S6 hxy (Um hs k);obtain ⟨b,l,rfl,rfl,_⟩:=hxy;refine go tt [.t (by simp; omega),.x hx,.c [] cn,.i k] rfl (by simp [Ua,La]; omega) ?_;have e:=Ac (λk=>Ft (p.getD k 0)) [.bool false,.nils] hlt;rw [e];exact rd (k+1) (by omega) hlt rfl
 ·obtain rfl:k=ls.length:=by omega
  have e:fil (λk=>Ft (p.getD k 0)) [.bool false,.nils] ls.length ls.length=p.map Ft:=by
   rw [Ab,hlen];refine Xp λi=>?_
   by_cases hi:i<p.length
   ·simp [X1 hi,List.getD,Qd hi]
   ·simp [Qr,hi]
  rw [e];exact en tt [.f (by simp),.c [] (Qhb _)] rfl rfl trivial
theorem Gq {p:List Int} (ht:Uf p) (hl:p.length<274877906944) (hs:Bd 4294967295 p):Ub Tryz.prog 153 [pr p] [pr p]:=by
 have:=Be (Gi p) hl hs;rw [ht] at this; exact this
theorem Zbj {p:List Int} {i:Nat} {z:Int} (h:p[i]? = some z):(p.map λ(x:Int)=>[LV.int .i64 x])[i]? = some [.int .i64 z]:=Gx h
theorem Q2v {p:List Int} (hl:p.length<274877906944) (hr:∀ z∈p,-9223372036854775808≤z/\z≤9223372036854775807):Ub Tryz.prog 146 [.one (ids p)] [pr (trim p)]:=by
 refine Gl Tryz.func146 rfl ?_;refine go tt [.r 7 (eI (b:=(p.length:Int)) (by simp)),.i p.length,.i p.length,.r 10 (eI (b:=(p.length:Int)) (by simp))] rfl (by simp [Ua]; omega) ?_;rw [Dd λk=>Ft (p.getD k 0)];refine lp (S:=Nat) 1 (λL1 k=>(11,.v (.one (.int .i64 (k:Int))))::L1) (λk=>[.row false 51 2 (fil (λk=>Ft (p.getD k 0)) [.bool false,.nils] p.length k)]) (λk=>p.length-k) (λk=>k<=p.length) 0 (Qi _) rfl (λ_ _=>rfl) rfl λk hk=>?_
 by_cases hlt:k<p.length
 ·have hg:=Hh hlt;refine go tt [.t (by simp; omega),.x (Zbj hg),.c [] (Qjn (hr _ (Qc hg))),.i k] rfl (by simp [Ua,La]; omega) ?_;have e:=Ac (λk=>Ft (p.getD k 0)) [.bool false,.nils] hlt;rw [e];exact rd (k+1) (by omega) hlt rfl
 ·obtain rfl:k=p.length:=by omega
  have e:fil (λk=>Ft (p.getD k 0)) [.bool false,.nils] p.length p.length=p.map Ft:=by
   rw [Ab];refine Xp λi=>?_
   by_cases hi:i<p.length
   ·simp [X1 hi,List.getD,Qd hi]
   ·simp [Qr,hi]
  rw [e];exact en tt [.f (by simp),.c [] (Qhb _)] rfl rfl trivial
theorem Quu (l:List Int) (i:Nat) (z:Int):(l.map Ft).set i (Ft z)=(l.set i z).map Ft:=by rw [Vi]
theorem Qgo (m:Nat):((List.replicate m [LV.bool false,LV.nils]).map λc=>c.map Qfy)=(List.replicate m (0:Int)).map Ft:=by
 simp [Dm,Qfy]
theorem Qml {p0 q:List Int} {s t:Nat} (tq:Uf q) (hlp:p0.length<137438953472) (hlq:q.length<137438953472) (hp:Bd s p0) (hq:Bd t q) (hst:s+t<=4294967000):Ub Tryz.prog 242 [pr p0,pr q] [pr (Fu (trim p0) q)]:=by
 have cp:=Be (Gi p0) (by omega) (W9 hp (show s<=4294967295 by omega));have hp:=H9 hp;have hlp:=Zy (G0 p0) hlp;obtain ⟨p,ep⟩:=nmE (trim p0);rw [<-ep] at cp hp hlp ⊢;have cq:=Gq tq (by omega) (W9 hq (show t<=4294967295 by omega));by_cases h0:p.length=0
 ·have e:Fu p q=[]:=by unfold Fu; rw [if_pos (.inl h0)]
  rw [e];exact w tt Tryz.func242 rfl [.c [] cp,.c [] cq,.t (by simp; exact Qh h0),.t rfl] rfl rfl trivial
 by_cases h1:q.length=0
 ·have e:Fu p q=[]:=by unfold Fu; rw [if_pos (.inr h1)]
  rw [e];exact w tt Tryz.func242 rfl [.c [] cp,.c [] cq,.f (by simp; intro h; subst h; simp at h0),.t (by simp; exact Qh h1)] rfl rfl trivial
 refine Gl Tryz.func242 rfl ?_;have e:Fu p q=trim (Mw p q (List.replicate (p.length+q.length-1) 0) p.length):=by unfold Fu; rw [if_neg (by omega)]
 rw [e];obtain ⟨N,hN⟩:=nmE (p.length+q.length-1);rw [<-hN];obtain ⟨o,ho⟩:=nmE (List.replicate N (0:Int));rw [<-ho];have hol:o.length=N:=by rw [ho]; simp
 have ho0:∀ m,o.getD m 0=0:=λm=>by rw [ho]; exact Hi N m
 refine go tt [.c [] cp,.c [] cq,.f (by simp; intro h; subst h; simp at h0),.f (by simp; intro h; subst h; simp at h1),.r 27 (eI (b:=(N:Int)) (by simp; omega)),.i N,.i N] rfl (by simp [Ua]; omega) ?_;refine nl 0 rfl rfl rfl ?_;rw [Qgo,<-ho];refine lp (S:=Nat) 1 (λL1 i=>(31,.v (.one (.int .i64 (i:Int))))::L1) (λi=>[.row false 51 2 ((Mw p q o i).map Ft)]) (λi=>p.length-i) (λi=>i<=p.length) 0 (Qi _) rfl (λ_ _=>rfl) rfl λi hi=>?_
 by_cases hlt:i<p.length
 ·refine go tt [.t (by simp; omega),.x (Tx (Hh hlt))] rfl trivial ?_;refine lp (S:=Nat) 2 (λL1 k=>(38,.v (.one (.int .i64 (k:Int))))::L1) (λk=>[.row false 51 2 ((Eb (p.getD i 0) q i (Mw p q o i) k).map Ft),.blk 51 (Ft (p.getD i 0))]) (λk=>q.length-k) (λk=>k<=q.length) 0 (Qi _) rfl (λ_ _=>rfl) rfl λk hk=>?_
  by_cases hk2:k<q.length
  ·have hm1:Ul ((Eb (p.getD i 0) q i (Mw p q o i) k).getD (i+k) 0)<=4294967295:=Qa (Ll (t:=39) (Qnx (by rw [Mx]; omega) (Qnw (λj hj=>by omega) ho0 (λi j=>Pq (Um hp i) (Um hq j))) (λj=>Pq (Um hp i) (Um hq j)) (i+k)) (V6 (show i+1<549755813888 by omega) (by decide))) (by omega);have hm2:Ul (p.getD i 0*q.getD k 0)<=4294967295:=Qa (Uv _ _) (by have:=Um hp i; have:=Um hq k; omega);have hg:(Eb (p.getD i 0) q i (Mw p q o i) k)[i+k]? = some ((Eb (p.getD i 0) q i (Mw p q o i) k).getD (i+k) 0):=Hh (by rw [Ec,Mx]; omega);refine go tt [.t (by simp; omega),.x (Tx (Hh hk2)),.i (i+k),.x (Tx hg),.c [] (Ns (Uc _) (Uc _) (Qa (Um hp i) (by omega)) (Qa (Um hq k) (by omega))),.c [] (Qay (Uc _) (Uc _) hm1 hm2),.i (i+k)] rfl (by simp [Ua,Ec,Mx] <;> omega) ?_;rw [Quu];exact rd (k+1) (by omega) hk2 rfl
  ·obtain rfl:k=q.length:=by omega
   exact go tt [.f (by simp)] rfl (by simp [Ua]; omega) (rd (i+1) (by omega) hlt rfl)
 ·obtain rfl:i=p.length:=by omega
  exact en tt [.f (by simp),.c [] (Qhb _)] rfl rfl trivial
theorem Qtc {p q:List Int} {s t:Nat} (tp:Uf p) (tq:Uf q) (hlp:p.length<137438953472) (hlq:q.length<137438953472) (hp:Bd s p) (hq:Bd t q) (hst:s+t<=4294967000):Ub Tryz.prog 242 [pr p,pr q] [pr (Fu p q)]:=by
 have h:=Qml tq hlp hlq hp hq hst;rw [show trim p=p from tp] at h;exact h
theorem Q96 {p q:List Int} (hlp:p.length<274877906944) (hlq:q.length<274877906944) (hp:Bd 4294967295 p) (hq:Bd 4294967295 q):Ub Tryz.prog 274 [pr p,pr q] [.one (.bool (decide (trim p=trim q)))]:=by
 refine Gl Tryz.func274 rfl ?_;have cp:=Be (Gi p) hlp hp;have cq:=Be (Gi q) hlq hq;have bp:=H9 hp;have bq:=H9 hq;have l1:=G0 p;have l2:=G0 q;obtain ⟨a,ha⟩:=nmE (trim p);obtain ⟨b,hb⟩:=nmE (trim q);rw [<-ha] at cp bp l1 ⊢;rw [<-hb] at cq bq l2 ⊢;by_cases hl:a.length=b.length
 ·refine go tt [.c [] cp,.c [] cq,.f (by simp; omega)] rfl trivial ?_;refine lp (S:=Nat) 0 (λL1 i=>(18,.v (.one (.int .i64 (i:Int))))::L1) (λ_=>[]) (λi=>a.length-i) (λi=>i<=a.length/\a.take i=b.take i) 0 ⟨Qi _,rfl⟩ rfl (λ_ _=>rfl) rfl λi ⟨hi,he⟩=>?_
  by_cases hlt:i<a.length
  ·have ga:=Hh hlt;have gb:=Hh (p:=b) (k:=i) (by omega);have cc:=Qg9 (Uc (a.getD i 0)) (Uc (b.getD i 0)) (Um bp i) (Um bq i);by_cases hz:a.getD i 0=b.getD i 0
   ·refine go tt [.t (by simp; omega),.x (Tx ga),.x (Tx gb),.c [] cc,.f (by simpa using Qw6.2 hz)] rfl (by simp [Ua]; omega) ?_;exact rd (i+1) (by omega) ⟨hlt,by rw [Vd,Vd,he,ga,gb,hz]⟩ rfl
   ·exact en tt [.t (by simp; omega),.x (Tx ga),.x (Tx gb),.c [] cc,.t (by have:=mt Qw6.1 hz; simpa using this)] rfl (by rw [decide_eq_false]; intro h; exact hz (by rw [h])) trivial
  ·obtain rfl:i=a.length:=by omega
   rw [Q4,hl,Q4] at he;exact en tt [.f (by simp)] rfl (by rw [decide_eq_true he]) trivial
 ·exact en tt [.c [] cp,.c [] cq,.t (by simp; omega)] rfl (by rw [decide_eq_false]; intro h; exact hl (by rw [h])) trivial
theorem Q2y {p:List Int} {n d:Int} {s t:Nat} (hl:p.length<274877906944) (hp:Bd s p) (hn:Ul n<=t) (hd:Ul d<=t) (hst:s+p.length*(t+1)+2*t+10<=4294967295):Ub Tryz.prog 264 [pr p,.agg (Ft n),.agg (Ft d)] [.agg (Ft (Zcp p n d))]:=by
 refine Gl Tryz.func264 rfl ?_;refine go tt [.c [] (Qjn (z:=1) (by decide)),.r 13 (eI (b:=(p.length:Int)-1-((0:Nat):Int)) (by simp))] rfl (by simp [Ua]; omega) ?_;refine nlb 3 rfl rfl rfl ?_;have e0:[LV.bool false,LV.nils].map Qfy=Ft (S0 p n d 0).1:=by simp [Qfy,S0,Dm]
 rw [e0];refine lp (S:=Nat) 5 (λL1 j=>(9,.v (.one (.int .i64 ((p.length:Int)-1-(j:Int)))))::L1) (λj=>[.blk 51 (Ft n),.blk 51 (Ft d),.blk 51 [.bool false,.nils],.blk 51 (Ft (S0 p n d j).1),.blk 51 (Ft (S0 p n d j).2)]) (λj=>p.length-j) (λj=>j<=p.length) 0 (Qi _) rfl (λ_ _=>rfl) rfl λj hj=>?_
 have hv:=Qo3 (k:=j) hp hn hd;have hjl:j*(t+1)<=p.length*(t+1):=Qw _ (by omega);have hjl2:j*t<=j*(t+1):=Zf _ (by omega);by_cases hlt:j<p.length
 ·have hc:=Um hp (p.length-1-j);have hm1:Ul ((S0 p n d j).1*n)<=4294967295:=Qa (Uv _ _) (by omega);have hm2:Ul (p.getD (p.length-1-j) 0*(S0 p n d j).2)<=4294967295:=Qa (Uv _ _) (by omega);refine go tt [.t (by simp; omega),.c [] (Ns (Uc _) (Uc _) (by omega) (by omega)),.r 22 (eI (b:=((p.length-1-j:Nat):Int)) (by omega)),.x (Tx (Hh (p:=p) (k:=p.length-1-j) (by omega))),.c [] (Ns (Uc _) (Uc _) (by omega) (by omega)),.c [] (Qay (Uc _) (Uc _) hm1 hm2),.c [] (Ns (Uc _) (Uc _) (by omega) (by omega)),.r 17 (eI (b:=(p.length:Int)-1-((j+1:Nat):Int)) (by omega))] rfl (by simp [Ua] <;> omega) ?_;exact rd (j+1) (by omega) hlt rfl
 ·obtain rfl:j=p.length:=by omega
  exact en tt [.f (by simp; omega)] rfl rfl trivial
theorem Bb {p:List Int} (tp:Uf p) (hl:p.length<274877906944) (hp:Bd 4294967295 p):Ub Tryz.prog 306 [pr p] [.agg (Ft (p.getD (p.length-1) 0))]:=by
 have cn:=Gq tp hl hp;by_cases h0:p=[]
 ·subst h0;exact w tt Tryz.func306 rfl [.c [] cn,.t (by simp)] rfl (by simp [Dm]) trivial
 ·have hpl:0<p.length:=Jn.2 h0;exact w tt Tryz.func306 rfl [.c [] cn,.f (by simpa using h0),.r 12 (eI (b:=((p.length-1:Nat):Int)) (by simp; omega)),.x (Tx (Hh (by omega)))] rfl rfl (by simp [Ua]; omega)
theorem Zez {a b:Int} {q:Rat} (h1:a=q.num) (h2:b=(q.den:Int)):[sg a,mg a,sg b,mg b]=rl q:=by rw [h1,h2]
theorem Ie {n d:Int} (h0:d≠0) (hn:Ul n<=4294967295) (hd:Ul d<=4294967295):Ub Tryz.prog 225 [.agg (Ft n),.agg (Ft d)] [.agg (rl (Rat.divInt n d))]:=by
 have cg:=Q2j (Gi [n,d]) (λz hz=>by simp at hz; rcases hz with rfl | rfl <;> assumption);have gp:=Qqg (n:=n) h0;have gs:=Qxw (n:=n) h0 hd;have m1:=Qh7 n d;have m2:=Qh8 n d;obtain ⟨g,hg⟩:=nmE (((Gm [n,d]:Nat):Int));rw [<-hg] at cg gp gs m1 m2;by_cases hneg:d<0
 ·obtain ⟨e1,e2⟩:=Zbw (n:=n) hneg;rw [<-hg] at e1 e2;rw [<-Zez e1 e2];exact w tt Tryz.func225 rfl [.c [] cg,.t (by simpa using hneg),.c [] (Qe5 (Uc n) hn),.c [] (Qe5 (Uc d) hd),.c [] (Dx (Uc _) (Uc _) (by rw [Fy]; exact hn) gs (by omega) (Qye m1)),.c [] (Dx (Uc _) (Uc _) (by rw [Fy]; exact hd) gs (by omega) (Qye m2))] rfl rfl trivial
 ·obtain ⟨e1,e2⟩:=Qns (n:=n) (d:=d) (by omega);rw [<-hg] at e1 e2;rw [<-Zez e1 e2];exact w tt Tryz.func225 rfl [.c [] cg,.f (by simpa using hneg),.c [] (Dx (Uc _) (Uc _) hn gs (by omega) m1),.c [] (Dx (Uc _) (Uc _) hd gs (by omega) m2)] rfl rfl trivial
theorem Qbw {x y x' y':LV} {n d:Int} (h1:He x y n) (h2:He x' y' d) (hn:Ul n<=4294967295) (hd:Ul d<=4294967295):Ub Tryz.prog 172 [.agg [x,y,x',y']] [.agg (rl (Fg n d))]:=by
 have c1:=S6 h1 hn;have c2:=S6 h2 hd;obtain ⟨b,l,rfl,rfl,_⟩:=h1;obtain ⟨b',l',rfl,rfl,_⟩:=h2;by_cases h0:d=0
 ·have e:Fg n d=Rat.divInt n 1:=by unfold Fg; rw [if_pos h0]
  rw [e];exact w tt Tryz.func172 rfl [.c [] c2,.c [] B7,.t (by simpa using h0),.c [] (Qjn (z:=1) (by decide)),.c [] c1,.c [] (Ie (by decide) hn (by decide))] rfl rfl trivial
 ·have e:Fg n d=Rat.divInt n d:=by unfold Fg; rw [if_neg h0]
  rw [e];exact w tt Tryz.func172 rfl [.c [] c2,.c [] B7,.f (by simpa using h0),.c [] c1,.c [] (Ie h0 hn hd)] rfl rfl trivial
theorem Qhg {q:Rat} (hq:Qs 4294967295 q):Ub Tryz.prog 172 [.agg (rl q)] [.agg (rl q)]:=by
 have:=Qbw (Uc q.num) (Uc (q.den:Int)) hq.1 hq.2;rwa [An] at this
theorem Qmr {a b:Rat} (ha:Qs 2147483647 a) (hb:Qs 2147483647 b):Ub Tryz.prog 213 [.agg (rl a),.agg (rl b)] [.agg (Ft (a.num*(b.den:Int))),.agg (Ft (b.num*(a.den:Int))),.agg (Ft ((a.den:Int)*(b.den:Int)))] :=
 w tt Tryz.func213 rfl [.c [] (Qhg (ha.mono (by decide))),.c [] (Qhg (hb.mono (by decide))),.c [] (Ns (Uc _) (Uc _) (Qa ha.1 (by decide)) (Qa hb.2 (by decide))),.c [] (Ns (Uc _) (Uc _) (Qa hb.1 (by decide)) (Qa ha.2 (by decide))),.c [] (Ns (Uc _) (Uc _) (Qa ha.2 (by decide)) (Qa hb.2 (by decide)))] rfl rfl trivial
theorem C7 {a b:Rat} (ha:Qs 2147483647 a) (hb:Qs 2147483647 b):Ub Tryz.prog 159 [.agg (rl a),.agg (rl b)] [.one (.int .i64 (U7 a b))] :=
 w tt Tryz.func159 rfl [.c [] (Qmr ha hb),.c [] (Qg9 (Uc _) (Uc _) (Qa (Uv _ _) (by have:=ha.1; have:=hb.2; omega)) (Qa (Uv _ _) (by have:=hb.1; have:=ha.2; omega)))] rfl rfl trivial
theorem Q3w {x y x' y':LV} {n d:Int} (h1:He x y n) (h2:He x' y' d) (hn:Ul n<=4294967295) (hd:Ul d<=4294967295):Ub Tryz.prog 98 [.agg [x,y,x',y'],.one (.row [])] [.agg (rl (Fg n d))]:=by
 have c1:=Qbw h1 h2 hn hd;obtain ⟨b,l,rfl,rfl,_⟩:=h1;obtain ⟨b',l',rfl,rfl,_⟩:=h2;refine Gl Tryz.func98 rfl ?_;refine go tt [.c [] c1] rfl trivial ?_;refine lp (S:=Unit) 3 (λL1 _=>(12,.v (.one (.int .i64 0)))::L1) (λ_=>[.blk 72 [.bool b,.row (lm l),.bool b',.row (lm l')],.blk 72 [.bool false,.nils,.bool false,.nils],.blk 72 (rl (Fg n d))]) (λ_=>0) (λ_=>True) () trivial rfl (λ_ _=>rfl) rfl λ_ _=>?_
 exact en tt [.f (by simp)] rfl rfl trivial
theorem Ex {q:Rat} (hq:Qs 4294967295 q):Ub Tryz.prog 98 [.agg (rl q),.one (.row [])] [.agg (rl q)]:=by
 have:=Q3w (Uc q.num) (Uc (q.den:Int)) hq.1 hq.2;rwa [An] at this
theorem Zaj {q:Rat} (hq:Qs 4294967295 q):Ub Tryz.prog 263 [.agg (rl q)] [.agg (rl q)]:=w tt Tryz.func263 rfl [.c [] (Ex hq)] rfl rfl trivial
theorem Qwi {p:List Int} {q:Rat} {s t:Nat} (tp:Uf p) (hl:p.length<274877906944) (hp:Bd s p) (hq:Qs t q) (hst:s+p.length*(t+1)+2*t+10<=4294967295):Ub Tryz.prog 211 [pr p,.agg (rl q)] [.one (.int .i64 (U4 p q))]:=by
 have cc:=Qg9 (Uc (Zcp p q.num q.den)) Sr (Qa (Qo3 hp hq.1 hq.2).1 (by omega)) (by decide);exact w tt Tryz.func211 rfl [.c [] (Zaj (hq.mono (by omega))),.c [] (Gq tp hl (W9 hp (by omega))),.c [] (Q2y hl hp hq.1 hq.2 hst),.c [] cc] rfl rfl trivial
theorem Q3j {p:List Int} {g:Int} (hl:p.length<274877906944) (hp:Bd 4294967295 p) (hg:Ul g≤4294967295) (h0:g≠0) (hd:∀ z∈p,z % g=0):Ub Tryz.prog 245 [pr p,.agg (Ft g)] [pr (trim (p.map (· / g)))]:=by
 refine Gl Tryz.func245 rfl ?_;refine go tt [.r 9 (eI (b:=(p.length:Int)) (by simp)),.i p.length,.i p.length,.r 12 (eI (b:=(p.length:Int)) (by simp))] rfl (by simp [Ua]; omega) ?_;rw [Dd λk=>Ft (p.getD k 0 / g)];refine lp (S:=Nat) 2 (λL1 k=>(13,.v (.one (.int .i64 (k:Int))))::L1) (λk=>[.blk 51 (Ft g),.row false 51 2 (fil (λk=>Ft (p.getD k 0 / g)) [.bool false,.nils] p.length k)]) (λk=>p.length-k) (λk=>k<=p.length) 0 (Qi _) rfl (λ_ _=>rfl) rfl λk hk=>?_
 by_cases hlt:k<p.length
 ·have hg2:=Hh hlt;refine go tt [.t (by simp; omega),.x (Tx hg2),.c [] (Dx (Uc _) (Uc _) (Um hp k) hg h0 (hd _ (Qc hg2))),.i k] rfl (by simp [Ua,La]; omega) ?_;have e:=Ac (λk=>Ft (p.getD k 0 / g)) [.bool false,.nils] hlt;rw [e];exact rd (k+1) (by omega) hlt rfl
 ·obtain rfl:k=p.length:=by omega
  have e:fil (λk=>Ft (p.getD k 0 / g)) [.bool false,.nils] p.length p.length=(p.map (· / g)).map Ft:=by
   rw [Ab];refine Xp λi=>?_
   by_cases hi:i<p.length
   ·simp [X1 hi,List.getD,Qd hi]
   ·simp [Qr,hi]
  rw [e];exact en tt [.f (by simp),.c [] (Be (Gi (p.map (· / g))) (by simp; exact hl) (Qdk hp g))] rfl rfl trivial
theorem Qit (p:List Int):∀ c∈p.map Ft,c.length=2:=Zeu p λ_=>rfl
theorem Qmq {lx ly:List (List LV)} {px py:List Int} {x y:LV} {d:Int} (hx:IsInts lx px) (hy:IsInts ly py) (hd:He x y d) (hk:Cs 4294967294 1073741824 (Crv.mk px py d)):Ub Tryz.prog 185 [.agg [.row lx,.row ly,x,y]] [.agg (cl (Crv.norm (Crv.mk px py d)))]:=by
 have hlx:=hk.lx;have hly:=hk.ly;simp only at hlx hly;have htx:=G0 px;have hty:=G0 py;have hd1:Ul (Crv.mk px py d).d'<=4294967295:=Qa (Qnj hk.d (by omega)) (by omega);have hg1:=Crv.isz_g (Crv.mk px py d) hd1;have hg0:=Crv.g_ne (Crv.mk px py d);have hgd:=Crv.g_dvd (Crv.mk px py d);have cx:=Be hx (by omega) (W9 hk.x (by omega));have cy:=Be hy (by omega) (W9 hk.y (by omega));have cd:=S6 hd (Qa hk.d (by omega));have bx:Bd 4294967295 (trim px):=W9 (H9 hk.x) (by omega);have by_:Bd 4294967295 (trim py):=W9 (H9 hk.y) (by omega);obtain ⟨b,l,rfl,rfl,_⟩:=hd;obtain ⟨e,he⟩:=nmE ((Crv.mk px py d).d');obtain ⟨g,hgg⟩:=nmE ((Crv.mk px py d).g);obtain ⟨X,hX⟩:=nmE (trim px);obtain ⟨Y,hY⟩:=nmE (trim py);have hnorm:(Crv.mk px py d).norm=⟨trim (X.map (· / g)),trim (Y.map (· / g)),e / g⟩:=by rw [he,hgg,hX,hY]; rfl
 rw [hnorm];have hgdef:g=if e<0 then -((Gm (e::(X++Y)):Nat):Int) else (Gm (e::(X++Y)):Nat):=by rw [hgg,he,hX,hY]; rfl
 have hde:e=if d=0 then 1 else d:=by rw [he]; rfl
 simp only [<-he,<-hgg,<-hX,<-hY] at hd1 hg1 hg0 hgd htx hty cx cy bx by_;clear hnorm hgg he hX hY;refine Gl Tryz.func185 rfl ?_;refine go tt [.c [] cx,.c [] cy,.c [] cd,.c [] B7] rfl trivial ?_;refine ct 1 (S:=Unit) (λ_=>[(2,.v (.one (.ow 1 0))),(3,.v (pr X)),(4,.v (pr Y)),(5,.v (.one (.ow 2 0)))]) (λ_=>[.blk 53 [.row lx,.row ly,.bool b,.row (lm l)],.blk 53 [.nils,.nils,.bool false,.nils],.blk 51 (Ft e)]) (λ_=>True) rfl ?_ ?_
 ·by_cases h0:d=0
  ·rw [hde,if_pos h0];exact go tt [.t (by simpa using h0),.c [] (Qjn (z:=1) (by decide))] rfl trivial (rc () trivial rfl)
  ·rw [hde,if_neg h0];exact go tt [.f (by simpa using h0)] rfl trivial (rc () trivial rfl)
 ·intro _ _;have hgi:IsInts ([Ft e]++X.map Ft++Y.map Ft) (e::(X++Y)):=by
   have:=Gi (e::(X++Y));simpa using this
  have hgs:∀ z∈e::(X++Y),Ul z≤4294967295:=λz hz=>by
   rcases Qq.1 hz with rfl | hz
   ·exact hd1
   ·rcases Qz.1 hz with hz | hz
    ·exact bx z hz
    ·exact by_ z hz
  have cg:=Q2j hgi hgs;have co1:=Q3j (p:=X) (by omega) bx hg1 hg0 λz hz=>hgd z (Qj _ (List.mem_append_left _ hz))
  have co2:=Q3j (p:=Y) (by omega) by_ hg1 hg0 λz hz=>hgd z (Qj _ (List.mem_append_right _ hz))
  have ce:=Dx (Uc e) (Uc g) hd1 hg1 hg0 (hgd e (Qt ..));have hszg:=Qge hgs;by_cases hneg:e<0
  ·rw [if_pos hneg] at hgdef;have cn:=Qe5 (Uc ((Gm (e::(X++Y)):Nat):Int)) hszg;rw [<-hgdef] at cn;exact en tt [.lo,.s (Qit X),.s (Qit Y),.c [] cg,.t (by simpa using hneg),.c [] cn,.c [] ce,.c [] co1,.c [] co2] rfl rfl (by simp [Ua]; omega)
  ·rw [if_neg hneg] at hgdef;rw [<-hgdef] at cg;exact en tt [.lo,.s (Qit X),.s (Qit Y),.c [] cg,.f (by simpa using hneg),.c [] ce,.c [] co1,.c [] co2] rfl rfl (by simp [Ua]; omega)
theorem Q29 {k:Crv} (hn:Nml k) (hk:Cs 4294967294 1073741824 k):Ub Tryz.prog 185 [.agg (cl k)] [.agg (cl k)]:=by
 have h:=Qmq (Gi k.x) (Gi k.y) (Uc k.d) hk;rw [Crv.norm_of hn] at h; exact h
theorem Qmp {lx ly:List (List LV)} {px py:List Int} {x y:LV} {d:Int} (hx:IsInts lx px) (hy:IsInts ly py) (hd:He x y d) (hk:Cs 4294967294 1073741824 (Crv.mk px py d)) (h0:d≠0):Ub Tryz.prog 250 [.one (.row lx),.one (.row ly),.agg [x,y]] [.agg (cl (Crv.norm (Crv.mk px py d))),.one (.int .i64 0)]:=by
 have cd:=S6 hd (Qa hk.d (by omega));have cn:=Qmq hx hy hd hk;obtain ⟨b,l,rfl,rfl,_⟩:=hd;exact w tt Tryz.func250 rfl [.c [] cd,.c [] B7,.f (by simpa using h0),.c [] cn] rfl rfl trivial
theorem Ziz {lx ly:List (List LV)} {px py:List Int} (hx:IsInts lx px) (hy:IsInts ly py) (hk:Cs 4294967294 1073741824 (Crv.mk px py 0)):Ub Tryz.prog 145 [.one (.row lx),.one (.row ly)] [.agg (cl (Crv.norm (Crv.mk px py 0)))] :=
 w tt Tryz.func145 rfl [.c [] (Qmq hx hy Sr hk)] rfl rfl trivial
def Q8f (x y:Int):Crv:=Crv.norm ⟨trim [x],trim [y],0⟩
theorem Qpz {x y:Int} (hx:-9223372036854775808<=x/\x<=9223372036854775807) (hy:-9223372036854775808<=y/\y<=9223372036854775807):Cs 64 1 ⟨trim [x],trim [y],0⟩:=by
 have key:∀ z:Int,-9223372036854775808<=z/\z<=9223372036854775807->Ul z<=64:=λz hz=>by
  rw [H7];have:(2:Nat)^64=18446744073709551616:=by decide
  omega
 refine ⟨H9 λz hz=>?_,H9 λz hz=>?_,Qi _,G0 [x],G0 [y]⟩
 ·rw [Qp] at hz; rw [hz]; exact key x hx
 ·rw [Qp] at hz; rw [hz]; exact key y hy
theorem Zab {x y:Int} (hx:-9223372036854775808<=x/\x<=9223372036854775807) (hy:-9223372036854775808<=y/\y<=9223372036854775807):Ub Tryz.prog 76 [.one (.int .i64 x),.one (.int .i64 y)] [.agg (cl (Q8f x y))] :=
 w tt Tryz.func76 rfl [.c [] (Q2v (p:=[x]) (show 1<274877906944 by decide) (by intro z hz; rw [Qp] at hz; rw [hz]; exact hx)),.c [] (Q2v (p:=[y]) (show 1<274877906944 by decide) (by intro z hz; rw [Qp] at hz; rw [hz]; exact hy)),.c [] (Ziz (Gi _) (Gi _) ((Qpz hx hy).mono (by omega) (by omega)))] rfl rfl trivial
theorem Qu5 {l:List Pt} {i:Nat} {p:Pt} (h:l[i]? = some p):(l.map P9)[i]? = some [pl p.c.x,pl p.c.y,sg p.c.d,mg p.c.d,.int .i64 p.id]:=Gx h
theorem Qrx (l:List Pt):∀ c∈l.map P9,c.length=5:=Zeu l λ_=>rfl
theorem Zah {lx ly:List (List LV)} {px py:List Int} {x y:LV} {d:Int} (hx:IsInts lx px) (hy:IsInts ly py) (hd:He x y d) (hk:Cs 4294967294 1073741824 (Crv.mk px py d)) (id:Int):Ub Tryz.prog 194 [.agg [.row lx,.row ly,x,y,.int .i64 id]] [.agg (P9 ⟨Crv.norm (Crv.mk px py d),id⟩)]:=by
 have cd:=S6 hd (Qa hk.d (by omega));by_cases h0:d=0
 ·subst h0;have ck:Cs 4294967294 1073741824 (Crv.mk px py 1):=⟨hk.x,hk.y,show Ul 1<=4294967294 by decide,hk.lx,hk.ly⟩;have cm:=Qmp hx hy (Uc 1) ck (by decide);have e:Crv.norm (Crv.mk px py 1)=Crv.norm (Crv.mk px py 0):=by simp only [Crv.norm,Crv.g,Crv.d']; rfl
  rw [e] at cm;obtain ⟨b,l,rfl,rfl,_⟩:=hd;exact w tt Tryz.func194 rfl [.c [] cd,.c [] B7,.t (by simp),.c [] (Qjn (z:=1) (by decide)),.c [] cm] rfl rfl trivial
 ·have cm:=Qmp hx hy hd hk h0;obtain ⟨b,l,rfl,rfl,_⟩:=hd;exact w tt Tryz.func194 rfl [.c [] cd,.c [] B7,.f (by simpa using h0),.c [] cm] rfl rfl trivial
theorem Zi0 {l:List Pt} (id:Int) (hl:l.length<1073741824):Ub Tryz.prog 193 [.agg [pts l],.one (.int .i64 id)] [.one (.int .i64 (pos l id:Int)),.one (.bool (has l id))]:=by
 refine Gl Tryz.func193 rfl ?_;refine go tt [] rfl trivial ?_;refine ct 2 (S:=Unit) (λ_=>[(1,.v (.one (.int .i64 id))),(2,.v (.one (.ow 0 0))),(6,.v (.one (.int .i64 (pos l id:Int))))]) (λ_=>[.blk 80 [pts l]]) (λ_=>True) rfl ?_ ?_
 ·refine lp (S:=Nat) 1 (λL1 k=>(6,.v (.one (.int .i64 (k:Int))))::L1) (λ_=>[.blk 80 [pts l]]) (λk=>l.length-k) (λk=>k<=l.length/\∀ j p,j<k->l[j]? = some p->p.id<id) 0 ⟨Qi _,λj p h=>by omega⟩ rfl (λ_ _=>rfl) rfl λk ⟨hk,hlt⟩=>?_
  by_cases h:k<l.length
  ·obtain ⟨p,hp⟩:=gxE (l:=l) (i:=k) h;by_cases hid:p.id<id
   ·refine go tt [.t (by simp; omega),.x (Qu5 hp),.t (by simpa using hid)] rfl (by simp [Ua]; omega) ?_;exact rd (k+1) (by omega) ⟨h,λj q hj hq=>by
     rcases Q5 j k with h2 | h2
     ·exact hlt j q h2 hq
     ·have:j=k:=by omega
      subst this; rw [hp] at hq; injection hq with hq; rw [<-hq]; exact hid⟩ rfl
   ·have e:=Quy hlt (.inr ⟨p,hp,hid⟩);refine go tt [.t (by simp; omega),.x (Qu5 hp),.f (by simpa using hid)] rfl trivial ?_;rw [e];exact rc () trivial rfl
  ·obtain rfl:k=l.length:=by omega
   have e:=Quy hlt (.inl rfl);refine go tt [.f (by simp),.f rfl] rfl trivial ?_;rw [e];exact rc () trivial rfl
 ·intro _ _;by_cases h:pos l id<l.length
  ·obtain ⟨p,hp⟩:=gxE (l:=l) (i:=pos l id) h;have e:has l id=decide (p.id=id):=by simp [has,hp]
   rw [e];exact en tt [.g 30 true (by simp; omega),.x (Qu5 hp)] rfl rfl trivial
  ·have e:has l id=false:=by simp [has,Qr (Yj h)]
   rw [e];exact en tt [.g 30 false (by simp; omega)] rfl rfl trivial
theorem Q2o {l:List Pt}:Ub Tryz.prog 173 [.agg [pts l]] [.one (pts l)]:=w tt Tryz.func173 rfl [] rfl rfl trivial
theorem Ziu {lx ly:List (List LV)} {px py:List Int} {x y:LV} {d id:Int} {l:List Pt} (hx:IsInts lx px) (hy:IsInts ly py) (hd:He x y d) (hk:Cs 4294967294 1073741824 (Crv.mk px py d)) (hl:l.length<=1000000) :
 Ub Tryz.prog 123 [.agg [pts l],.agg [.row lx,.row ly,x,y,.int .i64 id]] [.agg [pts (if Ob l (Pt.mk (Crv.norm (Crv.mk px py d)) id)=0 then put l (Pt.mk (Crv.norm (Crv.mk px py d)) id) else l)],.one (.int .i64 (Ob l (Pt.mk (Crv.norm (Crv.mk px py d)) id)))]:=by
 have ca:=Zi0 (l:=l) id (by omega);have cf:=Zah hx hy hd hk id;obtain ⟨b,r,rfl,rfl,_⟩:=hd;obtain ⟨q,hq⟩:=nmE (Pt.mk (Crv.norm (Crv.mk px py d)) id);have hqi:q.id=id:=by rw [hq]
 rw [<-hq] at cf ⊢;have hpl:=Q6u l id;by_cases h1:has l id=true
 ·have e:Ob l q=6:=by simp [Ob,hqi,h1]
  rw [e,if_neg (by decide)];exact w tt Tryz.func123 rfl [.c [] ca,.t h1] rfl rfl trivial
 by_cases h2:6<=l.length
 ·have e:Ob l q=9:=by simp [Ob,hqi,h1,h2]
  rw [e,if_neg (by decide)];exact w tt Tryz.func123 rfl [.c [] ca,.f (by simpa using h1),.t (by simp; omega)] rfl rfl trivial
 have e:Ob l q=0:=by simp [Ob,hqi,h1,h2]
 rw [e,if_pos rfl];have s1:∀ c∈(l.map P9).take (pos l id),c.length=5:=λc hc=>Qrx l c (Qn hc)
 have s3:∀ c∈(l.map P9).drop (pos l id),c.length=5:=λc hc=>Qrx l c (Zg hc)
 refine w tt Tryz.func123 rfl [.c [] ca,.f (by simpa using h1),.f (by simp; omega),.i (pos l id),.s s1,.c [] cf,.i (pos l id),.s s3] rfl ?_ ?_
 ·simp [put,hqi,pts,Yd,Wh,P9]
 ·simp [Ua];exact ⟨by omega,hpl,λ_ _=>rfl,by omega,by omega,hpl⟩
theorem Q6b:∀ (qs:List Pt),(Rz [] qs).1.length<=qs.length:=by
 have key:∀ (qs acc:List Pt),(Rz acc qs).1.length<=acc.length+qs.length:=by
  intro qs
  induction qs with
  | nil=>intro acc; simp [Rz]
  |
   cons q qs ih =>
   intro acc;simp only [Rz]
   split
   ·have:=ih (put acc q); rw [Qyt] at this; simp only [Q8]; omega
   ·simp
 intro qs;have:=key qs [];simpa using this
theorem Zir {zs:List (List LV)} {qs:List Pt} (hz:IsPts 4294967294 1073741824 zs qs) (hl:qs.length<=6):Ub Tryz.prog 129 [.one (.row zs)] [.agg [pts (Rz [] qs).1],.one (.int .i64 (Rz [] qs).2)]:=by
 refine Gl Tryz.func129 rfl ?_;have hzl:=hz.len;refine go tt [.f (by simp; omega)] rfl trivial ?_;refine nlb 1 rfl rfl rfl ?_;refine lp (S:=Nat) 2 (λL1 i=>(14,.v (.one (.int .i64 (i:Int))))::L1) (λi=>[.blk 80 [.nils],.blk 80 [pts (Rz [] (qs.take i)).1]]) (λi=>qs.length-i) (λi=>i<=qs.length/\(Rz [] (qs.take i)).2=0) 0 ⟨Qi _,rfl⟩ rfl (λ_ _=>rfl) rfl λi ⟨hi,h0⟩=>?_
 by_cases hlt:i<qs.length
 ·have hqi:qs[i]? = some qs[i]:=Qd hlt;obtain ⟨z,hzi,lx,ly,b,r,px,py,d,rfl,hx,hy,hd,hk,hc⟩:=hz.get hqi;have hq:(Pt.mk (Crv.norm (Crv.mk px py d)) qs[i].id)=qs[i]:=by rw [<-hc]
  have hst:=Q0x [] qs hqi (by rw [<-h0]);have hnl:=Q6b (qs.take i);have cp:=Ziu (l:=(Rz [] (qs.take i)).1) (id:=qs[i].id) hx hy hd hk (by rw [Qy] at hnl; omega);rw [hq] at cp;by_cases he:Ob (Rz [] (qs.take i)).1 qs[i]=0
  ·rw [if_pos he] at hst;rw [he,if_pos rfl] at cp;refine go tt [.t (by simp; omega),.x hzi,.c [] cp,.f rfl] rfl (by simp [Ua]; omega) ?_;exact rd (i+1) (by omega) ⟨hlt,by rw [hst]⟩ (by rw [hst]; rfl)
  ·rw [if_neg he] at hst;have herr:=Q6a [] qs he hst;rw [herr];exact en tt [.t (by simp; omega),.x hzi,.c [] cp,.t (by simpa using he)] rfl rfl trivial
 ·obtain rfl:i=qs.length:=by omega
  rw [Q4] at h0;rw [Q4,h0];exact en tt [.f (by simp; omega)] rfl rfl trivial
theorem Qov (q:Rat):Uf [-q.num,(q.den:Int)]:=by
 have:=q.den_nz;simp [Uf,trim,this]
theorem Zim {s:Nat} {q:Rat} (h:Qs s q):Bd s [-q.num,(q.den:Int)]:=λz hz=>by
 simp at hz;rcases hz with rfl | rfl
 ·rw [Fy]; exact h.1
 ·exact h.2
theorem Zea {x y x' y':LV} {n d:Int} (h1:He x y n) (h2:He x' y' d) (hn:Ul n<=4294967295) (hd:Ul d<=4294967295) (hq:Qs 4294967295 (Fg n d)):Ub Tryz.prog 83 [.agg [x,y,x',y']] [.agg (qa (Fg n d))]:=by
 have c1:=Q3w h1 h2 hn hd;obtain ⟨b,l,rfl,rfl,_⟩:=h1;obtain ⟨b',l',rfl,rfl,_⟩:=h2;exact w tt Tryz.func83 rfl [.c [] c1,.c [] (Qe5 (Uc _) hq.1),.c [] (Ex hq)] rfl rfl trivial
theorem Qf6 {k:Crv} (hn:Nml k) (hk:Cs 4294967294 1073741824 k):Ub Tryz.prog 230 [.agg (cl k)] [.agg (cl k)]:=by
 have h0:k.d≠0:=by have:=hn.2.2.1; omega
 have cm:=Qmp (Gi k.x) (Gi k.y) (Uc k.d) hk h0;rw [show Crv.mk k.x k.y k.d=k from rfl,Crv.norm_of hn] at cm;exact w tt Tryz.func230 rfl [.c [] (S6 (Uc k.d) (Qa hk.d (by omega))),.c [] B7,.f (by simpa using h0),.c [] cm] rfl rfl trivial
theorem Qwk {a b:Crv} (ha:Nml a) (hb:Nml b) (ca:Cb a) (cb:Cb b):Ub Tryz.prog 235 [.agg (cl a),.agg (cl b)] [pr (Gz a b)]:=by
 have l1:=ca.lx;have l2:=cb.lx;have l3:=Uz b.x a.d;have l4:=Uz a.x b.d;exact w tt Tryz.func235 rfl [.c [] (Qf6 ha (ca.mono (by omega) (by omega))),.c [] (Qf6 hb (cb.mono (by omega) (by omega))),.c [] (Bq (by omega) (W9 cb.x (by omega)) (Qa ca.d (by omega))),.c [] (Bq (by omega) (W9 ca.x (by omega)) (Qa cb.d (by omega))),.c [] (Qmm (by omega) (by omega) (W9 (U9 cb.x ca.d) (by omega)) (W9 (U9 ca.x cb.d) (by omega)))] rfl rfl trivial
theorem Qwd {a b:Crv} (ha:Nml a) (hb:Nml b) (ca:Cb a) (cb:Cb b):Ub Tryz.prog 236 [.agg (cl a),.agg (cl b)] [pr (Hj a b)]:=by
 have l1:=ca.ly;have l2:=cb.ly;have l3:=Uz b.y a.d;have l4:=Uz a.y b.d;exact w tt Tryz.func236 rfl [.c [] (Qf6 ha (ca.mono (by omega) (by omega))),.c [] (Qf6 hb (cb.mono (by omega) (by omega))),.c [] (Bq (by omega) (W9 cb.y (by omega)) (Qa ca.d (by omega))),.c [] (Bq (by omega) (W9 ca.y (by omega)) (Qa cb.d (by omega))),.c [] (Qmm (by omega) (by omega) (W9 (U9 cb.y ca.d) (by omega)) (W9 (U9 ca.y cb.d) (by omega)))] rfl rfl trivial
def Ta (ps:List (List Int)):List (List LV):=ps.map λp=>[pl p]
theorem Ha {ps:List (List Int)} {i:Nat} {p:List Int} (h:ps[i]? = some p):(Ta ps)[i]? = some [pl p]:=Gx h
theorem Q3b {p q:List Int}:Ub Tryz.prog 234 [pr p,pr q] [pr (E8 p q)]:=by
 by_cases h:0<p.length
 ·exact w tt Tryz.func234 rfl [.t (by simp; omega)] rfl (by simp only [E8]; rw [if_pos h]) trivial
 ·exact w tt Tryz.func234 rfl [.f (by simp; exact Qh (by omega))] rfl (by simp only [E8]; rw [if_neg h]) trivial
theorem Qzu:Ub Tryz.prog 233 [.one (.int .i64 1)] [.one (.int .i64 2)]:=w tt Tryz.func233 rfl [.t rfl,.t rfl] rfl rfl trivial
theorem Q2n {k i0 i1 i2 i3 l j0 j1 j2 j3:Int}:Ub Tryz.prog 152 [.agg [.int .i64 k,.int .i64 i0,.int .i64 i1,.int .i64 i2,.int .i64 i3],.agg [.int .i64 l,.int .i64 j0,.int .i64 j1,.int .i64 j2,.int .i64 j3]] [.one (.bool (Hm [k,i0,i1,i2,i3] [l,j0,j1,j2,j3]))]:=by
 by_cases hk:k=l
 ·subst hk;rw [show Hm [k,i0,i1,i2,i3] [k,j0,j1,j2,j3]=Hm [i0,i1,i2,i3] [j0,j1,j2,j3] from by simp [Hm]];refine Gl Tryz.func152 rfl ?_;refine go tt [.f (by simp)] rfl trivial ?_;refine lp (S:=Nat) 2 (λL1 i=>(19,.v (.one (.int .i64 (i:Int))))::L1) (λ_=>[.blk 88 [.int .i64 k,.int .i64 i0,.int .i64 i1,.int .i64 i2,.int .i64 i3],.blk 88 [.int .i64 k,.int .i64 j0,.int .i64 j1,.int .i64 j2,.int .i64 j3]]) (λi=>4-i) (λi=>i<=4/\Hm ([i0,i1,i2,i3].drop i) ([j0,j1,j2,j3].drop i)=Hm [i0,i1,i2,i3] [j0,j1,j2,j3]) 0 ⟨by omega,rfl⟩ rfl (λ_ _=>rfl) rfl λi ⟨hi,he⟩=>?_
  rw [<-he];rcases (show i=0\/i=1\/i=2\/i=3\/i=4 by omega) with rfl | rfl | rfl | rfl | rfl
  ·by_cases h:i0=j0
   ·exact go tt [.t rfl,.i 0,.i 0,.f (by simpa using h)] rfl (by simp [Ua]) (rd 1 (by omega) ⟨by omega,by simp [Hm,h]⟩ rfl)
   ·exact en tt [.t rfl,.i 0,.i 0,.t (by simpa using h),.i 0] rfl (by simp [Hm,h]) trivial
  ·by_cases h:i1=j1
   ·exact go tt [.t rfl,.i 1,.i 1,.f (by simpa using h)] rfl (by simp [Ua]) (rd 2 (by omega) ⟨by omega,by simp [Hm,h]⟩ rfl)
   ·exact en tt [.t rfl,.i 1,.i 1,.t (by simpa using h),.i 1] rfl (by simp [Hm,h]) trivial
  ·by_cases h:i2=j2
   ·exact go tt [.t rfl,.i 2,.i 2,.f (by simpa using h)] rfl (by simp [Ua]) (rd 3 (by omega) ⟨by omega,by simp [Hm,h]⟩ rfl)
   ·exact en tt [.t rfl,.i 2,.i 2,.t (by simpa using h),.i 2] rfl (by simp [Hm,h]) trivial
  ·by_cases h:i3=j3
   ·exact go tt [.t rfl,.i 3,.i 3,.f (by simpa using h)] rfl (by simp [Ua]) (rd 4 (by omega) ⟨by omega,by simp [Hm,h]⟩ rfl)
   ·exact en tt [.t rfl,.i 3,.i 3,.t (by simpa using h),.i 3] rfl (by simp [Hm,h]) trivial
  ·exact en tt [.f rfl] rfl (by simp [Hm]) trivial
 ·exact w tt Tryz.func152 rfl [.t (by simpa using hk)] rfl (by simp [Hm,hk]) trivial
abbrev zCt:List LV:=[.int .i64 0,.int .i64 0,.int .i64 0,.int .i64 0,.int .i64 0,.nils,.int .i64 0]
def Gs (l:List Ct):List (List LV):=l.map Qjw
theorem Qa0 {l:List Ct} {i:Nat} {c:Ct} (h:l[i]? = some c):(Gs l)[i]? = some (Qjw c):=Gx h
theorem Da (l:List Ct):(Gs l).length=l.length:=by simp [Gs]
theorem Q4b (l:List Ct):∀ c∈Gs l,c.length=7:=λc hc=>by
 obtain ⟨x,_,rfl⟩:=Zr.1 hc; rfl
theorem Q5p {O:List Ct} {z:List LV} {c:Ct} {k m:Nat} {l2:List (List LV)} (hk:k<=O.length) (hp:I5 O c O.length=k) (hm:m=O.length-k) (h2:l2.take m=((Gs O++[z]).drop k).take m) :
 ((Gs O++[z]).take (k+1)++(l2.take m++(Gs O++[z]).drop (k+1+m))).set k (Qjw c)=Gs (Qa4 O c):=by
 rw [h2,<-Zz,Qqp (Gs O) z (Qjw c) (by rw [Da]; omega) (by rw [Da]; omega)];simp [Qa4,hp,Gs,Yd,Wh]
theorem Qth {l:List Ct} (hl:∀ c∈l,Pb c.p) (hn:l.length≤1000000):Ub Tryz.prog 86 [.one (.row (Gs l))] [.one (.row (Gs (Gk l)))]:=by
 have hcl:=Da l;refine Gl Tryz.func86 rfl ?_;refine go tt [.o 3 90 7] rfl trivial ?_;refine lp (S:=Nat) 1 (λL1 i=>(9,.v (.one (.int .i64 (i:Int))))::(3,.v (.one (.orow 0 7 none)))::L1) (λi=>[.row false 90 7 (Gs (Gk (l.take i)))]) (λi=>l.length-i) (λi=>i<=l.length) 0 (Qi _) rfl (λ_ _=>rfl) rfl λi hi=>?_
 by_cases hlt:i<l.length
 ·obtain ⟨c,hc⟩:=gxE (l:=l) (i:=i) hlt;have hst:=Qvq hc;have hcp:=hl c (Qc hc);obtain ⟨O,hO⟩:=nmE (Gk (l.take i));have hOl:O.length=i:=by rw [hO,Nz,Qy]; omega
  rw [<-hO] at hst ⊢;refine go tt [.t (by simp [hcl]; omega),.x (Qa0 hc)] rfl trivial ?_;refine lp (S:=Nat) 2 (λL1 k=>(6,.v (.one (.int .i64 (k:Int))))::L1) (λk=>[.row false 90 7 (Gs O),.blk 90 (Qjw c)]) id (λk=>k<=O.length/\I5 O c k=I5 O c O.length) (Gs O).length ⟨by rw [Da]; exact Qk _,by rw [Da]⟩ rfl (λ_ _=>rfl) rfl λk ⟨hk,hp⟩=>?_
  have hz:∀ y∈[zCt],y.length=7:=λy hy=>by rw [Qp.1 hy]; rfl
  have h77:∀ y∈Gs O++[zCt],y.length=7:=λy hy=>by
   rcases Qz.1 hy with hy | hy
   ·exact Q4b O y hy
   ·exact hz y hy
  cases k with
  |
   zero =>
   have hp:I5 O c O.length=0:=by rw [<-hp]; rfl
   refine go tt [.g 17 false (by simp),.f rfl,.s (sz:=7) hz,.r 36 (eI (b:=((0+1:Nat):Int)) (by simp)),.i (0+1),.i (0),.s (sz:=7) (λy hy=>h77 y (Qn hy)),.i (O.length),.c [] (Gq hcp.t (by have:=hcp.l; omega) (W9 hcp.b (by omega))),.i (0)] rfl (by simp [Ua,Da]; omega) ?_;exact rd (i+1) (by omega) hlt (by rw [hst,<-Q5p (z:=zCt) (l2:=(Gs O++[zCt]).take ((Gs O++[zCt]).length-0)) (k:=0) (m:=O.length) (by omega) hp (by omega) (by congr 1; exact Qo (by simp))]; rfl)
  |
   succ k =>
   obtain ⟨x,hx⟩:=gxE (l:=O) (i:=k) (by omega);by_cases hlc:Nk c x=true
   ·refine go tt [.g 17 true (by simp),.r 22 (eI (b:=(k:Int)) (by simp)),.i k,.x (Qa0 hx),.c [] Q2n,.t hlc,.r 29 (eI (b:=(k:Int)) (by simp))] rfl (by simp [Ua,Da]; omega) ?_;exact rd k (by simp) ⟨by omega,by rw [<-hp,Zcg hx hlc]⟩ rfl
   ·have hlc:Nk c x=false:=by simpa using hlc
    have hp:I5 O c O.length=k+1:=by rw [<-hp,Q6t hx hlc]
    refine go tt [.g 17 true (by simp),.r 22 (eI (b:=(k:Int)) (by simp)),.i k,.x (Qa0 hx),.c [] Q2n,.f hlc,.s (sz:=7) hz,.r 36 (eI (b:=((k+1+1:Nat):Int)) (by simp)),.i (k+1+1),.i (k+1),.s (sz:=7) (λy hy=>h77 y (Zg (Qn hy))),.i (O.length-(k+1)),.c [] (Gq hcp.t (by have:=hcp.l; omega) (W9 hcp.b (by omega))),.i (k+1)] rfl (by simp [Ua,Da]; omega) ?_;exact rd (i+1) (by omega) hlt (by rw [hst,<-Q5p (z:=zCt) (l2:=((Gs O++[zCt]).drop (k+1)).take ((Gs O++[zCt]).length-(k+1))) (k:=k+1) (m:=O.length-(k+1)) (by omega) hp (by omega) (by congr 1; exact Qo (by simp))]; rfl)
 ·obtain rfl:i=l.length:=by omega
  rw [Q4];exact en tt [.f (by simp [hcl])] rfl rfl trivial
end Orr
namespace Orr
def Un (p:List Int):Int:=p.getD (p.length-1) 0
def chk (p:List Int):Option (List Int):=if p.length<=64/\(p.all λz=>Nat.ble (Ul z) 16777216)=true then some p else none
def chq (q:Rat):Option Rat:=if Ul q.num<=16777216/\Ul (q.den:Int)<=16777216 then some q else none
def H2 (p:List Int):Int:=(Gm p:Nat)
def Nm (p:List Int) (c:Int):List Int:=trim (p.map (· / c))
def Fp (p:List Int):Int:=if Un p<0 then -H2 p else H2 p
def Uh (p:List Int):List Int:=if p.length=0 then [] else Nm p (Fp p)
def mono (i:Nat) (x:Int):List Int:=List.replicate i 0++[x]
def psd (b:List Int) (c:Int):Nat->List Int×List Int->List Int×List Int
 | 0,s=>s
 |
  i+1,(q,r) =>
  psd b c i (Qal (Uu q c) (mono i (if r.length=b.length+i then Un r else 0)),Tj (Uu r c) (Fu (trim (mono i (if r.length=b.length+i then Un r else 0))) b))
def Ty (a b:List Int):List Int:=(psd b (Un b) (a.length+1-b.length) ([],a)).2
def Pg (a b r:List Int):List Int:=if (a.length+1-b.length) % 2=1/\Un b<0 then Sv r else r
def Do (r:List Int):List Int:=if r.length=0 then [] else Nm r (H2 r)
def Fz (a b:List Int):List Int:=Do (Pg a b (Ty a b))
def Qn5 (b:List Int):Nat->List Int->List Int->Option (List Int)
 | 0,a,q=>if a.length=0 then some q else none
 | i+1,a,q=>if a.length<b.length+i then Qn5 b i a q else if Un a % Un b=0 then Qn5 b i (Tj a (Fu (trim (mono i (Un a / Un b))) b)) (q.set i (Un a / Un b)) else none
def I7 (a b:List Int):Option (List Int):=if b.length=0 then none else (Qn5 b (a.length+1-b.length) a (List.replicate (a.length+1-b.length) 0)).bind λq=>chk (trim q)
def Qev:Nat->List Int->List Int->Option (List Int)
 | 0,_,_=>none
 | k+1,a,b=>if b.length=0 then some a else (chk (Fz a b)).bind λr=>Qev k b r
def Oa (a b:List Int):Option (List Int):=(Qev 66 (Uh a) (Uh b)).map Uh
def Qn7 (a b:List Int):Option (List Int):=(Oa [] a).bind λg=>Oa g b
def Se (a:List Int):Option (List Int):=if (Uh a).length<2 then some (Uh a) else (chk (U3 (Uh a))).bind λd=>(Oa (Uh a) d).bind λg=>I7 (Uh a) g
def Qeb:Nat->List Int->Option (List (List Int))
 | 0,_=>none
 | k+1,g=>if g.length<2 then some [] else (chk (U3 g)).bind λd=>(Oa g d).bind λh=>(I7 g h).bind λw=>(Qeb k h).bind λl=>some (w::l)
def Qjr:List (List Int)->Option (List (List Int))
 | []=>some []
 | [w]=>some [w]
 | w::v::l=>(I7 w v).bind λf=>(Qjr (v::l)).bind λr=>some (f::r)
def Qck:Nat->List Int->List (List Int)->Option (List Int)
 | _,p,[]=>some p
 | i,p,f::l=>if i % 2=0 then (chk (Fu p f)).bind λq=>Qck (i+1) q l else Qck (i+1) p l
def Quw (a:List Int):Option (List Int):=if (Uh a).length=0 then some [] else (Qeb 66 (Uh a)).bind λl=>(Qjr l).bind λfs=>Qck 0 [1] fs
def chF:Nat->List Int->List Int->Option (List (List Int))
 | 0,_,_=>none
 | k+1,a,b=>if b.length=0 then some [] else (chk (Fz a b)).bind λr=>(chF k b (Sv r)).bind λl=>some (b::l)
def chain (p:List Int):Option (List (List Int)):=(Se p).bind λa=>if a.length=0 then none else (chk (U3 a)).bind λd=>(chF 66 a (Uh d)).bind λl=>some (a::l)
def Ho (sg:List Int->Int) (s:Nat×Int) (p:List Int):Nat×Int:=if sg p=0 then s else (if s.2=-(sg p) then s.1+1 else s.1,sg p)
def Pw (sg:List Int->Int) (l:List (List Int)):Nat:=(l.foldl (Ho sg) (0,0)).1
def Sf (l:List (List Int)) (q:Rat):Nat:=Pw (λp=>U4 p q) l
def Gw (l:List (List Int)) (lo hi:Rat):Int:=if U7 hi lo<0 then 0 else (Sf l lo:Int)-(Sf l hi:Int)
def Qb0 (p:List Int):Int:=Int.sign (Un p)
def A6 (p:List Int):Int:=if p.length % 2=0 then -Int.sign (Un p) else Int.sign (Un p)
def Od (l:List (List Int)):Int:=(Pw A6 l:Int)-(Pw Qb0 l:Int)
def most:List Int->Nat:=λl=>l.foldl (λm z=>if m<z.natAbs then z.natAbs else m) 0
def Fq (p:List Int):Rat:=Rat.divInt (((Un p).natAbs:Int)+(most (p.take (p.length-1)):Int)) ((Un p).natAbs:Int)
def A2 (a b:Rat):Rat:=Rat.divInt (a.num*(b.den:Int)+b.num*(a.den:Int)) ((a.den:Int)*(b.den:Int)*2)
def Dq (p:List Int) (c:List (List Int)):Nat->Rat->Rat->Int->Option (List Tm)
 | 0,_,_,_=>none
 | k+1,lo,hi,n=>if n=0 then some [] else if n=1 then some [⟨p,lo,hi⟩] else (chq (A2 lo hi)).bind λm=>(Dq p c k lo m (Gw c lo m)).bind λl=>(Dq p c k m hi (n-Gw c lo m)).bind λr=>some (l++r)
def Qi1 (p:List Int):Option (List Tm):=(chain p).bind λc=>(Se p).bind λq=>(chq (Fq q)).bind λb=>Dq q c 100000 (-b) b (Od c)
def Tm.point (a:Tm):Bool:=decide (0<=U7 a.lo a.hi)
def low (p:List Int) (q:Rat):Int:=if U4 p q≠0 then U4 p q else U4 (U3 p) q
def Qb6 (p:List Int) (lo hi:Rat):Bool:=decide (U4 p hi=0\/U4 p hi≠low p lo)
def Up (a:Tm) (t:Rat):Int :=
 if a.point=true then U7 a.lo t else if U7 t a.lo<=0 then 1 else if 0<U7 t a.hi then -1 else if U4 a.p t=0 then 0 else if U4 a.p t=low a.p a.lo then 1 else -1
def Qnf (a:Tm):Option Tm:=if a.point=true then some a else (chq (A2 a.lo a.hi)).bind λm =>
 some (if Up a m=0 then ⟨a.p,m,m⟩ else if Up a m=-1 then ⟨a.p,a.lo,m⟩ else ⟨a.p,m,a.hi⟩)
def Fv (p:List Int):Nat:=p.foldl (λn z=>max n (Ul z)) 0
def Tz (a b:Tm):Nat:=64+2*(Ul a.lo.num+Ul a.hi.num+Ul b.lo.num+Ul b.hi.num)+4*(a.p.length+b.p.length)*(Fv a.p+Fv b.p+(a.p.length+b.p.length)+8)
def Qi3 (a b:Rat):Rat:=Rat.divInt (a.num*(b.den:Int)-b.num*(a.den:Int)) ((a.den:Int)*(b.den:Int))
def Bp (a b:Tm):Bool:=decide (U7 a.hi b.lo<=0/\¬((a.point=true/\b.point=true)/\U7 a.hi b.lo=0))
def apF:Nat->Tm->Tm->Option (Tm×Tm×Int)
 | 0,a,b=>some (a,b,0)
 |
  k+1,a,b=>if Bp a b=true then some (a,b,-1) else if Bp b a=true then some (a,b,1) else
  if 0<=U7 (Qi3 a.hi a.lo) (Qi3 b.hi b.lo) then (Qnf a).bind λx=>apF k x b else (Qnf b).bind λx=>apF k a x
def Qfv (a b:Tm):Option Int:=if a.point=true then some (-Up b a.lo) else if b.point=true then some (Up a b.lo) else
 let lo:=if 0<U7 b.lo a.lo then b.lo else a.lo
 let hi:=if U7 b.hi a.hi<0 then b.hi else a.hi
 if U7 lo hi<0 then (Qn7 a.p b.p).bind λg=>if 1<g.length/\Qb6 g lo hi=true then some 0 else (apF (Tz a b) a b).bind λr=>some r.2.2
 else (apF (Tz a b) a b).bind λr=>some r.2.2
def sgF (c:List (List Int)):Nat->Tm->Option Tm
 | 0,a=>some a
 | k+1,a=>if a.point=true\/Gw c a.lo a.hi=0 then some a else (Qnf a).bind λx=>sgF c k x
def Qi6 (p:List Int) (a:Tm):Option Int:=if p.length=0 then some 0 else if a.point=true then some (U4 p a.lo) else
 (Qn7 p a.p).bind λg=>if 1<g.length/\Qb6 g a.lo a.hi=true then some 0 else (chain p).bind λc=>(sgF c (64+2*(Ul a.lo.num+Ul a.hi.num)+4*(a.p.length+p.length)*(Fv a.p+Fv p+(a.p.length+p.length)+8)) a).bind λx=>some (U4 p x.hi)
def Ah:Tm->List Tm->Option Tm
 | b,[]=>some b
 | b,a::l=>(Qfv a b).bind λc=>Ah (if c<0 then a else b) l
def Qaq (a:Tm):List Tm->Option (Option Tm)
 | []=>some none
 | r::l=>(Qfv r a).bind λc=>if 0<c then some (some r) else Qaq a l
def Lq (p:List Int):Option (List Tm):=(Quw p).bind λq=>if q.length=0 then some [] else Qi1 q
def Qfi (p:List Int) (a:Tm):Option (Option Tm):=(Lq p).bind λl=>Qaq a l
end Orr
namespace Orr
open Go Go.Proofs
set_option maxRecDepth 10000
theorem Bi {p:List Int} (tp:Uf p) (h:p.length≠0):Un p≠0:=Gh tp (by omega)
theorem Qii {p:List Int} (h:p.length≠0):Un p∈p:=Qc (Hh (by omega))
theorem Po {s:Nat} {p:List Int} (h:Bd s p):Ul (Un p)<=s:=Um h _
theorem Cw {p:List Int}:∀ z∈p,H2 p∣z:=Iu
theorem Ee {p:List Int} (tp:Uf p) (h:p.length≠0):H2 p≠0:=λh0=>Bi tp h (Int.zero_dvd.1 (h0 ▸ Cw _ (Qii h)))
theorem Oy {p:List Int} (h:Bd 4294967295 p):Ul (H2 p)<=4294967295:=Qge h
theorem Qym {p:List Int} (tp:Uf p) (h:p.length≠0):Fp p≠0:=by
 have:=Ee tp h;unfold Fp; split <;> omega
theorem Qco {p:List Int}:∀ z∈p,Fp p∣z:=λz hz=>by
 unfold Fp; split
 ·exact W6.2 (Cw z hz)
 ·exact Cw z hz
theorem Q5r {p:List Int} (h:Bd 4294967295 p):Ul (Fp p)<=4294967295:=by
 unfold Fp; split
 ·rw [Fy]; exact Oy h
 ·exact Oy h
theorem Qg1 {s:Nat} {p:List Int} (h:Bd s p) (c:Int):Bd s (Nm p c):=H9 (Qdk h c)
theorem Qk5 (p:List Int) (c:Int):(Nm p c).length<=p.length:=Qa (G0 _) (by simp)
theorem As (p:List Int) (c:Int):Uf (Nm p c):=Gu _
theorem Q6o {p:List Int} (h:Pb p) (c:Int):Pb (Nm p c):=⟨As _ _,Qa (Qk5 _ _) h.l,Qg1 h.b c⟩
theorem Qei:Pb []:=⟨rfl,by simp,Np⟩
theorem Hk {p:List Int} (h:Pb p):Pb (Uh p):=by
 unfold Uh; split
 ·exact Qei
 ·exact Q6o h _
theorem Pb.bd {p:List Int} (h:Pb p):Bd 4294967295 p:=W9 h.b (by omega)
theorem Pb.ln {p:List Int} (h:Pb p):p.length<274877906944:=Zy h.l (by omega)
theorem Pb.ln' {p:List Int} (h:Pb p):p.length<8589934592:=Zy h.l (by omega)
theorem Ey {p q:List Int} (tp:Uf p) (h:chk p=some q):q=p/\Pb p:=by
 unfold chk at h
 split at h
 ·rename_i hc;injection h with h;refine ⟨h.symm,tp,hc.1,λz hz=>?_⟩;have:=Yi.1 hc.2 z hz;exact Xq this
 ·cases h
theorem Qwo {p:List Int} {g:Int} (hl:p.length<274877906944) (hp:Bd 4294967295 p) (hg:Ul g≤4294967295) (h0:g≠0) (hd:∀ z∈p,g∣z):Ub Tryz.prog 308 [pr p,.agg (Ft g)] [pr (Nm p g)]:=by
 refine Gl Tryz.func308 rfl ?_;refine go tt [.r 9 (eI (b:=(p.length:Int)) (by simp)),.i p.length,.i p.length,.r 12 (eI (b:=(p.length:Int)) (by simp))] rfl (by simp [Ua]; omega) ?_;rw [Dd λk=>Ft (p.getD k 0 / g)];refine lp (S:=Nat) 2 (λL1 k=>(13,.v (.one (.int .i64 (k:Int))))::L1) (λk=>[.blk 51 (Ft g),.row false 51 2 (fil (λk=>Ft (p.getD k 0 / g)) [.bool false,.nils] p.length k)]) (λk=>p.length-k) (λk=>k<=p.length) 0 (Qi _) rfl (λ_ _=>rfl) rfl λk hk=>?_
 by_cases hlt:k<p.length
 ·have hg2:=Hh hlt;refine go tt [.t (by simp; omega),.x (Tx hg2),.c [] (Dx (Uc _) (Uc _) (Um hp k) hg h0 (Ju (hd _ (Qc hg2)))),.i k] rfl (by simp [Ua,La]; omega) ?_;have e:=Ac (λk=>Ft (p.getD k 0 / g)) [.bool false,.nils] hlt;rw [e];exact rd (k+1) (by omega) hlt rfl
 ·obtain rfl:k=p.length:=by omega
  have e:fil (λk=>Ft (p.getD k 0 / g)) [.bool false,.nils] p.length p.length=(p.map (· / g)).map Ft:=by
   rw [Ab];refine Xp λi=>?_
   by_cases hi:i<p.length
   ·simp [X1 hi,List.getD,Qd hi]
   ·simp [Qr,hi]
  rw [e];exact en tt [.f (by simp),.c [] (Be (Gi (p.map (· / g))) (by simp; exact hl) (Qdk hp g))] rfl rfl trivial
theorem Qdm {p:List Int} (hl:p.length<8589934592) (hp:Bd 4294967295 p):Ub Tryz.prog 309 [.one (.row [[pl p]])] [.agg (Ft (H2 p))]:=by
 refine Gl Tryz.func309 rfl ?_;refine go tt [.o 3 51 2] rfl trivial ?_;refine lp (S:=Nat) 2 (λL1 i=>(8,.v (.one (.int .i64 (i:Int))))::(3,.v (.one (.orow 1 2 none)))::L1) (λi=>[.blk 51 [.bool false,.nils],.row false 51 2 (if i=0 then [] else p.map Ft)]) (λi=>1-i) (λi=>i<=1) 0 (Qi _) rfl (λ_ _=>rfl) rfl λi hi=>?_
 rcases (show i=0\/i=1 by omega) with rfl | rfl
 ·refine go tt [.t rfl,.x (i:=0) (xs:=[pl p]) rfl,.s (Qit p)] rfl (by simp [Ua]; omega) ?_;exact rd 1 (by omega) (by omega) rfl
 ·exact en tt [.f rfl,.c [] (Q2j (Gi p) hp)] rfl rfl trivial
theorem Q3m {p:List Int} (tp:Uf p) (hl':p.length<8589934592) (hp:Bd 4294967295 p):Ub Tryz.prog 304 [pr p] [.agg (Ft (if p.length=0 then 0 else Fp p)),pr (Uh p)]:=by
 have hl:p.length<274877906944:=by omega
 have cn:=Gq tp hl hp;by_cases h0:p.length=0
 ·have e:p=[]:=Qh h0;subst e;exact w tt Tryz.func304 rfl [.c [] cn,.t rfl] rfl (by simp [Dm,Uh]; rfl) trivial
 ·have hpf:Uh p=Nm p (Fp p):=by unfold Uh; rw [if_neg h0]
  rw [if_neg h0,hpf];have co:=Qwo hl hp (Q5r hp) (Qym tp h0) Qco;by_cases hneg:Un p<0
  ·have e:Fp p=-H2 p:=by unfold Fp; rw [if_pos hneg]
   rw [e] at co ⊢;exact w tt Tryz.func304 rfl [.c [] cn,.f (by simpa using h0),.c [] (Qdm hl' hp),.c [] (Bb tp hl hp),.t (by simpa [Un] using hneg),.c [] (Qe5 (Uc _) (Oy hp)),.c [] co] rfl rfl trivial
  ·have e:Fp p=H2 p:=by unfold Fp; rw [if_neg hneg]
   rw [e] at co ⊢;exact w tt Tryz.func304 rfl [.c [] cn,.f (by simpa using h0),.c [] (Qdm hl' hp),.c [] (Bb tp hl hp),.f (by simpa [Un] using hneg),.c [] co] rfl rfl trivial
theorem Dz {p:List Int} (hp:Pb p):Ub Tryz.prog 268 [pr p] [pr (Uh p)] :=
 w tt Tryz.func268 rfl [.c [] (Q3m hp.t hp.ln' hp.bd)] rfl rfl trivial
theorem Pe (p:List Int):Ub Tryz.prog 161 [pr p] [.one (.int .i64 ((p.length:Int)-1))]:=by
 have h:Ub Tryz.prog 161 [pr p] [.one (.int .i64 (((p.map Ft).length:Int)-1))]:=Gl Tryz.func161 rfl (ln 0 rfl rfl λhl=>en tt [] rfl rfl (by simp [Ua] at hl ⊢; omega));rw [Ze] at h; exact h
theorem Ea (i:Nat) (x:Int):(mono i x).length=i+1:=by simp [mono]
theorem Qgz {s i:Nat} {x:Int} (h:Ul x<=s):Bd s (mono i x):=λz hz=>by
 simp only [mono,Qz,Qp] at hz;rcases hz with hz | rfl
 ·rw [(List.mem_replicate.1 hz).2,Pp]; exact Qi _
 ·exact h
def stq (c:Int) (i:Nat) (x:Int) (q:List Int):List Int:=Qal (Uu q c) (mono i x)
def str (b:List Int) (c:Int) (i:Nat) (x:Int) (r:List Int):List Int:=Tj (Uu r c) (Fu (trim (mono i x)) b)
theorem Zfi {u t i:Nat} {c x:Int} {q:List Int} (hq:Bd u q) (hc:Ul c<=t) (hx:Ul x<=u):Bd (u+t+8) (stq c i x q) :=
 W9 (Q9q (U9 hq hc) (Qgz hx)) (by omega)
theorem Zbt {c x:Int} {i:Nat} {q:List Int}:(stq c i x q).length<=max q.length (i+1):=by
 have h:=Q5w (Uu q c) (mono i x);have h1:=Uz q c;rw [Ea] at h;unfold stq; omega
theorem Qnm {i:Nat} {x:Int} {b:List Int}:(Fu (trim (mono i x)) b).length<=i+b.length:=by
 have h:=Q5x (trim (mono i x)) b;have h1:=G0 (mono i x);rw [Ea] at h1; omega
theorem Qwc {u t i:Nat} {x:Int} {b:List Int} (hb:Bd t b) (hx:Ul x<=u) (hi:i<=64):Bd (u+t+7) (Fu (trim (mono i x)) b) :=
 Q9r (H9 (Qgz hx)) hb (Zy (G0 _) (by rw [Ea]; omega))
theorem Qsz {u t i:Nat} {c x:Int} {b r:List Int} (hr:Bd u r) (hb:Bd t b) (hc:Ul c<=t) (hx:Ul x<=u) (hi:i<=64):Bd (u+t+8) (str b c i x r) :=
 W9 (Dw (U9 hr hc) (Qwc hb hx hi)) (by omega)
theorem Qnn {c x:Int} {i:Nat} {b r:List Int}:(str b c i x r).length<=max r.length (i+b.length):=by
 have h:=Ms (Uu r c) (Fu (trim (mono i x)) b);have h1:=Uz r c;have h2:=Qnm (i:=i) (x:=x) (b:=b);unfold str; omega
theorem Qq4 (i:Nat) (x:Int):((List.replicate (i+1) (0:Int)).map Ft).set i (Ft x)=(mono i x).map Ft:=by
 rw [Quu,mono];congr 1;refine Xp λj=>?_
 simp only [Yc,List.getElem?_append,Jw,X8];by_cases h:j=i
 ·subst h; simp
 ·rw [if_neg (by omega)];by_cases h2:j<i
  ·simp [h2]; omega
  ·rw [if_neg (by omega),if_neg h2];cases hj:j-i with
   | zero=>omega
   | succ m=>simp
theorem Qyb (i:Nat) {x:Int} {y:List LV} (h:y.map Qfy=Ft x):(((List.replicate (i+1) [LV.bool false,LV.nils]).set i y).map λc=>c.map Qfy)=(mono i x).map Ft:=by
 rw [Vi,Qgo,h]; exact Qq4 i x
theorem I9 {b:List Int} {c:Int} {i:Nat} {q r:List Int} {x:Int} (hx:x=if r.length=b.length+i then Un r else 0):psd b c (i+1) (q,r)=psd b c i (stq c i x q,str b c i x r):=by
 subst hx; rfl
theorem Q2x {a b:List Int} (ha:Pb a) (hb:Pb b) (h0:b.length≠0):Ub Tryz.prog 305 [pr a,pr b] [pr (psd b (Un b) (a.length+1-b.length) ([],a)).1,pr (Ty a b),.one (.int .i64 ((a.length+1-b.length:Nat):Int)),.one (.int .i64 0)]:=by
 have hal:=ha.l;have hbl:=hb.l;have hlb:Ul (Un b)<=16777216:=Po hb.b;obtain ⟨c,hc⟩:=nmE (Un b);have cl:=Bb hb.t hb.ln hb.bd;rw [show b.getD (b.length-1) 0=c from hc.symm] at cl;obtain ⟨k,hk⟩:=nmE (a.length+1-b.length);unfold Ty;rw [<-hc,<-hk];rw [<-hc] at hlb;refine Gl Tryz.func305 rfl ?_;refine go tt [.z 4,.c [] (Gq ha.t ha.ln ha.bd),.c [] (Gq hb.t hb.ln hb.bd),.f (by simpa using h0),.c [] cl,.c [] (Pe a),.c [] (Pe b),.r 27 (eI (b:=(k:Int)) (by omega))] rfl (by simp [Ua]; omega) ?_;refine lp (S:=Nat×List Int×List Int) 1 (λL1 s=>(4,.v (pr s.2.1))::(5,.v (pr s.2.2))::(9,.v (.one (.int .i64 ((s.1:Int)-1))))::L1) (λ_=>[.blk 51 (Ft c)]) (λs=>s.1) (λs=>s.1<=k/\Uf s.2.2/\s.2.1.length<=66/\s.2.2.length<=a.length/\Bd (16777216+(k-s.1)*16777224) s.2.1/\Bd (16777216+(k-s.1)*16777224) s.2.2/\psd b c s.1 s.2=psd b c k ([],a)) (k,[],a) ⟨Qk _,ha.t,by simp,Qk _,Np,by simpa using ha.b,rfl⟩ rfl (λ_ _=>rfl) rfl λ⟨i,q,r⟩ ⟨j1,j2,j3,j4,j5,j6,j7⟩=>?_
 dsimp only at j1 j2 j3 j4 j5 j6 j7 ⊢;rw [<-j7];cases i with
 | zero=>exact en tt [.f (by simp)] rfl rfl trivial
 |
  succ i =>
  obtain ⟨x,hx⟩:=nmE (if r.length=b.length+i then Un r else 0);obtain ⟨u,hu⟩:=nmE (16777216+(k-(i+1))*16777224);rw [<-hu] at j5 j6;have hub:u<=1107296256:=by
   have:(k-(i+1))*16777224<=64*16777224:=Qw _ (by omega);omega
  have hxs:Ul x<=u:=by
   rw [hx]; split
   ·exact Po j6
   ·rw [Pp]; exact Qi _
  have cs:=Bq (p:=q) (c:=c) (by omega) (W9 j5 (by omega)) (by omega);have cs2:=Bq (p:=r) (c:=c) (by omega) (W9 j6 (by omega)) (by omega);have l1:=Uz q c;have l2:=Uz r c;have ca:=Qtb (p:=Uu q c) (q:=mono i x) (by omega) (by rw [Ea]; omega) (W9 (U9 j5 hlb) (by omega)) (W9 (Qgz hxs) (by omega));have cm:=Qml (p0:=mono i x) hb.t (by rw [Ea]; omega) (by omega) (Qgz hxs) hb.b (by omega);have l3:=Qnm (i:=i) (x:=x) (b:=b);have cb:=Qmm (p:=Uu r c) (q:=Fu (trim (mono i x)) b) (by omega) (by omega) (W9 (U9 j6 hlb) (by omega)) (W9 (Qwc hb.b hxs (by omega)) (by omega));have hst:=I9 (b:=b) (c:=c) (q:=q) hx;have hI:i<=k/\Uf (str b c i x r)/\(stq c i x q).length<=66/\(str b c i x r).length<=a.length/\Bd (16777216+(k-i)*16777224) (stq c i x q)/\Bd (16777216+(k-i)*16777224) (str b c i x r):=by
   have l5:=Zbt (c:=c) (x:=x) (i:=i) (q:=q);have l6:=Qnn (c:=c) (x:=x) (i:=i) (b:=b) (r:=r);have hku:u+16777216+8=16777216+(k-i)*16777224:=by
    rw [hu,show k-i=(k-(i+1))+1 from by omega,Jh]; omega
   refine ⟨by omega,Us _ _,by omega,by omega,?_,?_⟩
   ·rw [<-hku]; exact Zfi j5 hlb hxs
   ·rw [<-hku]; exact Qsz j6 hb.b hlb hxs (by omega)
  rw [hst];by_cases h:r.length=b.length+i
  ·refine go tt [.t (by simp <;> omega),.c [] (Pe r),.c [] (Pe b),.t (by simp; omega),.c [] (Bb j2 (by omega) (W9 j6 (by omega))),.r 44 (eI (b:=((i+1:Nat):Int)) (by omega)),.i (i+1),.i (i+1),.r 47 (eI (b:=(i:Int)) (by omega)),.i i] rfl (by simp [Ua]; omega) ?_;refine nl 2 rfl rfl rfl ?_;rw [Qyb i (x:=x) (by rw [hx,if_pos h]; rfl)];refine go tt [.c [] cs,.c [] ca,.c [] cs2,.c [] cm,.c [] cb,.r 33 (eI (b:=(i:Int)-1) (by omega))] rfl (by simp [Ua]; omega) ?_;exact rd (i,stq c i x q,str b c i x r) (by dsimp only; omega) ⟨hI.1,hI.2.1,hI.2.2.1,hI.2.2.2.1,hI.2.2.2.2.1,hI.2.2.2.2.2,rfl⟩ rfl
  ·refine go tt [.t (by simp <;> omega),.c [] (Pe r),.c [] (Pe b),.f (by simp; omega),.r 44 (eI (b:=((i+1:Nat):Int)) (by omega)),.i (i+1),.i (i+1),.r 47 (eI (b:=(i:Int)) (by omega)),.i i] rfl (by simp [Ua]; omega) ?_;refine nl 2 rfl rfl rfl ?_;rw [Qyb i (x:=x) (by rw [hx,if_neg h,Dm]; rfl)];refine go tt [.c [] cs,.c [] ca,.c [] cs2,.c [] cm,.c [] cb,.r 33 (eI (b:=(i:Int)-1) (by omega))] rfl (by simp [Ua]; omega) ?_;exact rd (i,stq c i x q,str b c i x r) (by dsimp only; omega) ⟨hI.1,hI.2.1,hI.2.2.1,hI.2.2.2.1,hI.2.2.2.2.1,hI.2.2.2.2.2,rfl⟩ rfl
theorem Q6x {b:List Int} {c:Int} (hb:Bd 16777216 b) (hc:Ul c<=16777216) {n:Nat}:∀ (i u:Nat) (q r:List Int),i<=64->i+b.length<=n+1->Uf r->r.length<=n->Bd u r->Uf (psd b c i (q,r)).2/\(psd b c i (q,r)).2.length<=n/\Bd (u+i*16777224) (psd b c i (q,r)).2
 | 0,u,q,r,_,_,h1,h2,h3=>⟨h1,h2,by simpa [psd] using h3⟩
 |
  i+1,u,q,r,hi,hn,h1,h2,h3=>by
  rw [I9 rfl];have hx:Ul (if r.length=b.length+i then Un r else 0)<=u:=by
   split
   ·exact Po h3
   ·rw [Pp]; exact Qi _
  have l6:=Qnn (c:=c) (x:=if r.length=b.length+i then Un r else 0) (i:=i) (b:=b) (r:=r);have:=Q6x hb hc (n:=n) i (u+16777216+8) (stq c i (if r.length=b.length+i then Un r else 0) q) (str b c i (if r.length=b.length+i then Un r else 0) r) (by omega) (by omega) (Us _ _) (by omega) (Qsz h3 hb hc hx (by omega));exact ⟨this.1,this.2.1,W9 this.2.2 (by omega)⟩
theorem Qyp {a b:List Int} (ha:Pb a) (hb:Pb b) (h0:b.length≠0):Uf (Ty a b)/\(Ty a b).length<=a.length/\Bd 1107296256 (Ty a b):=by
 have hal:=ha.l;by_cases h:b.length<=a.length+1
 ·obtain ⟨h1,h2,h3⟩:=Q6x hb.b (Po hb.b) (n:=a.length) (a.length+1-b.length) 16777216 [] a (by omega) (by omega) ha.t (Qk _) ha.b;refine ⟨h1,h2,W9 h3 ?_⟩;have:(a.length+1-b.length)*16777224<=64*16777224:=Qw _ (by omega);omega
 ·have e:Ty a b=a:=by unfold Ty; rw [show a.length+1-b.length=0 from by omega]; rfl
  rw [e];exact ⟨ha.t,Qk _,W9 ha.b (by omega)⟩
theorem Qcr {a b r:List Int} {s n:Nat} (h1:Uf r) (h2:r.length<=n) (h3:Bd s r):Uf (Pg a b r)/\(Pg a b r).length<=n/\Bd s (Pg a b r):=by
 unfold Pg; split
 ·exact ⟨Us _ _,Qa (Di r) h2,Qbq h3⟩
 ·exact ⟨h1,h2,h3⟩
theorem Qiv {r:List Int} {s n:Nat} (h2:r.length<=n) (h3:Bd s r):Uf (Do r)/\(Do r).length<=n/\Bd s (Do r):=by
 unfold Do; split
 ·exact ⟨rfl,by simp,Np⟩
 ·exact ⟨As _ _,Qa (Qk5 _ _) h2,Qg1 h3 _⟩
theorem Qcq {a b:List Int} (ha:Pb a) (hb:Pb b) (h0:b.length≠0):Uf (Fz a b)/\(Fz a b).length<=a.length/\Bd 1107296256 (Fz a b):=by
 obtain ⟨h1,h2,h3⟩:=Qyp ha hb h0;obtain ⟨h4,h5,h6⟩:=Qcr (a:=a) (b:=b) h1 h2 h3;exact Qiv h5 h6
theorem Q2z {a b:List Int} (ha:Pb a) (hb:Pb b) (h0:b.length≠0):Ub Tryz.prog 269 [pr a,pr b] [pr (Fz a b),.one (.int .i64 0)]:=by
 obtain ⟨h1,h2,h3⟩:=Qyp ha hb h0;obtain ⟨h4,h5,h6⟩:=Qcr (a:=a) (b:=b) h1 h2 h3;have hal:=ha.l;have cp:=Q2x ha hb h0;have cl:=Bb hb.t hb.ln hb.bd;have cn:=Q2u (p:=Ty a b) (by omega) (W9 h3 (by omega));unfold Fz;obtain ⟨r,hr⟩:=nmE (Pg a b (Ty a b));have cc:=Qdm (p:=r) (by rw [hr]; omega) (by rw [hr]; exact W9 h6 (by omega));rw [<-hr] at h4 h5 h6 ⊢;obtain ⟨k,hk⟩:=nmE (a.length+1-b.length);rw [<-hk] at cp;have em:((k:Int).tmod 2)=((k % 2:Nat):Int):=by rw [Ys (by omega)]; omega
 have key:Do r=if r.length=0 then [] else Nm r (H2 r):=rfl
 by_cases hz:r.length=0
 ·rw [key,if_pos hz];by_cases hodd:k % 2=1
  ·by_cases hneg:Un b<0
   ·have e:r=Sv (Ty a b):=by rw [hr]; unfold Pg; rw [if_pos ⟨by rw [<-hk]; exact hodd,hneg⟩]
    rw [e] at hz;exact w tt Tryz.func269 rfl [.c [] cp,.f (by simp),.r 22 (eI em),.t (by simp; omega),.c [] cl,.t (by simpa [Un] using hneg),.c [] cn,.t (by simpa using hz)] rfl rfl (by simp [Ua])
   ·have e:r=Ty a b:=by rw [hr]; unfold Pg; rw [if_neg (λh=>hneg h.2)]
    rw [e] at hz;exact w tt Tryz.func269 rfl [.c [] cp,.f (by simp),.r 22 (eI em),.t (by simp; omega),.c [] cl,.f (by simpa [Un] using hneg),.t (by simpa using hz)] rfl rfl (by simp [Ua])
  ·have e:r=Ty a b:=by rw [hr]; unfold Pg; rw [if_neg (λh=>hodd (by rw [hk]; exact h.1))]
   rw [e] at hz;exact w tt Tryz.func269 rfl [.c [] cp,.f (by simp),.r 22 (eI em),.f (by simp; omega),.f rfl,.t (by simpa using hz)] rfl rfl (by simp [Ua])
 ·rw [key,if_neg hz];have cd:=Qwo (p:=r) (g:=H2 r) (by omega) (W9 h6 (by omega)) (Oy (W9 h6 (by omega))) (Ee h4 hz) Cw;by_cases hodd:k % 2=1
  ·by_cases hneg:Un b<0
   ·have e:r=Sv (Ty a b):=by rw [hr]; unfold Pg; rw [if_pos ⟨by rw [<-hk]; exact hodd,hneg⟩]
    rw [e] at hz cc cd ⊢;exact w tt Tryz.func269 rfl [.c [] cp,.f (by simp),.r 22 (eI em),.t (by simp; omega),.c [] cl,.t (by simpa [Un] using hneg),.c [] cn,.f (by simpa using hz),.c [] cc,.c [] cd] rfl rfl (by simp [Ua])
   ·have e:r=Ty a b:=by rw [hr]; unfold Pg; rw [if_neg (λh=>hneg h.2)]
    rw [e] at hz cc cd ⊢;exact w tt Tryz.func269 rfl [.c [] cp,.f (by simp),.r 22 (eI em),.t (by simp; omega),.c [] cl,.f (by simpa [Un] using hneg),.f (by simpa using hz),.c [] cc,.c [] cd] rfl rfl (by simp [Ua])
  ·have e:r=Ty a b:=by rw [hr]; unfold Pg; rw [if_neg (λh=>hodd (by rw [hk]; exact h.1))]
   rw [e] at hz cc cd ⊢;exact w tt Tryz.func269 rfl [.c [] cp,.f (by simp),.r 22 (eI em),.f (by simp; omega),.f rfl,.f (by simpa using hz),.c [] cc,.c [] cd] rfl rfl (by simp [Ua])
theorem Zbn {s:Nat} {x:Int} (h:Ul x<=s) (g:Int):Ul (x / g)<=s:=Qdk (p:=[x]) (λz hz=>by rw [Qp.1 hz]; exact h) g _ (by simp)
def sta (b:List Int) (i:Nat) (x:Int) (a:List Int):List Int:=Tj a (Fu (trim (mono i x)) b)
theorem Zfh {u t i:Nat} {x:Int} {b a:List Int} (ha:Bd u a) (hb:Bd t b) (hx:Ul x<=u) (hi:i<=64):Bd (u+t+8) (sta b i x a) :=
 W9 (Dw ha (Qwc hb hx hi)) (by omega)
theorem Qx3 {x:Int} {i:Nat} {b a:List Int}:(sta b i x a).length<=max a.length (i+b.length):=by
 have h:=Ms a (Fu (trim (mono i x)) b);have h2:=Qnm (i:=i) (x:=x) (b:=b);unfold sta; omega
theorem Q9s (s n:Nat):Bd s (List.replicate n 0):=λz hz=>by rw [(List.mem_replicate.1 hz).2,Pp]; exact Qi _
theorem Zfg {s i:Nat} {l:List Int} {x:Int} (h:Bd s l) (hx:Ul x<=s):Bd s (l.set i x):=λz hz=>by
 rcases J7 hz with hz | rfl
 ·exact h z hz
 ·exact hx
theorem Q2s {a b q:List Int} (ha:Pb a) (hb:Pb b) (h:I7 a b=some q):Ub Tryz.prog 340 [pr a,pr b] [pr q,.one (.int .i64 0)]:=by
 unfold I7 at h
 split at h
 ·cases h
 rename_i h0;obtain ⟨k,hk⟩:=nmE (a.length+1-b.length);rw [<-hk] at h;obtain ⟨q',hq,hq2⟩:=Qe.1 h;obtain ⟨rfl,hpb⟩:=Ey (Gu _) hq2;have hal:=ha.l;have hbl:=hb.l;refine Gl Tryz.func340 rfl ?_;refine go tt [.c [] (Gq ha.t ha.ln ha.bd),.c [] (Gq hb.t hb.ln hb.bd),.f (by simpa using h0),.r 24 (eI (b:=(k:Int)) (by simp; omega)),.i k,.i k,.r 27 (eI (b:=(k:Int)) (by simp))] rfl (by simp [Ua]; omega) ?_;refine nl 0 rfl rfl rfl ?_;rw [Qgo];refine lp (S:=Nat×List Int×List Int) 1 (λL1 s=>(0,.v (pr s.2.1))::(7,.v (.one (.int .i64 ((s.1:Int)-1))))::L1) (λs=>[.row false 51 2 (s.2.2.map Ft)]) (λs=>s.1) (λs=>s.1<=k/\Uf s.2.1/\s.2.1.length<=a.length/\Bd (16777216+(k-s.1)*16777224) s.2.1/\s.2.2.length=k/\Bd 1107296256 s.2.2/\Qn5 b s.1 s.2.1 s.2.2=some q') (k,a,List.replicate k 0) ⟨Qk _,ha.t,Qk _,by simpa using ha.b,by simp,Q9s _ _,hq⟩ rfl (λ_ _=>rfl) rfl λ⟨i,A,Q⟩ ⟨j1,j2,j3,j4,j5,j7,j6⟩=>?_
 dsimp only at j1 j2 j3 j4 j5 j6 j7 ⊢;cases i with
 |
  zero =>
  simp only [Qn5] at j6
  split at j6
  ·rename_i hA;injection j6 with j6; subst j6;exact en tt [.f (by simp),.f (by simpa using hA),.c [] (Be (Gi Q) (by omega) (W9 j7 (by omega)))] rfl rfl trivial
  ·cases j6
 |
  succ i =>
  obtain ⟨u,hu⟩:=nmE (16777216+(k-(i+1))*16777224);rw [<-hu] at j4;have hub:u<=1107296256:=by
   have:(k-(i+1))*16777224<=64*16777224:=Qw _ (by omega);omega
  have hku:u+16777216+8=16777216+(k-i)*16777224:=by
   rw [hu,show k-i=(k-(i+1))+1 from by omega,Jh]; omega
  simp only [Qn5] at j6;by_cases hlt:A.length<b.length+i
  ·rw [if_pos hlt] at j6;refine go tt [.t (by simp <;> omega),.c [] (Pe A),.c [] (Pe b),.t (by simp; omega),.r 32 (eI (b:=(i:Int)-1) (by omega))] rfl (by simp [Ua]; omega) ?_;exact rd (i,A,Q) (by dsimp only; omega) ⟨by dsimp only; omega,j2,j3,W9 j4 (by dsimp only; omega),j5,j7,j6⟩ rfl
  ·rw [if_neg hlt] at j6
   split at j6
   ·rename_i hdv;obtain ⟨x,hx⟩:=nmE (Un A / Un b);rw [<-hx] at j6;have hxs:Ul x<=u:=by rw [hx]; exact Zbn (Po j4) _
    have ce:=Dx (Uc (Un A)) (Uc (Un b)) (Qa (Po j4) (by omega)) (Qa (Po hb.b) (by omega)) (Bi hb.t h0) hdv;rw [<-hx] at ce;have cm:Ub Tryz.prog 242 [.one (.row ((mono i x).map Ft)),pr b] [pr (Fu (trim (mono i x)) b)]:=Qml (p0:=mono i x) hb.t (by rw [Ea]; omega) (by omega) (Qgz hxs) hb.b (by omega);have l3:=Qnm (i:=i) (x:=x) (b:=b);have l4:=Qx3 (i:=i) (x:=x) (b:=b) (a:=A);have cb:=Qmm (p:=A) (q:=Fu (trim (mono i x)) b) (by omega) (by omega) (W9 j4 (by omega)) (W9 (Qwc hb.b hxs (by omega)) (by omega));refine go tt [.t (by simp <;> omega),.c [] (Pe A),.c [] (Pe b),.f (by simp; omega),.c [] (Bb j2 (by omega) (W9 j4 (by omega))),.c [] (Bb hb.t hb.ln hb.bd),.c [] ce,.f rfl,.r 51 (eI (b:=(i:Int)) (by omega)),.i i,.r 55 (eI (b:=((i+1:Nat):Int)) (by omega)),.i (i+1),.i (i+1),.r 58 (eI (b:=(i:Int)) (by omega))] rfl (by simp [Ua]; omega) ?_;refine nl 2 rfl rfl rfl ?_;rw [Qgo,Quu];rw [<-Qq4 i x] at cm;refine go tt [.i i,.c [] cm,.c [] cb,.r 32 (eI (b:=(i:Int)-1) (by omega))] rfl (by simp [Ua]; omega) ?_;exact rd (i,sta b i x A,Q.set i x) (by dsimp only; omega) ⟨by dsimp only; omega,Us _ _,by dsimp only; omega,by dsimp only; rw [<-hku]; exact Zfh j4 hb.b hxs (by omega),by simpa using j5,Zfg j7 (Nat.le_trans hxs hub),j6⟩ rfl
   ·cases j6
theorem Qus {a b q:List Int} (h:I7 a b=some q):Pb q:=by
 unfold I7 at h
 split at h
 ·cases h
 ·obtain ⟨q',_,hq2⟩:=Qe.1 h;obtain ⟨rfl,hpb⟩:=Ey (Gu _) hq2;exact hpb
theorem Q3s {a b q:List Int} (ha:Pb a) (hb:Pb b) (h:I7 a b=some q):Ub Tryz.prog 327 [pr a,pr b] [pr q] :=
 w tt Tryz.func327 rfl [.c [] (Q2s ha hb h)] rfl rfl trivial
theorem Qo0:∀ {k:Nat} {a b g:List Int},Pb a->Pb b->Qev k a b=some g->Pb g
 | 0,_,_,_,_,_,h=>by cases h
 |
  k+1,a,b,g,ha,hb,h=>by
  simp only [Qev] at h
  split at h
  ·injection h with h; subst h; exact ha
  ·rename_i h0;obtain ⟨r,hr,h⟩:=Qe.1 h;obtain ⟨rfl,hpb⟩:=Ey (Qcq ha hb h0).1 hr;exact Qo0 hb hpb h
theorem Qwx {a b g:List Int} (ha:Pb a) (hb:Pb b) (h:Oa a b=some g):Ub Tryz.prog 215 [pr a,pr b] [pr g]:=by
 unfold Oa at h;obtain ⟨g',h2,rfl⟩:=Yn.1 h;have hg:=Qo0 (Hk ha) (Hk hb) h2;refine Gl Tryz.func215 rfl ?_;refine go tt [.c [] (Dz ha),.c [] (Dz hb)] rfl trivial ?_;refine lp (S:=Nat×List Int×List Int) 0 (λL1 s=>(0,.v (pr s.2.1))::(1,.v (pr s.2.2))::L1) (λ_=>[]) (λs=>s.1) (λs=>Pb s.2.1/\Pb s.2.2/\Qev s.1 s.2.1 s.2.2=some g') (66,Uh a,Uh b) ⟨Hk ha,Hk hb,h2⟩ rfl (λ_ _=>rfl) rfl λ⟨k,A,C⟩ ⟨j1,j2,j3⟩=>?_
 dsimp only at j1 j2 j3 ⊢;cases k with
 | zero=>cases j3
 |
  succ k =>
  simp only [Qev] at j3
  split at j3
  ·rename_i h0;injection j3 with j3; subst j3;exact en tt [.f (by simpa using h0),.c [] (Dz j1)] rfl rfl trivial
  ·rename_i h0;obtain ⟨r,hr,j3⟩:=Qe.1 j3;obtain ⟨rfl,hpb⟩:=Ey (Qcq j1 j2 h0).1 hr;refine go tt [.t (by simp; omega),.c [] (Q2z j1 j2 h0)] rfl trivial ?_;exact rd (k,C,Fz A C) (by dsimp only; omega) ⟨j2,hpb,j3⟩ rfl
theorem Qek {a b g:List Int} (ha:Pb a) (hb:Pb b) (h:Oa a b=some g):Pb g:=by
 unfold Oa at h;obtain ⟨g',h2,rfl⟩:=Yn.1 h;exact Hk (Qo0 (Hk ha) (Hk hb) h2)
theorem Q2t {a b g:List Int} (ha:Pb a) (hb:Pb b) (h:Qn7 a b=some g):Ub Tryz.prog 160 [.one (.row (Ta [a,b]))] [pr g]:=by
 unfold Qn7 at h;obtain ⟨g1,h1,h2⟩:=Qe.1 h;have hg1:=Qek Qei ha h1;refine Gl Tryz.func160 rfl ?_;refine go tt [.z 3] rfl trivial ?_;refine lp (S:=Nat) 0 (λL1 i=>(8,.v (.one (.int .i64 (i:Int))))::(3,.v (pr (if i=0 then [] else if i=1 then g1 else g)))::L1) (λ_=>[]) (λi=>2-i) (λi=>i<=2) 0 (Qi _) rfl (λ_ _=>rfl) rfl λi hi=>?_
 rcases (show i=0\/i=1\/i=2 by omega) with rfl | rfl | rfl
 ·refine go tt [.t rfl,.x (Ha (i:=0) (p:=a) rfl),.c [] (Qwx Qei ha h1)] rfl (by simp [Ua]) ?_;exact rd 1 (by omega) (by omega) rfl
 ·refine go tt [.t rfl,.x (Ha (i:=1) (p:=b) rfl),.c [] (Qwx hg1 hb h2)] rfl (by simp [Ua]) ?_;exact rd 2 (by omega) (by omega) rfl
 ·exact en tt [.f rfl] rfl rfl trivial
theorem Q6l {a b g:List Int} (ha:Pb a) (hb:Pb b) (h:Qn7 a b=some g):Pb g:=by
 unfold Qn7 at h;obtain ⟨g1,h1,h2⟩:=Qe.1 h;exact Qek (Qek Qei ha h1) hb h2
theorem Qir {p d:List Int} (h:chk (U3 p)=some d):d=U3 p/\Pb (U3 p):=Ey (Us _ _) h
theorem Qg7 {a g:List Int} (ha:Pb a) (h:Se a=some g):Ub Tryz.prog 298 [pr a] [pr g]:=by
 have hp:=Hk ha;unfold Se at h
 split at h
 ·rename_i h0;injection h with h; subst h;exact w tt Tryz.func298 rfl [.c [] (Dz ha),.c [] (Pe _),.t (by simp; omega)] rfl rfl trivial
 ·rename_i h0;obtain ⟨d,h1,h⟩:=Qe.1 h;obtain ⟨rfl,hd⟩:=Qir h1;obtain ⟨g1,h1,h⟩:=Qe.1 h;exact w tt Tryz.func298 rfl [.c [] (Dz ha),.c [] (Pe _),.f (by simp; omega),.c [] (Lv hp.ln hp.bd),.c [] (Qwx hp hd h1),.c [] (Q3s hp (Qek hp hd h1) h)] rfl rfl trivial
theorem Qej {a g:List Int} (ha:Pb a) (h:Se a=some g):Pb g:=by
 unfold Se at h
 split at h
 ·injection h with h; subst h; exact Hk ha
 ·obtain ⟨d,h1,h⟩:=Qe.1 h;obtain ⟨g1,h1,h⟩:=Qe.1 h;exact Qus h
theorem Q6m {p:List Int} (h:Pb p):Pb (Sv p):=⟨Us _ _,Qa (Di p) h.l,Qbq h.b⟩
theorem Qts:∀ {k:Nat} {a b:List Int} {l:List (List Int)},Pb a->Pb b->chF k a b=some l->l.length≤k/\∀ p∈l,Pb p
 | 0,_,_,_,_,_,h=>by cases h
 |
  k+1,a,b,l,ha,hb,h=>by
  simp only [chF] at h
  split at h
  ·injection h with h; subst h; exact ⟨by simp,λp hp=>by cases hp⟩
  ·rename_i h0;obtain ⟨r,hr,h⟩:=Qe.1 h;obtain ⟨rfl,hpb⟩:=Ey (Qcq ha hb h0).1 hr;obtain ⟨l',h1,h⟩:=Qe.1 h;injection h with h; subst h;obtain ⟨i1,i2⟩:=Qts hb (Q6m hpb) h1;refine ⟨by simp; exact i1,λp hp=>?_⟩;rcases Qq.1 hp with rfl | hp
   ·exact hb
   ·exact i2 p hp
theorem chain_ok {p:List Int} {l:List (List Int)} (hp:Pb p) (h:chain p=some l):l.length≤67/\∀ q∈l,Pb q:=by
 unfold chain at h;obtain ⟨a,h1,h⟩:=Qe.1 h;have ha:=Qej hp h1
 split at h
 ·cases h
 ·obtain ⟨d,h2,h⟩:=Qe.1 h;obtain ⟨rfl,hd⟩:=Qir h2;obtain ⟨l',h3,h⟩:=Qe.1 h;injection h with h; subst h;obtain ⟨i1,i2⟩:=Qts ha (Hk hd) h3;refine ⟨by simp; omega,λp hp=>?_⟩;rcases Qq.1 hp with rfl | hp
  ·exact ha
  ·exact i2 p hp
theorem Qiu (l:List (List Int)) (p:List Int):Ta l++[[pl p]]=Ta (l++[p]):=by simp [Ta]
theorem Cx (l:List (List Int)):(Ta l).length=l.length:=by simp [Ta]
theorem Q22 {p:List Int} {l:List (List Int)} (hp:Pb p) (h:chain p=some l):Ub Tryz.prog 275 [pr p] [.one (.sh [.row (Ta l)]),.one (.int .i64 0)]:=by
 unfold chain at h;obtain ⟨a,h1,h⟩:=Qe.1 h;have ha:=Qej hp h1
 split at h
 ·cases h
 rename_i h0;obtain ⟨d,h2,h⟩:=Qe.1 h;obtain ⟨rfl,hd⟩:=Qir h2;obtain ⟨l',h3,h⟩:=Qe.1 h;injection h with h; subst h;refine Gl Tryz.func275 rfl ?_;refine go tt [.c [] (Qg7 hp h1),.f (by simpa using h0),.lo,.c [] (Lv ha.ln ha.bd),.c [] (Q3m hd.t hd.ln' hd.bd)] rfl (by simp [Ua]) ?_;obtain ⟨z,hz⟩:=nmE (if (U3 a).length=0 then 0 else Fp (U3 a));rw [<-hz];refine sb [(4,.v (pr a)),(7,.v (pr (Uh (U3 a)))),(5,.v (.one (.ow 1 0)))] [.row false 48 1 [[pl a]],.blk 356 [.orow 0 1 none],.blk 51 (Ft z)] rfl rfl ?_;have hll:=(Qts ha (Hk hd) h3).1;refine lp (S:=Nat×List (List Int)×List Int×List Int) 3 (λL1 s=>(4,.v (pr s.2.2.1))::(7,.v (pr s.2.2.2))::L1) (λs=>[.row false 48 1 (Ta s.2.1),.blk 356 [.orow 0 1 none],.blk 51 (Ft z)]) (λs=>s.1) (λs=>Pb s.2.2.1/\Pb s.2.2.2/\∃ m,chF s.1 s.2.2.1 s.2.2.2=some m/\s.2.1++m=a::l') (66,[a],a,Uh (U3 a)) ⟨ha,Hk hd,l',h3,rfl⟩ rfl (λ_ _=>rfl) rfl λ⟨k,out,A,C⟩ ⟨j1,j2,m,j3,j4⟩=>?_
 dsimp only at j1 j2 j3 j4 ⊢;have hol:out.length<=67:=by have:=congrArg List.length j4; simp at this; omega
 cases k with
 | zero=>cases j3
 |
  succ k =>
  simp only [chF] at j3
  split at j3
  ·rename_i h0;injection j3 with j3; subst j3;rw [Xt] at j4;rw [<-j4];exact en tt [.f (by simpa using h0)] rfl rfl trivial
  ·rename_i h0;obtain ⟨r,hr,j3⟩:=Qe.1 j3;obtain ⟨rfl,hpb⟩:=Ey (Qcq j1 j2 h0).1 hr;obtain ⟨m',j6,j5⟩:=Qe.1 j3;injection j5 with j5; subst j5;refine go tt [.t (by simp; omega),.s (sz:=1) (λc hc=>by rw [Qp.1 hc]; rfl),.c [] (Q2z j1 j2 h0),.c [] (Q2u hpb.ln hpb.bd)] rfl (by simp [Ua,Cx]; omega) ?_;exact rd (k,out++[C],C,Sv (Fz A C)) (by dsimp only; omega) ⟨j2,Q6m hpb,m',j6,by rw [<-j4]; simp⟩ (by rw [Qiu]; rfl)
structure Tb (t:Tm):Prop where
 p:Pb t.p
 lo:Qb t.lo
 hi:Qb t.hi
theorem Qw5 (x y:Int):-1<=Mj x y/\Mj x y<=1:=by unfold Mj; split <;> (try split) <;> omega
theorem Ez (a b:Rat):-1<=U7 a b/\U7 a b<=1:=Qw5 _ _
theorem M3 (p:List Int) (q:Rat):-1<=U4 p q/\U4 p q<=1:=Qw5 _ _
theorem Qui (p:List Int) (q:Rat):-1<=low p q/\low p q<=1:=by unfold low; split <;> exact M3 _ _
theorem Qb.s31 {q:Rat} (h:Qb q):Qs 2147483647 q:=h.mono (by decide)
theorem Qb.s32 {q:Rat} (h:Qb q):Qs 4294967295 q:=h.mono (by decide)
theorem Qfu {p:List Int} {q:Rat} (hp:Pb p) (hq:Qb q):Ub Tryz.prog 211 [pr p,.agg (rl q)] [.one (.int .i64 (U4 p q))]:=by
 have hm:p.length*(16777216+1)<=64*16777217:=Qw _ hp.l;exact Qwi hp.t hp.ln hp.b hq (by omega)
theorem Zit {p:List Int} {q:Rat} (hp:Pb p) (hq:Qb q):Ub Tryz.prog 211 [pr (U3 p),.agg (rl q)] [.one (.int .i64 (U4 (U3 p) q))]:=by
 have hl:=Qa (Ry p) (show p.length-1<=64 by have:=hp.l; omega);have hm:(U3 p).length*(16777216+1)<=64*16777217:=Qw _ hl;exact Qwi (Us _ _) (Zy hl (by omega)) (Qf5 (t:=6) hp.b hp.l) hq (by omega)
theorem Bs {t:Tm} (ht:Tb t):Ub Tryz.prog 157 [.agg (ta t)] [.one (.bool t.point)] :=
 w tt Tryz.func157 rfl [.c [] (C7 ht.lo.s31 ht.hi.s31)] rfl rfl trivial
theorem Qf7 {t:Tm} (ht:Tb t):Ub Tryz.prog 156 [.agg (ta t)] [.agg (ta t)] :=
 w tt Tryz.func156 rfl [.c [] (Gq ht.p.t ht.p.ln ht.p.bd),.c [] (Ex ht.lo.s32),.c [] (Ex ht.hi.s32)] rfl rfl trivial
theorem Q3z {t:Tm} (ht:Tb t):Ub Tryz.prog 151 [.agg (ta t)] [.agg (ta t)]:=w tt Tryz.func151 rfl [.c [] (Qf7 ht)] rfl rfl trivial
theorem Q3h {p:List Int} {q:Rat} (hp:Pb p) (hq:Qb q):Ub Tryz.prog 212 [pr p,.agg (rl q)] [.one (.int .i64 (low p q))]:=by
 unfold low;by_cases h:U4 p q=0
 ·rw [if_neg (by simpa using h)];exact w tt Tryz.func212 rfl [.c [] (Qfu hp hq),.f (by simpa using h),.c [] (Lv hp.ln hp.bd),.c [] (Zit hp hq)] rfl rfl trivial
 ·rw [if_pos h];exact w tt Tryz.func212 rfl [.c [] (Qfu hp hq),.t (by simpa using h)] rfl rfl trivial
theorem Q3e {p:List Int} {lo hi:Rat} (hp:Pb p) (hl:Qb lo) (hh:Qb hi):Ub Tryz.prog 162 [pr p,.agg (rl lo),.agg (rl hi)] [.one (.bool (Qb6 p lo hi))]:=by
 by_cases h:U4 p hi=0
 ·exact w tt Tryz.func162 rfl [.c [] (Qfu hp hh),.t (by simpa using h)] rfl (by simp [Qb6,h]) trivial
 ·exact w tt Tryz.func162 rfl [.c [] (Qfu hp hh),.f (by simpa using h),.c [] (Q3h hp hl)] rfl (by simp [Qb6,h]) trivial
theorem Qg5 {t:Tm} {q:Rat} (ht:Tb t) (hq:Qb q):Ub Tryz.prog 158 [.agg (ta t),.agg (rl q)] [.one (.int .i64 (Up t q))]:=by
 have cp:=Bs ht;unfold Up;by_cases h1:t.point=true
 ·rw [if_pos h1];exact w tt Tryz.func158 rfl [.c [] cp,.t h1,.c [] (C7 ht.lo.s31 hq.s31)] rfl rfl trivial
 rw [if_neg h1];have h1:t.point=false:=by simpa using h1
 have c1:=C7 hq.s31 ht.lo.s31;have c2:=C7 hq.s31 ht.hi.s31;by_cases h2:U7 q t.lo<=0
 ·rw [if_pos h2];exact w tt Tryz.func158 rfl [.c [] cp,.f h1,.c [] c1,.t (by simpa using h2)] rfl rfl trivial
 rw [if_neg h2];by_cases h3:0<U7 q t.hi
 ·rw [if_pos h3];exact w tt Tryz.func158 rfl [.c [] cp,.f h1,.c [] c1,.f (by simpa using h2),.c [] c2,.t (by simpa using h3)] rfl rfl trivial
 rw [if_neg h3];by_cases h4:U4 t.p q=0
 ·rw [if_pos h4];exact w tt Tryz.func158 rfl [.c [] cp,.f h1,.c [] c1,.f (by simpa using h2),.c [] c2,.f (by simpa using h3),.c [] (Qfu ht.p hq),.t (by simpa using h4)] rfl rfl trivial
 rw [if_neg h4];by_cases h5:U4 t.p q=low t.p t.lo
 ·rw [if_pos h5];exact w tt Tryz.func158 rfl [.c [] cp,.f h1,.c [] c1,.f (by simpa using h2),.c [] c2,.f (by simpa using h3),.c [] (Qfu ht.p hq),.f (by simpa using h4),.c [] (Q3h ht.p ht.lo),.t (by simpa using h5)] rfl rfl trivial
 ·rw [if_neg h5];exact w tt Tryz.func158 rfl [.c [] cp,.f h1,.c [] c1,.f (by simpa using h2),.c [] c2,.f (by simpa using h3),.c [] (Qfu ht.p hq),.f (by simpa using h4),.c [] (Q3h ht.p ht.lo),.f (by simpa using h5)] rfl rfl trivial
theorem Zay (t:Tm) (q:Rat):-1<=Up t q/\Up t q<=1:=by
 unfold Up;have:=Ez t.lo q
 repeat' split
 all_goals omega
theorem Za6 (q:Rat):0<(q.den:Int):=by have:=q.den_pos; omega
theorem Zd5 {a b:Rat} (ha:Qb a) (hb:Qb b):Ub Tryz.prog 273 [.agg (rl a),.agg (rl b)] [.agg (rl (A2 a b))]:=by
 have h1:Ul (a.num*(b.den:Int))<=33554432:=Qa (Uv _ _) (by have:=ha.1; have:=hb.2; omega);have h2:Ul (b.num*(a.den:Int))<=33554432:=Qa (Uv _ _) (by have:=hb.1; have:=ha.2; omega);have h3:Ul ((a.den:Int)*(b.den:Int))<=33554432:=Qa (Uv _ _) (by have:=ha.2; have:=hb.2; omega);have h4:Ul (2:Int)<=2:=by decide
 have h5:Ul (a.num*(b.den:Int)+b.num*(a.den:Int))<=33554433:=Qa (Ag _ _) (by omega);have h6:Ul ((a.den:Int)*(b.den:Int)*2)<=33554434:=Qa (Uv _ _) (by omega);have h0:(a.den:Int)*(b.den:Int)*2≠0:=by
  have:=W5 (Za6 a) (Za6 b); omega
 exact w tt Tryz.func273 rfl [.c [] (Qmr ha.s31 hb.s31),.c [] (Qay (Uc _) (Uc _) (by omega) (by omega)),.c [] (Qjn (z:=2) (by decide)),.c [] (Ns (Uc _) (Uc _) (by omega) (by omega)),.c [] (Ie h0 (by omega) (by omega))] rfl rfl trivial
theorem Qmv {a b:Rat} (ha:Qb a) (hb:Qb b):Ub Tryz.prog 217 [.agg (rl a),.agg (rl b)] [.agg (rl (Qi3 a b))]:=by
 have h1:Ul (a.num*(b.den:Int))<=33554432:=Qa (Uv _ _) (by have:=ha.1; have:=hb.2; omega);have h2:Ul (b.num*(a.den:Int))<=33554432:=Qa (Uv _ _) (by have:=hb.1; have:=ha.2; omega);have h3:Ul ((a.den:Int)*(b.den:Int))<=33554432:=Qa (Uv _ _) (by have:=ha.2; have:=hb.2; omega);have h5:Ul (a.num*(b.den:Int)-b.num*(a.den:Int))<=33554433:=Qa (Qgf _ _) (by omega);have h0:(a.den:Int)*(b.den:Int)≠0:=by
  have:=W5 (Za6 a) (Za6 b); omega
 exact w tt Tryz.func217 rfl [.c [] (Qmr ha.s31 hb.s31),.c [] (Q28 (Uc _) (Uc _) (by omega) (by omega)),.c [] (Ie h0 (by omega) (by omega))] rfl rfl trivial
theorem Qhi {q r:Rat} (h:chq q=some r):r=q/\Qb q:=by
 unfold chq at h
 split at h
 ·rename_i hc; injection h with h; exact ⟨h.symm,hc⟩
 ·cases h
theorem Qtk {t u:Tm} (ht:Tb t) (h:Qnf t=some u):Ub Tryz.prog 218 [.agg (ta t)] [.agg (ta u)]:=by
 have cp:=Bs ht;unfold Qnf at h
 split at h
 ·rename_i h1;injection h with h; subst h;exact w tt Tryz.func218 rfl [.c [] cp,.t h1] rfl rfl trivial
 ·rename_i h1;have h1:t.point=false:=by simpa using h1
  obtain ⟨m,hm0,h⟩:=Qe.1 h;obtain ⟨rfl,hm⟩:=Qhi hm0;injection h with h;subst h;have cm:=Zd5 ht.lo ht.hi;have cc:=Qg5 ht hm;by_cases h2:Up t (A2 t.lo t.hi)=0
  ·rw [if_pos h2];exact w tt Tryz.func218 rfl [.c [] cp,.f h1,.c [] cm,.c [] cc,.t (by simpa using h2)] rfl rfl trivial
  rw [if_neg h2];by_cases h3:Up t (A2 t.lo t.hi)=-1
  ·rw [if_pos h3];exact w tt Tryz.func218 rfl [.c [] cp,.f h1,.c [] cm,.c [] cc,.f (by simpa using h2),.t (by simpa using h3)] rfl rfl trivial
  ·rw [if_neg h3];exact w tt Tryz.func218 rfl [.c [] cp,.f h1,.c [] cm,.c [] cc,.f (by simpa using h2),.f (by simpa using h3)] rfl rfl trivial
theorem Qou {t u:Tm} (ht:Tb t) (h:Qnf t=some u):Tb u:=by
 unfold Qnf at h
 split at h
 ·injection h with h; subst h; exact ht
 ·obtain ⟨m,hm0,h⟩:=Qe.1 h;obtain ⟨rfl,hm⟩:=Qhi hm0;injection h with h;subst h
  repeat' split
  ·exact ⟨ht.p,hm,hm⟩
  ·exact ⟨ht.p,ht.lo,hm⟩
  ·exact ⟨ht.p,hm,ht.hi⟩
theorem Eu {z:Int} (h:Ul z<=4294967296):Ub Tryz.prog 270 [.one (mg z)] [.one (.int .i64 (Ul z:Int))]:=by
 have h1:=Qs6 (l:=Ux z.natAbs) (B6 _) (by rw [Fi]; exact h);rw [Fi] at h1; exact h1
theorem Qiy {p:List Int} {i:Nat} {z:Int} (h:p[i]? = some z):Fv (p.take (i+1))=max (Fv (p.take i)) (Ul z):=by
 unfold Fv; rw [List.take_succ,h,Option.toList_some,List.foldl_append]; rfl
theorem Sw {p:List Int} {s:Nat} (h:Bd s p):∀ i,Fv (p.take i)<=s
 | 0=>by simp [Fv]
 |
  i+1=>by
  cases hz:p[i]? with
  |
   none =>
   rw [Qo (by have:=List.getElem?_eq_none_iff.1 hz; omega),<-Qo (l:=p) (i:=i) (by have:=List.getElem?_eq_none_iff.1 hz; omega)];exact Sw h i
  | some z=>rw [Qiy hz]; have:=Sw h i; have:=Q18 h hz; omega
theorem Qmx {p:List Int} (hp:Pb p):Ub Tryz.prog 271 [pr p] [.one (.int .i64 (Fv p:Int))]:=by
 have hl:=hp.l;refine Gl Tryz.func271 rfl ?_;refine go tt [] rfl trivial ?_;refine lp (S:=Nat) 0 (λL1 i=>(8,.v (.one (.int .i64 (i:Int))))::(3,.v (.one (.int .i64 (Fv (p.take i):Int))))::L1) (λ_=>[]) (λi=>p.length-i) (λi=>i<=p.length) 0 (Qi _) rfl (λ_ _=>rfl) rfl λi hi=>?_
 by_cases hlt:i<p.length
 ·have hg:=Hh hlt;have hz:=Um hp.b i;have hs:=Qiy hg;refine go tt [.t (by simp; omega),.x (Tx hg),.c [] (Eu (by omega)),.r 16 (eI (b:=(Fv (p.take (i+1)):Int)) (by rw [hs]; omega))] rfl (by simp [Ua]; omega) ?_;exact rd (i+1) (by omega) hlt rfl
 ·obtain rfl:i=p.length:=by omega
  rw [Q4];exact en tt [.f (by simp)] rfl rfl trivial
theorem Zau {a:Tm} {b:Tm} (ha:Tb a) (hb:Tb b):Ub Tryz.prog 216 [.agg (ta a),.agg (ta b)] [.one (.int .i64 (Tz a b:Nat))]:=by
 have l1:=ha.p.l;have l2:=hb.p.l;have b1:=ha.lo.1;have b2:=ha.hi.1;have b3:=hb.lo.1;have b4:=hb.hi.1;have s1:Fv a.p<=16777216:=by have:=Sw ha.p.b a.p.length; rwa [Q4] at this
 have s2:Fv b.p<=16777216:=by have:=Sw hb.p.b b.p.length; rwa [Q4] at this
 obtain ⟨N,hN⟩:=nmE (4*(a.p.length+b.p.length));obtain ⟨S,hS⟩:=nmE (Fv a.p+Fv b.p+(a.p.length+b.p.length)+8);have hNS:N*S<=512*33554568:=Zt (by omega) (by omega);have h0:(N:Int)*(S:Int)=((N*S:Nat):Int):=(Yz _ _).symm;have hst:Tz a b=64+2*(Ul a.lo.num+Ul a.hi.num+Ul b.lo.num+Ul b.hi.num)+N*S:=by rw [hN,hS]; rfl
 rw [hst];exact w tt Tryz.func216 rfl [.c [] (Eu (z:=a.lo.num) (by omega)),.c [] (Eu (z:=a.hi.num) (by omega)),.c [] (Eu (z:=b.lo.num) (by omega)),.c [] (Eu (z:=b.hi.num) (by omega)),.r 41 (eI (b:=(N:Int)) (by rw [hN]; simp)),.c [] (Qmx ha.p),.c [] (Qmx hb.p),.r 51 (eI (b:=(S:Int)) (by rw [hS]; simp)),.r 52 (eI (b:=((N*S:Nat):Int)) h0)] rfl (by simp) (by rw [h0]; simp [Ua]; omega)
def Qvu (p:List Int) (a:Tm):Nat:=64+2*(Ul a.lo.num+Ul a.hi.num)+4*(a.p.length+p.length)*(Fv a.p+Fv p+(a.p.length+p.length)+8)
theorem Qwe:Ub Tryz.prog 270 [lr []] [.one (.int .i64 0)]:=Qs6 (l:=[]) (by simp [Sm]) (by decide)
theorem Q3y {a:Tm} {p:List Int} (ha:Tb a) (hp:Pb p):Ub Tryz.prog 216 [.agg (ta a),.agg ([pl p,.bool false,.row [],.bool false,.row [],.bool false,.row [],.bool false,.row []])] [.one (.int .i64 (Qvu p a:Nat))]:=by
 have l1:=ha.p.l;have l2:=hp.l;have b1:=ha.lo.1;have b2:=ha.hi.1;have s1:Fv a.p<=16777216:=by have:=Sw ha.p.b a.p.length; rwa [Q4] at this
 have s2:Fv p<=16777216:=by have:=Sw hp.b p.length; rwa [Q4] at this
 obtain ⟨N,hN⟩:=nmE (4*(a.p.length+p.length));obtain ⟨S,hS⟩:=nmE (Fv a.p+Fv p+(a.p.length+p.length)+8);have hNS:N*S<=512*33554568:=Zt (by omega) (by omega);have h0:(N:Int)*(S:Int)=((N*S:Nat):Int):=(Yz _ _).symm;have hst:Qvu p a=64+2*(Ul a.lo.num+Ul a.hi.num)+N*S:=by rw [hN,hS]; rfl
 rw [hst];exact w tt Tryz.func216 rfl [.c [] (Eu (z:=a.lo.num) (by omega)),.c [] (Eu (z:=a.hi.num) (by omega)),.c [] Qwe,.c [] Qwe,.r 41 (eI (b:=(N:Int)) (by rw [hN]; simp)),.c [] (Qmx ha.p),.c [] (Qmx hp),.r 51 (eI (b:=(S:Int)) (by rw [hS]; simp)),.r 52 (eI (b:=((N*S:Nat):Int)) h0)] rfl (by simp) (by rw [h0]; simp [Ua]; omega)
def C5 (sg:List Int->Int) (l:List (List Int)) (i:Nat):Nat×Int:=(l.take i).foldl (Ho sg) (0,0)
theorem Qjd {sg:List Int->Int} (hs:∀ p,-1<=sg p/\sg p<=1) (l:List (List Int)):∀ i,(C5 sg l i).1<=i/\-1<=(C5 sg l i).2/\(C5 sg l i).2<=1
 | 0=>⟨Qk _,show (-1:Int)<=0 by decide,show (0:Int)<=1 by decide⟩
 |
  i+1=>by
  obtain ⟨h1,h2,h3⟩:=Qjd hs l i;cases h:l[i]? with
  |
   none =>
   have:C5 sg l (i+1)=C5 sg l i:=by unfold C5; rw [List.take_of_length_le (by have:=List.getElem?_eq_none_iff.1 h; omega),List.take_of_length_le (List.getElem?_eq_none_iff.1 h)]
   rw [this]; omega
  |
   some p =>
   have:C5 sg l (i+1)=Ho sg (C5 sg l i) p:=Pz _ _ _ h;rw [this];have:=hs p;unfold Ho
   split
   ·omega
   ·dsimp only; split <;> omega
theorem Zav {l:List (List Int)} {fid:Nat} {l1:List LV} {sg:List Int->Int} (hl:l.length≤1000) (hs:∀ p,-1≤sg p/\sg p≤1) (h:∀ p∈l,Ub Tryz.prog fid [pr p,.one (.sh l1)] [.one (.int .i64 (sg p))]):Ub Tryz.prog 334 [.one (.sh [.row (Ta l)]),.one (.fn fid [] [.sh l1])] [.one (.int .i64 (Pw sg l:Nat))]:=by
 have hpl:=Cx l;refine Gl Tryz.func334 rfl ?_;refine go tt [] rfl trivial ?_;refine lp (S:=Nat) 0 (λL1 i=>(15,.v (.one (.int .i64 (i:Int))))::(5,.v (.one (.int .i64 ((C5 sg l i).1:Int))))::(6,.v (.one (.int .i64 (C5 sg l i).2)))::L1) (λ_=>[]) (λi=>l.length-i) (λi=>i<=l.length) 0 (Qi _) rfl (λ_ _=>rfl) rfl λi hi=>?_
 by_cases hlt:i<l.length
 ·obtain ⟨p,hp⟩:=gxE (l:=l) (i:=i) hlt;have hst:C5 sg l (i+1)=Ho sg (C5 sg l i) p:=Pz _ _ _ hp;obtain ⟨b1,b2,b3⟩:=Qjd hs l i;have b4:=hs p;by_cases h0:sg p=0
  ·refine go tt [.t (by simp [hpl]; omega),.x (Ha hp),.c [] (h p (Qc hp)),.t (by simpa using h0)] rfl (by simp [Ua]; omega) ?_;exact rd (i+1) (by omega) hlt (by rw [hst,show Ho sg (C5 sg l i) p=C5 sg l i from by unfold Ho; rw [if_pos h0]]; rfl)
  ·by_cases h1:(C5 sg l i).2=-(sg p)
   ·refine go tt [.t (by simp [hpl]; omega),.x (Ha hp),.c [] (h p (Qc hp)),.f (by simpa using h0),.t (by simpa using h1)] rfl (by simp [Ua]; omega) ?_;exact rd (i+1) (by omega) hlt (by rw [hst,show Ho sg (C5 sg l i) p=((C5 sg l i).1+1,sg p) from by unfold Ho; rw [if_neg h0,if_pos h1]]; rfl)
   ·refine go tt [.t (by simp [hpl]; omega),.x (Ha hp),.c [] (h p (Qc hp)),.f (by simpa using h0),.f (by simpa using h1)] rfl (by simp [Ua]; omega) ?_;exact rd (i+1) (by omega) hlt (by rw [hst,show Ho sg (C5 sg l i) p=((C5 sg l i).1,sg p) from by unfold Ho; rw [if_neg h0,if_neg h1]]; rfl)
 ·obtain rfl:i=l.length:=by omega
  refine en tt [.f (by simp [hpl])] rfl ?_ trivial;unfold C5 Pw; rw [List.take_length]
theorem Q26 {p:List Int} {q:Rat} (hp:Pb p) (hq:Qb q):Ub Tryz.prog 335 [pr p,.one (.sh (rl q))] [.one (.int .i64 (U4 p q))]:=w tt Tryz.func335 rfl [.c [] (Qfu hp hq)] rfl rfl trivial
theorem Qwn {l:List (List Int)} {q:Rat} (hl:l.length≤1000) (hp:∀ p∈l,Pb p) (hq:Qb q):Ub Tryz.prog 311 [.one (.sh [.row (Ta l)]),.agg (rl q)] [.one (.int .i64 (Sf l q:Nat))] :=
 w tt Tryz.func311 rfl [.c [] (Zav (fid:=335) (l1:=rl q) (sg:=λp=>U4 p q) hl (λp=>M3 p q) λp h=>Q26 (hp p h) hq)] rfl rfl trivial
theorem Px {sg:List Int->Int} (hs:∀ p,-1<=sg p/\sg p<=1) (l:List (List Int)):Pw sg l<=l.length:=by
 have:=(Qjd hs l l.length).1;unfold C5 at this; rwa [List.take_length] at this
theorem Qj4 {l:List (List Int)} {lo hi:Rat} (hl:l.length≤1000) (hp:∀ p∈l,Pb p) (ql:Qb lo) (qh:Qb hi):Ub Tryz.prog 276 [.one (.sh [.row (Ta l)]),.agg (rl lo),.agg (rl hi)] [.one (.int .i64 (Gw l lo hi))]:=by
 have b1:Sf l lo<=l.length:=Px (λp=>M3 p lo) l;have b2:Sf l hi<=l.length:=Px (λp=>M3 p hi) l;have c1:=C7 qh.s31 ql.s31;unfold Gw;by_cases h:U7 hi lo<0
 ·rw [if_pos h];exact w tt Tryz.func276 rfl [.c [] c1,.t (by simpa using h)] rfl rfl trivial
 ·rw [if_neg h];exact w tt Tryz.func276 rfl [.c [] c1,.f (by simpa using h),.c [] (Qwn hl hp ql),.c [] (Qwn hl hp qh)] rfl rfl (by simp [Ua]; omega)
def zTm:List LV:=[.nils,.bool false,.nils,.bool false,.nils,.bool false,.nils,.bool false,.nils]
theorem Q1f {a b:Tm} (ha:Tb a) (hb:Tb b):Tz a b<=17179938816+200000000:=by
 have l1:=ha.p.l;have l2:=hb.p.l;have b1:=ha.lo.1;have b2:=ha.hi.1;have b3:=hb.lo.1;have b4:=hb.hi.1;have s1:Fv a.p<=16777216:=by have:=Sw ha.p.b a.p.length; rwa [Q4] at this
 have s2:Fv b.p<=16777216:=by have:=Sw hb.p.b b.p.length; rwa [Q4] at this
 have:4*(a.p.length+b.p.length)*(Fv a.p+Fv b.p+(a.p.length+b.p.length)+8)<=512*33554568:=Zt (by omega) (by omega);unfold Tz; omega
theorem Zcs {a b:Rat} (ha:Qb a) (hb:Qb b):Qs 2147483647 (Qi3 a b):=by
 have h1:Ul (a.num*(b.den:Int))<=33554432:=Qa (Uv _ _) (by have:=ha.1; have:=hb.2; omega);have h2:Ul (b.num*(a.den:Int))<=33554432:=Qa (Uv _ _) (by have:=hb.1; have:=ha.2; omega);have h3:Ul ((a.den:Int)*(b.den:Int))<=33554432:=Qa (Uv _ _) (by have:=ha.2; have:=hb.2; omega);have h5:Ul (a.num*(b.den:Int)-b.num*(a.den:Int))<=33554433:=Qa (Qgf _ _) (by omega);exact (Qs.divInt (s:=33554433) h5 (by omega) (by omega)).mono (by omega)
theorem Qmo {a b:Tm} {r:Tm×Tm×Int} (ha:Tb a) (hb:Tb b) (h:apF (Tz a b) a b=some r):Ub Tryz.prog 163 [.agg (ta a),.agg (ta b)] [.agg (ta r.1),.agg (ta r.2.1),.one (.int .i64 r.2.2)]:=by
 have hsb:=Q1f ha hb;refine Gl Tryz.func163 rfl ?_;refine go tt [.c [] (Zau ha hb)] rfl trivial ?_;obtain ⟨n,hn⟩:=nmE (Tz a b);rw [<-hn] at h hsb ⊢;refine sb [(10,.v (.one (.int .i64 0))),(9,.v (.one (.int .i64 (n:Int)))),(5,.v (.one (.ow 3 0))),(4,.v (.one (.ow 2 0))),(3,.v (.one (.ow 1 0))),(2,.v (.one (.ow 0 0)))] [.blk 74 (ta a),.blk 74 (ta b),.blk 74 zTm,.blk 74 zTm] rfl rfl ?_;refine lp (S:=Nat×Tm×Tm) 4 (λL1 s=>(10,.v (.one (.int .i64 (s.1:Int))))::L1) (λs=>[.blk 74 (ta s.2.1),.blk 74 (ta s.2.2),.blk 74 zTm,.blk 74 zTm]) (λs=>n-s.1) (λs=>s.1<=n/\Tb s.2.1/\Tb s.2.2/\apF (n-s.1) s.2.1 s.2.2=some r) (0,a,b) ⟨Qi _,ha,hb,h⟩ rfl (λ_ _=>rfl) rfl λ⟨i,u,v⟩ ⟨j1,j2,j3,j4⟩=>?_
 dsimp only at j1 j2 j3 j4 ⊢;by_cases hi:i<n
 ·obtain ⟨k,hk⟩:∃ k,n-i=k+1:=⟨n-i-1,by omega⟩;have hk':n-(i+1)=k:=by omega
  rw [hk] at j4;have c1:=C7 j2.hi.s31 j3.lo.s31;have c2:=C7 j3.hi.s31 j2.lo.s31;have pu:=Bs j2;have pv:=Bs j3;have hlt:decide ((i:Int)<(n:Int))=true:=by simp; omega
  simp only [apF] at j4;refine go tt [.t hlt] rfl trivial ?_;refine ct 3 (S:=Unit) (λ_=>[(10,.v (.one (.int .i64 (i:Int)))),(9,.v (.one (.int .i64 (n:Int)))),(5,.v (.one (.ow 3 0))),(4,.v (.one (.ow 2 0))),(3,.v (.one (.ow 1 0))),(2,.v (.one (.ow 0 0)))]) (λ_=>[.blk 74 (ta u),.blk 74 (ta v),.blk 74 zTm,.blk 74 zTm]) (λ_=>¬Bp u v=true/\¬Bp v u=true) rfl ?_ ?_
  ·have bA:Bp u v=(decide (U7 u.hi v.lo<=0) && !(u.point && v.point && decide (U7 u.hi v.lo=0))):=by
    unfold Bp; cases u.point <;> cases v.point <;> simp
   have bB:Bp v u=(decide (U7 v.hi u.lo<=0) && !(u.point && v.point && decide (U7 v.hi u.lo=0))):=by
    unfold Bp; cases u.point <;> cases v.point <;> simp
   obtain ⟨a0,A'⟩:∃ b,decide (U7 u.hi v.lo<=0)=b:=⟨_,rfl⟩;obtain ⟨b0,B'⟩:∃ b,decide (U7 v.hi u.lo<=0)=b:=⟨_,rfl⟩;obtain ⟨p0,P'⟩:∃ b,u.point=b:=⟨_,rfl⟩;obtain ⟨q0,Q'⟩:∃ b,v.point=b:=⟨_,rfl⟩;obtain ⟨x0,X'⟩:∃ b,decide (U7 u.hi v.lo=0)=b:=⟨_,rfl⟩;obtain ⟨y0,Y'⟩:∃ b,decide (U7 v.hi u.lo=0)=b:=⟨_,rfl⟩;rw [A',P',Q',X'] at bA;rw [B',P',Q',Y'] at bB;have r1:Bp u v=true->(u,v,-1)=r:=λh=>by rw [if_pos h] at j4; injection j4
   have r2:¬Bp u v=true->Bp v u=true->(u,v,1)=r:=λh h'=>by rw [if_neg h,if_pos h'] at j4; injection j4
   clear j4;cases a0
   ·cases b0
    ·exact go tt [.c [] c1,.g 19 false A',.f rfl,.c [] c2,.g 45 false B',.f rfl] rfl trivial (rc () ⟨by rw [bA]; simp,by rw [bB]; simp⟩ rfl)
    ·cases p0
     ·obtain rfl:=r2 (by rw [bA]; simp) (by rw [bB]; rfl);exact en tt [.c [] c1,.g 19 false A',.f rfl,.c [] c2,.g 45 true B',.c [] pu,.g 48 false P',.g 52 false rfl,.t rfl] rfl rfl trivial
     ·cases q0
      ·obtain rfl:=r2 (by rw [bA]; simp) (by rw [bB]; rfl);exact en tt [.c [] c1,.g 19 false A',.f rfl,.c [] c2,.g 45 true B',.c [] pu,.g 48 true P',.c [] pv,.g 52 false Q',.t rfl] rfl rfl trivial
      ·cases y0
       ·obtain rfl:=r2 (by rw [bA]; simp) (by rw [bB]; rfl);exact en tt [.c [] c1,.g 19 false A',.f rfl,.c [] c2,.g 45 true B',.c [] pu,.g 48 true P',.c [] pv,.g 52 true Q',.c [] c2,.t (by simpa using Y')] rfl rfl trivial
       ·exact go tt [.c [] c1,.g 19 false A',.f rfl,.c [] c2,.g 45 true B',.c [] pu,.g 48 true P',.c [] pv,.g 52 true Q',.c [] c2,.f (by simpa using Y')] rfl trivial (rc () ⟨by rw [bA]; simp,by rw [bB]; simp⟩ rfl)
   ·cases p0
    ·obtain rfl:=r1 (by rw [bA]; rfl);exact en tt [.c [] c1,.g 19 true A',.c [] pu,.g 22 false P',.g 26 false rfl,.t rfl] rfl rfl trivial
    ·cases q0
     ·obtain rfl:=r1 (by rw [bA]; rfl);exact en tt [.c [] c1,.g 19 true A',.c [] pu,.g 22 true P',.c [] pv,.g 26 false Q',.t rfl] rfl rfl trivial
     ·cases x0
      ·obtain rfl:=r1 (by rw [bA]; rfl);exact en tt [.c [] c1,.g 19 true A',.c [] pu,.g 22 true P',.c [] pv,.g 26 true Q',.c [] c1,.t (by simpa using X')] rfl rfl trivial
      ·cases b0
       ·exact go tt [.c [] c1,.g 19 true A',.c [] pu,.g 22 true P',.c [] pv,.g 26 true Q',.c [] c1,.f (by simpa using X'),.c [] c2,.g 45 false B',.f rfl] rfl trivial (rc () ⟨by rw [bA]; simp,by rw [bB]; simp⟩ rfl)
       ·cases y0
        ·obtain rfl:=r2 (by rw [bA]; simp) (by rw [bB]; rfl);exact en tt [.c [] c1,.g 19 true A',.c [] pu,.g 22 true P',.c [] pv,.g 26 true Q',.c [] c1,.f (by simpa using X'),.c [] c2,.g 45 true B',.c [] pu,.g 48 true P',.c [] pv,.g 52 true Q',.c [] c2,.t (by simpa using Y')] rfl rfl trivial
        ·exact go tt [.c [] c1,.g 19 true A',.c [] pu,.g 22 true P',.c [] pv,.g 26 true Q',.c [] c1,.f (by simpa using X'),.c [] c2,.g 45 true B',.c [] pu,.g 48 true P',.c [] pv,.g 52 true Q',.c [] c2,.f (by simpa using Y')] rfl trivial (rc () ⟨by rw [bA]; simp,by rw [bB]; simp⟩ rfl)
  ·rintro _ ⟨n1,n2⟩
   rw [if_neg n1,if_neg n2] at j4;have qr:∀ {x y:Rat},Qb x->Qb y->Qs 2147483647 (Qi3 x y):=λh1 h2=>Zcs h1 h2
   have cc:=C7 (qr j2.hi j2.lo) (qr j3.hi j3.lo);by_cases D:0<=U7 (Qi3 u.hi u.lo) (Qi3 v.hi v.lo)
   ·rw [if_pos D] at j4;obtain ⟨x,x1,x2⟩:=Qe.1 j4;refine go tt [.c [] (Qmv j2.hi j2.lo),.c [] (Qmv j3.hi j3.lo),.c [] cc,.t (by simpa using D),.c [] (Qtk j2 x1)] rfl (by simp [Ua]; omega) ?_;exact rd (i+1,x,v) (by dsimp only; omega) ⟨hi,Qou j2 x1,j3,by dsimp only; rw [hk']; exact x2⟩ rfl
   ·rw [if_neg D] at j4;obtain ⟨x,x1,x2⟩:=Qe.1 j4;refine go tt [.c [] (Qmv j2.hi j2.lo),.c [] (Qmv j3.hi j3.lo),.c [] cc,.f (by simpa using D),.c [] (Qtk j3 x1)] rfl (by simp [Ua]; omega) ?_;exact rd (i+1,u,x) (by dsimp only; omega) ⟨hi,j2,Qou j3 x1,by dsimp only; rw [hk']; exact x2⟩ rfl
 ·obtain rfl:i=n:=by omega
  rw [Yb] at j4;simp only [apF] at j4;injection j4 with j4; subst j4;exact en tt [.f (by simp)] rfl rfl trivial
theorem Zaq {a b:Rat} (ha:Qb a) (hb:Qb b):Ub Tryz.prog 98 [.agg (rl a),.one (.row [rl b])] [.agg (rl (if 0<U7 b a then b else a))]:=by
 have ca:=Qbw (Uc a.num) (Uc (a.den:Int)) ha.s32.1 ha.s32.2;have cb:=Qbw (Uc b.num) (Uc (b.den:Int)) hb.s32.1 hb.s32.2;rw [An] at ca cb;have cc:=C7 hb.s31 ha.s31;refine Gl Tryz.func98 rfl ?_;refine go tt [.c [] ca] rfl trivial ?_;refine lp (S:=Nat) 3 (λL1 i=>(12,.v (.one (.int .i64 (i:Int))))::L1) (λi=>[.blk 72 (rl a),.blk 72 [.bool false,.nils,.bool false,.nils],.blk 72 (rl (if i=0 then a else if 0<U7 b a then b else a))]) (λi=>1-i) (λi=>i<=1) 0 (Qi _) rfl (λ_ _=>rfl) rfl λi hi=>?_
 rcases (show i=0\/i=1 by omega) with rfl | rfl
 ·by_cases h:0<U7 b a
  ·refine go tt [.t rfl,.x (i:=0) (xs:=rl b) rfl,.c [] cc,.t (by simpa using h),.c [] cb] rfl (by simp [Ua]) ?_;exact rd 1 (by omega) (by omega) (by rw [if_pos h]; rfl)
  ·refine go tt [.t rfl,.x (i:=0) (xs:=rl b) rfl,.c [] cc,.f (by simpa using h)] rfl (by simp [Ua]) ?_;exact rd 1 (by omega) (by omega) (by rw [if_neg h]; rfl)
 ·exact en tt [.f rfl] rfl rfl trivial
theorem Qg4 {a b:Tm} {c:Int} (ha:Tb a) (hb:Tb b) (h:Qfv a b=some c):Ub Tryz.prog 92 [.agg (ta a),.agg (ta b)] [.one (.int .i64 c)]:=by
 have ca:=Qf7 ha;have cb:=Qf7 hb;have pa:=Bs ha;have pb:=Bs hb;unfold Qfv at h;by_cases h1:a.point=true
 ·rw [if_pos h1] at h;injection h with h; subst h;have:=Zay b a.lo;exact w tt Tryz.func92 rfl [.c [] ca,.c [] cb,.c [] pa,.t h1,.c [] (Qg5 hb ha.lo)] rfl rfl (by simp [Ua]; omega)
 rw [if_neg h1] at h;have h1:a.point=false:=by simpa using h1
 by_cases h2:b.point=true
 ·rw [if_pos h2] at h;injection h with h; subst h;exact w tt Tryz.func92 rfl [.c [] ca,.c [] cb,.c [] pa,.f h1,.c [] pb,.t h2,.c [] (Qg5 ha hb.lo)] rfl rfl trivial
 rw [if_neg h2] at h;have h2:b.point=false:=by simpa using h2
 obtain ⟨lo,hlo⟩:=nmE (if 0<U7 b.lo a.lo then b.lo else a.lo);obtain ⟨hi,hhi⟩:=nmE (if U7 b.hi a.hi<0 then b.hi else a.hi);have h:(if U7 lo hi<0 then (Qn7 a.p b.p).bind λg=>if 1<g.length/\Qb6 g lo hi=true then some 0 else (apF (Tz a b) a b).bind λr=>some r.2.2 else (apF (Tz a b) a b).bind λr=>some r.2.2)=some c:=by rw [hlo,hhi]; exact h
 have qlo:Qb lo:=by rw [hlo]; split; exact hb.lo; exact ha.lo
 have qhi:Qb hi:=by rw [hhi]; split; exact hb.hi; exact ha.hi
 have cm:=Zaq ha.lo hb.lo;rw [<-hlo] at cm;have cc1:=C7 hb.hi.s31 ha.hi.s31;have cc2:=C7 qlo.s31 qhi.s31;refine Gl Tryz.func92 rfl ?_;refine go tt [.c [] ca,.c [] cb,.c [] pa,.f h1,.c [] pb,.f h2,.c [] cm] rfl trivial ?_;refine ct 2 (S:=Unit) (λ_=>[(6,.v (.one (.ow 3 0))),(5,.v (.one (.ow 2 0))),(4,.v (.one (.int .i64 0))),(3,.v (.one (.ow 1 0))),(2,.v (.one (.ow 0 0)))]) (λ_=>[.blk 74 (ta a),.blk 74 (ta b),.blk 72 (rl lo),.blk 72 (rl hi)]) (λ_=>True) rfl ?_ ?_
 ·by_cases D:U7 b.hi a.hi<0
  ·rw [if_pos D] at hhi; subst hhi;exact go tt [.c [] cc1,.t (by simpa using D)] rfl trivial (rc () trivial rfl)
  ·rw [if_neg D] at hhi; subst hhi;exact go tt [.c [] cc1,.f (by simpa using D)] rfl trivial (rc () trivial rfl)
 ·rintro _ _
  by_cases D:U7 lo hi<0
  ·rw [if_pos D] at h;obtain ⟨g,g1,h⟩:=Qe.1 h;have cg:=Q2t ha.p hb.p g1;have pg:=Q6l ha.p hb.p g1;have ch:=Q3e pg qlo qhi;by_cases G:1<g.length
   ·by_cases R:Qb6 g lo hi=true
    ·rw [if_pos ⟨G,R⟩] at h;injection h with h; subst h;exact en tt [.c [] cc2,.t (by simpa using D),.c [] cg,.c [] (Pe g),.g 58 true (by simp; omega),.c [] ch,.t R] rfl rfl trivial
    ·rw [if_neg λh=>R h.2] at h;obtain ⟨r,r1,h⟩:=Qe.1 h;injection h with h; subst h;exact en tt [.c [] cc2,.t (by simpa using D),.c [] cg,.c [] (Pe g),.g 58 true (by simp; omega),.c [] ch,.f (by simpa using R),.c [] (Qmo ha hb r1)] rfl rfl trivial
   ·rw [if_neg λh=>G h.1] at h;obtain ⟨r,r1,h⟩:=Qe.1 h;injection h with h; subst h;exact en tt [.c [] cc2,.t (by simpa using D),.c [] cg,.c [] (Pe g),.g 58 false (by simp; omega),.f rfl,.c [] (Qmo ha hb r1)] rfl rfl trivial
  ·rw [if_neg D] at h;obtain ⟨r,r1,h⟩:=Qe.1 h;injection h with h; subst h;exact en tt [.c [] cc2,.f (by simpa using D),.c [] (Qmo ha hb r1)] rfl rfl trivial
theorem Q9t {p:List Int} {a:Tm} {s:Int} (hp:Pb p) (ha:Tb a) (h:Qi6 p a=some s):Ub Tryz.prog 228 [pr p,.agg (ta a)] [.one (.int .i64 s)]:=by
 have ca:=Qf7 ha;have pa:=Bs ha;have cn:=Gq hp.t hp.ln hp.bd;unfold Qi6 at h;by_cases h0:p.length=0
 ·rw [if_pos h0] at h;injection h with h; subst h;exact w tt Tryz.func228 rfl [.c [] cn,.c [] ca,.t (by simp; exact Qh h0)] rfl rfl trivial
 rw [if_neg h0] at h;have h0:p≠[]:=λe=>h0 (by rw [e]; rfl)
 by_cases h1:a.point=true
 ·rw [if_pos h1] at h;injection h with h; subst h;exact w tt Tryz.func228 rfl [.c [] cn,.c [] ca,.f (by simpa using h0),.c [] pa,.t h1,.c [] (Qfu hp ha.lo)] rfl rfl trivial
 rw [if_neg h1] at h;have h1:a.point=false:=by simpa using h1
 obtain ⟨g,g1,h⟩:=Qe.1 h;have cg:=Q2t hp ha.p g1;have pg:=Q6l hp ha.p g1;have ch:=Q3e pg ha.lo ha.hi;by_cases G:1<g.length/\Qb6 g a.lo a.hi=true
 ·rw [if_pos G] at h;injection h with h; subst h;exact w tt Tryz.func228 rfl [.c [] cn,.c [] ca,.f (by simpa using h0),.c [] pa,.f h1,.c [] cg,.c [] (Pe g),.g 29 true (by simp; omega),.c [] ch,.t G.2] rfl rfl trivial
 rw [if_neg G] at h;obtain ⟨c,c1,h⟩:=Qe.1 h;obtain ⟨u,u1,h⟩:=Qe.1 h;injection h with h; subst h;obtain ⟨cl,call⟩:=chain_ok hp c1;obtain ⟨n,hn⟩:=nmE (64+2*(Ul a.lo.num+Ul a.hi.num)+4*(a.p.length+p.length)*(Fv a.p+Fv p+(a.p.length+p.length)+8));have cst:=Q3y ha hp;rw [show Qvu p a=n from hn.symm] at cst;rw [<-hn] at u1;have hnb:n<=17179938816+200000000:=by
  have l1:=ha.p.l;have l2:=hp.l;have b1:=ha.lo.1;have b2:=ha.hi.1;have s1:Fv a.p<=16777216:=by have:=Sw ha.p.b a.p.length; rwa [Q4] at this
  have s2:Fv p<=16777216:=by have:=Sw hp.b p.length; rwa [Q4] at this
  have:4*(a.p.length+p.length)*(Fv a.p+Fv p+(a.p.length+p.length)+8)<=512*33554568:=Zt (by omega) (by omega);omega
 refine Gl Tryz.func228 rfl ?_;refine go tt [.c [] cn,.c [] ca,.f (by simpa using h0),.c [] pa,.f h1,.c [] cg] rfl trivial ?_;refine ct 2 (S:=Unit) (λ_=>[(3,.v (.one (.ow 0 0))),(0,.v (pr p))]) (λ_=>[.blk 74 (ta a)]) (λ_=>True) rfl ?_ ?_
 ·by_cases G1:1<g.length
  ·exact go tt [.c [] (Pe g),.g 29 true (by simp; omega),.c [] ch,.f (by simpa using λh=>G ⟨G1,h⟩)] rfl trivial (rc () trivial rfl)
  ·exact go tt [.c [] (Pe g),.g 29 false (by simp; omega),.f rfl] rfl trivial (rc () trivial rfl)
 rintro _ _
 refine go tt [.c [] (Q22 hp c1),.c [] cst] rfl trivial ?_;refine lp (S:=Nat×Tm) 1 (λL1 s=>(46,.v (.one (.int .i64 (s.1:Int))))::L1) (λs=>[.blk 74 (ta s.2)]) (λs=>n-s.1) (λs=>s.1<=n/\Tb s.2/\sgF c (n-s.1) s.2=some u) (0,a) ⟨Qi _,ha,u1⟩ rfl (λ_ _=>rfl) rfl λ⟨i,x⟩ ⟨j1,j2,j3⟩=>?_
 dsimp only at j1 j2 j3 ⊢;by_cases hi:i<n
 ·obtain ⟨k,hk⟩:∃ k,n-i=k+1:=⟨n-i-1,by omega⟩;have hk':n-(i+1)=k:=by omega
  rw [hk] at j3;simp only [sgF] at j3;have px:=Bs j2;have cb:=Qj4 (by omega) call j2.lo j2.hi;have hlt:decide ((i:Int)<(n:Int))=true:=by simp; omega
  by_cases X:x.point=true
  ·rw [if_pos (.inl X)] at j3;injection j3 with j3; subst j3;exact en tt [.t hlt,.c [] px,.g 50 true X,.t rfl,.c [] (Qfu hp j2.hi)] rfl rfl trivial
  ·have X':x.point=false:=by simpa using X
   by_cases Z:Gw c x.lo x.hi=0
   ·rw [if_pos (.inr Z)] at j3;injection j3 with j3; subst j3;exact en tt [.t hlt,.c [] px,.g 50 false X',.c [] cb,.t (by simpa using Z),.c [] (Qfu hp j2.hi)] rfl rfl trivial
   ·rw [if_neg (by rintro (h | h); exact X h; exact Z h)] at j3;obtain ⟨v,v1,v2⟩:=Qe.1 j3;refine go tt [.t hlt,.c [] px,.g 50 false X',.c [] cb,.f (by simpa using Z),.c [] (Qtk j2 v1)] rfl (by simp [Ua]; omega) ?_;exact rd (i+1,v) (by dsimp only; omega) ⟨hi,Qou j2 v1,by dsimp only; rw [hk']; exact v2⟩ rfl
 ·obtain rfl:i=n:=by omega
  rw [Yb] at j3;simp only [sgF] at j3;injection j3 with j3; subst j3;exact en tt [.f (by simp),.c [] (Qfu hp j2.hi)] rfl rfl trivial
abbrev tas (l:List Tm):LV:=.row (l.map λt=>ta t)
theorem Qgw {l:List Tm} {i:Nat} {t:Tm} (h:l[i]? = some t):(l.map λt=>ta t)[i]? = some (ta t):=Gx h
def zTr:List LV:=[.row [],.bool false,.row [],.bool false,.row [],.bool false,.row [],.bool false,.row []]
theorem Q2m:Ub Tryz.prog 85 [.one (.row [])] [.agg zTr,.one (.bool false)]:=w tt Tryz.func85 rfl [.t rfl] rfl rfl trivial
theorem Lu {b:Tm} {l:List Tm} {m:Tm} (hb:Tb b) (hl:∀ t∈l,Tb t) (hn:l.length≤1000000) (h:Ah b l=some m):Ub Tryz.prog 85 [.one (tas (b::l))] [.agg (ta m),.one (.bool true)]:=by
 refine Gl Tryz.func85 rfl ?_;refine go tt [.f (by simp; omega),.x (i:=0) (xs:=ta b) rfl,.i 1] rfl (by simp [Ua]; exact ⟨rfl,λ_ _=>rfl⟩) ?_;refine lp (S:=Nat×Tm) 2 (λL1 s=>(17,.v (.one (.int .i64 (s.1:Int))))::L1) (λs=>[.blk 74 zTm,.blk 74 (ta s.2)]) (λs=>l.length-s.1) (λs=>s.1<=l.length/\Tb s.2/\Ah s.2 (l.drop s.1)=some m) (0,b) ⟨Qi _,hb,h⟩ rfl (λ_ _=>rfl) rfl λ⟨i,x⟩ ⟨j1,j2,j3⟩=>?_
 dsimp only at j1 j2 j3 ⊢;by_cases hi:i<l.length
 ·obtain ⟨a,ha⟩:=gxE (l:=l) (i:=i) hi;have hdr:l.drop i=a::l.drop (i+1):=by
   rw [Zm hi]; congr 1;have:=Qd hi; rw [ha] at this; injection this with this; exact this.symm
  rw [hdr] at j3;simp only [Ah] at j3;obtain ⟨c,c1,j3⟩:=Qe.1 j3;have ta':=hl a (Qc ha);by_cases hc:c<0
  ·rw [if_pos hc] at j3;refine go tt [.t (by simp; omega),.x (Qgw ha),.c [] (Qg4 ta' j2 c1),.t (by simpa using hc)] rfl (by simp [Ua]; omega) ?_;exact rd (i+1,a) (by dsimp only; omega) ⟨hi,ta',j3⟩ rfl
  ·rw [if_neg hc] at j3;refine go tt [.t (by simp; omega),.x (Qgw ha),.c [] (Qg4 ta' j2 c1),.f (by simpa using hc)] rfl (by simp [Ua]; omega) ?_;exact rd (i+1,x) (by dsimp only; omega) ⟨hi,j2,j3⟩ rfl
 ·obtain rfl:i=l.length:=by omega
  rw [Vn] at j3;simp only [Ah] at j3;injection j3 with j3; subst j3;exact en tt [.f (by simp),.c [] (Q3z j2)] rfl rfl trivial
end Orr
