/- R4 RefPL CrvL CrowdL PredL CertL Y1 Y2 Q1 C1 C2 D1 E1 AlgL F1 F2 F3 F4 -/
import Derived.Test.YtkkhemmhhedniaaGreatPart04
import Derived.Test.YtkkhemmhhedniaaGreatPart00
set_option linter.all false
namespace Orr
open Go Go.Proofs
set_option maxRecDepth 10000
theorem Zg0 {a b:Int} (h:(decide (a<0) == decide (b<0))=true):U3 (decide (a<0)) (a.natAbs+b.natAbs)=a+b:=by
 unfold U3;by_cases h1:a<0 <;> by_cases h2:b<0 <;> simp [h1,h2] at h ⊢ <;> omega
theorem Zg3 {a b:Int} (h:¬(decide (a<0) == decide (b<0))=true) (hl:b.natAbs<=a.natAbs):U3 (decide (a<0)) (a.natAbs-b.natAbs)=a+b:=by
 unfold U3;by_cases h1:a<0 <;> by_cases h2:b<0 <;> simp [h1,h2] at h ⊢ <;> omega
theorem Zb3 {a b:Int} (h:¬(decide (a<0) == decide (b<0))=true) (hl:¬b.natAbs<=a.natAbs):U3 (decide (b<0)) (b.natAbs-a.natAbs)=a+b:=by
 unfold U3;by_cases h1:a<0 <;> by_cases h2:b<0 <;> simp [h1,h2] at h ⊢ <;> omega
theorem Qb6 (a:Int):(∃ m:Nat,a=(m:Int))\/∃ m:Nat,a=-(m:Int)/\0<m:=by
 rcases Wg a 0 with h | h
 ·exact .inr ⟨a.natAbs,by omega,by omega⟩
 ·exact .inl ⟨a.natAbs,by omega⟩
theorem Zg2 (a b:Int):U3 (!(decide (a<0) == decide (b<0))) (a.natAbs*b.natAbs)=a*b:=by
 rcases Qb6 a with ⟨m,rfl⟩ | ⟨m,rfl,hm⟩ <;> rcases Qb6 b with ⟨n,rfl⟩ | ⟨n,rfl,hn⟩
 ·simp [U3,show ¬((m:Int)<0) by omega,show ¬((n:Int)<0) by omega]
 ·simp [U3,show ¬((m:Int)<0) by omega,show (-(n:Int)<0) by omega,hn,Kx]
 ·simp [U3,show (-(m:Int)<0) by omega,show ¬((n:Int)<0) by omega,hm,Kj]
 ·simp [U3,show (-(m:Int)<0) by omega,show (-(n:Int)<0) by omega,hm,hn,Ul]
theorem Zg1 {a b:Int} (h:a % b=0):U3 (!(decide (a<0) == decide (b<0))) (a.natAbs / b.natAbs)=a / b:=by
 by_cases hb:b=0
 ·subst hb; simp [U3]
 obtain ⟨c,rfl⟩:=Yp h;rw [Xl _ hb,Jt,Nat.mul_div_cancel_left _ (by omega)];rcases Qb6 b with ⟨n,rfl⟩ | ⟨n,rfl,hn⟩ <;> rcases Qb6 c with ⟨m,rfl⟩ | ⟨m,rfl,hm⟩
 ·have:¬((n:Int)*(m:Int)<0):=by rw [<-Vl]; omega
  simp [U3,this,show ¬((n:Int)<0) by omega]
 ·have h1:0<n*m:=Ya (by omega) hm;have:((n:Int)*-(m:Int)<0):=by rw [Kx,<-Vl]; omega
  simp only [this,show ¬((n:Int)<0) by omega];simp [U3]
 ·by_cases h0:m=0
  ·subst h0; simp [U3]
  ·have h1:0<n*m:=Ya hn (by omega);have:(-(n:Int)*(m:Int)<0):=by rw [Kj,<-Vl]; omega
   simp only [this,show (-(n:Int)<0) by omega];simp [U3]
 ·have:¬(-(n:Int)*-(m:Int)<0):=by rw [Ul,<-Vl]; omega
  simp only [this,show (-(n:Int)<0) by omega];simp [U3]
theorem Zb9 (a b:Int):Int.sign (a-b)=No a b:=by
 unfold No;rcases J1 a b with h | h | h
 ·rw [if_pos h,Xw (by omega)]
 ·rw [if_neg (by omega),if_neg (by omega),h,Int.sub_self]; rfl
 ·rw [if_neg (by omega),if_pos h,X4 (by omega)]
theorem Q0w {x y:Nat}:0<=Oy x y↔y<=x:=by
 unfold Oy;constructor
 ·intro h; split at h
  ·omega
  ·omega
 ·intro h; split
  ·omega
  ·split <;> omega
theorem Qkf {x e:Nat} (h:(Fl x).length=1) (he:(Fl x)[0]? = some e):x=e:=by
 rcases hd:Fl x with _ | ⟨u,l⟩
 ·rw [hd] at h; cases h
 ·rcases l with _ | ⟨w,l⟩
  ·rw [hd] at he; simp at he;have:=Hz x;rw [hd] at this; simp [Rw] at this; omega
  ·rw [hd] at h; simp at h
theorem Qxk {a b:Int} (hb:0<b):ri (a / ((Int.gcd a b:Nat):Int))++ri (b / ((Int.gcd a b:Nat):Int))=fr (Rat.divInt a b):=by
 obtain ⟨h1,h2⟩:=Qqy (n:=a) hb;rw [Nu,Int.gcd_comm] at h1 h2;rw [h1,h2]
theorem Qxl (a:Int):ri a++ri 1=fr (Rat.divInt a 1):=by
 have h:=Qxk (a:=a) (b:=1) (by decide);rw [show ((Int.gcd a 1:Nat):Int)=1 by simp] at h;simpa using h
theorem Qn7 {a b:Int} (hb:b≠0) (ha2:U6 a<=90000000) (hb2:U6 b<=90000000):U6 ((Int.gcd a b:Nat):Int)<=90000000/\((Int.gcd a b:Nat):Int)≠0/\a % ((Int.gcd a b:Nat):Int)=0/\b % ((Int.gcd a b:Nat):Int)=0:=by
 have h1:=Q1l (n:=a) hb hb2;have h2:=Qtt (n:=a) hb;have h3:=Qk2 a b;have h4:=Qk3 a b;rw [Nu,Int.gcd_comm] at h1 h2 h3 h4;exact ⟨h1,by omega,h3,h4⟩
theorem Qox {a b:Int} (h:b<0):G6 a b=Rat.divInt (-a) (-b):=by
 unfold G6; rw [if_neg (by omega)];exact (Rat.neg_divInt_neg a b).symm
theorem Qoy {a b:Int} (h:0<b):G6 a b=Rat.divInt a b:=by
 unfold G6; rw [if_neg (by omega)]
theorem Q3k (a b:Rat):G6 (a.num*(b.den:Int)+b.num*(a.den:Int)) ((a.den:Int)*(b.den:Int))=a+b:=by
 unfold G6;rw [if_neg (X9 (Ca a) (Ca b)),<-Rat.divInt_add_divInt _ _ (Ca a) (Ca b),Z3,Z3]
theorem Qoi (a b:Rat):G6 (a.num*b.num) ((a.den:Int)*(b.den:Int))=a*b:=by
 unfold G6;rw [if_neg (X9 (Ca a) (Ca b)),<-K9,Z3,Z3]
theorem Qou {a b:Rat} (h:b≠0):G6 (a.num*(b.den:Int)) ((a.den:Int)*b.num)=a / b:=by
 have hn:b.num≠0:=λe=>h (Rat.num_eq_zero.1 e)
 unfold G6;rw [if_neg (X9 (Ca a) hn),<-K9,Z3,Js];congr 1
 conv=>rhs; rw [<-Z3 b,Rat.inv_divInt]
theorem Qjt {z:Int} (hz:U6 z<=100000000):Uu Tryz.prog 56 [.agg (Gv z)] [.agg (ri z)]:=by
 have hl:(Fh z.natAbs).length<=1099511627776:=by have h2:32*(Fh z.natAbs).length<=100000000+31:=Ro hz; omega
 have h:=Zdt (l:=Fh z.natAbs) (λu hu=>(Cf _).1 u hu) hl (by rw [Gi]; exact hz);rw [Gi] at h;have hm:=Eo (decide (z<0)) z.natAbs;have e:U3 (decide (z<0)) z.natAbs=z:=by unfold U3; by_cases h:z<0 <;> simp [h] <;> omega
 rw [e] at hm;exact w tt Tryz.func56 rfl [.c [] h,.c [] hm] rfl rfl trivial
theorem Q0c {z:Int}:Uu Tryz.prog 166 [.agg (ri z)] [.one (.int .i64 (Int.sign z))]:=by
 have hn:=Qd3 (x:=z.natAbs);have hl:=Qc2 z.natAbs;rcases J1 z 0 with h | h | h
 ·rw [Xw h];exact w tt Tryz.func166 rfl [.f (by simp only [Ri]; exact decide_eq_false (by omega)),.t (decide_eq_true h)] rfl rfl trivial
 ·subst h;exact w tt Tryz.func166 rfl [.t (by simp only [Ri]; show decide (((Fl 0).length:Int)=0)=true; rw [Hb]; rfl)] rfl rfl trivial
 ·rw [X4 h];exact w tt Tryz.func166 rfl [.f (by simp only [Ri]; exact decide_eq_false (by omega)),.f (decide_eq_false (by omega))] rfl rfl trivial
theorem Qwu {a b:Int} (ha:U6 a<=200000000) (hb:U6 b<=200000000):Uu Tryz.prog 168 [.agg (ri a),.agg (ri b)] [.agg (ri (a+b))]:=by
 by_cases hs:(decide (a<0) == decide (b<0))=true
 ·have cm:=Eo (decide (a<0)) (a.natAbs+b.natAbs);rw [Zg0 hs] at cm;exact w tt Tryz.func168 rfl [.t hs,.c [] (Zje ha hb),.c [] cm] rfl rfl trivial
 ·have hs':(decide (a<0) == decide (b<0))=false:=by simpa using hs
  by_cases hl:b.natAbs<=a.natAbs
  ·have cm:=Eo (decide (a<0)) (a.natAbs-b.natAbs);rw [Zg3 hs hl] at cm;exact w tt Tryz.func168 rfl [.f hs',.c [] (Qwl ha hb),.t (decide_eq_true (Q0w.2 hl)),.c [] (Qwt ha hb hl),.c [] cm] rfl rfl trivial
  ·have cm:=Eo (decide (b<0)) (b.natAbs-a.natAbs);rw [Zb3 hs hl] at cm;exact w tt Tryz.func168 rfl [.f hs',.c [] (Qwl ha hb),.f (decide_eq_false λh=>hl (Q0w.1 h)),.c [] (Qwt hb ha (by omega)),.c [] cm] rfl rfl trivial
theorem Q7l {a b:Int} (ha:U6 a<=200000000) (hb:U6 b<=200000000):Uu Tryz.prog 170 [.agg (ri a),.agg (ri b)] [.agg (ri (a-b))]:=by
 have ca:=Qwu (a:=a) (b:=-b) ha (by rw [Hl]; exact hb);rw [show a+-b=a-b from by omega] at ca;exact w tt Tryz.func170 rfl [.c [] (I0 (z:=b)),.c [] ca] rfl rfl trivial
theorem S9 {a b:Int} (ha:U6 a<=200000000) (hb:U6 b<=200000000):Uu Tryz.prog 55 [.agg (ri a),.agg (ri b)] [.agg (ri (a*b))]:=by
 have cm:=Eo (!(decide (a<0) == decide (b<0))) (a.natAbs*b.natAbs);rw [Zg2] at cm;exact w tt Tryz.func55 rfl [.c [] (Zjk ha hb),.c [] cm] rfl rfl trivial
theorem Zjp {a b:Int} (ha:U6 a<=200000000) (hb:U6 b<=200000000):Uu Tryz.prog 96 [.agg (ri a),.agg (ri b)] [.one (.int .i64 (No a b))]:=by
 have h:=Q0c (z:=a-b);rw [Zb9] at h;exact w tt Tryz.func96 rfl [.c [] (Q7l ha hb),.c [] h] rfl rfl trivial
theorem Qfw {a b:Int} (ha:U6 a<=90000000) (hb:U6 b<=90000000) (h0:b≠0) (hd:a % b=0):Uu Tryz.prog 134 [.agg (ri a),.agg (ri b)] [.agg (ri (a / b))]:=by
 have cm:=Eo (!(decide (a<0) == decide (b<0))) (a.natAbs / b.natAbs);rw [Zg1 hd] at cm;exact w tt Tryz.func134 rfl [.c [] (Q6k ha hb (by omega)),.c [] cm] rfl rfl trivial
theorem Zk6 (x:Nat):ri ((x:Nat):Int)=[nd x,.bool false]:=by
 unfold ri sg;rw [Z9,decide_eq_false (by omega)]
theorem Qj1 {a b:Int} (ha:U6 a<=90000000) (hb:U6 b<=90000000):Uu Tryz.prog 133 [.agg (ri a),.agg (ri b)] [.agg (ri ((Int.gcd a b:Nat):Int))]:=by
 rw [Zk6];refine Gs Tryz.func133 rfl ?_;refine go tt [] rfl trivial ?_;refine lp (S:=Nat×Nat) 3 (λL1 s=>(5,.v (.one (nd s.1)))::(6,.v (.one (nd s.2)))::L1) (λ_=>[.blk 33 (ri a),.blk 33 (ri b),.blk 33 [.nils,.bool false]]) (λs=>s.2) (λs=>Nat.gcd s.1 s.2=Int.gcd a b/\sz s.1<=90000000/\sz s.2<=90000000) (a.natAbs,b.natAbs) ⟨rfl,ha,hb⟩ rfl (λ_ _=>rfl) rfl λs hs=>?_
 obtain ⟨x,y⟩:=s;obtain ⟨hp0,hp1,hp2⟩:=hs;dsimp only at hp0 hp1 hp2 ⊢;have hyn:=Qd3 (x:=y);have hyl:=Qc2 y;by_cases h1:y=0
 ·have e:Int.gcd a b=x:=by rw [<-hp0,h1,Nat.gcd_zero_right]
  rw [e];exact en tt [.f (by simp only [Ri]; exact decide_eq_false (by omega))] rfl rfl trivial
 ·have hlt:=Z4 x (show 0<y by omega);refine go tt [.t (by simp only [Ri]; exact decide_eq_true (by omega)),.c [] (Q6k hp1 hp2 (by omega))] rfl trivial ?_;exact rd (y,x % y) (by dsimp only; omega) ⟨by dsimp only; rw [<-hp0,Nat.gcd_comm x y,Nat.gcd_rec y x,Nat.gcd_comm],hp2,Nat.le_trans (Rq (by dsimp only; omega)) hp2⟩ rfl
theorem Qdu {a b:Int} (ha:U6 a<=90000000) (hb:U6 b<=90000000):Uu Tryz.prog 68 [.agg (ri a),.agg (ri b)] [.agg (fr (G6 a b))]:=by
 rcases J1 b 0 with hs | hs | hs
 ·skip
  by_cases h1:-b=1
  ·have h0:(Nb (Fl (-b).natAbs))[0]? = some [LV.int .i64 1]:=by rw [h1,show (1:Int).natAbs=1 from rfl,Ex]; rfl
   have hl1:decide (((Nb (Fl (-b).natAbs)).length:Int)=1)=true:=by rw [h1,show (1:Int).natAbs=1 from rfl,Ex]; rfl
   have e:fr (G6 a b)=ri (-a)++ri (-b):=by rw [Qox hs,h1]; exact (Qxl _).symm
   rw [e];exact w tt Tryz.func68 rfl [.c [] (Mr (z:=b)),.f (decide_eq_false (by omega)),.t (decide_eq_true hs),.c [] (I0 (z:=a)),.c [] (I0 (z:=b)),.g 19 true hl1,.x h0,.t rfl] rfl rfl trivial
  ·have hgf:=Qn7 (a:=-a) (b:=-b) (by omega) (by first | exact ha | (rw [Hl]; exact ha)) (by first | exact hb | (rw [Hl]; exact hb));have cg:=Qj1 (a:=-a) (b:=-b) (by first | exact ha | (rw [Hl]; exact ha)) (by first | exact hb | (rw [Hl]; exact hb));have q1:=Qfw (a:=-a) (b:=((Int.gcd (-a) (-b):Nat):Int)) (by first | exact ha | (rw [Hl]; exact ha)) hgf.1 hgf.2.1 hgf.2.2.1;have q2:=Qfw (a:=-b) (b:=((Int.gcd (-a) (-b):Nat):Int)) (by first | exact hb | (rw [Hl]; exact hb)) hgf.1 hgf.2.1 hgf.2.2.2;have e:fr (G6 a b)=ri ((-a) / ((Int.gcd (-a) (-b):Nat):Int))++ri ((-b) / ((Int.gcd (-a) (-b):Nat):Int)):=by rw [Qox hs]; exact (Qxk (by omega)).symm
   rw [e];have hl:=Qc2 (-b).natAbs;by_cases hl1:(Fl (-b).natAbs).length=1
   ·obtain ⟨u,hu⟩:=gxE (l:=(Fl (-b).natAbs)) (i:=0) (by omega);have hue:=Qkf hl1 hu;exact w tt Tryz.func68 rfl [.c [] (Mr (z:=b)),.f (decide_eq_false (by omega)),.t (decide_eq_true hs),.c [] (I0 (z:=a)),.c [] (I0 (z:=b)),.g 19 true (by simp only [Ri]; exact decide_eq_true (by omega)),.x (Gj hu),.f (decide_eq_false (by omega)),.c [] cg,.c [] q1,.c [] q2] rfl rfl trivial
   ·exact w tt Tryz.func68 rfl [.c [] (Mr (z:=b)),.f (decide_eq_false (by omega)),.t (decide_eq_true hs),.c [] (I0 (z:=a)),.c [] (I0 (z:=b)),.g 19 false (by simp only [Ri]; exact decide_eq_false (by omega)),.f rfl,.c [] cg,.c [] q1,.c [] q2] rfl rfl trivial
 ·subst hs;have h0:(Nb (Fl (1:Int).natAbs))[0]? = some [LV.int .i64 1]:=by rw [show (1:Int).natAbs=1 from rfl,Ex]; rfl
  have h1:decide (((Nb (Fl (1:Int).natAbs)).length:Int)=1)=true:=by rw [show (1:Int).natAbs=1 from rfl,Ex]; rfl
  have e:fr (G6 a 0)=ri a++ri 1:=(Qxl a).symm;rw [e];exact w tt Tryz.func68 rfl [.c [] (Mr (z:=0)),.t rfl,.c [] (C3 (n:=1) (by decide)),.f rfl,.g 19 true h1,.x h0,.t rfl] rfl rfl trivial
 ·skip
  by_cases h1:b=1
  ·have h0:(Nb (Fl (b).natAbs))[0]? = some [LV.int .i64 1]:=by rw [h1,show (1:Int).natAbs=1 from rfl,Ex]; rfl
   have hl1:decide (((Nb (Fl (b).natAbs)).length:Int)=1)=true:=by rw [h1,show (1:Int).natAbs=1 from rfl,Ex]; rfl
   have e:fr (G6 a b)=ri (a)++ri (b):=by rw [Qoy hs,h1]; exact (Qxl _).symm
   rw [e];exact w tt Tryz.func68 rfl [.c [] (Mr (z:=b)),.f (decide_eq_false (by omega)),.f (decide_eq_false (by omega)),.g 19 true hl1,.x h0,.t rfl] rfl rfl trivial
  ·have hgf:=Qn7 (a:=a) (b:=b) (by omega) (by first | exact ha | (rw [Hl]; exact ha)) (by first | exact hb | (rw [Hl]; exact hb));have cg:=Qj1 (a:=a) (b:=b) (by first | exact ha | (rw [Hl]; exact ha)) (by first | exact hb | (rw [Hl]; exact hb));have q1:=Qfw (a:=a) (b:=((Int.gcd (a) (b):Nat):Int)) (by first | exact ha | (rw [Hl]; exact ha)) hgf.1 hgf.2.1 hgf.2.2.1;have q2:=Qfw (a:=b) (b:=((Int.gcd (a) (b):Nat):Int)) (by first | exact hb | (rw [Hl]; exact hb)) hgf.1 hgf.2.1 hgf.2.2.2;have e:fr (G6 a b)=ri ((a) / ((Int.gcd (a) (b):Nat):Int))++ri ((b) / ((Int.gcd (a) (b):Nat):Int)):=by rw [Qoy hs]; exact (Qxk (by omega)).symm
   rw [e];have hl:=Qc2 (b).natAbs;by_cases hl1:(Fl (b).natAbs).length=1
   ·obtain ⟨u,hu⟩:=gxE (l:=(Fl (b).natAbs)) (i:=0) (by omega);have hue:=Qkf hl1 hu;exact w tt Tryz.func68 rfl [.c [] (Mr (z:=b)),.f (decide_eq_false (by omega)),.f (decide_eq_false (by omega)),.g 19 true (by simp only [Ri]; exact decide_eq_true (by omega)),.x (Gj hu),.f (decide_eq_false (by omega)),.c [] cg,.c [] q1,.c [] q2] rfl rfl trivial
   ·exact w tt Tryz.func68 rfl [.c [] (Mr (z:=b)),.f (decide_eq_false (by omega)),.f (decide_eq_false (by omega)),.g 19 false (by simp only [Ri]; exact decide_eq_false (by omega)),.f rfl,.c [] cg,.c [] q1,.c [] q2] rfl rfl trivial
theorem Zmr {n d:Int} (hn:-1000000000<=n/\n<=1000000000) (hd:-1000000000<=d/\d<=1000000000):Uu Tryz.prog 112 [.one (.int .i64 n),.one (.int .i64 d)] [.agg (fr (G6 n d))]:=by
 have b1:U6 n<=90000000:=Qc (T0.2 (show n.natAbs<2^40 by omega)) (by decide);have b2:U6 d<=90000000:=Qc (T0.2 (show d.natAbs<2^40 by omega)) (by decide);exact w tt Tryz.func112 rfl [.c [] (C3 (by omega)),.c [] (C3 (by omega)),.c [] (Qdu b1 b2)] rfl rfl trivial
theorem Zjm {a:Rat}:Uu Tryz.prog 67 [.agg (fr a)] [.agg (fr (-a))]:=by
 have e:fr (-a)=ri (-a.num)++ri (a.den:Int):=rfl;rw [e];exact w tt Tryz.func67 rfl [.c [] (I0 (z:=a.num))] rfl rfl trivial
theorem Q6h {a b:Rat} (ha:Qs 20000000 a) (hb:Qs 20000000 b):Uu Tryz.prog 169 [.agg (fr a),.agg (fr b)] [.agg (fr (a+b))]:=by
 have k1:=Fo a.num (b.den:Int);have k2:=Fo b.num (a.den:Int);have k3:=Fo (a.den:Int) (b.den:Int);have k4:=Qbu (a.num*(b.den:Int)) (b.num*(a.den:Int));have h1:=ha.1; have h2:=ha.2; have h3:=hb.1; have h4:=hb.2;have cm:=Qdu (a:=a.num*(b.den:Int)+b.num*(a.den:Int)) (b:=(a.den:Int)*(b.den:Int)) (by omega) (by omega);rw [Q3k] at cm;exact w tt Tryz.func169 rfl [.c [] (S9 (a:=a.num) (b:=(b.den:Int)) (by omega) (by omega)),.c [] (S9 (a:=b.num) (b:=(a.den:Int)) (by omega) (by omega)),.c [] (Qwu (by omega) (by omega)),.c [] (S9 (a:=(a.den:Int)) (b:=(b.den:Int)) (by omega) (by omega)),.c [] cm] rfl rfl trivial
theorem Q6v {a b:Rat} (ha:Qs 40000000 a) (hb:Qs 40000000 b):Uu Tryz.prog 139 [.agg (fr a),.agg (fr b)] [.agg (fr (a*b))]:=by
 have k1:=Fo a.num b.num;have k3:=Fo (a.den:Int) (b.den:Int);have h1:=ha.1; have h2:=ha.2; have h3:=hb.1; have h4:=hb.2;have cm:=Qdu (a:=a.num*b.num) (b:=(a.den:Int)*(b.den:Int)) (by omega) (by omega);rw [Qoi] at cm;exact w tt Tryz.func139 rfl [.c [] (S9 (a:=a.num) (b:=b.num) (by omega) (by omega)),.c [] (S9 (a:=(a.den:Int)) (b:=(b.den:Int)) (by omega) (by omega)),.c [] cm] rfl rfl trivial
theorem Qwq {a b:Rat} (ha:Qs 40000000 a) (hb:Qs 40000000 b) (h0:b≠0):Uu Tryz.prog 207 [.agg (fr a),.agg (fr b)] [.agg (fr (a / b))]:=by
 have k1:=Fo a.num (b.den:Int);have k3:=Fo (a.den:Int) b.num;have h1:=ha.1; have h2:=ha.2; have h3:=hb.1; have h4:=hb.2;have cm:=Qdu (a:=a.num*(b.den:Int)) (b:=(a.den:Int)*b.num) (by omega) (by omega);rw [Qou h0] at cm;exact w tt Tryz.func207 rfl [.c [] (S9 (a:=a.num) (b:=(b.den:Int)) (by omega) (by omega)),.c [] (S9 (a:=(a.den:Int)) (b:=b.num) (by omega) (by omega)),.c [] cm] rfl rfl trivial
theorem Zeb {a b:Rat} (ha:Qs 40000000 a) (hb:Qs 40000000 b):Uu Tryz.prog 30 [.agg (fr a),.agg (fr b)] [.one (.int .i64 (G7 a b))]:=by
 have k1:=Fo a.num (b.den:Int);have k2:=Fo b.num (a.den:Int);have h1:=ha.1; have h2:=ha.2; have h3:=hb.1; have h4:=hb.2;exact w tt Tryz.func30 rfl [.c [] (S9 (a:=a.num) (b:=(b.den:Int)) (by omega) (by omega)),.c [] (S9 (a:=b.num) (b:=(a.den:Int)) (by omega) (by omega)),.c [] (Zjp (a:=a.num*(b.den:Int)) (b:=b.num*(a.den:Int)) (by omega) (by omega))] rfl rfl trivial
end Orr
namespace Orr
def B5:List Rat->List Rat
 | []=>[]
 |
  x::l=>match B5 l with
  | []=>if x=0 then [] else [x]
  | y::k=>x::y::k
theorem Qbe:∀ {l:List Rat},(∀ x∈l,x=0)->B5 l=[]
 | [],_=>rfl
 |
  x::l,h=>by
  have ih:=Qbe (l:=l) (λy hy=>h y (Qj _ hy));simp [B5,ih,h x (Qx ..)]
theorem Qme:∀ {l:List Rat} {m:Nat} {y:Rat},(∀ j x,m<j->l[j]? = some x->x=0)->l[m]? = some y->y≠0->B5 l=l.take (m+1)
 | [],m,y,_,h,_=>by simp at h
 |
  x::l,0,y,h1,h2,h3=>by
  have h0:B5 l=[]:=Qbe λz hz=>by
   obtain ⟨j,hj⟩:=Zd.1 hz;exact h1 (j+1) z (by omega) (by simpa using hj)
  simp at h2;subst h2;simp [B5,h0,h3]
 |
  x::l,m+1,y,h1,h2,h3=>by
  have ih:=Qme (l:=l) (m:=m) (y:=y) (λj z hj hz=>h1 (j+1) z (by omega) (by simpa using hz)) (by simpa using h2) h3;cases hl:l with
  | nil=>subst hl; simp at h2
  |
   cons u k =>
   subst hl;rw [J9] at ih;simp only [B5] at ih ⊢;rw [ih];simp
theorem Qg3 {l:List Rat} {m:Nat} (hm:m<=l.length) (h1:∀ j x,m<=j->l[j]? = some x->x=0) (h2:0<m->∃ y,l[m-1]? = some y/\y≠0):B5 l=l.take m:=by
 rcases Qz m with h0 | h0
 ·subst h0;rw [Qbe λz hz=>?_]; rfl;obtain ⟨j,hj⟩:=Zd.1 hz;exact h1 j z (by omega) hj
 ·obtain ⟨y,hy,hy0⟩:=h2 h0;have:=Qme (l:=l) (m:=m-1) (y:=y) (λj x hj hx=>h1 j x (by omega) hx) hy hy0;rwa [show m-1+1=m from by omega] at this
theorem Qo6:∀ (l:List Rat),∀ z∈B5 l,z∈l
 | [],z,h=>h
 |
  x::l,z,h=>by
  simp only [B5] at h;have ih:=Qo6 l
  split at h
  ·split at h
   ·cases h
   ·simp at h; simp [h]
  ·rename_i y k e;rw [e] at ih;rcases Qo.1 h with h | h
   ·simp [h]
   ·exact Qj _ (ih z h)
theorem Qo5:∀ (l:List Rat),(B5 l).length<=l.length
 | []=>Qm _
 |
  x::l=>by
  have ih:=Qo5 l;simp only [B5]
  split
  ·split <;> simp
  ·rename_i y k e;rw [e] at ih;simp at ih ⊢; omega
def zp (p:List Int):List Rat:=p.map λ(z:Int)=>(z:Rat)
theorem Bs:∀ (p:List Int),B5 (zp p)=zp (trim p)
 | []=>rfl
 |
  x::l=>by
  have ih:=Bs l;unfold zp at ih ⊢;simp only [Z1,B5,trim,ih];cases h:trim l with
  |
   nil =>
   simp only [Ji];by_cases hx:x=0
   ·subst hx; simp
   ·have:(x:Rat)≠0:=λe=>hx (by exact_mod_cast e)
    simp [hx,this]
  | cons y k=>simp
theorem Sl (p:List Int):(zp p).length=p.length:=Q5 _
theorem Zc6 {p:List Int} {i:Nat} {z:Int} (h:p[i]? = some z):(zp p)[i]? = some (z:Rat):=by simp [zp,h]
theorem Qfl (p:List Int) (i:Nat):(zp p).getD i 0=((p.getD i 0:Int):Rat):=by
 simp only [Qg,zp,Q7];cases p[i]? <;> rfl
def Rb (s:Nat) (p:List Rat):Prop:=∀ q∈p,Qs s q
theorem Rb.mono {s t:Nat} {p:List Rat} (h:Rb s p) (ht:s<=t):Rb t p:=λq hq=>(h q hq).mono ht
theorem Rb.get {s:Nat} {p:List Rat} (h:Rb s p) {i:Nat} {q:Rat} (hq:p[i]? = some q):Qs s q:=h q (Qa hq)
theorem Do {s:Nat} {z:Int} (h:U6 z<=s) (h1:1<=s):Qs s (z:Rat):=⟨by simpa using h,Qc (show U6 ((1:Nat):Int)<=1 by decide) h1⟩
theorem Ox {s:Nat} {p:List Int} (h:Bd s p) (h1:1<=s):Rb s (zp p):=λq hq=>by
 obtain ⟨z,hz,rfl⟩:=Zn.1 hq;exact Do (h z hz) h1
theorem Zgm {s:Nat} (h1:1<=s):Qs s 0:=Do (z:=0) (by simp [Mk]) h1
theorem Rb.getD {s:Nat} {p:List Rat} (h:Rb s p) (h1:1<=s) (i:Nat):Qs s (p.getD i 0):=by
 rw [Qg];cases e:p[i]? with
 | none=>exact Zgm h1
 | some q=>exact h.get e
theorem Rb.trim {s:Nat} {p:List Rat} (h:Rb s p):Rb s (B5 p):=λq hq=>h q (Qo6 p q hq)
def O1 (f:Nat->Rat) (n:Nat):List Rat:=(List.range n).map f
theorem Qe9 (f:Nat->Rat) (n:Nat):(O1 f n).length=n:=by simp [O1]
theorem Qpe (f:Nat->Rat) (n:Nat):O1 f (n+1)=O1 f n++[f n]:=by simp [O1,Wj]
theorem Zhb {s n:Nat} {f:Nat->Rat} (h:∀ i,i<n->Qs s (f i)):Rb s (O1 f n):=λq hq=>by
 obtain ⟨i,hi,rfl⟩:=Zn.1 hq;exact h i (Kv.1 hi)
theorem Qje {f:Nat->Rat} {g:Nat->Int} (n:Nat) (h:∀ i,i<n->f i=(g i:Rat)):O1 f n=zp ((List.range n).map g):=by
 simp only [O1,zp,List.map_map];exact Ys λi hi=>h i (Kv.1 hi)
def Q5g (p q:List Rat):List Rat:=B5 (O1 (λi=>p.getD i 0+q.getD i 0) (max p.length q.length))
def Mh (p:List Rat) (c:Rat):List Rat:=B5 (O1 (λi=>p.getD i 0*c) p.length)
def Qrp (p:List Rat):List Rat:=Mh p (-1)
def Qmd (p q:List Rat):List Rat:=Q5g p (Qrp q)
theorem Q2s (p q:List Int):Q5g (zp p) (zp q)=zp (Al p q):=by
 unfold Q5g Al Mf;rw [Qje (g:=λk=>p.getD k 0+q.getD k 0) _ λi _=>by rw [Qfl,Qfl,Kq],Bs,Sl,Sl]
theorem Qo2 (p:List Int) (c:Int):Mh (zp p) (c:Rat)=zp (Fg p c):=by
 unfold Mh Fg Mf;rw [Qje (g:=λk=>p.getD k 0*c) _ λi _=>by rw [Qfl,Xs],Bs,Sl]
theorem Qyh (p:List Int):Fg p (-1)=Pg p:=by
 unfold Fg Pg Mf;congr 2;funext k;omega
theorem Q2v (p:List Int):Qrp (zp p)=zp (Pg p):=by
 rw [<-Qyh,<-Qo2]; rfl
theorem Qam {p q:List Int} (hp:U0 p) (hq:U0 q) (h:∀ k,p.getD k 0=q.getD k 0):p=q:=by
 have key:∀ {p q:List Int},U0 q->(∀ k,p.getD k 0=q.getD k 0)->q.length<=p.length:=by
  intro p q hq h;rcases Za p.length q.length with h1 | h1
  ·have h2:=Hi hq (by omega);rw [<-h,Qg,Qt (by omega)] at h2;exact (h2 rfl).elim
  ·exact h1
 exact Qks (Ko (key hp λk=>(h k).symm) (key hq h)) λj _=>h j
theorem Qxg {n m:Nat} {f g:Nat->Int} (hn:n<=m) (h:∀ k,k<n->f k=g k) (h0:∀ k,n<=k->k<m->g k=0):Mf n f=Mf m g:=by
 refine Qam (Fu _ _) (Fu _ _) λk=>?_
 rw [Tq,Tq];by_cases h1:k<n
 ·rw [if_pos h1,if_pos (by omega),h k h1]
 ·rw [if_neg h1];by_cases h2:k<m
  ·rw [if_pos h2,h0 k (by omega) h2]
  ·rw [if_neg h2]
theorem Q20 (p q:List Int):Qmd (zp p) (zp q)=zp (Px p q):=by
 unfold Qmd;rw [Q2v,Q2s];congr 1;have hl:=L6 q;unfold Al Px;refine Qxg (by omega) (λk _=>?_) λk h1 h2=>?_
 ·unfold Pg;rw [Tq]
  split
  ·omega
  ·rename_i h;have:q.getD k 0=0:=by rw [Qg,Qt (by omega)]; rfl
   omega
 ·have h3:p.getD k 0=0:=by rw [Qg,Qt (by omega)]; rfl
  have h4:(Pg q).getD k 0=0:=by rw [Qg,Qt (by omega)]; rfl
  unfold Pg at h4;rw [Tq] at h4
  split at h4
  ·omega
  ·have:q.getD k 0=0:=by rw [Qg,Qt (by omega)]; rfl
   omega
structure Crv where
 x:List Int
 y:List Int
 d:Int
abbrev cl (k:Crv):List LV:=[pl k.x,pl k.y,sg k.d,mg k.d]
def Crv.d' (k:Crv):Int:=if k.d=0 then 1 else k.d
def Crv.g (k:Crv):Int:=if k.d'<0 then -((Hj (k.d'::(trim k.x++trim k.y)):Nat):Int) else (Hj (k.d'::(trim k.x++trim k.y)):Nat)
def Crv.norm (k:Crv):Crv:=⟨trim ((trim k.x).map (· / k.g)),trim ((trim k.y).map (· / k.g)),k.d' / k.g⟩
theorem Qaq {l:List Int}:∀ z∈l,((Hj l:Nat):Int)∣z:=by
 have key:∀ (l:List Int) (g:Nat),(l.foldl (λg z=>Nat.gcd g z.natAbs) g∣g)/\∀ z∈l,l.foldl (λg z=>Nat.gcd g z.natAbs) g∣z.natAbs:=by
  intro l
  induction l with
  | nil=>intro g; exact ⟨Nat.dvd_refl _,by simp⟩
  |
   cons u l ih =>
   intro g;obtain ⟨h1,h2⟩:=ih (Nat.gcd g u.natAbs);refine ⟨Nat.dvd_trans h1 (K5 _ _),λz hz=>?_⟩;rcases Qo.1 hz with rfl | hz
   ·exact Nat.dvd_trans h1 (Ua _ _)
   ·exact h2 z hz
 intro z hz;have:=(key l 0).2 z hz;exact Wz.2 this
theorem Crv.d'_ne (k:Crv):k.d'≠0:=by unfold Crv.d'; split <;> omega
theorem Crv.gcd_ne (k:Crv):Hj (k.d'::(trim k.x++trim k.y))≠0:=by
 intro e;have h:=Qaq (l:=k.d'::(trim k.x++trim k.y)) k.d' (Qx ..);rw [e] at h;exact k.d'_ne (by simpa using h)
theorem Crv.g_ne (k:Crv):k.g≠0:=by
 have h0:=k.gcd_ne;unfold Crv.g
 split <;> omega
theorem Crv.g_dvd (k:Crv):∀ z∈k.d'::(trim k.x++trim k.y),z % k.g=0:=by
 intro z hz;have h:=Qaq z hz;refine Jv ?_;unfold Crv.g
 split
 ·exact Uq.2 h
 ·exact h
theorem Crv.isz_g (k:Crv) {s:Nat} (h:U6 k.d'<=s):U6 k.g<=s:=by
 have hd:=Qaq (l:=k.d'::(trim k.x++trim k.y)) k.d' (Qx ..);have hle:Hj (k.d'::(trim k.x++trim k.y))<=k.d'.natAbs:=Kh (by have:=k.d'_ne; omega) (Wz.1 hd);refine Qc (Rq ?_) h;unfold Crv.g
 split <;> simp <;> exact hle
structure Cs (s n:Nat) (k:Crv):Prop where
 x:Bd s k.x
 y:Bd s k.y
 d:U6 k.d<=s
 lx:k.x.length<=n
 ly:k.y.length<=n
theorem Qqq {k:Crv} {s:Nat} (h:U6 k.d<=s) (h1:1<=s):U6 k.d'<=s:=by unfold Crv.d'; split <;> first | exact h1 | exact h
theorem Qfr {s:Nat} {p:List Int} (h:Bd s p) (g:Int):Bd s (p.map (· / g)):=λz hz=>by
 obtain ⟨u,hu,rfl⟩:=Zn.1 hz;exact Qc (Qau u g) (h u hu)
theorem Cs.norm {s n:Nat} {k:Crv} (h:Cs s n k) (h1:1<=s):Cs s n k.norm:=by
 refine ⟨Tl (Qfr (Tl h.x) _),Tl (Qfr (Tl h.y) _),Qc (Qau _ _) (Qqq h.d h1),?_,?_⟩
 ·refine Qc (Hu _) ?_; rw [Q5]; exact Qc (Hu _) h.lx
 ·refine Qc (Hu _) ?_; rw [Q5]; exact Qc (Hu _) h.ly
theorem Cs.mono {s n t m:Nat} {k:Crv} (h:Cs s n k) (hs:s<=t) (hn:n<=m):Cs t m k:=⟨Ut h.x hs,Ut h.y hs,Qc h.d hs,Qc h.lx hn,Qc h.ly hn⟩
def Nml (k:Crv):Prop:=U0 k.x/\U0 k.y/\0<k.d/\Hj (k.d::(k.x++k.y))=1
theorem Crv.norm_of {k:Crv} (h:Nml k):k.norm=k:=by
 obtain ⟨h1,h2,h3,h4⟩:=h;have hd:k.d'=k.d:=by unfold Crv.d'; rw [if_neg (by omega)]
 have hx:trim k.x=k.x:=h1;have hy:trim k.y=k.y:=h2;have hg:k.g=1:=by unfold Crv.g; rw [hd,hx,hy,h4,if_neg (by omega)]; rfl
 unfold Crv.norm;rw [hg,hd,hx,hy];simp [hx,hy]
theorem Qqk {l:List Int} {g:Int} (hg:g≠0) (hga:g.natAbs=Hj l):Hj (l.map (· / g))=1:=by
 have key:∀ (l:List Int) (a:Nat),(∀ z∈l,g∣z)->l.foldl (λa z=>Nat.gcd a z.natAbs) (a*g.natAbs)=((l.map (· / g)).foldl (λa z=>Nat.gcd a z.natAbs) a)*g.natAbs:=by
  intro l
  induction l with
  | nil=>intro a _; rfl
  |
   cons z l ih =>
   intro a h;simp only [Z1,Z6];have hz:z.natAbs=(z / g).natAbs*g.natAbs:=by
    obtain ⟨q,rfl⟩:=h z (Qx ..);rw [Xl _ hg,Jt,Zj]
   rw [hz,Ub];exact ih _ λu hu=>h u (Qj _ hu)
 have h:=key l 0 λz hz=>Xp.1 (by rw [hga]; exact Xp.2 (Qaq z hz))
 rw [Yb] at h;have h':Hj l=Hj (l.map (· / g))*g.natAbs:=h;rw [<-hga] at h';have hp:0<g.natAbs:=by omega
 exact Nat.eq_of_mul_eq_mul_right hp (by rw [Kk]; exact h'.symm)
theorem Ek {l:List Int} {g:Int} (ht:U0 l) (hg:g≠0) (hd:∀ z∈l,g∣z):U0 (l.map (· / g)):=by
 induction l with
 | nil=>rfl
 |
  cons x l ih =>
  have hne:∀ z∈x::l,z≠0->z / g≠0:=λz hz h0 h1=>by
   obtain ⟨q,rfl⟩:=hd z hz;rw [Xl _ hg] at h1;rw [h1] at h0; simp at h0
  unfold U0 at ht ih ⊢;cases hl:trim l with
  |
   nil =>
   simp only [trim,hl] at ht
   split at ht
   ·cases ht
   ·rename_i hx;injection ht with _ h2;subst h2;simp [trim,hne x (Qx ..) hx]
  |
   cons y k =>
   simp only [trim,hl] at ht;injection ht with _ h2;have hll:trim l=l:=by rw [hl]; exact h2
   have ih:=ih hll λz hz=>hd z (Qj _ hz)
   rw [Z1];have hne2:l.map (· / g)≠[]:=by rw [<-hll,hl]; simp
   cases hm:l.map (· / g) with
   | nil=>exact absurd hm hne2
   |
    cons u w =>
    rw [hm] at ih;have e:trim (x / g::u::w)=match trim (u::w) with | []=>if x / g=0 then [] else [x / g] | y::k=>x / g::y::k:=rfl
    rw [e,ih]
theorem Crv.nml (k:Crv):Nml k.norm:=by
 have hg:=k.g_ne;have hdv:∀ z∈k.d'::(trim k.x++trim k.y),k.g∣z:=λz hz=>Yp (k.g_dvd z hz)
 have hx:=Ek (g:=k.g) (Rf k.x) hg λz hz=>hdv z (by simp [hz])
 have hy:=Ek (g:=k.g) (Rf k.y) hg λz hz=>hdv z (by simp [hz])
 refine ⟨Rf _,Rf _,?_,?_⟩
 ·show 0<k.d' / k.g;obtain ⟨q,hq⟩:=hdv k.d' (Qx ..);have h0:=k.d'_ne;have hgc:=k.gcd_ne;have e:k.d' / k.g=q:=by rw [hq,Xl _ hg]
  rw [e];unfold Crv.g at hq hg;have hq0:q≠0:=λe=>by rw [e,Ks] at hq; exact h0 hq
  split at hq
  ·rename_i hneg;rcases Wy hq0 with h | h
   ·have:=Kl (a:=-((Hj (k.d'::(trim k.x++trim k.y)):Nat):Int)) (b:=q) (by omega) h;omega
   ·exact h
  ·rename_i hneg;rcases Wy hq0 with h | h
   ·have:=Y7 (a:=((Hj (k.d'::(trim k.x++trim k.y)):Nat):Int)) (b:=q) (by omega) h;omega
   ·exact h
 ·show Hj (k.d' / k.g::(trim ((trim k.x).map (· / k.g))++trim ((trim k.y).map (· / k.g))))=1;rw [show trim ((trim k.x).map (· / k.g))=(trim k.x).map (· / k.g) from hx,show trim ((trim k.y).map (· / k.g))=(trim k.y).map (· / k.g) from hy,<-J5,<-Z1 (f:=(· / k.g))];refine Qqk hg ?_;unfold Crv.g
  split <;> omega
structure Pt where
 c:Crv
 id:Int
def Gy (p:Pt):List LV:=[pl p.c.x,pl p.c.y,sg p.c.d,mg p.c.d,.int .i64 p.id]
def pts (l:List Pt):LV:=.row (l.map Gy)
def Li:List Pt->Int->Nat
 | [],_=>0
 | p::l,id=>if p.id<id then Li l id+1 else 0
def has (l:List Pt) (id:Int):Bool:=match l[Li l id]? with
 | some p=>decide (p.id=id)
 | none=>false
theorem Zaw (l:List Pt) (id:Int):Li l id<=l.length:=by
 induction l with
 | nil=>exact Qm _
 | cons p l ih=>simp only [Li]; split <;> simp <;> omega
theorem Ql2:∀ {l:List Pt} {id:Int} {k:Nat},(∀ j p,j<k->l[j]? = some p->p.id<id)->(k=l.length\/∃ p,l[k]? = some p/\¬p.id<id)->Li l id=k
 |
  [],id,k,_,h=>by
  rcases h with h | ⟨p,h,_⟩
  ·subst h; rfl
  ·simp at h
 |
  q::l,id,0,_,h=>by
  rcases h with h | ⟨p,h,h2⟩
  ·simp at h
  ·simp at h; subst h; simp [Li,h2]
 |
  q::l,id,k+1,h1,h=>by
  have hq:=h1 0 q (by omega) rfl;simp only [Li,hq,if_true];rw [Ql2 (k:=k) (λj p hj hp=>h1 (j+1) p (by omega) (by simpa using hp))];rcases h with h | ⟨p,h,h2⟩
  ·left; simpa using h
  ·right; exact ⟨p,by simpa using h,h2⟩
def put (l:List Pt) (q:Pt):List Pt:=l.take (Li l q.id)++q::l.drop (Li l q.id)
def Ed (l:List Pt) (q:Pt):Int:=if has l q.id=true then 6 else if 6<=l.length then 9 else 0
def Qv9 (s n:Nat) (p:Pt):Prop:=Nml p.c/\Cs s n p.c
theorem Q2o (l:List Pt) (q:Pt):(put l q).length=l.length+1:=by
 have:=Zaw l q.id;simp [put]; omega
theorem Q2p {l:List Pt} {q p:Pt} (h:p∈put l q):p=q\/p∈l:=by
 unfold put at h;rcases Qu.1 h with h | h
 ·exact .inr (Qn h)
 ·rcases Qo.1 h with h | h
  ·exact .inl h
  ·exact .inr (Q9 h)
def Se:List Pt->List Pt->List Pt×Int
 | acc,[]=>(acc,0)
 | acc,q::qs=>if Ed acc q=0 then Se (put acc q) qs else ([],Ed acc q)
def Ev (a b:Crv):Bool:=decide (a.x=b.x/\a.y=b.y/\a.d=b.d)
def Nn (out:List Pt) (p:Pt):List Pt:=if out.any (λq=>Ev p.c q.c)=true then out else out++[p]
def Mc (l:List Pt):List Pt:=l.foldl Nn []
theorem Q5x {out:List Pt} {p q:Pt} (h:q∈Nn out p):q∈out\/q=p:=by
 unfold Nn at h
 split at h
 ·exact .inl h
 ·rcases Qu.1 h with h | h
  ·exact .inl h
  ·exact .inr (by simpa using h)
theorem Q5w (out:List Pt) (p:Pt):(Nn out p).length<=out.length+1:=by
 unfold Nn; split <;> simp
theorem Rt {α β:Type} (f:β->α->β) (b:β) (l:List α) {i:Nat} {x:α} (h:l[i]? = some x):(l.take (i+1)).foldl f b=f ((l.take i).foldl f b) x:=by
 rw [Y6,h]; simp [Vx]
theorem Qcv (l:List Pt) (i:Nat):∀ q∈(l.take i).foldl Nn [],q∈l:=by
 induction i with
 | zero=>simp
 |
  succ i ih =>
  intro q hq;cases hi:l[i]? with
  |
   none =>
   rw [Ql (by have:=Jl.1 hi; omega)] at hq;rw [Ql (Jl.1 hi)] at ih;exact ih q hq
  |
   some x =>
   rw [Rt _ _ _ hi] at hq;rcases Q5x hq with h | h
   ·exact ih q h
   ·subst h; exact Qa hi
theorem Qcu (l:List Pt) (i:Nat):((l.take i).foldl Nn []).length<=i:=by
 induction i with
 | zero=>simp
 |
  succ i ih =>
  cases hi:l[i]? with
  |
   none =>
   rw [Ql (by have:=Jl.1 hi; omega)];rw [Ql (Jl.1 hi)] at ih;omega
  |
   some x =>
   rw [Rt _ _ _ hi];have:=Q5w ((l.take i).foldl Nn []) x;omega
theorem Mq {l:List Pt} {q:Pt} (h:q∈Mc l):q∈l:=by
 have:=Qcv l l.length q;rw [Qy] at this;exact this h
theorem Qmp (l:List Pt):(Mc l).length<=l.length:=by
 have:=Qcu l l.length;rwa [Qy] at this
def IsPt (s n:Nat) (z:List LV) (q:Pt):Prop:=∃ lx ly b l px py d,z=[.row lx,.row ly,.bool b,Zls l,.int .i64 q.id]/\IsInts lx px/\IsInts ly py/\Hw (.bool b) (Zls l) d/\Cs s n ⟨px,py,d⟩/\q.c=Crv.norm ⟨px,py,d⟩
theorem Zkl {s n:Nat} {p:Pt} (h:Qv9 s n p):IsPt s n (Gy p) p:=by
 obtain ⟨b,l,h1,h2,h3,h4⟩:=Uv p.c.d;refine ⟨_,_,decide (p.c.d<0),Fh p.c.d.natAbs,_,_,p.c.d,rfl,Gf _,Gf _,Uv _,h.2,(Crv.norm_of h.1).symm⟩
def IsPts (s n:Nat):List (List LV)->List Pt->Prop
 | [],[]=>True
 | z::zs,q::qs=>IsPt s n z q/\IsPts s n zs qs
 | _,_=>False
theorem IsPts.len {s n:Nat}:∀ {zs:List (List LV)} {qs:List Pt},IsPts s n zs qs->zs.length=qs.length
 | [],[],_=>rfl
 | _::_,_::_,h=>by simp [h.2.len]
 | [],_::_,h=>h.elim
 | _::_,[],h=>h.elim
theorem IsPts.get {s n:Nat}:∀ {zs:List (List LV)} {qs:List Pt},IsPts s n zs qs->∀ {i:Nat} {q:Pt},qs[i]? = some q->∃ z,zs[i]? = some z/\IsPt s n z q
 | [],[],_,i,q,h=>by simp at h
 | z::zs,q::qs,h,0,r,hr=>by simp at hr; subst hr; exact ⟨z,rfl,h.1⟩
 | z::zs,q::qs,h,i+1,r,hr=>by simpa using h.2.get (i:=i) (by simpa using hr)
 | [],_::_,h,_,_,_=>h.elim
 | _::_,[],h,_,_,_=>h.elim
theorem Q1k {s n:Nat}:∀ {l:List Pt},(∀ p∈l,Qv9 s n p)->IsPts s n (l.map Gy) l
 | [],_=>trivial
 | p::l,h=>⟨Zkl (h p (Qx ..)),Q1k λq hq=>h q (Qj _ hq)⟩
theorem IsPt.ok {s n:Nat} {z:List LV} {q:Pt} (h:IsPt s n z q) (h1:1<=s):Qv9 s n q:=by
 obtain ⟨lx,ly,b,l,px,py,d,_,_,_,_,hc,e⟩:=h;unfold Qv9;rw [e];exact ⟨Crv.nml _,hc.norm h1⟩
theorem Q44 (acc qs:List Pt) {i:Nat} {q:Pt} (hi:qs[i]? = some q) (h:Se acc (qs.take i)=((Se acc (qs.take i)).1,0)):Se acc (qs.take (i+1))=if Ed (Se acc (qs.take i)).1 q=0 then (put (Se acc (qs.take i)).1 q,0) else ([],Ed (Se acc (qs.take i)).1 q):=by
 induction qs generalizing acc i with
 | nil=>simp at hi
 |
  cons x qs ih =>
  cases i with
  | zero=>simp at hi; subst hi; simp [Se]
  |
   succ i =>
   simp only [J9,Se] at h ⊢;by_cases h0:Ed acc x=0
   ·simp only [h0,if_true] at h ⊢;exact ih (put acc x) (by simpa using hi) h
   ·simp only [h0,if_false] at h;injection h with _ h;exact absurd h h0
theorem Q99 (acc qs:List Pt) {i:Nat} {e:Int} (he:e≠0) (h:Se acc (qs.take i)=([],e)):Se acc qs=([],e):=by
 induction qs generalizing acc i with
 | nil=>simp [Se] at h; exact absurd h.2.symm he
 |
  cons x qs ih =>
  cases i with
  | zero=>simp [Se] at h; exact absurd h.2.symm he
  |
   succ i =>
   simp only [J9,Se] at h ⊢;by_cases h0:Ed acc x=0
   ·simp only [h0,if_true] at h ⊢; exact ih _ h
   ·simp only [h0,if_false] at h ⊢; exact h
def G8 (p:List Int) (q:Rat):Int:=No (Zgi p q.num q.den) 0
abbrev qa (q:Rat):List LV:=pl [-q.num,(q.den:Int)]::(rl q++rl q)
def Sv (sgn:List Int->Int):Nat->List Int->Int
 | 0,_=>0
 | k+1,p=>if p.length=0 then 0 else if sgn p=0 then Sv sgn k (Gg p) else sgn p
theorem Qar (sgn:List Int->Int):∀ (k:Nat) (p:List Int),p.length<=k->Sv sgn k p=Sv sgn p.length p
 |
  0,p,h=>by
  have:p.length=0:=by omega
  rw [this]
 |
  k+1,p,h=>by
  cases hp:p.length with
  | zero=>simp [Sv,hp]
  |
   succ m =>
   simp only [Sv];have h1:=Pp p;rw [Qar sgn k (Gg p) (by omega),Qar sgn m (Gg p) (by omega)]
theorem Qhp (sgn:List Int->Int) {p:List Int} (h:p.length=0):Sv sgn p.length p=0:=by rw [h]; rfl
theorem Qhn (sgn:List Int->Int) {p:List Int} (h:0<p.length) (hs:sgn p≠0):Sv sgn p.length p=sgn p:=by
 obtain ⟨m,hm⟩:∃ m,p.length=m+1:=⟨p.length-1,by omega⟩;rw [hm]; simp only [Sv]; rw [if_neg (by omega),if_neg hs]
theorem Qho (sgn:List Int->Int) {p:List Int} (h:0<p.length) (hs:sgn p=0):Sv sgn p.length p=Sv sgn (Gg p).length (Gg p):=by
 obtain ⟨m,hm⟩:∃ m,p.length=m+1:=⟨p.length-1,by omega⟩;rw [hm]; simp only [Sv]; rw [if_neg (by omega),if_pos hs];exact Qar sgn m _ (by have:=Pp p; omega)
structure Tm where
 p:List Int
 lo:Rat
 hi:Rat
abbrev ta (t:Tm):List LV:=pl t.p::(rl t.lo++rl t.hi)
abbrev tq (q:Rat):Tm:=⟨[-q.num,(q.den:Int)],q,q⟩
def Tg (sg:List Int->Int) (p:List Int):Int:=Sv sg p.length p
def My (p:List Int) (q:Rat):Int:=Tg (λp=>G8 p q) p
structure Pb (p:List Int):Prop where
 t:U0 p
 l:p.length<=64
 b:Bd 16777216 p
abbrev Qb (q:Rat):Prop:=Qs 16777216 q
abbrev Cb (k:Crv):Prop:=Cs 1048576 16 k
def Hk (a b:Crv):List Int:=Px (Fg b.x a.d) (Fg a.x b.d)
def Hq (a b:Crv):List Int:=Px (Fg b.y a.d) (Fg a.y b.d)
def Oj (sg:List Int->Int) (a b:Pt):List (List Int)->Bool
 | []=>decide (a.id<b.id)
 | p::l=>if 0<p.length then decide (0<Tg sg p) else Oj sg a b l
def Te (sg:List Int->Int) (a b:Pt):Bool:=Oj sg a b [Hk a.c b.c,Hq a.c b.c]
end Orr
namespace Orr
open Go
structure Ct where
 kind:Int
 i0:Int
 i1:Int
 i2:Int
 i3:Int
 p:List Int
 want:Int
abbrev Qci (c:Ct):List LV:=[.int .i64 c.kind,.int .i64 c.i0,.int .i64 c.i1,.int .i64 c.i2,.int .i64 c.i3,pl c.p,.int .i64 c.want]
def Qal (p q:List Int):List Int:=if 0<p.length then p else q
def Rm:List Int->List Int->Bool
 | x::l,y::m=>if x=y then Rm l m else decide (x<y)
 | _,_=>false
def Ti (a b:Ct):Bool:=Rm [a.kind,a.i0,a.i1,a.i2,a.i3] [b.kind,b.i0,b.i1,b.i2,b.i3]
def Qa8 (out:List Ct) (c:Ct):Nat->Nat
 | 0=>0
 |
  k+1=>match out[k]? with
  | some x=>if Ti c x=true then Qa8 out c k else k+1
  | none=>k+1
theorem Q2g (out:List Ct) (c:Ct):∀ k,Qa8 out c k<=k
 | 0=>Qm _
 |
  k+1=>by
  simp only [Qa8]
  split
  ·split
   ·exact Nat.le_succ_of_le (Q2g out c k)
   ·exact Qm _
  ·exact Qm _
theorem Zf9 {out:List Ct} {c x:Ct} {k:Nat} (hx:out[k]? = some x) (h:Ti c x=true):Qa8 out c (k+1)=Qa8 out c k:=by
 simp only [Qa8,hx,h,if_true]
theorem Zav {out:List Ct} {c x:Ct} {k:Nat} (hx:out[k]? = some x) (h:Ti c x=false):Qa8 out c (k+1)=k+1:=by
 simp [Qa8,hx,h]
def Qc6 (out:List Ct) (c:Ct):List Ct:=out.take (Qa8 out c out.length)++c::out.drop (Qa8 out c out.length)
theorem Q9o (out:List Ct) (c:Ct):(Qc6 out c).length=out.length+1:=by
 have:=Q2g out c out.length;simp [Qc6]; omega
theorem Q9p {out:List Ct} {c x:Ct} (h:x∈Qc6 out c):x=c\/x∈out:=by
 simp only [Qc6,Qu,Qo] at h;rcases h with h | h | h
 ·exact .inr (Qn h)
 ·exact .inl h
 ·exact .inr (Q9 h)
def Fz (l:List Ct):List Ct:=l.foldl Qc6 []
theorem Qy6 (l:List Ct) (c:Ct):Fz (l++[c])=Qc6 (Fz l) c:=by simp [Fz,Vx]
theorem Qy7 {l:List Ct} {i:Nat} {c:Ct} (h:l[i]? = some c):Fz (l.take (i+1))=Qc6 (Fz (l.take i)) c:=by
 rw [Zp,h]; exact Qy6 _ _
theorem Qn1:∀ (l acc:List Ct),(l.foldl Qc6 acc).length=acc.length+l.length
 | [],acc=>by simp
 | c::l,acc=>by simp only [Z6]; rw [Qn1 l (Qc6 acc c),Q9o]; simp; omega
theorem Ll (l:List Ct):(Fz l).length=l.length:=by unfold Fz; rw [Qn1]; simp
theorem Qn2:∀ (l acc:List Ct) {x:Ct},x∈l.foldl Qc6 acc->x∈l\/x∈acc
 | [],acc,x,h=>.inr h
 |
  c::l,acc,x,h=>by
  simp only [Z6] at h;rcases Qn2 l _ h with h | h
  ·exact .inl (Qj _ h)
  ·rcases Q9p h with rfl | h
   ·exact .inl (Qx ..)
   ·exact .inr h
theorem Ir {l:List Ct} {x:Ct} (h:x∈Fz l):x∈l:=by
 rcases Qn2 l [] h with h | h
 ·exact h
 ·cases h
theorem Qt2 {α:Type} (l:List α) (z x:α) {k m':Nat} (hk:k<=l.length) (hm:m'=l.length-k) :
 ((l++[z]).take (k+1)++((l++[z]).drop k).take m'++(l++[z]).drop (k+1+m')).set k x=l.take k++x::l.drop k:=by
 subst hm;have e1:((l++[z]).drop k).take (l.length-k)=l.drop k:=by
  rw [Yn hk,Jm (by simp),Ql (by simp)]
 have e2:(l++[z]).drop (k+1+(l.length-k))=[]:=Yv (by simp; omega);rw [e1,e2,Zq];have e3:(l++[z]).take (k+1)=(l++[z]).take k++[(l++[z])[k]'(by simp; omega)]:=by rw [List.take_succ_eq_append_getElem]
 rw [e3,Jm hk,Zl,List.set_append,if_neg (by simp; omega)];simp [Zt hk]
def Dm (a b:Pt):List Int:=Qal (Hk a.c b.c) (Hq a.c b.c)
def Nw (sg:List Int->Int) (a b:Pt):Ct:={ kind:=1,i0:=a.id,i1:=b.id,i2:=0,i3:=0,p:=Dm a b,want:=Tg sg (Dm a b) }
end Orr
namespace Orr
open Go Go.Proofs
set_option maxRecDepth 10000
abbrev pr (p:List Int):TV:=.one (pl p)
theorem Sw {p:List Int} {i:Nat} {z:Int} (h:p[i]? = some z):(p.map Gv)[i]? = some (Gv z):=Gt h
theorem Qj2 (p:List Int):Uu Tryz.prog 206 [pr p] [pr (trim p)]:=by
 refine Gs Tryz.func206 rfl (ln 0 rfl rfl λhl=>?_);rw [Q5] at hl;refine go tt [] rfl trivial ?_;refine lp (S:=Nat) 0 (λL1 n=>(3,.v (.one (.int .i64 (n:Int))))::L1) (λ_=>[]) id (λn=>n<=p.length/\∀ j x,n<=j->p[j]? = some x->x=0) (p.map Gv).length ⟨by simp,λj x h1 h2=>by
  have:=(Qd.1 h2).1; simp at h1; omega⟩ rfl (λ_ _=>rfl) rfl λn ⟨h1,h2⟩=>?_
 cases n with
 | zero=>exact en tt [.f (by simp),.f rfl,.i 0] rfl (by rw [Qmn h1 h2 (λh=>by omega)]; simp [pl]) (by simp [Us])
 |
  succ n =>
  obtain ⟨x,hx⟩:=gxE (l:=p) (i:=n) (by omega);by_cases h0:x=0
  ·refine go tt [.t (by simp),.r 11 (v:=.one (.int .i64 (n:Int))) (by simp),.x (Sw hx),.c [] Ae,.t (by simp [h0]),.r 17 (v:=.one (.int .i64 (n:Int))) (by simp)] rfl (by simp [Us]; omega) ?_;exact rd n (by simp) ⟨by omega,λj y h3 h4=>by
    rcases Vn h3 with rfl | h3
    ·rw [hx] at h4; injection h4 with h4; rw [<-h4,h0]
    ·exact h2 j y h3 h4⟩ rfl
  ·exact en tt [.t (by simp),.r 11 (v:=.one (.int .i64 (n:Int))) (by simp),.x (Sw hx),.c [] Ae,.f (by simp [h0]),.i (n+1)] rfl (by rw [Qmn h1 h2 (λ_=>⟨x,hx,h0⟩)]; simp [pl,Jr]) (by simp [Us] <;> omega)
theorem Q0h (p:List Int) (k:Nat):Uu Tryz.prog 279 [pr p,.one (.int .i64 (k:Int))] [.agg (Gv (p.getD k 0))]:=by
 by_cases h:k<p.length
 ·have hx:=Qe h;have e:p.getD k 0=p[k]:=by simp [List.getD,hx]
  rw [e];exact w tt Tryz.func279 rfl [.t (by simp; omega),.x (Sw hx)] rfl rfl trivial
 ·have e:p.getD k 0=0:=by simp [List.getD,Qt (Vf h)]
  rw [e,Eb];exact w tt Tryz.func279 rfl [.f (by simp; omega)] rfl rfl trivial
def fil (f:Nat->List LV) (z:List LV) (n k:Nat):List (List LV):=(List.range n).map λi=>if i<k then f i else z
theorem E4 (f:Nat->List LV) (z:List LV) (n k:Nat):(fil f z n k).length=n:=by simp [fil]
theorem Lv (f:Nat->List LV) (z:List LV) (n:Nat):List.replicate n z=fil f z n 0:=by
 refine Xe λi=>?_
 simp only [fil,Jy,Q7];by_cases h:i<n
 ·simp [h]
 ·simp [h]
theorem Oa (f:Nat->List LV) (z:List LV) (n:Nat):fil f z n n=(List.range n).map f:=by
 refine Ys λi hi=>?_
 rw [if_pos (Kv.1 hi)]
theorem Ob (f:Nat->List LV) (z:List LV) {n k:Nat} (h:k<n):(fil f z n k).set k (f k)=fil f z n (k+1):=by
 refine Xe λi=>?_
 rw [Yk];simp only [fil,Q7,Q5,List.length_range,h,if_true];by_cases e:k=i
 ·subst e; simp [h]
 ·simp only [e,if_false];by_cases hi:i<n
  ·simp only [Xu hi,Vp];congr 1;by_cases h2:i<k
   ·rw [if_pos h2,if_pos (by omega)]
   ·rw [if_neg h2,if_neg (by omega)]
  ·simp [Qt,hi]
theorem Qp0 {n fid:Nat} {l1 l2:List LV} {g:Nat->Int} (hn:n<274877906944) (h:∀ k,k<n->Uu Tryz.prog fid [.one (.int .i64 (k:Int)),.one (.sh l1),.one (.sh l2)] [.agg (Gv (g k))]):Uu Tryz.prog 246 [.one (.int .i64 (n:Int)),.one (.fn fid [] [.sh l1,.sh l2])] [pr (Mf n g)]:=by
 refine Gs Tryz.func246 rfl ?_;refine go tt [.i n,.i n,.r 10 (eI (b:=(n:Int)) (by simp))] rfl (by simp [Us]; omega) ?_;rw [Lv λk=>Gv (g k)];refine lp (S:=Nat) 1 (λL1 k=>(11,.v (.one (.int .i64 (k:Int))))::L1) (λk=>[.row false 51 2 (fil (λk=>Gv (g k)) [.bool false,.nils] n k)]) (λk=>n-k) (λk=>k<=n) 0 (Qh _) rfl (λ_ _=>rfl) rfl λk hk=>?_
 by_cases hlt:k<n
 ·refine go tt [.t (by simp; omega),.c [] (h k hlt),.i k] rfl (by simp [Us,E4]; omega) ?_;have e:=Ob (λk=>Gv (g k)) [.bool false,.nils] hlt;rw [e];exact rd (k+1) (by omega) hlt rfl
 ·obtain rfl:k=n:=by omega
  have e:fil (λk=>Gv (g k)) [.bool false,.nils] k k=((List.range k).map g).map Gv:=by rw [Oa]; simp
  rw [e];exact en tt [.f (by simp),.c [] (Qj2 _)] rfl rfl trivial
theorem Q0b {n fid:Nat} {l1:List LV} {g:Nat->Int} (hn:n<274877906944) (h:∀ k,k<n->Uu Tryz.prog fid [.one (.int .i64 (k:Int)),.one (.sh l1)] [.agg (Gv (g k))]):Uu Tryz.prog 246 [.one (.int .i64 (n:Int)),.one (.fn fid [] [.sh l1])] [pr (Mf n g)]:=by
 refine Gs Tryz.func246 rfl ?_;refine go tt [.i n,.i n,.r 10 (eI (b:=(n:Int)) (by simp))] rfl (by simp [Us]; omega) ?_;rw [Lv λk=>Gv (g k)];refine lp (S:=Nat) 1 (λL1 k=>(11,.v (.one (.int .i64 (k:Int))))::L1) (λk=>[.row false 51 2 (fil (λk=>Gv (g k)) [.bool false,.nils] n k)]) (λk=>n-k) (λk=>k<=n) 0 (Qh _) rfl (λ_ _=>rfl) rfl λk hk=>?_
 by_cases hlt:k<n
 ·refine go tt [.t (by simp; omega),.c [] (h k hlt),.i k] rfl (by simp [Us,E4]; omega) ?_;have e:=Ob (λk=>Gv (g k)) [.bool false,.nils] hlt;rw [e];exact rd (k+1) (by omega) hlt rfl
 ·obtain rfl:k=n:=by omega
  have e:fil (λk=>Gv (g k)) [.bool false,.nils] k k=((List.range k).map g).map Gv:=by rw [Oa]; simp
  rw [e];exact en tt [.f (by simp),.c [] (Qj2 _)] rfl rfl trivial
theorem Zjd {p q:List Int} (k:Nat) (hp:Bd 4294967295 p) (hq:Bd 4294967295 q):Uu Tryz.prog 285 [.one (.int .i64 (k:Int)),.one (.sh [pl p]),.one (.sh [pl q])] [.agg (Gv (p.getD k 0+q.getD k 0))] :=
 w tt Tryz.func285 rfl [.c [] (Q0h p k),.c [] (Q0h q k),.c [] (Qcx (Uv _) (Uv _) (U9 hp k) (U9 hq k))] rfl rfl trivial
theorem Zjo {p q:List Int} (k:Nat) (hp:Bd 4294967295 p) (hq:Bd 4294967295 q):Uu Tryz.prog 278 [.one (.int .i64 (k:Int)),.one (.sh [pl p]),.one (.sh [pl q])] [.agg (Gv (p.getD k 0-q.getD k 0))] :=
 w tt Tryz.func278 rfl [.c [] (Q0h p k),.c [] (Q0h q k),.c [] (Q7f (Uv _) (Uv _) (U9 hp k) (U9 hq k))] rfl rfl trivial
theorem H6 {p:List Int} {k:Nat} (h:k<p.length):p[k]? = some (p.getD k 0):=by simp [List.getD,Qe h]
theorem Q7b {p:List Int} {c:Int} {k:Nat} (hk:k<p.length) (hp:Bd 4294967295 p) (hc:U6 c<=4294967295):Uu Tryz.prog 247 [.one (.int .i64 (k:Int)),.one (.sh [pl p]),.one (.sh (Gv c))] [.agg (Gv (p.getD k 0*c))] :=
 w tt Tryz.func247 rfl [.x (Sw (H6 hk)),.c [] (Ad (Uv _) (Uv _) (U9 hp k) hc)] rfl rfl trivial
theorem Zjl {p:List Int} {k:Nat} (hk:k<p.length) (hp:Bd 4294967295 p):Uu Tryz.prog 333 [.one (.int .i64 (k:Int)),.one (.sh [pl p])] [.agg (Gv (-(p.getD k 0)))] :=
 w tt Tryz.func333 rfl [.x (Sw (H6 hk)),.c [] (Qjw (Uv _) (U9 hp k))] rfl rfl trivial
theorem Q3q {p:List Int} {k:Nat} (hk:k+1<p.length) (hl:p.length<274877906944) (hp:Bd 4294967295 p):Uu Tryz.prog 303 [.one (.int .i64 (k:Int)),.one (.sh [pl p])] [.agg (Gv (p.getD (k+1) 0*((k+1:Nat):Int)))] :=
 w tt Tryz.func303 rfl [.x (Sw (H6 hk)),.r 10 (eI (b:=((k+1:Nat):Int)) (by omega)),.c [] (Qwp (by omega)),.c [] (Ad (Uv _) (Uv _) (U9 hp _) (Q4w (show k+1<274877906944 by omega)))] rfl rfl (by simp [Us] <;> omega)
theorem Q6y {p q:List Int} (hlp:p.length<274877906944) (hlq:q.length<274877906944) (hp:Bd 4294967295 p) (hq:Bd 4294967295 q):Uu Tryz.prog 241 [pr p,pr q] [pr (Al p q)] :=
 w tt Tryz.func241 rfl [.r 9 (eI (b:=((max p.length q.length:Nat):Int)) (by simp; omega)),.c [] (Qp0 (by omega) λk _=>Zjd k hp hq)] rfl rfl trivial
theorem Qjy {p q:List Int} (hlp:p.length<274877906944) (hlq:q.length<274877906944) (hp:Bd 4294967295 p) (hq:Bd 4294967295 q):Uu Tryz.prog 231 [pr p,pr q] [pr (Px p q)] :=
 w tt Tryz.func231 rfl [.r 9 (eI (b:=((max p.length q.length:Nat):Int)) (by simp; omega)),.c [] (Qp0 (by omega) λk _=>Zjo k hp hq)] rfl rfl trivial
theorem Q62 {p:List Int} (hlp:p.length<274877906944) (hp:Bd 4294967295 p):Uu Tryz.prog 307 [pr p] [pr (Pg p)] :=
 w tt Tryz.func307 rfl [.r 4 (eI (b:=(p.length:Int)) (by simp)),.c [] (Q0b hlp λk hk=>Zjl hk hp)] rfl rfl trivial
theorem Ax {p:List Int} {c:Int} (hlp:p.length<274877906944) (hp:Bd 4294967295 p) (hc:U6 c<=4294967295):Uu Tryz.prog 186 [pr p,.agg (Gv c)] [pr (Fg p c)] :=
 w tt Tryz.func186 rfl [.r 6 (eI (b:=(p.length:Int)) (by simp)),.c [] (Qp0 hlp λk hk=>Q7b hk hp hc)] rfl rfl trivial
theorem Aw {p:List Int} (hlp:p.length<274877906944) (hp:Bd 4294967295 p):Uu Tryz.prog 265 [pr p] [pr (Gg p)] :=
 w tt Tryz.func265 rfl [.r 6 (eI (b:=((p.length-1:Nat):Int)) (by simp; omega)),.c [] (Q0b (by omega) λk hk=>Q3q (by omega) hlp hp)] rfl rfl (by simp [Us]; omega)
theorem Dz {ls:List (List LV)} {p:List Int} (hi:IsInts ls p) (hl:p.length<274877906944) (hs:Bd 4294967295 p):Uu Tryz.prog 153 [.one (.row ls)] [pr (trim p)]:=by
 refine Gs Tryz.func153 rfl ?_;have hlen:=hi.len;refine go tt [.i ls.length,.i ls.length] rfl (by simp [Us]; omega) ?_;rw [Lv λk=>Gv (p.getD k 0)];refine lp (S:=Nat) 1 (λL1 k=>(11,.v (.one (.int .i64 (k:Int))))::L1) (λk=>[.row false 51 2 (fil (λk=>Gv (p.getD k 0)) [.bool false,.nils] ls.length k)]) (λk=>ls.length-k) (λk=>k<=ls.length) 0 (Qh _) rfl (λ_ _=>rfl) rfl λk hk=>?_
 by_cases hlt:k<ls.length
 ·obtain ⟨x,y,hx,hxy⟩:=hi.get (H6 (p:=p) (k:=k) (by omega));have cn:=D2 hxy (U9 hs k);obtain ⟨b,l,rfl,rfl,_⟩:=hxy;refine go tt [.t (by simp; omega),.x hx,.c [] cn,.i k] rfl (by simp [Us,E4]; omega) ?_;have e:=Ob (λk=>Gv (p.getD k 0)) [.bool false,.nils] hlt;rw [e];exact rd (k+1) (by omega) hlt rfl
 ·obtain rfl:k=ls.length:=by omega
  have e:fil (λk=>Gv (p.getD k 0)) [.bool false,.nils] ls.length ls.length=p.map Gv:=by
   rw [Oa,hlen];refine Xe λi=>?_
   by_cases hi:i<p.length
   ·simp [Xu hi,List.getD,Qe hi]
   ·simp [Qt,hi]
  rw [e];exact en tt [.f (by simp),.c [] (Qj2 _)] rfl rfl trivial
theorem Ho {p:List Int} (ht:U0 p) (hl:p.length<274877906944) (hs:Bd 4294967295 p):Uu Tryz.prog 153 [pr p] [pr p]:=by
 have:=Dz (Gf p) hl hs;rw [ht] at this; exact this
theorem Zfc {p:List Int} {i:Nat} {z:Int} (h:p[i]? = some z):(p.map λ(x:Int)=>[LV.int .i64 x])[i]? = some [.int .i64 z]:=Gt h
theorem Qz1 {p:List Int} (hl:p.length<274877906944) (hr:∀ z∈p,-9223372036854775808≤z/\z≤9223372036854775807):Uu Tryz.prog 146 [.one (ids p)] [pr (trim p)]:=by
 refine Gs Tryz.func146 rfl ?_;refine go tt [.r 7 (eI (b:=(p.length:Int)) (by simp)),.i p.length,.i p.length,.r 10 (eI (b:=(p.length:Int)) (by simp))] rfl (by simp [Us]; omega) ?_;rw [Lv λk=>Gv (p.getD k 0)];refine lp (S:=Nat) 1 (λL1 k=>(11,.v (.one (.int .i64 (k:Int))))::L1) (λk=>[.row false 51 2 (fil (λk=>Gv (p.getD k 0)) [.bool false,.nils] p.length k)]) (λk=>p.length-k) (λk=>k<=p.length) 0 (Qh _) rfl (λ_ _=>rfl) rfl λk hk=>?_
 by_cases hlt:k<p.length
 ·have hg:=H6 hlt;refine go tt [.t (by simp; omega),.x (Zfc hg),.c [] (Qwp (hr _ (Qa hg))),.i k] rfl (by simp [Us,E4]; omega) ?_;have e:=Ob (λk=>Gv (p.getD k 0)) [.bool false,.nils] hlt;rw [e];exact rd (k+1) (by omega) hlt rfl
 ·obtain rfl:k=p.length:=by omega
  have e:fil (λk=>Gv (p.getD k 0)) [.bool false,.nils] p.length p.length=p.map Gv:=by
   rw [Oa];refine Xe λi=>?_
   by_cases hi:i<p.length
   ·simp [Xu hi,List.getD,Qe hi]
   ·simp [Qt,hi]
  rw [e];exact en tt [.f (by simp),.c [] (Qj2 _)] rfl rfl trivial
theorem Qyb (l:List Int) (i:Nat) (z:Int):(l.map Gv).set i (Gv z)=(l.set i z).map Gv:=by rw [V2]
theorem Qi6 (m:Nat):((List.replicate m [LV.bool false,LV.nils]).map λc=>c.map Qib)=(List.replicate m (0:Int)).map Gv:=by
 simp [Eb,Qib]
theorem Qpt {p0 q:List Int} {s t:Nat} (tq:U0 q) (hlp:p0.length<137438953472) (hlq:q.length<137438953472) (hp:Bd s p0) (hq:Bd t q) (hst:s+t<=4294967000):Uu Tryz.prog 242 [pr p0,pr q] [pr (Fx (trim p0) q)]:=by
 have cp:=Dz (Gf p0) (by omega) (Ut hp (show s<=4294967295 by omega));have hp:=Tl hp;have hlp:=Zw (Hu p0) hlp;obtain ⟨p,ep⟩:=nmE (trim p0);rw [<-ep] at cp hp hlp ⊢;have cq:=Ho tq (by omega) (Ut hq (show t<=4294967295 by omega));by_cases h0:p.length=0
 ·have e:Fx p q=[]:=by unfold Fx; rw [if_pos (.inl h0)]
  rw [e];exact w tt Tryz.func242 rfl [.c [] cp,.c [] cq,.t (by simp; exact Qi h0),.t rfl] rfl rfl trivial
 by_cases h1:q.length=0
 ·have e:Fx p q=[]:=by unfold Fx; rw [if_pos (.inr h1)]
  rw [e];exact w tt Tryz.func242 rfl [.c [] cp,.c [] cq,.f (by simp; intro h; subst h; simp at h0),.t (by simp; exact Qi h1)] rfl rfl trivial
 refine Gs Tryz.func242 rfl ?_;have e:Fx p q=trim (Ny p q (List.replicate (p.length+q.length-1) 0) p.length):=by unfold Fx; rw [if_neg (by omega)]
 rw [e];obtain ⟨N,hN⟩:=nmE (p.length+q.length-1);rw [<-hN];obtain ⟨o,ho⟩:=nmE (List.replicate N (0:Int));rw [<-ho];have hol:o.length=N:=by rw [ho]; simp
 have ho0:∀ m,o.getD m 0=0:=λm=>by rw [ho]; exact Tz N m
 refine go tt [.c [] cp,.c [] cq,.f (by simp; intro h; subst h; simp at h0),.f (by simp; intro h; subst h; simp at h1),.r 27 (eI (b:=(N:Int)) (by simp; omega)),.i N,.i N] rfl (by simp [Us]; omega) ?_;refine nl 0 rfl rfl rfl ?_;rw [Qi6,<-ho];refine lp (S:=Nat) 1 (λL1 i=>(31,.v (.one (.int .i64 (i:Int))))::L1) (λi=>[.row false 51 2 ((Ny p q o i).map Gv)]) (λi=>p.length-i) (λi=>i<=p.length) 0 (Qh _) rfl (λ_ _=>rfl) rfl λi hi=>?_
 by_cases hlt:i<p.length
 ·refine go tt [.t (by simp; omega),.x (Sw (H6 hlt))] rfl trivial ?_;refine lp (S:=Nat) 2 (λL1 k=>(38,.v (.one (.int .i64 (k:Int))))::L1) (λk=>[.row false 51 2 ((Ia (p.getD i 0) q i (Ny p q o i) k).map Gv),.blk 51 (Gv (p.getD i 0))]) (λk=>q.length-k) (λk=>k<=q.length) 0 (Qh _) rfl (λ_ _=>rfl) rfl λk hk=>?_
  by_cases hk2:k<q.length
  ·have hm1:U6 ((Ia (p.getD i 0) q i (Ny p q o i) k).getD (i+k) 0)<=4294967295:=Qc (Aj (t:=39) (Qq2 (by rw [Nz]; omega) (Qq1 (λj hj=>by omega) ho0 (λi j=>Mm (U9 hp i) (U9 hq j))) (λj=>Mm (U9 hp i) (U9 hq j)) (i+k)) (Ku (show i+1<549755813888 by omega) (by decide))) (by omega);have hm2:U6 (p.getD i 0*q.getD k 0)<=4294967295:=Qc (Fo _ _) (by have:=U9 hp i; have:=U9 hq k; omega);have hg:(Ia (p.getD i 0) q i (Ny p q o i) k)[i+k]? = some ((Ia (p.getD i 0) q i (Ny p q o i) k).getD (i+k) 0):=H6 (by rw [Ib,Nz]; omega);refine go tt [.t (by simp; omega),.x (Sw (H6 hk2)),.i (i+k),.x (Sw hg),.c [] (Ad (Uv _) (Uv _) (Qc (U9 hp i) (by omega)) (Qc (U9 hq k) (by omega))),.c [] (Qcx (Uv _) (Uv _) hm1 hm2),.i (i+k)] rfl (by simp [Us,Ib,Nz] <;> omega) ?_;rw [Qyb];exact rd (k+1) (by omega) hk2 rfl
  ·obtain rfl:k=q.length:=by omega
   exact go tt [.f (by simp)] rfl (by simp [Us]; omega) (rd (i+1) (by omega) hlt rfl)
 ·obtain rfl:i=p.length:=by omega
  exact en tt [.f (by simp),.c [] (Qj2 _)] rfl rfl trivial
theorem Q61 {p q:List Int} {s t:Nat} (tp:U0 p) (tq:U0 q) (hlp:p.length<137438953472) (hlq:q.length<137438953472) (hp:Bd s p) (hq:Bd t q) (hst:s+t<=4294967000):Uu Tryz.prog 242 [pr p,pr q] [pr (Fx p q)]:=by
 have h:=Qpt tq hlp hlq hp hq hst;rw [show trim p=p from tp] at h;exact h
theorem Qpu {p q:List Int} (hlp:p.length<274877906944) (hlq:q.length<274877906944) (hp:Bd 4294967295 p) (hq:Bd 4294967295 q):Uu Tryz.prog 274 [pr p,pr q] [.one (.bool (decide (trim p=trim q)))]:=by
 refine Gs Tryz.func274 rfl ?_;have cp:=Dz (Gf p) hlp hp;have cq:=Dz (Gf q) hlq hq;have bp:=Tl hp;have bq:=Tl hq;have l1:=Hu p;have l2:=Hu q;obtain ⟨a,ha⟩:=nmE (trim p);obtain ⟨b,hb⟩:=nmE (trim q);rw [<-ha] at cp bp l1 ⊢;rw [<-hb] at cq bq l2 ⊢;by_cases hl:a.length=b.length
 ·refine go tt [.c [] cp,.c [] cq,.f (by simp; omega)] rfl trivial ?_;refine lp (S:=Nat) 0 (λL1 i=>(18,.v (.one (.int .i64 (i:Int))))::L1) (λ_=>[]) (λi=>a.length-i) (λi=>i<=a.length/\a.take i=b.take i) 0 ⟨Qh _,rfl⟩ rfl (λ_ _=>rfl) rfl λi ⟨hi,he⟩=>?_
  by_cases hlt:i<a.length
  ·have ga:=H6 hlt;have gb:=H6 (p:=b) (k:=i) (by omega);have cc:=Qfv (Uv (a.getD i 0)) (Uv (b.getD i 0)) (U9 bp i) (U9 bq i);by_cases hz:a.getD i 0=b.getD i 0
   ·refine go tt [.t (by simp; omega),.x (Sw ga),.x (Sw gb),.c [] cc,.f (by simpa using Qp6.2 hz)] rfl (by simp [Us]; omega) ?_;exact rd (i+1) (by omega) ⟨hlt,by rw [Y6,Y6,he,ga,gb,hz]⟩ rfl
   ·exact en tt [.t (by simp; omega),.x (Sw ga),.x (Sw gb),.c [] cc,.t (by have:=mt Qp6.1 hz; simpa using this)] rfl (by rw [decide_eq_false]; intro h; exact hz (by rw [h])) trivial
  ·obtain rfl:i=a.length:=by omega
   rw [Qy,hl,Qy] at he;exact en tt [.f (by simp)] rfl (by rw [decide_eq_true he]) trivial
 ·exact en tt [.c [] cp,.c [] cq,.t (by simp; omega)] rfl (by rw [decide_eq_false]; intro h; exact hl (by rw [h])) trivial
theorem Q65 {p:List Int} {n d:Int} {s t:Nat} (hl:p.length<274877906944) (hp:Bd s p) (hn:U6 n<=t) (hd:U6 d<=t) (hst:s+p.length*(t+1)+2*t+10<=4294967295):Uu Tryz.prog 264 [pr p,.agg (Gv n),.agg (Gv d)] [.agg (Gv (Zgi p n d))]:=by
 refine Gs Tryz.func264 rfl ?_;refine go tt [.c [] (Qwp (z:=1) (by decide)),.r 13 (eI (b:=(p.length:Int)-1-((0:Nat):Int)) (by simp))] rfl (by simp [Us]; omega) ?_;refine nlb 3 rfl rfl rfl ?_;have e0:[LV.bool false,LV.nils].map Qib=Gv (Mb p n d 0).1:=by simp [Qib,Mb,Eb]
 rw [e0];refine lp (S:=Nat) 5 (λL1 j=>(9,.v (.one (.int .i64 ((p.length:Int)-1-(j:Int)))))::L1) (λj=>[.blk 51 (Gv n),.blk 51 (Gv d),.blk 51 [.bool false,.nils],.blk 51 (Gv (Mb p n d j).1),.blk 51 (Gv (Mb p n d j).2)]) (λj=>p.length-j) (λj=>j<=p.length) 0 (Qh _) rfl (λ_ _=>rfl) rfl λj hj=>?_
 have hv:=Qr9 (k:=j) hp hn hd;have hjl:j*(t+1)<=p.length*(t+1):=Q0 _ (by omega);have hjl2:j*t<=j*(t+1):=Zs _ (by omega);by_cases hlt:j<p.length
 ·have hc:=U9 hp (p.length-1-j);have hm1:U6 ((Mb p n d j).1*n)<=4294967295:=Qc (Fo _ _) (by omega);have hm2:U6 (p.getD (p.length-1-j) 0*(Mb p n d j).2)<=4294967295:=Qc (Fo _ _) (by omega);refine go tt [.t (by simp; omega),.c [] (Ad (Uv _) (Uv _) (by omega) (by omega)),.r 22 (eI (b:=((p.length-1-j:Nat):Int)) (by omega)),.x (Sw (H6 (p:=p) (k:=p.length-1-j) (by omega))),.c [] (Ad (Uv _) (Uv _) (by omega) (by omega)),.c [] (Qcx (Uv _) (Uv _) hm1 hm2),.c [] (Ad (Uv _) (Uv _) (by omega) (by omega)),.r 17 (eI (b:=(p.length:Int)-1-((j+1:Nat):Int)) (by omega))] rfl (by simp [Us] <;> omega) ?_;exact rd (j+1) (by omega) hlt rfl
 ·obtain rfl:j=p.length:=by omega
  exact en tt [.f (by simp; omega)] rfl rfl trivial
theorem Ck {p:List Int} (tp:U0 p) (hl:p.length<274877906944) (hp:Bd 4294967295 p):Uu Tryz.prog 306 [pr p] [.agg (Gv (p.getD (p.length-1) 0))]:=by
 have cn:=Ho tp hl hp;by_cases h0:p=[]
 ·subst h0;exact w tt Tryz.func306 rfl [.c [] cn,.t (by simp)] rfl (by simp [Eb]) trivial
 ·have By:0<p.length:=J7.2 h0;exact w tt Tryz.func306 rfl [.c [] cn,.f (by simpa using h0),.r 12 (eI (b:=((p.length-1:Nat):Int)) (by simp; omega)),.x (Sw (H6 (by omega)))] rfl rfl (by simp [Us]; omega)
theorem Zip {a b:Int} {q:Rat} (h1:a=q.num) (h2:b=(q.den:Int)):[sg a,mg a,sg b,mg b]=rl q:=by rw [h1,h2]
theorem Qaa {n d:Int} (h0:d≠0) (hn:U6 n<=4294967295) (hd:U6 d<=4294967295):Uu Tryz.prog 225 [.agg (Gv n),.agg (Gv d)] [.agg (rl (Rat.divInt n d))]:=by
 have cg:=Q6o (Gf [n,d]) (λz hz=>by simp at hz; rcases hz with rfl | rfl <;> assumption);have gp:=Qtt (n:=n) h0;have gs:=Q1l (n:=n) h0 hd;have m1:=Qk2 n d;have m2:=Qk3 n d;obtain ⟨g,hg⟩:=nmE (((Hj [n,d]:Nat):Int));rw [<-hg] at cg gp gs m1 m2;by_cases hneg:d<0
 ·obtain ⟨e1,e2⟩:=Zfq (n:=n) hneg;rw [<-hg] at e1 e2;rw [<-Zip e1 e2];exact w tt Tryz.func225 rfl [.c [] cg,.t (by simpa using hneg),.c [] (Qjw (Uv n) hn),.c [] (Qjw (Uv d) hd),.c [] (En (Uv _) (Uv _) (by rw [Hl]; exact hn) gs (by omega) (Q15 m1)),.c [] (En (Uv _) (Uv _) (by rw [Hl]; exact hd) gs (by omega) (Q15 m2))] rfl rfl trivial
 ·obtain ⟨e1,e2⟩:=Qqy (n:=n) (d:=d) (by omega);rw [<-hg] at e1 e2;rw [<-Zip e1 e2];exact w tt Tryz.func225 rfl [.c [] cg,.f (by simpa using hneg),.c [] (En (Uv _) (Uv _) hn gs (by omega) m1),.c [] (En (Uv _) (Uv _) hd gs (by omega) m2)] rfl rfl trivial
theorem Qin {x y x' y':LV} {n d:Int} (h1:Hw x y n) (h2:Hw x' y' d) (hn:U6 n<=4294967295) (hd:U6 d<=4294967295):Uu Tryz.prog 172 [.agg [x,y,x',y']] [.agg (rl (G6 n d))]:=by
 have c1:=D2 h1 hn;have c2:=D2 h2 hd;obtain ⟨b,l,rfl,rfl,_⟩:=h1;obtain ⟨b',l',rfl,rfl,_⟩:=h2;by_cases h0:d=0
 ·have e:G6 n d=Rat.divInt n 1:=by unfold G6; rw [if_pos h0]
  rw [e];exact w tt Tryz.func172 rfl [.c [] c2,.c [] Ae,.t (by simpa using h0),.c [] (Qwp (z:=1) (by decide)),.c [] c1,.c [] (Qaa (by decide) hn (by decide))] rfl rfl trivial
 ·have e:G6 n d=Rat.divInt n d:=by unfold G6; rw [if_neg h0]
  rw [e];exact w tt Tryz.func172 rfl [.c [] c2,.c [] Ae,.f (by simpa using h0),.c [] c1,.c [] (Qaa h0 hn hd)] rfl rfl trivial
theorem Qj5 {q:Rat} (hq:Qs 4294967295 q):Uu Tryz.prog 172 [.agg (rl q)] [.agg (rl q)]:=by
 have:=Qin (Uv q.num) (Uv (q.den:Int)) hq.1 hq.2;rwa [Ol] at this
theorem Qpz {a b:Rat} (ha:Qs 2147483647 a) (hb:Qs 2147483647 b):Uu Tryz.prog 213 [.agg (rl a),.agg (rl b)] [.agg (Gv (a.num*(b.den:Int))),.agg (Gv (b.num*(a.den:Int))),.agg (Gv ((a.den:Int)*(b.den:Int)))] :=
 w tt Tryz.func213 rfl [.c [] (Qj5 (ha.mono (by decide))),.c [] (Qj5 (hb.mono (by decide))),.c [] (Ad (Uv _) (Uv _) (Qc ha.1 (by decide)) (Qc hb.2 (by decide))),.c [] (Ad (Uv _) (Uv _) (Qc hb.1 (by decide)) (Qc ha.2 (by decide))),.c [] (Ad (Uv _) (Uv _) (Qc ha.2 (by decide)) (Qc hb.2 (by decide)))] rfl rfl trivial
theorem Lo {a b:Rat} (ha:Qs 2147483647 a) (hb:Qs 2147483647 b):Uu Tryz.prog 159 [.agg (rl a),.agg (rl b)] [.one (.int .i64 (G7 a b))] :=
 w tt Tryz.func159 rfl [.c [] (Qpz ha hb),.c [] (Qfv (Uv _) (Uv _) (Qc (Fo _ _) (by have:=ha.1; have:=hb.2; omega)) (Qc (Fo _ _) (by have:=hb.1; have:=ha.2; omega)))] rfl rfl trivial
theorem Q72 {x y x' y':LV} {n d:Int} (h1:Hw x y n) (h2:Hw x' y' d) (hn:U6 n<=4294967295) (hd:U6 d<=4294967295):Uu Tryz.prog 98 [.agg [x,y,x',y'],.one (.row [])] [.agg (rl (G6 n d))]:=by
 have c1:=Qin h1 h2 hn hd;obtain ⟨b,l,rfl,rfl,_⟩:=h1;obtain ⟨b',l',rfl,rfl,_⟩:=h2;refine Gs Tryz.func98 rfl ?_;refine go tt [.c [] c1] rfl trivial ?_;refine lp (S:=Unit) 3 (λL1 _=>(12,.v (.one (.int .i64 0)))::L1) (λ_=>[.blk 72 [.bool b,.row (lm l),.bool b',.row (lm l')],.blk 72 [.bool false,.nils,.bool false,.nils],.blk 72 (rl (G6 n d))]) (λ_=>0) (λ_=>True) () trivial rfl (λ_ _=>rfl) rfl λ_ _=>?_
 exact en tt [.f (by simp)] rfl rfl trivial
theorem Er {q:Rat} (hq:Qs 4294967295 q):Uu Tryz.prog 98 [.agg (rl q),.one (.row [])] [.agg (rl q)]:=by
 have:=Q72 (Uv q.num) (Uv (q.den:Int)) hq.1 hq.2;rwa [Ol] at this
theorem Zef {q:Rat} (hq:Qs 4294967295 q):Uu Tryz.prog 263 [.agg (rl q)] [.agg (rl q)]:=w tt Tryz.func263 rfl [.c [] (Er hq)] rfl rfl trivial
theorem Qz2 {p:List Int} {q:Rat} {s t:Nat} (tp:U0 p) (hl:p.length<274877906944) (hp:Bd s p) (hq:Qs t q) (hst:s+p.length*(t+1)+2*t+10<=4294967295):Uu Tryz.prog 211 [pr p,.agg (rl q)] [.one (.int .i64 (G8 p q))]:=by
 have cc:=Qfv (Uv (Zgi p q.num q.den)) Cd (Qc (Qr9 hp hq.1 hq.2).1 (by omega)) (by decide);exact w tt Tryz.func211 rfl [.c [] (Zef (hq.mono (by omega))),.c [] (Ho tp hl (Ut hp (by omega))),.c [] (Q65 hl hp hq.1 hq.2 hst),.c [] cc] rfl rfl trivial
theorem Q7r {p:List Int} {g:Int} (hl:p.length<274877906944) (hp:Bd 4294967295 p) (hg:U6 g≤4294967295) (h0:g≠0) (hd:∀ z∈p,z % g=0):Uu Tryz.prog 245 [pr p,.agg (Gv g)] [pr (trim (p.map (· / g)))]:=by
 refine Gs Tryz.func245 rfl ?_;refine go tt [.r 9 (eI (b:=(p.length:Int)) (by simp)),.i p.length,.i p.length,.r 12 (eI (b:=(p.length:Int)) (by simp))] rfl (by simp [Us]; omega) ?_;rw [Lv λk=>Gv (p.getD k 0 / g)];refine lp (S:=Nat) 2 (λL1 k=>(13,.v (.one (.int .i64 (k:Int))))::L1) (λk=>[.blk 51 (Gv g),.row false 51 2 (fil (λk=>Gv (p.getD k 0 / g)) [.bool false,.nils] p.length k)]) (λk=>p.length-k) (λk=>k<=p.length) 0 (Qh _) rfl (λ_ _=>rfl) rfl λk hk=>?_
 by_cases hlt:k<p.length
 ·have hg2:=H6 hlt;refine go tt [.t (by simp; omega),.x (Sw hg2),.c [] (En (Uv _) (Uv _) (U9 hp k) hg h0 (hd _ (Qa hg2))),.i k] rfl (by simp [Us,E4]; omega) ?_;have e:=Ob (λk=>Gv (p.getD k 0 / g)) [.bool false,.nils] hlt;rw [e];exact rd (k+1) (by omega) hlt rfl
 ·obtain rfl:k=p.length:=by omega
  have e:fil (λk=>Gv (p.getD k 0 / g)) [.bool false,.nils] p.length p.length=(p.map (· / g)).map Gv:=by
   rw [Oa];refine Xe λi=>?_
   by_cases hi:i<p.length
   ·simp [Xu hi,List.getD,Qe hi]
   ·simp [Qt,hi]
  rw [e];exact en tt [.f (by simp),.c [] (Dz (Gf (p.map (· / g))) (by simp; exact hl) (Qfr hp g))] rfl rfl trivial
theorem Qlx (p:List Int):∀ c∈p.map Gv,c.length=2:=Zil p λ_=>rfl
theorem Qpy {lx ly:List (List LV)} {px py:List Int} {x y:LV} {d:Int} (hx:IsInts lx px) (hy:IsInts ly py) (hd:Hw x y d) (hk:Cs 4294967294 1073741824 (Crv.mk px py d)):Uu Tryz.prog 185 [.agg [.row lx,.row ly,x,y]] [.agg (cl (Crv.norm (Crv.mk px py d)))]:=by
 have hlx:=hk.lx;have hly:=hk.ly;simp only at hlx hly;have htx:=Hu px;have hty:=Hu py;have hd1:U6 (Crv.mk px py d).d'<=4294967295:=Qc (Qqq hk.d (by omega)) (by omega);have hg1:=Crv.isz_g (Crv.mk px py d) hd1;have hg0:=Crv.g_ne (Crv.mk px py d);have hgd:=Crv.g_dvd (Crv.mk px py d);have cx:=Dz hx (by omega) (Ut hk.x (by omega));have cy:=Dz hy (by omega) (Ut hk.y (by omega));have cd:=D2 hd (Qc hk.d (by omega));have bx:Bd 4294967295 (trim px):=Ut (Tl hk.x) (by omega);have by_:Bd 4294967295 (trim py):=Ut (Tl hk.y) (by omega);obtain ⟨b,l,rfl,rfl,_⟩:=hd;obtain ⟨e,he⟩:=nmE ((Crv.mk px py d).d');obtain ⟨g,hgg⟩:=nmE ((Crv.mk px py d).g);obtain ⟨X,hX⟩:=nmE (trim px);obtain ⟨Y,hY⟩:=nmE (trim py);have hnorm:(Crv.mk px py d).norm=⟨trim (X.map (· / g)),trim (Y.map (· / g)),e / g⟩:=by rw [he,hgg,hX,hY]; rfl
 rw [hnorm];have hgdef:g=if e<0 then -((Hj (e::(X++Y)):Nat):Int) else (Hj (e::(X++Y)):Nat):=by rw [hgg,he,hX,hY]; rfl
 have hde:e=if d=0 then 1 else d:=by rw [he]; rfl
 simp only [<-he,<-hgg,<-hX,<-hY] at hd1 hg1 hg0 hgd htx hty cx cy bx by_;clear hnorm hgg he hX hY;refine Gs Tryz.func185 rfl ?_;refine go tt [.c [] cx,.c [] cy,.c [] cd,.c [] Ae] rfl trivial ?_;refine ct 1 (S:=Unit) (λ_=>[(2,.v (.one (.ow 1 0))),(3,.v (pr X)),(4,.v (pr Y)),(5,.v (.one (.ow 2 0)))]) (λ_=>[.blk 53 [.row lx,.row ly,.bool b,.row (lm l)],.blk 53 [.nils,.nils,.bool false,.nils],.blk 51 (Gv e)]) (λ_=>True) rfl ?_ ?_
 ·by_cases h0:d=0
  ·rw [hde,if_pos h0];exact go tt [.t (by simpa using h0),.c [] (Qwp (z:=1) (by decide))] rfl trivial (rc () trivial rfl)
  ·rw [hde,if_neg h0];exact go tt [.f (by simpa using h0)] rfl trivial (rc () trivial rfl)
 ·intro _ _;have hgi:IsInts ([Gv e]++X.map Gv++Y.map Gv) (e::(X++Y)):=by
   have:=Gf (e::(X++Y));simpa using this
  have hgs:∀ z∈e::(X++Y),U6 z≤4294967295:=λz hz=>by
   rcases Qo.1 hz with rfl | hz
   ·exact hd1
   ·rcases Qu.1 hz with hz | hz
    ·exact bx z hz
    ·exact by_ z hz
  have cg:=Q6o hgi hgs;have co1:=Q7r (p:=X) (by omega) bx hg1 hg0 λz hz=>hgd z (Qj _ (Ju _ hz))
  have co2:=Q7r (p:=Y) (by omega) by_ hg1 hg0 λz hz=>hgd z (Qj _ (Yc _ hz))
  have ce:=En (Uv e) (Uv g) hd1 hg1 hg0 (hgd e (Qx ..));have hszg:=Qiv hgs;by_cases hneg:e<0
  ·rw [if_pos hneg] at hgdef;have cn:=Qjw (Uv ((Hj (e::(X++Y)):Nat):Int)) hszg;rw [<-hgdef] at cn;exact en tt [.lo,.s (Qlx X),.s (Qlx Y),.c [] cg,.t (by simpa using hneg),.c [] cn,.c [] ce,.c [] co1,.c [] co2] rfl rfl (by simp [Us]; omega)
  ·rw [if_neg hneg] at hgdef;rw [<-hgdef] at cg;exact en tt [.lo,.s (Qlx X),.s (Qlx Y),.c [] cg,.f (by simpa using hneg),.c [] ce,.c [] co1,.c [] co2] rfl rfl (by simp [Us]; omega)
theorem Qsv {k:Crv} (hn:Nml k) (hk:Cs 4294967294 1073741824 k):Uu Tryz.prog 185 [.agg (cl k)] [.agg (cl k)]:=by
 have h:=Qpy (Gf k.x) (Gf k.y) (Uv k.d) hk;rw [Crv.norm_of hn] at h; exact h
theorem Qpx {lx ly:List (List LV)} {px py:List Int} {x y:LV} {d:Int} (hx:IsInts lx px) (hy:IsInts ly py) (hd:Hw x y d) (hk:Cs 4294967294 1073741824 (Crv.mk px py d)) (h0:d≠0):Uu Tryz.prog 250 [.one (.row lx),.one (.row ly),.agg [x,y]] [.agg (cl (Crv.norm (Crv.mk px py d))),.one (.int .i64 0)]:=by
 have cd:=D2 hd (Qc hk.d (by omega));have cn:=Qpy hx hy hd hk;obtain ⟨b,l,rfl,rfl,_⟩:=hd;exact w tt Tryz.func250 rfl [.c [] cd,.c [] Ae,.f (by simpa using h0),.c [] cn] rfl rfl trivial
theorem Zmx {lx ly:List (List LV)} {px py:List Int} (hx:IsInts lx px) (hy:IsInts ly py) (hk:Cs 4294967294 1073741824 (Crv.mk px py 0)):Uu Tryz.prog 145 [.one (.row lx),.one (.row ly)] [.agg (cl (Crv.norm (Crv.mk px py 0)))] :=
 w tt Tryz.func145 rfl [.c [] (Qpy hx hy Cd hk)] rfl rfl trivial
def Aa (x y:Int):Crv:=Crv.norm ⟨trim [x],trim [y],0⟩
theorem Qs9 {x y:Int} (hx:-9223372036854775808<=x/\x<=9223372036854775807) (hy:-9223372036854775808<=y/\y<=9223372036854775807):Cs 64 1 ⟨trim [x],trim [y],0⟩:=by
 have key:∀ z:Int,-9223372036854775808<=z/\z<=9223372036854775807->U6 z<=64:=λz hz=>by
  rw [T0];have:(2:Nat)^64=18446744073709551616:=by decide
  omega
 refine ⟨Tl λz hz=>?_,Tl λz hz=>?_,Qh _,Hu [x],Hu [y]⟩
 ·rw [Qk] at hz; rw [hz]; exact key x hx
 ·rw [Qk] at hz; rw [hz]; exact key y hy
theorem Qpv {x y:Int} (hx:-9223372036854775808<=x/\x<=9223372036854775807) (hy:-9223372036854775808<=y/\y<=9223372036854775807):Uu Tryz.prog 76 [.one (.int .i64 x),.one (.int .i64 y)] [.agg (cl (Aa x y))] :=
 w tt Tryz.func76 rfl [.c [] (Qz1 (p:=[x]) (show 1<274877906944 by decide) (by intro z hz; rw [Qk] at hz; rw [hz]; exact hx)),.c [] (Qz1 (p:=[y]) (show 1<274877906944 by decide) (by intro z hz; rw [Qk] at hz; rw [hz]; exact hy)),.c [] (Zmx (Gf _) (Gf _) ((Qs9 hx hy).mono (by omega) (by omega)))] rfl rfl trivial
theorem Zd8 {a b:Crv} (ha:Nml a) (hb:Nml b) (ca:Cs 4294967294 1073741824 a) (cb:Cs 4294967294 1073741824 b):Uu Tryz.prog 249 [.agg (cl a),.agg (cl b)] [.one (.bool (Ev a b))]:=by
 have na:=Qsv ha ca;have nb:=Qsv hb cb;have alx:=ca.lx;have aly:=ca.ly;have blx:=cb.lx;have bly:=cb.ly;have sx:=Qpu (p:=a.x) (q:=b.x) (by omega) (by omega) (Ut ca.x (by omega)) (Ut cb.x (by omega));have sy:=Qpu (p:=a.y) (q:=b.y) (by omega) (by omega) (Ut ca.y (by omega)) (Ut cb.y (by omega));have sd:=Qfv (Uv a.d) (Uv b.d) (Qc ca.d (by omega)) (Qc cb.d (by omega));rw [ha.1,hb.1] at sx;rw [ha.2.1,hb.2.1] at sy;by_cases h1:a.x=b.x
 ·by_cases h2:a.y=b.y
  ·exact w tt Tryz.func249 rfl [.c [] na,.c [] nb,.c [] sx,.t (by simpa using h1),.c [] sy,.t (by simpa using h2),.c [] sd] rfl (by simp [Ev,h1,h2,Qp6]) trivial
  ·exact w tt Tryz.func249 rfl [.c [] na,.c [] nb,.c [] sx,.t (by simpa using h1),.c [] sy,.f (by simpa using h2)] rfl (by simp [Ev,h1,h2]) trivial
 ·exact w tt Tryz.func249 rfl [.c [] na,.c [] nb,.c [] sx,.f (by simpa using h1),.f rfl] rfl (by simp [Ev,h1]) trivial
theorem Qgw {l:List Pt} {i:Nat} {p:Pt} (h:l[i]? = some p):(l.map Gy)[i]? = some [pl p.c.x,pl p.c.y,sg p.c.d,mg p.c.d,.int .i64 p.id]:=Gt h
theorem Ip (l:List Pt):∀ c∈l.map Gy,c.length=5:=Zil l λ_=>rfl
theorem Q0d {lx ly:List (List LV)} {px py:List Int} {x y:LV} {d:Int} (hx:IsInts lx px) (hy:IsInts ly py) (hd:Hw x y d) (hk:Cs 4294967294 1073741824 (Crv.mk px py d)) (id:Int):Uu Tryz.prog 194 [.agg [.row lx,.row ly,x,y,.int .i64 id]] [.agg (Gy ⟨Crv.norm (Crv.mk px py d),id⟩)]:=by
 have cd:=D2 hd (Qc hk.d (by omega));by_cases h0:d=0
 ·subst h0;have ck:Cs 4294967294 1073741824 (Crv.mk px py 1):=⟨hk.x,hk.y,show U6 1<=4294967294 by decide,hk.lx,hk.ly⟩;have cm:=Qpx hx hy (Uv 1) ck (by decide);have e:Crv.norm (Crv.mk px py 1)=Crv.norm (Crv.mk px py 0):=by simp only [Crv.norm,Crv.g,Crv.d']; rfl
  rw [e] at cm;obtain ⟨b,l,rfl,rfl,_⟩:=hd;exact w tt Tryz.func194 rfl [.c [] cd,.c [] Ae,.t (by simp),.c [] (Qwp (z:=1) (by decide)),.c [] cm] rfl rfl trivial
 ·have cm:=Qpx hx hy hd hk h0;obtain ⟨b,l,rfl,rfl,_⟩:=hd;exact w tt Tryz.func194 rfl [.c [] cd,.c [] Ae,.f (by simpa using h0),.c [] cm] rfl rfl trivial
theorem Qz8 {l:List Pt} (id:Int) (hl:l.length<1073741824):Uu Tryz.prog 193 [.agg [pts l],.one (.int .i64 id)] [.one (.int .i64 (Li l id:Int)),.one (.bool (has l id))]:=by
 refine Gs Tryz.func193 rfl ?_;refine go tt [] rfl trivial ?_;refine ct 2 (S:=Unit) (λ_=>[(1,.v (.one (.int .i64 id))),(2,.v (.one (.ow 0 0))),(6,.v (.one (.int .i64 (Li l id:Int))))]) (λ_=>[.blk 80 [pts l]]) (λ_=>True) rfl ?_ ?_
 ·refine lp (S:=Nat) 1 (λL1 k=>(6,.v (.one (.int .i64 (k:Int))))::L1) (λ_=>[.blk 80 [pts l]]) (λk=>l.length-k) (λk=>k<=l.length/\∀ j p,j<k->l[j]? = some p->p.id<id) 0 ⟨Qh _,λj p h=>by omega⟩ rfl (λ_ _=>rfl) rfl λk ⟨hk,hlt⟩=>?_
  by_cases h:k<l.length
  ·obtain ⟨p,hp⟩:=gxE (l:=l) (i:=k) h;by_cases hid:p.id<id
   ·refine go tt [.t (by simp; omega),.x (Qgw hp),.t (by simpa using hid)] rfl (by simp [Us]; omega) ?_;exact rd (k+1) (by omega) ⟨h,λj q hj hq=>by
     rcases Za j k with h2 | h2
     ·exact hlt j q h2 hq
     ·have:j=k:=by omega
      subst this; rw [hp] at hq; injection hq with hq; rw [<-hq]; exact hid⟩ rfl
   ·have e:=Ql2 hlt (.inr ⟨p,hp,hid⟩);refine go tt [.t (by simp; omega),.x (Qgw hp),.f (by simpa using hid)] rfl trivial ?_;rw [e];exact rc () trivial rfl
  ·obtain rfl:k=l.length:=by omega
   have e:=Ql2 hlt (.inl rfl);refine go tt [.f (by simp),.f rfl] rfl trivial ?_;rw [e];exact rc () trivial rfl
 ·intro _ _;by_cases h:Li l id<l.length
  ·obtain ⟨p,hp⟩:=gxE (l:=l) (i:=Li l id) h;have e:has l id=decide (p.id=id):=by simp [has,hp]
   rw [e];exact en tt [.g 30 true (by simp; omega),.x (Qgw hp)] rfl rfl trivial
  ·have e:has l id=false:=by simp [has,Qt (Vf h)]
   rw [e];exact en tt [.g 30 false (by simp; omega)] rfl rfl trivial
theorem Qps {l:List Pt}:Uu Tryz.prog 173 [.agg [pts l]] [.one (pts l)]:=w tt Tryz.func173 rfl [] rfl rfl trivial
theorem Q64 {lx ly:List (List LV)} {px py:List Int} {x y:LV} {d id:Int} {l:List Pt} (hx:IsInts lx px) (hy:IsInts ly py) (hd:Hw x y d) (hk:Cs 4294967294 1073741824 (Crv.mk px py d)) (hl:l.length<=1000000) :
 Uu Tryz.prog 123 [.agg [pts l],.agg [.row lx,.row ly,x,y,.int .i64 id]] [.agg [pts (if Ed l (Pt.mk (Crv.norm (Crv.mk px py d)) id)=0 then put l (Pt.mk (Crv.norm (Crv.mk px py d)) id) else l)],.one (.int .i64 (Ed l (Pt.mk (Crv.norm (Crv.mk px py d)) id)))]:=by
 have ca:=Qz8 (l:=l) id (by omega);have cf:=Q0d hx hy hd hk id;obtain ⟨b,r,rfl,rfl,_⟩:=hd;obtain ⟨q,hq⟩:=nmE (Pt.mk (Crv.norm (Crv.mk px py d)) id);have hqi:q.id=id:=by rw [hq]
 rw [<-hq] at cf ⊢;have By:=Zaw l id;by_cases h1:has l id=true
 ·have e:Ed l q=6:=by simp [Ed,hqi,h1]
  rw [e,if_neg (by decide)];exact w tt Tryz.func123 rfl [.c [] ca,.t h1] rfl rfl trivial
 by_cases h2:6<=l.length
 ·have e:Ed l q=9:=by simp [Ed,hqi,h1,h2]
  rw [e,if_neg (by decide)];exact w tt Tryz.func123 rfl [.c [] ca,.f (by simpa using h1),.t (by simp; omega)] rfl rfl trivial
 have e:Ed l q=0:=by simp [Ed,hqi,h1,h2]
 rw [e,if_pos rfl];have s1:∀ c∈(l.map Gy).take (Li l id),c.length=5:=λc hc=>Ip l c (Qn hc)
 have s3:∀ c∈(l.map Gy).drop (Li l id),c.length=5:=λc hc=>Ip l c (Q9 hc)
 refine w tt Tryz.func123 rfl [.c [] ca,.f (by simpa using h1),.f (by simp; omega),.i (Li l id),.s s1,.c [] cf,.i (Li l id),.s s3] rfl ?_ ?_
 ·simp [put,hqi,pts,Jr,W6,Gy]
 ·simp [Us];exact ⟨by omega,By,λ_ _=>rfl,by omega,by omega,By⟩
theorem Zaa:∀ (qs:List Pt),(Se [] qs).1.length<=qs.length:=by
 have key:∀ (qs acc:List Pt),(Se acc qs).1.length<=acc.length+qs.length:=by
  intro qs
  induction qs with
  | nil=>intro acc; simp [Se]
  |
   cons q qs ih =>
   intro acc;simp only [Se]
   split
   ·have:=ih (put acc q); rw [Q2o] at this; simp only [Q8]; omega
   ·simp
 intro qs;have:=key qs [];simpa using this
theorem Zmp {zs:List (List LV)} {qs:List Pt} (hz:IsPts 4294967294 1073741824 zs qs) (hl:qs.length<=6):Uu Tryz.prog 129 [.one (.row zs)] [.agg [pts (Se [] qs).1],.one (.int .i64 (Se [] qs).2)]:=by
 refine Gs Tryz.func129 rfl ?_;have hzl:=hz.len;refine go tt [.f (by simp; omega)] rfl trivial ?_;refine nlb 1 rfl rfl rfl ?_;refine lp (S:=Nat) 2 (λL1 i=>(14,.v (.one (.int .i64 (i:Int))))::L1) (λi=>[.blk 80 [.nils],.blk 80 [pts (Se [] (qs.take i)).1]]) (λi=>qs.length-i) (λi=>i<=qs.length/\(Se [] (qs.take i)).2=0) 0 ⟨Qh _,rfl⟩ rfl (λ_ _=>rfl) rfl λi ⟨hi,h0⟩=>?_
 by_cases hlt:i<qs.length
 ·have hqi:qs[i]? = some qs[i]:=Qe hlt;obtain ⟨z,hzi,lx,ly,b,r,px,py,d,rfl,hx,hy,hd,hk,hc⟩:=hz.get hqi;have hq:(Pt.mk (Crv.norm (Crv.mk px py d)) qs[i].id)=qs[i]:=by rw [<-hc]
  have hst:=Q44 [] qs hqi (by rw [<-h0]);have hnl:=Zaa (qs.take i);have cp:=Q64 (l:=(Se [] (qs.take i)).1) (id:=qs[i].id) hx hy hd hk (by rw [Qp] at hnl; omega);rw [hq] at cp;by_cases he:Ed (Se [] (qs.take i)).1 qs[i]=0
  ·rw [if_pos he] at hst;rw [he,if_pos rfl] at cp;refine go tt [.t (by simp; omega),.x hzi,.c [] cp,.f rfl] rfl (by simp [Us]; omega) ?_;exact rd (i+1) (by omega) ⟨hlt,by rw [hst]⟩ (by rw [hst]; rfl)
  ·rw [if_neg he] at hst;have herr:=Q99 [] qs he hst;rw [herr];exact en tt [.t (by simp; omega),.x hzi,.c [] cp,.t (by simpa using he)] rfl rfl trivial
 ·obtain rfl:i=qs.length:=by omega
  rw [Qy] at h0;rw [Qy,h0];exact en tt [.f (by simp; omega)] rfl rfl trivial
theorem Q7g {l:List Pt} (hok:∀ p∈l,Qv9 4294967294 1073741824 p) (hl:l.length<1073741824):Uu Tryz.prog 189 [.agg [pts l]] [.one (pts (Mc l))]:=by
 refine Gs Tryz.func189 rfl ?_;refine go tt [.o 3 135 5] rfl trivial ?_;refine lp (S:=Nat) 2 (λL1 i=>(12,.v (.one (.int .i64 (i:Int))))::(3,.v (.one (.orow 1 5 none)))::L1) (λi=>[.blk 80 [pts l],.row false 135 5 (((l.take i).foldl Nn []).map Gy)]) (λi=>l.length-i) (λi=>i<=l.length) 0 (Qh _) rfl (λ_ _=>rfl) rfl λi hi=>?_
 by_cases hlt:i<l.length
 ·obtain ⟨p,hp⟩:=gxE (l:=l) (i:=i) hlt;obtain ⟨hn,hk⟩:=hok p (Qa hp);have hws:=Rt Nn [] l hp;have hwl:=Qcu l i;have hwm:=Qcv l i;obtain ⟨o,ho⟩:=nmE ((l.take i).foldl Nn []);rw [<-ho] at hws hwl hwm ⊢;refine go tt [.t (by simp; omega),.x (Qgw hp)] rfl trivial ?_;refine lp (S:=Nat) 3 (λL1 k=>(18,.v (.one (.int .i64 (k:Int))))::(6,.v (.one (.bool ((o.take k).any λq=>Ev p.c q.c))))::L1) (λk=>[.blk 80 [pts l],.row false 135 5 (o.map Gy),.blk 135 (Gy p)]) (λk=>o.length-k) (λk=>k<=o.length) 0 (Qh _) rfl (λ_ _=>rfl) rfl λk hk2=>?_
  by_cases hk3:k<o.length
  ·obtain ⟨q,hq⟩:=gxE (l:=o) (i:=k) hk3;obtain ⟨hqn,hqk⟩:=hok q (hwm q (Qa hq));have hany:((o.take (k+1)).any λq=>Ev p.c q.c)=(((o.take k).any λq=>Ev p.c q.c) || Ev p.c q.c):=by rw [Y6,hq,List.any_append]; simp
   cases hb:(o.take k).any λq=>Ev p.c q.c with
   |
    true =>
    rw [hb] at hany;refine go tt [.t (by simp; omega),.i k,.x (Qgw hq),.t rfl,.r 29 (v:=.one (.bool ((o.take (k+1)).any λq=>Ev p.c q.c))) (by rw [hany]; rfl)] rfl (by simp [Us]; omega) ?_;exact rd (k+1) (by omega) hk3 rfl
   |
    false =>
    rw [hb] at hany;refine go tt [.t (by simp; omega),.i k,.x (Qgw hq),.f rfl,.c [] (Zd8 hn hqn hk hqk),.r 29 (v:=.one (.bool ((o.take (k+1)).any λq=>Ev p.c q.c))) (by rw [hany]; rfl)] rfl (by simp [Us]; omega) ?_;exact rd (k+1) (by omega) hk3 rfl
  ·obtain rfl:k=o.length:=by omega
   rw [Qy];cases hb:o.any λq=>Ev p.c q.c with
   |
    true =>
    have e:Nn o p=o:=by unfold Nn; rw [if_pos hb]
    exact go tt [.f (by simp),.f rfl] rfl (by simp [Us]; omega) (rd (i+1) (by omega) hlt (by rw [hws,e]; rfl))
   |
    false =>
    have e:Nn o p=o++[p]:=by unfold Nn; rw [if_neg (by rw [hb]; decide)]
    exact go tt [.f (by simp),.t rfl] rfl (by simp [Us]; omega) (rd (i+1) (by omega) hlt (by rw [hws,e,J5]; rfl))
 ·obtain rfl:i=l.length:=by omega
  exact en tt [.f (by simp)] rfl (by rw [Qy]; rfl) trivial
theorem Q3a (q:Rat):U0 [-q.num,(q.den:Int)]:=by
 have:=q.den_nz;simp [U0,trim,this]
theorem Zmi {s:Nat} {q:Rat} (h:Qs s q):Bd s [-q.num,(q.den:Int)]:=λz hz=>by
 simp at hz;rcases hz with rfl | rfl
 ·rw [Hl]; exact h.1
 ·exact h.2
theorem Zh1 {x y x' y':LV} {n d:Int} (h1:Hw x y n) (h2:Hw x' y' d) (hn:U6 n<=4294967295) (hd:U6 d<=4294967295) (hq:Qs 4294967295 (G6 n d)):Uu Tryz.prog 83 [.agg [x,y,x',y']] [.agg (qa (G6 n d))]:=by
 have c1:=Q72 h1 h2 hn hd;obtain ⟨b,l,rfl,rfl,_⟩:=h1;obtain ⟨b',l',rfl,rfl,_⟩:=h2;exact w tt Tryz.func83 rfl [.c [] c1,.c [] (Qjw (Uv _) hq.1),.c [] (Er hq)] rfl rfl trivial
theorem Qdx {k:Crv} (hn:Nml k) (hk:Cs 4294967294 1073741824 k):Uu Tryz.prog 230 [.agg (cl k)] [.agg (cl k)]:=by
 have h0:k.d≠0:=by have:=hn.2.2.1; omega
 have cm:=Qpx (Gf k.x) (Gf k.y) (Uv k.d) hk h0;rw [show Crv.mk k.x k.y k.d=k from rfl,Crv.norm_of hn] at cm;exact w tt Tryz.func230 rfl [.c [] (D2 (Uv k.d) (Qc hk.d (by omega))),.c [] Ae,.f (by simpa using h0),.c [] cm] rfl rfl trivial
theorem Qz4 {a b:Crv} (ha:Nml a) (hb:Nml b) (ca:Cb a) (cb:Cb b):Uu Tryz.prog 235 [.agg (cl a),.agg (cl b)] [pr (Hk a b)]:=by
 have l1:=ca.lx;have l2:=cb.lx;have l3:=Gb b.x a.d;have l4:=Gb a.x b.d;exact w tt Tryz.func235 rfl [.c [] (Qdx ha (ca.mono (by omega) (by omega))),.c [] (Qdx hb (cb.mono (by omega) (by omega))),.c [] (Ax (by omega) (Ut cb.x (by omega)) (Qc ca.d (by omega))),.c [] (Ax (by omega) (Ut ca.x (by omega)) (Qc cb.d (by omega))),.c [] (Qjy (by omega) (by omega) (Ut (Gu cb.x ca.d) (by omega)) (Ut (Gu ca.x cb.d) (by omega)))] rfl rfl trivial
theorem Qzv {a b:Crv} (ha:Nml a) (hb:Nml b) (ca:Cb a) (cb:Cb b):Uu Tryz.prog 236 [.agg (cl a),.agg (cl b)] [pr (Hq a b)]:=by
 have l1:=ca.ly;have l2:=cb.ly;have l3:=Gb b.y a.d;have l4:=Gb a.y b.d;exact w tt Tryz.func236 rfl [.c [] (Qdx ha (ca.mono (by omega) (by omega))),.c [] (Qdx hb (cb.mono (by omega) (by omega))),.c [] (Ax (by omega) (Ut cb.y (by omega)) (Qc ca.d (by omega))),.c [] (Ax (by omega) (Ut ca.y (by omega)) (Qc cb.d (by omega))),.c [] (Qjy (by omega) (by omega) (Ut (Gu cb.y ca.d) (by omega)) (Ut (Gu ca.y cb.d) (by omega)))] rfl rfl trivial
def Si (ps:List (List Int)):List (List LV):=ps.map λp=>[pl p]
theorem Ra {ps:List (List Int)} {i:Nat} {p:List Int} (h:ps[i]? = some p):(Si ps)[i]? = some [pl p]:=Gt h
theorem Q7j {p q:List Int}:Uu Tryz.prog 234 [pr p,pr q] [pr (Qal p q)]:=by
 by_cases h:0<p.length
 ·exact w tt Tryz.func234 rfl [.t (by simp; omega)] rfl (by simp only [Qal]; rw [if_pos h]) trivial
 ·exact w tt Tryz.func234 rfl [.f (by simp; exact Qi (by omega))] rfl (by simp only [Qal]; rw [if_neg h]) trivial
theorem Q32:Uu Tryz.prog 233 [.one (.int .i64 1)] [.one (.int .i64 2)]:=w tt Tryz.func233 rfl [.t rfl,.t rfl] rfl rfl trivial
theorem Q33:Uu Tryz.prog 233 [.one (.int .i64 3)] [.one (.int .i64 3)]:=w tt Tryz.func233 rfl [.f rfl,.f rfl,.t rfl] rfl rfl trivial
theorem Q6t {k i0 i1 i2 i3 l j0 j1 j2 j3:Int}:Uu Tryz.prog 152 [.agg [.int .i64 k,.int .i64 i0,.int .i64 i1,.int .i64 i2,.int .i64 i3],.agg [.int .i64 l,.int .i64 j0,.int .i64 j1,.int .i64 j2,.int .i64 j3]] [.one (.bool (Rm [k,i0,i1,i2,i3] [l,j0,j1,j2,j3]))]:=by
 by_cases hk:k=l
 ·subst hk;rw [show Rm [k,i0,i1,i2,i3] [k,j0,j1,j2,j3]=Rm [i0,i1,i2,i3] [j0,j1,j2,j3] from by simp [Rm]];refine Gs Tryz.func152 rfl ?_;refine go tt [.f (by simp)] rfl trivial ?_;refine lp (S:=Nat) 2 (λL1 i=>(19,.v (.one (.int .i64 (i:Int))))::L1) (λ_=>[.blk 88 [.int .i64 k,.int .i64 i0,.int .i64 i1,.int .i64 i2,.int .i64 i3],.blk 88 [.int .i64 k,.int .i64 j0,.int .i64 j1,.int .i64 j2,.int .i64 j3]]) (λi=>4-i) (λi=>i<=4/\Rm ([i0,i1,i2,i3].drop i) ([j0,j1,j2,j3].drop i)=Rm [i0,i1,i2,i3] [j0,j1,j2,j3]) 0 ⟨by omega,rfl⟩ rfl (λ_ _=>rfl) rfl λi ⟨hi,he⟩=>?_
  rw [<-he];rcases (show i=0\/i=1\/i=2\/i=3\/i=4 by omega) with rfl | rfl | rfl | rfl | rfl
  ·by_cases h:i0=j0
   ·exact go tt [.t rfl,.i 0,.i 0,.f (by simpa using h)] rfl (by simp [Us]) (rd 1 (by omega) ⟨by omega,by simp [Rm,h]⟩ rfl)
   ·exact en tt [.t rfl,.i 0,.i 0,.t (by simpa using h),.i 0] rfl (by simp [Rm,h]) trivial
  ·by_cases h:i1=j1
   ·exact go tt [.t rfl,.i 1,.i 1,.f (by simpa using h)] rfl (by simp [Us]) (rd 2 (by omega) ⟨by omega,by simp [Rm,h]⟩ rfl)
   ·exact en tt [.t rfl,.i 1,.i 1,.t (by simpa using h),.i 1] rfl (by simp [Rm,h]) trivial
  ·by_cases h:i2=j2
   ·exact go tt [.t rfl,.i 2,.i 2,.f (by simpa using h)] rfl (by simp [Us]) (rd 3 (by omega) ⟨by omega,by simp [Rm,h]⟩ rfl)
   ·exact en tt [.t rfl,.i 2,.i 2,.t (by simpa using h),.i 2] rfl (by simp [Rm,h]) trivial
  ·by_cases h:i3=j3
   ·exact go tt [.t rfl,.i 3,.i 3,.f (by simpa using h)] rfl (by simp [Us]) (rd 4 (by omega) ⟨by omega,by simp [Rm,h]⟩ rfl)
   ·exact en tt [.t rfl,.i 3,.i 3,.t (by simpa using h),.i 3] rfl (by simp [Rm,h]) trivial
  ·exact en tt [.f rfl] rfl (by simp [Rm]) trivial
 ·exact w tt Tryz.func152 rfl [.t (by simpa using hk)] rfl (by simp [Rm,hk]) trivial
abbrev zCt:List LV:=[.int .i64 0,.int .i64 0,.int .i64 0,.int .i64 0,.int .i64 0,.nils,.int .i64 0]
def Fj (l:List Ct):List (List LV):=l.map Qci
theorem Qf1 {l:List Ct} {i:Nat} {c:Ct} (h:l[i]? = some c):(Fj l)[i]? = some (Qci c):=Gt h
theorem B9 (l:List Ct):(Fj l).length=l.length:=by simp [Fj]
theorem Q8j (l:List Ct):∀ c∈Fj l,c.length=7:=λc hc=>by
 obtain ⟨x,_,rfl⟩:=Zn.1 hc; rfl
theorem Q9r {O:List Ct} {z:List LV} {c:Ct} {k m:Nat} {l2:List (List LV)} (hk:k<=O.length) (hp:Qa8 O c O.length=k) (hm:m=O.length-k) (h2:l2.take m=((Fj O++[z]).drop k).take m) :
 ((Fj O++[z]).take (k+1)++(l2.take m++(Fj O++[z]).drop (k+1+m))).set k (Qci c)=Fj (Qc6 O c):=by
 rw [h2,<-Zl,Qt2 (Fj O) z (Qci c) (by rw [B9]; omega) (by rw [B9]; omega)];simp [Qc6,hp,Fj,Jr,W6]
theorem Qws {l:List Ct} (hl:∀ c∈l,Pb c.p) (hn:l.length≤1000000):Uu Tryz.prog 86 [.one (.row (Fj l))] [.one (.row (Fj (Fz l)))]:=by
 have hcl:=B9 l;refine Gs Tryz.func86 rfl ?_;refine go tt [.o 3 90 7] rfl trivial ?_;refine lp (S:=Nat) 1 (λL1 i=>(9,.v (.one (.int .i64 (i:Int))))::(3,.v (.one (.orow 0 7 none)))::L1) (λi=>[.row false 90 7 (Fj (Fz (l.take i)))]) (λi=>l.length-i) (λi=>i<=l.length) 0 (Qh _) rfl (λ_ _=>rfl) rfl λi hi=>?_
 by_cases hlt:i<l.length
 ·obtain ⟨c,hc⟩:=gxE (l:=l) (i:=i) hlt;have hst:=Qy7 hc;have hcp:=hl c (Qa hc);obtain ⟨O,hO⟩:=nmE (Fz (l.take i));have hOl:O.length=i:=by rw [hO,Ll,Qp]; omega
  rw [<-hO] at hst ⊢;refine go tt [.t (by simp [hcl]; omega),.x (Qf1 hc)] rfl trivial ?_;refine lp (S:=Nat) 2 (λL1 k=>(6,.v (.one (.int .i64 (k:Int))))::L1) (λk=>[.row false 90 7 (Fj O),.blk 90 (Qci c)]) id (λk=>k<=O.length/\Qa8 O c k=Qa8 O c O.length) (Fj O).length ⟨by rw [B9]; exact Qm _,by rw [B9]⟩ rfl (λ_ _=>rfl) rfl λk ⟨hk,hp⟩=>?_
  have hz:∀ y∈[zCt],y.length=7:=λy hy=>by rw [Qk.1 hy]; rfl
  have h77:∀ y∈Fj O++[zCt],y.length=7:=λy hy=>by
   rcases Qu.1 hy with hy | hy
   ·exact Q8j O y hy
   ·exact hz y hy
  cases k with
  |
   zero =>
   have hp:Qa8 O c O.length=0:=by rw [<-hp]; rfl
   refine go tt [.g 17 false (by simp),.f rfl,.s (sz:=7) hz,.r 36 (eI (b:=((0+1:Nat):Int)) (by simp)),.i (0+1),.i (0),.s (sz:=7) (λy hy=>h77 y (Qn hy)),.i (O.length),.c [] (Ho hcp.t (by have:=hcp.l; omega) (Ut hcp.b (by omega))),.i (0)] rfl (by simp [Us,B9]; omega) ?_;exact rd (i+1) (by omega) hlt (by rw [hst,<-Q9r (z:=zCt) (l2:=(Fj O++[zCt]).take ((Fj O++[zCt]).length-0)) (k:=0) (m:=O.length) (by omega) hp (by omega) (by congr 1; exact Ql (by simp))]; rfl)
  |
   succ k =>
   obtain ⟨x,hx⟩:=gxE (l:=O) (i:=k) (by omega);by_cases hlc:Ti c x=true
   ·refine go tt [.g 17 true (by simp),.r 22 (eI (b:=(k:Int)) (by simp)),.i k,.x (Qf1 hx),.c [] Q6t,.t hlc,.r 29 (eI (b:=(k:Int)) (by simp))] rfl (by simp [Us,B9]; omega) ?_;exact rd k (by simp) ⟨by omega,by rw [<-hp,Zf9 hx hlc]⟩ rfl
   ·have hlc:Ti c x=false:=by simpa using hlc
    have hp:Qa8 O c O.length=k+1:=by rw [<-hp,Zav hx hlc]
    refine go tt [.g 17 true (by simp),.r 22 (eI (b:=(k:Int)) (by simp)),.i k,.x (Qf1 hx),.c [] Q6t,.f hlc,.s (sz:=7) hz,.r 36 (eI (b:=((k+1+1:Nat):Int)) (by simp)),.i (k+1+1),.i (k+1),.s (sz:=7) (λy hy=>h77 y (Q9 (Qn hy))),.i (O.length-(k+1)),.c [] (Ho hcp.t (by have:=hcp.l; omega) (Ut hcp.b (by omega))),.i (k+1)] rfl (by simp [Us,B9]; omega) ?_;exact rd (i+1) (by omega) hlt (by rw [hst,<-Q9r (z:=zCt) (l2:=((Fj O++[zCt]).drop (k+1)).take ((Fj O++[zCt]).length-(k+1))) (k:=k+1) (m:=O.length-(k+1)) (by omega) hp (by omega) (by congr 1; exact Ql (by simp))]; rfl)
 ·obtain rfl:i=l.length:=by omega
  rw [Qy];exact en tt [.f (by simp [hcl])] rfl rfl trivial
end Orr
namespace Orr
def Fa (p:List Int):Int:=p.getD (p.length-1) 0
def chk (p:List Int):Option (List Int):=if p.length<=64/\(p.all λz=>Nat.ble (U6 z) 16777216)=true then some p else none
def chq (q:Rat):Option Rat:=if U6 q.num<=16777216/\U6 (q.den:Int)<=16777216 then some q else none
def Sp (p:List Int):Int:=(Hj p:Nat)
def Bz (p:List Int) (c:Int):List Int:=trim (p.map (· / c))
def Hd (p:List Int):Int:=if Fa p<0 then -Sp p else Sp p
def U7 (p:List Int):List Int:=if p.length=0 then [] else Bz p (Hd p)
def mono (i:Nat) (x:Int):List Int:=List.replicate i 0++[x]
def psd (b:List Int) (c:Int):Nat->List Int×List Int->List Int×List Int
 | 0,s=>s
 |
  i+1,(q,r) =>
  psd b c i (Al (Fg q c) (mono i (if r.length=b.length+i then Fa r else 0)),Px (Fg r c) (Fx (trim (mono i (if r.length=b.length+i then Fa r else 0))) b))
def Pn (a b:List Int):List Int:=(psd b (Fa b) (a.length+1-b.length) ([],a)).2
def Ni (a b r:List Int):List Int:=if (a.length+1-b.length) % 2=1/\Fa b<0 then Pg r else r
def Qco (r:List Int):List Int:=if r.length=0 then [] else Bz r (Sp r)
def Rp (a b:List Int):List Int:=Qco (Ni a b (Pn a b))
def Qrc (b:List Int):Nat->List Int->List Int->Option (List Int)
 | 0,a,q=>if a.length=0 then some q else none
 | i+1,a,q=>if a.length<b.length+i then Qrc b i a q else if Fa a % Fa b=0 then Qrc b i (Px a (Fx (trim (mono i (Fa a / Fa b))) b)) (q.set i (Fa a / Fa b)) else none
def Qa9 (a b:List Int):Option (List Int):=if b.length=0 then none else (Qrc b (a.length+1-b.length) a (List.replicate (a.length+1-b.length) 0)).bind λq=>chk (trim q)
def Qg6:Nat->List Int->List Int->Option (List Int)
 | 0,_,_=>none
 | k+1,a,b=>if b.length=0 then some a else (chk (Rp a b)).bind λr=>Qg6 k b r
def Qbb (a b:List Int):Option (List Int):=(Qg6 66 (U7 a) (U7 b)).map U7
def Qre (a b:List Int):Option (List Int):=(Qbb [] a).bind λg=>Qbb g b
def Pi (a:List Int):Option (List Int):=if (U7 a).length<2 then some (U7 a) else (chk (Gg (U7 a))).bind λd=>(Qbb (U7 a) d).bind λg=>Qa9 (U7 a) g
def Qgk:Nat->List Int->Option (List (List Int))
 | 0,_=>none
 | k+1,g=>if g.length<2 then some [] else (chk (Gg g)).bind λd=>(Qbb g d).bind λh=>(Qa9 g h).bind λw=>(Qgk k h).bind λl=>some (w::l)
def Qmz:List (List Int)->Option (List (List Int))
 | []=>some []
 | [w]=>some [w]
 | w::v::l=>(Qa9 w v).bind λf=>(Qmz (v::l)).bind λr=>some (f::r)
def Qeq:Nat->List Int->List (List Int)->Option (List Int)
 | _,p,[]=>some p
 | i,p,f::l=>if i % 2=0 then (chk (Fx p f)).bind λq=>Qeq (i+1) q l else Qeq (i+1) p l
def Qyd (a:List Int):Option (List Int):=if (U7 a).length=0 then some [] else (Qgk 66 (U7 a)).bind λl=>(Qmz l).bind λfs=>Qeq 0 [1] fs
def chF:Nat->List Int->List Int->Option (List (List Int))
 | 0,_,_=>none
 | k+1,a,b=>if b.length=0 then some [] else (chk (Rp a b)).bind λr=>(chF k b (Pg r)).bind λl=>some (b::l)
def Lp (p:List Int):Option (List (List Int)):=(Pi p).bind λa=>if a.length=0 then none else (chk (Gg a)).bind λd=>(chF 66 a (U7 d)).bind λl=>some (a::l)
def S4 (sg:List Int->Int) (s:Nat×Int) (p:List Int):Nat×Int:=if sg p=0 then s else (if s.2=-(sg p) then s.1+1 else s.1,sg p)
def Bn (sg:List Int->Int) (l:List (List Int)):Nat:=(l.foldl (S4 sg) (0,0)).1
def Bp (l:List (List Int)) (q:Rat):Nat:=Bn (λp=>G8 p q) l
def Rz (l:List (List Int)) (lo hi:Rat):Int:=if G7 hi lo<0 then 0 else (Bp l lo:Int)-(Bp l hi:Int)
def Qd6 (p:List Int):Int:=Int.sign (Fa p)
def Oz (p:List Int):Int:=if p.length % 2=0 then -Int.sign (Fa p) else Int.sign (Fa p)
def Qbc (l:List (List Int)):Int:=(Bn Oz l:Int)-(Bn Qd6 l:Int)
def most:List Int->Nat:=λl=>l.foldl (λm z=>if m<z.natAbs then z.natAbs else m) 0
def Gp (p:List Int):Rat:=Rat.divInt (((Fa p).natAbs:Int)+(most (p.take (p.length-1)):Int)) ((Fa p).natAbs:Int)
def mid (a b:Rat):Rat:=Rat.divInt (a.num*(b.den:Int)+b.num*(a.den:Int)) ((a.den:Int)*(b.den:Int)*2)
def Ee (p:List Int) (c:List (List Int)):Nat->Rat->Rat->Int->Option (List Tm)
 | 0,_,_,_=>none
 | k+1,lo,hi,n=>if n=0 then some [] else if n=1 then some [⟨p,lo,hi⟩] else (chq (mid lo hi)).bind λm=>(Ee p c k lo m (Rz c lo m)).bind λl=>(Ee p c k m hi (n-Rz c lo m)).bind λr=>some (l++r)
def Qma (p:List Int):Option (List Tm):=(Lp p).bind λc=>(Pi p).bind λq=>(chq (Gp q)).bind λb=>Ee q c 100000 (-b) b (Qbc c)
def Tm.point (a:Tm):Bool:=decide (0<=G7 a.lo a.hi)
def low (p:List Int) (q:Rat):Int:=if G8 p q≠0 then G8 p q else G8 (Gg p) q
def Qeb (p:List Int) (lo hi:Rat):Bool:=decide (G8 p hi=0\/G8 p hi≠low p lo)
def Ff (a:Tm) (t:Rat):Int :=
 if a.point=true then G7 a.lo t else if G7 t a.lo<=0 then 1 else if 0<G7 t a.hi then -1 else if G8 a.p t=0 then 0 else if G8 a.p t=low a.p a.lo then 1 else -1
def Qqm (a:Tm):Option Tm:=if a.point=true then some a else (chq (mid a.lo a.hi)).bind λm =>
 some (if Ff a m=0 then ⟨a.p,m,m⟩ else if Ff a m=-1 then ⟨a.p,a.lo,m⟩ else ⟨a.p,m,a.hi⟩)
def Gw (p:List Int):Nat:=p.foldl (λn z=>max n (U6 z)) 0
def Ph (a b:Tm):Nat:=64+2*(U6 a.lo.num+U6 a.hi.num+U6 b.lo.num+U6 b.hi.num)+4*(a.p.length+b.p.length)*(Gw a.p+Gw b.p+(a.p.length+b.p.length)+8)
def Qmc (a b:Rat):Rat:=Rat.divInt (a.num*(b.den:Int)-b.num*(a.den:Int)) ((a.den:Int)*(b.den:Int))
def C0 (a b:Tm):Bool:=decide (G7 a.hi b.lo<=0/\¬((a.point=true/\b.point=true)/\G7 a.hi b.lo=0))
def apF:Nat->Tm->Tm->Option (Tm×Tm×Int)
 | 0,a,b=>some (a,b,0)
 |
  k+1,a,b=>if C0 a b=true then some (a,b,-1) else if C0 b a=true then some (a,b,1) else
  if 0<=G7 (Qmc a.hi a.lo) (Qmc b.hi b.lo) then (Qqm a).bind λx=>apF k x b else (Qqm b).bind λx=>apF k a x
def Qfy (a b:Tm):Option Int:=if a.point=true then some (-Ff b a.lo) else if b.point=true then some (Ff a b.lo) else
 let lo:=if 0<G7 b.lo a.lo then b.lo else a.lo
 let hi:=if G7 b.hi a.hi<0 then b.hi else a.hi
 if G7 lo hi<0 then (Qre a.p b.p).bind λg=>if 1<g.length/\Qeb g lo hi=true then some 0 else (apF (Ph a b) a b).bind λr=>some r.2.2
 else (apF (Ph a b) a b).bind λr=>some r.2.2
def sgF (c:List (List Int)):Nat->Tm->Option Tm
 | 0,a=>some a
 | k+1,a=>if a.point=true\/Rz c a.lo a.hi=0 then some a else (Qqm a).bind λx=>sgF c k x
def Qpa (p:List Int) (a:Tm):Option Int:=if p.length=0 then some 0 else if a.point=true then some (G8 p a.lo) else
 (Qre p a.p).bind λg=>if 1<g.length/\Qeb g a.lo a.hi=true then some 0 else (Lp p).bind λc=>(sgF c (64+2*(U6 a.lo.num+U6 a.hi.num)+4*(a.p.length+p.length)*(Gw a.p+Gw p+(a.p.length+p.length)+8)) a).bind λx=>some (G8 p x.hi)
def Of:Tm->List Tm->Option Tm
 | b,[]=>some b
 | b,a::l=>(Qfy a b).bind λc=>Of (if c<0 then a else b) l
def Qcn (a:Tm):List Tm->Option (Option Tm)
 | []=>some none
 | r::l=>(Qfy r a).bind λc=>if 0<c then some (some r) else Qcn a l
def Qdk (p:List Int):Option (List Tm):=(Qyd p).bind λq=>if q.length=0 then some [] else Qma q
def Qhw (p:List Int) (a:Tm):Option (Option Tm):=(Qdk p).bind λl=>Qcn a l
end Orr
namespace Orr
open Go Go.Proofs
set_option maxRecDepth 10000
theorem D4 {p:List Int} (tp:U0 p) (h:p.length≠0):Fa p≠0:=Hi tp (by omega)
theorem Qlj {p:List Int} (h:p.length≠0):Fa p∈p:=Qa (H6 (by omega))
theorem Mj {s:Nat} {p:List Int} (h:Bd s p):U6 (Fa p)<=s:=U9 h _
theorem Lf {p:List Int}:∀ z∈p,Sp p∣z:=Qaq
theorem Qa6 {p:List Int} (tp:U0 p) (h:p.length≠0):Sp p≠0:=λh0=>D4 tp h (Int.zero_dvd.1 (h0 ▸ Lf _ (Qlj h)))
theorem Qbv {p:List Int} (h:Bd 4294967295 p):U6 (Sp p)<=4294967295:=Qiv h
theorem Q2f {p:List Int} (tp:U0 p) (h:p.length≠0):Hd p≠0:=by
 have:=Qa6 tp h;unfold Hd; split <;> omega
theorem Qet {p:List Int}:∀ z∈p,Hd p∣z:=λz hz=>by
 unfold Hd; split
 ·exact Uq.2 (Lf z hz)
 ·exact Lf z hz
theorem Q9t {p:List Int} (h:Bd 4294967295 p):U6 (Hd p)<=4294967295:=by
 unfold Hd; split
 ·rw [Hl]; exact Qbv h
 ·exact Qbv h
theorem Qjn {s:Nat} {p:List Int} (h:Bd s p) (c:Int):Bd s (Bz p c):=Tl (Qfr h c)
theorem Qoe (p:List Int) (c:Int):(Bz p c).length<=p.length:=Qc (Hu _) (by simp)
theorem Om (p:List Int) (c:Int):U0 (Bz p c):=Rf _
theorem Zap {p:List Int} (h:Pb p) (c:Int):Pb (Bz p c):=⟨Om _ _,Qc (Qoe _ _) h.l,Qjn h.b c⟩
theorem Qgt:Pb []:=⟨rfl,by simp,O7⟩
theorem Rk {p:List Int} (h:Pb p):Pb (U7 p):=by
 unfold U7; split
 ·exact Qgt
 ·exact Zap h _
theorem Pb.bd {p:List Int} (h:Pb p):Bd 4294967295 p:=Ut h.b (by omega)
theorem Pb.ln {p:List Int} (h:Pb p):p.length<274877906944:=Zw h.l (by omega)
theorem Pb.ln' {p:List Int} (h:Pb p):p.length<8589934592:=Zw h.l (by omega)
theorem I4 {p q:List Int} (tp:U0 p) (h:chk p=some q):q=p/\Pb p:=by
 unfold chk at h
 split at h
 ·rename_i hc;injection h with h;refine ⟨h.symm,tp,hc.1,λz hz=>?_⟩;have:=Yt.1 hc.2 z hz;exact Xi this
 ·cases h
theorem Q0a {p:List Int} {g:Int} (hl:p.length<274877906944) (hp:Bd 4294967295 p) (hg:U6 g≤4294967295) (h0:g≠0) (hd:∀ z∈p,g∣z):Uu Tryz.prog 308 [pr p,.agg (Gv g)] [pr (Bz p g)]:=by
 refine Gs Tryz.func308 rfl ?_;refine go tt [.r 9 (eI (b:=(p.length:Int)) (by simp)),.i p.length,.i p.length,.r 12 (eI (b:=(p.length:Int)) (by simp))] rfl (by simp [Us]; omega) ?_;rw [Lv λk=>Gv (p.getD k 0 / g)];refine lp (S:=Nat) 2 (λL1 k=>(13,.v (.one (.int .i64 (k:Int))))::L1) (λk=>[.blk 51 (Gv g),.row false 51 2 (fil (λk=>Gv (p.getD k 0 / g)) [.bool false,.nils] p.length k)]) (λk=>p.length-k) (λk=>k<=p.length) 0 (Qh _) rfl (λ_ _=>rfl) rfl λk hk=>?_
 by_cases hlt:k<p.length
 ·have hg2:=H6 hlt;refine go tt [.t (by simp; omega),.x (Sw hg2),.c [] (En (Uv _) (Uv _) (U9 hp k) hg h0 (Jv (hd _ (Qa hg2)))),.i k] rfl (by simp [Us,E4]; omega) ?_;have e:=Ob (λk=>Gv (p.getD k 0 / g)) [.bool false,.nils] hlt;rw [e];exact rd (k+1) (by omega) hlt rfl
 ·obtain rfl:k=p.length:=by omega
  have e:fil (λk=>Gv (p.getD k 0 / g)) [.bool false,.nils] p.length p.length=(p.map (· / g)).map Gv:=by
   rw [Oa];refine Xe λi=>?_
   by_cases hi:i<p.length
   ·simp [Xu hi,List.getD,Qe hi]
   ·simp [Qt,hi]
  rw [e];exact en tt [.f (by simp),.c [] (Dz (Gf (p.map (· / g))) (by simp; exact hl) (Qfr hp g))] rfl rfl trivial
theorem Qfu {p:List Int} (hl:p.length<8589934592) (hp:Bd 4294967295 p):Uu Tryz.prog 309 [.one (.row [[pl p]])] [.agg (Gv (Sp p))]:=by
 refine Gs Tryz.func309 rfl ?_;refine go tt [.o 3 51 2] rfl trivial ?_;refine lp (S:=Nat) 2 (λL1 i=>(8,.v (.one (.int .i64 (i:Int))))::(3,.v (.one (.orow 1 2 none)))::L1) (λi=>[.blk 51 [.bool false,.nils],.row false 51 2 (if i=0 then [] else p.map Gv)]) (λi=>1-i) (λi=>i<=1) 0 (Qh _) rfl (λ_ _=>rfl) rfl λi hi=>?_
 rcases (show i=0\/i=1 by omega) with rfl | rfl
 ·refine go tt [.t rfl,.x (i:=0) (xs:=[pl p]) rfl,.s (Qlx p)] rfl (by simp [Us]; omega) ?_;exact rd 1 (by omega) (by omega) rfl
 ·exact en tt [.f rfl,.c [] (Q6o (Gf p) hp)] rfl rfl trivial
theorem Q7t {p:List Int} (tp:U0 p) (hl':p.length<8589934592) (hp:Bd 4294967295 p):Uu Tryz.prog 304 [pr p] [.agg (Gv (if p.length=0 then 0 else Hd p)),pr (U7 p)]:=by
 have hl:p.length<274877906944:=by omega
 have cn:=Ho tp hl hp;by_cases h0:p.length=0
 ·have e:p=[]:=Qi h0;subst e;exact w tt Tryz.func304 rfl [.c [] cn,.t rfl] rfl (by simp [Eb,U7]; rfl) trivial
 ·have hpf:U7 p=Bz p (Hd p):=by unfold U7; rw [if_neg h0]
  rw [if_neg h0,hpf];have co:=Q0a hl hp (Q9t hp) (Q2f tp h0) Qet;by_cases hneg:Fa p<0
  ·have e:Hd p=-Sp p:=by unfold Hd; rw [if_pos hneg]
   rw [e] at co ⊢;exact w tt Tryz.func304 rfl [.c [] cn,.f (by simpa using h0),.c [] (Qfu hl' hp),.c [] (Ck tp hl hp),.t (by simpa [Fa] using hneg),.c [] (Qjw (Uv _) (Qbv hp)),.c [] co] rfl rfl trivial
  ·have e:Hd p=Sp p:=by unfold Hd; rw [if_neg hneg]
   rw [e] at co ⊢;exact w tt Tryz.func304 rfl [.c [] cn,.f (by simpa using h0),.c [] (Qfu hl' hp),.c [] (Ck tp hl hp),.f (by simpa [Fa] using hneg),.c [] co] rfl rfl trivial
theorem Ep {p:List Int} (hp:Pb p):Uu Tryz.prog 268 [pr p] [pr (U7 p)] :=
 w tt Tryz.func268 rfl [.c [] (Q7t hp.t hp.ln' hp.bd)] rfl rfl trivial
theorem Na (p:List Int):Uu Tryz.prog 161 [pr p] [.one (.int .i64 ((p.length:Int)-1))]:=by
 have h:Uu Tryz.prog 161 [pr p] [.one (.int .i64 (((p.map Gv).length:Int)-1))]:=Gs Tryz.func161 rfl (ln 0 rfl rfl λhl=>en tt [] rfl rfl (by simp [Us] at hl ⊢; omega));rw [Q5] at h; exact h
theorem A9 (i:Nat) (x:Int):(mono i x).length=i+1:=by simp [mono]
theorem Qjl {s i:Nat} {x:Int} (h:U6 x<=s):Bd s (mono i x):=λz hz=>by
 simp only [mono,Qu,Qk] at hz;rcases hz with hz | rfl
 ·rw [(List.mem_replicate.1 hz).2,Mk]; exact Qh _
 ·exact h
def stq (c:Int) (i:Nat) (x:Int) (q:List Int):List Int:=Al (Fg q c) (mono i x)
def str (b:List Int) (c:Int) (i:Nat) (x:Int) (r:List Int):List Int:=Px (Fg r c) (Fx (trim (mono i x)) b)
theorem Zi9 {u t i:Nat} {c x:Int} {q:List Int} (hq:Bd u q) (hc:U6 c<=t) (hx:U6 x<=u):Bd (u+t+8) (stq c i x q) :=
 Ut (Qpq (Gu hq hc) (Qjl hx)) (by omega)
theorem Zfn {c x:Int} {i:Nat} {q:List Int}:(stq c i x q).length<=max q.length (i+1):=by
 have h:=Qll (Fg q c) (mono i x);have h1:=Gb q c;rw [A9] at h;unfold stq; omega
theorem Qqu {i:Nat} {x:Int} {b:List Int}:(Fx (trim (mono i x)) b).length<=i+b.length:=by
 have h:=Qaw (trim (mono i x)) b;have h1:=Hu (mono i x);rw [A9] at h1; omega
theorem Qzu {u t i:Nat} {x:Int} {b:List Int} (hb:Bd t b) (hx:U6 x<=u) (hi:i<=64):Bd (u+t+7) (Fx (trim (mono i x)) b) :=
 Qds (Tl (Qjl hx)) hb (Zw (Hu _) (by rw [A9]; omega))
theorem Qwf {u t i:Nat} {c x:Int} {b r:List Int} (hr:Bd u r) (hb:Bd t b) (hc:U6 c<=t) (hx:U6 x<=u) (hi:i<=64):Bd (u+t+8) (str b c i x r) :=
 Ut (Iw (Gu hr hc) (Qzu hb hx hi)) (by omega)
theorem Qqv {c x:Int} {i:Nat} {b r:List Int}:(str b c i x r).length<=max r.length (i+b.length):=by
 have h:=L8 (Fg r c) (Fx (trim (mono i x)) b);have h1:=Gb r c;have h2:=Qqu (i:=i) (x:=x) (b:=b);unfold str; omega
theorem Qui (i:Nat) (x:Int):((List.replicate (i+1) (0:Int)).map Gv).set i (Gv x)=(mono i x).map Gv:=by
 rw [Qyb,mono];congr 1;refine Xe λj=>?_
 simp only [Yk,List.getElem?_append,Jy,X1];by_cases h:j=i
 ·subst h; simp
 ·rw [if_neg (by omega)];by_cases h2:j<i
  ·simp [h2]; omega
  ·rw [if_neg (by omega),if_neg h2];cases hj:j-i with
   | zero=>omega
   | succ m=>simp
theorem Q12 (i:Nat) {x:Int} {y:List LV} (h:y.map Qib=Gv x):(((List.replicate (i+1) [LV.bool false,LV.nils]).set i y).map λc=>c.map Qib)=(mono i x).map Gv:=by
 rw [V2,Qi6,h]; exact Qui i x
theorem Qba {b:List Int} {c:Int} {i:Nat} {q r:List Int} {x:Int} (hx:x=if r.length=b.length+i then Fa r else 0):psd b c (i+1) (q,r)=psd b c i (stq c i x q,str b c i x r):=by
 subst hx; rfl
theorem Q63 {a b:List Int} (ha:Pb a) (hb:Pb b) (h0:b.length≠0):Uu Tryz.prog 305 [pr a,pr b] [pr (psd b (Fa b) (a.length+1-b.length) ([],a)).1,pr (Pn a b),.one (.int .i64 ((a.length+1-b.length:Nat):Int)),.one (.int .i64 0)]:=by
 have hal:=ha.l;have hbl:=hb.l;have hlb:U6 (Fa b)<=16777216:=Mj hb.b;obtain ⟨c,hc⟩:=nmE (Fa b);have cl:=Ck hb.t hb.ln hb.bd;rw [show b.getD (b.length-1) 0=c from hc.symm] at cl;obtain ⟨k,hk⟩:=nmE (a.length+1-b.length);unfold Pn;rw [<-hc,<-hk];rw [<-hc] at hlb;refine Gs Tryz.func305 rfl ?_;refine go tt [.z 4,.c [] (Ho ha.t ha.ln ha.bd),.c [] (Ho hb.t hb.ln hb.bd),.f (by simpa using h0),.c [] cl,.c [] (Na a),.c [] (Na b),.r 27 (eI (b:=(k:Int)) (by omega))] rfl (by simp [Us]; omega) ?_;refine lp (S:=Nat×List Int×List Int) 1 (λL1 s=>(4,.v (pr s.2.1))::(5,.v (pr s.2.2))::(9,.v (.one (.int .i64 ((s.1:Int)-1))))::L1) (λ_=>[.blk 51 (Gv c)]) (λs=>s.1) (λs=>s.1<=k/\U0 s.2.2/\s.2.1.length<=66/\s.2.2.length<=a.length/\Bd (16777216+(k-s.1)*16777224) s.2.1/\Bd (16777216+(k-s.1)*16777224) s.2.2/\psd b c s.1 s.2=psd b c k ([],a)) (k,[],a) ⟨Qm _,ha.t,by simp,Qm _,O7,by simpa using ha.b,rfl⟩ rfl (λ_ _=>rfl) rfl λ⟨i,q,r⟩ ⟨j1,j2,j3,j4,j5,j6,j7⟩=>?_
 dsimp only at j1 j2 j3 j4 j5 j6 j7 ⊢;rw [<-j7];cases i with
 | zero=>exact en tt [.f (by simp)] rfl rfl trivial
 |
  succ i =>
  obtain ⟨x,hx⟩:=nmE (if r.length=b.length+i then Fa r else 0);obtain ⟨u,hu⟩:=nmE (16777216+(k-(i+1))*16777224);rw [<-hu] at j5 j6;have hub:u<=1107296256:=by
   have:(k-(i+1))*16777224<=64*16777224:=Q0 _ (by omega);omega
  have hxs:U6 x<=u:=by
   rw [hx]; split
   ·exact Mj j6
   ·rw [Mk]; exact Qh _
  have cs:=Ax (p:=q) (c:=c) (by omega) (Ut j5 (by omega)) (by omega);have cs2:=Ax (p:=r) (c:=c) (by omega) (Ut j6 (by omega)) (by omega);have l1:=Gb q c;have l2:=Gb r c;have ca:=Q6y (p:=Fg q c) (q:=mono i x) (by omega) (by rw [A9]; omega) (Ut (Gu j5 hlb) (by omega)) (Ut (Qjl hxs) (by omega));have cm:=Qpt (p0:=mono i x) hb.t (by rw [A9]; omega) (by omega) (Qjl hxs) hb.b (by omega);have l3:=Qqu (i:=i) (x:=x) (b:=b);have cb:=Qjy (p:=Fg r c) (q:=Fx (trim (mono i x)) b) (by omega) (by omega) (Ut (Gu j6 hlb) (by omega)) (Ut (Qzu hb.b hxs (by omega)) (by omega));have hst:=Qba (b:=b) (c:=c) (q:=q) hx;have hI:i<=k/\U0 (str b c i x r)/\(stq c i x q).length<=66/\(str b c i x r).length<=a.length/\Bd (16777216+(k-i)*16777224) (stq c i x q)/\Bd (16777216+(k-i)*16777224) (str b c i x r):=by
   have l5:=Zfn (c:=c) (x:=x) (i:=i) (q:=q);have l6:=Qqv (c:=c) (x:=x) (i:=i) (b:=b) (r:=r);have hku:u+16777216+8=16777216+(k-i)*16777224:=by
    rw [hu,show k-i=(k-(i+1))+1 from by omega,X6]; omega
   refine ⟨by omega,Fu _ _,by omega,by omega,?_,?_⟩
   ·rw [<-hku]; exact Zi9 j5 hlb hxs
   ·rw [<-hku]; exact Qwf j6 hb.b hlb hxs (by omega)
  rw [hst];by_cases h:r.length=b.length+i
  ·refine go tt [.t (by simp <;> omega),.c [] (Na r),.c [] (Na b),.t (by simp; omega),.c [] (Ck j2 (by omega) (Ut j6 (by omega))),.r 44 (eI (b:=((i+1:Nat):Int)) (by omega)),.i (i+1),.i (i+1),.r 47 (eI (b:=(i:Int)) (by omega)),.i i] rfl (by simp [Us]; omega) ?_;refine nl 2 rfl rfl rfl ?_;rw [Q12 i (x:=x) (by rw [hx,if_pos h]; rfl)];refine go tt [.c [] cs,.c [] ca,.c [] cs2,.c [] cm,.c [] cb,.r 33 (eI (b:=(i:Int)-1) (by omega))] rfl (by simp [Us]; omega) ?_;exact rd (i,stq c i x q,str b c i x r) (by dsimp only; omega) ⟨hI.1,hI.2.1,hI.2.2.1,hI.2.2.2.1,hI.2.2.2.2.1,hI.2.2.2.2.2,rfl⟩ rfl
  ·refine go tt [.t (by simp <;> omega),.c [] (Na r),.c [] (Na b),.f (by simp; omega),.r 44 (eI (b:=((i+1:Nat):Int)) (by omega)),.i (i+1),.i (i+1),.r 47 (eI (b:=(i:Int)) (by omega)),.i i] rfl (by simp [Us]; omega) ?_;refine nl 2 rfl rfl rfl ?_;rw [Q12 i (x:=x) (by rw [hx,if_neg h,Eb]; rfl)];refine go tt [.c [] cs,.c [] ca,.c [] cs2,.c [] cm,.c [] cb,.r 33 (eI (b:=(i:Int)-1) (by omega))] rfl (by simp [Us]; omega) ?_;exact rd (i,stq c i x q,str b c i x r) (by dsimp only; omega) ⟨hI.1,hI.2.1,hI.2.2.1,hI.2.2.2.1,hI.2.2.2.2.1,hI.2.2.2.2.2,rfl⟩ rfl
theorem Za0 {b:List Int} {c:Int} (hb:Bd 16777216 b) (hc:U6 c<=16777216) {n:Nat}:∀ (i u:Nat) (q r:List Int),i<=64->i+b.length<=n+1->U0 r->r.length<=n->Bd u r->U0 (psd b c i (q,r)).2/\(psd b c i (q,r)).2.length<=n/\Bd (u+i*16777224) (psd b c i (q,r)).2
 | 0,u,q,r,_,_,h1,h2,h3=>⟨h1,h2,by simpa [psd] using h3⟩
 |
  i+1,u,q,r,hi,hn,h1,h2,h3=>by
  rw [Qba rfl];have hx:U6 (if r.length=b.length+i then Fa r else 0)<=u:=by
   split
   ·exact Mj h3
   ·rw [Mk]; exact Qh _
  have l6:=Qqv (c:=c) (x:=if r.length=b.length+i then Fa r else 0) (i:=i) (b:=b) (r:=r);have:=Za0 hb hc (n:=n) i (u+16777216+8) (stq c i (if r.length=b.length+i then Fa r else 0) q) (str b c i (if r.length=b.length+i then Fa r else 0) r) (by omega) (by omega) (Fu _ _) (by omega) (Qwf h3 hb hc hx (by omega));exact ⟨this.1,this.2.1,Ut this.2.2 (by omega)⟩
theorem Q2j {a b:List Int} (ha:Pb a) (hb:Pb b) (h0:b.length≠0):U0 (Pn a b)/\(Pn a b).length<=a.length/\Bd 1107296256 (Pn a b):=by
 have hal:=ha.l;by_cases h:b.length<=a.length+1
 ·obtain ⟨h1,h2,h3⟩:=Za0 hb.b (Mj hb.b) (n:=a.length) (a.length+1-b.length) 16777216 [] a (by omega) (by omega) ha.t (Qm _) ha.b;refine ⟨h1,h2,Ut h3 ?_⟩;have:(a.length+1-b.length)*16777224<=64*16777224:=Q0 _ (by omega);omega
 ·have e:Pn a b=a:=by unfold Pn; rw [show a.length+1-b.length=0 from by omega]; rfl
  rw [e];exact ⟨ha.t,Qm _,Ut ha.b (by omega)⟩
theorem Qex {a b r:List Int} {s n:Nat} (h1:U0 r) (h2:r.length<=n) (h3:Bd s r):U0 (Ni a b r)/\(Ni a b r).length<=n/\Bd s (Ni a b r):=by
 unfold Ni; split
 ·exact ⟨Fu _ _,Qc (L6 r) h2,Qbn h3⟩
 ·exact ⟨h1,h2,h3⟩
theorem Qlz {r:List Int} {s n:Nat} (h2:r.length<=n) (h3:Bd s r):U0 (Qco r)/\(Qco r).length<=n/\Bd s (Qco r):=by
 unfold Qco; split
 ·exact ⟨rfl,by simp,O7⟩
 ·exact ⟨Om _ _,Qc (Qoe _ _) h2,Qjn h3 _⟩
theorem Qeu {a b:List Int} (ha:Pb a) (hb:Pb b) (h0:b.length≠0):U0 (Rp a b)/\(Rp a b).length<=a.length/\Bd 1107296256 (Rp a b):=by
 obtain ⟨h1,h2,h3⟩:=Q2j ha hb h0;obtain ⟨h4,h5,h6⟩:=Qex (a:=a) (b:=b) h1 h2 h3;exact Qlz h5 h6
theorem Q66 {a b:List Int} (ha:Pb a) (hb:Pb b) (h0:b.length≠0):Uu Tryz.prog 269 [pr a,pr b] [pr (Rp a b),.one (.int .i64 0)]:=by
 obtain ⟨h1,h2,h3⟩:=Q2j ha hb h0;obtain ⟨h4,h5,h6⟩:=Qex (a:=a) (b:=b) h1 h2 h3;have hal:=ha.l;have cp:=Q63 ha hb h0;have cl:=Ck hb.t hb.ln hb.bd;have cn:=Q62 (p:=Pn a b) (by omega) (Ut h3 (by omega));unfold Rp;obtain ⟨r,hr⟩:=nmE (Ni a b (Pn a b));have cc:=Qfu (p:=r) (by rw [hr]; omega) (by rw [hr]; exact Ut h6 (by omega));rw [<-hr] at h4 h5 h6 ⊢;obtain ⟨k,hk⟩:=nmE (a.length+1-b.length);rw [<-hk] at cp;have em:((k:Int).tmod 2)=((k % 2:Nat):Int):=by rw [Y4 (by omega)]; omega
 have key:Qco r=if r.length=0 then [] else Bz r (Sp r):=rfl
 by_cases hz:r.length=0
 ·rw [key,if_pos hz];by_cases hodd:k % 2=1
  ·by_cases hneg:Fa b<0
   ·have e:r=Pg (Pn a b):=by rw [hr]; unfold Ni; rw [if_pos ⟨by rw [<-hk]; exact hodd,hneg⟩]
    rw [e] at hz;exact w tt Tryz.func269 rfl [.c [] cp,.f (by simp),.r 22 (eI em),.t (by simp; omega),.c [] cl,.t (by simpa [Fa] using hneg),.c [] cn,.t (by simpa using hz)] rfl rfl (by simp [Us])
   ·have e:r=Pn a b:=by rw [hr]; unfold Ni; rw [if_neg (λh=>hneg h.2)]
    rw [e] at hz;exact w tt Tryz.func269 rfl [.c [] cp,.f (by simp),.r 22 (eI em),.t (by simp; omega),.c [] cl,.f (by simpa [Fa] using hneg),.t (by simpa using hz)] rfl rfl (by simp [Us])
  ·have e:r=Pn a b:=by rw [hr]; unfold Ni; rw [if_neg (λh=>hodd (by rw [hk]; exact h.1))]
   rw [e] at hz;exact w tt Tryz.func269 rfl [.c [] cp,.f (by simp),.r 22 (eI em),.f (by simp; omega),.f rfl,.t (by simpa using hz)] rfl rfl (by simp [Us])
 ·rw [key,if_neg hz];have cd:=Q0a (p:=r) (g:=Sp r) (by omega) (Ut h6 (by omega)) (Qbv (Ut h6 (by omega))) (Qa6 h4 hz) Lf;by_cases hodd:k % 2=1
  ·by_cases hneg:Fa b<0
   ·have e:r=Pg (Pn a b):=by rw [hr]; unfold Ni; rw [if_pos ⟨by rw [<-hk]; exact hodd,hneg⟩]
    rw [e] at hz cc cd ⊢;exact w tt Tryz.func269 rfl [.c [] cp,.f (by simp),.r 22 (eI em),.t (by simp; omega),.c [] cl,.t (by simpa [Fa] using hneg),.c [] cn,.f (by simpa using hz),.c [] cc,.c [] cd] rfl rfl (by simp [Us])
   ·have e:r=Pn a b:=by rw [hr]; unfold Ni; rw [if_neg (λh=>hneg h.2)]
    rw [e] at hz cc cd ⊢;exact w tt Tryz.func269 rfl [.c [] cp,.f (by simp),.r 22 (eI em),.t (by simp; omega),.c [] cl,.f (by simpa [Fa] using hneg),.f (by simpa using hz),.c [] cc,.c [] cd] rfl rfl (by simp [Us])
  ·have e:r=Pn a b:=by rw [hr]; unfold Ni; rw [if_neg (λh=>hodd (by rw [hk]; exact h.1))]
   rw [e] at hz cc cd ⊢;exact w tt Tryz.func269 rfl [.c [] cp,.f (by simp),.r 22 (eI em),.f (by simp; omega),.f rfl,.f (by simpa using hz),.c [] cc,.c [] cd] rfl rfl (by simp [Us])
theorem Zfg {s:Nat} {x:Int} (h:U6 x<=s) (g:Int):U6 (x / g)<=s:=Qfr (p:=[x]) (λz hz=>by rw [Qk.1 hz]; exact h) g _ (by simp)
def sta (b:List Int) (i:Nat) (x:Int) (a:List Int):List Int:=Px a (Fx (trim (mono i x)) b)
theorem Zi8 {u t i:Nat} {x:Int} {b a:List Int} (ha:Bd u a) (hb:Bd t b) (hx:U6 x<=u) (hi:i<=64):Bd (u+t+8) (sta b i x a) :=
 Ut (Iw ha (Qzu hb hx hi)) (by omega)
theorem Q1s {x:Int} {i:Nat} {b a:List Int}:(sta b i x a).length<=max a.length (i+b.length):=by
 have h:=L8 a (Fx (trim (mono i x)) b);have h2:=Qqu (i:=i) (x:=x) (b:=b);unfold sta; omega
theorem Zdp (s n:Nat):Bd s (List.replicate n 0):=λz hz=>by rw [(List.mem_replicate.1 hz).2,Mk]; exact Qh _
theorem Zi7 {s i:Nat} {l:List Int} {x:Int} (h:Bd s l) (hx:U6 x<=s):Bd s (l.set i x):=λz hz=>by
 rcases Yd hz with hz | rfl
 ·exact h z hz
 ·exact hx
theorem Q6z {a b q:List Int} (ha:Pb a) (hb:Pb b) (h:Qa9 a b=some q):Uu Tryz.prog 340 [pr a,pr b] [pr q,.one (.int .i64 0)]:=by
 unfold Qa9 at h
 split at h
 ·cases h
 rename_i h0;obtain ⟨k,hk⟩:=nmE (a.length+1-b.length);rw [<-hk] at h;obtain ⟨q',hq,hq2⟩:=Qf.1 h;obtain ⟨rfl,hpb⟩:=I4 (Rf _) hq2;have hal:=ha.l;have hbl:=hb.l;refine Gs Tryz.func340 rfl ?_;refine go tt [.c [] (Ho ha.t ha.ln ha.bd),.c [] (Ho hb.t hb.ln hb.bd),.f (by simpa using h0),.r 24 (eI (b:=(k:Int)) (by simp; omega)),.i k,.i k,.r 27 (eI (b:=(k:Int)) (by simp))] rfl (by simp [Us]; omega) ?_;refine nl 0 rfl rfl rfl ?_;rw [Qi6];refine lp (S:=Nat×List Int×List Int) 1 (λL1 s=>(0,.v (pr s.2.1))::(7,.v (.one (.int .i64 ((s.1:Int)-1))))::L1) (λs=>[.row false 51 2 (s.2.2.map Gv)]) (λs=>s.1) (λs=>s.1<=k/\U0 s.2.1/\s.2.1.length<=a.length/\Bd (16777216+(k-s.1)*16777224) s.2.1/\s.2.2.length=k/\Bd 1107296256 s.2.2/\Qrc b s.1 s.2.1 s.2.2=some q') (k,a,List.replicate k 0) ⟨Qm _,ha.t,Qm _,by simpa using ha.b,by simp,Zdp _ _,hq⟩ rfl (λ_ _=>rfl) rfl λ⟨i,A,Q⟩ ⟨j1,j2,j3,j4,j5,j7,j6⟩=>?_
 dsimp only at j1 j2 j3 j4 j5 j6 j7 ⊢;cases i with
 |
  zero =>
  simp only [Qrc] at j6
  split at j6
  ·rename_i hA;injection j6 with j6; subst j6;exact en tt [.f (by simp),.f (by simpa using hA),.c [] (Dz (Gf Q) (by omega) (Ut j7 (by omega)))] rfl rfl trivial
  ·cases j6
 |
  succ i =>
  obtain ⟨u,hu⟩:=nmE (16777216+(k-(i+1))*16777224);rw [<-hu] at j4;have hub:u<=1107296256:=by
   have:(k-(i+1))*16777224<=64*16777224:=Q0 _ (by omega);omega
  have hku:u+16777216+8=16777216+(k-i)*16777224:=by
   rw [hu,show k-i=(k-(i+1))+1 from by omega,X6]; omega
  simp only [Qrc] at j6;by_cases hlt:A.length<b.length+i
  ·rw [if_pos hlt] at j6;refine go tt [.t (by simp <;> omega),.c [] (Na A),.c [] (Na b),.t (by simp; omega),.r 32 (eI (b:=(i:Int)-1) (by omega))] rfl (by simp [Us]; omega) ?_;exact rd (i,A,Q) (by dsimp only; omega) ⟨by dsimp only; omega,j2,j3,Ut j4 (by dsimp only; omega),j5,j7,j6⟩ rfl
  ·rw [if_neg hlt] at j6
   split at j6
   ·rename_i hdv;obtain ⟨x,hx⟩:=nmE (Fa A / Fa b);rw [<-hx] at j6;have hxs:U6 x<=u:=by rw [hx]; exact Zfg (Mj j4) _
    have ce:=En (Uv (Fa A)) (Uv (Fa b)) (Qc (Mj j4) (by omega)) (Qc (Mj hb.b) (by omega)) (D4 hb.t h0) hdv;rw [<-hx] at ce;have cm:Uu Tryz.prog 242 [.one (.row ((mono i x).map Gv)),pr b] [pr (Fx (trim (mono i x)) b)]:=Qpt (p0:=mono i x) hb.t (by rw [A9]; omega) (by omega) (Qjl hxs) hb.b (by omega);have l3:=Qqu (i:=i) (x:=x) (b:=b);have l4:=Q1s (i:=i) (x:=x) (b:=b) (a:=A);have cb:=Qjy (p:=A) (q:=Fx (trim (mono i x)) b) (by omega) (by omega) (Ut j4 (by omega)) (Ut (Qzu hb.b hxs (by omega)) (by omega));refine go tt [.t (by simp <;> omega),.c [] (Na A),.c [] (Na b),.f (by simp; omega),.c [] (Ck j2 (by omega) (Ut j4 (by omega))),.c [] (Ck hb.t hb.ln hb.bd),.c [] ce,.f rfl,.r 51 (eI (b:=(i:Int)) (by omega)),.i i,.r 55 (eI (b:=((i+1:Nat):Int)) (by omega)),.i (i+1),.i (i+1),.r 58 (eI (b:=(i:Int)) (by omega))] rfl (by simp [Us]; omega) ?_;refine nl 2 rfl rfl rfl ?_;rw [Qi6,Qyb];rw [<-Qui i x] at cm;refine go tt [.i i,.c [] cm,.c [] cb,.r 32 (eI (b:=(i:Int)-1) (by omega))] rfl (by simp [Us]; omega) ?_;exact rd (i,sta b i x A,Q.set i x) (by dsimp only; omega) ⟨by dsimp only; omega,Fu _ _,by dsimp only; omega,by dsimp only; rw [<-hku]; exact Zi8 j4 hb.b hxs (by omega),by simpa using j5,Zi7 j7 (Nat.le_trans hxs hub),j6⟩ rfl
   ·cases j6
theorem Qx9 {a b q:List Int} (h:Qa9 a b=some q):Pb q:=by
 unfold Qa9 at h
 split at h
 ·cases h
 ·obtain ⟨q',_,hq2⟩:=Qf.1 h;obtain ⟨rfl,hpb⟩:=I4 (Rf _) hq2;exact hpb
theorem Q7w {a b q:List Int} (ha:Pb a) (hb:Pb b) (h:Qa9 a b=some q):Uu Tryz.prog 327 [pr a,pr b] [pr q] :=
 w tt Tryz.func327 rfl [.c [] (Q6z ha hb h)] rfl rfl trivial
theorem Qr6:∀ {k:Nat} {a b g:List Int},Pb a->Pb b->Qg6 k a b=some g->Pb g
 | 0,_,_,_,_,_,h=>by cases h
 |
  k+1,a,b,g,ha,hb,h=>by
  simp only [Qg6] at h
  split at h
  ·injection h with h; subst h; exact ha
  ·rename_i h0;obtain ⟨r,hr,h⟩:=Qf.1 h;obtain ⟨rfl,hpb⟩:=I4 (Qeu ha hb h0).1 hr;exact Qr6 hb hpb h
theorem Q0q {a b g:List Int} (ha:Pb a) (hb:Pb b) (h:Qbb a b=some g):Uu Tryz.prog 215 [pr a,pr b] [pr g]:=by
 unfold Qbb at h;obtain ⟨g',h2,rfl⟩:=Vu.1 h;have hg:=Qr6 (Rk ha) (Rk hb) h2;refine Gs Tryz.func215 rfl ?_;refine go tt [.c [] (Ep ha),.c [] (Ep hb)] rfl trivial ?_;refine lp (S:=Nat×List Int×List Int) 0 (λL1 s=>(0,.v (pr s.2.1))::(1,.v (pr s.2.2))::L1) (λ_=>[]) (λs=>s.1) (λs=>Pb s.2.1/\Pb s.2.2/\Qg6 s.1 s.2.1 s.2.2=some g') (66,U7 a,U7 b) ⟨Rk ha,Rk hb,h2⟩ rfl (λ_ _=>rfl) rfl λ⟨k,A,C⟩ ⟨j1,j2,j3⟩=>?_
 dsimp only at j1 j2 j3 ⊢;cases k with
 | zero=>cases j3
 |
  succ k =>
  simp only [Qg6] at j3
  split at j3
  ·rename_i h0;injection j3 with j3; subst j3;exact en tt [.f (by simpa using h0),.c [] (Ep j1)] rfl rfl trivial
  ·rename_i h0;obtain ⟨r,hr,j3⟩:=Qf.1 j3;obtain ⟨rfl,hpb⟩:=I4 (Qeu j1 j2 h0).1 hr;refine go tt [.t (by simp; omega),.c [] (Q66 j1 j2 h0)] rfl trivial ?_;exact rd (k,C,Rp A C) (by dsimp only; omega) ⟨j2,hpb,j3⟩ rfl
theorem Qgv {a b g:List Int} (ha:Pb a) (hb:Pb b) (h:Qbb a b=some g):Pb g:=by
 unfold Qbb at h;obtain ⟨g',h2,rfl⟩:=Vu.1 h;exact Rk (Qr6 (Rk ha) (Rk hb) h2)
theorem Q60 {a b g:List Int} (ha:Pb a) (hb:Pb b) (h:Qre a b=some g):Uu Tryz.prog 160 [.one (.row (Si [a,b]))] [pr g]:=by
 unfold Qre at h;obtain ⟨g1,h1,h2⟩:=Qf.1 h;have hg1:=Qgv Qgt ha h1;refine Gs Tryz.func160 rfl ?_;refine go tt [.z 3] rfl trivial ?_;refine lp (S:=Nat) 0 (λL1 i=>(8,.v (.one (.int .i64 (i:Int))))::(3,.v (pr (if i=0 then [] else if i=1 then g1 else g)))::L1) (λ_=>[]) (λi=>2-i) (λi=>i<=2) 0 (Qh _) rfl (λ_ _=>rfl) rfl λi hi=>?_
 rcases (show i=0\/i=1\/i=2 by omega) with rfl | rfl | rfl
 ·refine go tt [.t rfl,.x (Ra (i:=0) (p:=a) rfl),.c [] (Q0q Qgt ha h1)] rfl (by simp [Us]) ?_;exact rd 1 (by omega) (by omega) rfl
 ·refine go tt [.t rfl,.x (Ra (i:=1) (p:=b) rfl),.c [] (Q0q hg1 hb h2)] rfl (by simp [Us]) ?_;exact rd 2 (by omega) (by omega) rfl
 ·exact en tt [.f rfl] rfl rfl trivial
theorem Zam {a b g:List Int} (ha:Pb a) (hb:Pb b) (h:Qre a b=some g):Pb g:=by
 unfold Qre at h;obtain ⟨g1,h1,h2⟩:=Qf.1 h;exact Qgv (Qgv Qgt ha h1) hb h2
theorem Qlu {p d:List Int} (h:chk (Gg p)=some d):d=Gg p/\Pb (Gg p):=I4 (Fu _ _) h
theorem Qjz {a g:List Int} (ha:Pb a) (h:Pi a=some g):Uu Tryz.prog 298 [pr a] [pr g]:=by
 have hp:=Rk ha;unfold Pi at h
 split at h
 ·rename_i h0;injection h with h; subst h;exact w tt Tryz.func298 rfl [.c [] (Ep ha),.c [] (Na _),.t (by simp; omega)] rfl rfl trivial
 ·rename_i h0;obtain ⟨d,h1,h⟩:=Qf.1 h;obtain ⟨rfl,hd⟩:=Qlu h1;obtain ⟨g1,h1,h⟩:=Qf.1 h;exact w tt Tryz.func298 rfl [.c [] (Ep ha),.c [] (Na _),.f (by simp; omega),.c [] (Aw hp.ln hp.bd),.c [] (Q0q hp hd h1),.c [] (Q7w hp (Qgv hp hd h1) h)] rfl rfl trivial
theorem Qgu {a g:List Int} (ha:Pb a) (h:Pi a=some g):Pb g:=by
 unfold Pi at h
 split at h
 ·injection h with h; subst h; exact Rk ha
 ·obtain ⟨d,h1,h⟩:=Qf.1 h;obtain ⟨g1,h1,h⟩:=Qf.1 h;exact Qx9 h
theorem Zan {p:List Int} (h:Pb p):Pb (Pg p):=⟨Fu _ _,Qc (L6 p) h.l,Qbn h.b⟩
theorem Qw9:∀ {k:Nat} {a b:List Int} {l:List (List Int)},Pb a->Pb b->chF k a b=some l->l.length≤k/\∀ p∈l,Pb p
 | 0,_,_,_,_,_,h=>by cases h
 |
  k+1,a,b,l,ha,hb,h=>by
  simp only [chF] at h
  split at h
  ·injection h with h; subst h; exact ⟨by simp,λp hp=>by cases hp⟩
  ·rename_i h0;obtain ⟨r,hr,h⟩:=Qf.1 h;obtain ⟨rfl,hpb⟩:=I4 (Qeu ha hb h0).1 hr;obtain ⟨l',h1,h⟩:=Qf.1 h;injection h with h; subst h;obtain ⟨i1,i2⟩:=Qw9 hb (Zan hpb) h1;refine ⟨by simp; exact i1,λp hp=>?_⟩;rcases Qo.1 hp with rfl | hp
   ·exact hb
   ·exact i2 p hp
theorem chain_ok {p:List Int} {l:List (List Int)} (hp:Pb p) (h:Lp p=some l):l.length≤67/\∀ q∈l,Pb q:=by
 unfold Lp at h;obtain ⟨a,h1,h⟩:=Qf.1 h;have ha:=Qgu hp h1
 split at h
 ·cases h
 ·obtain ⟨d,h2,h⟩:=Qf.1 h;obtain ⟨rfl,hd⟩:=Qlu h2;obtain ⟨l',h3,h⟩:=Qf.1 h;injection h with h; subst h;obtain ⟨i1,i2⟩:=Qw9 ha (Rk hd) h3;refine ⟨by simp; omega,λp hp=>?_⟩;rcases Qo.1 hp with rfl | hp
  ·exact ha
  ·exact i2 p hp
theorem Qly (l:List (List Int)) (p:List Int):Si l++[[pl p]]=Si (l++[p]):=by simp [Si]
theorem Lh (l:List (List Int)):(Si l).length=l.length:=by simp [Si]
theorem Q68 {p:List Int} {l:List (List Int)} (hp:Pb p) (h:Lp p=some l):Uu Tryz.prog 275 [pr p] [.one (.sh [.row (Si l)]),.one (.int .i64 0)]:=by
 unfold Lp at h;obtain ⟨a,h1,h⟩:=Qf.1 h;have ha:=Qgu hp h1
 split at h
 ·cases h
 rename_i h0;obtain ⟨d,h2,h⟩:=Qf.1 h;obtain ⟨rfl,hd⟩:=Qlu h2;obtain ⟨l',h3,h⟩:=Qf.1 h;injection h with h; subst h;refine Gs Tryz.func275 rfl ?_;refine go tt [.c [] (Qjz hp h1),.f (by simpa using h0),.lo,.c [] (Aw ha.ln ha.bd),.c [] (Q7t hd.t hd.ln' hd.bd)] rfl (by simp [Us]) ?_;obtain ⟨z,hz⟩:=nmE (if (Gg a).length=0 then 0 else Hd (Gg a));rw [<-hz];refine sb [(4,.v (pr a)),(7,.v (pr (U7 (Gg a)))),(5,.v (.one (.ow 1 0)))] [.row false 48 1 [[pl a]],.blk 356 [.orow 0 1 none],.blk 51 (Gv z)] rfl rfl ?_;have hll:=(Qw9 ha (Rk hd) h3).1;refine lp (S:=Nat×List (List Int)×List Int×List Int) 3 (λL1 s=>(4,.v (pr s.2.2.1))::(7,.v (pr s.2.2.2))::L1) (λs=>[.row false 48 1 (Si s.2.1),.blk 356 [.orow 0 1 none],.blk 51 (Gv z)]) (λs=>s.1) (λs=>Pb s.2.2.1/\Pb s.2.2.2/\∃ m,chF s.1 s.2.2.1 s.2.2.2=some m/\s.2.1++m=a::l') (66,[a],a,U7 (Gg a)) ⟨ha,Rk hd,l',h3,rfl⟩ rfl (λ_ _=>rfl) rfl λ⟨k,out,A,C⟩ ⟨j1,j2,m,j3,j4⟩=>?_
 dsimp only at j1 j2 j3 j4 ⊢;have hol:out.length<=67:=by have:=congrArg List.length j4; simp at this; omega
 cases k with
 | zero=>cases j3
 |
  succ k =>
  simp only [chF] at j3
  split at j3
  ·rename_i h0;injection j3 with j3; subst j3;rw [Zq] at j4;rw [<-j4];exact en tt [.f (by simpa using h0)] rfl rfl trivial
  ·rename_i h0;obtain ⟨r,hr,j3⟩:=Qf.1 j3;obtain ⟨rfl,hpb⟩:=I4 (Qeu j1 j2 h0).1 hr;obtain ⟨m',j6,j5⟩:=Qf.1 j3;injection j5 with j5; subst j5;refine go tt [.t (by simp; omega),.s (sz:=1) (λc hc=>by rw [Qk.1 hc]; rfl),.c [] (Q66 j1 j2 h0),.c [] (Q62 hpb.ln hpb.bd)] rfl (by simp [Us,Lh]; omega) ?_;exact rd (k,out++[C],C,Pg (Rp A C)) (by dsimp only; omega) ⟨j2,Zan hpb,m',j6,by rw [<-j4]; simp⟩ (by rw [Qly]; rfl)
structure Tb (t:Tm):Prop where
 p:Pb t.p
 lo:Qb t.lo
 hi:Qb t.hi
theorem Q0z (x y:Int):-1<=No x y/\No x y<=1:=by unfold No; split <;> (try split) <;> omega
theorem I5 (a b:Rat):-1<=G7 a b/\G7 a b<=1:=Q0z _ _
theorem Ik (p:List Int) (q:Rat):-1<=G8 p q/\G8 p q<=1:=Q0z _ _
theorem Qx0 (p:List Int) (q:Rat):-1<=low p q/\low p q<=1:=by unfold low; split <;> exact Ik _ _
theorem Qb.s31 {q:Rat} (h:Qb q):Qs 2147483647 q:=h.mono (by decide)
theorem Qb.s32 {q:Rat} (h:Qb q):Qs 4294967295 q:=h.mono (by decide)
theorem Qh8 {p:List Int} {q:Rat} (hp:Pb p) (hq:Qb q):Uu Tryz.prog 211 [pr p,.agg (rl q)] [.one (.int .i64 (G8 p q))]:=by
 have hm:p.length*(16777216+1)<=64*16777217:=Q0 _ hp.l;exact Qz2 hp.t hp.ln hp.b hq (by omega)
theorem Zms {p:List Int} {q:Rat} (hp:Pb p) (hq:Qb q):Uu Tryz.prog 211 [pr (Gg p),.agg (rl q)] [.one (.int .i64 (G8 (Gg p) q))]:=by
 have hl:=Qc (Pp p) (show p.length-1<=64 by have:=hp.l; omega);have hm:(Gg p).length*(16777216+1)<=64*16777217:=Q0 _ hl;exact Qz2 (Fu _ _) (Zw hl (by omega)) (Qim (t:=6) hp.b hp.l) hq (by omega)
theorem C4 {t:Tm} (ht:Tb t):Uu Tryz.prog 157 [.agg (ta t)] [.one (.bool t.point)] :=
 w tt Tryz.func157 rfl [.c [] (Lo ht.lo.s31 ht.hi.s31)] rfl rfl trivial
theorem Qio {t:Tm} (ht:Tb t):Uu Tryz.prog 156 [.agg (ta t)] [.agg (ta t)] :=
 w tt Tryz.func156 rfl [.c [] (Ho ht.p.t ht.p.ln ht.p.bd),.c [] (Er ht.lo.s32),.c [] (Er ht.hi.s32)] rfl rfl trivial
theorem Q78 {t:Tm} (ht:Tb t):Uu Tryz.prog 151 [.agg (ta t)] [.agg (ta t)]:=w tt Tryz.func151 rfl [.c [] (Qio ht)] rfl rfl trivial
theorem Q7p {p:List Int} {q:Rat} (hp:Pb p) (hq:Qb q):Uu Tryz.prog 212 [pr p,.agg (rl q)] [.one (.int .i64 (low p q))]:=by
 unfold low;by_cases h:G8 p q=0
 ·rw [if_neg (by simpa using h)];exact w tt Tryz.func212 rfl [.c [] (Qh8 hp hq),.f (by simpa using h),.c [] (Aw hp.ln hp.bd),.c [] (Zms hp hq)] rfl rfl trivial
 ·rw [if_pos h];exact w tt Tryz.func212 rfl [.c [] (Qh8 hp hq),.t (by simpa using h)] rfl rfl trivial
theorem Q7m {p:List Int} {lo hi:Rat} (hp:Pb p) (hl:Qb lo) (hh:Qb hi):Uu Tryz.prog 162 [pr p,.agg (rl lo),.agg (rl hi)] [.one (.bool (Qeb p lo hi))]:=by
 by_cases h:G8 p hi=0
 ·exact w tt Tryz.func162 rfl [.c [] (Qh8 hp hh),.t (by simpa using h)] rfl (by simp [Qeb,h]) trivial
 ·exact w tt Tryz.func162 rfl [.c [] (Qh8 hp hh),.f (by simpa using h),.c [] (Q7p hp hl)] rfl (by simp [Qeb,h]) trivial
theorem Qft {t:Tm} {q:Rat} (ht:Tb t) (hq:Qb q):Uu Tryz.prog 158 [.agg (ta t),.agg (rl q)] [.one (.int .i64 (Ff t q))]:=by
 have cp:=C4 ht;unfold Ff;by_cases h1:t.point=true
 ·rw [if_pos h1];exact w tt Tryz.func158 rfl [.c [] cp,.t h1,.c [] (Lo ht.lo.s31 hq.s31)] rfl rfl trivial
 rw [if_neg h1];have h1:t.point=false:=by simpa using h1
 have c1:=Lo hq.s31 ht.lo.s31;have c2:=Lo hq.s31 ht.hi.s31;by_cases h2:G7 q t.lo<=0
 ·rw [if_pos h2];exact w tt Tryz.func158 rfl [.c [] cp,.f h1,.c [] c1,.t (by simpa using h2)] rfl rfl trivial
 rw [if_neg h2];by_cases h3:0<G7 q t.hi
 ·rw [if_pos h3];exact w tt Tryz.func158 rfl [.c [] cp,.f h1,.c [] c1,.f (by simpa using h2),.c [] c2,.t (by simpa using h3)] rfl rfl trivial
 rw [if_neg h3];by_cases h4:G8 t.p q=0
 ·rw [if_pos h4];exact w tt Tryz.func158 rfl [.c [] cp,.f h1,.c [] c1,.f (by simpa using h2),.c [] c2,.f (by simpa using h3),.c [] (Qh8 ht.p hq),.t (by simpa using h4)] rfl rfl trivial
 rw [if_neg h4];by_cases h5:G8 t.p q=low t.p t.lo
 ·rw [if_pos h5];exact w tt Tryz.func158 rfl [.c [] cp,.f h1,.c [] c1,.f (by simpa using h2),.c [] c2,.f (by simpa using h3),.c [] (Qh8 ht.p hq),.f (by simpa using h4),.c [] (Q7p ht.p ht.lo),.t (by simpa using h5)] rfl rfl trivial
 ·rw [if_neg h5];exact w tt Tryz.func158 rfl [.c [] cp,.f h1,.c [] c1,.f (by simpa using h2),.c [] c2,.f (by simpa using h3),.c [] (Qh8 ht.p hq),.f (by simpa using h4),.c [] (Q7p ht.p ht.lo),.f (by simpa using h5)] rfl rfl trivial
theorem Zeu (t:Tm) (q:Rat):-1<=Ff t q/\Ff t q<=1:=by
 unfold Ff;have:=I5 t.lo q
 repeat' split
 all_goals omega
theorem Ze2 (q:Rat):0<(q.den:Int):=by have:=q.den_pos; omega
theorem Zhx {a b:Rat} (ha:Qb a) (hb:Qb b):Uu Tryz.prog 273 [.agg (rl a),.agg (rl b)] [.agg (rl (mid a b))]:=by
 have h1:U6 (a.num*(b.den:Int))<=33554432:=Qc (Fo _ _) (by have:=ha.1; have:=hb.2; omega);have h2:U6 (b.num*(a.den:Int))<=33554432:=Qc (Fo _ _) (by have:=hb.1; have:=ha.2; omega);have h3:U6 ((a.den:Int)*(b.den:Int))<=33554432:=Qc (Fo _ _) (by have:=ha.2; have:=hb.2; omega);have h4:U6 (2:Int)<=2:=by decide
 have h5:U6 (a.num*(b.den:Int)+b.num*(a.den:Int))<=33554433:=Qc (Qbu _ _) (by omega);have h6:U6 ((a.den:Int)*(b.den:Int)*2)<=33554434:=Qc (Fo _ _) (by omega);have h0:(a.den:Int)*(b.den:Int)*2≠0:=by
  have:=Int.mul_pos (Ze2 a) (Ze2 b); omega
 exact w tt Tryz.func273 rfl [.c [] (Qpz ha.s31 hb.s31),.c [] (Qcx (Uv _) (Uv _) (by omega) (by omega)),.c [] (Qwp (z:=2) (by decide)),.c [] (Ad (Uv _) (Uv _) (by omega) (by omega)),.c [] (Qaa h0 (by omega) (by omega))] rfl rfl trivial
theorem Qp3 {a b:Rat} (ha:Qb a) (hb:Qb b):Uu Tryz.prog 217 [.agg (rl a),.agg (rl b)] [.agg (rl (Qmc a b))]:=by
 have h1:U6 (a.num*(b.den:Int))<=33554432:=Qc (Fo _ _) (by have:=ha.1; have:=hb.2; omega);have h2:U6 (b.num*(a.den:Int))<=33554432:=Qc (Fo _ _) (by have:=hb.1; have:=ha.2; omega);have h3:U6 ((a.den:Int)*(b.den:Int))<=33554432:=Qc (Fo _ _) (by have:=ha.2; have:=hb.2; omega);have h5:U6 (a.num*(b.den:Int)-b.num*(a.den:Int))<=33554433:=Qc (Qqt _ _) (by omega);have h0:(a.den:Int)*(b.den:Int)≠0:=by
  have:=Int.mul_pos (Ze2 a) (Ze2 b); omega
 exact w tt Tryz.func217 rfl [.c [] (Qpz ha.s31 hb.s31),.c [] (Q7f (Uv _) (Uv _) (by omega) (by omega)),.c [] (Qaa h0 (by omega) (by omega))] rfl rfl trivial
theorem Qj9 {q r:Rat} (h:chq q=some r):r=q/\Qb q:=by
 unfold chq at h
 split at h
 ·rename_i hc; injection h with h; exact ⟨h.symm,hc⟩
 ·cases h
theorem Qwv {t u:Tm} (ht:Tb t) (h:Qqm t=some u):Uu Tryz.prog 218 [.agg (ta t)] [.agg (ta u)]:=by
 have cp:=C4 ht;unfold Qqm at h
 split at h
 ·rename_i h1;injection h with h; subst h;exact w tt Tryz.func218 rfl [.c [] cp,.t h1] rfl rfl trivial
 ·rename_i h1;have h1:t.point=false:=by simpa using h1
  obtain ⟨m,hm0,h⟩:=Qf.1 h;obtain ⟨rfl,hm⟩:=Qj9 hm0;injection h with h;subst h;have cm:=Zhx ht.lo ht.hi;have cc:=Qft ht hm;by_cases h2:Ff t (mid t.lo t.hi)=0
  ·rw [if_pos h2];exact w tt Tryz.func218 rfl [.c [] cp,.f h1,.c [] cm,.c [] cc,.t (by simpa using h2)] rfl rfl trivial
  rw [if_neg h2];by_cases h3:Ff t (mid t.lo t.hi)=-1
  ·rw [if_pos h3];exact w tt Tryz.func218 rfl [.c [] cp,.f h1,.c [] cm,.c [] cc,.f (by simpa using h2),.t (by simpa using h3)] rfl rfl trivial
  ·rw [if_neg h3];exact w tt Tryz.func218 rfl [.c [] cp,.f h1,.c [] cm,.c [] cc,.f (by simpa using h2),.f (by simpa using h3)] rfl rfl trivial
theorem Qrz {t u:Tm} (ht:Tb t) (h:Qqm t=some u):Tb u:=by
 unfold Qqm at h
 split at h
 ·injection h with h; subst h; exact ht
 ·obtain ⟨m,hm0,h⟩:=Qf.1 h;obtain ⟨rfl,hm⟩:=Qj9 hm0;injection h with h;subst h
  repeat' split
  ·exact ⟨ht.p,hm,hm⟩
  ·exact ⟨ht.p,ht.lo,hm⟩
  ·exact ⟨ht.p,hm,ht.hi⟩
theorem Iz {z:Int} (h:U6 z<=4294967296):Uu Tryz.prog 270 [.one (mg z)] [.one (.int .i64 (U6 z:Int))]:=by
 have h1:=Qwk (l:=Fh z.natAbs) (De _) (by rw [Gi]; exact h);rw [Gi] at h1; exact h1
theorem Ql5 {p:List Int} {i:Nat} {z:Int} (h:p[i]? = some z):Gw (p.take (i+1))=max (Gw (p.take i)) (U6 z):=by
 unfold Gw; rw [List.take_succ,h,Option.toList_some,List.foldl_append]; rfl
theorem Pw {p:List Int} {s:Nat} (h:Bd s p):∀ i,Gw (p.take i)<=s
 | 0=>by simp [Gw]
 |
  i+1=>by
  cases hz:p[i]? with
  |
   none =>
   rw [Ql (by have:=Jl.1 hz; omega),<-Ql (l:=p) (i:=i) (by have:=Jl.1 hz; omega)];exact Pw h i
  | some z=>rw [Ql5 hz]; have:=Pw h i; have:=Q6g h hz; omega
theorem Qp5 {p:List Int} (hp:Pb p):Uu Tryz.prog 271 [pr p] [.one (.int .i64 (Gw p:Int))]:=by
 have hl:=hp.l;refine Gs Tryz.func271 rfl ?_;refine go tt [] rfl trivial ?_;refine lp (S:=Nat) 0 (λL1 i=>(8,.v (.one (.int .i64 (i:Int))))::(3,.v (.one (.int .i64 (Gw (p.take i):Int))))::L1) (λ_=>[]) (λi=>p.length-i) (λi=>i<=p.length) 0 (Qh _) rfl (λ_ _=>rfl) rfl λi hi=>?_
 by_cases hlt:i<p.length
 ·have hg:=H6 hlt;have hz:=U9 hp.b i;have hs:=Ql5 hg;refine go tt [.t (by simp; omega),.x (Sw hg),.c [] (Iz (by omega)),.r 16 (eI (b:=(Gw (p.take (i+1)):Int)) (by rw [hs]; omega))] rfl (by simp [Us]; omega) ?_;exact rd (i+1) (by omega) hlt rfl
 ·obtain rfl:i=p.length:=by omega
  rw [Qy];exact en tt [.f (by simp)] rfl rfl trivial
theorem Zeq {a:Tm} {b:Tm} (ha:Tb a) (hb:Tb b):Uu Tryz.prog 216 [.agg (ta a),.agg (ta b)] [.one (.int .i64 (Ph a b:Nat))]:=by
 have l1:=ha.p.l;have l2:=hb.p.l;have b1:=ha.lo.1;have b2:=ha.hi.1;have b3:=hb.lo.1;have b4:=hb.hi.1;have s1:Gw a.p<=16777216:=by have:=Pw ha.p.b a.p.length; rwa [Qy] at this
 have s2:Gw b.p<=16777216:=by have:=Pw hb.p.b b.p.length; rwa [Qy] at this
 obtain ⟨N,hN⟩:=nmE (4*(a.p.length+b.p.length));obtain ⟨S,hS⟩:=nmE (Gw a.p+Gw b.p+(a.p.length+b.p.length)+8);have hNS:N*S<=512*33554568:=Zh (by omega) (by omega);have h0:(N:Int)*(S:Int)=((N*S:Nat):Int):=(Vl _ _).symm;have hst:Ph a b=64+2*(U6 a.lo.num+U6 a.hi.num+U6 b.lo.num+U6 b.hi.num)+N*S:=by rw [hN,hS]; rfl
 rw [hst];exact w tt Tryz.func216 rfl [.c [] (Iz (z:=a.lo.num) (by omega)),.c [] (Iz (z:=a.hi.num) (by omega)),.c [] (Iz (z:=b.lo.num) (by omega)),.c [] (Iz (z:=b.hi.num) (by omega)),.r 41 (eI (b:=(N:Int)) (by rw [hN]; simp)),.c [] (Qp5 ha.p),.c [] (Qp5 hb.p),.r 51 (eI (b:=(S:Int)) (by rw [hS]; simp)),.r 52 (eI (b:=((N*S:Nat):Int)) h0)] rfl (by simp) (by rw [h0]; simp [Us]; omega)
def Qza (p:List Int) (a:Tm):Nat:=64+2*(U6 a.lo.num+U6 a.hi.num)+4*(a.p.length+p.length)*(Gw a.p+Gw p+(a.p.length+p.length)+8)
theorem Qzw:Uu Tryz.prog 270 [lr []] [.one (.int .i64 0)]:=Qwk (l:=[]) (by simp [Sm]) (by decide)
theorem Q77 {a:Tm} {p:List Int} (ha:Tb a) (hp:Pb p):Uu Tryz.prog 216 [.agg (ta a),.agg ([pl p,.bool false,.row [],.bool false,.row [],.bool false,.row [],.bool false,.row []])] [.one (.int .i64 (Qza p a:Nat))]:=by
 have l1:=ha.p.l;have l2:=hp.l;have b1:=ha.lo.1;have b2:=ha.hi.1;have s1:Gw a.p<=16777216:=by have:=Pw ha.p.b a.p.length; rwa [Qy] at this
 have s2:Gw p<=16777216:=by have:=Pw hp.b p.length; rwa [Qy] at this
 obtain ⟨N,hN⟩:=nmE (4*(a.p.length+p.length));obtain ⟨S,hS⟩:=nmE (Gw a.p+Gw p+(a.p.length+p.length)+8);have hNS:N*S<=512*33554568:=Zh (by omega) (by omega);have h0:(N:Int)*(S:Int)=((N*S:Nat):Int):=(Vl _ _).symm;have hst:Qza p a=64+2*(U6 a.lo.num+U6 a.hi.num)+N*S:=by rw [hN,hS]; rfl
 rw [hst];exact w tt Tryz.func216 rfl [.c [] (Iz (z:=a.lo.num) (by omega)),.c [] (Iz (z:=a.hi.num) (by omega)),.c [] Qzw,.c [] Qzw,.r 41 (eI (b:=(N:Int)) (by rw [hN]; simp)),.c [] (Qp5 ha.p),.c [] (Qp5 hp),.r 51 (eI (b:=(S:Int)) (by rw [hS]; simp)),.r 52 (eI (b:=((N*S:Nat):Int)) h0)] rfl (by simp) (by rw [h0]; simp [Us]; omega)
def tst (sg:List Int->Int) (l:List (List Int)) (i:Nat):Nat×Int:=(l.take i).foldl (S4 sg) (0,0)
theorem Qr3 {sg:List Int->Int} (hs:∀ p,-1<=sg p/\sg p<=1) (l:List (List Int)):∀ i,(tst sg l i).1<=i/\-1<=(tst sg l i).2/\(tst sg l i).2<=1
 | 0=>⟨Qm _,show (-1:Int)<=0 by decide,show (0:Int)<=1 by decide⟩
 |
  i+1=>by
  obtain ⟨h1,h2,h3⟩:=Qr3 hs l i;cases h:l[i]? with
  |
   none =>
   have:tst sg l (i+1)=tst sg l i:=by unfold tst; rw [List.take_of_length_le (by have:=List.getElem?_eq_none_iff.1 h; omega),List.take_of_length_le (List.getElem?_eq_none_iff.1 h)]
   rw [this]; omega
  |
   some p =>
   have:tst sg l (i+1)=S4 sg (tst sg l i) p:=Rt _ _ _ h;rw [this];have:=hs p;unfold S4
   split
   ·omega
   ·dsimp only; split <;> omega
theorem Zer {l:List (List Int)} {fid:Nat} {l1:List LV} {sg:List Int->Int} (hl:l.length≤1000) (hs:∀ p,-1≤sg p/\sg p≤1) (h:∀ p∈l,Uu Tryz.prog fid [pr p,.one (.sh l1)] [.one (.int .i64 (sg p))]):Uu Tryz.prog 334 [.one (.sh [.row (Si l)]),.one (.fn fid [] [.sh l1])] [.one (.int .i64 (Bn sg l:Nat))]:=by
 have By:=Lh l;refine Gs Tryz.func334 rfl ?_;refine go tt [] rfl trivial ?_;refine lp (S:=Nat) 0 (λL1 i=>(15,.v (.one (.int .i64 (i:Int))))::(5,.v (.one (.int .i64 ((tst sg l i).1:Int))))::(6,.v (.one (.int .i64 (tst sg l i).2)))::L1) (λ_=>[]) (λi=>l.length-i) (λi=>i<=l.length) 0 (Qh _) rfl (λ_ _=>rfl) rfl λi hi=>?_
 by_cases hlt:i<l.length
 ·obtain ⟨p,hp⟩:=gxE (l:=l) (i:=i) hlt;have hst:tst sg l (i+1)=S4 sg (tst sg l i) p:=Rt _ _ _ hp;obtain ⟨b1,b2,b3⟩:=Qr3 hs l i;have b4:=hs p;by_cases h0:sg p=0
  ·refine go tt [.t (by simp [By]; omega),.x (Ra hp),.c [] (h p (Qa hp)),.t (by simpa using h0)] rfl (by simp [Us]; omega) ?_;exact rd (i+1) (by omega) hlt (by rw [hst,show S4 sg (tst sg l i) p=tst sg l i from by unfold S4; rw [if_pos h0]]; rfl)
  ·by_cases h1:(tst sg l i).2=-(sg p)
   ·refine go tt [.t (by simp [By]; omega),.x (Ra hp),.c [] (h p (Qa hp)),.f (by simpa using h0),.t (by simpa using h1)] rfl (by simp [Us]; omega) ?_;exact rd (i+1) (by omega) hlt (by rw [hst,show S4 sg (tst sg l i) p=((tst sg l i).1+1,sg p) from by unfold S4; rw [if_neg h0,if_pos h1]]; rfl)
   ·refine go tt [.t (by simp [By]; omega),.x (Ra hp),.c [] (h p (Qa hp)),.f (by simpa using h0),.f (by simpa using h1)] rfl (by simp [Us]; omega) ?_;exact rd (i+1) (by omega) hlt (by rw [hst,show S4 sg (tst sg l i) p=((tst sg l i).1,sg p) from by unfold S4; rw [if_neg h0,if_neg h1]]; rfl)
 ·obtain rfl:i=l.length:=by omega
  refine en tt [.f (by simp [By])] rfl ?_ trivial;unfold tst Bn; rw [List.take_length]
theorem Q7d {p:List Int} {q:Rat} (hp:Pb p) (hq:Qb q):Uu Tryz.prog 335 [pr p,.one (.sh (rl q))] [.one (.int .i64 (G8 p q))]:=w tt Tryz.func335 rfl [.c [] (Qh8 hp hq)] rfl rfl trivial
theorem Qz7 {l:List (List Int)} {q:Rat} (hl:l.length≤1000) (hp:∀ p∈l,Pb p) (hq:Qb q):Uu Tryz.prog 311 [.one (.sh [.row (Si l)]),.agg (rl q)] [.one (.int .i64 (Bp l q:Nat))] :=
 w tt Tryz.func311 rfl [.c [] (Zer (fid:=335) (l1:=rl q) (sg:=λp=>G8 p q) hl (λp=>Ik p q) λp h=>Q7d (hp p h) hq)] rfl rfl trivial
theorem Df {sg:List Int->Int} (hs:∀ p,-1<=sg p/\sg p<=1) (l:List (List Int)):Bn sg l<=l.length:=by
 have:=(Qr3 hs l l.length).1;unfold tst at this; rwa [List.take_length] at this
theorem Qm8 {l:List (List Int)} {lo hi:Rat} (hl:l.length≤1000) (hp:∀ p∈l,Pb p) (ql:Qb lo) (qh:Qb hi):Uu Tryz.prog 276 [.one (.sh [.row (Si l)]),.agg (rl lo),.agg (rl hi)] [.one (.int .i64 (Rz l lo hi))]:=by
 have b1:Bp l lo<=l.length:=Df (λp=>Ik p lo) l;have b2:Bp l hi<=l.length:=Df (λp=>Ik p hi) l;have c1:=Lo qh.s31 ql.s31;unfold Rz;by_cases h:G7 hi lo<0
 ·rw [if_pos h];exact w tt Tryz.func276 rfl [.c [] c1,.t (by simpa using h)] rfl rfl trivial
 ·rw [if_neg h];exact w tt Tryz.func276 rfl [.c [] c1,.f (by simpa using h),.c [] (Qz7 hl hp ql),.c [] (Qz7 hl hp qh)] rfl rfl (by simp [Us]; omega)
def zTm:List LV:=[.nils,.bool false,.nils,.bool false,.nils,.bool false,.nils,.bool false,.nils]
theorem Q5l {a b:Tm} (ha:Tb a) (hb:Tb b):Ph a b<=17179938816+200000000:=by
 have l1:=ha.p.l;have l2:=hb.p.l;have b1:=ha.lo.1;have b2:=ha.hi.1;have b3:=hb.lo.1;have b4:=hb.hi.1;have s1:Gw a.p<=16777216:=by have:=Pw ha.p.b a.p.length; rwa [Qy] at this
 have s2:Gw b.p<=16777216:=by have:=Pw hb.p.b b.p.length; rwa [Qy] at this
 have:4*(a.p.length+b.p.length)*(Gw a.p+Gw b.p+(a.p.length+b.p.length)+8)<=512*33554568:=Zh (by omega) (by omega);unfold Ph; omega
theorem Zgl {a b:Rat} (ha:Qb a) (hb:Qb b):Qs 2147483647 (Qmc a b):=by
 have h1:U6 (a.num*(b.den:Int))<=33554432:=Qc (Fo _ _) (by have:=ha.1; have:=hb.2; omega);have h2:U6 (b.num*(a.den:Int))<=33554432:=Qc (Fo _ _) (by have:=hb.1; have:=ha.2; omega);have h3:U6 ((a.den:Int)*(b.den:Int))<=33554432:=Qc (Fo _ _) (by have:=ha.2; have:=hb.2; omega);have h5:U6 (a.num*(b.den:Int)-b.num*(a.den:Int))<=33554433:=Qc (Qqt _ _) (by omega);exact (Qs.divInt (s:=33554433) h5 (by omega) (by omega)).mono (by omega)
theorem Qpw {a b:Tm} {r:Tm×Tm×Int} (ha:Tb a) (hb:Tb b) (h:apF (Ph a b) a b=some r):Uu Tryz.prog 163 [.agg (ta a),.agg (ta b)] [.agg (ta r.1),.agg (ta r.2.1),.one (.int .i64 r.2.2)]:=by
 have hsb:=Q5l ha hb;refine Gs Tryz.func163 rfl ?_;refine go tt [.c [] (Zeq ha hb)] rfl trivial ?_;obtain ⟨n,hn⟩:=nmE (Ph a b);rw [<-hn] at h hsb ⊢;refine sb [(10,.v (.one (.int .i64 0))),(9,.v (.one (.int .i64 (n:Int)))),(5,.v (.one (.ow 3 0))),(4,.v (.one (.ow 2 0))),(3,.v (.one (.ow 1 0))),(2,.v (.one (.ow 0 0)))] [.blk 74 (ta a),.blk 74 (ta b),.blk 74 zTm,.blk 74 zTm] rfl rfl ?_;refine lp (S:=Nat×Tm×Tm) 4 (λL1 s=>(10,.v (.one (.int .i64 (s.1:Int))))::L1) (λs=>[.blk 74 (ta s.2.1),.blk 74 (ta s.2.2),.blk 74 zTm,.blk 74 zTm]) (λs=>n-s.1) (λs=>s.1<=n/\Tb s.2.1/\Tb s.2.2/\apF (n-s.1) s.2.1 s.2.2=some r) (0,a,b) ⟨Qh _,ha,hb,h⟩ rfl (λ_ _=>rfl) rfl λ⟨i,u,v⟩ ⟨j1,j2,j3,j4⟩=>?_
 dsimp only at j1 j2 j3 j4 ⊢;by_cases hi:i<n
 ·obtain ⟨k,hk⟩:∃ k,n-i=k+1:=⟨n-i-1,by omega⟩;have hk':n-(i+1)=k:=by omega
  rw [hk] at j4;have c1:=Lo j2.hi.s31 j3.lo.s31;have c2:=Lo j3.hi.s31 j2.lo.s31;have pu:=C4 j2;have pv:=C4 j3;have hlt:decide ((i:Int)<(n:Int))=true:=by simp; omega
  simp only [apF] at j4;refine go tt [.t hlt] rfl trivial ?_;refine ct 3 (S:=Unit) (λ_=>[(10,.v (.one (.int .i64 (i:Int)))),(9,.v (.one (.int .i64 (n:Int)))),(5,.v (.one (.ow 3 0))),(4,.v (.one (.ow 2 0))),(3,.v (.one (.ow 1 0))),(2,.v (.one (.ow 0 0)))]) (λ_=>[.blk 74 (ta u),.blk 74 (ta v),.blk 74 zTm,.blk 74 zTm]) (λ_=>¬C0 u v=true/\¬C0 v u=true) rfl ?_ ?_
  ·have bA:C0 u v=(decide (G7 u.hi v.lo<=0) && !(u.point && v.point && decide (G7 u.hi v.lo=0))):=by
    unfold C0; cases u.point <;> cases v.point <;> simp
   have bB:C0 v u=(decide (G7 v.hi u.lo<=0) && !(u.point && v.point && decide (G7 v.hi u.lo=0))):=by
    unfold C0; cases u.point <;> cases v.point <;> simp
   obtain ⟨a0,A'⟩:∃ b,decide (G7 u.hi v.lo<=0)=b:=⟨_,rfl⟩;obtain ⟨b0,B'⟩:∃ b,decide (G7 v.hi u.lo<=0)=b:=⟨_,rfl⟩;obtain ⟨p0,P'⟩:∃ b,u.point=b:=⟨_,rfl⟩;obtain ⟨q0,Q'⟩:∃ b,v.point=b:=⟨_,rfl⟩;obtain ⟨x0,X'⟩:∃ b,decide (G7 u.hi v.lo=0)=b:=⟨_,rfl⟩;obtain ⟨y0,Y'⟩:∃ b,decide (G7 v.hi u.lo=0)=b:=⟨_,rfl⟩;rw [A',P',Q',X'] at bA;rw [B',P',Q',Y'] at bB;have r1:C0 u v=true->(u,v,-1)=r:=λh=>by rw [if_pos h] at j4; injection j4
   have r2:¬C0 u v=true->C0 v u=true->(u,v,1)=r:=λh h'=>by rw [if_neg h,if_pos h'] at j4; injection j4
   clear j4;cases a0
   ·cases b0
    ·exact go tt [.c [] c1,.g 19 false A',.f rfl,.c [] c2,.g 45 false B',.f rfl] rfl trivial (rc () ⟨by rw [bA]; simp,by rw [bB]; simp⟩ rfl)
    ·cases p0
     ·obtain rfl:=r2 (by rw [bA]; simp) (by rw [bB]; rfl);exact en tt [.c [] c1,.g 19 false A',.f rfl,.c [] c2,.g 45 true B',.c [] pu,.g 48 false P',.g 52 false rfl,.t rfl] rfl rfl trivial
     ·cases q0
      ·obtain rfl:=r2 (by rw [bA]; simp) (by rw [bB]; rfl);exact en tt [.c [] c1,.g 19 false A',.f rfl,.c [] c2,.g 45 true B',.c [] pu,.g 48 true P',.c [] pv,.g 52 false Q',.t rfl] rfl rfl trivial
      ·cases y0
       ·obtain rfl:=r2 (by rw [bA]; simp) (by rw [bB]; rfl);exact en tt [.c [] c1,.g 19 false A',.f rfl,.c [] c2,.g 45 true B',.c [] pu,.g 48 true P',.c [] pv,.g 52 true Q',.c [] c2,.t (by simpa using Y')] rfl rfl trivial
       ·exact go tt [.c [] c1,.g 19 false A',.f rfl,.c [] c2,.g 45 true B',.c [] pu,.g 48 true P',.c [] pv,.g 52 true Q',.c [] c2,.f (by simpa using Y')] rfl trivial (rc () ⟨by rw [bA]; simp,by rw [bB]; simp⟩ rfl)
   ·cases p0
    ·obtain rfl:=r1 (by rw [bA]; rfl);exact en tt [.c [] c1,.g 19 true A',.c [] pu,.g 22 false P',.g 26 false rfl,.t rfl] rfl rfl trivial
    ·cases q0
     ·obtain rfl:=r1 (by rw [bA]; rfl);exact en tt [.c [] c1,.g 19 true A',.c [] pu,.g 22 true P',.c [] pv,.g 26 false Q',.t rfl] rfl rfl trivial
     ·cases x0
      ·obtain rfl:=r1 (by rw [bA]; rfl);exact en tt [.c [] c1,.g 19 true A',.c [] pu,.g 22 true P',.c [] pv,.g 26 true Q',.c [] c1,.t (by simpa using X')] rfl rfl trivial
      ·cases b0
       ·exact go tt [.c [] c1,.g 19 true A',.c [] pu,.g 22 true P',.c [] pv,.g 26 true Q',.c [] c1,.f (by simpa using X'),.c [] c2,.g 45 false B',.f rfl] rfl trivial (rc () ⟨by rw [bA]; simp,by rw [bB]; simp⟩ rfl)
       ·cases y0
        ·obtain rfl:=r2 (by rw [bA]; simp) (by rw [bB]; rfl);exact en tt [.c [] c1,.g 19 true A',.c [] pu,.g 22 true P',.c [] pv,.g 26 true Q',.c [] c1,.f (by simpa using X'),.c [] c2,.g 45 true B',.c [] pu,.g 48 true P',.c [] pv,.g 52 true Q',.c [] c2,.t (by simpa using Y')] rfl rfl trivial
        ·exact go tt [.c [] c1,.g 19 true A',.c [] pu,.g 22 true P',.c [] pv,.g 26 true Q',.c [] c1,.f (by simpa using X'),.c [] c2,.g 45 true B',.c [] pu,.g 48 true P',.c [] pv,.g 52 true Q',.c [] c2,.f (by simpa using Y')] rfl trivial (rc () ⟨by rw [bA]; simp,by rw [bB]; simp⟩ rfl)
  ·rintro _ ⟨n1,n2⟩
   rw [if_neg n1,if_neg n2] at j4;have qr:∀ {x y:Rat},Qb x->Qb y->Qs 2147483647 (Qmc x y):=λh1 h2=>Zgl h1 h2
   have cc:=Lo (qr j2.hi j2.lo) (qr j3.hi j3.lo);by_cases D:0<=G7 (Qmc u.hi u.lo) (Qmc v.hi v.lo)
   ·rw [if_pos D] at j4;obtain ⟨x,x1,x2⟩:=Qf.1 j4;refine go tt [.c [] (Qp3 j2.hi j2.lo),.c [] (Qp3 j3.hi j3.lo),.c [] cc,.t (by simpa using D),.c [] (Qwv j2 x1)] rfl (by simp [Us]; omega) ?_;exact rd (i+1,x,v) (by dsimp only; omega) ⟨hi,Qrz j2 x1,j3,by dsimp only; rw [hk']; exact x2⟩ rfl
   ·rw [if_neg D] at j4;obtain ⟨x,x1,x2⟩:=Qf.1 j4;refine go tt [.c [] (Qp3 j2.hi j2.lo),.c [] (Qp3 j3.hi j3.lo),.c [] cc,.f (by simpa using D),.c [] (Qwv j3 x1)] rfl (by simp [Us]; omega) ?_;exact rd (i+1,u,x) (by dsimp only; omega) ⟨hi,j2,Qrz j3 x1,by dsimp only; rw [hk']; exact x2⟩ rfl
 ·obtain rfl:i=n:=by omega
  rw [Jq] at j4;simp only [apF] at j4;injection j4 with j4; subst j4;exact en tt [.f (by simp)] rfl rfl trivial
end Orr
