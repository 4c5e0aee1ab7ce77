/- R4 RefPL CrvL CrowdL PredL CertL Y1 Y2 Q1 C1 C2 D1 E1 AlgL F1 F2 F3 F4 -/
import Derived.Test.YtkkhemmhhedniaaGreatPart04
import Derived.Test.YtkkhemmhhedniaaGreatPart00
set_option linter.all false
namespace Orr
open Go Go.Proofs
set_option maxRecDepth 10000
theorem Zi8 {a b:Int} (h:(decide (a<0) == decide (b<0))=true):Fl (decide (a<0)) (a.natAbs+b.natAbs)=a+b:=by
 unfold Fl;by_cases h1:a<0 <;> by_cases h2:b<0 <;> simp [h1,h2] at h ⊢ <;> omega
theorem Zjb {a b:Int} (h:¬(decide (a<0) == decide (b<0))=true) (hl:b.natAbs<=a.natAbs):Fl (decide (a<0)) (a.natAbs-b.natAbs)=a+b:=by
 unfold Fl;by_cases h1:a<0 <;> by_cases h2:b<0 <;> simp [h1,h2] at h ⊢ <;> omega
theorem Zdy {a b:Int} (h:¬(decide (a<0) == decide (b<0))=true) (hl:¬b.natAbs<=a.natAbs):Fl (decide (b<0)) (b.natAbs-a.natAbs)=a+b:=by
 unfold Fl;by_cases h1:a<0 <;> by_cases h2:b<0 <;> simp [h1,h2] at h ⊢ <;> omega
theorem Qc4 (a:Int):(∃ m:Nat,a=(m:Int))\/∃ m:Nat,a=-(m:Int)/\0<m:=by
 rcases Wy a 0 with h | h
 ·exact .inr ⟨a.natAbs,by omega,by omega⟩
 ·exact .inl ⟨a.natAbs,by omega⟩
theorem Zja (a b:Int):Fl (!(decide (a<0) == decide (b<0))) (a.natAbs*b.natAbs)=a*b:=by
 rcases Qc4 a with ⟨m,rfl⟩ | ⟨m,rfl,hm⟩ <;> rcases Qc4 b with ⟨n,rfl⟩ | ⟨n,rfl,hn⟩
 ·simp [Fl,show ¬((m:Int)<0) by omega,show ¬((n:Int)<0) by omega]
 ·simp [Fl,show ¬((m:Int)<0) by omega,show (-(n:Int)<0) by omega,hn,Kx]
 ·simp [Fl,show (-(m:Int)<0) by omega,show ¬((n:Int)<0) by omega,hm,V1]
 ·simp [Fl,show (-(m:Int)<0) by omega,show (-(n:Int)<0) by omega,hm,hn,Ux]
theorem Zi9 {a b:Int} (h:a % b=0):Fl (!(decide (a<0) == decide (b<0))) (a.natAbs / b.natAbs)=a / b:=by
 by_cases hb:b=0
 ·subst hb; simp [Fl]
 obtain ⟨c,rfl⟩:=Yx h;rw [Xw _ hb,Jx,Nat.mul_div_cancel_left _ (by omega)];rcases Qc4 b with ⟨n,rfl⟩ | ⟨n,rfl,hn⟩ <;> rcases Qc4 c with ⟨m,rfl⟩ | ⟨m,rfl,hm⟩
 ·have:¬((n:Int)*(m:Int)<0):=by rw [<-Vs]; omega
  simp [Fl,this,show ¬((n:Int)<0) by omega]
 ·have h1:0<n*m:=Yl (by omega) hm;have:((n:Int)*-(m:Int)<0):=by rw [Kx,<-Vs]; omega
  simp only [this,show ¬((n:Int)<0) by omega];simp [Fl]
 ·by_cases h0:m=0
  ·subst h0; simp [Fl]
  ·have h1:0<n*m:=Yl hn (by omega);have:(-(n:Int)*(m:Int)<0):=by rw [V1,<-Vs]; omega
   simp only [this,show (-(n:Int)<0) by omega];simp [Fl]
 ·have:¬(-(n:Int)*-(m:Int)<0):=by rw [Ux,<-Vs]; omega
  simp only [this,show (-(n:Int)<0) by omega];simp [Fl]
theorem Zd4 (a b:Int):Int.sign (a-b)=B7 a b:=by
 unfold B7;rcases Yf a b with h | h | h
 ·rw [if_pos h,X4 (by omega)]
 ·rw [if_neg (by omega),if_neg (by omega),h,Int.sub_self]; rfl
 ·rw [if_neg (by omega),if_pos h,Jd (by omega)]
theorem Q2t {x y:Nat}:0<=Qa1 x y↔y<=x:=by
 unfold Qa1;constructor
 ·intro h; split at h
  ·omega
  ·omega
 ·intro h; split
  ·omega
  ·split <;> omega
theorem Qlc {x e:Nat} (h:(Gi x).length=1) (he:(Gi x)[0]? = some e):x=e:=by
 rcases hd:Gi x with _ | ⟨u,l⟩
 ·rw [hd] at h; cases h
 ·rcases l with _ | ⟨w,l⟩
  ·rw [hd] at he; simp at he;have:=Rv x;rw [hd] at this; simp [Tu] at this; omega
  ·rw [hd] at h; simp at h
theorem Qzf {a b:Int} (hb:0<b):ri (a / ((Int.gcd a b:Nat):Int))++ri (b / ((Int.gcd a b:Nat):Int))=fr (Rat.divInt a b):=by
 obtain ⟨h1,h2⟩:=Qsb (n:=a) hb;rw [Cd,Int.gcd_comm] at h1 h2;rw [h1,h2]
theorem Qzg (a:Int):ri a++ri 1=fr (Rat.divInt a 1):=by
 have h:=Qzf (a:=a) (b:=1) (by decide);rw [show ((Int.gcd a 1:Nat):Int)=1 by simp] at h;simpa using h
theorem Qo9 {a b:Int} (hb:b≠0) (ha2:Fq a<=90000000) (hb2:Fq b<=90000000):Fq ((Int.gcd a b:Nat):Int)<=90000000/\((Int.gcd a b:Nat):Int)≠0/\a % ((Int.gcd a b:Nat):Int)=0/\b % ((Int.gcd a b:Nat):Int)=0:=by
 have h1:=Q3l (n:=a) hb hb2;have h2:=Qvd (n:=a) hb;have h3:=Ql1 a b;have h4:=Ql2 a b;rw [Cd,Int.gcd_comm] at h1 h2 h3 h4;exact ⟨h1,by omega,h3,h4⟩
theorem Qp4 {a b:Int} (h:b<0):He a b=Rat.divInt (-a) (-b):=by
 unfold He; rw [if_neg (by omega)];exact (Rat.neg_divInt_neg a b).symm
theorem Qc2 {a b:Int} (h:0<b):He a b=Rat.divInt a b:=by
 unfold He; rw [if_neg (by omega)]
theorem Qn7 (a b:Rat):He (a.num*(b.den:Int)+b.num*(a.den:Int)) ((a.den:Int)*(b.den:Int))=a+b:=by
 unfold He;rw [if_neg (Jn (Be a) (Be b)),<-Rat.divInt_add_divInt _ _ (Be a) (Be b),Zv,Zv]
theorem Qpk (a b:Rat):He (a.num*b.num) ((a.den:Int)*(b.den:Int))=a*b:=by
 unfold He;rw [if_neg (Jn (Be a) (Be b)),<-Ws,Zv,Zv]
theorem Qp1 {a b:Rat} (h:b≠0):He (a.num*(b.den:Int)) ((a.den:Int)*b.num)=a / b:=by
 have hn:b.num≠0:=λe=>h (Rat.num_eq_zero.1 e)
 unfold He;rw [if_neg (Jn (Be a) hn),<-Ws,Zv,J8];congr 1
 conv=>rhs; rw [<-Zv b,Rat.inv_divInt]
theorem Zm9 {s:Nat} {a b:Rat} (ha:Qs s a) (hb:Qs s b):Qs (2*s+1) (a+b):=by
 rw [<-Qn7];unfold He;rw [if_neg (Jn (Be a) (Be b))];refine Qs.divInt (Qc (Qaf _ _) ?_) (Qc (Gd _ _) (by have:=ha.2; have:=hb.2; omega)) (by omega);have h1:=Gd a.num (b.den:Int);have h2:=Gd b.num (a.den:Int);have:=ha.1; have:=ha.2; have:=hb.1; have:=hb.2;omega
theorem Qgr {z:Int} (hz:Fq z<=100000000):Fa Tryz.prog 56 [.agg (Hn z)] [.agg (ri z)]:=by
 have hl:(Gf z.natAbs).length<=1099511627776:=by have h2:32*(Gf z.natAbs).length<=100000000+31:=Si hz; omega
 have h:=Zfw (l:=Gf z.natAbs) (λu hu=>(Dn _).1 u hu) hl (by rw [G5]; exact hz);rw [G5] at h;have hm:=An (decide (z<0)) z.natAbs;have e:Fl (decide (z<0)) z.natAbs=z:=by unfold Fl; by_cases h:z<0 <;> simp [h] <;> omega
 rw [e] at hm;exact w tt Tryz.func56 rfl [.c [] h,.c [] hm] rfl rfl trivial
theorem Q2b {z:Int}:Fa Tryz.prog 166 [.agg (ri z)] [.one (.int .i64 (Int.sign z))]:=by
 have hn:=Qex (x:=z.natAbs);have hl:=Qdy z.natAbs;rcases Yf z 0 with h | h | h
 ·rw [X4 h];exact w tt Tryz.func166 rfl [.f (by simp only [Tf]; exact decide_eq_false (by omega)),.t (decide_eq_true h)] rfl rfl trivial
 ·subst h;exact w tt Tryz.func166 rfl [.t (by simp only [Tf]; show decide (((Gi 0).length:Int)=0)=true; rw [Ht]; rfl)] rfl rfl trivial
 ·rw [Jd h];exact w tt Tryz.func166 rfl [.f (by simp only [Tf]; exact decide_eq_false (by omega)),.f (decide_eq_false (by omega))] rfl rfl trivial
theorem Qyl {a b:Int} (ha:Fq a<=200000000) (hb:Fq b<=200000000):Fa Tryz.prog 168 [.agg (ri a),.agg (ri b)] [.agg (ri (a+b))]:=by
 by_cases hs:(decide (a<0) == decide (b<0))=true
 ·have cm:=An (decide (a<0)) (a.natAbs+b.natAbs);rw [Zi8 hs] at cm;exact w tt Tryz.func168 rfl [.t hs,.c [] (Zln ha hb),.c [] cm] rfl rfl trivial
 ·have hs':(decide (a<0) == decide (b<0))=false:=by simpa using hs
  by_cases hl:b.natAbs<=a.natAbs
  ·have cm:=An (decide (a<0)) (a.natAbs-b.natAbs);rw [Zjb hs hl] at cm;exact w tt Tryz.func168 rfl [.f hs',.c [] (Qyb ha hb),.t (decide_eq_true (Q2t.2 hl)),.c [] (Qyk ha hb hl),.c [] cm] rfl rfl trivial
  ·have cm:=An (decide (b<0)) (b.natAbs-a.natAbs);rw [Zdy hs hl] at cm;exact w tt Tryz.func168 rfl [.f hs',.c [] (Qyb ha hb),.f (decide_eq_false λh=>hl (Q2t.1 h)),.c [] (Qyk hb ha (by omega)),.c [] cm] rfl rfl trivial
theorem Q9d {a b:Int} (ha:Fq a<=200000000) (hb:Fq b<=200000000):Fa Tryz.prog 170 [.agg (ri a),.agg (ri b)] [.agg (ri (a-b))]:=by
 have ca:=Qyl (a:=a) (b:=-b) ha (by rw [Hh]; exact hb);rw [show a+-b=a-b from by omega] at ca;exact w tt Tryz.func170 rfl [.c [] (Ot (z:=b)),.c [] ca] rfl rfl trivial
theorem Mq {a b:Int} (ha:Fq a<=200000000) (hb:Fq b<=200000000):Fa Tryz.prog 55 [.agg (ri a),.agg (ri b)] [.agg (ri (a*b))]:=by
 have cm:=An (!(decide (a<0) == decide (b<0))) (a.natAbs*b.natAbs);rw [Zja] at cm;exact w tt Tryz.func55 rfl [.c [] (Zls ha hb),.c [] cm] rfl rfl trivial
theorem Zlx {a b:Int} (ha:Fq a<=200000000) (hb:Fq b<=200000000):Fa Tryz.prog 96 [.agg (ri a),.agg (ri b)] [.one (.int .i64 (B7 a b))]:=by
 have h:=Q2b (z:=a-b);rw [Zd4] at h;exact w tt Tryz.func96 rfl [.c [] (Q9d ha hb),.c [] h] rfl rfl trivial
theorem Qgt {a b:Int} (ha:Fq a<=90000000) (hb:Fq b<=90000000) (h0:b≠0) (hd:a % b=0):Fa Tryz.prog 134 [.agg (ri a),.agg (ri b)] [.agg (ri (a / b))]:=by
 have cm:=An (!(decide (a<0) == decide (b<0))) (a.natAbs / b.natAbs);rw [Zi9 hd] at cm;exact w tt Tryz.func134 rfl [.c [] (Q8d ha hb (by omega)),.c [] cm] rfl rfl trivial
theorem Znc (x:Nat):ri ((x:Nat):Int)=[nd x,.bool false]:=by
 unfold ri sg;rw [Xc,decide_eq_false (by omega)]
theorem Qkx {a b:Int} (ha:Fq a<=90000000) (hb:Fq b<=90000000):Fa Tryz.prog 133 [.agg (ri a),.agg (ri b)] [.agg (ri ((Int.gcd a b:Nat):Int))]:=by
 rw [Znc];refine Hl Tryz.func133 rfl ?_;refine go tt [] rfl trivial ?_;refine lp (S:=Nat×Nat) 3 (λL1 s=>(5,.v (.one (nd s.1)))::(6,.v (.one (nd s.2)))::L1) (λ_=>[.blk 33 (ri a),.blk 33 (ri b),.blk 33 [.nils,.bool false]]) (λs=>s.2) (λs=>Nat.gcd s.1 s.2=Int.gcd a b/\sz s.1<=90000000/\sz s.2<=90000000) (a.natAbs,b.natAbs) ⟨rfl,ha,hb⟩ rfl (λ_ _=>rfl) rfl λs hs=>?_
 obtain ⟨x,y⟩:=s;obtain ⟨hp0,hp1,hp2⟩:=hs;dsimp only at hp0 hp1 hp2 ⊢;have hyn:=Qex (x:=y);have hyl:=Qdy y;by_cases h1:y=0
 ·have e:Int.gcd a b=x:=by rw [<-hp0,h1,Nat.gcd_zero_right]
  rw [e];exact en tt [.f (by simp only [Tf]; exact decide_eq_false (by omega))] rfl rfl trivial
 ·have hlt:=Xf x (show 0<y by omega);refine go tt [.t (by simp only [Tf]; exact decide_eq_true (by omega)),.c [] (Q8d hp1 hp2 (by omega))] rfl trivial ?_;exact rd (y,x % y) (by dsimp only; omega) ⟨by dsimp only; rw [<-hp0,Nat.gcd_comm x y,Nat.gcd_rec y x,Nat.gcd_comm],hp2,Nat.le_trans (Tr (by dsimp only; omega)) hp2⟩ rfl
theorem Qck {a b:Int} (ha:Fq a<=90000000) (hb:Fq b<=90000000):Fa Tryz.prog 68 [.agg (ri a),.agg (ri b)] [.agg (fr (He a b))]:=by
 rcases Yf b 0 with hs | hs | hs
 ·skip
  by_cases h1:-b=1
  ·have h0:(Bt (Gi (-b).natAbs))[0]? = some [LV.int .i64 1]:=by rw [h1,show (1:Int).natAbs=1 from rfl,Ay]; rfl
   have hl1:decide (((Bt (Gi (-b).natAbs)).length:Int)=1)=true:=by rw [h1,show (1:Int).natAbs=1 from rfl,Ay]; rfl
   have e:fr (He a b)=ri (-a)++ri (-b):=by rw [Qp4 hs,h1]; exact (Qzg _).symm
   rw [e];exact w tt Tryz.func68 rfl [.c [] (Nw (z:=b)),.f (decide_eq_false (by omega)),.t (decide_eq_true hs),.c [] (Ot (z:=a)),.c [] (Ot (z:=b)),.g 19 true hl1,.x h0,.t rfl] rfl rfl trivial
  ·have hgf:=Qo9 (a:=-a) (b:=-b) (by omega) (by first | exact ha | (rw [Hh]; exact ha)) (by first | exact hb | (rw [Hh]; exact hb));have cg:=Qkx (a:=-a) (b:=-b) (by first | exact ha | (rw [Hh]; exact ha)) (by first | exact hb | (rw [Hh]; exact hb));have q1:=Qgt (a:=-a) (b:=((Int.gcd (-a) (-b):Nat):Int)) (by first | exact ha | (rw [Hh]; exact ha)) hgf.1 hgf.2.1 hgf.2.2.1;have q2:=Qgt (a:=-b) (b:=((Int.gcd (-a) (-b):Nat):Int)) (by first | exact hb | (rw [Hh]; exact hb)) hgf.1 hgf.2.1 hgf.2.2.2;have e:fr (He a b)=ri ((-a) / ((Int.gcd (-a) (-b):Nat):Int))++ri ((-b) / ((Int.gcd (-a) (-b):Nat):Int)):=by rw [Qp4 hs]; exact (Qzf (by omega)).symm
   rw [e];have hl:=Qdy (-b).natAbs;by_cases hl1:(Gi (-b).natAbs).length=1
   ·obtain ⟨u,hu⟩:=gxE (l:=(Gi (-b).natAbs)) (i:=0) (by omega);have hue:=Qlc hl1 hu;exact w tt Tryz.func68 rfl [.c [] (Nw (z:=b)),.f (decide_eq_false (by omega)),.t (decide_eq_true hs),.c [] (Ot (z:=a)),.c [] (Ot (z:=b)),.g 19 true (by simp only [Tf]; exact decide_eq_true (by omega)),.x (G6 hu),.f (decide_eq_false (by omega)),.c [] cg,.c [] q1,.c [] q2] rfl rfl trivial
   ·exact w tt Tryz.func68 rfl [.c [] (Nw (z:=b)),.f (decide_eq_false (by omega)),.t (decide_eq_true hs),.c [] (Ot (z:=a)),.c [] (Ot (z:=b)),.g 19 false (by simp only [Tf]; exact decide_eq_false (by omega)),.f rfl,.c [] cg,.c [] q1,.c [] q2] rfl rfl trivial
 ·subst hs;have h0:(Bt (Gi (1:Int).natAbs))[0]? = some [LV.int .i64 1]:=by rw [show (1:Int).natAbs=1 from rfl,Ay]; rfl
  have h1:decide (((Bt (Gi (1:Int).natAbs)).length:Int)=1)=true:=by rw [show (1:Int).natAbs=1 from rfl,Ay]; rfl
  have e:fr (He a 0)=ri a++ri 1:=(Qzg a).symm;rw [e];exact w tt Tryz.func68 rfl [.c [] (Nw (z:=0)),.t rfl,.c [] (Lp (n:=1) (by decide)),.f rfl,.g 19 true h1,.x h0,.t rfl] rfl rfl trivial
 ·skip
  by_cases h1:b=1
  ·have h0:(Bt (Gi (b).natAbs))[0]? = some [LV.int .i64 1]:=by rw [h1,show (1:Int).natAbs=1 from rfl,Ay]; rfl
   have hl1:decide (((Bt (Gi (b).natAbs)).length:Int)=1)=true:=by rw [h1,show (1:Int).natAbs=1 from rfl,Ay]; rfl
   have e:fr (He a b)=ri (a)++ri (b):=by rw [Qc2 hs,h1]; exact (Qzg _).symm
   rw [e];exact w tt Tryz.func68 rfl [.c [] (Nw (z:=b)),.f (decide_eq_false (by omega)),.f (decide_eq_false (by omega)),.g 19 true hl1,.x h0,.t rfl] rfl rfl trivial
  ·have hgf:=Qo9 (a:=a) (b:=b) (by omega) (by first | exact ha | (rw [Hh]; exact ha)) (by first | exact hb | (rw [Hh]; exact hb));have cg:=Qkx (a:=a) (b:=b) (by first | exact ha | (rw [Hh]; exact ha)) (by first | exact hb | (rw [Hh]; exact hb));have q1:=Qgt (a:=a) (b:=((Int.gcd (a) (b):Nat):Int)) (by first | exact ha | (rw [Hh]; exact ha)) hgf.1 hgf.2.1 hgf.2.2.1;have q2:=Qgt (a:=b) (b:=((Int.gcd (a) (b):Nat):Int)) (by first | exact hb | (rw [Hh]; exact hb)) hgf.1 hgf.2.1 hgf.2.2.2;have e:fr (He a b)=ri ((a) / ((Int.gcd (a) (b):Nat):Int))++ri ((b) / ((Int.gcd (a) (b):Nat):Int)):=by rw [Qc2 hs]; exact (Qzf (by omega)).symm
   rw [e];have hl:=Qdy (b).natAbs;by_cases hl1:(Gi (b).natAbs).length=1
   ·obtain ⟨u,hu⟩:=gxE (l:=(Gi (b).natAbs)) (i:=0) (by omega);have hue:=Qlc hl1 hu;exact w tt Tryz.func68 rfl [.c [] (Nw (z:=b)),.f (decide_eq_false (by omega)),.f (decide_eq_false (by omega)),.g 19 true (by simp only [Tf]; exact decide_eq_true (by omega)),.x (G6 hu),.f (decide_eq_false (by omega)),.c [] cg,.c [] q1,.c [] q2] rfl rfl trivial
   ·exact w tt Tryz.func68 rfl [.c [] (Nw (z:=b)),.f (decide_eq_false (by omega)),.f (decide_eq_false (by omega)),.g 19 false (by simp only [Tf]; exact decide_eq_false (by omega)),.f rfl,.c [] cg,.c [] q1,.c [] q2] rfl rfl trivial
theorem Zj7 {n d:Int} (hn:-1000000000<=n/\n<=1000000000) (hd:-1000000000<=d/\d<=1000000000):Fa Tryz.prog 112 [.one (.int .i64 n),.one (.int .i64 d)] [.agg (fr (He n d))]:=by
 have b1:Fq n<=90000000:=Qc (Sl.2 (show n.natAbs<2^40 by omega)) (by decide);have b2:Fq d<=90000000:=Qc (Sl.2 (show d.natAbs<2^40 by omega)) (by decide);exact w tt Tryz.func112 rfl [.c [] (Lp (by omega)),.c [] (Lp (by omega)),.c [] (Qck b1 b2)] rfl rfl trivial
theorem Zlu {a:Rat}:Fa Tryz.prog 67 [.agg (fr a)] [.agg (fr (-a))]:=by
 have e:fr (-a)=ri (-a.num)++ri (a.den:Int):=rfl;rw [e];exact w tt Tryz.func67 rfl [.c [] (Ot (z:=a.num))] rfl rfl trivial
theorem Qx9 {a b:Rat} (ha:Qs 20000000 a) (hb:Qs 20000000 b):Fa Tryz.prog 169 [.agg (fr a),.agg (fr b)] [.agg (fr (a+b))]:=by
 have k1:=Gd a.num (b.den:Int);have k2:=Gd b.num (a.den:Int);have k3:=Gd (a.den:Int) (b.den:Int);have k4:=Qaf (a.num*(b.den:Int)) (b.num*(a.den:Int));have h1:=ha.1; have h2:=ha.2; have h3:=hb.1; have h4:=hb.2;have cm:=Qck (a:=a.num*(b.den:Int)+b.num*(a.den:Int)) (b:=(a.den:Int)*(b.den:Int)) (by omega) (by omega);rw [Qn7] at cm;exact w tt Tryz.func169 rfl [.c [] (Mq (a:=a.num) (b:=(b.den:Int)) (by omega) (by omega)),.c [] (Mq (a:=b.num) (b:=(a.den:Int)) (by omega) (by omega)),.c [] (Qyl (by omega) (by omega)),.c [] (Mq (a:=(a.den:Int)) (b:=(b.den:Int)) (by omega) (by omega)),.c [] cm] rfl rfl trivial
theorem Qyf {a b:Rat} (ha:Qs 40000000 a) (hb:Qs 40000000 b):Fa Tryz.prog 139 [.agg (fr a),.agg (fr b)] [.agg (fr (a*b))]:=by
 have k1:=Gd a.num b.num;have k3:=Gd (a.den:Int) (b.den:Int);have h1:=ha.1; have h2:=ha.2; have h3:=hb.1; have h4:=hb.2;have cm:=Qck (a:=a.num*b.num) (b:=(a.den:Int)*(b.den:Int)) (by omega) (by omega);rw [Qpk] at cm;exact w tt Tryz.func139 rfl [.c [] (Mq (a:=a.num) (b:=b.num) (by omega) (by omega)),.c [] (Mq (a:=(a.den:Int)) (b:=(b.den:Int)) (by omega) (by omega)),.c [] cm] rfl rfl trivial
theorem Qyh {a b:Rat} (ha:Qs 40000000 a) (hb:Qs 40000000 b) (h0:b≠0):Fa Tryz.prog 207 [.agg (fr a),.agg (fr b)] [.agg (fr (a / b))]:=by
 have k1:=Gd a.num (b.den:Int);have k3:=Gd (a.den:Int) b.num;have h1:=ha.1; have h2:=ha.2; have h3:=hb.1; have h4:=hb.2;have cm:=Qck (a:=a.num*(b.den:Int)) (b:=(a.den:Int)*b.num) (by omega) (by omega);rw [Qp1 h0] at cm;exact w tt Tryz.func207 rfl [.c [] (Mq (a:=a.num) (b:=(b.den:Int)) (by omega) (by omega)),.c [] (Mq (a:=(a.den:Int)) (b:=b.num) (by omega) (by omega)),.c [] cm] rfl rfl trivial
theorem L6 {a b:Rat} (ha:Qs 40000000 a) (hb:Qs 40000000 b):Fa Tryz.prog 30 [.agg (fr a),.agg (fr b)] [.one (.int .i64 (Gv a b))]:=by
 have k1:=Gd a.num (b.den:Int);have k2:=Gd b.num (a.den:Int);have h1:=ha.1; have h2:=ha.2; have h3:=hb.1; have h4:=hb.2;exact w tt Tryz.func30 rfl [.c [] (Mq (a:=a.num) (b:=(b.den:Int)) (by omega) (by omega)),.c [] (Mq (a:=b.num) (b:=(a.den:Int)) (by omega) (by omega)),.c [] (Zlx (a:=a.num*(b.den:Int)) (b:=b.num*(a.den:Int)) (by omega) (by omega))] rfl rfl trivial
end Orr
namespace Orr
def Dc:List Rat->List Rat
 | []=>[]
 |
  x::l=>match Dc l with
  | []=>if x=0 then [] else [x]
  | y::k=>x::y::k
theorem Qcb:∀ {l:List Rat},(∀ x∈l,x=0)->Dc l=[]
 | [],_=>rfl
 |
  x::l,h=>by
  have ih:=Qcb (l:=l) (λy hy=>h y (Qj _ hy));simp [Dc,ih,h x (Qw ..)]
theorem Qm9:∀ {l:List Rat} {m:Nat} {y:Rat},(∀ j x,m<j->l[j]? = some x->x=0)->l[m]? = some y->y≠0->Dc l=l.take (m+1)
 | [],m,y,_,h,_=>by simp at h
 |
  x::l,0,y,h1,h2,h3=>by
  have h0:Dc l=[]:=Qcb λz hz=>by
   obtain ⟨j,hj⟩:=Zf.1 hz;exact h1 (j+1) z (by omega) (by simpa using hj)
  simp at h2;subst h2;simp [Dc,h0,h3]
 |
  x::l,m+1,y,h1,h2,h3=>by
  have ih:=Qm9 (l:=l) (m:=m) (y:=y) (λj z hj hz=>h1 (j+1) z (by omega) (by simpa using hz)) (by simpa using h2) h3;cases hl:l with
  | nil=>subst hl; simp at h2
  |
   cons u k =>
   subst hl;rw [Yj] at ih;simp only [Dc] at ih ⊢;rw [ih];simp
theorem Qhz {l:List Rat} {m:Nat} (hm:m<=l.length) (h1:∀ j x,m<=j->l[j]? = some x->x=0) (h2:0<m->∃ y,l[m-1]? = some y/\y≠0):Dc l=l.take m:=by
 rcases Q0 m with h0 | h0
 ·subst h0;rw [Qcb λz hz=>?_]; rfl;obtain ⟨j,hj⟩:=Zf.1 hz;exact h1 j z (by omega) hj
 ·obtain ⟨y,hy,hy0⟩:=h2 h0;have:=Qm9 (l:=l) (m:=m-1) (y:=y) (λj x hj hx=>h1 j x (by omega) hx) hy hy0;rwa [show m-1+1=m from by omega] at this
theorem Qqc:∀ (l:List Rat),∀ z∈Dc l,z∈l
 | [],z,h=>h
 |
  x::l,z,h=>by
  simp only [Dc] at h;have ih:=Qqc l
  split at h
  ·split at h
   ·cases h
   ·simp at h; simp [h]
  ·rename_i y k e;rw [e] at ih;rcases Qm.1 h with h | h
   ·simp [h]
   ·exact Qj _ (ih z h)
theorem Qqb:∀ (l:List Rat),(Dc l).length<=l.length
 | []=>Ql _
 |
  x::l=>by
  have ih:=Qqb l;simp only [Dc]
  split
  ·split <;> simp
  ·rename_i y k e;rw [e] at ih;simp at ih ⊢; omega
def zp (p:List Int):List Rat:=p.map λ(z:Int)=>(z:Rat)
theorem C0:∀ (p:List Int),Dc (zp p)=zp (trim p)
 | []=>rfl
 |
  x::l=>by
  have ih:=C0 l;unfold zp at ih ⊢;simp only [Xb,Dc,trim,ih];cases h:trim l with
  |
   nil =>
   simp only [Jl];by_cases hx:x=0
   ·subst hx; simp
   ·have:(x:Rat)≠0:=λe=>hx (by exact_mod_cast e)
    simp [hx,this]
  | cons y k=>simp
theorem Pn (p:List Int):(zp p).length=p.length:=Q8 _
theorem Ze7 {p:List Int} {i:Nat} {z:Int} (h:p[i]? = some z):(zp p)[i]? = some (z:Rat):=by simp [zp,h]
theorem Qgi (p:List Int) (i:Nat):(zp p).getD i 0=((p.getD i 0:Int):Rat):=by
 simp only [Qe,zp,Zb];cases p[i]? <;> rfl
def Rb (s:Nat) (p:List Rat):Prop:=∀ q∈p,Qs s q
theorem Rb.mono {s t:Nat} {p:List Rat} (h:Rb s p) (ht:s<=t):Rb t p:=λq hq=>(h q hq).mono ht
theorem Rb.get {s:Nat} {p:List Rat} (h:Rb s p) {i:Nat} {q:Rat} (hq:p[i]? = some q):Qs s q:=h q (Qa hq)
theorem Ll {s:Nat} {z:Int} (h:Fq z<=s) (h1:1<=s):Qs s (z:Rat):=⟨by simpa using h,Qc (show Fq ((1:Nat):Int)<=1 by decide) h1⟩
theorem Qa0 {s:Nat} {p:List Int} (h:Bd s p) (h1:1<=s):Rb s (zp p):=λq hq=>by
 obtain ⟨z,hz,rfl⟩:=Zp.1 hq;exact Ll (h z hz) h1
theorem Zit {s:Nat} (h1:1<=s):Qs s 0:=Ll (z:=0) (by simp [Nn]) h1
theorem Rb.getD {s:Nat} {p:List Rat} (h:Rb s p) (h1:1<=s) (i:Nat):Qs s (p.getD i 0):=by
 rw [Qe];cases e:p[i]? with
 | none=>exact Zit h1
 | some q=>exact h.get e
theorem Rb.trim {s:Nat} {p:List Rat} (h:Rb s p):Rb s (Dc p):=λq hq=>h q (Qqc p q hq)
def Qa3 (f:Nat->Rat) (n:Nat):List Rat:=(List.range n).map f
theorem Qf6 (f:Nat->Rat) (n:Nat):(Qa3 f n).length=n:=by simp [Qa3]
theorem Qqj (f:Nat->Rat) (n:Nat):Qa3 f (n+1)=Qa3 f n++[f n]:=by simp [Qa3,W0]
theorem Zjj {s n:Nat} {f:Nat->Rat} (h:∀ i,i<n->Qs s (f i)):Rb s (Qa3 f n):=λq hq=>by
 obtain ⟨i,hi,rfl⟩:=Zp.1 hq;exact h i (Wh.1 hi)
theorem Qke {f:Nat->Rat} {g:Nat->Int} (n:Nat) (h:∀ i,i<n->f i=(g i:Rat)):Qa3 f n=zp ((List.range n).map g):=by
 simp only [Qa3,zp,List.map_map];exact Vn λi hi=>h i (Wh.1 hi)
def Q64 (p q:List Rat):List Rat:=Dc (Qa3 (λi=>p.getD i 0+q.getD i 0) (max p.length q.length))
def Ni (p:List Rat) (c:Rat):List Rat:=Dc (Qa3 (λi=>p.getD i 0*c) p.length)
def Qs6 (p:List Rat):List Rat:=Ni p (-1)
def Qm8 (p q:List Rat):List Rat:=Q64 p (Qs6 q)
theorem Q4n (p q:List Int):Q64 (zp p) (zp q)=zp (Ii p q):=by
 unfold Q64 Ii M7;rw [Qke (g:=λk=>p.getD k 0+q.getD k 0) _ λi _=>by rw [Qgi,Qgi,Wa],C0,Pn,Pn]
theorem Qp9 (p:List Int) (c:Int):Ni (zp p) (c:Rat)=zp (Gb p c):=by
 unfold Ni Gb M7;rw [Qke (g:=λk=>p.getD k 0*c) _ λi _=>by rw [Qgi,Xz],C0,Pn]
theorem Q0e (p:List Int):Gb p (-1)=P0 p:=by
 unfold Gb P0 M7;congr 2;funext k;omega
theorem Q4q (p:List Int):Qs6 (zp p)=zp (P0 p):=by
 rw [<-Q0e,<-Qp9]; rfl
theorem Qbn {p q:List Int} (hp:Fg p) (hq:Fg q) (h:∀ k,p.getD k 0=q.getD k 0):p=q:=by
 have key:∀ {p q:List Int},Fg q->(∀ k,p.getD k 0=q.getD k 0)->q.length<=p.length:=by
  intro p q hq h;rcases Q9 p.length q.length with h1 | h1
  ·have h2:=Hr hq (by omega);rw [<-h,Qe,Qt (by omega)] at h2;exact (h2 rfl).elim
  ·exact h1
 exact Qlr (Vw (key hp λk=>(h k).symm) (key hq h)) λj _=>h j
theorem Qza {n m:Nat} {f g:Nat->Int} (hn:n<=m) (h:∀ k,k<n->f k=g k) (h0:∀ k,n<=k->k<m->g k=0):M7 n f=M7 m g:=by
 refine Qbn (Fw _ _) (Fw _ _) λk=>?_
 rw [Rz,Rz];by_cases h1:k<n
 ·rw [if_pos h1,if_pos (by omega),h k h1]
 ·rw [if_neg h1];by_cases h2:k<m
  ·rw [if_pos h2,h0 k (by omega) h2]
  ·rw [if_neg h2]
theorem Q4v (p q:List Int):Qm8 (zp p) (zp q)=zp (Pa p q):=by
 unfold Qm8;rw [Q4q,Q4n];congr 1;have hl:=Cf q;unfold Ii Pa;refine Qza (by omega) (λk _=>?_) λk h1 h2=>?_
 ·unfold P0;rw [Rz]
  split
  ·omega
  ·rename_i h;have:q.getD k 0=0:=by rw [Qe,Qt (by omega)]; rfl
   omega
 ·have h3:p.getD k 0=0:=by rw [Qe,Qt (by omega)]; rfl
  have h4:(P0 q).getD k 0=0:=by rw [Qe,Qt (by omega)]; rfl
  unfold P0 at h4;rw [Rz] at h4
  split at h4
  ·omega
  ·have:q.getD k 0=0:=by rw [Qe,Qt (by omega)]; rfl
   omega
structure Crv where
 x:List Int
 y:List Int
 d:Int
abbrev cl (k:Crv):List LV:=[pl k.x,pl k.y,sg k.d,mg k.d]
def Crv.d' (k:Crv):Int:=if k.d=0 then 1 else k.d
def Crv.g (k:Crv):Int:=if k.d'<0 then -((Hz (k.d'::(trim k.x++trim k.y)):Nat):Int) else (Hz (k.d'::(trim k.x++trim k.y)):Nat)
def Crv.norm (k:Crv):Crv:=⟨trim ((trim k.x).map (· / k.g)),trim ((trim k.y).map (· / k.g)),k.d' / k.g⟩
theorem Qbp {l:List Int}:∀ z∈l,((Hz l:Nat):Int)∣z:=by
 have key:∀ (l:List Int) (g:Nat),(l.foldl (λg z=>Nat.gcd g z.natAbs) g∣g)/\∀ z∈l,l.foldl (λg z=>Nat.gcd g z.natAbs) g∣z.natAbs:=by
  intro l
  induction l with
  | nil=>intro g; exact ⟨Nat.dvd_refl _,by simp⟩
  |
   cons u l ih =>
   intro g;obtain ⟨h1,h2⟩:=ih (Nat.gcd g u.natAbs);refine ⟨Nat.dvd_trans h1 (Wn _ _),λz hz=>?_⟩;rcases Qm.1 hz with rfl | hz
   ·exact Nat.dvd_trans h1 (Un _ _)
   ·exact h2 z hz
 intro z hz;have:=(key l 0).2 z hz;exact Ue.2 this
theorem Crv.d'_ne (k:Crv):k.d'≠0:=by unfold Crv.d'; split <;> omega
theorem Crv.gcd_ne (k:Crv):Hz (k.d'::(trim k.x++trim k.y))≠0:=by
 intro e;have h:=Qbp (l:=k.d'::(trim k.x++trim k.y)) k.d' (Qw ..);rw [e] at h;exact k.d'_ne (by simpa using h)
theorem Crv.g_ne (k:Crv):k.g≠0:=by
 have h0:=k.gcd_ne;unfold Crv.g
 split <;> omega
theorem Crv.g_dvd (k:Crv):∀ z∈k.d'::(trim k.x++trim k.y),z % k.g=0:=by
 intro z hz;have h:=Qbp z hz;refine Ya ?_;unfold Crv.g
 split
 ·exact U5.2 h
 ·exact h
theorem Crv.isz_g (k:Crv) {s:Nat} (h:Fq k.d'<=s):Fq k.g<=s:=by
 have hd:=Qbp (l:=k.d'::(trim k.x++trim k.y)) k.d' (Qw ..);have hle:Hz (k.d'::(trim k.x++trim k.y))<=k.d'.natAbs:=Kw (by have:=k.d'_ne; omega) (Ue.1 hd);refine Qc (Tr ?_) h;unfold Crv.g
 split <;> simp <;> exact hle
structure Cs (s n:Nat) (k:Crv):Prop where
 x:Bd s k.x
 y:Bd s k.y
 d:Fq k.d<=s
 lx:k.x.length<=n
 ly:k.y.length<=n
theorem Qr3 {k:Crv} {s:Nat} (h:Fq k.d<=s) (h1:1<=s):Fq k.d'<=s:=by unfold Crv.d'; split <;> first | exact h1 | exact h
theorem Qgo {s:Nat} {p:List Int} (h:Bd s p) (g:Int):Bd s (p.map (· / g)):=λz hz=>by
 obtain ⟨u,hu,rfl⟩:=Zp.1 hz;exact Qc (Qbs u g) (h u hu)
theorem Cs.norm {s n:Nat} {k:Crv} (h:Cs s n k) (h1:1<=s):Cs s n k.norm:=by
 refine ⟨Sr (Qgo (Sr h.x) _),Sr (Qgo (Sr h.y) _),Qc (Qbs _ _) (Qr3 h.d h1),?_,?_⟩
 ·refine Qc (Rq _) ?_; rw [Q8]; exact Qc (Rq _) h.lx
 ·refine Qc (Rq _) ?_; rw [Q8]; exact Qc (Rq _) h.ly
theorem Cs.mono {s n t m:Nat} {k:Crv} (h:Cs s n k) (hs:s<=t) (hn:n<=m):Cs t m k:=⟨U8 h.x hs,U8 h.y hs,Qc h.d hs,Qc h.lx hn,Qc h.ly hn⟩
def Nml (k:Crv):Prop:=Fg k.x/\Fg k.y/\0<k.d/\Hz (k.d::(k.x++k.y))=1
theorem Crv.norm_of {k:Crv} (h:Nml k):k.norm=k:=by
 obtain ⟨h1,h2,h3,h4⟩:=h;have hd:k.d'=k.d:=by unfold Crv.d'; rw [if_neg (by omega)]
 have hx:trim k.x=k.x:=h1;have hy:trim k.y=k.y:=h2;have hg:k.g=1:=by unfold Crv.g; rw [hd,hx,hy,h4,if_neg (by omega)]; rfl
 unfold Crv.norm;rw [hg,hd,hx,hy];simp [hx,hy]
theorem Qrw {l:List Int} {g:Int} (hg:g≠0) (hga:g.natAbs=Hz l):Hz (l.map (· / g))=1:=by
 have key:∀ (l:List Int) (a:Nat),(∀ z∈l,g∣z)->l.foldl (λa z=>Nat.gcd a z.natAbs) (a*g.natAbs)=((l.map (· / g)).foldl (λa z=>Nat.gcd a z.natAbs) a)*g.natAbs:=by
  intro l
  induction l with
  | nil=>intro a _; rfl
  |
   cons z l ih =>
   intro a h;simp only [Xb,Xg];have hz:z.natAbs=(z / g).natAbs*g.natAbs:=by
    obtain ⟨q,rfl⟩:=h z (Qw ..);rw [Xw _ hg,Jx,Zg]
   rw [hz,Uo];exact ih _ λu hu=>h u (Qj _ hu)
 have h:=key l 0 λz hz=>Xm.1 (by rw [hga]; exact Xm.2 (Qbp z hz))
 rw [J6] at h;have h':Hz l=Hz (l.map (· / g))*g.natAbs:=h;rw [<-hga] at h';have hp:0<g.natAbs:=by omega
 exact Nat.eq_of_mul_eq_mul_right hp (by rw [Ky]; exact h'.symm)
theorem Aj {l:List Int} {g:Int} (ht:Fg l) (hg:g≠0) (hd:∀ z∈l,g∣z):Fg (l.map (· / g)):=by
 induction l with
 | nil=>rfl
 |
  cons x l ih =>
  have hne:∀ z∈x::l,z≠0->z / g≠0:=λz hz h0 h1=>by
   obtain ⟨q,rfl⟩:=hd z hz;rw [Xw _ hg] at h1;rw [h1] at h0; simp at h0
  unfold Fg at ht ih ⊢;cases hl:trim l with
  |
   nil =>
   simp only [trim,hl] at ht
   split at ht
   ·cases ht
   ·rename_i hx;injection ht with _ h2;subst h2;simp [trim,hne x (Qw ..) hx]
  |
   cons y k =>
   simp only [trim,hl] at ht;injection ht with _ h2;have hll:trim l=l:=by rw [hl]; exact h2
   have ih:=ih hll λz hz=>hd z (Qj _ hz)
   rw [Xb];have hne2:l.map (· / g)≠[]:=by rw [<-hll,hl]; simp
   cases hm:l.map (· / g) with
   | nil=>exact absurd hm hne2
   |
    cons u w =>
    rw [hm] at ih;have e:trim (x / g::u::w)=match trim (u::w) with | []=>if x / g=0 then [] else [x / g] | y::k=>x / g::y::k:=rfl
    rw [e,ih]
theorem Crv.nml (k:Crv):Nml k.norm:=by
 have hg:=k.g_ne;have hdv:∀ z∈k.d'::(trim k.x++trim k.y),k.g∣z:=λz hz=>Yx (k.g_dvd z hz)
 have hx:=Aj (g:=k.g) (Rl k.x) hg λz hz=>hdv z (by simp [hz])
 have hy:=Aj (g:=k.g) (Rl k.y) hg λz hz=>hdv z (by simp [hz])
 refine ⟨Rl _,Rl _,?_,?_⟩
 ·show 0<k.d' / k.g;obtain ⟨q,hq⟩:=hdv k.d' (Qw ..);have h0:=k.d'_ne;have hgc:=k.gcd_ne;have e:k.d' / k.g=q:=by rw [hq,Xw _ hg]
  rw [e];unfold Crv.g at hq hg;have hq0:q≠0:=λe=>by rw [e,Kc] at hq; exact h0 hq
  split at hq
  ·rename_i hneg;rcases Ud hq0 with h | h
   ·have:=K7 (a:=-((Hz (k.d'::(trim k.x++trim k.y)):Nat):Int)) (b:=q) (by omega) h;omega
   ·exact h
  ·rename_i hneg;rcases Ud hq0 with h | h
   ·have:=K6 (a:=((Hz (k.d'::(trim k.x++trim k.y)):Nat):Int)) (b:=q) (by omega) h;omega
   ·exact h
 ·show Hz (k.d' / k.g::(trim ((trim k.x).map (· / k.g))++trim ((trim k.y).map (· / k.g))))=1;rw [show trim ((trim k.x).map (· / k.g))=(trim k.x).map (· / k.g) from hx,show trim ((trim k.y).map (· / k.g))=(trim k.y).map (· / k.g) from hy,<-Jo,<-Xb (f:=(· / k.g))];refine Qrw hg ?_;unfold Crv.g
  split <;> omega
structure Pt where
 c:Crv
 id:Int
def H5 (p:Pt):List LV:=[pl p.c.x,pl p.c.y,sg p.c.d,mg p.c.d,.int .i64 p.id]
def pts (l:List Pt):LV:=.row (l.map H5)
def pos:List Pt->Int->Nat
 | [],_=>0
 | p::l,id=>if p.id<id then pos l id+1 else 0
def has (l:List Pt) (id:Int):Bool:=match l[pos l id]? with
 | some p=>decide (p.id=id)
 | none=>false
theorem Zcs (l:List Pt) (id:Int):pos l id<=l.length:=by
 induction l with
 | nil=>exact Ql _
 | cons p l ih=>simp only [pos]; split <;> simp <;> omega
theorem Q0c:∀ {l:List Pt} {id:Int} {k:Nat},(∀ j p,j<k->l[j]? = some p->p.id<id)->(k=l.length\/∃ p,l[k]? = some p/\¬p.id<id)->pos l id=k
 |
  [],id,k,_,h=>by
  rcases h with h | ⟨p,h,_⟩
  ·subst h; rfl
  ·simp at h
 |
  q::l,id,0,_,h=>by
  rcases h with h | ⟨p,h,h2⟩
  ·simp at h
  ·simp at h; subst h; simp [pos,h2]
 |
  q::l,id,k+1,h1,h=>by
  have hq:=h1 0 q (by omega) rfl;simp only [pos,hq,if_true];rw [Q0c (k:=k) (λj p hj hp=>h1 (j+1) p (by omega) (by simpa using hp))];rcases h with h | ⟨p,h,h2⟩
  ·left; simpa using h
  ·right; exact ⟨p,by simpa using h,h2⟩
def put (l:List Pt) (q:Pt):List Pt:=l.take (pos l q.id)++q::l.drop (pos l q.id)
def Qb8 (l:List Pt) (q:Pt):Int:=if has l q.id=true then 6 else if 6<=l.length then 9 else 0
def Qxy (s n:Nat) (p:Pt):Prop:=Nml p.c/\Cs s n p.c
theorem Q4j (l:List Pt) (q:Pt):(put l q).length=l.length+1:=by
 have:=Zcs l q.id;simp [put]; omega
theorem Q4k {l:List Pt} {q p:Pt} (h:p∈put l q):p=q\/p∈l:=by
 unfold put at h;rcases Qu.1 h with h | h
 ·exact .inr (Qn h)
 ·rcases Qm.1 h with h | h
  ·exact .inl h
  ·exact .inr (Ze h)
def Pi:List Pt->List Pt->List Pt×Int
 | acc,[]=>(acc,0)
 | acc,q::qs=>if Qb8 acc q=0 then Pi (put acc q) qs else ([],Qb8 acc q)
def Aw (a b:Crv):Bool:=decide (a.x=b.x/\a.y=b.y/\a.d=b.d)
def B6 (out:List Pt) (p:Pt):List Pt:=if out.any (λq=>Aw p.c q.c)=true then out else out++[p]
def Nb (l:List Pt):List Pt:=l.foldl B6 []
theorem Q7n {out:List Pt} {p q:Pt} (h:q∈B6 out p):q∈out\/q=p:=by
 unfold B6 at h
 split at h
 ·exact .inl h
 ·rcases Qu.1 h with h | h
  ·exact .inl h
  ·exact .inr (by simpa using h)
theorem Q7m (out:List Pt) (p:Pt):(B6 out p).length<=out.length+1:=by
 unfold B6; split <;> simp
theorem Ru {α β:Type} (f:β->α->β) (b:β) (l:List α) {i:Nat} {x:α} (h:l[i]? = some x):(l.take (i+1)).foldl f b=f ((l.take i).foldl f b) x:=by
 rw [Vf,h]; simp [V8]
theorem Qdq (l:List Pt) (i:Nat):∀ q∈(l.take i).foldl B6 [],q∈l:=by
 induction i with
 | zero=>simp
 |
  succ i ih =>
  intro q hq;cases hi:l[i]? with
  |
   none =>
   rw [Qo (by have:=Jz.1 hi; omega)] at hq;rw [Qo (Jz.1 hi)] at ih;exact ih q hq
  |
   some x =>
   rw [Ru _ _ _ hi] at hq;rcases Q7n hq with h | h
   ·exact ih q h
   ·subst h; exact Qa hi
theorem Qdp (l:List Pt) (i:Nat):((l.take i).foldl B6 []).length<=i:=by
 induction i with
 | zero=>simp
 |
  succ i ih =>
  cases hi:l[i]? with
  |
   none =>
   rw [Qo (by have:=Jz.1 hi; omega)];rw [Qo (Jz.1 hi)] at ih;omega
  |
   some x =>
   rw [Ru _ _ _ hi];have:=Q7m ((l.take i).foldl B6 []) x;omega
theorem Nv {l:List Pt} {q:Pt} (h:q∈Nb l):q∈l:=by
 have:=Qdq l l.length q;rw [Qy] at this;exact this h
theorem Qnn (l:List Pt):(Nb l).length<=l.length:=by
 have:=Qdp l l.length;rwa [Qy] at this
def IsPt (s n:Nat) (z:List LV) (q:Pt):Prop:=∃ lx ly b l px py d,z=[.row lx,.row ly,.bool b,Zn0 l,.int .i64 q.id]/\IsInts lx px/\IsInts ly py/\To (.bool b) (Zn0 l) d/\Cs s n ⟨px,py,d⟩/\q.c=Crv.norm ⟨px,py,d⟩
theorem Zms {s n:Nat} {p:Pt} (h:Qxy s n p):IsPt s n (H5 p) p:=by
 obtain ⟨b,l,h1,h2,h3,h4⟩:=Fb p.c.d;refine ⟨_,_,decide (p.c.d<0),Gf p.c.d.natAbs,_,_,p.c.d,rfl,H6 _,H6 _,Fb _,h.2,(Crv.norm_of h.1).symm⟩
def IsPts (s n:Nat):List (List LV)->List Pt->Prop
 | [],[]=>True
 | z::zs,q::qs=>IsPt s n z q/\IsPts s n zs qs
 | _,_=>False
theorem IsPts.len {s n:Nat}:∀ {zs:List (List LV)} {qs:List Pt},IsPts s n zs qs->zs.length=qs.length
 | [],[],_=>rfl
 | _::_,_::_,h=>by simp [h.2.len]
 | [],_::_,h=>h.elim
 | _::_,[],h=>h.elim
theorem IsPts.get {s n:Nat}:∀ {zs:List (List LV)} {qs:List Pt},IsPts s n zs qs->∀ {i:Nat} {q:Pt},qs[i]? = some q->∃ z,zs[i]? = some z/\IsPt s n z q
 | [],[],_,i,q,h=>by simp at h
 | z::zs,q::qs,h,0,r,hr=>by simp at hr; subst hr; exact ⟨z,rfl,h.1⟩
 | z::zs,q::qs,h,i+1,r,hr=>by simpa using h.2.get (i:=i) (by simpa using hr)
 | [],_::_,h,_,_,_=>h.elim
 | _::_,[],h,_,_,_=>h.elim
theorem Q3k {s n:Nat}:∀ {l:List Pt},(∀ p∈l,Qxy s n p)->IsPts s n (l.map H5) l
 | [],_=>trivial
 | p::l,h=>⟨Zms (h p (Qw ..)),Q3k λq hq=>h q (Qj _ hq)⟩
theorem IsPt.ok {s n:Nat} {z:List LV} {q:Pt} (h:IsPt s n z q) (h1:1<=s):Qxy s n q:=by
 obtain ⟨lx,ly,b,l,px,py,d,_,_,_,_,hc,e⟩:=h;unfold Qxy;rw [e];exact ⟨Crv.nml _,hc.norm h1⟩
theorem Q6t (acc qs:List Pt) {i:Nat} {q:Pt} (hi:qs[i]? = some q) (h:Pi acc (qs.take i)=((Pi acc (qs.take i)).1,0)):Pi acc (qs.take (i+1))=if Qb8 (Pi acc (qs.take i)).1 q=0 then (put (Pi acc (qs.take i)).1 q,0) else ([],Qb8 (Pi acc (qs.take i)).1 q):=by
 induction qs generalizing acc i with
 | nil=>simp at hi
 |
  cons x qs ih =>
  cases i with
  | zero=>simp at hi; subst hi; simp [Pi]
  |
   succ i =>
   simp only [Yj,Pi] at h ⊢;by_cases h0:Qb8 acc x=0
   ·simp only [h0,if_true] at h ⊢;exact ih (put acc x) (by simpa using hi) h
   ·simp only [h0,if_false] at h;injection h with _ h;exact absurd h h0
theorem Zb5 (acc qs:List Pt) {i:Nat} {e:Int} (he:e≠0) (h:Pi acc (qs.take i)=([],e)):Pi acc qs=([],e):=by
 induction qs generalizing acc i with
 | nil=>simp [Pi] at h; exact absurd h.2.symm he
 |
  cons x qs ih =>
  cases i with
  | zero=>simp [Pi] at h; exact absurd h.2.symm he
  |
   succ i =>
   simp only [Yj,Pi] at h ⊢;by_cases h0:Qb8 acc x=0
   ·simp only [h0,if_true] at h ⊢; exact ih _ h
   ·simp only [h0,if_false] at h ⊢; exact h
def Gl (p:List Int) (q:Rat):Int:=B7 (Zip p q.num q.den) 0
abbrev qa (q:Rat):List LV:=pl [-q.num,(q.den:Int)]::(rl q++rl q)
def Py (sgn:List Int->Int):Nat->List Int->Int
 | 0,_=>0
 | k+1,p=>if p.length=0 then 0 else if sgn p=0 then Py sgn k (Gj p) else sgn p
theorem Qbq (sgn:List Int->Int):∀ (k:Nat) (p:List Int),p.length<=k->Py sgn k p=Py sgn p.length p
 |
  0,p,h=>by
  have:p.length=0:=by omega
  rw [this]
 |
  k+1,p,h=>by
  cases hp:p.length with
  | zero=>simp [Py,hp]
  |
   succ m =>
   simp only [Py];have h1:=Ph p;rw [Qbq sgn k (Gj p) (by omega),Qbq sgn m (Gj p) (by omega)]
theorem Qim (sgn:List Int->Int) {p:List Int} (h:p.length=0):Py sgn p.length p=0:=by rw [h]; rfl
theorem Qik (sgn:List Int->Int) {p:List Int} (h:0<p.length) (hs:sgn p≠0):Py sgn p.length p=sgn p:=by
 obtain ⟨m,hm⟩:∃ m,p.length=m+1:=⟨p.length-1,by omega⟩;rw [hm]; simp only [Py]; rw [if_neg (by omega),if_neg hs]
theorem Qil (sgn:List Int->Int) {p:List Int} (h:0<p.length) (hs:sgn p=0):Py sgn p.length p=Py sgn (Gj p).length (Gj p):=by
 obtain ⟨m,hm⟩:∃ m,p.length=m+1:=⟨p.length-1,by omega⟩;rw [hm]; simp only [Py]; rw [if_neg (by omega),if_pos hs];exact Qbq sgn m _ (by have:=Ph p; omega)
structure Tm where
 p:List Int
 lo:Rat
 hi:Rat
abbrev ta (t:Tm):List LV:=pl t.p::(rl t.lo++rl t.hi)
abbrev tq (q:Rat):Tm:=⟨[-q.num,(q.den:Int)],q,q⟩
def Tg (sg:List Int->Int) (p:List Int):Int:=Py sg p.length p
def Ms (p:List Int) (q:Rat):Int:=Tg (λp=>Gl p q) p
structure Pb (p:List Int):Prop where
 t:Fg p
 l:p.length<=64
 b:Bd 16777216 p
abbrev Qb (q:Rat):Prop:=Qs 16777216 q
abbrev Cb (k:Crv):Prop:=Cs 1048576 16 k
def Hp (a b:Crv):List Int:=Pa (Gb b.x a.d) (Gb a.x b.d)
def Re (a b:Crv):List Int:=Pa (Gb b.y a.d) (Gb a.y b.d)
def Qal (sg:List Int->Int) (a b:Pt):List (List Int)->Bool
 | []=>decide (a.id<b.id)
 | p::l=>if 0<p.length then decide (0<Tg sg p) else Qal sg a b l
def Sj (sg:List Int->Int) (a b:Pt):Bool:=Qal sg a b [Hp a.c b.c,Re a.c b.c]
end Orr
namespace Orr
open Go
structure Ct where
 kind:Int
 i0:Int
 i1:Int
 i2:Int
 i3:Int
 p:List Int
 want:Int
abbrev Qdd (c:Ct):List LV:=[.int .i64 c.kind,.int .i64 c.i0,.int .i64 c.i1,.int .i64 c.i2,.int .i64 c.i3,pl c.p,.int .i64 c.want]
def O6 (p q:List Int):List Int:=if 0<p.length then p else q
def Tq:List Int->List Int->Bool
 | x::l,y::m=>if x=y then Tq l m else decide (x<y)
 | _,_=>false
def So (a b:Ct):Bool:=Tq [a.kind,a.i0,a.i1,a.i2,a.i3] [b.kind,b.i0,b.i1,b.i2,b.i3]
def Qb3 (out:List Ct) (c:Ct):Nat->Nat
 | 0=>0
 |
  k+1=>match out[k]? with
  | some x=>if So c x=true then Qb3 out c k else k+1
  | none=>k+1
theorem Q4d (out:List Ct) (c:Ct):∀ k,Qb3 out c k<=k
 | 0=>Ql _
 |
  k+1=>by
  simp only [Qb3]
  split
  ·split
   ·exact Nat.le_succ_of_le (Q4d out c k)
   ·exact Ql _
  ·exact Ql _
theorem Zif {out:List Ct} {c x:Ct} {k:Nat} (hx:out[k]? = some x) (h:So c x=true):Qb3 out c (k+1)=Qb3 out c k:=by
 simp only [Qb3,hx,h,if_true]
theorem Zcr {out:List Ct} {c x:Ct} {k:Nat} (hx:out[k]? = some x) (h:So c x=false):Qb3 out c (k+1)=k+1:=by
 simp [Qb3,hx,h]
def Qd2 (out:List Ct) (c:Ct):List Ct:=out.take (Qb3 out c out.length)++c::out.drop (Qb3 out c out.length)
theorem Zbl (out:List Ct) (c:Ct):(Qd2 out c).length=out.length+1:=by
 have:=Q4d out c out.length;simp [Qd2]; omega
theorem Zbm {out:List Ct} {c x:Ct} (h:x∈Qd2 out c):x=c\/x∈out:=by
 simp only [Qd2,Qu,Qm] at h;rcases h with h | h | h
 ·exact .inr (Qn h)
 ·exact .inl h
 ·exact .inr (Ze h)
def H8 (l:List Ct):List Ct:=l.foldl Qd2 []
theorem Q06 (l:List Ct) (c:Ct):H8 (l++[c])=Qd2 (H8 l) c:=by simp [H8,V8]
theorem Q07 {l:List Ct} {i:Nat} {c:Ct} (h:l[i]? = some c):H8 (l.take (i+1))=Qd2 (H8 (l.take i)) c:=by
 rw [Zq,h]; exact Q06 _ _
theorem Qo4:∀ (l acc:List Ct),(l.foldl Qd2 acc).length=acc.length+l.length
 | [],acc=>by simp
 | c::l,acc=>by simp only [Xg]; rw [Qo4 l (Qd2 acc c),Zbl]; simp; omega
theorem Ep (l:List Ct):(H8 l).length=l.length:=by unfold H8; rw [Qo4]; simp
theorem Qo5:∀ (l acc:List Ct) {x:Ct},x∈l.foldl Qd2 acc->x∈l\/x∈acc
 | [],acc,x,h=>.inr h
 |
  c::l,acc,x,h=>by
  simp only [Xg] at h;rcases Qo5 l _ h with h | h
  ·exact .inl (Qj _ h)
  ·rcases Zbm h with rfl | h
   ·exact .inl (Qw ..)
   ·exact .inr h
theorem Qh1 {l:List Ct} {x:Ct} (h:x∈H8 l):x∈l:=by
 rcases Qo5 l [] h with h | h
 ·exact h
 ·cases h
theorem Qvm {α:Type} (l:List α) (z x:α) {k m':Nat} (hk:k<=l.length) (hm:m'=l.length-k) :
 ((l++[z]).take (k+1)++((l++[z]).drop k).take m'++(l++[z]).drop (k+1+m')).set k x=l.take k++x::l.drop k:=by
 subst hm;have e1:((l++[z]).drop k).take (l.length-k)=l.drop k:=by
  rw [V5 hk,Yw (by simp),Qo (by simp)]
 have e2:(l++[z]).drop (k+1+(l.length-k))=[]:=Y5 (by simp; omega);rw [e1,e2,Zo];have e3:(l++[z]).take (k+1)=(l++[z]).take k++[(l++[z])[k]'(by simp; omega)]:=by rw [List.take_succ_eq_append_getElem]
 rw [e3,Yw hk,Zm,List.set_append,if_neg (by simp; omega)];simp [Zw hk]
def Bh (a b:Pt):List Int:=O6 (Hp a.c b.c) (Re a.c b.c)
def Ch (sg:List Int->Int) (a b:Pt):Ct:={ kind:=1,i0:=a.id,i1:=b.id,i2:=0,i3:=0,p:=Bh a b,want:=Tg sg (Bh a b) }
end Orr
namespace Orr
open Go Go.Proofs
set_option maxRecDepth 10000
abbrev pr (p:List Int):TV:=.one (pl p)
theorem Me {p:List Int} {i:Nat} {z:Int} (h:p[i]? = some z):(p.map Hn)[i]? = some (Hn z):=Ho h
theorem Qky (p:List Int):Fa Tryz.prog 206 [pr p] [pr (trim p)]:=by
 refine Hl Tryz.func206 rfl (ln 0 rfl rfl λhl=>?_);rw [Q8] at hl;refine go tt [] rfl trivial ?_;refine lp (S:=Nat) 0 (λL1 n=>(3,.v (.one (.int .i64 (n:Int))))::L1) (λ_=>[]) id (λn=>n<=p.length/\∀ j x,n<=j->p[j]? = some x->x=0) (p.map Hn).length ⟨by simp,λj x h1 h2=>by
  have:=(Qf.1 h2).1; simp at h1; omega⟩ rfl (λ_ _=>rfl) rfl λn ⟨h1,h2⟩=>?_
 cases n with
 | zero=>exact en tt [.f (by simp),.f rfl,.i 0] rfl (by rw [Qxk h1 h2 (λh=>by omega)]; simp [pl]) (by simp [U9])
 |
  succ n =>
  obtain ⟨x,hx⟩:=gxE (l:=p) (i:=n) (by omega);by_cases h0:x=0
  ·refine go tt [.t (by simp),.r 11 (v:=.one (.int .i64 (n:Int))) (by simp),.x (Me hx),.c [] Ib,.t (by simp [h0]),.r 17 (v:=.one (.int .i64 (n:Int))) (by simp)] rfl (by simp [U9]; omega) ?_;exact rd n (by simp) ⟨by omega,λj y h3 h4=>by
    rcases Vv h3 with rfl | h3
    ·rw [hx] at h4; injection h4 with h4; rw [<-h4,h0]
    ·exact h2 j y h3 h4⟩ rfl
  ·exact en tt [.t (by simp),.r 11 (v:=.one (.int .i64 (n:Int))) (by simp),.x (Me hx),.c [] Ib,.f (by simp [h0]),.i (n+1)] rfl (by rw [Qxk h1 h2 (λ_=>⟨x,hx,h0⟩)]; simp [pl,J7]) (by simp [U9] <;> omega)
theorem Q2f (p:List Int) (k:Nat):Fa Tryz.prog 279 [pr p,.one (.int .i64 (k:Int))] [.agg (Hn (p.getD k 0))]:=by
 by_cases h:k<p.length
 ·have hx:=Qd h;have e:p.getD k 0=p[k]:=by simp [List.getD,hx]
  rw [e];exact w tt Tryz.func279 rfl [.t (by simp; omega),.x (Me hx)] rfl rfl trivial
 ·have e:p.getD k 0=0:=by simp [List.getD,Qt (Y3 h)]
  rw [e,Ab];exact w tt Tryz.func279 rfl [.f (by simp; omega)] rfl rfl trivial
def fil (f:Nat->List LV) (z:List LV) (n k:Nat):List (List LV):=(List.range n).map λi=>if i<k then f i else z
theorem A2 (f:Nat->List LV) (z:List LV) (n k:Nat):(fil f z n k).length=n:=by simp [fil]
theorem E5 (f:Nat->List LV) (z:List LV) (n:Nat):List.replicate n z=fil f z n 0:=by
 refine Xq λi=>?_
 simp only [fil,Yd,Zb];by_cases h:i<n
 ·simp [h]
 ·simp [h]
theorem O9 (f:Nat->List LV) (z:List LV) (n:Nat):fil f z n n=(List.range n).map f:=by
 refine Vn λi hi=>?_
 rw [if_pos (Wh.1 hi)]
theorem Qaa (f:Nat->List LV) (z:List LV) {n k:Nat} (h:k<n):(fil f z n k).set k (f k)=fil f z n (k+1):=by
 refine Xq λi=>?_
 rw [Yt];simp only [fil,Zb,Q8,List.length_range,h,if_true];by_cases e:k=i
 ·subst e; simp [h]
 ·simp only [e,if_false];by_cases hi:i<n
  ·simp only [X2 hi,Vy];congr 1;by_cases h2:i<k
   ·rw [if_pos h2,if_pos (by omega)]
   ·rw [if_neg h2,if_neg (by omega)]
  ·simp [Qt,hi]
theorem Qq8 {n fid:Nat} {l1 l2:List LV} {g:Nat->Int} (hn:n<274877906944) (h:∀ k,k<n->Fa Tryz.prog fid [.one (.int .i64 (k:Int)),.one (.sh l1),.one (.sh l2)] [.agg (Hn (g k))]):Fa Tryz.prog 246 [.one (.int .i64 (n:Int)),.one (.fn fid [] [.sh l1,.sh l2])] [pr (M7 n g)]:=by
 refine Hl Tryz.func246 rfl ?_;refine go tt [.i n,.i n,.r 10 (eI (b:=(n:Int)) (by simp))] rfl (by simp [U9]; omega) ?_;rw [E5 λk=>Hn (g k)];refine lp (S:=Nat) 1 (λL1 k=>(11,.v (.one (.int .i64 (k:Int))))::L1) (λk=>[.row false 51 2 (fil (λk=>Hn (g k)) [.bool false,.nils] n k)]) (λk=>n-k) (λk=>k<=n) 0 (Qi _) rfl (λ_ _=>rfl) rfl λk hk=>?_
 by_cases hlt:k<n
 ·refine go tt [.t (by simp; omega),.c [] (h k hlt),.i k] rfl (by simp [U9,A2]; omega) ?_;have e:=Qaa (λk=>Hn (g k)) [.bool false,.nils] hlt;rw [e];exact rd (k+1) (by omega) hlt rfl
 ·obtain rfl:k=n:=by omega
  have e:fil (λk=>Hn (g k)) [.bool false,.nils] k k=((List.range k).map g).map Hn:=by rw [O9]; simp
  rw [e];exact en tt [.f (by simp),.c [] (Qky _)] rfl rfl trivial
theorem Q2a {n fid:Nat} {l1:List LV} {g:Nat->Int} (hn:n<274877906944) (h:∀ k,k<n->Fa Tryz.prog fid [.one (.int .i64 (k:Int)),.one (.sh l1)] [.agg (Hn (g k))]):Fa Tryz.prog 246 [.one (.int .i64 (n:Int)),.one (.fn fid [] [.sh l1])] [pr (M7 n g)]:=by
 refine Hl Tryz.func246 rfl ?_;refine go tt [.i n,.i n,.r 10 (eI (b:=(n:Int)) (by simp))] rfl (by simp [U9]; omega) ?_;rw [E5 λk=>Hn (g k)];refine lp (S:=Nat) 1 (λL1 k=>(11,.v (.one (.int .i64 (k:Int))))::L1) (λk=>[.row false 51 2 (fil (λk=>Hn (g k)) [.bool false,.nils] n k)]) (λk=>n-k) (λk=>k<=n) 0 (Qi _) rfl (λ_ _=>rfl) rfl λk hk=>?_
 by_cases hlt:k<n
 ·refine go tt [.t (by simp; omega),.c [] (h k hlt),.i k] rfl (by simp [U9,A2]; omega) ?_;have e:=Qaa (λk=>Hn (g k)) [.bool false,.nils] hlt;rw [e];exact rd (k+1) (by omega) hlt rfl
 ·obtain rfl:k=n:=by omega
  have e:fil (λk=>Hn (g k)) [.bool false,.nils] k k=((List.range k).map g).map Hn:=by rw [O9]; simp
  rw [e];exact en tt [.f (by simp),.c [] (Qky _)] rfl rfl trivial
theorem Zlm {p q:List Int} (k:Nat) (hp:Bd 4294967295 p) (hq:Bd 4294967295 q):Fa Tryz.prog 285 [.one (.int .i64 (k:Int)),.one (.sh [pl p]),.one (.sh [pl q])] [.agg (Hn (p.getD k 0+q.getD k 0))] :=
 w tt Tryz.func285 rfl [.c [] (Q2f p k),.c [] (Q2f q k),.c [] (Qds (Fb _) (Fb _) (Ft hp k) (Ft hq k))] rfl rfl trivial
theorem Zlw {p q:List Int} (k:Nat) (hp:Bd 4294967295 p) (hq:Bd 4294967295 q):Fa Tryz.prog 278 [.one (.int .i64 (k:Int)),.one (.sh [pl p]),.one (.sh [pl q])] [.agg (Hn (p.getD k 0-q.getD k 0))] :=
 w tt Tryz.func278 rfl [.c [] (Q2f p k),.c [] (Q2f q k),.c [] (Q88 (Fb _) (Fb _) (Ft hp k) (Ft hq k))] rfl rfl trivial
theorem Tj {p:List Int} {k:Nat} (h:k<p.length):p[k]? = some (p.getD k 0):=by simp [List.getD,Qd h]
theorem Q82 {p:List Int} {c:Int} {k:Nat} (hk:k<p.length) (hp:Bd 4294967295 p) (hc:Fq c<=4294967295):Fa Tryz.prog 247 [.one (.int .i64 (k:Int)),.one (.sh [pl p]),.one (.sh (Hn c))] [.agg (Hn (p.getD k 0*c))] :=
 w tt Tryz.func247 rfl [.x (Me (Tj hk)),.c [] (Ia (Fb _) (Fb _) (Ft hp k) hc)] rfl rfl trivial
theorem Zlt {p:List Int} {k:Nat} (hk:k<p.length) (hp:Bd 4294967295 p):Fa Tryz.prog 333 [.one (.int .i64 (k:Int)),.one (.sh [pl p])] [.agg (Hn (-(p.getD k 0)))] :=
 w tt Tryz.func333 rfl [.x (Me (Tj hk)),.c [] (Qks (Fb _) (Ft hp k))] rfl rfl trivial
theorem Q5g {p:List Int} {k:Nat} (hk:k+1<p.length) (hl:p.length<274877906944) (hp:Bd 4294967295 p):Fa Tryz.prog 303 [.one (.int .i64 (k:Int)),.one (.sh [pl p])] [.agg (Hn (p.getD (k+1) 0*((k+1:Nat):Int)))] :=
 w tt Tryz.func303 rfl [.x (Me (Tj hk)),.r 10 (eI (b:=((k+1:Nat):Int)) (by omega)),.c [] (Qyg (by omega)),.c [] (Ia (Fb _) (Fb _) (Ft hp _) (Q6i (show k+1<274877906944 by omega)))] rfl rfl (by simp [U9] <;> omega)
theorem Q8r {p q:List Int} (hlp:p.length<274877906944) (hlq:q.length<274877906944) (hp:Bd 4294967295 p) (hq:Bd 4294967295 q):Fa Tryz.prog 241 [pr p,pr q] [pr (Ii p q)] :=
 w tt Tryz.func241 rfl [.r 9 (eI (b:=((max p.length q.length:Nat):Int)) (by simp; omega)),.c [] (Qq8 (by omega) λk _=>Zlm k hp hq)] rfl rfl trivial
theorem Qku {p q:List Int} (hlp:p.length<274877906944) (hlq:q.length<274877906944) (hp:Bd 4294967295 p) (hq:Bd 4294967295 q):Fa Tryz.prog 231 [pr p,pr q] [pr (Pa p q)] :=
 w tt Tryz.func231 rfl [.r 9 (eI (b:=((max p.length q.length:Nat):Int)) (by simp; omega)),.c [] (Qq8 (by omega) λk _=>Zlw k hp hq)] rfl rfl trivial
theorem Q8v {p:List Int} (hlp:p.length<274877906944) (hp:Bd 4294967295 p):Fa Tryz.prog 307 [pr p] [pr (P0 p)] :=
 w tt Tryz.func307 rfl [.r 4 (eI (b:=(p.length:Int)) (by simp)),.c [] (Q2a hlp λk hk=>Zlt hk hp)] rfl rfl trivial
theorem Iu {p:List Int} {c:Int} (hlp:p.length<274877906944) (hp:Bd 4294967295 p) (hc:Fq c<=4294967295):Fa Tryz.prog 186 [pr p,.agg (Hn c)] [pr (Gb p c)] :=
 w tt Tryz.func186 rfl [.r 6 (eI (b:=(p.length:Int)) (by simp)),.c [] (Qq8 hlp λk hk=>Q82 hk hp hc)] rfl rfl trivial
theorem Is {p:List Int} (hlp:p.length<274877906944) (hp:Bd 4294967295 p):Fa Tryz.prog 265 [pr p] [pr (Gj p)] :=
 w tt Tryz.func265 rfl [.r 6 (eI (b:=((p.length-1:Nat):Int)) (by simp; omega)),.c [] (Q2a (by omega) λk hk=>Q5g (by omega) hlp hp)] rfl rfl (by simp [U9]; omega)
theorem Ly {ls:List (List LV)} {p:List Int} (hi:IsInts ls p) (hl:p.length<274877906944) (hs:Bd 4294967295 p):Fa Tryz.prog 153 [.one (.row ls)] [pr (trim p)]:=by
 refine Hl Tryz.func153 rfl ?_;have hlen:=hi.len;refine go tt [.i ls.length,.i ls.length] rfl (by simp [U9]; omega) ?_;rw [E5 λk=>Hn (p.getD k 0)];refine lp (S:=Nat) 1 (λL1 k=>(11,.v (.one (.int .i64 (k:Int))))::L1) (λk=>[.row false 51 2 (fil (λk=>Hn (p.getD k 0)) [.bool false,.nils] ls.length k)]) (λk=>ls.length-k) (λk=>k<=ls.length) 0 (Qi _) rfl (λ_ _=>rfl) rfl λk hk=>?_
 by_cases hlt:k<ls.length
 ·obtain ⟨x,y,hx,hxy⟩:=hi.get (Tj (p:=p) (k:=k) (by omega));have cn:=Lz hxy (Ft hs k);obtain ⟨b,l,rfl,rfl,_⟩:=hxy;refine go tt [.t (by simp; omega),.x hx,.c [] cn,.i k] rfl (by simp [U9,A2]; omega) ?_;have e:=Qaa (λk=>Hn (p.getD k 0)) [.bool false,.nils] hlt;rw [e];exact rd (k+1) (by omega) hlt rfl
 ·obtain rfl:k=ls.length:=by omega
  have e:fil (λk=>Hn (p.getD k 0)) [.bool false,.nils] ls.length ls.length=p.map Hn:=by
   rw [O9,hlen];refine Xq λi=>?_
   by_cases hi:i<p.length
   ·simp [X2 hi,List.getD,Qd hi]
   ·simp [Qt,hi]
  rw [e];exact en tt [.f (by simp),.c [] (Qky _)] rfl rfl trivial
theorem Ri {p:List Int} (ht:Fg p) (hl:p.length<274877906944) (hs:Bd 4294967295 p):Fa Tryz.prog 153 [pr p] [pr p]:=by
 have:=Ly (H6 p) hl hs;rw [ht] at this; exact this
theorem Zhh {p:List Int} {i:Nat} {z:Int} (h:p[i]? = some z):(p.map λ(x:Int)=>[LV.int .i64 x])[i]? = some [.int .i64 z]:=Ho h
theorem Q12 {p:List Int} (hl:p.length<274877906944) (hr:∀ z∈p,-9223372036854775808≤z/\z≤9223372036854775807):Fa Tryz.prog 146 [.one (ids p)] [pr (trim p)]:=by
 refine Hl Tryz.func146 rfl ?_;refine go tt [.r 7 (eI (b:=(p.length:Int)) (by simp)),.i p.length,.i p.length,.r 10 (eI (b:=(p.length:Int)) (by simp))] rfl (by simp [U9]; omega) ?_;rw [E5 λk=>Hn (p.getD k 0)];refine lp (S:=Nat) 1 (λL1 k=>(11,.v (.one (.int .i64 (k:Int))))::L1) (λk=>[.row false 51 2 (fil (λk=>Hn (p.getD k 0)) [.bool false,.nils] p.length k)]) (λk=>p.length-k) (λk=>k<=p.length) 0 (Qi _) rfl (λ_ _=>rfl) rfl λk hk=>?_
 by_cases hlt:k<p.length
 ·have hg:=Tj hlt;refine go tt [.t (by simp; omega),.x (Zhh hg),.c [] (Qyg (hr _ (Qa hg))),.i k] rfl (by simp [U9,A2]; omega) ?_;have e:=Qaa (λk=>Hn (p.getD k 0)) [.bool false,.nils] hlt;rw [e];exact rd (k+1) (by omega) hlt rfl
 ·obtain rfl:k=p.length:=by omega
  have e:fil (λk=>Hn (p.getD k 0)) [.bool false,.nils] p.length p.length=p.map Hn:=by
   rw [O9];refine Xq λi=>?_
   by_cases hi:i<p.length
   ·simp [X2 hi,List.getD,Qd hi]
   ·simp [Qt,hi]
  rw [e];exact en tt [.f (by simp),.c [] (Qky _)] rfl rfl trivial
theorem Qz8 (l:List Int) (i:Nat) (z:Int):(l.map Hn).set i (Hn z)=(l.set i z).map Hn:=by rw [Kf]
theorem Qj7 (m:Nat):((List.replicate m [LV.bool false,LV.nils]).map λc=>c.map Qjd)=(List.replicate m (0:Int)).map Hn:=by
 simp [Ab,Qjd]
theorem Qq1 {p0 q:List Int} {s t:Nat} (tq:Fg q) (hlp:p0.length<137438953472) (hlq:q.length<137438953472) (hp:Bd s p0) (hq:Bd t q) (hst:s+t<=4294967000):Fa Tryz.prog 242 [pr p0,pr q] [pr (Gs (trim p0) q)]:=by
 have cp:=Ly (H6 p0) (by omega) (U8 hp (show s<=4294967295 by omega));have hp:=Sr hp;have hlp:=Zz (Rq p0) hlp;obtain ⟨p,ep⟩:=nmE (trim p0);rw [<-ep] at cp hp hlp ⊢;have cq:=Ri tq (by omega) (U8 hq (show t<=4294967295 by omega));by_cases h0:p.length=0
 ·have e:Gs p q=[]:=by unfold Gs; rw [if_pos (.inl h0)]
  rw [e];exact w tt Tryz.func242 rfl [.c [] cp,.c [] cq,.t (by simp; exact Qh h0),.t rfl] rfl rfl trivial
 by_cases h1:q.length=0
 ·have e:Gs p q=[]:=by unfold Gs; rw [if_pos (.inr h1)]
  rw [e];exact w tt Tryz.func242 rfl [.c [] cp,.c [] cq,.f (by simp; intro h; subst h; simp at h0),.t (by simp; exact Qh h1)] rfl rfl trivial
 refine Hl Tryz.func242 rfl ?_;have e:Gs p q=trim (Ci p q (List.replicate (p.length+q.length-1) 0) p.length):=by unfold Gs; rw [if_neg (by omega)]
 rw [e];obtain ⟨N,hN⟩:=nmE (p.length+q.length-1);rw [<-hN];obtain ⟨o,ho⟩:=nmE (List.replicate N (0:Int));rw [<-ho];have hol:o.length=N:=by rw [ho]; simp
 have ho0:∀ m,o.getD m 0=0:=λm=>by rw [ho]; exact Tk N m
 refine go tt [.c [] cp,.c [] cq,.f (by simp; intro h; subst h; simp at h0),.f (by simp; intro h; subst h; simp at h1),.r 27 (eI (b:=(N:Int)) (by simp; omega)),.i N,.i N] rfl (by simp [U9]; omega) ?_;refine nl 0 rfl rfl rfl ?_;rw [Qj7,<-ho];refine lp (S:=Nat) 1 (λL1 i=>(31,.v (.one (.int .i64 (i:Int))))::L1) (λi=>[.row false 51 2 ((Ci p q o i).map Hn)]) (λi=>p.length-i) (λi=>i<=p.length) 0 (Qi _) rfl (λ_ _=>rfl) rfl λi hi=>?_
 by_cases hlt:i<p.length
 ·refine go tt [.t (by simp; omega),.x (Me (Tj hlt))] rfl trivial ?_;refine lp (S:=Nat) 2 (λL1 k=>(38,.v (.one (.int .i64 (k:Int))))::L1) (λk=>[.row false 51 2 ((I4 (p.getD i 0) q i (Ci p q o i) k).map Hn),.blk 51 (Hn (p.getD i 0))]) (λk=>q.length-k) (λk=>k<=q.length) 0 (Qi _) rfl (λ_ _=>rfl) rfl λk hk=>?_
  by_cases hk2:k<q.length
  ·have hm1:Fq ((I4 (p.getD i 0) q i (Ci p q o i) k).getD (i+k) 0)<=4294967295:=Qc (Ig (t:=39) (Qsh (by rw [Cj]; omega) (Qsg (λj hj=>by omega) ho0 (λi j=>Np (Ft hp i) (Ft hq j))) (λj=>Np (Ft hp i) (Ft hq j)) (i+k)) (We (show i+1<549755813888 by omega) (by decide))) (by omega);have hm2:Fq (p.getD i 0*q.getD k 0)<=4294967295:=Qc (Gd _ _) (by have:=Ft hp i; have:=Ft hq k; omega);have hg:(I4 (p.getD i 0) q i (Ci p q o i) k)[i+k]? = some ((I4 (p.getD i 0) q i (Ci p q o i) k).getD (i+k) 0):=Tj (by rw [I5,Cj]; omega);refine go tt [.t (by simp; omega),.x (Me (Tj hk2)),.i (i+k),.x (Me hg),.c [] (Ia (Fb _) (Fb _) (Qc (Ft hp i) (by omega)) (Qc (Ft hq k) (by omega))),.c [] (Qds (Fb _) (Fb _) hm1 hm2),.i (i+k)] rfl (by simp [U9,I5,Cj] <;> omega) ?_;rw [Qz8];exact rd (k+1) (by omega) hk2 rfl
  ·obtain rfl:k=q.length:=by omega
   exact go tt [.f (by simp)] rfl (by simp [U9]; omega) (rd (i+1) (by omega) hlt rfl)
 ·obtain rfl:i=p.length:=by omega
  exact en tt [.f (by simp),.c [] (Qky _)] rfl rfl trivial
theorem Q8u {p q:List Int} {s t:Nat} (tp:Fg p) (tq:Fg q) (hlp:p.length<137438953472) (hlq:q.length<137438953472) (hp:Bd s p) (hq:Bd t q) (hst:s+t<=4294967000):Fa Tryz.prog 242 [pr p,pr q] [pr (Gs p q)]:=by
 have h:=Qq1 tq hlp hlq hp hq hst;rw [show trim p=p from tp] at h;exact h
theorem Qq2 {p q:List Int} (hlp:p.length<274877906944) (hlq:q.length<274877906944) (hp:Bd 4294967295 p) (hq:Bd 4294967295 q):Fa Tryz.prog 274 [pr p,pr q] [.one (.bool (decide (trim p=trim q)))]:=by
 refine Hl Tryz.func274 rfl ?_;have cp:=Ly (H6 p) hlp hp;have cq:=Ly (H6 q) hlq hq;have bp:=Sr hp;have bq:=Sr hq;have l1:=Rq p;have l2:=Rq q;obtain ⟨a,ha⟩:=nmE (trim p);obtain ⟨b,hb⟩:=nmE (trim q);rw [<-ha] at cp bp l1 ⊢;rw [<-hb] at cq bq l2 ⊢;by_cases hl:a.length=b.length
 ·refine go tt [.c [] cp,.c [] cq,.f (by simp; omega)] rfl trivial ?_;refine lp (S:=Nat) 0 (λL1 i=>(18,.v (.one (.int .i64 (i:Int))))::L1) (λ_=>[]) (λi=>a.length-i) (λi=>i<=a.length/\a.take i=b.take i) 0 ⟨Qi _,rfl⟩ rfl (λ_ _=>rfl) rfl λi ⟨hi,he⟩=>?_
  by_cases hlt:i<a.length
  ·have ga:=Tj hlt;have gb:=Tj (p:=b) (k:=i) (by omega);have cc:=Qgs (Fb (a.getD i 0)) (Fb (b.getD i 0)) (Ft bp i) (Ft bq i);by_cases hz:a.getD i 0=b.getD i 0
   ·refine go tt [.t (by simp; omega),.x (Me ga),.x (Me gb),.c [] cc,.f (by simpa using Qrf.2 hz)] rfl (by simp [U9]; omega) ?_;exact rd (i+1) (by omega) ⟨hlt,by rw [Vf,Vf,he,ga,gb,hz]⟩ rfl
   ·exact en tt [.t (by simp; omega),.x (Me ga),.x (Me gb),.c [] cc,.t (by have:=mt Qrf.1 hz; simpa using this)] rfl (by rw [decide_eq_false]; intro h; exact hz (by rw [h])) trivial
  ·obtain rfl:i=a.length:=by omega
   rw [Qy,hl,Qy] at he;exact en tt [.f (by simp)] rfl (by rw [decide_eq_true he]) trivial
 ·exact en tt [.c [] cp,.c [] cq,.t (by simp; omega)] rfl (by rw [decide_eq_false]; intro h; exact hl (by rw [h])) trivial
theorem Q8x {p:List Int} {n d:Int} {s t:Nat} (hl:p.length<274877906944) (hp:Bd s p) (hn:Fq n<=t) (hd:Fq d<=t) (hst:s+p.length*(t+1)+2*t+10<=4294967295):Fa Tryz.prog 264 [pr p,.agg (Hn n),.agg (Hn d)] [.agg (Hn (Zip p n d))]:=by
 refine Hl Tryz.func264 rfl ?_;refine go tt [.c [] (Qyg (z:=1) (by decide)),.r 13 (eI (b:=(p.length:Int)-1-((0:Nat):Int)) (by simp))] rfl (by simp [U9]; omega) ?_;refine nlb 3 rfl rfl rfl ?_;have e0:[LV.bool false,LV.nils].map Qjd=Hn (Mz p n d 0).1:=by simp [Qjd,Mz,Ab]
 rw [e0];refine lp (S:=Nat) 5 (λL1 j=>(9,.v (.one (.int .i64 ((p.length:Int)-1-(j:Int)))))::L1) (λj=>[.blk 51 (Hn n),.blk 51 (Hn d),.blk 51 [.bool false,.nils],.blk 51 (Hn (Mz p n d j).1),.blk 51 (Hn (Mz p n d j).2)]) (λj=>p.length-j) (λj=>j<=p.length) 0 (Qi _) rfl (λ_ _=>rfl) rfl λj hj=>?_
 have hv:=Qtq (k:=j) hp hn hd;have hjl:j*(t+1)<=p.length*(t+1):=Qx _ (by omega);have hjl2:j*t<=j*(t+1):=Zk _ (by omega);by_cases hlt:j<p.length
 ·have hc:=Ft hp (p.length-1-j);have hm1:Fq ((Mz p n d j).1*n)<=4294967295:=Qc (Gd _ _) (by omega);have hm2:Fq (p.getD (p.length-1-j) 0*(Mz p n d j).2)<=4294967295:=Qc (Gd _ _) (by omega);refine go tt [.t (by simp; omega),.c [] (Ia (Fb _) (Fb _) (by omega) (by omega)),.r 22 (eI (b:=((p.length-1-j:Nat):Int)) (by omega)),.x (Me (Tj (p:=p) (k:=p.length-1-j) (by omega))),.c [] (Ia (Fb _) (Fb _) (by omega) (by omega)),.c [] (Qds (Fb _) (Fb _) hm1 hm2),.c [] (Ia (Fb _) (Fb _) (by omega) (by omega)),.r 17 (eI (b:=(p.length:Int)-1-((j+1:Nat):Int)) (by omega))] rfl (by simp [U9] <;> omega) ?_;exact rd (j+1) (by omega) hlt rfl
 ·obtain rfl:j=p.length:=by omega
  exact en tt [.f (by simp; omega)] rfl rfl trivial
theorem Dw {p:List Int} (tp:Fg p) (hl:p.length<274877906944) (hp:Bd 4294967295 p):Fa Tryz.prog 306 [pr p] [.agg (Hn (p.getD (p.length-1) 0))]:=by
 have cn:=Ri tp hl hp;by_cases h0:p=[]
 ·subst h0;exact w tt Tryz.func306 rfl [.c [] cn,.t (by simp)] rfl (by simp [Ab]) trivial
 ·have Nl:0<p.length:=Jy.2 h0;exact w tt Tryz.func306 rfl [.c [] cn,.f (by simpa using h0),.r 12 (eI (b:=((p.length-1:Nat):Int)) (by simp; omega)),.x (Me (Tj (by omega)))] rfl rfl (by simp [U9]; omega)
theorem Zkx {a b:Int} {q:Rat} (h1:a=q.num) (h2:b=(q.den:Int)):[sg a,mg a,sg b,mg b]=rl q:=by rw [h1,h2]
theorem Qba {n d:Int} (h0:d≠0) (hn:Fq n<=4294967295) (hd:Fq d<=4294967295):Fa Tryz.prog 225 [.agg (Hn n),.agg (Hn d)] [.agg (rl (Rat.divInt n d))]:=by
 have cg:=Q8i (H6 [n,d]) (λz hz=>by simp at hz; rcases hz with rfl | rfl <;> assumption);have gp:=Qvd (n:=n) h0;have gs:=Q3l (n:=n) h0 hd;have m1:=Ql1 n d;have m2:=Ql2 n d;obtain ⟨g,hg⟩:=nmE (((Hz [n,d]:Nat):Int));rw [<-hg] at cg gp gs m1 m2;by_cases hneg:d<0
 ·obtain ⟨e1,e2⟩:=Zhu (n:=n) hneg;rw [<-hg] at e1 e2;rw [<-Zkx e1 e2];exact w tt Tryz.func225 rfl [.c [] cg,.t (by simpa using hneg),.c [] (Qks (Fb n) hn),.c [] (Qks (Fb d) hd),.c [] (Am (Fb _) (Fb _) (by rw [Hh]; exact hn) gs (by omega) (Q33 m1)),.c [] (Am (Fb _) (Fb _) (by rw [Hh]; exact hd) gs (by omega) (Q33 m2))] rfl rfl trivial
 ·obtain ⟨e1,e2⟩:=Qsb (n:=n) (d:=d) (by omega);rw [<-hg] at e1 e2;rw [<-Zkx e1 e2];exact w tt Tryz.func225 rfl [.c [] cg,.f (by simpa using hneg),.c [] (Am (Fb _) (Fb _) hn gs (by omega) m1),.c [] (Am (Fb _) (Fb _) hd gs (by omega) m2)] rfl rfl trivial
theorem Qjo {x y x' y':LV} {n d:Int} (h1:To x y n) (h2:To x' y' d) (hn:Fq n<=4294967295) (hd:Fq d<=4294967295):Fa Tryz.prog 172 [.agg [x,y,x',y']] [.agg (rl (He n d))]:=by
 have c1:=Lz h1 hn;have c2:=Lz h2 hd;obtain ⟨b,l,rfl,rfl,_⟩:=h1;obtain ⟨b',l',rfl,rfl,_⟩:=h2;by_cases h0:d=0
 ·have e:He n d=Rat.divInt n 1:=by unfold He; rw [if_pos h0]
  rw [e];exact w tt Tryz.func172 rfl [.c [] c2,.c [] Ib,.t (by simpa using h0),.c [] (Qyg (z:=1) (by decide)),.c [] c1,.c [] (Qba (by decide) hn (by decide))] rfl rfl trivial
 ·have e:He n d=Rat.divInt n d:=by unfold He; rw [if_neg h0]
  rw [e];exact w tt Tryz.func172 rfl [.c [] c2,.c [] Ib,.f (by simpa using h0),.c [] c1,.c [] (Qba h0 hn hd)] rfl rfl trivial
theorem Qk3 {q:Rat} (hq:Qs 4294967295 q):Fa Tryz.prog 172 [.agg (rl q)] [.agg (rl q)]:=by
 have:=Qjo (Fb q.num) (Fb (q.den:Int)) hq.1 hq.2;rwa [Qam] at this
theorem Qq7 {a b:Rat} (ha:Qs 2147483647 a) (hb:Qs 2147483647 b):Fa Tryz.prog 213 [.agg (rl a),.agg (rl b)] [.agg (Hn (a.num*(b.den:Int))),.agg (Hn (b.num*(a.den:Int))),.agg (Hn ((a.den:Int)*(b.den:Int)))] :=
 w tt Tryz.func213 rfl [.c [] (Qk3 (ha.mono (by decide))),.c [] (Qk3 (hb.mono (by decide))),.c [] (Ia (Fb _) (Fb _) (Qc ha.1 (by decide)) (Qc hb.2 (by decide))),.c [] (Ia (Fb _) (Fb _) (Qc hb.1 (by decide)) (Qc ha.2 (by decide))),.c [] (Ia (Fb _) (Fb _) (Qc ha.2 (by decide)) (Qc hb.2 (by decide)))] rfl rfl trivial
theorem Ew {a b:Rat} (ha:Qs 2147483647 a) (hb:Qs 2147483647 b):Fa Tryz.prog 159 [.agg (rl a),.agg (rl b)] [.one (.int .i64 (Gv a b))] :=
 w tt Tryz.func159 rfl [.c [] (Qq7 ha hb),.c [] (Qgs (Fb _) (Fb _) (Qc (Gd _ _) (by have:=ha.1; have:=hb.2; omega)) (Qc (Gd _ _) (by have:=hb.1; have:=ha.2; omega)))] rfl rfl trivial
theorem Q9u {x y x' y':LV} {n d:Int} (h1:To x y n) (h2:To x' y' d) (hn:Fq n<=4294967295) (hd:Fq d<=4294967295):Fa Tryz.prog 98 [.agg [x,y,x',y'],.one (.row [])] [.agg (rl (He n d))]:=by
 have c1:=Qjo h1 h2 hn hd;obtain ⟨b,l,rfl,rfl,_⟩:=h1;obtain ⟨b',l',rfl,rfl,_⟩:=h2;refine Hl Tryz.func98 rfl ?_;refine go tt [.c [] c1] rfl trivial ?_;refine lp (S:=Unit) 3 (λL1 _=>(12,.v (.one (.int .i64 0)))::L1) (λ_=>[.blk 72 [.bool b,.row (lm l),.bool b',.row (lm l')],.blk 72 [.bool false,.nils,.bool false,.nils],.blk 72 (rl (He n d))]) (λ_=>0) (λ_=>True) () trivial rfl (λ_ _=>rfl) rfl λ_ _=>?_
 exact en tt [.f (by simp)] rfl rfl trivial
theorem Ow {q:Rat} (hq:Qs 4294967295 q):Fa Tryz.prog 98 [.agg (rl q),.one (.row [])] [.agg (rl q)]:=by
 have:=Q9u (Fb q.num) (Fb (q.den:Int)) hq.1 hq.2;rwa [Qam] at this
theorem Zgg {q:Rat} (hq:Qs 4294967295 q):Fa Tryz.prog 263 [.agg (rl q)] [.agg (rl q)]:=w tt Tryz.func263 rfl [.c [] (Ow hq)] rfl rfl trivial
theorem Q13 {p:List Int} {q:Rat} {s t:Nat} (tp:Fg p) (hl:p.length<274877906944) (hp:Bd s p) (hq:Qs t q) (hst:s+p.length*(t+1)+2*t+10<=4294967295):Fa Tryz.prog 211 [pr p,.agg (rl q)] [.one (.int .i64 (Gl p q))]:=by
 have cc:=Qgs (Fb (Zip p q.num q.den)) Dl (Qc (Qtq hp hq.1 hq.2).1 (by omega)) (by decide);exact w tt Tryz.func211 rfl [.c [] (Zgg (hq.mono (by omega))),.c [] (Ri tp hl (U8 hp (by omega))),.c [] (Q8x hl hp hq.1 hq.2 hst),.c [] cc] rfl rfl trivial
theorem Q9j {p:List Int} {g:Int} (hl:p.length<274877906944) (hp:Bd 4294967295 p) (hg:Fq g≤4294967295) (h0:g≠0) (hd:∀ z∈p,z % g=0):Fa Tryz.prog 245 [pr p,.agg (Hn g)] [pr (trim (p.map (· / g)))]:=by
 refine Hl Tryz.func245 rfl ?_;refine go tt [.r 9 (eI (b:=(p.length:Int)) (by simp)),.i p.length,.i p.length,.r 12 (eI (b:=(p.length:Int)) (by simp))] rfl (by simp [U9]; omega) ?_;rw [E5 λk=>Hn (p.getD k 0 / g)];refine lp (S:=Nat) 2 (λL1 k=>(13,.v (.one (.int .i64 (k:Int))))::L1) (λk=>[.blk 51 (Hn g),.row false 51 2 (fil (λk=>Hn (p.getD k 0 / g)) [.bool false,.nils] p.length k)]) (λk=>p.length-k) (λk=>k<=p.length) 0 (Qi _) rfl (λ_ _=>rfl) rfl λk hk=>?_
 by_cases hlt:k<p.length
 ·have hg2:=Tj hlt;refine go tt [.t (by simp; omega),.x (Me hg2),.c [] (Am (Fb _) (Fb _) (Ft hp k) hg h0 (hd _ (Qa hg2))),.i k] rfl (by simp [U9,A2]; omega) ?_;have e:=Qaa (λk=>Hn (p.getD k 0 / g)) [.bool false,.nils] hlt;rw [e];exact rd (k+1) (by omega) hlt rfl
 ·obtain rfl:k=p.length:=by omega
  have e:fil (λk=>Hn (p.getD k 0 / g)) [.bool false,.nils] p.length p.length=(p.map (· / g)).map Hn:=by
   rw [O9];refine Xq λi=>?_
   by_cases hi:i<p.length
   ·simp [X2 hi,List.getD,Qd hi]
   ·simp [Qt,hi]
  rw [e];exact en tt [.f (by simp),.c [] (Ly (H6 (p.map (· / g))) (by simp; exact hl) (Qgo hp g))] rfl rfl trivial
theorem Qmt (p:List Int):∀ c∈p.map Hn,c.length=2:=Zkt p λ_=>rfl
theorem Qq6 {lx ly:List (List LV)} {px py:List Int} {x y:LV} {d:Int} (hx:IsInts lx px) (hy:IsInts ly py) (hd:To x y d) (hk:Cs 4294967294 1073741824 (Crv.mk px py d)):Fa Tryz.prog 185 [.agg [.row lx,.row ly,x,y]] [.agg (cl (Crv.norm (Crv.mk px py d)))]:=by
 have hlx:=hk.lx;have hly:=hk.ly;simp only at hlx hly;have htx:=Rq px;have hty:=Rq py;have hd1:Fq (Crv.mk px py d).d'<=4294967295:=Qc (Qr3 hk.d (by omega)) (by omega);have hg1:=Crv.isz_g (Crv.mk px py d) hd1;have hg0:=Crv.g_ne (Crv.mk px py d);have hgd:=Crv.g_dvd (Crv.mk px py d);have cx:=Ly hx (by omega) (U8 hk.x (by omega));have cy:=Ly hy (by omega) (U8 hk.y (by omega));have cd:=Lz hd (Qc hk.d (by omega));have bx:Bd 4294967295 (trim px):=U8 (Sr hk.x) (by omega);have by_:Bd 4294967295 (trim py):=U8 (Sr hk.y) (by omega);obtain ⟨b,l,rfl,rfl,_⟩:=hd;obtain ⟨e,he⟩:=nmE ((Crv.mk px py d).d');obtain ⟨g,hgg⟩:=nmE ((Crv.mk px py d).g);obtain ⟨X,hX⟩:=nmE (trim px);obtain ⟨Y,hY⟩:=nmE (trim py);have hnorm:(Crv.mk px py d).norm=⟨trim (X.map (· / g)),trim (Y.map (· / g)),e / g⟩:=by rw [he,hgg,hX,hY]; rfl
 rw [hnorm];have hgdef:g=if e<0 then -((Hz (e::(X++Y)):Nat):Int) else (Hz (e::(X++Y)):Nat):=by rw [hgg,he,hX,hY]; rfl
 have hde:e=if d=0 then 1 else d:=by rw [he]; rfl
 simp only [<-he,<-hgg,<-hX,<-hY] at hd1 hg1 hg0 hgd htx hty cx cy bx by_;clear hnorm hgg he hX hY;refine Hl Tryz.func185 rfl ?_;refine go tt [.c [] cx,.c [] cy,.c [] cd,.c [] Ib] rfl trivial ?_;refine ct 1 (S:=Unit) (λ_=>[(2,.v (.one (.ow 1 0))),(3,.v (pr X)),(4,.v (pr Y)),(5,.v (.one (.ow 2 0)))]) (λ_=>[.blk 53 [.row lx,.row ly,.bool b,.row (lm l)],.blk 53 [.nils,.nils,.bool false,.nils],.blk 51 (Hn e)]) (λ_=>True) rfl ?_ ?_
 ·by_cases h0:d=0
  ·rw [hde,if_pos h0];exact go tt [.t (by simpa using h0),.c [] (Qyg (z:=1) (by decide))] rfl trivial (rc () trivial rfl)
  ·rw [hde,if_neg h0];exact go tt [.f (by simpa using h0)] rfl trivial (rc () trivial rfl)
 ·intro _ _;have hgi:IsInts ([Hn e]++X.map Hn++Y.map Hn) (e::(X++Y)):=by
   have:=H6 (e::(X++Y));simpa using this
  have hgs:∀ z∈e::(X++Y),Fq z≤4294967295:=λz hz=>by
   rcases Qm.1 hz with rfl | hz
   ·exact hd1
   ·rcases Qu.1 hz with hz | hz
    ·exact bx z hz
    ·exact by_ z hz
  have cg:=Q8i hgi hgs;have co1:=Q9j (p:=X) (by omega) bx hg1 hg0 λz hz=>hgd z (Qj _ (J9 _ hz))
  have co2:=Q9j (p:=Y) (by omega) by_ hg1 hg0 λz hz=>hgd z (Qj _ (Yn _ hz))
  have ce:=Am (Fb e) (Fb g) hd1 hg1 hg0 (hgd e (Qw ..));have hszg:=Qjw hgs;by_cases hneg:e<0
  ·rw [if_pos hneg] at hgdef;have cn:=Qks (Fb ((Hz (e::(X++Y)):Nat):Int)) hszg;rw [<-hgdef] at cn;exact en tt [.lo,.s (Qmt X),.s (Qmt Y),.c [] cg,.t (by simpa using hneg),.c [] cn,.c [] ce,.c [] co1,.c [] co2] rfl rfl (by simp [U9]; omega)
  ·rw [if_neg hneg] at hgdef;rw [<-hgdef] at cg;exact en tt [.lo,.s (Qmt X),.s (Qmt Y),.c [] cg,.f (by simpa using hneg),.c [] ce,.c [] co1,.c [] co2] rfl rfl (by simp [U9]; omega)
theorem Que {k:Crv} (hn:Nml k) (hk:Cs 4294967294 1073741824 k):Fa Tryz.prog 185 [.agg (cl k)] [.agg (cl k)]:=by
 have h:=Qq6 (H6 k.x) (H6 k.y) (Fb k.d) hk;rw [Crv.norm_of hn] at h; exact h
theorem Qq5 {lx ly:List (List LV)} {px py:List Int} {x y:LV} {d:Int} (hx:IsInts lx px) (hy:IsInts ly py) (hd:To x y d) (hk:Cs 4294967294 1073741824 (Crv.mk px py d)) (h0:d≠0):Fa Tryz.prog 250 [.one (.row lx),.one (.row ly),.agg [x,y]] [.agg (cl (Crv.norm (Crv.mk px py d))),.one (.int .i64 0)]:=by
 have cd:=Lz hd (Qc hk.d (by omega));have cn:=Qq6 hx hy hd hk;obtain ⟨b,l,rfl,rfl,_⟩:=hd;exact w tt Tryz.func250 rfl [.c [] cd,.c [] Ib,.f (by simpa using h0),.c [] cn] rfl rfl trivial
theorem Zo2 {lx ly:List (List LV)} {px py:List Int} (hx:IsInts lx px) (hy:IsInts ly py) (hk:Cs 4294967294 1073741824 (Crv.mk px py 0)):Fa Tryz.prog 145 [.one (.row lx),.one (.row ly)] [.agg (cl (Crv.norm (Crv.mk px py 0)))] :=
 w tt Tryz.func145 rfl [.c [] (Qq6 hx hy Dl hk)] rfl rfl trivial
def A7 (x y:Int):Crv:=Crv.norm ⟨trim [x],trim [y],0⟩
theorem Quu {x y:Int} (hx:-9223372036854775808<=x/\x<=9223372036854775807) (hy:-9223372036854775808<=y/\y<=9223372036854775807):Cs 64 1 ⟨trim [x],trim [y],0⟩:=by
 have key:∀ z:Int,-9223372036854775808<=z/\z<=9223372036854775807->Fq z<=64:=λz hz=>by
  rw [Sl];have:(2:Nat)^64=18446744073709551616:=by decide
  omega
 refine ⟨Sr λz hz=>?_,Sr λz hz=>?_,Qi _,Rq [x],Rq [y]⟩
 ·rw [Qk] at hz; rw [hz]; exact key x hx
 ·rw [Qk] at hz; rw [hz]; exact key y hy
theorem Qq3 {x y:Int} (hx:-9223372036854775808<=x/\x<=9223372036854775807) (hy:-9223372036854775808<=y/\y<=9223372036854775807):Fa Tryz.prog 76 [.one (.int .i64 x),.one (.int .i64 y)] [.agg (cl (A7 x y))] :=
 w tt Tryz.func76 rfl [.c [] (Q12 (p:=[x]) (show 1<274877906944 by decide) (by intro z hz; rw [Qk] at hz; rw [hz]; exact hx)),.c [] (Q12 (p:=[y]) (show 1<274877906944 by decide) (by intro z hz; rw [Qk] at hz; rw [hz]; exact hy)),.c [] (Zo2 (H6 _) (H6 _) ((Quu hx hy).mono (by omega) (by omega)))] rfl rfl trivial
theorem Zf9 {a b:Crv} (ha:Nml a) (hb:Nml b) (ca:Cs 4294967294 1073741824 a) (cb:Cs 4294967294 1073741824 b):Fa Tryz.prog 249 [.agg (cl a),.agg (cl b)] [.one (.bool (Aw a b))]:=by
 have na:=Que ha ca;have nb:=Que hb cb;have alx:=ca.lx;have aly:=ca.ly;have blx:=cb.lx;have bly:=cb.ly;have sx:=Qq2 (p:=a.x) (q:=b.x) (by omega) (by omega) (U8 ca.x (by omega)) (U8 cb.x (by omega));have sy:=Qq2 (p:=a.y) (q:=b.y) (by omega) (by omega) (U8 ca.y (by omega)) (U8 cb.y (by omega));have sd:=Qgs (Fb a.d) (Fb b.d) (Qc ca.d (by omega)) (Qc cb.d (by omega));rw [ha.1,hb.1] at sx;rw [ha.2.1,hb.2.1] at sy;by_cases h1:a.x=b.x
 ·by_cases h2:a.y=b.y
  ·exact w tt Tryz.func249 rfl [.c [] na,.c [] nb,.c [] sx,.t (by simpa using h1),.c [] sy,.t (by simpa using h2),.c [] sd] rfl (by simp [Aw,h1,h2,Qrf]) trivial
  ·exact w tt Tryz.func249 rfl [.c [] na,.c [] nb,.c [] sx,.t (by simpa using h1),.c [] sy,.f (by simpa using h2)] rfl (by simp [Aw,h1,h2]) trivial
 ·exact w tt Tryz.func249 rfl [.c [] na,.c [] nb,.c [] sx,.f (by simpa using h1),.f rfl] rfl (by simp [Aw,h1]) trivial
theorem Qhs {l:List Pt} {i:Nat} {p:Pt} (h:l[i]? = some p):(l.map H5)[i]? = some [pl p.c.x,pl p.c.y,sg p.c.d,mg p.c.d,.int .i64 p.id]:=Ho h
theorem Qw0 (l:List Pt):∀ c∈l.map H5,c.length=5:=Zkt l λ_=>rfl
theorem Zgd {lx ly:List (List LV)} {px py:List Int} {x y:LV} {d:Int} (hx:IsInts lx px) (hy:IsInts ly py) (hd:To x y d) (hk:Cs 4294967294 1073741824 (Crv.mk px py d)) (id:Int):Fa Tryz.prog 194 [.agg [.row lx,.row ly,x,y,.int .i64 id]] [.agg (H5 ⟨Crv.norm (Crv.mk px py d),id⟩)]:=by
 have cd:=Lz hd (Qc hk.d (by omega));by_cases h0:d=0
 ·subst h0;have ck:Cs 4294967294 1073741824 (Crv.mk px py 1):=⟨hk.x,hk.y,show Fq 1<=4294967294 by decide,hk.lx,hk.ly⟩;have cm:=Qq5 hx hy (Fb 1) ck (by decide);have e:Crv.norm (Crv.mk px py 1)=Crv.norm (Crv.mk px py 0):=by simp only [Crv.norm,Crv.g,Crv.d']; rfl
  rw [e] at cm;obtain ⟨b,l,rfl,rfl,_⟩:=hd;exact w tt Tryz.func194 rfl [.c [] cd,.c [] Ib,.t (by simp),.c [] (Qyg (z:=1) (by decide)),.c [] cm] rfl rfl trivial
 ·have cm:=Qq5 hx hy hd hk h0;obtain ⟨b,l,rfl,rfl,_⟩:=hd;exact w tt Tryz.func194 rfl [.c [] cd,.c [] Ib,.f (by simpa using h0),.c [] cm] rfl rfl trivial
theorem Zo3 {l:List Pt} (id:Int) (hl:l.length<1073741824):Fa Tryz.prog 193 [.agg [pts l],.one (.int .i64 id)] [.one (.int .i64 (pos l id:Int)),.one (.bool (has l id))]:=by
 refine Hl Tryz.func193 rfl ?_;refine go tt [] rfl trivial ?_;refine ct 2 (S:=Unit) (λ_=>[(1,.v (.one (.int .i64 id))),(2,.v (.one (.ow 0 0))),(6,.v (.one (.int .i64 (pos l id:Int))))]) (λ_=>[.blk 80 [pts l]]) (λ_=>True) rfl ?_ ?_
 ·refine lp (S:=Nat) 1 (λL1 k=>(6,.v (.one (.int .i64 (k:Int))))::L1) (λ_=>[.blk 80 [pts l]]) (λk=>l.length-k) (λk=>k<=l.length/\∀ j p,j<k->l[j]? = some p->p.id<id) 0 ⟨Qi _,λj p h=>by omega⟩ rfl (λ_ _=>rfl) rfl λk ⟨hk,hlt⟩=>?_
  by_cases h:k<l.length
  ·obtain ⟨p,hp⟩:=gxE (l:=l) (i:=k) h;by_cases hid:p.id<id
   ·refine go tt [.t (by simp; omega),.x (Qhs hp),.t (by simpa using hid)] rfl (by simp [U9]; omega) ?_;exact rd (k+1) (by omega) ⟨h,λj q hj hq=>by
     rcases Q9 j k with h2 | h2
     ·exact hlt j q h2 hq
     ·have:j=k:=by omega
      subst this; rw [hp] at hq; injection hq with hq; rw [<-hq]; exact hid⟩ rfl
   ·have e:=Q0c hlt (.inr ⟨p,hp,hid⟩);refine go tt [.t (by simp; omega),.x (Qhs hp),.f (by simpa using hid)] rfl trivial ?_;rw [e];exact rc () trivial rfl
  ·obtain rfl:k=l.length:=by omega
   have e:=Q0c hlt (.inl rfl);refine go tt [.f (by simp),.f rfl] rfl trivial ?_;rw [e];exact rc () trivial rfl
 ·intro _ _;by_cases h:pos l id<l.length
  ·obtain ⟨p,hp⟩:=gxE (l:=l) (i:=pos l id) h;have e:has l id=decide (p.id=id):=by simp [has,hp]
   rw [e];exact en tt [.g 30 true (by simp; omega),.x (Qhs hp)] rfl rfl trivial
  ·have e:has l id=false:=by simp [has,Qt (Y3 h)]
   rw [e];exact en tt [.g 30 false (by simp; omega)] rfl rfl trivial
theorem Qq0 {l:List Pt}:Fa Tryz.prog 173 [.agg [pts l]] [.one (pts l)]:=w tt Tryz.func173 rfl [] rfl rfl trivial
theorem Zox {lx ly:List (List LV)} {px py:List Int} {x y:LV} {d id:Int} {l:List Pt} (hx:IsInts lx px) (hy:IsInts ly py) (hd:To x y d) (hk:Cs 4294967294 1073741824 (Crv.mk px py d)) (hl:l.length<=1000000) :
 Fa Tryz.prog 123 [.agg [pts l],.agg [.row lx,.row ly,x,y,.int .i64 id]] [.agg [pts (if Qb8 l (Pt.mk (Crv.norm (Crv.mk px py d)) id)=0 then put l (Pt.mk (Crv.norm (Crv.mk px py d)) id) else l)],.one (.int .i64 (Qb8 l (Pt.mk (Crv.norm (Crv.mk px py d)) id)))]:=by
 have ca:=Zo3 (l:=l) id (by omega);have cf:=Zgd hx hy hd hk id;obtain ⟨b,r,rfl,rfl,_⟩:=hd;obtain ⟨q,hq⟩:=nmE (Pt.mk (Crv.norm (Crv.mk px py d)) id);have hqi:q.id=id:=by rw [hq]
 rw [<-hq] at cf ⊢;have Nl:=Zcs l id;by_cases h1:has l id=true
 ·have e:Qb8 l q=6:=by simp [Qb8,hqi,h1]
  rw [e,if_neg (by decide)];exact w tt Tryz.func123 rfl [.c [] ca,.t h1] rfl rfl trivial
 by_cases h2:6<=l.length
 ·have e:Qb8 l q=9:=by simp [Qb8,hqi,h1,h2]
  rw [e,if_neg (by decide)];exact w tt Tryz.func123 rfl [.c [] ca,.f (by simpa using h1),.t (by simp; omega)] rfl rfl trivial
 have e:Qb8 l q=0:=by simp [Qb8,hqi,h1,h2]
 rw [e,if_pos rfl];have s1:∀ c∈(l.map H5).take (pos l id),c.length=5:=λc hc=>Qw0 l c (Qn hc)
 have s3:∀ c∈(l.map H5).drop (pos l id),c.length=5:=λc hc=>Qw0 l c (Ze hc)
 refine w tt Tryz.func123 rfl [.c [] ca,.f (by simpa using h1),.f (by simp; omega),.i (pos l id),.s s1,.c [] cf,.i (pos l id),.s s3] rfl ?_ ?_
 ·simp [put,hqi,pts,J7,Uj,H5]
 ·simp [U9];exact ⟨by omega,Nl,λ_ _=>rfl,by omega,by omega,Nl⟩
theorem Zb6:∀ (qs:List Pt),(Pi [] qs).1.length<=qs.length:=by
 have key:∀ (qs acc:List Pt),(Pi acc qs).1.length<=acc.length+qs.length:=by
  intro qs
  induction qs with
  | nil=>intro acc; simp [Pi]
  |
   cons q qs ih =>
   intro acc;simp only [Pi]
   split
   ·have:=ih (put acc q); rw [Q4j] at this; simp only [Q7]; omega
   ·simp
 intro qs;have:=key qs [];simpa using this
theorem Zou {zs:List (List LV)} {qs:List Pt} (hz:IsPts 4294967294 1073741824 zs qs) (hl:qs.length<=6):Fa Tryz.prog 129 [.one (.row zs)] [.agg [pts (Pi [] qs).1],.one (.int .i64 (Pi [] qs).2)]:=by
 refine Hl Tryz.func129 rfl ?_;have hzl:=hz.len;refine go tt [.f (by simp; omega)] rfl trivial ?_;refine nlb 1 rfl rfl rfl ?_;refine lp (S:=Nat) 2 (λL1 i=>(14,.v (.one (.int .i64 (i:Int))))::L1) (λi=>[.blk 80 [.nils],.blk 80 [pts (Pi [] (qs.take i)).1]]) (λi=>qs.length-i) (λi=>i<=qs.length/\(Pi [] (qs.take i)).2=0) 0 ⟨Qi _,rfl⟩ rfl (λ_ _=>rfl) rfl λi ⟨hi,h0⟩=>?_
 by_cases hlt:i<qs.length
 ·have hqi:qs[i]? = some qs[i]:=Qd hlt;obtain ⟨z,hzi,lx,ly,b,r,px,py,d,rfl,hx,hy,hd,hk,hc⟩:=hz.get hqi;have hq:(Pt.mk (Crv.norm (Crv.mk px py d)) qs[i].id)=qs[i]:=by rw [<-hc]
  have hst:=Q6t [] qs hqi (by rw [<-h0]);have hnl:=Zb6 (qs.take i);have cp:=Zox (l:=(Pi [] (qs.take i)).1) (id:=qs[i].id) hx hy hd hk (by rw [Qr] at hnl; omega);rw [hq] at cp;by_cases he:Qb8 (Pi [] (qs.take i)).1 qs[i]=0
  ·rw [if_pos he] at hst;rw [he,if_pos rfl] at cp;refine go tt [.t (by simp; omega),.x hzi,.c [] cp,.f rfl] rfl (by simp [U9]; omega) ?_;exact rd (i+1) (by omega) ⟨hlt,by rw [hst]⟩ (by rw [hst]; rfl)
  ·rw [if_neg he] at hst;have herr:=Zb5 [] qs he hst;rw [herr];exact en tt [.t (by simp; omega),.x hzi,.c [] cp,.t (by simpa using he)] rfl rfl trivial
 ·obtain rfl:i=qs.length:=by omega
  rw [Qy] at h0;rw [Qy,h0];exact en tt [.f (by simp; omega)] rfl rfl trivial
theorem Q89 {l:List Pt} (hok:∀ p∈l,Qxy 4294967294 1073741824 p) (hl:l.length<1073741824):Fa Tryz.prog 189 [.agg [pts l]] [.one (pts (Nb l))]:=by
 refine Hl Tryz.func189 rfl ?_;refine go tt [.o 3 135 5] rfl trivial ?_;refine lp (S:=Nat) 2 (λL1 i=>(12,.v (.one (.int .i64 (i:Int))))::(3,.v (.one (.orow 1 5 none)))::L1) (λi=>[.blk 80 [pts l],.row false 135 5 (((l.take i).foldl B6 []).map H5)]) (λi=>l.length-i) (λi=>i<=l.length) 0 (Qi _) rfl (λ_ _=>rfl) rfl λi hi=>?_
 by_cases hlt:i<l.length
 ·obtain ⟨p,hp⟩:=gxE (l:=l) (i:=i) hlt;obtain ⟨hn,hk⟩:=hok p (Qa hp);have hws:=Ru B6 [] l hp;have hwl:=Qdp l i;have hwm:=Qdq l i;obtain ⟨o,ho⟩:=nmE ((l.take i).foldl B6 []);rw [<-ho] at hws hwl hwm ⊢;refine go tt [.t (by simp; omega),.x (Qhs hp)] rfl trivial ?_;refine lp (S:=Nat) 3 (λL1 k=>(18,.v (.one (.int .i64 (k:Int))))::(6,.v (.one (.bool ((o.take k).any λq=>Aw p.c q.c))))::L1) (λk=>[.blk 80 [pts l],.row false 135 5 (o.map H5),.blk 135 (H5 p)]) (λk=>o.length-k) (λk=>k<=o.length) 0 (Qi _) rfl (λ_ _=>rfl) rfl λk hk2=>?_
  by_cases hk3:k<o.length
  ·obtain ⟨q,hq⟩:=gxE (l:=o) (i:=k) hk3;obtain ⟨hqn,hqk⟩:=hok q (hwm q (Qa hq));have hany:((o.take (k+1)).any λq=>Aw p.c q.c)=(((o.take k).any λq=>Aw p.c q.c) || Aw p.c q.c):=by rw [Vf,hq,List.any_append]; simp
   cases hb:(o.take k).any λq=>Aw p.c q.c with
   |
    true =>
    rw [hb] at hany;refine go tt [.t (by simp; omega),.i k,.x (Qhs hq),.t rfl,.r 29 (v:=.one (.bool ((o.take (k+1)).any λq=>Aw p.c q.c))) (by rw [hany]; rfl)] rfl (by simp [U9]; omega) ?_;exact rd (k+1) (by omega) hk3 rfl
   |
    false =>
    rw [hb] at hany;refine go tt [.t (by simp; omega),.i k,.x (Qhs hq),.f rfl,.c [] (Zf9 hn hqn hk hqk),.r 29 (v:=.one (.bool ((o.take (k+1)).any λq=>Aw p.c q.c))) (by rw [hany]; rfl)] rfl (by simp [U9]; omega) ?_;exact rd (k+1) (by omega) hk3 rfl
  ·obtain rfl:k=o.length:=by omega
   rw [Qy];cases hb:o.any λq=>Aw p.c q.c with
   |
    true =>
    have e:B6 o p=o:=by unfold B6; rw [if_pos hb]
    exact go tt [.f (by simp),.f rfl] rfl (by simp [U9]; omega) (rd (i+1) (by omega) hlt (by rw [hws,e]; rfl))
   |
    false =>
    have e:B6 o p=o++[p]:=by unfold B6; rw [if_neg (by rw [hb]; decide)]
    exact go tt [.f (by simp),.t rfl] rfl (by simp [U9]; omega) (rd (i+1) (by omega) hlt (by rw [hws,e,Jo]; rfl))
 ·obtain rfl:i=l.length:=by omega
  exact en tt [.f (by simp)] rfl (by rw [Qy]; rfl) trivial
theorem Qti (q:Rat):Fg [-q.num,(q.den:Int)]:=by
 have:=q.den_nz;simp [Fg,trim,this]
theorem Zoo {s:Nat} {q:Rat} (h:Qs s q):Bd s [-q.num,(q.den:Int)]:=λz hz=>by
 simp at hz;rcases hz with rfl | rfl
 ·rw [Hh]; exact h.1
 ·exact h.2
theorem Zka {x y x' y':LV} {n d:Int} (h1:To x y n) (h2:To x' y' d) (hn:Fq n<=4294967295) (hd:Fq d<=4294967295) (hq:Qs 4294967295 (He n d)):Fa Tryz.prog 83 [.agg [x,y,x',y']] [.agg (qa (He n d))]:=by
 have c1:=Q9u h1 h2 hn hd;obtain ⟨b,l,rfl,rfl,_⟩:=h1;obtain ⟨b',l',rfl,rfl,_⟩:=h2;exact w tt Tryz.func83 rfl [.c [] c1,.c [] (Qks (Fb _) hq.1),.c [] (Ow hq)] rfl rfl trivial
theorem Qet {k:Crv} (hn:Nml k) (hk:Cs 4294967294 1073741824 k):Fa Tryz.prog 230 [.agg (cl k)] [.agg (cl k)]:=by
 have h0:k.d≠0:=by have:=hn.2.2.1; omega
 have cm:=Qq5 (H6 k.x) (H6 k.y) (Fb k.d) hk h0;rw [show Crv.mk k.x k.y k.d=k from rfl,Crv.norm_of hn] at cm;exact w tt Tryz.func230 rfl [.c [] (Lz (Fb k.d) (Qc hk.d (by omega))),.c [] Ib,.f (by simpa using h0),.c [] cm] rfl rfl trivial
theorem Q15 {a b:Crv} (ha:Nml a) (hb:Nml b) (ca:Cb a) (cb:Cb b):Fa Tryz.prog 235 [.agg (cl a),.agg (cl b)] [pr (Hp a b)]:=by
 have l1:=ca.lx;have l2:=cb.lx;have l3:=Gh b.x a.d;have l4:=Gh a.x b.d;exact w tt Tryz.func235 rfl [.c [] (Qet ha (ca.mono (by omega) (by omega))),.c [] (Qet hb (cb.mono (by omega) (by omega))),.c [] (Iu (by omega) (U8 cb.x (by omega)) (Qc ca.d (by omega))),.c [] (Iu (by omega) (U8 ca.x (by omega)) (Qc cb.d (by omega))),.c [] (Qku (by omega) (by omega) (U8 (Gw cb.x ca.d) (by omega)) (U8 (Gw ca.x cb.d) (by omega)))] rfl rfl trivial
theorem Q1v {a b:Crv} (ha:Nml a) (hb:Nml b) (ca:Cb a) (cb:Cb b):Fa Tryz.prog 236 [.agg (cl a),.agg (cl b)] [pr (Re a b)]:=by
 have l1:=ca.ly;have l2:=cb.ly;have l3:=Gh b.y a.d;have l4:=Gh a.y b.d;exact w tt Tryz.func236 rfl [.c [] (Qet ha (ca.mono (by omega) (by omega))),.c [] (Qet hb (cb.mono (by omega) (by omega))),.c [] (Iu (by omega) (U8 cb.y (by omega)) (Qc ca.d (by omega))),.c [] (Iu (by omega) (U8 ca.y (by omega)) (Qc cb.d (by omega))),.c [] (Qku (by omega) (by omega) (U8 (Gw cb.y ca.d) (by omega)) (U8 (Gw ca.y cb.d) (by omega)))] rfl rfl trivial
def Pk (ps:List (List Int)):List (List LV):=ps.map λp=>[pl p]
theorem Ta {ps:List (List Int)} {i:Nat} {p:List Int} (h:ps[i]? = some p):(Pk ps)[i]? = some [pl p]:=Ho h
theorem Q9b {p q:List Int}:Fa Tryz.prog 234 [pr p,pr q] [pr (O6 p q)]:=by
 by_cases h:0<p.length
 ·exact w tt Tryz.func234 rfl [.t (by simp; omega)] rfl (by simp only [O6]; rw [if_pos h]) trivial
 ·exact w tt Tryz.func234 rfl [.f (by simp; exact Qh (by omega))] rfl (by simp only [O6]; rw [if_neg h]) trivial
theorem Q5p:Fa Tryz.prog 233 [.one (.int .i64 1)] [.one (.int .i64 2)]:=w tt Tryz.func233 rfl [.t rfl,.t rfl] rfl rfl trivial
theorem Q5q:Fa Tryz.prog 233 [.one (.int .i64 3)] [.one (.int .i64 3)]:=w tt Tryz.func233 rfl [.f rfl,.f rfl,.t rfl] rfl rfl trivial
theorem Q8n {k i0 i1 i2 i3 l j0 j1 j2 j3:Int}:Fa Tryz.prog 152 [.agg [.int .i64 k,.int .i64 i0,.int .i64 i1,.int .i64 i2,.int .i64 i3],.agg [.int .i64 l,.int .i64 j0,.int .i64 j1,.int .i64 j2,.int .i64 j3]] [.one (.bool (Tq [k,i0,i1,i2,i3] [l,j0,j1,j2,j3]))]:=by
 by_cases hk:k=l
 ·subst hk;rw [show Tq [k,i0,i1,i2,i3] [k,j0,j1,j2,j3]=Tq [i0,i1,i2,i3] [j0,j1,j2,j3] from by simp [Tq]];refine Hl Tryz.func152 rfl ?_;refine go tt [.f (by simp)] rfl trivial ?_;refine lp (S:=Nat) 2 (λL1 i=>(19,.v (.one (.int .i64 (i:Int))))::L1) (λ_=>[.blk 88 [.int .i64 k,.int .i64 i0,.int .i64 i1,.int .i64 i2,.int .i64 i3],.blk 88 [.int .i64 k,.int .i64 j0,.int .i64 j1,.int .i64 j2,.int .i64 j3]]) (λi=>4-i) (λi=>i<=4/\Tq ([i0,i1,i2,i3].drop i) ([j0,j1,j2,j3].drop i)=Tq [i0,i1,i2,i3] [j0,j1,j2,j3]) 0 ⟨by omega,rfl⟩ rfl (λ_ _=>rfl) rfl λi ⟨hi,he⟩=>?_
  rw [<-he];rcases (show i=0\/i=1\/i=2\/i=3\/i=4 by omega) with rfl | rfl | rfl | rfl | rfl
  ·by_cases h:i0=j0
   ·exact go tt [.t rfl,.i 0,.i 0,.f (by simpa using h)] rfl (by simp [U9]) (rd 1 (by omega) ⟨by omega,by simp [Tq,h]⟩ rfl)
   ·exact en tt [.t rfl,.i 0,.i 0,.t (by simpa using h),.i 0] rfl (by simp [Tq,h]) trivial
  ·by_cases h:i1=j1
   ·exact go tt [.t rfl,.i 1,.i 1,.f (by simpa using h)] rfl (by simp [U9]) (rd 2 (by omega) ⟨by omega,by simp [Tq,h]⟩ rfl)
   ·exact en tt [.t rfl,.i 1,.i 1,.t (by simpa using h),.i 1] rfl (by simp [Tq,h]) trivial
  ·by_cases h:i2=j2
   ·exact go tt [.t rfl,.i 2,.i 2,.f (by simpa using h)] rfl (by simp [U9]) (rd 3 (by omega) ⟨by omega,by simp [Tq,h]⟩ rfl)
   ·exact en tt [.t rfl,.i 2,.i 2,.t (by simpa using h),.i 2] rfl (by simp [Tq,h]) trivial
  ·by_cases h:i3=j3
   ·exact go tt [.t rfl,.i 3,.i 3,.f (by simpa using h)] rfl (by simp [U9]) (rd 4 (by omega) ⟨by omega,by simp [Tq,h]⟩ rfl)
   ·exact en tt [.t rfl,.i 3,.i 3,.t (by simpa using h),.i 3] rfl (by simp [Tq,h]) trivial
  ·exact en tt [.f rfl] rfl (by simp [Tq]) trivial
 ·exact w tt Tryz.func152 rfl [.t (by simpa using hk)] rfl (by simp [Tq,hk]) trivial
abbrev zCt:List LV:=[.int .i64 0,.int .i64 0,.int .i64 0,.int .i64 0,.int .i64 0,.nils,.int .i64 0]
def Gm (l:List Ct):List (List LV):=l.map Qdd
theorem Qdx {l:List Ct} {i:Nat} {c:Ct} (h:l[i]? = some c):(Gm l)[i]? = some (Qdd c):=Ho h
theorem Dh (l:List Ct):(Gm l).length=l.length:=by simp [Gm]
theorem Zab (l:List Ct):∀ c∈Gm l,c.length=7:=λc hc=>by
 obtain ⟨x,_,rfl⟩:=Zp.1 hc; rfl
theorem Zbo {O:List Ct} {z:List LV} {c:Ct} {k m:Nat} {l2:List (List LV)} (hk:k<=O.length) (hp:Qb3 O c O.length=k) (hm:m=O.length-k) (h2:l2.take m=((Gm O++[z]).drop k).take m) :
 ((Gm O++[z]).take (k+1)++(l2.take m++(Gm O++[z]).drop (k+1+m))).set k (Qdd c)=Gm (Qd2 O c):=by
 rw [h2,<-Zm,Qvm (Gm O) z (Qdd c) (by rw [Dh]; omega) (by rw [Dh]; omega)];simp [Qd2,hp,Gm,J7,Uj]
theorem Qyj {l:List Ct} (hl:∀ c∈l,Pb c.p) (hn:l.length≤1000000):Fa Tryz.prog 86 [.one (.row (Gm l))] [.one (.row (Gm (H8 l)))]:=by
 have hcl:=Dh l;refine Hl Tryz.func86 rfl ?_;refine go tt [.o 3 90 7] rfl trivial ?_;refine lp (S:=Nat) 1 (λL1 i=>(9,.v (.one (.int .i64 (i:Int))))::(3,.v (.one (.orow 0 7 none)))::L1) (λi=>[.row false 90 7 (Gm (H8 (l.take i)))]) (λi=>l.length-i) (λi=>i<=l.length) 0 (Qi _) rfl (λ_ _=>rfl) rfl λi hi=>?_
 by_cases hlt:i<l.length
 ·obtain ⟨c,hc⟩:=gxE (l:=l) (i:=i) hlt;have hst:=Q07 hc;have hcp:=hl c (Qa hc);obtain ⟨O,hO⟩:=nmE (H8 (l.take i));have hOl:O.length=i:=by rw [hO,Ep,Qr]; omega
  rw [<-hO] at hst ⊢;refine go tt [.t (by simp [hcl]; omega),.x (Qdx hc)] rfl trivial ?_;refine lp (S:=Nat) 2 (λL1 k=>(6,.v (.one (.int .i64 (k:Int))))::L1) (λk=>[.row false 90 7 (Gm O),.blk 90 (Qdd c)]) id (λk=>k<=O.length/\Qb3 O c k=Qb3 O c O.length) (Gm O).length ⟨by rw [Dh]; exact Ql _,by rw [Dh]⟩ rfl (λ_ _=>rfl) rfl λk ⟨hk,hp⟩=>?_
  have hz:∀ y∈[zCt],y.length=7:=λy hy=>by rw [Qk.1 hy]; rfl
  have h77:∀ y∈Gm O++[zCt],y.length=7:=λy hy=>by
   rcases Qu.1 hy with hy | hy
   ·exact Zab O y hy
   ·exact hz y hy
  cases k with
  |
   zero =>
   have hp:Qb3 O c O.length=0:=by rw [<-hp]; rfl
   refine go tt [.g 17 false (by simp),.f rfl,.s (sz:=7) hz,.r 36 (eI (b:=((0+1:Nat):Int)) (by simp)),.i (0+1),.i (0),.s (sz:=7) (λy hy=>h77 y (Qn hy)),.i (O.length),.c [] (Ri hcp.t (by have:=hcp.l; omega) (U8 hcp.b (by omega))),.i (0)] rfl (by simp [U9,Dh]; omega) ?_;exact rd (i+1) (by omega) hlt (by rw [hst,<-Zbo (z:=zCt) (l2:=(Gm O++[zCt]).take ((Gm O++[zCt]).length-0)) (k:=0) (m:=O.length) (by omega) hp (by omega) (by congr 1; exact Qo (by simp))]; rfl)
  |
   succ k =>
   obtain ⟨x,hx⟩:=gxE (l:=O) (i:=k) (by omega);by_cases hlc:So c x=true
   ·refine go tt [.g 17 true (by simp),.r 22 (eI (b:=(k:Int)) (by simp)),.i k,.x (Qdx hx),.c [] Q8n,.t hlc,.r 29 (eI (b:=(k:Int)) (by simp))] rfl (by simp [U9,Dh]; omega) ?_;exact rd k (by simp) ⟨by omega,by rw [<-hp,Zif hx hlc]⟩ rfl
   ·have hlc:So c x=false:=by simpa using hlc
    have hp:Qb3 O c O.length=k+1:=by rw [<-hp,Zcr hx hlc]
    refine go tt [.g 17 true (by simp),.r 22 (eI (b:=(k:Int)) (by simp)),.i k,.x (Qdx hx),.c [] Q8n,.f hlc,.s (sz:=7) hz,.r 36 (eI (b:=((k+1+1:Nat):Int)) (by simp)),.i (k+1+1),.i (k+1),.s (sz:=7) (λy hy=>h77 y (Ze (Qn hy))),.i (O.length-(k+1)),.c [] (Ri hcp.t (by have:=hcp.l; omega) (U8 hcp.b (by omega))),.i (k+1)] rfl (by simp [U9,Dh]; omega) ?_;exact rd (i+1) (by omega) hlt (by rw [hst,<-Zbo (z:=zCt) (l2:=((Gm O++[zCt]).drop (k+1)).take ((Gm O++[zCt]).length-(k+1))) (k:=k+1) (m:=O.length-(k+1)) (by omega) hp (by omega) (by congr 1; exact Qo (by simp))]; rfl)
 ·obtain rfl:i=l.length:=by omega
  rw [Qy];exact en tt [.f (by simp [hcl])] rfl rfl trivial
end Orr
namespace Orr
def Fu (p:List Int):Int:=p.getD (p.length-1) 0
def chk (p:List Int):Option (List Int):=if p.length<=64/\(p.all λz=>Nat.ble (Fq z) 16777216)=true then some p else none
def chq (q:Rat):Option Rat:=if Fq q.num<=16777216/\Fq (q.den:Int)<=16777216 then some q else none
def Se (p:List Int):Int:=(Hz p:Nat)
def Db (p:List Int) (c:Int):List Int:=trim (p.map (· / c))
def Ha (p:List Int):Int:=if Fu p<0 then -Se p else Se p
def Fi (p:List Int):List Int:=if p.length=0 then [] else Db p (Ha p)
def mono (i:Nat) (x:Int):List Int:=List.replicate i 0++[x]
def psd (b:List Int) (c:Int):Nat->List Int×List Int->List Int×List Int
 | 0,s=>s
 |
  i+1,(q,r) =>
  psd b c i (Ii (Gb q c) (mono i (if r.length=b.length+i then Fu r else 0)),Pa (Gb r c) (Gs (trim (mono i (if r.length=b.length+i then Fu r else 0))) b))
def Mf (a b:List Int):List Int:=(psd b (Fu b) (a.length+1-b.length) ([],a)).2
def Ng (a b r:List Int):List Int:=if (a.length+1-b.length) % 2=1/\Fu b<0 then P0 r else r
def Ad (r:List Int):List Int:=if r.length=0 then [] else Db r (Se r)
def Hi (a b:List Int):List Int:=Ad (Ng a b (Mf a b))
def Qsr (b:List Int):Nat->List Int->List Int->Option (List Int)
 | 0,a,q=>if a.length=0 then some q else none
 | i+1,a,q=>if a.length<b.length+i then Qsr b i a q else if Fu a % Fu b=0 then Qsr b i (Pa a (Gs (trim (mono i (Fu a / Fu b))) b)) (q.set i (Fu a / Fu b)) else none
def Qb4 (a b:List Int):Option (List Int):=if b.length=0 then none else (Qsr b (a.length+1-b.length) a (List.replicate (a.length+1-b.length) 0)).bind λq=>chk (trim q)
def Qh3:Nat->List Int->List Int->Option (List Int)
 | 0,_,_=>none
 | k+1,a,b=>if b.length=0 then some a else (chk (Hi a b)).bind λr=>Qh3 k b r
def Qb7 (a b:List Int):Option (List Int):=(Qh3 66 (Fi a) (Fi b)).map Fi
def Qst (a b:List Int):Option (List Int):=(Qb7 [] a).bind λg=>Qb7 g b
def Mj (a:List Int):Option (List Int):=if (Fi a).length<2 then some (Fi a) else (chk (Gj (Fi a))).bind λd=>(Qb7 (Fi a) d).bind λg=>Qb4 (Fi a) g
def Qhi:Nat->List Int->Option (List (List Int))
 | 0,_=>none
 | k+1,g=>if g.length<2 then some [] else (chk (Gj g)).bind λd=>(Qb7 g d).bind λh=>(Qb4 g h).bind λw=>(Qhi k h).bind λl=>some (w::l)
def Qny:List (List Int)->Option (List (List Int))
 | []=>some []
 | [w]=>some [w]
 | w::v::l=>(Qb4 w v).bind λf=>(Qny (v::l)).bind λr=>some (f::r)
def Qfm:Nat->List Int->List (List Int)->Option (List Int)
 | _,p,[]=>some p
 | i,p,f::l=>if i % 2=0 then (chk (Gs p f)).bind λq=>Qfm (i+1) q l else Qfm (i+1) p l
def Q0a (a:List Int):Option (List Int):=if (Fi a).length=0 then some [] else (Qhi 66 (Fi a)).bind λl=>(Qny l).bind λfs=>Qfm 0 [1] fs
def chF:Nat->List Int->List Int->Option (List (List Int))
 | 0,_,_=>none
 | k+1,a,b=>if b.length=0 then some [] else (chk (Hi a b)).bind λr=>(chF k b (P0 r)).bind λl=>some (b::l)
def chain (p:List Int):Option (List (List Int)):=(Mj p).bind λa=>if a.length=0 then none else (chk (Gj a)).bind λd=>(chF 66 a (Fi d)).bind λl=>some (a::l)
def Ts (sg:List Int->Int) (s:Nat×Int) (p:List Int):Nat×Int:=if sg p=0 then s else (if s.2=-(sg p) then s.1+1 else s.1,sg p)
def Nt (sg:List Int->Int) (l:List (List Int)):Nat:=(l.foldl (Ts sg) (0,0)).1
def Mk (l:List (List Int)) (q:Rat):Nat:=Nt (λp=>Gl p q) l
def Rm (l:List (List Int)) (lo hi:Rat):Int:=if Gv hi lo<0 then 0 else (Mk l lo:Int)-(Mk l hi:Int)
def Qe0 (p:List Int):Int:=Int.sign (Fu p)
def Qa2 (p:List Int):Int:=if p.length % 2=0 then -Int.sign (Fu p) else Int.sign (Fu p)
def Qca (l:List (List Int)):Int:=(Nt Qa2 l:Int)-(Nt Qe0 l:Int)
def most:List Int->Nat:=λl=>l.foldl (λm z=>if m<z.natAbs then z.natAbs else m) 0
def Hb (p:List Int):Rat:=Rat.divInt (((Fu p).natAbs:Int)+(most (p.take (p.length-1)):Int)) ((Fu p).natAbs:Int)
def mid (a b:Rat):Rat:=Rat.divInt (a.num*(b.den:Int)+b.num*(a.den:Int)) ((a.den:Int)*(b.den:Int)*2)
def Ae (p:List Int) (c:List (List Int)):Nat->Rat->Rat->Int->Option (List Tm)
 | 0,_,_,_=>none
 | k+1,lo,hi,n=>if n=0 then some [] else if n=1 then some [⟨p,lo,hi⟩] else (chq (mid lo hi)).bind λm=>(Ae p c k lo m (Rm c lo m)).bind λl=>(Ae p c k m hi (n-Rm c lo m)).bind λr=>some (l++r)
def Qm5 (p:List Int):Option (List Tm):=(chain p).bind λc=>(Mj p).bind λq=>(chq (Hb q)).bind λb=>Ae q c 100000 (-b) b (Qca c)
def Tm.point (a:Tm):Bool:=decide (0<=Gv a.lo a.hi)
def low (p:List Int) (q:Rat):Int:=if Gl p q≠0 then Gl p q else Gl (Gj p) q
def Qe5 (p:List Int) (lo hi:Rat):Bool:=decide (Gl p hi=0\/Gl p hi≠low p lo)
def Fv (a:Tm) (t:Rat):Int :=
 if a.point=true then Gv a.lo t else if Gv t a.lo<=0 then 1 else if 0<Gv t a.hi then -1 else if Gl a.p t=0 then 0 else if Gl a.p t=low a.p a.lo then 1 else -1
def Qrz (a:Tm):Option Tm:=if a.point=true then some a else (chq (mid a.lo a.hi)).bind λm =>
 some (if Fv a m=0 then ⟨a.p,m,m⟩ else if Fv a m=-1 then ⟨a.p,a.lo,m⟩ else ⟨a.p,m,a.hi⟩)
def Hd (p:List Int):Nat:=p.foldl (λn z=>max n (Fq z)) 0
def Mg (a b:Tm):Nat:=64+2*(Fq a.lo.num+Fq a.hi.num+Fq b.lo.num+Fq b.hi.num)+4*(a.p.length+b.p.length)*(Hd a.p+Hd b.p+(a.p.length+b.p.length)+8)
def Qm7 (a b:Rat):Rat:=Rat.divInt (a.num*(b.den:Int)-b.num*(a.den:Int)) ((a.den:Int)*(b.den:Int))
def D7 (a b:Tm):Bool:=decide (Gv a.hi b.lo<=0/\¬((a.point=true/\b.point=true)/\Gv a.hi b.lo=0))
def apF:Nat->Tm->Tm->Option (Tm×Tm×Int)
 | 0,a,b=>some (a,b,0)
 |
  k+1,a,b=>if D7 a b=true then some (a,b,-1) else if D7 b a=true then some (a,b,1) else
  if 0<=Gv (Qm7 a.hi a.lo) (Qm7 b.hi b.lo) then (Qrz a).bind λx=>apF k x b else (Qrz b).bind λx=>apF k a x
def Qja (a b:Tm):Option Int:=if a.point=true then some (-Fv b a.lo) else if b.point=true then some (Fv a b.lo) else
 let lo:=if 0<Gv b.lo a.lo then b.lo else a.lo
 let hi:=if Gv b.hi a.hi<0 then b.hi else a.hi
 if Gv lo hi<0 then (Qst a.p b.p).bind λg=>if 1<g.length/\Qe5 g lo hi=true then some 0 else (apF (Mg a b) a b).bind λr=>some r.2.2
 else (apF (Mg a b) a b).bind λr=>some r.2.2
def sgF (c:List (List Int)):Nat->Tm->Option Tm
 | 0,a=>some a
 | k+1,a=>if a.point=true\/Rm c a.lo a.hi=0 then some a else (Qrz a).bind λx=>sgF c k x
def Qnd (p:List Int) (a:Tm):Option Int:=if p.length=0 then some 0 else if a.point=true then some (Gl p a.lo) else
 (Qst p a.p).bind λg=>if 1<g.length/\Qe5 g a.lo a.hi=true then some 0 else (chain p).bind λc=>(sgF c (64+2*(Fq a.lo.num+Fq a.hi.num)+4*(a.p.length+p.length)*(Hd a.p+Hd p+(a.p.length+p.length)+8)) a).bind λx=>some (Gl p x.hi)
def Qag:Tm->List Tm->Option Tm
 | b,[]=>some b
 | b,a::l=>(Qja a b).bind λc=>Qag (if c<0 then a else b) l
def Qdj (a:Tm):List Tm->Option (Option Tm)
 | []=>some none
 | r::l=>(Qja r a).bind λc=>if 0<c then some (some r) else Qdj a l
def Il (p:List Int):Option (List Tm):=(Q0a p).bind λq=>if q.length=0 then some [] else Qm5 q
def Qiu (p:List Int) (a:Tm):Option (Option Tm):=(Il p).bind λl=>Qdj a l
end Orr
namespace Orr
open Go Go.Proofs
set_option maxRecDepth 10000
theorem Dz {p:List Int} (tp:Fg p) (h:p.length≠0):Fu p≠0:=Hr tp (by omega)
theorem Qme {p:List Int} (h:p.length≠0):Fu p∈p:=Qa (Tj (by omega))
theorem Nm {s:Nat} {p:List Int} (h:Bd s p):Fq (Fu p)<=s:=Ft h _
theorem Ek {p:List Int}:∀ z∈p,Se p∣z:=Qbp
theorem I7 {p:List Int} (tp:Fg p) (h:p.length≠0):Se p≠0:=λh0=>Dz tp h (Int.zero_dvd.1 (h0 ▸ Ek _ (Qme h)))
theorem Qcq {p:List Int} (h:Bd 4294967295 p):Fq (Se p)<=4294967295:=Qjw h
theorem Q4c {p:List Int} (tp:Fg p) (h:p.length≠0):Ha p≠0:=by
 have:=I7 tp h;unfold Ha; split <;> omega
theorem Qfr {p:List Int}:∀ z∈p,Ha p∣z:=λz hz=>by
 unfold Ha; split
 ·exact U5.2 (Ek z hz)
 ·exact Ek z hz
theorem Zbq {p:List Int} (h:Bd 4294967295 p):Fq (Ha p)<=4294967295:=by
 unfold Ha; split
 ·rw [Hh]; exact Qcq h
 ·exact Qcq h
theorem Qkm {s:Nat} {p:List Int} (h:Bd s p) (c:Int):Bd s (Db p c):=Sr (Qgo h c)
theorem Qpf (p:List Int) (c:Int):(Db p c).length<=p.length:=Qc (Rq _) (by simp)
theorem Qao (p:List Int) (c:Int):Fg (Db p c):=Rl _
theorem Zcl {p:List Int} (h:Pb p) (c:Int):Pb (Db p c):=⟨Qao _ _,Qc (Qpf _ _) h.l,Qkm h.b c⟩
theorem Qhp:Pb []:=⟨rfl,by simp,Qa9⟩
theorem Tl {p:List Int} (h:Pb p):Pb (Fi p):=by
 unfold Fi; split
 ·exact Qhp
 ·exact Zcl h _
theorem Pb.bd {p:List Int} (h:Pb p):Bd 4294967295 p:=U8 h.b (by omega)
theorem Pb.ln {p:List Int} (h:Pb p):p.length<274877906944:=Zz h.l (by omega)
theorem Pb.ln' {p:List Int} (h:Pb p):p.length<8589934592:=Zz h.l (by omega)
theorem Oy {p q:List Int} (tp:Fg p) (h:chk p=some q):q=p/\Pb p:=by
 unfold chk at h
 split at h
 ·rename_i hc;injection h with h;refine ⟨h.symm,tp,hc.1,λz hz=>?_⟩;have:=Yz.1 hc.2 z hz;exact Xs this
 ·cases h
theorem Q19 {p:List Int} {g:Int} (hl:p.length<274877906944) (hp:Bd 4294967295 p) (hg:Fq g≤4294967295) (h0:g≠0) (hd:∀ z∈p,g∣z):Fa Tryz.prog 308 [pr p,.agg (Hn g)] [pr (Db p g)]:=by
 refine Hl Tryz.func308 rfl ?_;refine go tt [.r 9 (eI (b:=(p.length:Int)) (by simp)),.i p.length,.i p.length,.r 12 (eI (b:=(p.length:Int)) (by simp))] rfl (by simp [U9]; omega) ?_;rw [E5 λk=>Hn (p.getD k 0 / g)];refine lp (S:=Nat) 2 (λL1 k=>(13,.v (.one (.int .i64 (k:Int))))::L1) (λk=>[.blk 51 (Hn g),.row false 51 2 (fil (λk=>Hn (p.getD k 0 / g)) [.bool false,.nils] p.length k)]) (λk=>p.length-k) (λk=>k<=p.length) 0 (Qi _) rfl (λ_ _=>rfl) rfl λk hk=>?_
 by_cases hlt:k<p.length
 ·have hg2:=Tj hlt;refine go tt [.t (by simp; omega),.x (Me hg2),.c [] (Am (Fb _) (Fb _) (Ft hp k) hg h0 (Ya (hd _ (Qa hg2)))),.i k] rfl (by simp [U9,A2]; omega) ?_;have e:=Qaa (λk=>Hn (p.getD k 0 / g)) [.bool false,.nils] hlt;rw [e];exact rd (k+1) (by omega) hlt rfl
 ·obtain rfl:k=p.length:=by omega
  have e:fil (λk=>Hn (p.getD k 0 / g)) [.bool false,.nils] p.length p.length=(p.map (· / g)).map Hn:=by
   rw [O9];refine Xq λi=>?_
   by_cases hi:i<p.length
   ·simp [X2 hi,List.getD,Qd hi]
   ·simp [Qt,hi]
  rw [e];exact en tt [.f (by simp),.c [] (Ly (H6 (p.map (· / g))) (by simp; exact hl) (Qgo hp g))] rfl rfl trivial
theorem Qgq {p:List Int} (hl:p.length<8589934592) (hp:Bd 4294967295 p):Fa Tryz.prog 309 [.one (.row [[pl p]])] [.agg (Hn (Se p))]:=by
 refine Hl Tryz.func309 rfl ?_;refine go tt [.o 3 51 2] rfl trivial ?_;refine lp (S:=Nat) 2 (λL1 i=>(8,.v (.one (.int .i64 (i:Int))))::(3,.v (.one (.orow 1 2 none)))::L1) (λi=>[.blk 51 [.bool false,.nils],.row false 51 2 (if i=0 then [] else p.map Hn)]) (λi=>1-i) (λi=>i<=1) 0 (Qi _) rfl (λ_ _=>rfl) rfl λi hi=>?_
 rcases (show i=0\/i=1 by omega) with rfl | rfl
 ·refine go tt [.t rfl,.x (i:=0) (xs:=[pl p]) rfl,.s (Qmt p)] rfl (by simp [U9]; omega) ?_;exact rd 1 (by omega) (by omega) rfl
 ·exact en tt [.f rfl,.c [] (Q8i (H6 p) hp)] rfl rfl trivial
theorem Q9l {p:List Int} (tp:Fg p) (hl':p.length<8589934592) (hp:Bd 4294967295 p):Fa Tryz.prog 304 [pr p] [.agg (Hn (if p.length=0 then 0 else Ha p)),pr (Fi p)]:=by
 have hl:p.length<274877906944:=by omega
 have cn:=Ri tp hl hp;by_cases h0:p.length=0
 ·have e:p=[]:=Qh h0;subst e;exact w tt Tryz.func304 rfl [.c [] cn,.t rfl] rfl (by simp [Ab,Fi]; rfl) trivial
 ·have hpf:Fi p=Db p (Ha p):=by unfold Fi; rw [if_neg h0]
  rw [if_neg h0,hpf];have co:=Q19 hl hp (Zbq hp) (Q4c tp h0) Qfr;by_cases hneg:Fu p<0
  ·have e:Ha p=-Se p:=by unfold Ha; rw [if_pos hneg]
   rw [e] at co ⊢;exact w tt Tryz.func304 rfl [.c [] cn,.f (by simpa using h0),.c [] (Qgq hl' hp),.c [] (Dw tp hl hp),.t (by simpa [Fu] using hneg),.c [] (Qks (Fb _) (Qcq hp)),.c [] co] rfl rfl trivial
  ·have e:Ha p=Se p:=by unfold Ha; rw [if_neg hneg]
   rw [e] at co ⊢;exact w tt Tryz.func304 rfl [.c [] cn,.f (by simpa using h0),.c [] (Qgq hl' hp),.c [] (Dw tp hl hp),.f (by simpa [Fu] using hneg),.c [] co] rfl rfl trivial
theorem Ao {p:List Int} (hp:Pb p):Fa Tryz.prog 268 [pr p] [pr (Fi p)] :=
 w tt Tryz.func268 rfl [.c [] (Q9l hp.t hp.ln' hp.bd)] rfl rfl trivial
theorem Bq (p:List Int):Fa Tryz.prog 161 [pr p] [.one (.int .i64 ((p.length:Int)-1))]:=by
 have h:Fa Tryz.prog 161 [pr p] [.one (.int .i64 (((p.map Hn).length:Int)-1))]:=Hl Tryz.func161 rfl (ln 0 rfl rfl λhl=>en tt [] rfl rfl (by simp [U9] at hl ⊢; omega));rw [Q8] at h; exact h
theorem I3 (i:Nat) (x:Int):(mono i x).length=i+1:=by simp [mono]
theorem Qkk {s i:Nat} {x:Int} (h:Fq x<=s):Bd s (mono i x):=λz hz=>by
 simp only [mono,Qu,Qk] at hz;rcases hz with hz | rfl
 ·rw [(List.mem_replicate.1 hz).2,Nn]; exact Qi _
 ·exact h
def stq (c:Int) (i:Nat) (x:Int) (q:List Int):List Int:=Ii (Gb q c) (mono i x)
def str (b:List Int) (c:Int) (i:Nat) (x:Int) (r:List Int):List Int:=Pa (Gb r c) (Gs (trim (mono i x)) b)
theorem Zli {u t i:Nat} {c x:Int} {q:List Int} (hq:Bd u q) (hc:Fq c<=t) (hx:Fq x<=u):Bd (u+t+8) (stq c i x q) :=
 U8 (Qqx (Gw hq hc) (Qkk hx)) (by omega)
theorem Zhr {c x:Int} {i:Nat} {q:List Int}:(stq c i x q).length<=max q.length (i+1):=by
 have h:=Qmg (Gb q c) (mono i x);have h1:=Gh q c;rw [I3] at h;unfold stq; omega
theorem Qr6 {i:Nat} {x:Int} {b:List Int}:(Gs (trim (mono i x)) b).length<=i+b.length:=by
 have h:=Qbu (trim (mono i x)) b;have h1:=Rq (mono i x);rw [I3] at h1; omega
theorem Q1u {u t i:Nat} {x:Int} {b:List Int} (hb:Bd t b) (hx:Fq x<=u) (hi:i<=64):Bd (u+t+7) (Gs (trim (mono i x)) b) :=
 Qeo (Sr (Qkk hx)) hb (Zz (Rq _) (by rw [I3]; omega))
theorem Qx4 {u t i:Nat} {c x:Int} {b r:List Int} (hr:Bd u r) (hb:Bd t b) (hc:Fq c<=t) (hx:Fq x<=u) (hi:i<=64):Bd (u+t+8) (str b c i x r) :=
 U8 (Lv (Gw hr hc) (Q1u hb hx hi)) (by omega)
theorem Qr7 {c x:Int} {i:Nat} {b r:List Int}:(str b c i x r).length<=max r.length (i+b.length):=by
 have h:=No (Gb r c) (Gs (trim (mono i x)) b);have h1:=Gh r c;have h2:=Qr6 (i:=i) (x:=x) (b:=b);unfold str; omega
theorem Qv3 (i:Nat) (x:Int):((List.replicate (i+1) (0:Int)).map Hn).set i (Hn x)=(mono i x).map Hn:=by
 rw [Qz8,mono];congr 1;refine Xq λj=>?_
 simp only [Yt,List.getElem?_append,Yd,X9];by_cases h:j=i
 ·subst h; simp
 ·rw [if_neg (by omega)];by_cases h2:j<i
  ·simp [h2]; omega
  ·rw [if_neg (by omega),if_neg h2];cases hj:j-i with
   | zero=>omega
   | succ m=>simp
theorem Q30 (i:Nat) {x:Int} {y:List LV} (h:y.map Qjd=Hn x):(((List.replicate (i+1) [LV.bool false,LV.nils]).set i y).map λc=>c.map Qjd)=(mono i x).map Hn:=by
 rw [Kf,Qj7,h]; exact Qv3 i x
theorem Qb6 {b:List Int} {c:Int} {i:Nat} {q r:List Int} {x:Int} (hx:x=if r.length=b.length+i then Fu r else 0):psd b c (i+1) (q,r)=psd b c i (stq c i x q,str b c i x r):=by
 subst hx; rfl
theorem Q8w {a b:List Int} (ha:Pb a) (hb:Pb b) (h0:b.length≠0):Fa Tryz.prog 305 [pr a,pr b] [pr (psd b (Fu b) (a.length+1-b.length) ([],a)).1,pr (Mf a b),.one (.int .i64 ((a.length+1-b.length:Nat):Int)),.one (.int .i64 0)]:=by
 have hal:=ha.l;have hbl:=hb.l;have hlb:Fq (Fu b)<=16777216:=Nm hb.b;obtain ⟨c,hc⟩:=nmE (Fu b);have cl:=Dw hb.t hb.ln hb.bd;rw [show b.getD (b.length-1) 0=c from hc.symm] at cl;obtain ⟨k,hk⟩:=nmE (a.length+1-b.length);unfold Mf;rw [<-hc,<-hk];rw [<-hc] at hlb;refine Hl Tryz.func305 rfl ?_;refine go tt [.z 4,.c [] (Ri ha.t ha.ln ha.bd),.c [] (Ri hb.t hb.ln hb.bd),.f (by simpa using h0),.c [] cl,.c [] (Bq a),.c [] (Bq b),.r 27 (eI (b:=(k:Int)) (by omega))] rfl (by simp [U9]; omega) ?_;refine lp (S:=Nat×List Int×List Int) 1 (λL1 s=>(4,.v (pr s.2.1))::(5,.v (pr s.2.2))::(9,.v (.one (.int .i64 ((s.1:Int)-1))))::L1) (λ_=>[.blk 51 (Hn c)]) (λs=>s.1) (λs=>s.1<=k/\Fg s.2.2/\s.2.1.length<=66/\s.2.2.length<=a.length/\Bd (16777216+(k-s.1)*16777224) s.2.1/\Bd (16777216+(k-s.1)*16777224) s.2.2/\psd b c s.1 s.2=psd b c k ([],a)) (k,[],a) ⟨Ql _,ha.t,by simp,Ql _,Qa9,by simpa using ha.b,rfl⟩ rfl (λ_ _=>rfl) rfl λ⟨i,q,r⟩ ⟨j1,j2,j3,j4,j5,j6,j7⟩=>?_
 dsimp only at j1 j2 j3 j4 j5 j6 j7 ⊢;rw [<-j7];cases i with
 | zero=>exact en tt [.f (by simp)] rfl rfl trivial
 |
  succ i =>
  obtain ⟨x,hx⟩:=nmE (if r.length=b.length+i then Fu r else 0);obtain ⟨u,hu⟩:=nmE (16777216+(k-(i+1))*16777224);rw [<-hu] at j5 j6;have hub:u<=1107296256:=by
   have:(k-(i+1))*16777224<=64*16777224:=Qx _ (by omega);omega
  have hxs:Fq x<=u:=by
   rw [hx]; split
   ·exact Nm j6
   ·rw [Nn]; exact Qi _
  have cs:=Iu (p:=q) (c:=c) (by omega) (U8 j5 (by omega)) (by omega);have cs2:=Iu (p:=r) (c:=c) (by omega) (U8 j6 (by omega)) (by omega);have l1:=Gh q c;have l2:=Gh r c;have ca:=Q8r (p:=Gb q c) (q:=mono i x) (by omega) (by rw [I3]; omega) (U8 (Gw j5 hlb) (by omega)) (U8 (Qkk hxs) (by omega));have cm:=Qq1 (p0:=mono i x) hb.t (by rw [I3]; omega) (by omega) (Qkk hxs) hb.b (by omega);have l3:=Qr6 (i:=i) (x:=x) (b:=b);have cb:=Qku (p:=Gb r c) (q:=Gs (trim (mono i x)) b) (by omega) (by omega) (U8 (Gw j6 hlb) (by omega)) (U8 (Q1u hb.b hxs (by omega)) (by omega));have hst:=Qb6 (b:=b) (c:=c) (q:=q) hx;have hI:i<=k/\Fg (str b c i x r)/\(stq c i x q).length<=66/\(str b c i x r).length<=a.length/\Bd (16777216+(k-i)*16777224) (stq c i x q)/\Bd (16777216+(k-i)*16777224) (str b c i x r):=by
   have l5:=Zhr (c:=c) (x:=x) (i:=i) (q:=q);have l6:=Qr7 (c:=c) (x:=x) (i:=i) (b:=b) (r:=r);have hku:u+16777216+8=16777216+(k-i)*16777224:=by
    rw [hu,show k-i=(k-(i+1))+1 from by omega,Jg]; omega
   refine ⟨by omega,Fw _ _,by omega,by omega,?_,?_⟩
   ·rw [<-hku]; exact Zli j5 hlb hxs
   ·rw [<-hku]; exact Qx4 j6 hb.b hlb hxs (by omega)
  rw [hst];by_cases h:r.length=b.length+i
  ·refine go tt [.t (by simp <;> omega),.c [] (Bq r),.c [] (Bq b),.t (by simp; omega),.c [] (Dw j2 (by omega) (U8 j6 (by omega))),.r 44 (eI (b:=((i+1:Nat):Int)) (by omega)),.i (i+1),.i (i+1),.r 47 (eI (b:=(i:Int)) (by omega)),.i i] rfl (by simp [U9]; omega) ?_;refine nl 2 rfl rfl rfl ?_;rw [Q30 i (x:=x) (by rw [hx,if_pos h]; rfl)];refine go tt [.c [] cs,.c [] ca,.c [] cs2,.c [] cm,.c [] cb,.r 33 (eI (b:=(i:Int)-1) (by omega))] rfl (by simp [U9]; omega) ?_;exact rd (i,stq c i x q,str b c i x r) (by dsimp only; omega) ⟨hI.1,hI.2.1,hI.2.2.1,hI.2.2.2.1,hI.2.2.2.2.1,hI.2.2.2.2.2,rfl⟩ rfl
  ·refine go tt [.t (by simp <;> omega),.c [] (Bq r),.c [] (Bq b),.f (by simp; omega),.r 44 (eI (b:=((i+1:Nat):Int)) (by omega)),.i (i+1),.i (i+1),.r 47 (eI (b:=(i:Int)) (by omega)),.i i] rfl (by simp [U9]; omega) ?_;refine nl 2 rfl rfl rfl ?_;rw [Q30 i (x:=x) (by rw [hx,if_neg h,Ab]; rfl)];refine go tt [.c [] cs,.c [] ca,.c [] cs2,.c [] cm,.c [] cb,.r 33 (eI (b:=(i:Int)-1) (by omega))] rfl (by simp [U9]; omega) ?_;exact rd (i,stq c i x q,str b c i x r) (by dsimp only; omega) ⟨hI.1,hI.2.1,hI.2.2.1,hI.2.2.2.1,hI.2.2.2.2.1,hI.2.2.2.2.2,rfl⟩ rfl
theorem Zcv {b:List Int} {c:Int} (hb:Bd 16777216 b) (hc:Fq c<=16777216) {n:Nat}:∀ (i u:Nat) (q r:List Int),i<=64->i+b.length<=n+1->Fg r->r.length<=n->Bd u r->Fg (psd b c i (q,r)).2/\(psd b c i (q,r)).2.length<=n/\Bd (u+i*16777224) (psd b c i (q,r)).2
 | 0,u,q,r,_,_,h1,h2,h3=>⟨h1,h2,by simpa [psd] using h3⟩
 |
  i+1,u,q,r,hi,hn,h1,h2,h3=>by
  rw [Qb6 rfl];have hx:Fq (if r.length=b.length+i then Fu r else 0)<=u:=by
   split
   ·exact Nm h3
   ·rw [Nn]; exact Qi _
  have l6:=Qr7 (c:=c) (x:=if r.length=b.length+i then Fu r else 0) (i:=i) (b:=b) (r:=r);have:=Zcv hb hc (n:=n) i (u+16777216+8) (stq c i (if r.length=b.length+i then Fu r else 0) q) (str b c i (if r.length=b.length+i then Fu r else 0) r) (by omega) (by omega) (Fw _ _) (by omega) (Qx4 h3 hb hc hx (by omega));exact ⟨this.1,this.2.1,U8 this.2.2 (by omega)⟩
theorem Q4f {a b:List Int} (ha:Pb a) (hb:Pb b) (h0:b.length≠0):Fg (Mf a b)/\(Mf a b).length<=a.length/\Bd 1107296256 (Mf a b):=by
 have hal:=ha.l;by_cases h:b.length<=a.length+1
 ·obtain ⟨h1,h2,h3⟩:=Zcv hb.b (Nm hb.b) (n:=a.length) (a.length+1-b.length) 16777216 [] a (by omega) (by omega) ha.t (Ql _) ha.b;refine ⟨h1,h2,U8 h3 ?_⟩;have:(a.length+1-b.length)*16777224<=64*16777224:=Qx _ (by omega);omega
 ·have e:Mf a b=a:=by unfold Mf; rw [show a.length+1-b.length=0 from by omega]; rfl
  rw [e];exact ⟨ha.t,Ql _,U8 ha.b (by omega)⟩
theorem Qft {a b r:List Int} {s n:Nat} (h1:Fg r) (h2:r.length<=n) (h3:Bd s r):Fg (Ng a b r)/\(Ng a b r).length<=n/\Bd s (Ng a b r):=by
 unfold Ng; split
 ·exact ⟨Fw _ _,Qc (Cf r) h2,On h3⟩
 ·exact ⟨h1,h2,h3⟩
theorem Qmv {r:List Int} {s n:Nat} (h2:r.length<=n) (h3:Bd s r):Fg (Ad r)/\(Ad r).length<=n/\Bd s (Ad r):=by
 unfold Ad; split
 ·exact ⟨rfl,by simp,Qa9⟩
 ·exact ⟨Qao _ _,Qc (Qpf _ _) h2,Qkm h3 _⟩
theorem Qfs {a b:List Int} (ha:Pb a) (hb:Pb b) (h0:b.length≠0):Fg (Hi a b)/\(Hi a b).length<=a.length/\Bd 1107296256 (Hi a b):=by
 obtain ⟨h1,h2,h3⟩:=Q4f ha hb h0;obtain ⟨h4,h5,h6⟩:=Qft (a:=a) (b:=b) h1 h2 h3;exact Qmv h5 h6
theorem Q8y {a b:List Int} (ha:Pb a) (hb:Pb b) (h0:b.length≠0):Fa Tryz.prog 269 [pr a,pr b] [pr (Hi a b),.one (.int .i64 0)]:=by
 obtain ⟨h1,h2,h3⟩:=Q4f ha hb h0;obtain ⟨h4,h5,h6⟩:=Qft (a:=a) (b:=b) h1 h2 h3;have hal:=ha.l;have cp:=Q8w ha hb h0;have cl:=Dw hb.t hb.ln hb.bd;have cn:=Q8v (p:=Mf a b) (by omega) (U8 h3 (by omega));unfold Hi;obtain ⟨r,hr⟩:=nmE (Ng a b (Mf a b));have cc:=Qgq (p:=r) (by rw [hr]; omega) (by rw [hr]; exact U8 h6 (by omega));rw [<-hr] at h4 h5 h6 ⊢;obtain ⟨k,hk⟩:=nmE (a.length+1-b.length);rw [<-hk] at cp;have em:((k:Int).tmod 2)=((k % 2:Nat):Int):=by rw [Vd (by omega)]; omega
 have key:Ad r=if r.length=0 then [] else Db r (Se r):=rfl
 by_cases hz:r.length=0
 ·rw [key,if_pos hz];by_cases hodd:k % 2=1
  ·by_cases hneg:Fu b<0
   ·have e:r=P0 (Mf a b):=by rw [hr]; unfold Ng; rw [if_pos ⟨by rw [<-hk]; exact hodd,hneg⟩]
    rw [e] at hz;exact w tt Tryz.func269 rfl [.c [] cp,.f (by simp),.r 22 (eI em),.t (by simp; omega),.c [] cl,.t (by simpa [Fu] using hneg),.c [] cn,.t (by simpa using hz)] rfl rfl (by simp [U9])
   ·have e:r=Mf a b:=by rw [hr]; unfold Ng; rw [if_neg (λh=>hneg h.2)]
    rw [e] at hz;exact w tt Tryz.func269 rfl [.c [] cp,.f (by simp),.r 22 (eI em),.t (by simp; omega),.c [] cl,.f (by simpa [Fu] using hneg),.t (by simpa using hz)] rfl rfl (by simp [U9])
  ·have e:r=Mf a b:=by rw [hr]; unfold Ng; rw [if_neg (λh=>hodd (by rw [hk]; exact h.1))]
   rw [e] at hz;exact w tt Tryz.func269 rfl [.c [] cp,.f (by simp),.r 22 (eI em),.f (by simp; omega),.f rfl,.t (by simpa using hz)] rfl rfl (by simp [U9])
 ·rw [key,if_neg hz];have cd:=Q19 (p:=r) (g:=Se r) (by omega) (U8 h6 (by omega)) (Qcq (U8 h6 (by omega))) (I7 h4 hz) Ek;by_cases hodd:k % 2=1
  ·by_cases hneg:Fu b<0
   ·have e:r=P0 (Mf a b):=by rw [hr]; unfold Ng; rw [if_pos ⟨by rw [<-hk]; exact hodd,hneg⟩]
    rw [e] at hz cc cd ⊢;exact w tt Tryz.func269 rfl [.c [] cp,.f (by simp),.r 22 (eI em),.t (by simp; omega),.c [] cl,.t (by simpa [Fu] using hneg),.c [] cn,.f (by simpa using hz),.c [] cc,.c [] cd] rfl rfl (by simp [U9])
   ·have e:r=Mf a b:=by rw [hr]; unfold Ng; rw [if_neg (λh=>hneg h.2)]
    rw [e] at hz cc cd ⊢;exact w tt Tryz.func269 rfl [.c [] cp,.f (by simp),.r 22 (eI em),.t (by simp; omega),.c [] cl,.f (by simpa [Fu] using hneg),.f (by simpa using hz),.c [] cc,.c [] cd] rfl rfl (by simp [U9])
  ·have e:r=Mf a b:=by rw [hr]; unfold Ng; rw [if_neg (λh=>hodd (by rw [hk]; exact h.1))]
   rw [e] at hz cc cd ⊢;exact w tt Tryz.func269 rfl [.c [] cp,.f (by simp),.r 22 (eI em),.f (by simp; omega),.f rfl,.f (by simpa using hz),.c [] cc,.c [] cd] rfl rfl (by simp [U9])
theorem Zhl {s:Nat} {x:Int} (h:Fq x<=s) (g:Int):Fq (x / g)<=s:=Qgo (p:=[x]) (λz hz=>by rw [Qk.1 hz]; exact h) g _ (by simp)
def sta (b:List Int) (i:Nat) (x:Int) (a:List Int):List Int:=Pa a (Gs (trim (mono i x)) b)
theorem Zlh {u t i:Nat} {x:Int} {b a:List Int} (ha:Bd u a) (hb:Bd t b) (hx:Fq x<=u) (hi:i<=64):Bd (u+t+8) (sta b i x a) :=
 U8 (Lv ha (Q1u hb hx hi)) (by omega)
theorem Q3s {x:Int} {i:Nat} {b a:List Int}:(sta b i x a).length<=max a.length (i+b.length):=by
 have h:=No a (Gs (trim (mono i x)) b);have h2:=Qr6 (i:=i) (x:=x) (b:=b);unfold sta; omega
theorem Zfs (s n:Nat):Bd s (List.replicate n 0):=λz hz=>by rw [(List.mem_replicate.1 hz).2,Nn]; exact Qi _
theorem Zlg {s i:Nat} {l:List Int} {x:Int} (h:Bd s l) (hx:Fq x<=s):Bd s (l.set i x):=λz hz=>by
 rcases Yo hz with hz | rfl
 ·exact h z hz
 ·exact hx
theorem Q8s {a b q:List Int} (ha:Pb a) (hb:Pb b) (h:Qb4 a b=some q):Fa Tryz.prog 340 [pr a,pr b] [pr q,.one (.int .i64 0)]:=by
 unfold Qb4 at h
 split at h
 ·cases h
 rename_i h0;obtain ⟨k,hk⟩:=nmE (a.length+1-b.length);rw [<-hk] at h;obtain ⟨q',hq,hq2⟩:=Qg.1 h;obtain ⟨rfl,hpb⟩:=Oy (Rl _) hq2;have hal:=ha.l;have hbl:=hb.l;refine Hl Tryz.func340 rfl ?_;refine go tt [.c [] (Ri ha.t ha.ln ha.bd),.c [] (Ri hb.t hb.ln hb.bd),.f (by simpa using h0),.r 24 (eI (b:=(k:Int)) (by simp; omega)),.i k,.i k,.r 27 (eI (b:=(k:Int)) (by simp))] rfl (by simp [U9]; omega) ?_;refine nl 0 rfl rfl rfl ?_;rw [Qj7];refine lp (S:=Nat×List Int×List Int) 1 (λL1 s=>(0,.v (pr s.2.1))::(7,.v (.one (.int .i64 ((s.1:Int)-1))))::L1) (λs=>[.row false 51 2 (s.2.2.map Hn)]) (λs=>s.1) (λs=>s.1<=k/\Fg s.2.1/\s.2.1.length<=a.length/\Bd (16777216+(k-s.1)*16777224) s.2.1/\s.2.2.length=k/\Bd 1107296256 s.2.2/\Qsr b s.1 s.2.1 s.2.2=some q') (k,a,List.replicate k 0) ⟨Ql _,ha.t,Ql _,by simpa using ha.b,by simp,Zfs _ _,hq⟩ rfl (λ_ _=>rfl) rfl λ⟨i,A,Q⟩ ⟨j1,j2,j3,j4,j5,j7,j6⟩=>?_
 dsimp only at j1 j2 j3 j4 j5 j6 j7 ⊢;cases i with
 |
  zero =>
  simp only [Qsr] at j6
  split at j6
  ·rename_i hA;injection j6 with j6; subst j6;exact en tt [.f (by simp),.f (by simpa using hA),.c [] (Ly (H6 Q) (by omega) (U8 j7 (by omega)))] rfl rfl trivial
  ·cases j6
 |
  succ i =>
  obtain ⟨u,hu⟩:=nmE (16777216+(k-(i+1))*16777224);rw [<-hu] at j4;have hub:u<=1107296256:=by
   have:(k-(i+1))*16777224<=64*16777224:=Qx _ (by omega);omega
  have hku:u+16777216+8=16777216+(k-i)*16777224:=by
   rw [hu,show k-i=(k-(i+1))+1 from by omega,Jg]; omega
  simp only [Qsr] at j6;by_cases hlt:A.length<b.length+i
  ·rw [if_pos hlt] at j6;refine go tt [.t (by simp <;> omega),.c [] (Bq A),.c [] (Bq b),.t (by simp; omega),.r 32 (eI (b:=(i:Int)-1) (by omega))] rfl (by simp [U9]; omega) ?_;exact rd (i,A,Q) (by dsimp only; omega) ⟨by dsimp only; omega,j2,j3,U8 j4 (by dsimp only; omega),j5,j7,j6⟩ rfl
  ·rw [if_neg hlt] at j6
   split at j6
   ·rename_i hdv;obtain ⟨x,hx⟩:=nmE (Fu A / Fu b);rw [<-hx] at j6;have hxs:Fq x<=u:=by rw [hx]; exact Zhl (Nm j4) _
    have ce:=Am (Fb (Fu A)) (Fb (Fu b)) (Qc (Nm j4) (by omega)) (Qc (Nm hb.b) (by omega)) (Dz hb.t h0) hdv;rw [<-hx] at ce;have cm:Fa Tryz.prog 242 [.one (.row ((mono i x).map Hn)),pr b] [pr (Gs (trim (mono i x)) b)]:=Qq1 (p0:=mono i x) hb.t (by rw [I3]; omega) (by omega) (Qkk hxs) hb.b (by omega);have l3:=Qr6 (i:=i) (x:=x) (b:=b);have l4:=Q3s (i:=i) (x:=x) (b:=b) (a:=A);have cb:=Qku (p:=A) (q:=Gs (trim (mono i x)) b) (by omega) (by omega) (U8 j4 (by omega)) (U8 (Q1u hb.b hxs (by omega)) (by omega));refine go tt [.t (by simp <;> omega),.c [] (Bq A),.c [] (Bq b),.f (by simp; omega),.c [] (Dw j2 (by omega) (U8 j4 (by omega))),.c [] (Dw hb.t hb.ln hb.bd),.c [] ce,.f rfl,.r 51 (eI (b:=(i:Int)) (by omega)),.i i,.r 55 (eI (b:=((i+1:Nat):Int)) (by omega)),.i (i+1),.i (i+1),.r 58 (eI (b:=(i:Int)) (by omega))] rfl (by simp [U9]; omega) ?_;refine nl 2 rfl rfl rfl ?_;rw [Qj7,Qz8];rw [<-Qv3 i x] at cm;refine go tt [.i i,.c [] cm,.c [] cb,.r 32 (eI (b:=(i:Int)-1) (by omega))] rfl (by simp [U9]; omega) ?_;exact rd (i,sta b i x A,Q.set i x) (by dsimp only; omega) ⟨by dsimp only; omega,Fw _ _,by dsimp only; omega,by dsimp only; rw [<-hku]; exact Zlh j4 hb.b hxs (by omega),by simpa using j5,Zlg j7 (Nat.le_trans hxs hub),j6⟩ rfl
   ·cases j6
theorem Qz6 {a b q:List Int} (h:Qb4 a b=some q):Pb q:=by
 unfold Qb4 at h
 split at h
 ·cases h
 ·obtain ⟨q',_,hq2⟩:=Qg.1 h;obtain ⟨rfl,hpb⟩:=Oy (Rl _) hq2;exact hpb
theorem Q9o {a b q:List Int} (ha:Pb a) (hb:Pb b) (h:Qb4 a b=some q):Fa Tryz.prog 327 [pr a,pr b] [pr q] :=
 w tt Tryz.func327 rfl [.c [] (Q8s ha hb h)] rfl rfl trivial
theorem Qtn:∀ {k:Nat} {a b g:List Int},Pb a->Pb b->Qh3 k a b=some g->Pb g
 | 0,_,_,_,_,_,h=>by cases h
 |
  k+1,a,b,g,ha,hb,h=>by
  simp only [Qh3] at h
  split at h
  ·injection h with h; subst h; exact ha
  ·rename_i h0;obtain ⟨r,hr,h⟩:=Qg.1 h;obtain ⟨rfl,hpb⟩:=Oy (Qfs ha hb h0).1 hr;exact Qtn hb hpb h
theorem Q2n {a b g:List Int} (ha:Pb a) (hb:Pb b) (h:Qb7 a b=some g):Fa Tryz.prog 215 [pr a,pr b] [pr g]:=by
 unfold Qb7 at h;obtain ⟨g',h2,rfl⟩:=V3.1 h;have hg:=Qtn (Tl ha) (Tl hb) h2;refine Hl Tryz.func215 rfl ?_;refine go tt [.c [] (Ao ha),.c [] (Ao hb)] rfl trivial ?_;refine lp (S:=Nat×List Int×List Int) 0 (λL1 s=>(0,.v (pr s.2.1))::(1,.v (pr s.2.2))::L1) (λ_=>[]) (λs=>s.1) (λs=>Pb s.2.1/\Pb s.2.2/\Qh3 s.1 s.2.1 s.2.2=some g') (66,Fi a,Fi b) ⟨Tl ha,Tl hb,h2⟩ rfl (λ_ _=>rfl) rfl λ⟨k,A,C⟩ ⟨j1,j2,j3⟩=>?_
 dsimp only at j1 j2 j3 ⊢;cases k with
 | zero=>cases j3
 |
  succ k =>
  simp only [Qh3] at j3
  split at j3
  ·rename_i h0;injection j3 with j3; subst j3;exact en tt [.f (by simpa using h0),.c [] (Ao j1)] rfl rfl trivial
  ·rename_i h0;obtain ⟨r,hr,j3⟩:=Qg.1 j3;obtain ⟨rfl,hpb⟩:=Oy (Qfs j1 j2 h0).1 hr;refine go tt [.t (by simp; omega),.c [] (Q8y j1 j2 h0)] rfl trivial ?_;exact rd (k,C,Hi A C) (by dsimp only; omega) ⟨j2,hpb,j3⟩ rfl
theorem Qhr {a b g:List Int} (ha:Pb a) (hb:Pb b) (h:Qb7 a b=some g):Pb g:=by
 unfold Qb7 at h;obtain ⟨g',h2,rfl⟩:=V3.1 h;exact Tl (Qtn (Tl ha) (Tl hb) h2)
theorem Q8t {a b g:List Int} (ha:Pb a) (hb:Pb b) (h:Qst a b=some g):Fa Tryz.prog 160 [.one (.row (Pk [a,b]))] [pr g]:=by
 unfold Qst at h;obtain ⟨g1,h1,h2⟩:=Qg.1 h;have hg1:=Qhr Qhp ha h1;refine Hl Tryz.func160 rfl ?_;refine go tt [.z 3] rfl trivial ?_;refine lp (S:=Nat) 0 (λL1 i=>(8,.v (.one (.int .i64 (i:Int))))::(3,.v (pr (if i=0 then [] else if i=1 then g1 else g)))::L1) (λ_=>[]) (λi=>2-i) (λi=>i<=2) 0 (Qi _) rfl (λ_ _=>rfl) rfl λi hi=>?_
 rcases (show i=0\/i=1\/i=2 by omega) with rfl | rfl | rfl
 ·refine go tt [.t rfl,.x (Ta (i:=0) (p:=a) rfl),.c [] (Q2n Qhp ha h1)] rfl (by simp [U9]) ?_;exact rd 1 (by omega) (by omega) rfl
 ·refine go tt [.t rfl,.x (Ta (i:=1) (p:=b) rfl),.c [] (Q2n hg1 hb h2)] rfl (by simp [U9]) ?_;exact rd 2 (by omega) (by omega) rfl
 ·exact en tt [.f rfl] rfl rfl trivial
theorem Zci {a b g:List Int} (ha:Pb a) (hb:Pb b) (h:Qst a b=some g):Pb g:=by
 unfold Qst at h;obtain ⟨g1,h1,h2⟩:=Qg.1 h;exact Qhr (Qhr Qhp ha h1) hb h2
theorem Qmq {p d:List Int} (h:chk (Gj p)=some d):d=Gj p/\Pb (Gj p):=Oy (Fw _ _) h
theorem Qkv {a g:List Int} (ha:Pb a) (h:Mj a=some g):Fa Tryz.prog 298 [pr a] [pr g]:=by
 have hp:=Tl ha;unfold Mj at h
 split at h
 ·rename_i h0;injection h with h; subst h;exact w tt Tryz.func298 rfl [.c [] (Ao ha),.c [] (Bq _),.t (by simp; omega)] rfl rfl trivial
 ·rename_i h0;obtain ⟨d,h1,h⟩:=Qg.1 h;obtain ⟨rfl,hd⟩:=Qmq h1;obtain ⟨g1,h1,h⟩:=Qg.1 h;exact w tt Tryz.func298 rfl [.c [] (Ao ha),.c [] (Bq _),.f (by simp; omega),.c [] (Is hp.ln hp.bd),.c [] (Q2n hp hd h1),.c [] (Q9o hp (Qhr hp hd h1) h)] rfl rfl trivial
theorem Qhq {a g:List Int} (ha:Pb a) (h:Mj a=some g):Pb g:=by
 unfold Mj at h
 split at h
 ·injection h with h; subst h; exact Tl ha
 ·obtain ⟨d,h1,h⟩:=Qg.1 h;obtain ⟨g1,h1,h⟩:=Qg.1 h;exact Qz6 h
theorem Zcj {p:List Int} (h:Pb p):Pb (P0 p):=⟨Fw _ _,Qc (Cf p) h.l,On h.b⟩
theorem Qy1:∀ {k:Nat} {a b:List Int} {l:List (List Int)},Pb a->Pb b->chF k a b=some l->l.length≤k/\∀ p∈l,Pb p
 | 0,_,_,_,_,_,h=>by cases h
 |
  k+1,a,b,l,ha,hb,h=>by
  simp only [chF] at h
  split at h
  ·injection h with h; subst h; exact ⟨by simp,λp hp=>by cases hp⟩
  ·rename_i h0;obtain ⟨r,hr,h⟩:=Qg.1 h;obtain ⟨rfl,hpb⟩:=Oy (Qfs ha hb h0).1 hr;obtain ⟨l',h1,h⟩:=Qg.1 h;injection h with h; subst h;obtain ⟨i1,i2⟩:=Qy1 hb (Zcj hpb) h1;refine ⟨by simp; exact i1,λp hp=>?_⟩;rcases Qm.1 hp with rfl | hp
   ·exact hb
   ·exact i2 p hp
theorem chain_ok {p:List Int} {l:List (List Int)} (hp:Pb p) (h:chain p=some l):l.length≤67/\∀ q∈l,Pb q:=by
 unfold chain at h;obtain ⟨a,h1,h⟩:=Qg.1 h;have ha:=Qhq hp h1
 split at h
 ·cases h
 ·obtain ⟨d,h2,h⟩:=Qg.1 h;obtain ⟨rfl,hd⟩:=Qmq h2;obtain ⟨l',h3,h⟩:=Qg.1 h;injection h with h; subst h;obtain ⟨i1,i2⟩:=Qy1 ha (Tl hd) h3;refine ⟨by simp; omega,λp hp=>?_⟩;rcases Qm.1 hp with rfl | hp
  ·exact ha
  ·exact i2 p hp
theorem Qmu (l:List (List Int)) (p:List Int):Pk l++[[pl p]]=Pk (l++[p]):=by simp [Pk]
theorem El (l:List (List Int)):(Pk l).length=l.length:=by simp [Pk]
theorem Q80 {p:List Int} {l:List (List Int)} (hp:Pb p) (h:chain p=some l):Fa Tryz.prog 275 [pr p] [.one (.sh [.row (Pk l)]),.one (.int .i64 0)]:=by
 unfold chain at h;obtain ⟨a,h1,h⟩:=Qg.1 h;have ha:=Qhq hp h1
 split at h
 ·cases h
 rename_i h0;obtain ⟨d,h2,h⟩:=Qg.1 h;obtain ⟨rfl,hd⟩:=Qmq h2;obtain ⟨l',h3,h⟩:=Qg.1 h;injection h with h; subst h;refine Hl Tryz.func275 rfl ?_;refine go tt [.c [] (Qkv hp h1),.f (by simpa using h0),.lo,.c [] (Is ha.ln ha.bd),.c [] (Q9l hd.t hd.ln' hd.bd)] rfl (by simp [U9]) ?_;obtain ⟨z,hz⟩:=nmE (if (Gj a).length=0 then 0 else Ha (Gj a));rw [<-hz];refine sb [(4,.v (pr a)),(7,.v (pr (Fi (Gj a)))),(5,.v (.one (.ow 1 0)))] [.row false 48 1 [[pl a]],.blk 356 [.orow 0 1 none],.blk 51 (Hn z)] rfl rfl ?_;have hll:=(Qy1 ha (Tl hd) h3).1;refine lp (S:=Nat×List (List Int)×List Int×List Int) 3 (λL1 s=>(4,.v (pr s.2.2.1))::(7,.v (pr s.2.2.2))::L1) (λs=>[.row false 48 1 (Pk s.2.1),.blk 356 [.orow 0 1 none],.blk 51 (Hn z)]) (λs=>s.1) (λs=>Pb s.2.2.1/\Pb s.2.2.2/\∃ m,chF s.1 s.2.2.1 s.2.2.2=some m/\s.2.1++m=a::l') (66,[a],a,Fi (Gj a)) ⟨ha,Tl hd,l',h3,rfl⟩ rfl (λ_ _=>rfl) rfl λ⟨k,out,A,C⟩ ⟨j1,j2,m,j3,j4⟩=>?_
 dsimp only at j1 j2 j3 j4 ⊢;have hol:out.length<=67:=by have:=congrArg List.length j4; simp at this; omega
 cases k with
 | zero=>cases j3
 |
  succ k =>
  simp only [chF] at j3
  split at j3
  ·rename_i h0;injection j3 with j3; subst j3;rw [Zo] at j4;rw [<-j4];exact en tt [.f (by simpa using h0)] rfl rfl trivial
  ·rename_i h0;obtain ⟨r,hr,j3⟩:=Qg.1 j3;obtain ⟨rfl,hpb⟩:=Oy (Qfs j1 j2 h0).1 hr;obtain ⟨m',j6,j5⟩:=Qg.1 j3;injection j5 with j5; subst j5;refine go tt [.t (by simp; omega),.s (sz:=1) (λc hc=>by rw [Qk.1 hc]; rfl),.c [] (Q8y j1 j2 h0),.c [] (Q8v hpb.ln hpb.bd)] rfl (by simp [U9,El]; omega) ?_;exact rd (k,out++[C],C,P0 (Hi A C)) (by dsimp only; omega) ⟨j2,Zcj hpb,m',j6,by rw [<-j4]; simp⟩ (by rw [Qmu]; rfl)
structure Tb (t:Tm):Prop where
 p:Pb t.p
 lo:Qb t.lo
 hi:Qb t.hi
theorem Q2v (x y:Int):-1<=B7 x y/\B7 x y<=1:=by unfold B7; split <;> (try split) <;> omega
theorem Oz (a b:Rat):-1<=Gv a b/\Gv a b<=1:=Q2v _ _
theorem Co (p:List Int) (q:Rat):-1<=Gl p q/\Gl p q<=1:=Q2v _ _
theorem Qzv (p:List Int) (q:Rat):-1<=low p q/\low p q<=1:=by unfold low; split <;> exact Co _ _
theorem Qb.s31 {q:Rat} (h:Qb q):Qs 2147483647 q:=h.mono (by decide)
theorem Qb.s32 {q:Rat} (h:Qb q):Qs 4294967295 q:=h.mono (by decide)
theorem Qi9 {p:List Int} {q:Rat} (hp:Pb p) (hq:Qb q):Fa Tryz.prog 211 [pr p,.agg (rl q)] [.one (.int .i64 (Gl p q))]:=by
 have hm:p.length*(16777216+1)<=64*16777217:=Qx _ hp.l;exact Q13 hp.t hp.ln hp.b hq (by omega)
theorem Zow {p:List Int} {q:Rat} (hp:Pb p) (hq:Qb q):Fa Tryz.prog 211 [pr (Gj p),.agg (rl q)] [.one (.int .i64 (Gl (Gj p) q))]:=by
 have hl:=Qc (Ph p) (show p.length-1<=64 by have:=hp.l; omega);have hm:(Gj p).length*(16777216+1)<=64*16777217:=Qx _ hl;exact Q13 (Fw _ _) (Zz hl (by omega)) (Qjn (t:=6) hp.b hp.l) hq (by omega)
theorem D8 {t:Tm} (ht:Tb t):Fa Tryz.prog 157 [.agg (ta t)] [.one (.bool t.point)] :=
 w tt Tryz.func157 rfl [.c [] (Ew ht.lo.s31 ht.hi.s31)] rfl rfl trivial
theorem Qjp {t:Tm} (ht:Tb t):Fa Tryz.prog 156 [.agg (ta t)] [.agg (ta t)] :=
 w tt Tryz.func156 rfl [.c [] (Ri ht.p.t ht.p.ln ht.p.bd),.c [] (Ow ht.lo.s32),.c [] (Ow ht.hi.s32)] rfl rfl trivial
theorem Q9z {t:Tm} (ht:Tb t):Fa Tryz.prog 151 [.agg (ta t)] [.agg (ta t)]:=w tt Tryz.func151 rfl [.c [] (Qjp ht)] rfl rfl trivial
theorem Q9h {p:List Int} {q:Rat} (hp:Pb p) (hq:Qb q):Fa Tryz.prog 212 [pr p,.agg (rl q)] [.one (.int .i64 (low p q))]:=by
 unfold low;by_cases h:Gl p q=0
 ·rw [if_neg (by simpa using h)];exact w tt Tryz.func212 rfl [.c [] (Qi9 hp hq),.f (by simpa using h),.c [] (Is hp.ln hp.bd),.c [] (Zow hp hq)] rfl rfl trivial
 ·rw [if_pos h];exact w tt Tryz.func212 rfl [.c [] (Qi9 hp hq),.t (by simpa using h)] rfl rfl trivial
theorem Q9e {p:List Int} {lo hi:Rat} (hp:Pb p) (hl:Qb lo) (hh:Qb hi):Fa Tryz.prog 162 [pr p,.agg (rl lo),.agg (rl hi)] [.one (.bool (Qe5 p lo hi))]:=by
 by_cases h:Gl p hi=0
 ·exact w tt Tryz.func162 rfl [.c [] (Qi9 hp hh),.t (by simpa using h)] rfl (by simp [Qe5,h]) trivial
 ·exact w tt Tryz.func162 rfl [.c [] (Qi9 hp hh),.f (by simpa using h),.c [] (Q9h hp hl)] rfl (by simp [Qe5,h]) trivial
theorem Qkr {t:Tm} {q:Rat} (ht:Tb t) (hq:Qb q):Fa Tryz.prog 158 [.agg (ta t),.agg (rl q)] [.one (.int .i64 (Fv t q))]:=by
 have cp:=D8 ht;unfold Fv;by_cases h1:t.point=true
 ·rw [if_pos h1];exact w tt Tryz.func158 rfl [.c [] cp,.t h1,.c [] (Ew ht.lo.s31 hq.s31)] rfl rfl trivial
 rw [if_neg h1];have h1:t.point=false:=by simpa using h1
 have c1:=Ew hq.s31 ht.lo.s31;have c2:=Ew hq.s31 ht.hi.s31;by_cases h2:Gv q t.lo<=0
 ·rw [if_pos h2];exact w tt Tryz.func158 rfl [.c [] cp,.f h1,.c [] c1,.t (by simpa using h2)] rfl rfl trivial
 rw [if_neg h2];by_cases h3:0<Gv q t.hi
 ·rw [if_pos h3];exact w tt Tryz.func158 rfl [.c [] cp,.f h1,.c [] c1,.f (by simpa using h2),.c [] c2,.t (by simpa using h3)] rfl rfl trivial
 rw [if_neg h3];by_cases h4:Gl t.p q=0
 ·rw [if_pos h4];exact w tt Tryz.func158 rfl [.c [] cp,.f h1,.c [] c1,.f (by simpa using h2),.c [] c2,.f (by simpa using h3),.c [] (Qi9 ht.p hq),.t (by simpa using h4)] rfl rfl trivial
 rw [if_neg h4];by_cases h5:Gl t.p q=low t.p t.lo
 ·rw [if_pos h5];exact w tt Tryz.func158 rfl [.c [] cp,.f h1,.c [] c1,.f (by simpa using h2),.c [] c2,.f (by simpa using h3),.c [] (Qi9 ht.p hq),.f (by simpa using h4),.c [] (Q9h ht.p ht.lo),.t (by simpa using h5)] rfl rfl trivial
 ·rw [if_neg h5];exact w tt Tryz.func158 rfl [.c [] cp,.f h1,.c [] c1,.f (by simpa using h2),.c [] c2,.f (by simpa using h3),.c [] (Qi9 ht.p hq),.f (by simpa using h4),.c [] (Q9h ht.p ht.lo),.f (by simpa using h5)] rfl rfl trivial
theorem Zgv (t:Tm) (q:Rat):-1<=Fv t q/\Fv t q<=1:=by
 unfold Fv;have:=Oz t.lo q
 repeat' split
 all_goals omega
theorem Zg4 (q:Rat):0<(q.den:Int):=by have:=q.den_pos; omega
theorem Zj6 {a b:Rat} (ha:Qb a) (hb:Qb b):Fa Tryz.prog 273 [.agg (rl a),.agg (rl b)] [.agg (rl (mid a b))]:=by
 have h1:Fq (a.num*(b.den:Int))<=33554432:=Qc (Gd _ _) (by have:=ha.1; have:=hb.2; omega);have h2:Fq (b.num*(a.den:Int))<=33554432:=Qc (Gd _ _) (by have:=hb.1; have:=ha.2; omega);have h3:Fq ((a.den:Int)*(b.den:Int))<=33554432:=Qc (Gd _ _) (by have:=ha.2; have:=hb.2; omega);have h4:Fq (2:Int)<=2:=by decide
 have h5:Fq (a.num*(b.den:Int)+b.num*(a.den:Int))<=33554433:=Qc (Qaf _ _) (by omega);have h6:Fq ((a.den:Int)*(b.den:Int)*2)<=33554434:=Qc (Gd _ _) (by omega);have h0:(a.den:Int)*(b.den:Int)*2≠0:=by
  have:=U4 (Zg4 a) (Zg4 b); omega
 exact w tt Tryz.func273 rfl [.c [] (Qq7 ha.s31 hb.s31),.c [] (Qds (Fb _) (Fb _) (by omega) (by omega)),.c [] (Qyg (z:=2) (by decide)),.c [] (Ia (Fb _) (Fb _) (by omega) (by omega)),.c [] (Qba h0 (by omega) (by omega))] rfl rfl trivial
theorem Qrb {a b:Rat} (ha:Qb a) (hb:Qb b):Fa Tryz.prog 217 [.agg (rl a),.agg (rl b)] [.agg (rl (Qm7 a b))]:=by
 have h1:Fq (a.num*(b.den:Int))<=33554432:=Qc (Gd _ _) (by have:=ha.1; have:=hb.2; omega);have h2:Fq (b.num*(a.den:Int))<=33554432:=Qc (Gd _ _) (by have:=hb.1; have:=ha.2; omega);have h3:Fq ((a.den:Int)*(b.den:Int))<=33554432:=Qc (Gd _ _) (by have:=ha.2; have:=hb.2; omega);have h5:Fq (a.num*(b.den:Int)-b.num*(a.den:Int))<=33554433:=Qc (Qjx _ _) (by omega);have h0:(a.den:Int)*(b.den:Int)≠0:=by
  have:=U4 (Zg4 a) (Zg4 b); omega
 exact w tt Tryz.func217 rfl [.c [] (Qq7 ha.s31 hb.s31),.c [] (Q88 (Fb _) (Fb _) (by omega) (by omega)),.c [] (Qba h0 (by omega) (by omega))] rfl rfl trivial
theorem Qk7 {q r:Rat} (h:chq q=some r):r=q/\Qb q:=by
 unfold chq at h
 split at h
 ·rename_i hc; injection h with h; exact ⟨h.symm,hc⟩
 ·cases h
theorem Qym {t u:Tm} (ht:Tb t) (h:Qrz t=some u):Fa Tryz.prog 218 [.agg (ta t)] [.agg (ta u)]:=by
 have cp:=D8 ht;unfold Qrz at h
 split at h
 ·rename_i h1;injection h with h; subst h;exact w tt Tryz.func218 rfl [.c [] cp,.t h1] rfl rfl trivial
 ·rename_i h1;have h1:t.point=false:=by simpa using h1
  obtain ⟨m,hm0,h⟩:=Qg.1 h;obtain ⟨rfl,hm⟩:=Qk7 hm0;injection h with h;subst h;have cm:=Zj6 ht.lo ht.hi;have cc:=Qkr ht hm;by_cases h2:Fv t (mid t.lo t.hi)=0
  ·rw [if_pos h2];exact w tt Tryz.func218 rfl [.c [] cp,.f h1,.c [] cm,.c [] cc,.t (by simpa using h2)] rfl rfl trivial
  rw [if_neg h2];by_cases h3:Fv t (mid t.lo t.hi)=-1
  ·rw [if_pos h3];exact w tt Tryz.func218 rfl [.c [] cp,.f h1,.c [] cm,.c [] cc,.f (by simpa using h2),.t (by simpa using h3)] rfl rfl trivial
  ·rw [if_neg h3];exact w tt Tryz.func218 rfl [.c [] cp,.f h1,.c [] cm,.c [] cc,.f (by simpa using h2),.f (by simpa using h3)] rfl rfl trivial
theorem Qth {t u:Tm} (ht:Tb t) (h:Qrz t=some u):Tb u:=by
 unfold Qrz at h
 split at h
 ·injection h with h; subst h; exact ht
 ·obtain ⟨m,hm0,h⟩:=Qg.1 h;obtain ⟨rfl,hm⟩:=Qk7 hm0;injection h with h;subst h
  repeat' split
  ·exact ⟨ht.p,hm,hm⟩
  ·exact ⟨ht.p,ht.lo,hm⟩
  ·exact ⟨ht.p,hm,ht.hi⟩
theorem Oq {z:Int} (h:Fq z<=4294967296):Fa Tryz.prog 270 [.one (mg z)] [.one (.int .i64 (Fq z:Int))]:=by
 have h1:=Qya (l:=Gf z.natAbs) (Lh _) (by rw [G5]; exact h);rw [G5] at h1; exact h1
theorem Qm0 {p:List Int} {i:Nat} {z:Int} (h:p[i]? = some z):Hd (p.take (i+1))=max (Hd (p.take i)) (Fq z):=by
 unfold Hd; rw [List.take_succ,h,Option.toList_some,List.foldl_append]; rfl
theorem Mx {p:List Int} {s:Nat} (h:Bd s p):∀ i,Hd (p.take i)<=s
 | 0=>by simp [Hd]
 |
  i+1=>by
  cases hz:p[i]? with
  |
   none =>
   rw [Qo (by have:=Jz.1 hz; omega),<-Qo (l:=p) (i:=i) (by have:=Jz.1 hz; omega)];exact Mx h i
  | some z=>rw [Qm0 hz]; have:=Mx h i; have:=Q78 h hz; omega
theorem Qrd {p:List Int} (hp:Pb p):Fa Tryz.prog 271 [pr p] [.one (.int .i64 (Hd p:Int))]:=by
 have hl:=hp.l;refine Hl Tryz.func271 rfl ?_;refine go tt [] rfl trivial ?_;refine lp (S:=Nat) 0 (λL1 i=>(8,.v (.one (.int .i64 (i:Int))))::(3,.v (.one (.int .i64 (Hd (p.take i):Int))))::L1) (λ_=>[]) (λi=>p.length-i) (λi=>i<=p.length) 0 (Qi _) rfl (λ_ _=>rfl) rfl λi hi=>?_
 by_cases hlt:i<p.length
 ·have hg:=Tj hlt;have hz:=Ft hp.b i;have hs:=Qm0 hg;refine go tt [.t (by simp; omega),.x (Me hg),.c [] (Oq (by omega)),.r 16 (eI (b:=(Hd (p.take (i+1)):Int)) (by rw [hs]; omega))] rfl (by simp [U9]; omega) ?_;exact rd (i+1) (by omega) hlt rfl
 ·obtain rfl:i=p.length:=by omega
  rw [Qy];exact en tt [.f (by simp)] rfl rfl trivial
theorem Zgr {a:Tm} {b:Tm} (ha:Tb a) (hb:Tb b):Fa Tryz.prog 216 [.agg (ta a),.agg (ta b)] [.one (.int .i64 (Mg a b:Nat))]:=by
 have l1:=ha.p.l;have l2:=hb.p.l;have b1:=ha.lo.1;have b2:=ha.hi.1;have b3:=hb.lo.1;have b4:=hb.hi.1;have s1:Hd a.p<=16777216:=by have:=Mx ha.p.b a.p.length; rwa [Qy] at this
 have s2:Hd b.p<=16777216:=by have:=Mx hb.p.b b.p.length; rwa [Qy] at this
 obtain ⟨N,hN⟩:=nmE (4*(a.p.length+b.p.length));obtain ⟨S,hS⟩:=nmE (Hd a.p+Hd b.p+(a.p.length+b.p.length)+8);have hNS:N*S<=512*33554568:=Zh (by omega) (by omega);have h0:(N:Int)*(S:Int)=((N*S:Nat):Int):=(Vs _ _).symm;have hst:Mg a b=64+2*(Fq a.lo.num+Fq a.hi.num+Fq b.lo.num+Fq b.hi.num)+N*S:=by rw [hN,hS]; rfl
 rw [hst];exact w tt Tryz.func216 rfl [.c [] (Oq (z:=a.lo.num) (by omega)),.c [] (Oq (z:=a.hi.num) (by omega)),.c [] (Oq (z:=b.lo.num) (by omega)),.c [] (Oq (z:=b.hi.num) (by omega)),.r 41 (eI (b:=(N:Int)) (by rw [hN]; simp)),.c [] (Qrd ha.p),.c [] (Qrd hb.p),.r 51 (eI (b:=(S:Int)) (by rw [hS]; simp)),.r 52 (eI (b:=((N*S:Nat):Int)) h0)] rfl (by simp) (by rw [h0]; simp [U9]; omega)
def Q1a (p:List Int) (a:Tm):Nat:=64+2*(Fq a.lo.num+Fq a.hi.num)+4*(a.p.length+p.length)*(Hd a.p+Hd p+(a.p.length+p.length)+8)
theorem Q1w:Fa Tryz.prog 270 [lr []] [.one (.int .i64 0)]:=Qya (l:=[]) (by simp [Sm]) (by decide)
theorem Q9y {a:Tm} {p:List Int} (ha:Tb a) (hp:Pb p):Fa Tryz.prog 216 [.agg (ta a),.agg ([pl p,.bool false,.row [],.bool false,.row [],.bool false,.row [],.bool false,.row []])] [.one (.int .i64 (Q1a p a:Nat))]:=by
 have l1:=ha.p.l;have l2:=hp.l;have b1:=ha.lo.1;have b2:=ha.hi.1;have s1:Hd a.p<=16777216:=by have:=Mx ha.p.b a.p.length; rwa [Qy] at this
 have s2:Hd p<=16777216:=by have:=Mx hp.b p.length; rwa [Qy] at this
 obtain ⟨N,hN⟩:=nmE (4*(a.p.length+p.length));obtain ⟨S,hS⟩:=nmE (Hd a.p+Hd p+(a.p.length+p.length)+8);have hNS:N*S<=512*33554568:=Zh (by omega) (by omega);have h0:(N:Int)*(S:Int)=((N*S:Nat):Int):=(Vs _ _).symm;have hst:Q1a p a=64+2*(Fq a.lo.num+Fq a.hi.num)+N*S:=by rw [hN,hS]; rfl
 rw [hst];exact w tt Tryz.func216 rfl [.c [] (Oq (z:=a.lo.num) (by omega)),.c [] (Oq (z:=a.hi.num) (by omega)),.c [] Q1w,.c [] Q1w,.r 41 (eI (b:=(N:Int)) (by rw [hN]; simp)),.c [] (Qrd ha.p),.c [] (Qrd hp),.r 51 (eI (b:=(S:Int)) (by rw [hS]; simp)),.r 52 (eI (b:=((N*S:Nat):Int)) h0)] rfl (by simp) (by rw [h0]; simp [U9]; omega)
def Et (sg:List Int->Int) (l:List (List Int)) (i:Nat):Nat×Int:=(l.take i).foldl (Ts sg) (0,0)
theorem Qnl {sg:List Int->Int} (hs:∀ p,-1<=sg p/\sg p<=1) (l:List (List Int)):∀ i,(Et sg l i).1<=i/\-1<=(Et sg l i).2/\(Et sg l i).2<=1
 | 0=>⟨Ql _,show (-1:Int)<=0 by decide,show (0:Int)<=1 by decide⟩
 |
  i+1=>by
  obtain ⟨h1,h2,h3⟩:=Qnl hs l i;cases h:l[i]? with
  |
   none =>
   have:Et sg l (i+1)=Et sg l i:=by unfold Et; rw [List.take_of_length_le (by have:=List.getElem?_eq_none_iff.1 h; omega),List.take_of_length_le (List.getElem?_eq_none_iff.1 h)]
   rw [this]; omega
  |
   some p =>
   have:Et sg l (i+1)=Ts sg (Et sg l i) p:=Ru _ _ _ h;rw [this];have:=hs p;unfold Ts
   split
   ·omega
   ·dsimp only; split <;> omega
theorem Zgs {l:List (List Int)} {fid:Nat} {l1:List LV} {sg:List Int->Int} (hl:l.length≤1000) (hs:∀ p,-1≤sg p/\sg p≤1) (h:∀ p∈l,Fa Tryz.prog fid [pr p,.one (.sh l1)] [.one (.int .i64 (sg p))]):Fa Tryz.prog 334 [.one (.sh [.row (Pk l)]),.one (.fn fid [] [.sh l1])] [.one (.int .i64 (Nt sg l:Nat))]:=by
 have Nl:=El l;refine Hl Tryz.func334 rfl ?_;refine go tt [] rfl trivial ?_;refine lp (S:=Nat) 0 (λL1 i=>(15,.v (.one (.int .i64 (i:Int))))::(5,.v (.one (.int .i64 ((Et sg l i).1:Int))))::(6,.v (.one (.int .i64 (Et sg l i).2)))::L1) (λ_=>[]) (λi=>l.length-i) (λi=>i<=l.length) 0 (Qi _) rfl (λ_ _=>rfl) rfl λi hi=>?_
 by_cases hlt:i<l.length
 ·obtain ⟨p,hp⟩:=gxE (l:=l) (i:=i) hlt;have hst:Et sg l (i+1)=Ts sg (Et sg l i) p:=Ru _ _ _ hp;obtain ⟨b1,b2,b3⟩:=Qnl hs l i;have b4:=hs p;by_cases h0:sg p=0
  ·refine go tt [.t (by simp [Nl]; omega),.x (Ta hp),.c [] (h p (Qa hp)),.t (by simpa using h0)] rfl (by simp [U9]; omega) ?_;exact rd (i+1) (by omega) hlt (by rw [hst,show Ts sg (Et sg l i) p=Et sg l i from by unfold Ts; rw [if_pos h0]]; rfl)
  ·by_cases h1:(Et sg l i).2=-(sg p)
   ·refine go tt [.t (by simp [Nl]; omega),.x (Ta hp),.c [] (h p (Qa hp)),.f (by simpa using h0),.t (by simpa using h1)] rfl (by simp [U9]; omega) ?_;exact rd (i+1) (by omega) hlt (by rw [hst,show Ts sg (Et sg l i) p=((Et sg l i).1+1,sg p) from by unfold Ts; rw [if_neg h0,if_pos h1]]; rfl)
   ·refine go tt [.t (by simp [Nl]; omega),.x (Ta hp),.c [] (h p (Qa hp)),.f (by simpa using h0),.f (by simpa using h1)] rfl (by simp [U9]; omega) ?_;exact rd (i+1) (by omega) hlt (by rw [hst,show Ts sg (Et sg l i) p=((Et sg l i).1,sg p) from by unfold Ts; rw [if_neg h0,if_neg h1]]; rfl)
 ·obtain rfl:i=l.length:=by omega
  refine en tt [.f (by simp [Nl])] rfl ?_ trivial;unfold Et Nt; rw [List.take_length]
theorem Q86 {p:List Int} {q:Rat} (hp:Pb p) (hq:Qb q):Fa Tryz.prog 335 [pr p,.one (.sh (rl q))] [.one (.int .i64 (Gl p q))]:=w tt Tryz.func335 rfl [.c [] (Qi9 hp hq)] rfl rfl trivial
theorem Q17 {l:List (List Int)} {q:Rat} (hl:l.length≤1000) (hp:∀ p∈l,Pb p) (hq:Qb q):Fa Tryz.prog 311 [.one (.sh [.row (Pk l)]),.agg (rl q)] [.one (.int .i64 (Mk l q:Nat))] :=
 w tt Tryz.func311 rfl [.c [] (Zgs (fid:=335) (l1:=rl q) (sg:=λp=>Gl p q) hl (λp=>Co p q) λp h=>Q86 (hp p h) hq)] rfl rfl trivial
theorem Nu {sg:List Int->Int} (hs:∀ p,-1<=sg p/\sg p<=1) (l:List (List Int)):Nt sg l<=l.length:=by
 have:=(Qnl hs l l.length).1;unfold Et at this; rwa [List.take_length] at this
theorem Qoa {l:List (List Int)} {lo hi:Rat} (hl:l.length≤1000) (hp:∀ p∈l,Pb p) (ql:Qb lo) (qh:Qb hi):Fa Tryz.prog 276 [.one (.sh [.row (Pk l)]),.agg (rl lo),.agg (rl hi)] [.one (.int .i64 (Rm l lo hi))]:=by
 have b1:Mk l lo<=l.length:=Nu (λp=>Co p lo) l;have b2:Mk l hi<=l.length:=Nu (λp=>Co p hi) l;have c1:=Ew qh.s31 ql.s31;unfold Rm;by_cases h:Gv hi lo<0
 ·rw [if_pos h];exact w tt Tryz.func276 rfl [.c [] c1,.t (by simpa using h)] rfl rfl trivial
 ·rw [if_neg h];exact w tt Tryz.func276 rfl [.c [] c1,.f (by simpa using h),.c [] (Q17 hl hp ql),.c [] (Q17 hl hp qh)] rfl rfl (by simp [U9]; omega)
def zTm:List LV:=[.nils,.bool false,.nils,.bool false,.nils,.bool false,.nils,.bool false,.nils]
theorem Q7b {a b:Tm} (ha:Tb a) (hb:Tb b):Mg a b<=17179938816+200000000:=by
 have l1:=ha.p.l;have l2:=hb.p.l;have b1:=ha.lo.1;have b2:=ha.hi.1;have b3:=hb.lo.1;have b4:=hb.hi.1;have s1:Hd a.p<=16777216:=by have:=Mx ha.p.b a.p.length; rwa [Qy] at this
 have s2:Hd b.p<=16777216:=by have:=Mx hb.p.b b.p.length; rwa [Qy] at this
 have:4*(a.p.length+b.p.length)*(Hd a.p+Hd b.p+(a.p.length+b.p.length)+8)<=512*33554568:=Zh (by omega) (by omega);unfold Mg; omega
theorem Zis {a b:Rat} (ha:Qb a) (hb:Qb b):Qs 2147483647 (Qm7 a b):=by
 have h1:Fq (a.num*(b.den:Int))<=33554432:=Qc (Gd _ _) (by have:=ha.1; have:=hb.2; omega);have h2:Fq (b.num*(a.den:Int))<=33554432:=Qc (Gd _ _) (by have:=hb.1; have:=ha.2; omega);have h3:Fq ((a.den:Int)*(b.den:Int))<=33554432:=Qc (Gd _ _) (by have:=ha.2; have:=hb.2; omega);have h5:Fq (a.num*(b.den:Int)-b.num*(a.den:Int))<=33554433:=Qc (Qjx _ _) (by omega);exact (Qs.divInt (s:=33554433) h5 (by omega) (by omega)).mono (by omega)
theorem Qq4 {a b:Tm} {r:Tm×Tm×Int} (ha:Tb a) (hb:Tb b) (h:apF (Mg a b) a b=some r):Fa Tryz.prog 163 [.agg (ta a),.agg (ta b)] [.agg (ta r.1),.agg (ta r.2.1),.one (.int .i64 r.2.2)]:=by
 have hsb:=Q7b ha hb;refine Hl Tryz.func163 rfl ?_;refine go tt [.c [] (Zgr ha hb)] rfl trivial ?_;obtain ⟨n,hn⟩:=nmE (Mg a b);rw [<-hn] at h hsb ⊢;refine sb [(10,.v (.one (.int .i64 0))),(9,.v (.one (.int .i64 (n:Int)))),(5,.v (.one (.ow 3 0))),(4,.v (.one (.ow 2 0))),(3,.v (.one (.ow 1 0))),(2,.v (.one (.ow 0 0)))] [.blk 74 (ta a),.blk 74 (ta b),.blk 74 zTm,.blk 74 zTm] rfl rfl ?_;refine lp (S:=Nat×Tm×Tm) 4 (λL1 s=>(10,.v (.one (.int .i64 (s.1:Int))))::L1) (λs=>[.blk 74 (ta s.2.1),.blk 74 (ta s.2.2),.blk 74 zTm,.blk 74 zTm]) (λs=>n-s.1) (λs=>s.1<=n/\Tb s.2.1/\Tb s.2.2/\apF (n-s.1) s.2.1 s.2.2=some r) (0,a,b) ⟨Qi _,ha,hb,h⟩ rfl (λ_ _=>rfl) rfl λ⟨i,u,v⟩ ⟨j1,j2,j3,j4⟩=>?_
 dsimp only at j1 j2 j3 j4 ⊢;by_cases hi:i<n
 ·obtain ⟨k,hk⟩:∃ k,n-i=k+1:=⟨n-i-1,by omega⟩;have hk':n-(i+1)=k:=by omega
  rw [hk] at j4;have c1:=Ew j2.hi.s31 j3.lo.s31;have c2:=Ew j3.hi.s31 j2.lo.s31;have pu:=D8 j2;have pv:=D8 j3;have hlt:decide ((i:Int)<(n:Int))=true:=by simp; omega
  simp only [apF] at j4;refine go tt [.t hlt] rfl trivial ?_;refine ct 3 (S:=Unit) (λ_=>[(10,.v (.one (.int .i64 (i:Int)))),(9,.v (.one (.int .i64 (n:Int)))),(5,.v (.one (.ow 3 0))),(4,.v (.one (.ow 2 0))),(3,.v (.one (.ow 1 0))),(2,.v (.one (.ow 0 0)))]) (λ_=>[.blk 74 (ta u),.blk 74 (ta v),.blk 74 zTm,.blk 74 zTm]) (λ_=>¬D7 u v=true/\¬D7 v u=true) rfl ?_ ?_
  ·have bA:D7 u v=(decide (Gv u.hi v.lo<=0) && !(u.point && v.point && decide (Gv u.hi v.lo=0))):=by
    unfold D7; cases u.point <;> cases v.point <;> simp
   have bB:D7 v u=(decide (Gv v.hi u.lo<=0) && !(u.point && v.point && decide (Gv v.hi u.lo=0))):=by
    unfold D7; cases u.point <;> cases v.point <;> simp
   obtain ⟨a0,A'⟩:∃ b,decide (Gv u.hi v.lo<=0)=b:=⟨_,rfl⟩;obtain ⟨b0,B'⟩:∃ b,decide (Gv v.hi u.lo<=0)=b:=⟨_,rfl⟩;obtain ⟨p0,P'⟩:∃ b,u.point=b:=⟨_,rfl⟩;obtain ⟨q0,Q'⟩:∃ b,v.point=b:=⟨_,rfl⟩;obtain ⟨x0,X'⟩:∃ b,decide (Gv u.hi v.lo=0)=b:=⟨_,rfl⟩;obtain ⟨y0,Y'⟩:∃ b,decide (Gv v.hi u.lo=0)=b:=⟨_,rfl⟩;rw [A',P',Q',X'] at bA;rw [B',P',Q',Y'] at bB;have r1:D7 u v=true->(u,v,-1)=r:=λh=>by rw [if_pos h] at j4; injection j4
   have r2:¬D7 u v=true->D7 v u=true->(u,v,1)=r:=λh h'=>by rw [if_neg h,if_pos h'] at j4; injection j4
   clear j4;cases a0
   ·cases b0
    ·exact go tt [.c [] c1,.g 19 false A',.f rfl,.c [] c2,.g 45 false B',.f rfl] rfl trivial (rc () ⟨by rw [bA]; simp,by rw [bB]; simp⟩ rfl)
    ·cases p0
     ·obtain rfl:=r2 (by rw [bA]; simp) (by rw [bB]; rfl);exact en tt [.c [] c1,.g 19 false A',.f rfl,.c [] c2,.g 45 true B',.c [] pu,.g 48 false P',.g 52 false rfl,.t rfl] rfl rfl trivial
     ·cases q0
      ·obtain rfl:=r2 (by rw [bA]; simp) (by rw [bB]; rfl);exact en tt [.c [] c1,.g 19 false A',.f rfl,.c [] c2,.g 45 true B',.c [] pu,.g 48 true P',.c [] pv,.g 52 false Q',.t rfl] rfl rfl trivial
      ·cases y0
       ·obtain rfl:=r2 (by rw [bA]; simp) (by rw [bB]; rfl);exact en tt [.c [] c1,.g 19 false A',.f rfl,.c [] c2,.g 45 true B',.c [] pu,.g 48 true P',.c [] pv,.g 52 true Q',.c [] c2,.t (by simpa using Y')] rfl rfl trivial
       ·exact go tt [.c [] c1,.g 19 false A',.f rfl,.c [] c2,.g 45 true B',.c [] pu,.g 48 true P',.c [] pv,.g 52 true Q',.c [] c2,.f (by simpa using Y')] rfl trivial (rc () ⟨by rw [bA]; simp,by rw [bB]; simp⟩ rfl)
   ·cases p0
    ·obtain rfl:=r1 (by rw [bA]; rfl);exact en tt [.c [] c1,.g 19 true A',.c [] pu,.g 22 false P',.g 26 false rfl,.t rfl] rfl rfl trivial
    ·cases q0
     ·obtain rfl:=r1 (by rw [bA]; rfl);exact en tt [.c [] c1,.g 19 true A',.c [] pu,.g 22 true P',.c [] pv,.g 26 false Q',.t rfl] rfl rfl trivial
     ·cases x0
      ·obtain rfl:=r1 (by rw [bA]; rfl);exact en tt [.c [] c1,.g 19 true A',.c [] pu,.g 22 true P',.c [] pv,.g 26 true Q',.c [] c1,.t (by simpa using X')] rfl rfl trivial
      ·cases b0
       ·exact go tt [.c [] c1,.g 19 true A',.c [] pu,.g 22 true P',.c [] pv,.g 26 true Q',.c [] c1,.f (by simpa using X'),.c [] c2,.g 45 false B',.f rfl] rfl trivial (rc () ⟨by rw [bA]; simp,by rw [bB]; simp⟩ rfl)
       ·cases y0
        ·obtain rfl:=r2 (by rw [bA]; simp) (by rw [bB]; rfl);exact en tt [.c [] c1,.g 19 true A',.c [] pu,.g 22 true P',.c [] pv,.g 26 true Q',.c [] c1,.f (by simpa using X'),.c [] c2,.g 45 true B',.c [] pu,.g 48 true P',.c [] pv,.g 52 true Q',.c [] c2,.t (by simpa using Y')] rfl rfl trivial
        ·exact go tt [.c [] c1,.g 19 true A',.c [] pu,.g 22 true P',.c [] pv,.g 26 true Q',.c [] c1,.f (by simpa using X'),.c [] c2,.g 45 true B',.c [] pu,.g 48 true P',.c [] pv,.g 52 true Q',.c [] c2,.f (by simpa using Y')] rfl trivial (rc () ⟨by rw [bA]; simp,by rw [bB]; simp⟩ rfl)
  ·rintro _ ⟨n1,n2⟩
   rw [if_neg n1,if_neg n2] at j4;have qr:∀ {x y:Rat},Qb x->Qb y->Qs 2147483647 (Qm7 x y):=λh1 h2=>Zis h1 h2
   have cc:=Ew (qr j2.hi j2.lo) (qr j3.hi j3.lo);by_cases D:0<=Gv (Qm7 u.hi u.lo) (Qm7 v.hi v.lo)
   ·rw [if_pos D] at j4;obtain ⟨x,x1,x2⟩:=Qg.1 j4;refine go tt [.c [] (Qrb j2.hi j2.lo),.c [] (Qrb j3.hi j3.lo),.c [] cc,.t (by simpa using D),.c [] (Qym j2 x1)] rfl (by simp [U9]; omega) ?_;exact rd (i+1,x,v) (by dsimp only; omega) ⟨hi,Qth j2 x1,j3,by dsimp only; rw [hk']; exact x2⟩ rfl
   ·rw [if_neg D] at j4;obtain ⟨x,x1,x2⟩:=Qg.1 j4;refine go tt [.c [] (Qrb j2.hi j2.lo),.c [] (Qrb j3.hi j3.lo),.c [] cc,.f (by simpa using D),.c [] (Qym j3 x1)] rfl (by simp [U9]; omega) ?_;exact rd (i+1,u,x) (by dsimp only; omega) ⟨hi,j2,Qth j3 x1,by dsimp only; rw [hk']; exact x2⟩ rfl
 ·obtain rfl:i=n:=by omega
  rw [Jw] at j4;simp only [apF] at j4;injection j4 with j4; subst j4;exact en tt [.f (by simp)] rfl rfl trivial
end Orr
