/- R4 RefPL CrvL CrowdL PredL CertL Y1 Y2 Q1 C1 C2 D1 E1 AlgL F1 F2 F3 F4 F5 -/
import Derived.Test.YtkkhemmhhedniaaGreatPart04
import Derived.Test.YtkkhemmhhedniaaGreatPart00
set_option linter.all false
namespace Orr
open Go Go.Proofs
set_option maxRecDepth 10000
theorem Zde {a b:Int} (h:(decide (a<0) == decide (b<0))=true):Uj (decide (a<0)) (a.natAbs+b.natAbs)=a+b:=by
 unfold Uj;by_cases h1:a<0 <;> by_cases h2:b<0 <;> simp [h1,h2] at h ⊢ <;> omega
theorem Zdh {a b:Int} (h:¬(decide (a<0) == decide (b<0))=true) (hl:b.natAbs<=a.natAbs):Uj (decide (a<0)) (a.natAbs-b.natAbs)=a+b:=by
 unfold Uj;by_cases h1:a<0 <;> by_cases h2:b<0 <;> simp [h1,h2] at h ⊢ <;> omega
theorem Q8a {a b:Int} (h:¬(decide (a<0) == decide (b<0))=true) (hl:¬b.natAbs<=a.natAbs):Uj (decide (b<0)) (b.natAbs-a.natAbs)=a+b:=by
 unfold Uj;by_cases h1:a<0 <;> by_cases h2:b<0 <;> simp [h1,h2] at h ⊢ <;> omega
theorem Qal (a:Int):(∃ m:Nat,a=(m:Int))\/∃ m:Nat,a=-(m:Int)/\0<m:=by
 rcases Kr a 0 with h | h
 ·exact .inr ⟨a.natAbs,by omega,by omega⟩
 ·exact .inl ⟨a.natAbs,by omega⟩
theorem Zdg (a b:Int):Uj (!(decide (a<0) == decide (b<0))) (a.natAbs*b.natAbs)=a*b:=by
 rcases Qal a with ⟨m,rfl⟩ | ⟨m,rfl,hm⟩ <;> rcases Qal b with ⟨n,rfl⟩ | ⟨n,rfl,hn⟩
 ·simp [Uj,show ¬((m:Int)<0) by omega,show ¬((n:Int)<0) by omega]
 ·simp [Uj,show ¬((m:Int)<0) by omega,show (-(n:Int)<0) by omega,hn,Vy]
 ·simp [Uj,show (-(m:Int)<0) by omega,show ¬((n:Int)<0) by omega,hm,Y9]
 ·simp [Uj,show (-(m:Int)<0) by omega,show (-(n:Int)<0) by omega,hm,hn,Wx]
theorem Zdf {a b:Int} (h:a % b=0):Uj (!(decide (a<0) == decide (b<0))) (a.natAbs / b.natAbs)=a / b:=by
 by_cases hb:b=0
 ·subst hb; simp [Uj]
 obtain ⟨c,rfl⟩:=Yh h;rw [Xw _ hb,Jv,Nat.mul_div_cancel_left _ (by omega)];rcases Qal b with ⟨n,rfl⟩ | ⟨n,rfl,hn⟩ <;> rcases Qal c with ⟨m,rfl⟩ | ⟨m,rfl,hm⟩
 ·have:¬((n:Int)*(m:Int)<0):=by rw [<-Y4]; omega
  simp [Uj,this,show ¬((n:Int)<0) by omega]
 ·have h1:0<n*m:=J6 (by omega) hm;have:((n:Int)*-(m:Int)<0):=by rw [Vy,<-Y4]; omega
  simp only [this,show ¬((n:Int)<0) by omega];simp [Uj]
 ·by_cases h0:m=0
  ·subst h0; simp [Uj]
  ·have h1:0<n*m:=J6 hn (by omega);have:(-(n:Int)*(m:Int)<0):=by rw [Y9,<-Y4]; omega
   simp only [this,show (-(n:Int)<0) by omega];simp [Uj]
 ·have:¬(-(n:Int)*-(m:Int)<0):=by rw [Wx,<-Y4]; omega
  simp only [this,show (-(n:Int)<0) by omega];simp [Uj]
theorem Q8g (a b:Int):Int.sign (a-b)=Mm a b:=by
 unfold Mm;rcases Jz a b with h | h | h
 ·rw [if_pos h,X3 (by omega)]
 ·rw [if_neg (by omega),if_neg (by omega),h,Int.sub_self]; rfl
 ·rw [if_neg (by omega),if_pos h,Jc (by omega)]
theorem Qxg {x y:Nat}:0<=Ie x y↔y<=x:=by
 unfold Ie;constructor
 ·intro h; split at h
  ·omega
  ·omega
 ·intro h; split
  ·omega
  ·split <;> omega
theorem Qhx {x e:Nat} (h:(U0 x).length=1) (he:(U0 x)[0]? = some e):x=e:=by
 rcases hd:U0 x with _ | ⟨u,l⟩
 ·rw [hd] at h; cases h
 ·rcases l with _ | ⟨w,l⟩
  ·rw [hd] at he; simp at he;have:=G7 x;rw [hd] at this; simp [Hx] at this; omega
  ·rw [hd] at h; simp at h
theorem Quc {a b:Int} (hb:0<b):ri (a / ((Int.gcd a b:Nat):Int))++ri (b / ((Int.gcd a b:Nat):Int))=fr (Rat.divInt a b):=by
 obtain ⟨h1,h2⟩:=Qny (n:=a) hb;rw [Ms,Int.gcd_comm] at h1 h2;rw [h1,h2]
theorem Qud (a:Int):ri a++ri 1=fr (Rat.divInt a 1):=by
 have h:=Quc (a:=a) (b:=1) (by decide);rw [show ((Int.gcd a 1:Nat):Int)=1 by simp] at h;simpa using h
theorem Qlb {a b:Int} (hb:b≠0) (ha2:Ul a<=90000000) (hb2:Ul b<=90000000):Ul ((Int.gcd a b:Nat):Int)<=90000000/\((Int.gcd a b:Nat):Int)≠0/\a % ((Int.gcd a b:Nat):Int)=0/\b % ((Int.gcd a b:Nat):Int)=0:=by
 have h1:=Qx7 (n:=a) hb hb2;have h2:=Qqs (n:=a) hb;have h3:=Qik a b;have h4:=Qil a b;rw [Ms,Int.gcd_comm] at h1 h2 h3 h4;exact ⟨h1,by omega,h3,h4⟩
theorem Ql3 {a b:Int} (h:b<0):Ft a b=Rat.divInt (-a) (-b):=by
 unfold Ft; rw [if_neg (by omega)];exact (Rat.neg_divInt_neg a b).symm
theorem Qai {a b:Int} (h:0<b):Ft a b=Rat.divInt a b:=by
 unfold Ft; rw [if_neg (by omega)]
theorem Qkd (a b:Rat):Ft (a.num*(b.den:Int)+b.num*(a.den:Int)) ((a.den:Int)*(b.den:Int))=a+b:=by
 unfold Ft;rw [if_neg (Jh (Ma a) (Ma b)),<-Rat.divInt_add_divInt _ _ (Ma a) (Ma b),Zq,Zq]
theorem Qln (a b:Rat):Ft (a.num*b.num) ((a.den:Int)*(b.den:Int))=a*b:=by
 unfold Ft;rw [if_neg (Jh (Ma a) (Ma b)),<-Kn,Zq,Zq]
theorem Ql2 {a b:Rat} (h:b≠0):Ft (a.num*(b.den:Int)) ((a.den:Int)*b.num)=a / b:=by
 have hn:b.num≠0:=λe=>h (Rat.num_eq_zero.1 e)
 unfold Ft;rw [if_neg (Jh (Ma a) hn),<-Kn,Zq,Ju];congr 1
 conv=>rhs; rw [<-Zq b,Rat.inv_divInt]
theorem Zhb {s:Nat} {a b:Rat} (ha:Qs s a) (hb:Qs s b):Qs (2*s+1) (a+b):=by
 rw [<-Qkd];unfold Ft;rw [if_neg (Jh (Ma a) (Ma b))];refine Qs.divInt (Qa (An _ _) ?_) (Qa (Uv _ _) (by have:=ha.2; have:=hb.2; omega)) (by omega);have h1:=Uv a.num (b.den:Int);have h2:=Uv b.num (a.den:Int);have:=ha.1; have:=ha.2; have:=hb.1; have:=hb.2;omega
theorem Qdv {z:Int} (hz:Ul z<=100000000):Ub Tryz.prog 56 [.agg (Gb z)] [.agg (ri z)]:=by
 have hl:(Ux z.natAbs).length<=1099511627776:=by have h2:32*(Ux z.natAbs).length<=100000000+31:=Ra hz; omega
 have h:=Q93 (l:=Ux z.natAbs) (λu hu=>(Nu _).1 u hu) hl (by rw [Fh]; exact hz);rw [Fh] at h;have hm:=D2 (decide (z<0)) z.natAbs;have e:Uj (decide (z<0)) z.natAbs=z:=by unfold Uj; by_cases h:z<0 <;> simp [h] <;> omega
 rw [e] at hm;exact w tt Tryz.func56 rfl [.c [] h,.c [] hm] rfl rfl trivial
theorem Qw2 {z:Int}:Ub Tryz.prog 166 [.agg (ri z)] [.one (.int .i64 (Int.sign z))]:=by
 have hn:=Qb4 (x:=z.natAbs);have hl:=Qa9 z.natAbs;rcases Jz z 0 with h | h | h
 ·rw [X3 h];exact w tt Tryz.func166 rfl [.f (by simp only [Hi]; exact decide_eq_false (by omega)),.t (decide_eq_true h)] rfl rfl trivial
 ·subst h;exact w tt Tryz.func166 rfl [.t (by simp only [Hi]; show decide (((U0 0).length:Int)=0)=true; rw [Ge]; rfl)] rfl rfl trivial
 ·rw [Jc h];exact w tt Tryz.func166 rfl [.f (by simp only [Hi]; exact decide_eq_false (by omega)),.f (decide_eq_false (by omega))] rfl rfl trivial
theorem Qtr {a b:Int} (ha:Ul a<=200000000) (hb:Ul b<=200000000):Ub Tryz.prog 168 [.agg (ri a),.agg (ri b)] [.agg (ri (a+b))]:=by
 by_cases hs:(decide (a<0) == decide (b<0))=true
 ·have cm:=D2 (decide (a<0)) (a.natAbs+b.natAbs);rw [Zde hs] at cm;exact w tt Tryz.func168 rfl [.t hs,.c [] (Zfo ha hb),.c [] cm] rfl rfl trivial
 ·have hs':(decide (a<0) == decide (b<0))=false:=by simpa using hs
  by_cases hl:b.natAbs<=a.natAbs
  ·have cm:=D2 (decide (a<0)) (a.natAbs-b.natAbs);rw [Zdh hs hl] at cm;exact w tt Tryz.func168 rfl [.f hs',.c [] (Qti ha hb),.t (decide_eq_true (Qxg.2 hl)),.c [] (Qtp ha hb hl),.c [] cm] rfl rfl trivial
  ·have cm:=D2 (decide (b<0)) (b.natAbs-a.natAbs);rw [Q8a hs hl] at cm;exact w tt Tryz.func168 rfl [.f hs',.c [] (Qti ha hb),.f (decide_eq_false λh=>hl (Qxg.1 h)),.c [] (Qtp hb ha (by omega)),.c [] cm] rfl rfl trivial
theorem Q3p {a b:Int} (ha:Ul a<=200000000) (hb:Ul b<=200000000):Ub Tryz.prog 170 [.agg (ri a),.agg (ri b)] [.agg (ri (a-b))]:=by
 have ca:=Qtr (a:=a) (b:=-b) ha (by rw [Fx]; exact hb);rw [show a+-b=a-b from by omega] at ca;exact w tt Tryz.func170 rfl [.c [] (E6 (z:=b)),.c [] ca] rfl rfl trivial
theorem Sw {a b:Int} (ha:Ul a<=200000000) (hb:Ul b<=200000000):Ub Tryz.prog 55 [.agg (ri a),.agg (ri b)] [.agg (ri (a*b))]:=by
 have cm:=D2 (!(decide (a<0) == decide (b<0))) (a.natAbs*b.natAbs);rw [Zdg] at cm;exact w tt Tryz.func55 rfl [.c [] (Zfr ha hb),.c [] cm] rfl rfl trivial
theorem Zfy {a b:Int} (ha:Ul a<=200000000) (hb:Ul b<=200000000):Ub Tryz.prog 96 [.agg (ri a),.agg (ri b)] [.one (.int .i64 (Mm a b))]:=by
 have h:=Qw2 (z:=a-b);rw [Q8g] at h;exact w tt Tryz.func96 rfl [.c [] (Q3p ha hb),.c [] h] rfl rfl trivial
theorem Qdw {a b:Int} (ha:Ul a<=90000000) (hb:Ul b<=90000000) (h0:b≠0) (hd:a % b=0):Ub Tryz.prog 134 [.agg (ri a),.agg (ri b)] [.agg (ri (a / b))]:=by
 have cm:=D2 (!(decide (a<0) == decide (b<0))) (a.natAbs / b.natAbs);rw [Zdf hd] at cm;exact w tt Tryz.func134 rfl [.c [] (Q2r ha hb (by omega)),.c [] cm] rfl rfl trivial
theorem Zhf (x:Nat):ri ((x:Nat):Int)=[nd x,.bool false]:=by
 unfold ri sg;rw [Zw,decide_eq_false (by omega)]
theorem Qhm {a b:Int} (ha:Ul a<=90000000) (hb:Ul b<=90000000):Ub Tryz.prog 133 [.agg (ri a),.agg (ri b)] [.agg (ri ((Int.gcd a b:Nat):Int))]:=by
 rw [Zhf];refine Gk Tryz.func133 rfl ?_;refine go tt [] rfl trivial ?_;refine lp (S:=Nat×Nat) 3 (λL1 s=>(5,.v (.one (nd s.1)))::(6,.v (.one (nd s.2)))::L1) (λ_=>[.blk 33 (ri a),.blk 33 (ri b),.blk 33 [.nils,.bool false]]) (λs=>s.2) (λs=>Nat.gcd s.1 s.2=Int.gcd a b/\sz s.1<=90000000/\sz s.2<=90000000) (a.natAbs,b.natAbs) ⟨rfl,ha,hb⟩ rfl (λ_ _=>rfl) rfl λs hs=>?_
 obtain ⟨x,y⟩:=s;obtain ⟨hp0,hp1,hp2⟩:=hs;dsimp only at hp0 hp1 hp2 ⊢;have hyn:=Qb4 (x:=y);have hyl:=Qa9 y;by_cases h1:y=0
 ·have e:Int.gcd a b=x:=by rw [<-hp0,h1,Nat.gcd_zero_right]
  rw [e];exact en tt [.f (by simp only [Hi]; exact decide_eq_false (by omega))] rfl rfl trivial
 ·have hlt:=Xb x (show 0<y by omega);refine go tt [.t (by simp only [Hi]; exact decide_eq_true (by omega)),.c [] (Q2r hp1 hp2 (by omega))] rfl trivial ?_;exact rd (y,x % y) (by dsimp only; omega) ⟨by dsimp only; rw [<-hp0,Nat.gcd_comm x y,Nat.gcd_rec y x,Nat.gcd_comm],hp2,Nat.le_trans (Hr (by dsimp only; omega)) hp2⟩ rfl
theorem O3 {a b:Int} (ha:Ul a<=90000000) (hb:Ul b<=90000000):Ub Tryz.prog 68 [.agg (ri a),.agg (ri b)] [.agg (fr (Ft a b))]:=by
 rcases Jz b 0 with hs | hs | hs
 ·skip
  by_cases h1:-b=1
  ·have h0:(Mh (U0 (-b).natAbs))[0]? = some [LV.int .i64 1]:=by rw [h1,show (1:Int).natAbs=1 from rfl,D9]; rfl
   have hl1:decide (((Mh (U0 (-b).natAbs)).length:Int)=1)=true:=by rw [h1,show (1:Int).natAbs=1 from rfl,D9]; rfl
   have e:fr (Ft a b)=ri (-a)++ri (-b):=by rw [Ql3 hs,h1]; exact (Qud _).symm
   rw [e];exact w tt Tryz.func68 rfl [.c [] (P5 (z:=b)),.f (decide_eq_false (by omega)),.t (decide_eq_true hs),.c [] (E6 (z:=a)),.c [] (E6 (z:=b)),.g 19 true hl1,.x h0,.t rfl] rfl rfl trivial
  ·have hgf:=Qlb (a:=-a) (b:=-b) (by omega) (by first | exact ha | (rw [Fx]; exact ha)) (by first | exact hb | (rw [Fx]; exact hb));have cg:=Qhm (a:=-a) (b:=-b) (by first | exact ha | (rw [Fx]; exact ha)) (by first | exact hb | (rw [Fx]; exact hb));have q1:=Qdw (a:=-a) (b:=((Int.gcd (-a) (-b):Nat):Int)) (by first | exact ha | (rw [Fx]; exact ha)) hgf.1 hgf.2.1 hgf.2.2.1;have q2:=Qdw (a:=-b) (b:=((Int.gcd (-a) (-b):Nat):Int)) (by first | exact hb | (rw [Fx]; exact hb)) hgf.1 hgf.2.1 hgf.2.2.2;have e:fr (Ft a b)=ri ((-a) / ((Int.gcd (-a) (-b):Nat):Int))++ri ((-b) / ((Int.gcd (-a) (-b):Nat):Int)):=by rw [Ql3 hs]; exact (Quc (by omega)).symm
   rw [e];have hl:=Qa9 (-b).natAbs;by_cases hl1:(U0 (-b).natAbs).length=1
   ·obtain ⟨u,hu⟩:=gxE (l:=(U0 (-b).natAbs)) (i:=0) (by omega);have hue:=Qhx hl1 hu;exact w tt Tryz.func68 rfl [.c [] (P5 (z:=b)),.f (decide_eq_false (by omega)),.t (decide_eq_true hs),.c [] (E6 (z:=a)),.c [] (E6 (z:=b)),.g 19 true (by simp only [Hi]; exact decide_eq_true (by omega)),.x (Fi hu),.f (decide_eq_false (by omega)),.c [] cg,.c [] q1,.c [] q2] rfl rfl trivial
   ·exact w tt Tryz.func68 rfl [.c [] (P5 (z:=b)),.f (decide_eq_false (by omega)),.t (decide_eq_true hs),.c [] (E6 (z:=a)),.c [] (E6 (z:=b)),.g 19 false (by simp only [Hi]; exact decide_eq_false (by omega)),.f rfl,.c [] cg,.c [] q1,.c [] q2] rfl rfl trivial
 ·subst hs;have h0:(Mh (U0 (1:Int).natAbs))[0]? = some [LV.int .i64 1]:=by rw [show (1:Int).natAbs=1 from rfl,D9]; rfl
  have h1:decide (((Mh (U0 (1:Int).natAbs)).length:Int)=1)=true:=by rw [show (1:Int).natAbs=1 from rfl,D9]; rfl
  have e:fr (Ft a 0)=ri a++ri 1:=(Qud a).symm;rw [e];exact w tt Tryz.func68 rfl [.c [] (P5 (z:=0)),.t rfl,.c [] (Ca (n:=1) (by decide)),.f rfl,.g 19 true h1,.x h0,.t rfl] rfl rfl trivial
 ·skip
  by_cases h1:b=1
  ·have h0:(Mh (U0 (b).natAbs))[0]? = some [LV.int .i64 1]:=by rw [h1,show (1:Int).natAbs=1 from rfl,D9]; rfl
   have hl1:decide (((Mh (U0 (b).natAbs)).length:Int)=1)=true:=by rw [h1,show (1:Int).natAbs=1 from rfl,D9]; rfl
   have e:fr (Ft a b)=ri (a)++ri (b):=by rw [Qai hs,h1]; exact (Qud _).symm
   rw [e];exact w tt Tryz.func68 rfl [.c [] (P5 (z:=b)),.f (decide_eq_false (by omega)),.f (decide_eq_false (by omega)),.g 19 true hl1,.x h0,.t rfl] rfl rfl trivial
  ·have hgf:=Qlb (a:=a) (b:=b) (by omega) (by first | exact ha | (rw [Fx]; exact ha)) (by first | exact hb | (rw [Fx]; exact hb));have cg:=Qhm (a:=a) (b:=b) (by first | exact ha | (rw [Fx]; exact ha)) (by first | exact hb | (rw [Fx]; exact hb));have q1:=Qdw (a:=a) (b:=((Int.gcd (a) (b):Nat):Int)) (by first | exact ha | (rw [Fx]; exact ha)) hgf.1 hgf.2.1 hgf.2.2.1;have q2:=Qdw (a:=b) (b:=((Int.gcd (a) (b):Nat):Int)) (by first | exact hb | (rw [Fx]; exact hb)) hgf.1 hgf.2.1 hgf.2.2.2;have e:fr (Ft a b)=ri ((a) / ((Int.gcd (a) (b):Nat):Int))++ri ((b) / ((Int.gcd (a) (b):Nat):Int)):=by rw [Qai hs]; exact (Quc (by omega)).symm
   rw [e];have hl:=Qa9 (b).natAbs;by_cases hl1:(U0 (b).natAbs).length=1
   ·obtain ⟨u,hu⟩:=gxE (l:=(U0 (b).natAbs)) (i:=0) (by omega);have hue:=Qhx hl1 hu;exact w tt Tryz.func68 rfl [.c [] (P5 (z:=b)),.f (decide_eq_false (by omega)),.f (decide_eq_false (by omega)),.g 19 true (by simp only [Hi]; exact decide_eq_true (by omega)),.x (Fi hu),.f (decide_eq_false (by omega)),.c [] cg,.c [] q1,.c [] q2] rfl rfl trivial
   ·exact w tt Tryz.func68 rfl [.c [] (P5 (z:=b)),.f (decide_eq_false (by omega)),.f (decide_eq_false (by omega)),.g 19 false (by simp only [Hi]; exact decide_eq_false (by omega)),.f rfl,.c [] cg,.c [] q1,.c [] q2] rfl rfl trivial
theorem Zea {n d:Int} (hn:-1000000000<=n/\n<=1000000000) (hd:-1000000000<=d/\d<=1000000000):Ub Tryz.prog 112 [.one (.int .i64 n),.one (.int .i64 d)] [.agg (fr (Ft n d))]:=by
 have b1:Ul n<=90000000:=Qa (Rh.2 (show n.natAbs<2^40 by omega)) (by decide);have b2:Ul d<=90000000:=Qa (Rh.2 (show d.natAbs<2^40 by omega)) (by decide);exact w tt Tryz.func112 rfl [.c [] (Ca (by omega)),.c [] (Ca (by omega)),.c [] (O3 b1 b2)] rfl rfl trivial
theorem Zft {a:Rat}:Ub Tryz.prog 67 [.agg (fr a)] [.agg (fr (-a))]:=by
 have e:fr (-a)=ri (-a.num)++ri (a.den:Int):=rfl;rw [e];exact w tt Tryz.func67 rfl [.c [] (E6 (z:=a.num))] rfl rfl trivial
theorem Qtg {a b:Rat} (ha:Qs 20000000 a) (hb:Qs 20000000 b):Ub Tryz.prog 169 [.agg (fr a),.agg (fr b)] [.agg (fr (a+b))]:=by
 have k1:=Uv a.num (b.den:Int);have k2:=Uv b.num (a.den:Int);have k3:=Uv (a.den:Int) (b.den:Int);have k4:=An (a.num*(b.den:Int)) (b.num*(a.den:Int));have h1:=ha.1; have h2:=ha.2; have h3:=hb.1; have h4:=hb.2;have cm:=O3 (a:=a.num*(b.den:Int)+b.num*(a.den:Int)) (b:=(a.den:Int)*(b.den:Int)) (by omega) (by omega);rw [Qkd] at cm;exact w tt Tryz.func169 rfl [.c [] (Sw (a:=a.num) (b:=(b.den:Int)) (by omega) (by omega)),.c [] (Sw (a:=b.num) (b:=(a.den:Int)) (by omega) (by omega)),.c [] (Qtr (by omega) (by omega)),.c [] (Sw (a:=(a.den:Int)) (b:=(b.den:Int)) (by omega) (by omega)),.c [] cm] rfl rfl trivial
theorem Qtk {a b:Rat} (ha:Qs 40000000 a) (hb:Qs 40000000 b):Ub Tryz.prog 139 [.agg (fr a),.agg (fr b)] [.agg (fr (a*b))]:=by
 have k1:=Uv a.num b.num;have k3:=Uv (a.den:Int) (b.den:Int);have h1:=ha.1; have h2:=ha.2; have h3:=hb.1; have h4:=hb.2;have cm:=O3 (a:=a.num*b.num) (b:=(a.den:Int)*(b.den:Int)) (by omega) (by omega);rw [Qln] at cm;exact w tt Tryz.func139 rfl [.c [] (Sw (a:=a.num) (b:=b.num) (by omega) (by omega)),.c [] (Sw (a:=(a.den:Int)) (b:=(b.den:Int)) (by omega) (by omega)),.c [] cm] rfl rfl trivial
theorem Qtm {a b:Rat} (ha:Qs 40000000 a) (hb:Qs 40000000 b) (h0:b≠0):Ub Tryz.prog 207 [.agg (fr a),.agg (fr b)] [.agg (fr (a / b))]:=by
 have k1:=Uv a.num (b.den:Int);have k3:=Uv (a.den:Int) b.num;have h1:=ha.1; have h2:=ha.2; have h3:=hb.1; have h4:=hb.2;have cm:=O3 (a:=a.num*(b.den:Int)) (b:=(a.den:Int)*b.num) (by omega) (by omega);rw [Ql2 h0] at cm;exact w tt Tryz.func207 rfl [.c [] (Sw (a:=a.num) (b:=(b.den:Int)) (by omega) (by omega)),.c [] (Sw (a:=(a.den:Int)) (b:=b.num) (by omega) (by omega)),.c [] cm] rfl rfl trivial
theorem Ch {a b:Rat} (ha:Qs 40000000 a) (hb:Qs 40000000 b):Ub Tryz.prog 30 [.agg (fr a),.agg (fr b)] [.one (.int .i64 (U8 a b))]:=by
 have k1:=Uv a.num (b.den:Int);have k2:=Uv b.num (a.den:Int);have h1:=ha.1; have h2:=ha.2; have h3:=hb.1; have h4:=hb.2;exact w tt Tryz.func30 rfl [.c [] (Sw (a:=a.num) (b:=(b.den:Int)) (by omega) (by omega)),.c [] (Sw (a:=b.num) (b:=(a.den:Int)) (by omega) (by omega)),.c [] (Zfy (a:=a.num*(b.den:Int)) (b:=b.num*(a.den:Int)) (by omega) (by omega))] rfl rfl trivial
end Orr
namespace Orr
def Nm:List Rat->List Rat
 | []=>[]
 |
  x::l=>match Nm l with
  | []=>if x=0 then [] else [x]
  | y::k=>x::y::k
theorem Oq:∀ {l:List Rat},(∀ x∈l,x=0)->Nm l=[]
 | [],_=>rfl
 |
  x::l,h=>by
  have ih:=Oq (l:=l) (λy hy=>h y (Ql _ hy));simp [Nm,ih,h x (Qt ..)]
theorem Qjj:∀ {l:List Rat} {m:Nat} {y:Rat},(∀ j x,m<j->l[j]? = some x->x=0)->l[m]? = some y->y≠0->Nm l=l.take (m+1)
 | [],m,y,_,h,_=>by simp at h
 |
  x::l,0,y,h1,h2,h3=>by
  have h0:Nm l=[]:=Oq λz hz=>by
   obtain ⟨j,hj⟩:=Ze.1 hz;exact h1 (j+1) z (by omega) (by simpa using hj)
  simp at h2;subst h2;simp [Nm,h0,h3]
 |
  x::l,m+1,y,h1,h2,h3=>by
  have ih:=Qjj (l:=l) (m:=m) (y:=y) (λj z hj hz=>h1 (j+1) z (by omega) (by simpa using hz)) (by simpa using h2) h3;cases hl:l with
  | nil=>subst hl; simp at h2
  |
   cons u k =>
   subst hl;rw [Yk] at ih;simp only [Nm] at ih ⊢;rw [ih];simp
theorem Qez {l:List Rat} {m:Nat} (hm:m<=l.length) (h1:∀ j x,m<=j->l[j]? = some x->x=0) (h2:0<m->∃ y,l[m-1]? = some y/\y≠0):Nm l=l.take m:=by
 rcases Qy m with h0 | h0
 ·subst h0;rw [Oq λz hz=>?_]; rfl;obtain ⟨j,hj⟩:=Ze.1 hz;exact h1 j z (by omega) hj
 ·obtain ⟨y,hy,hy0⟩:=h2 h0;have:=Qjj (l:=l) (m:=m-1) (y:=y) (λj x hj hx=>h1 j x (by omega) hx) hy hy0;rwa [show m-1+1=m from by omega] at this
theorem Ql9:∀ (l:List Rat),∀ z∈Nm l,z∈l
 | [],z,h=>h
 |
  x::l,z,h=>by
  simp only [Nm] at h;have ih:=Ql9 l
  split at h
  ·split at h
   ·cases h
   ·simp at h; simp [h]
  ·rename_i y k e;rw [e] at ih;rcases Qx.1 h with h | h
   ·simp [h]
   ·exact Ql _ (ih z h)
theorem Ql8:∀ (l:List Rat),(Nm l).length<=l.length
 | []=>Qj _
 |
  x::l=>by
  have ih:=Ql8 l;simp only [Nm]
  split
  ·split <;> simp
  ·rename_i y k e;rw [e] at ih;simp at ih ⊢; omega
def zp (p:List Int):List Rat:=p.map λ(z:Int)=>(z:Rat)
theorem Nf:∀ (p:List Int),Nm (zp p)=zp (trim p)
 | []=>rfl
 |
  x::l=>by
  have ih:=Nf l;unfold zp at ih ⊢;simp only [Zv,Nm,trim,ih];cases h:trim l with
  |
   nil =>
   simp only [Jg];by_cases hx:x=0
   ·subst hx; simp
   ·have:(x:Rat)≠0:=λe=>hx (by exact_mod_cast e)
    simp [hx,this]
  | cons y k=>simp
theorem Si (p:List Int):(zp p).length=p.length:=Zd _
theorem Q9e {p:List Int} {i:Nat} {z:Int} (h:p[i]? = some z):(zp p)[i]? = some (z:Rat):=by simp [zp,h]
theorem Qdm (p:List Int) (i:Nat):(zp p).getD i 0=((p.getD i 0:Int):Rat):=by
 simp only [Qg,zp,Q5];cases p[i]? <;> rfl
def Rb (s:Nat) (p:List Rat):Prop:=∀ q∈p,Qs s q
theorem Rb.mono {s t:Nat} {p:List Rat} (h:Rb s p) (ht:s<=t):Rb t p:=λq hq=>(h q hq).mono ht
theorem Rb.get {s:Nat} {p:List Rat} (h:Rb s p) {i:Nat} {q:Rat} (hq:p[i]? = some q):Qs s q:=h q (Qc hq)
theorem B7 {s:Nat} {z:Int} (h:Ul z<=s) (h1:1<=s):Qs s (z:Rat):=⟨by simpa using h,Qa (show Ul ((1:Nat):Int)<=1 by decide) h1⟩
theorem Qaz {s:Nat} {p:List Int} (h:Bd s p) (h1:1<=s):Rb s (zp p):=λq hq=>by
 obtain ⟨z,hz,rfl⟩:=Zg.1 hq;exact B7 (h z hz) h1
theorem Zcy {s:Nat} (h1:1<=s):Qs s 0:=B7 (z:=0) (by simp [Px]) h1
theorem Rb.getD {s:Nat} {p:List Rat} (h:Rb s p) (h1:1<=s) (i:Nat):Qs s (p.getD i 0):=by
 rw [Qg];cases e:p[i]? with
 | none=>exact Zcy h1
 | some q=>exact h.get e
theorem Rb.trim {s:Nat} {p:List Rat} (h:Rb s p):Rb s (Nm p):=λq hq=>h q (Ql9 p q hq)
def Ig (f:Nat->Rat) (n:Nat):List Rat:=(List.range n).map f
theorem Qdb (f:Nat->Rat) (n:Nat):(Ig f n).length=n:=by simp [Ig]
theorem Qme (f:Nat->Rat) (n:Nat):Ig f (n+1)=Ig f n++[f n]:=by simp [Ig,Ku]
theorem Zdp {s n:Nat} {f:Nat->Rat} (h:∀ i,i<n->Qs s (f i)):Rb s (Ig f n):=λq hq=>by
 obtain ⟨i,hi,rfl⟩:=Zg.1 hq;exact h i (Kb.1 hi)
theorem Qg6 {f:Nat->Rat} {g:Nat->Int} (n:Nat) (h:∀ i,i<n->f i=(g i:Rat)):Ig f n=zp ((List.range n).map g):=by
 simp only [Ig,zp,List.map_map];exact Yy λi hi=>h i (Kb.1 hi)
def Q1i (p q:List Rat):List Rat:=Nm (Ig (λi=>p.getD i 0+q.getD i 0) (max p.length q.length))
def Pp (p:List Rat) (c:Rat):List Rat:=Nm (Ig (λi=>p.getD i 0*c) p.length)
def Qor (p:List Rat):List Rat:=Pp p (-1)
def Q71 (p q:List Rat):List Rat:=Q1i p (Qor q)
theorem Zc0 (p q:List Int):Q1i (zp p) (zp q)=zp (Qcs p q):=by
 unfold Q1i Qcs Pg;rw [Qg6 (g:=λk=>p.getD k 0+q.getD k 0) _ λi _=>by rw [Qdm,Qdm,V6],Nf,Si,Si]
theorem Ql6 (p:List Int) (c:Int):Pp (zp p) (c:Rat)=zp (Uu p c):=by
 unfold Pp Uu Pg;rw [Qg6 (g:=λk=>p.getD k 0*c) _ λi _=>by rw [Qdm,Xz],Nf,Si]
theorem Qu8 (p:List Int):Uu p (-1)=S5 p:=by
 unfold Uu S5 Pg;congr 2;funext k;omega
theorem Qy9 (p:List Int):Qor (zp p)=zp (S5 p):=by
 rw [<-Qu8,<-Ql6]; rfl
theorem I1 {p q:List Int} (hp:Uf p) (hq:Uf q) (h:∀ k,p.getD k 0=q.getD k 0):p=q:=by
 have key:∀ {p q:List Int},Uf q->(∀ k,p.getD k 0=q.getD k 0)->q.length<=p.length:=by
  intro p q hq h;rcases Q6 p.length q.length with h1 | h1
  ·have h2:=Gi hq (by omega);rw [<-h,Qg,Qr (by omega)] at h2;exact (h2 rfl).elim
  ·exact h1
 exact Qia (V5 (key hp λk=>(h k).symm) (key hq h)) λj _=>h j
theorem Qt8 {n m:Nat} {f g:Nat->Int} (hn:n<=m) (h:∀ k,k<n->f k=g k) (h0:∀ k,n<=k->k<m->g k=0):Pg n f=Pg m g:=by
 refine I1 (Ut _ _) (Ut _ _) λk=>?_
 rw [H9,H9];by_cases h1:k<n
 ·rw [if_pos h1,if_pos (by omega),h k h1]
 ·rw [if_neg h1];by_cases h2:k<m
  ·rw [if_pos h2,h0 k (by omega) h2]
  ·rw [if_neg h2]
theorem Qze (p q:List Int):Q71 (zp p) (zp q)=zp (Tp p q):=by
 unfold Q71;rw [Qy9,Zc0];congr 1;have hl:=Di q;unfold Qcs Tp;refine Qt8 (by omega) (λk _=>?_) λk h1 h2=>?_
 ·unfold S5;rw [H9]
  split
  ·omega
  ·rename_i h;have:q.getD k 0=0:=by rw [Qg,Qr (by omega)]; rfl
   omega
 ·have h3:p.getD k 0=0:=by rw [Qg,Qr (by omega)]; rfl
  have h4:(S5 q).getD k 0=0:=by rw [Qg,Qr (by omega)]; rfl
  unfold S5 at h4;rw [H9] at h4
  split at h4
  ·omega
  ·have:q.getD k 0=0:=by rw [Qg,Qr (by omega)]; rfl
   omega
structure Crv where
 x:List Int
 y:List Int
 d:Int
abbrev cl (k:Crv):List LV:=[pl k.x,pl k.y,sg k.d,mg k.d]
def Crv.d' (k:Crv):Int:=if k.d=0 then 1 else k.d
def Crv.g (k:Crv):Int:=if k.d'<0 then -((Gl (k.d'::(trim k.x++trim k.y)):Nat):Int) else (Gl (k.d'::(trim k.x++trim k.y)):Nat)
def Crv.norm (k:Crv):Crv:=⟨trim ((trim k.x).map (· / k.g)),trim ((trim k.y).map (· / k.g)),k.d' / k.g⟩
theorem I3 {l:List Int}:∀ z∈l,((Gl l:Nat):Int)∣z:=by
 have key:∀ (l:List Int) (g:Nat),(l.foldl (λg z=>Nat.gcd g z.natAbs) g∣g)/\∀ z∈l,l.foldl (λg z=>Nat.gcd g z.natAbs) g∣z.natAbs:=by
  intro l
  induction l with
  | nil=>intro g; exact ⟨Nat.dvd_refl _,by simp⟩
  |
   cons u l ih =>
   intro g;obtain ⟨h1,h2⟩:=ih (Nat.gcd g u.natAbs);refine ⟨Nat.dvd_trans h1 (Ki _ _),λz hz=>?_⟩;rcases Qx.1 hz with rfl | hz
   ·exact Nat.dvd_trans h1 (Wm _ _)
   ·exact h2 z hz
 intro z hz;have:=(key l 0).2 z hz;exact Wb.2 this
theorem Crv.d'_ne (k:Crv):k.d'≠0:=by unfold Crv.d'; split <;> omega
theorem Crv.gcd_ne (k:Crv):Gl (k.d'::(trim k.x++trim k.y))≠0:=by
 intro e;have h:=I3 (l:=k.d'::(trim k.x++trim k.y)) k.d' (Qt ..);rw [e] at h;exact k.d'_ne (by simpa using h)
theorem Crv.g_ne (k:Crv):k.g≠0:=by
 have h0:=k.gcd_ne;unfold Crv.g
 split <;> omega
theorem Crv.g_dvd (k:Crv):∀ z∈k.d'::(trim k.x++trim k.y),z % k.g=0:=by
 intro z hz;have h:=I3 z hz;refine Jw ?_;unfold Crv.g
 split
 ·exact W6.2 h
 ·exact h
theorem Crv.isz_g (k:Crv) {s:Nat} (h:Ul k.d'<=s):Ul k.g<=s:=by
 have hd:=I3 (l:=k.d'::(trim k.x++trim k.y)) k.d' (Qt ..);have hle:Gl (k.d'::(trim k.x++trim k.y))<=k.d'.natAbs:=Vx (by have:=k.d'_ne; omega) (Wb.1 hd);refine Qa (Hr ?_) h;unfold Crv.g
 split <;> simp <;> exact hle
structure Cs (s n:Nat) (k:Crv):Prop where
 x:Bd s k.x
 y:Bd s k.y
 d:Ul k.d<=s
 lx:k.x.length<=n
 ly:k.y.length<=n
theorem Qnq {k:Crv} {s:Nat} (h:Ul k.d<=s) (h1:1<=s):Ul k.d'<=s:=by unfold Crv.d'; split <;> first | exact h1 | exact h
theorem Qdr {s:Nat} {p:List Int} (h:Bd s p) (g:Int):Bd s (p.map (· / g)):=λz hz=>by
 obtain ⟨u,hu,rfl⟩:=Zg.1 hz;exact Qa (I6 u g) (h u hu)
theorem Cs.norm {s n:Nat} {k:Crv} (h:Cs s n k) (h1:1<=s):Cs s n k.norm:=by
 refine ⟨Rj (Qdr (Rj h.x) _),Rj (Qdr (Rj h.y) _),Qa (I6 _ _) (Qnq h.d h1),?_,?_⟩
 ·refine Qa (G0 _) ?_; rw [Zd]; exact Qa (G0 _) h.lx
 ·refine Qa (G0 _) ?_; rw [Zd]; exact Qa (G0 _) h.ly
theorem Cs.mono {s n t m:Nat} {k:Crv} (h:Cs s n k) (hs:s<=t) (hn:n<=m):Cs t m k:=⟨W9 h.x hs,W9 h.y hs,Qa h.d hs,Qa h.lx hn,Qa h.ly hn⟩
def Nml (k:Crv):Prop:=Uf k.x/\Uf k.y/\0<k.d/\Gl (k.d::(k.x++k.y))=1
theorem Crv.norm_of {k:Crv} (h:Nml k):k.norm=k:=by
 obtain ⟨h1,h2,h3,h4⟩:=h;have hd:k.d'=k.d:=by unfold Crv.d'; rw [if_neg (by omega)]
 have hx:trim k.x=k.x:=h1;have hy:trim k.y=k.y:=h2;have hg:k.g=1:=by unfold Crv.g; rw [hd,hx,hy,h4,if_neg (by omega)]; rfl
 unfold Crv.norm;rw [hg,hd,hx,hy];simp [hx,hy]
theorem Qni {l:List Int} {g:Int} (hg:g≠0) (hga:g.natAbs=Gl l):Gl (l.map (· / g))=1:=by
 have key:∀ (l:List Int) (a:Nat),(∀ z∈l,g∣z)->l.foldl (λa z=>Nat.gcd a z.natAbs) (a*g.natAbs)=((l.map (· / g)).foldl (λa z=>Nat.gcd a z.natAbs) a)*g.natAbs:=by
  intro l
  induction l with
  | nil=>intro a _; rfl
  |
   cons z l ih =>
   intro a h;simp only [Zv,Xk];have hz:z.natAbs=(z / g).natAbs*g.natAbs:=by
    obtain ⟨q,rfl⟩:=h z (Qt ..);rw [Xw _ hg,Jv,Zf]
   rw [hz,Nat.gcd_mul_right];exact ih _ λu hu=>h u (Ql _ hu)
 have h:=key l 0 λz hz=>Xl.1 (by rw [hga]; exact Xl.2 (I3 z hz))
 rw [Yt] at h;have h':Gl l=Gl (l.map (· / g))*g.natAbs:=h;rw [<-hga] at h';have hp:0<g.natAbs:=by omega
 exact Nat.eq_of_mul_eq_mul_right hp (by rw [K9]; exact h'.symm)
theorem Dw {l:List Int} {g:Int} (ht:Uf l) (hg:g≠0) (hd:∀ z∈l,g∣z):Uf (l.map (· / g)):=by
 induction l with
 | nil=>rfl
 |
  cons x l ih =>
  have hne:∀ z∈x::l,z≠0->z / g≠0:=λz hz h0 h1=>by
   obtain ⟨q,rfl⟩:=hd z hz;rw [Xw _ hg] at h1;rw [h1] at h0; simp at h0
  unfold Uf at ht ih ⊢;cases hl:trim l with
  |
   nil =>
   simp only [trim,hl] at ht
   split at ht
   ·cases ht
   ·rename_i hx;injection ht with _ h2;subst h2;simp [trim,hne x (Qt ..) hx]
  |
   cons y k =>
   simp only [trim,hl] at ht;injection ht with _ h2;have hll:trim l=l:=by rw [hl]; exact h2
   have ih:=ih hll λz hz=>hd z (Ql _ hz)
   rw [Zv];have hne2:l.map (· / g)≠[]:=by rw [<-hll,hl]; simp
   cases hm:l.map (· / g) with
   | nil=>exact absurd hm hne2
   |
    cons u w =>
    rw [hm] at ih;have e:trim (x / g::u::w)=match trim (u::w) with | []=>if x / g=0 then [] else [x / g] | y::k=>x / g::y::k:=rfl
    rw [e,ih]
theorem Crv.nml (k:Crv):Nml k.norm:=by
 have hg:=k.g_ne;have hdv:∀ z∈k.d'::(trim k.x++trim k.y),k.g∣z:=λz hz=>Yh (k.g_dvd z hz)
 have hx:=Dw (g:=k.g) (Gu k.x) hg λz hz=>hdv z (by simp [hz])
 have hy:=Dw (g:=k.g) (Gu k.y) hg λz hz=>hdv z (by simp [hz])
 refine ⟨Gu _,Gu _,?_,?_⟩
 ·show 0<k.d' / k.g;obtain ⟨q,hq⟩:=hdv k.d' (Qt ..);have h0:=k.d'_ne;have hgc:=k.gcd_ne;have e:k.d' / k.g=q:=by rw [hq,Xw _ hg]
  rw [e];unfold Crv.g at hq hg;have hq0:q≠0:=λe=>by rw [e,Vk] at hq; exact h0 hq
  split at hq
  ·rename_i hneg;rcases Wa hq0 with h | h
   ·have:=V3 (a:=-((Gl (k.d'::(trim k.x++trim k.y)):Nat):Int)) (b:=q) (by omega) h;omega
   ·exact h
  ·rename_i hneg;rcases Wa hq0 with h | h
   ·have:=V2 (a:=((Gl (k.d'::(trim k.x++trim k.y)):Nat):Int)) (b:=q) (by omega) h;omega
   ·exact h
 ·show Gl (k.d' / k.g::(trim ((trim k.x).map (· / k.g))++trim ((trim k.y).map (· / k.g))))=1;rw [show trim ((trim k.x).map (· / k.g))=(trim k.x).map (· / k.g) from hx,show trim ((trim k.y).map (· / k.g))=(trim k.y).map (· / k.g) from hy,<-Yc,<-Zv (f:=(· / k.g))];refine Qni hg ?_;unfold Crv.g
  split <;> omega
structure Pt where
 c:Crv
 id:Int
def Hw (p:Pt):List LV:=[pl p.c.x,pl p.c.y,sg p.c.d,mg p.c.d,.int .i64 p.id]
def pts (l:List Pt):LV:=.row (l.map Hw)
def pos:List Pt->Int->Nat
 | [],_=>0
 | p::l,id=>if p.id<id then pos l id+1 else 0
def has (l:List Pt) (id:Int):Bool:=match l[pos l id]? with
 | some p=>decide (p.id=id)
 | none=>false
theorem Q65 (l:List Pt) (id:Int):pos l id<=l.length:=by
 induction l with
 | nil=>exact Qj _
 | cons p l ih=>simp only [pos]; split <;> simp <;> omega
theorem Qu6:∀ {l:List Pt} {id:Int} {k:Nat},(∀ j p,j<k->l[j]? = some p->p.id<id)->(k=l.length\/∃ p,l[k]? = some p/\¬p.id<id)->pos l id=k
 |
  [],id,k,_,h=>by
  rcases h with h | ⟨p,h,_⟩
  ·subst h; rfl
  ·simp at h
 |
  q::l,id,0,_,h=>by
  rcases h with h | ⟨p,h,h2⟩
  ·simp at h
  ·simp at h; subst h; simp [pos,h2]
 |
  q::l,id,k+1,h1,h=>by
  have hq:=h1 0 q (by omega) rfl;simp only [pos,hq,if_true];rw [Qu6 (k:=k) (λj p hj hp=>h1 (j+1) p (by omega) (by simpa using hp))];rcases h with h | ⟨p,h,h2⟩
  ·left; simpa using h
  ·right; exact ⟨p,by simpa using h,h2⟩
def put (l:List Pt) (q:Pt):List Pt:=l.take (pos l q.id)++q::l.drop (pos l q.id)
def Ol (l:List Pt) (q:Pt):Int:=if has l q.id=true then 6 else if 6<=l.length then 9 else 0
def Q2b (s n:Nat) (p:Pt):Prop:=Nml p.c/\Cs s n p.c
theorem Qy4 (l:List Pt) (q:Pt):(put l q).length=l.length+1:=by
 have:=Q65 l q.id;simp [put]; omega
theorem Qy5 {l:List Pt} {q p:Pt} (h:p∈put l q):p=q\/p∈l:=by
 unfold put at h;rcases Q0.1 h with h | h
 ·exact .inr (Qk h)
 ·rcases Qx.1 h with h | h
  ·exact .inl h
  ·exact .inr (Qz h)
def Tf:List Pt->List Pt->List Pt×Int
 | acc,[]=>(acc,0)
 | acc,q::qs=>if Ol acc q=0 then Tf (put acc q) qs else ([],Ol acc q)
def Zi7 (a b:Crv):Bool:=decide (a.x=b.x/\a.y=b.y/\a.d=b.d)
def Zla (out:List Pt) (p:Pt):List Pt:=if out.any (λq=>Zi7 p.c q.c)=true then out else out++[p]
def Zom (l:List Pt):List Pt:=l.foldl Zla []
theorem P6 {α β:Type} (f:β->α->β) (b:β) (l:List α) {i:Nat} {x:α} (h:l[i]? = some x):(l.take (i+1)).foldl f b=f ((l.take i).foldl f b) x:=by
 rw [Vh,h]; simp [Vg]
def IsPt (s n:Nat) (z:List LV) (q:Pt):Prop:=∃ lx ly b l px py d,z=[.row lx,.row ly,.bool b,Zh4 l,.int .i64 q.id]/\IsInts lx px/\IsInts ly py/\Ho (.bool b) (Zh4 l) d/\Cs s n ⟨px,py,d⟩/\q.c=Crv.norm ⟨px,py,d⟩
theorem Zgv {s n:Nat} {p:Pt} (h:Q2b s n p):IsPt s n (Hw p) p:=by
 obtain ⟨b,l,h1,h2,h3,h4⟩:=Ud p.c.d;refine ⟨_,_,decide (p.c.d<0),Ux p.c.d.natAbs,_,_,p.c.d,rfl,Gy _,Gy _,Ud _,h.2,(Crv.norm_of h.1).symm⟩
def IsPts (s n:Nat):List (List LV)->List Pt->Prop
 | [],[]=>True
 | z::zs,q::qs=>IsPt s n z q/\IsPts s n zs qs
 | _,_=>False
theorem IsPts.len {s n:Nat}:∀ {zs:List (List LV)} {qs:List Pt},IsPts s n zs qs->zs.length=qs.length
 | [],[],_=>rfl
 | _::_,_::_,h=>by simp [h.2.len]
 | [],_::_,h=>h.elim
 | _::_,[],h=>h.elim
theorem IsPts.get {s n:Nat}:∀ {zs:List (List LV)} {qs:List Pt},IsPts s n zs qs->∀ {i:Nat} {q:Pt},qs[i]? = some q->∃ z,zs[i]? = some z/\IsPt s n z q
 | [],[],_,i,q,h=>by simp at h
 | z::zs,q::qs,h,0,r,hr=>by simp at hr; subst hr; exact ⟨z,rfl,h.1⟩
 | z::zs,q::qs,h,i+1,r,hr=>by simpa using h.2.get (i:=i) (by simpa using hr)
 | [],_::_,h,_,_,_=>h.elim
 | _::_,[],h,_,_,_=>h.elim
theorem Qx6 {s n:Nat}:∀ {l:List Pt},(∀ p∈l,Q2b s n p)->IsPts s n (l.map Hw) l
 | [],_=>trivial
 | p::l,h=>⟨Zgv (h p (Qt ..)),Qx6 λq hq=>h q (Ql _ hq)⟩
theorem IsPt.ok {s n:Nat} {z:List LV} {q:Pt} (h:IsPt s n z q) (h1:1<=s):Q2b s n q:=by
 obtain ⟨lx,ly,b,l,px,py,d,_,_,_,_,hc,e⟩:=h;unfold Q2b;rw [e];exact ⟨Crv.nml _,hc.norm h1⟩
theorem Q07 (acc qs:List Pt) {i:Nat} {q:Pt} (hi:qs[i]? = some q) (h:Tf acc (qs.take i)=((Tf acc (qs.take i)).1,0)):Tf acc (qs.take (i+1))=if Ol (Tf acc (qs.take i)).1 q=0 then (put (Tf acc (qs.take i)).1 q,0) else ([],Ol (Tf acc (qs.take i)).1 q):=by
 induction qs generalizing acc i with
 | nil=>simp at hi
 |
  cons x qs ih =>
  cases i with
  | zero=>simp at hi; subst hi; simp [Tf]
  |
   succ i =>
   simp only [Yk,Tf] at h ⊢;by_cases h0:Ol acc x=0
   ·simp only [h0,if_true] at h ⊢;exact ih (put acc x) (by simpa using hi) h
   ·simp only [h0,if_false] at h;injection h with _ h;exact absurd h h0
theorem Q6l (acc qs:List Pt) {i:Nat} {e:Int} (he:e≠0) (h:Tf acc (qs.take i)=([],e)):Tf acc qs=([],e):=by
 induction qs generalizing acc i with
 | nil=>simp [Tf] at h; exact absurd h.2.symm he
 |
  cons x qs ih =>
  cases i with
  | zero=>simp [Tf] at h; exact absurd h.2.symm he
  |
   succ i =>
   simp only [Yk,Tf] at h ⊢;by_cases h0:Ol acc x=0
   ·simp only [h0,if_true] at h ⊢; exact ih _ h
   ·simp only [h0,if_false] at h ⊢; exact h
def U5 (p:List Int) (q:Rat):Int:=Mm (Zcu p q.num q.den) 0
abbrev qa (q:Rat):List LV:=pl [-q.num,(q.den:Int)]::(rl q++rl q)
def To (sgn:List Int->Int):Nat->List Int->Int
 | 0,_=>0
 | k+1,p=>if p.length=0 then 0 else if sgn p=0 then To sgn k (U3 p) else sgn p
theorem I4 (sgn:List Int->Int):∀ (k:Nat) (p:List Int),p.length<=k->To sgn k p=To sgn p.length p
 |
  0,p,h=>by
  have:p.length=0:=by omega
  rw [this]
 |
  k+1,p,h=>by
  cases hp:p.length with
  | zero=>simp [To,hp]
  |
   succ m =>
   simp only [To];have h1:=Te p;rw [I4 sgn k (U3 p) (by omega),I4 sgn m (U3 p) (by omega)]
theorem Qfj (sgn:List Int->Int) {p:List Int} (h:p.length=0):To sgn p.length p=0:=by rw [h]; rfl
theorem Qfh (sgn:List Int->Int) {p:List Int} (h:0<p.length) (hs:sgn p≠0):To sgn p.length p=sgn p:=by
 obtain ⟨m,hm⟩:∃ m,p.length=m+1:=⟨p.length-1,by omega⟩;rw [hm]; simp only [To]; rw [if_neg (by omega),if_neg hs]
theorem Qfi (sgn:List Int->Int) {p:List Int} (h:0<p.length) (hs:sgn p=0):To sgn p.length p=To sgn (U3 p).length (U3 p):=by
 obtain ⟨m,hm⟩:∃ m,p.length=m+1:=⟨p.length-1,by omega⟩;rw [hm]; simp only [To]; rw [if_neg (by omega),if_pos hs];exact I4 sgn m _ (by have:=Te p; omega)
structure Tm where
 p:List Int
 lo:Rat
 hi:Rat
abbrev ta (t:Tm):List LV:=pl t.p::(rl t.lo++rl t.hi)
abbrev tq (q:Rat):Tm:=⟨[-q.num,(q.den:Int)],q,q⟩
def B6 (sg:List Int->Int) (p:List Int):Int:=To sg p.length p
def Lq (p:List Int) (q:Rat):Int:=B6 (λp=>U5 p q) p
structure Pb (p:List Int):Prop where
 t:Uf p
 l:p.length<=64
 b:Bd 16777216 p
abbrev Qb (q:Rat):Prop:=Qs 16777216 q
abbrev Cb (k:Crv):Prop:=Cs 1048576 16 k
def He (a b:Crv):List Int:=Tp (Uu b.x a.d) (Uu a.x b.d)
def Gw (a b:Crv):List Int:=Tp (Uu b.y a.d) (Uu a.y b.d)
def Lt (sg:List Int->Int) (a b:Pt):List (List Int)->Bool
 | []=>decide (a.id<b.id)
 | p::l=>if 0<p.length then decide (0<B6 sg p) else Lt sg a b l
def Pu (sg:List Int->Int) (a b:Pt):Bool:=Lt sg a b [Gw b.c a.c,He b.c a.c]
def Qtb (sg:List Int->Int) (a b:Pt):Bool:=Lt sg a b [He a.c b.c,Gw a.c b.c]
end Orr
namespace Orr
open Go
structure Ct where
 kind:Int
 i0:Int
 i1:Int
 i2:Int
 i3:Int
 p:List Int
 want:Int
abbrev Qi2 (c:Ct):List LV:=[.int .i64 c.kind,.int .i64 c.i0,.int .i64 c.i1,.int .i64 c.i2,.int .i64 c.i3,pl c.p,.int .i64 c.want]
def Lm (p q:List Int):List Int:=if 0<p.length then p else q
def Hq:List Int->List Int->Bool
 | x::l,y::m=>if x=y then Hq l m else decide (x<y)
 | _,_=>false
def Mw (a b:Ct):Bool:=Hq [a.kind,a.i0,a.i1,a.i2,a.i3] [b.kind,b.i0,b.i1,b.i2,b.i3]
def Oe (out:List Ct) (c:Ct):Nat->Nat
 | 0=>0
 |
  k+1=>match out[k]? with
  | some x=>if Mw c x=true then Oe out c k else k+1
  | none=>k+1
theorem Qyy (out:List Ct) (c:Ct):∀ k,Oe out c k<=k
 | 0=>Qj _
 |
  k+1=>by
  simp only [Oe]
  split
  ·split
   ·exact Nat.le_succ_of_le (Qyy out c k)
   ·exact Qj _
  ·exact Qj _
theorem Zcl {out:List Ct} {c x:Ct} {k:Nat} (hx:out[k]? = some x) (h:Mw c x=true):Oe out c (k+1)=Oe out c k:=by
 simp only [Oe,hx,h,if_true]
theorem Q64 {out:List Ct} {c x:Ct} {k:Nat} (hx:out[k]? = some x) (h:Mw c x=false):Oe out c (k+1)=k+1:=by
 simp [Oe,hx,h]
def Qbb (out:List Ct) (c:Ct):List Ct:=out.take (Oe out c out.length)++c::out.drop (Oe out c out.length)
theorem Q5y (out:List Ct) (c:Ct):(Qbb out c).length=out.length+1:=by
 have:=Qyy out c out.length;simp [Qbb]; omega
theorem Q5z {out:List Ct} {c x:Ct} (h:x∈Qbb out c):x=c\/x∈out:=by
 simp only [Qbb,Q0,Qx] at h;rcases h with h | h | h
 ·exact .inr (Qk h)
 ·exact .inl h
 ·exact .inr (Qz h)
def Gm (l:List Ct):List Ct:=l.foldl Qbb []
theorem Qvw (l:List Ct) (c:Ct):Gm (l++[c])=Qbb (Gm l) c:=by simp [Gm,Vg]
theorem Qvx {l:List Ct} {i:Nat} {c:Ct} (h:l[i]? = some c):Gm (l.take (i+1))=Qbb (Gm (l.take i)) c:=by
 rw [Xa,h]; exact Qvw _ _
theorem Qk6:∀ (l acc:List Ct),(l.foldl Qbb acc).length=acc.length+l.length
 | [],acc=>by simp
 | c::l,acc=>by simp only [Xk]; rw [Qk6 l (Qbb acc c),Q5y]; simp; omega
theorem C4 (l:List Ct):(Gm l).length=l.length:=by unfold Gm; rw [Qk6]; simp
theorem Qk7:∀ (l acc:List Ct) {x:Ct},x∈l.foldl Qbb acc->x∈l\/x∈acc
 | [],acc,x,h=>.inr h
 |
  c::l,acc,x,h=>by
  simp only [Xk] at h;rcases Qk7 l _ h with h | h
  ·exact .inl (Ql _ h)
  ·rcases Q5z h with rfl | h
   ·exact .inl (Qt ..)
   ·exact .inr h
theorem Qe1 {l:List Ct} {x:Ct} (h:x∈Gm l):x∈l:=by
 rcases Qk7 l [] h with h | h
 ·exact h
 ·cases h
theorem Qq2 {α:Type} (l:List α) (z x:α) {k m':Nat} (hk:k<=l.length) (hm:m'=l.length-k) :
 ((l++[z]).take (k+1)++((l++[z]).drop k).take m'++(l++[z]).drop (k+1+m')).set k x=l.take k++x::l.drop k:=by
 subst hm;have e1:((l++[z]).drop k).take (l.length-k)=l.drop k:=by
  rw [List.drop_append_of_le_length hk,Yg (by simp),Qm (by simp)]
 have e2:(l++[z]).drop (k+1+(l.length-k))=[]:=Yo (by simp; omega);rw [e1,e2,Xj];have e3:(l++[z]).take (k+1)=(l++[z]).take k++[(l++[z])[k]'(by simp; omega)]:=by rw [List.take_succ_eq_append_getElem]
 rw [e3,Yg hk,Zy,List.set_append,if_neg (by simp; omega)];simp [Zr hk]
def Pn (a b:Pt):List Int:=Lm (Gw b.c a.c) (He b.c a.c)
def Gv (sg:List Int->Int) (a b:Pt):Ct:={ kind:=2,i0:=a.id,i1:=b.id,i2:=0,i3:=0,p:=Pn a b,want:=B6 sg (Pn a b) }
end Orr
namespace Orr
open Go Go.Proofs
set_option maxRecDepth 10000
abbrev pr (p:List Int):TV:=.one (pl p)
theorem Sb {p:List Int} {i:Nat} {z:Int} (h:p[i]? = some z):(p.map Gb)[i]? = some (Gb z):=Ga h
theorem Qhn (p:List Int):Ub Tryz.prog 206 [pr p] [pr (trim p)]:=by
 refine Gk Tryz.func206 rfl (ln 0 rfl rfl λhl=>?_);rw [Zd] at hl;refine go tt [] rfl trivial ?_;refine lp (S:=Nat) 0 (λL1 n=>(3,.v (.one (.int .i64 (n:Int))))::L1) (λ_=>[]) id (λn=>n<=p.length/\∀ j x,n<=j->p[j]? = some x->x=0) (p.map Gb).length ⟨by simp,λj x h1 h2=>by
  have:=(Qf.1 h2).1; simp at h1; omega⟩ rfl (λ_ _=>rfl) rfl λn ⟨h1,h2⟩=>?_
 cases n with
 | zero=>exact en tt [.f (by simp),.f rfl,.i 0] rfl (by rw [Qsr h1 h2 (λh=>by omega)]; simp [pl]) (by simp [Ua])
 |
  succ n =>
  obtain ⟨x,hx⟩:=gxE (l:=p) (i:=n) (by omega);by_cases h0:x=0
  ·refine go tt [.t (by simp),.r 11 (v:=.one (.int .i64 (n:Int))) (by simp),.x (Sb hx),.c [] Ll,.t (by simp [h0]),.r 17 (v:=.one (.int .i64 (n:Int))) (by simp)] rfl (by simp [Ua]; omega) ?_;exact rd n (by simp) ⟨by omega,λj y h3 h4=>by
    rcases Y5 h3 with rfl | h3
    ·rw [hx] at h4; injection h4 with h4; rw [<-h4,h0]
    ·exact h2 j y h3 h4⟩ rfl
  ·exact en tt [.t (by simp),.r 11 (v:=.one (.int .i64 (n:Int))) (by simp),.x (Sb hx),.c [] Ll,.f (by simp [h0]),.i (n+1)] rfl (by rw [Qsr h1 h2 (λ_=>⟨x,hx,h0⟩)]; simp [pl,Jo]) (by simp [Ua] <;> omega)
theorem Qw4 (p:List Int) (k:Nat):Ub Tryz.prog 279 [pr p,.one (.int .i64 (k:Int))] [.agg (Gb (p.getD k 0))]:=by
 by_cases h:k<p.length
 ·have hx:=Qd h;have e:p.getD k 0=p[k]:=by simp [List.getD,hx]
  rw [e];exact w tt Tryz.func279 rfl [.t (by simp; omega),.x (Sb hx)] rfl rfl trivial
 ·have e:p.getD k 0=0:=by simp [List.getD,Qr (Ym h)]
  rw [e,Dm];exact w tt Tryz.func279 rfl [.f (by simp; omega)] rfl rfl trivial
def fil (f:Nat->List LV) (z:List LV) (n k:Nat):List (List LV):=(List.range n).map λi=>if i<k then f i else z
theorem Lc (f:Nat->List LV) (z:List LV) (n k:Nat):(fil f z n k).length=n:=by simp [fil]
theorem Dd (f:Nat->List LV) (z:List LV) (n:Nat):List.replicate n z=fil f z n 0:=by
 refine Xs λi=>?_
 simp only [fil,Jy,Q5];by_cases h:i<n
 ·simp [h]
 ·simp [h]
theorem Ai (f:Nat->List LV) (z:List LV) (n:Nat):fil f z n n=(List.range n).map f:=by
 refine Yy λi hi=>?_
 rw [if_pos (Kb.1 hi)]
theorem Aj (f:Nat->List LV) (z:List LV) {n k:Nat} (h:k<n):(fil f z n k).set k (f k)=fil f z n (k+1):=by
 refine Xs λi=>?_
 rw [Yf];simp only [fil,Q5,Zd,List.length_range,h,if_true];by_cases e:k=i
 ·subst e; simp [h]
 ·simp only [e,if_false];by_cases hi:i<n
  ·simp only [X2 hi,Y7];congr 1;by_cases h2:i<k
   ·rw [if_pos h2,if_pos (by omega)]
   ·rw [if_neg h2,if_neg (by omega)]
  ·simp [Qr,hi]
theorem Qmy {n fid:Nat} {l1 l2:List LV} {g:Nat->Int} (hn:n<274877906944) (h:∀ k,k<n->Ub Tryz.prog fid [.one (.int .i64 (k:Int)),.one (.sh l1),.one (.sh l2)] [.agg (Gb (g k))]):Ub Tryz.prog 246 [.one (.int .i64 (n:Int)),.one (.fn fid [] [.sh l1,.sh l2])] [pr (Pg n g)]:=by
 refine Gk Tryz.func246 rfl ?_;refine go tt [.i n,.i n,.r 10 (eI (b:=(n:Int)) (by simp))] rfl (by simp [Ua]; omega) ?_;rw [Dd λk=>Gb (g k)];refine lp (S:=Nat) 1 (λL1 k=>(11,.v (.one (.int .i64 (k:Int))))::L1) (λk=>[.row false 51 2 (fil (λk=>Gb (g k)) [.bool false,.nils] n k)]) (λk=>n-k) (λk=>k<=n) 0 (Qi _) rfl (λ_ _=>rfl) rfl λk hk=>?_
 by_cases hlt:k<n
 ·refine go tt [.t (by simp; omega),.c [] (h k hlt),.i k] rfl (by simp [Ua,Lc]; omega) ?_;have e:=Aj (λk=>Gb (g k)) [.bool false,.nils] hlt;rw [e];exact rd (k+1) (by omega) hlt rfl
 ·obtain rfl:k=n:=by omega
  have e:fil (λk=>Gb (g k)) [.bool false,.nils] k k=((List.range k).map g).map Gb:=by rw [Ai]; simp
  rw [e];exact en tt [.f (by simp),.c [] (Qhn _)] rfl rfl trivial
theorem Qw1 {n fid:Nat} {l1:List LV} {g:Nat->Int} (hn:n<274877906944) (h:∀ k,k<n->Ub Tryz.prog fid [.one (.int .i64 (k:Int)),.one (.sh l1)] [.agg (Gb (g k))]):Ub Tryz.prog 246 [.one (.int .i64 (n:Int)),.one (.fn fid [] [.sh l1])] [pr (Pg n g)]:=by
 refine Gk Tryz.func246 rfl ?_;refine go tt [.i n,.i n,.r 10 (eI (b:=(n:Int)) (by simp))] rfl (by simp [Ua]; omega) ?_;rw [Dd λk=>Gb (g k)];refine lp (S:=Nat) 1 (λL1 k=>(11,.v (.one (.int .i64 (k:Int))))::L1) (λk=>[.row false 51 2 (fil (λk=>Gb (g k)) [.bool false,.nils] n k)]) (λk=>n-k) (λk=>k<=n) 0 (Qi _) rfl (λ_ _=>rfl) rfl λk hk=>?_
 by_cases hlt:k<n
 ·refine go tt [.t (by simp; omega),.c [] (h k hlt),.i k] rfl (by simp [Ua,Lc]; omega) ?_;have e:=Aj (λk=>Gb (g k)) [.bool false,.nils] hlt;rw [e];exact rd (k+1) (by omega) hlt rfl
 ·obtain rfl:k=n:=by omega
  have e:fil (λk=>Gb (g k)) [.bool false,.nils] k k=((List.range k).map g).map Gb:=by rw [Ai]; simp
  rw [e];exact en tt [.f (by simp),.c [] (Qhn _)] rfl rfl trivial
theorem Zfn {p q:List Int} (k:Nat) (hp:Bd 4294967295 p) (hq:Bd 4294967295 q):Ub Tryz.prog 285 [.one (.int .i64 (k:Int)),.one (.sh [pl p]),.one (.sh [pl q])] [.agg (Gb (p.getD k 0+q.getD k 0))] :=
 w tt Tryz.func285 rfl [.c [] (Qw4 p k),.c [] (Qw4 q k),.c [] (Qa5 (Ud _) (Ud _) (Um hp k) (Um hq k))] rfl rfl trivial
theorem Zfx {p q:List Int} (k:Nat) (hp:Bd 4294967295 p) (hq:Bd 4294967295 q):Ub Tryz.prog 278 [.one (.int .i64 (k:Int)),.one (.sh [pl p]),.one (.sh [pl q])] [.agg (Gb (p.getD k 0-q.getD k 0))] :=
 w tt Tryz.func278 rfl [.c [] (Qw4 p k),.c [] (Qw4 q k),.c [] (Q3l (Ud _) (Ud _) (Um hp k) (Um hq k))] rfl rfl trivial
theorem Hl {p:List Int} {k:Nat} (h:k<p.length):p[k]? = some (p.getD k 0):=by simp [List.getD,Qd h]
theorem Q3c {p:List Int} {c:Int} {k:Nat} (hk:k<p.length) (hp:Bd 4294967295 p) (hc:Ul c<=4294967295):Ub Tryz.prog 247 [.one (.int .i64 (k:Int)),.one (.sh [pl p]),.one (.sh (Gb c))] [.agg (Gb (p.getD k 0*c))] :=
 w tt Tryz.func247 rfl [.x (Sb (Hl hk)),.c [] (Lk (Ud _) (Ud _) (Um hp k) hc)] rfl rfl trivial
theorem Zfs {p:List Int} {k:Nat} (hk:k<p.length) (hp:Bd 4294967295 p):Ub Tryz.prog 333 [.one (.int .i64 (k:Int)),.one (.sh [pl p])] [.agg (Gb (-(p.getD k 0)))] :=
 w tt Tryz.func333 rfl [.x (Sb (Hl hk)),.c [] (Qhh (Ud _) (Um hp k))] rfl rfl trivial
theorem Qzw {p:List Int} {k:Nat} (hk:k+1<p.length) (hl:p.length<274877906944) (hp:Bd 4294967295 p):Ub Tryz.prog 303 [.one (.int .i64 (k:Int)),.one (.sh [pl p])] [.agg (Gb (p.getD (k+1) 0*((k+1:Nat):Int)))] :=
 w tt Tryz.func303 rfl [.x (Sb (Hl hk)),.r 10 (eI (b:=((k+1:Nat):Int)) (by omega)),.c [] (Qtl (by omega)),.c [] (Lk (Ud _) (Ud _) (Um hp _) (Q0w (show k+1<274877906944 by omega)))] rfl rfl (by simp [Ua] <;> omega)
theorem Zfv {p q:List Int} (hlp:p.length<274877906944) (hlq:q.length<274877906944) (hp:Bd 4294967295 p) (hq:Bd 4294967295 q):Ub Tryz.prog 241 [pr p,pr q] [pr (Qcs p q)] :=
 w tt Tryz.func241 rfl [.r 9 (eI (b:=((max p.length q.length:Nat):Int)) (by simp; omega)),.c [] (Qmy (by omega) λk _=>Zfn k hp hq)] rfl rfl trivial
theorem Qms {p q:List Int} (hlp:p.length<274877906944) (hlq:q.length<274877906944) (hp:Bd 4294967295 p) (hq:Bd 4294967295 q):Ub Tryz.prog 231 [pr p,pr q] [pr (Tp p q)] :=
 w tt Tryz.func231 rfl [.r 9 (eI (b:=((max p.length q.length:Nat):Int)) (by simp; omega)),.c [] (Qmy (by omega) λk _=>Zfx k hp hq)] rfl rfl trivial
theorem Q25 {p:List Int} (hlp:p.length<274877906944) (hp:Bd 4294967295 p):Ub Tryz.prog 307 [pr p] [pr (S5 p)] :=
 w tt Tryz.func307 rfl [.r 4 (eI (b:=(p.length:Int)) (by simp)),.c [] (Qw1 hlp λk hk=>Zfs hk hp)] rfl rfl trivial
theorem Eb {p:List Int} {c:Int} (hlp:p.length<274877906944) (hp:Bd 4294967295 p) (hc:Ul c<=4294967295):Ub Tryz.prog 186 [pr p,.agg (Gb c)] [pr (Uu p c)] :=
 w tt Tryz.func186 rfl [.r 6 (eI (b:=(p.length:Int)) (by simp)),.c [] (Qmy hlp λk hk=>Q3c hk hp hc)] rfl rfl trivial
theorem Ea {p:List Int} (hlp:p.length<274877906944) (hp:Bd 4294967295 p):Ub Tryz.prog 265 [pr p] [pr (U3 p)] :=
 w tt Tryz.func265 rfl [.r 6 (eI (b:=((p.length-1:Nat):Int)) (by simp; omega)),.c [] (Qw1 (by omega) λk hk=>Qzw (by omega) hlp hp)] rfl rfl (by simp [Ua]; omega)
theorem Cf {ls:List (List LV)} {p:List Int} (hi:IsInts ls p) (hl:p.length<274877906944) (hs:Bd 4294967295 p):Ub Tryz.prog 153 [.one (.row ls)] [pr (trim p)]:=by
 refine Gk Tryz.func153 rfl ?_;have hlen:=hi.len;refine go tt [.i ls.length,.i ls.length] rfl (by simp [Ua]; omega) ?_;rw [Dd λk=>Gb (p.getD k 0)];refine lp (S:=Nat) 1 (λL1 k=>(11,.v (.one (.int .i64 (k:Int))))::L1) (λk=>[.row false 51 2 (fil (λk=>Gb (p.getD k 0)) [.bool false,.nils] ls.length k)]) (λk=>ls.length-k) (λk=>k<=ls.length) 0 (Qi _) rfl (λ_ _=>rfl) rfl λk hk=>?_
 by_cases hlt:k<ls.length
 ·obtain ⟨x,y,hx,hxy⟩:=hi.get (Hl (p:=p) (k:=k) (by omega));have cn:=Cg hxy (Um hs k);obtain ⟨b,l,rfl,rfl,_⟩:=hxy;refine go tt [.t (by simp; omega),.x hx,.c [] cn,.i k] rfl (by simp [Ua,Lc]; omega) ?_;have e:=Aj (λk=>Gb (p.getD k 0)) [.bool false,.nils] hlt;rw [e];exact rd (k+1) (by omega) hlt rfl
 ·obtain rfl:k=ls.length:=by omega
  have e:fil (λk=>Gb (p.getD k 0)) [.bool false,.nils] ls.length ls.length=p.map Gb:=by
   rw [Ai,hlen];refine Xs λi=>?_
   by_cases hi:i<p.length
   ·simp [X2 hi,List.getD,Qd hi]
   ·simp [Qr,hi]
  rw [e];exact en tt [.f (by simp),.c [] (Qhn _)] rfl rfl trivial
theorem Hk {p:List Int} (ht:Uf p) (hl:p.length<274877906944) (hs:Bd 4294967295 p):Ub Tryz.prog 153 [pr p] [pr p]:=by
 have:=Cf (Gy p) hl hs;rw [ht] at this; exact this
theorem Zbn {p:List Int} {i:Nat} {z:Int} (h:p[i]? = some z):(p.map λ(x:Int)=>[LV.int .i64 x])[i]? = some [.int .i64 z]:=Ga h
theorem Q26 {p:List Int} (hl:p.length<274877906944) (hr:∀ z∈p,-9223372036854775808≤z/\z≤9223372036854775807):Ub Tryz.prog 146 [.one (ids p)] [pr (trim p)]:=by
 refine Gk Tryz.func146 rfl ?_;refine go tt [.r 7 (eI (b:=(p.length:Int)) (by simp)),.i p.length,.i p.length,.r 10 (eI (b:=(p.length:Int)) (by simp))] rfl (by simp [Ua]; omega) ?_;rw [Dd λk=>Gb (p.getD k 0)];refine lp (S:=Nat) 1 (λL1 k=>(11,.v (.one (.int .i64 (k:Int))))::L1) (λk=>[.row false 51 2 (fil (λk=>Gb (p.getD k 0)) [.bool false,.nils] p.length k)]) (λk=>p.length-k) (λk=>k<=p.length) 0 (Qi _) rfl (λ_ _=>rfl) rfl λk hk=>?_
 by_cases hlt:k<p.length
 ·have hg:=Hl hlt;refine go tt [.t (by simp; omega),.x (Zbn hg),.c [] (Qtl (hr _ (Qc hg))),.i k] rfl (by simp [Ua,Lc]; omega) ?_;have e:=Aj (λk=>Gb (p.getD k 0)) [.bool false,.nils] hlt;rw [e];exact rd (k+1) (by omega) hlt rfl
 ·obtain rfl:k=p.length:=by omega
  have e:fil (λk=>Gb (p.getD k 0)) [.bool false,.nils] p.length p.length=p.map Gb:=by
   rw [Ai];refine Xs λi=>?_
   by_cases hi:i<p.length
   ·simp [X2 hi,List.getD,Qd hi]
   ·simp [Qr,hi]
  rw [e];exact en tt [.f (by simp),.c [] (Qhn _)] rfl rfl trivial
theorem Qu2 (l:List Int) (i:Nat) (z:Int):(l.map Gb).set i (Gb z)=(l.set i z).map Gb:=by rw [Vm]
theorem Qgz (m:Nat):((List.replicate m [LV.bool false,LV.nils]).map λc=>c.map Qf7)=(List.replicate m (0:Int)).map Gb:=by
 simp [Dm,Qf7]
theorem Qmr {p0 q:List Int} {s t:Nat} (tq:Uf q) (hlp:p0.length<137438953472) (hlq:q.length<137438953472) (hp:Bd s p0) (hq:Bd t q) (hst:s+t<=4294967000):Ub Tryz.prog 242 [pr p0,pr q] [pr (Fv (trim p0) q)]:=by
 have cp:=Cf (Gy p0) (by omega) (W9 hp (show s<=4294967295 by omega));have hp:=Rj hp;have hlp:=Zx (G0 p0) hlp;obtain ⟨p,ep⟩:=nmE (trim p0);rw [<-ep] at cp hp hlp ⊢;have cq:=Hk tq (by omega) (W9 hq (show t<=4294967295 by omega));by_cases h0:p.length=0
 ·have e:Fv p q=[]:=by unfold Fv; rw [if_pos (.inl h0)]
  rw [e];exact w tt Tryz.func242 rfl [.c [] cp,.c [] cq,.t (by simp; exact Qh h0),.t rfl] rfl rfl trivial
 by_cases h1:q.length=0
 ·have e:Fv p q=[]:=by unfold Fv; rw [if_pos (.inr h1)]
  rw [e];exact w tt Tryz.func242 rfl [.c [] cp,.c [] cq,.f (by simp; intro h; subst h; simp at h0),.t (by simp; exact Qh h1)] rfl rfl trivial
 refine Gk Tryz.func242 rfl ?_;have e:Fv p q=trim (My p q (List.replicate (p.length+q.length-1) 0) p.length):=by unfold Fv; rw [if_neg (by omega)]
 rw [e];obtain ⟨N,hN⟩:=nmE (p.length+q.length-1);rw [<-hN];obtain ⟨o,ho⟩:=nmE (List.replicate N (0:Int));rw [<-ho];have hol:o.length=N:=by rw [ho]; simp
 have ho0:∀ m,o.getD m 0=0:=λm=>by rw [ho]; exact Hm N m
 refine go tt [.c [] cp,.c [] cq,.f (by simp; intro h; subst h; simp at h0),.f (by simp; intro h; subst h; simp at h1),.r 27 (eI (b:=(N:Int)) (by simp; omega)),.i N,.i N] rfl (by simp [Ua]; omega) ?_;refine nl 0 rfl rfl rfl ?_;rw [Qgz,<-ho];refine lp (S:=Nat) 1 (λL1 i=>(31,.v (.one (.int .i64 (i:Int))))::L1) (λi=>[.row false 51 2 ((My p q o i).map Gb)]) (λi=>p.length-i) (λi=>i<=p.length) 0 (Qi _) rfl (λ_ _=>rfl) rfl λi hi=>?_
 by_cases hlt:i<p.length
 ·refine go tt [.t (by simp; omega),.x (Sb (Hl hlt))] rfl trivial ?_;refine lp (S:=Nat) 2 (λL1 k=>(38,.v (.one (.int .i64 (k:Int))))::L1) (λk=>[.row false 51 2 ((Ej (p.getD i 0) q i (My p q o i) k).map Gb),.blk 51 (Gb (p.getD i 0))]) (λk=>q.length-k) (λk=>k<=q.length) 0 (Qi _) rfl (λ_ _=>rfl) rfl λk hk=>?_
  by_cases hk2:k<q.length
  ·have hm1:Ul ((Ej (p.getD i 0) q i (My p q o i) k).getD (i+k) 0)<=4294967295:=Qa (Lr (t:=39) (Qn3 (by rw [Mz]; omega) (Qn2 (λj hj=>by omega) ho0 (λi j=>Py (Um hp i) (Um hq j))) (λj=>Py (Um hp i) (Um hq j)) (i+k)) (V9 (show i+1<549755813888 by omega) (by decide))) (by omega);have hm2:Ul (p.getD i 0*q.getD k 0)<=4294967295:=Qa (Uv _ _) (by have:=Um hp i; have:=Um hq k; omega);have hg:(Ej (p.getD i 0) q i (My p q o i) k)[i+k]? = some ((Ej (p.getD i 0) q i (My p q o i) k).getD (i+k) 0):=Hl (by rw [Ek,Mz]; omega);refine go tt [.t (by simp; omega),.x (Sb (Hl hk2)),.i (i+k),.x (Sb hg),.c [] (Lk (Ud _) (Ud _) (Qa (Um hp i) (by omega)) (Qa (Um hq k) (by omega))),.c [] (Qa5 (Ud _) (Ud _) hm1 hm2),.i (i+k)] rfl (by simp [Ua,Ek,Mz] <;> omega) ?_;rw [Qu2];exact rd (k+1) (by omega) hk2 rfl
  ·obtain rfl:k=q.length:=by omega
   exact go tt [.f (by simp)] rfl (by simp [Ua]; omega) (rd (i+1) (by omega) hlt rfl)
 ·obtain rfl:i=p.length:=by omega
  exact en tt [.f (by simp),.c [] (Qhn _)] rfl rfl trivial
theorem Zfw {p q:List Int} {s t:Nat} (tp:Uf p) (tq:Uf q) (hlp:p.length<137438953472) (hlq:q.length<137438953472) (hp:Bd s p) (hq:Bd t q) (hst:s+t<=4294967000):Ub Tryz.prog 242 [pr p,pr q] [pr (Fv p q)]:=by
 have h:=Qmr tq hlp hlq hp hq hst;rw [show trim p=p from tp] at h;exact h
theorem Q96 {p q:List Int} (hlp:p.length<274877906944) (hlq:q.length<274877906944) (hp:Bd 4294967295 p) (hq:Bd 4294967295 q):Ub Tryz.prog 274 [pr p,pr q] [.one (.bool (decide (trim p=trim q)))]:=by
 refine Gk Tryz.func274 rfl ?_;have cp:=Cf (Gy p) hlp hp;have cq:=Cf (Gy q) hlq hq;have bp:=Rj hp;have bq:=Rj hq;have l1:=G0 p;have l2:=G0 q;obtain ⟨a,ha⟩:=nmE (trim p);obtain ⟨b,hb⟩:=nmE (trim q);rw [<-ha] at cp bp l1 ⊢;rw [<-hb] at cq bq l2 ⊢;by_cases hl:a.length=b.length
 ·refine go tt [.c [] cp,.c [] cq,.f (by simp; omega)] rfl trivial ?_;refine lp (S:=Nat) 0 (λL1 i=>(18,.v (.one (.int .i64 (i:Int))))::L1) (λ_=>[]) (λi=>a.length-i) (λi=>i<=a.length/\a.take i=b.take i) 0 ⟨Qi _,rfl⟩ rfl (λ_ _=>rfl) rfl λi ⟨hi,he⟩=>?_
  by_cases hlt:i<a.length
  ·have ga:=Hl hlt;have gb:=Hl (p:=b) (k:=i) (by omega);have cc:=Qhl (Ud (a.getD i 0)) (Ud (b.getD i 0)) (Um bp i) (Um bq i);by_cases hz:a.getD i 0=b.getD i 0
   ·refine go tt [.t (by simp; omega),.x (Sb ga),.x (Sb gb),.c [] cc,.f (by simpa using Qxj.2 hz)] rfl (by simp [Ua]; omega) ?_;exact rd (i+1) (by omega) ⟨hlt,by rw [Vh,Vh,he,ga,gb,hz]⟩ rfl
   ·exact en tt [.t (by simp; omega),.x (Sb ga),.x (Sb gb),.c [] cc,.t (by have:=mt Qxj.1 hz; simpa using this)] rfl (by rw [decide_eq_false]; intro h; exact hz (by rw [h])) trivial
  ·obtain rfl:i=a.length:=by omega
   rw [Za,hl,Za] at he;exact en tt [.f (by simp)] rfl (by rw [decide_eq_true he]) trivial
 ·exact en tt [.c [] cp,.c [] cq,.t (by simp; omega)] rfl (by rw [decide_eq_false]; intro h; exact hl (by rw [h])) trivial
theorem Q28 {p:List Int} {n d:Int} {s t:Nat} (hl:p.length<274877906944) (hp:Bd s p) (hn:Ul n<=t) (hd:Ul d<=t) (hst:s+p.length*(t+1)+2*t+10<=4294967295):Ub Tryz.prog 264 [pr p,.agg (Gb n),.agg (Gb d)] [.agg (Gb (Zcu p n d))]:=by
 refine Gk Tryz.func264 rfl ?_;refine go tt [.c [] (Qtl (z:=1) (by decide)),.r 13 (eI (b:=(p.length:Int)-1-((0:Nat):Int)) (by simp))] rfl (by simp [Ua]; omega) ?_;refine nlb 3 rfl rfl rfl ?_;have e0:[LV.bool false,LV.nils].map Qf7=Gb (S9 p n d 0).1:=by simp [Qf7,S9,Dm]
 rw [e0];refine lp (S:=Nat) 5 (λL1 j=>(9,.v (.one (.int .i64 ((p.length:Int)-1-(j:Int)))))::L1) (λj=>[.blk 51 (Gb n),.blk 51 (Gb d),.blk 51 [.bool false,.nils],.blk 51 (Gb (S9 p n d j).1),.blk 51 (Gb (S9 p n d j).2)]) (λj=>p.length-j) (λj=>j<=p.length) 0 (Qi _) rfl (λ_ _=>rfl) rfl λj hj=>?_
 have hv:=Qpb (k:=j) hp hn hd;have hjl:j*(t+1)<=p.length*(t+1):=Qw _ (by omega);have hjl2:j*t<=j*(t+1):=Zh _ (by omega);by_cases hlt:j<p.length
 ·have hc:=Um hp (p.length-1-j);have hm1:Ul ((S9 p n d j).1*n)<=4294967295:=Qa (Uv _ _) (by omega);have hm2:Ul (p.getD (p.length-1-j) 0*(S9 p n d j).2)<=4294967295:=Qa (Uv _ _) (by omega);refine go tt [.t (by simp; omega),.c [] (Lk (Ud _) (Ud _) (by omega) (by omega)),.r 22 (eI (b:=((p.length-1-j:Nat):Int)) (by omega)),.x (Sb (Hl (p:=p) (k:=p.length-1-j) (by omega))),.c [] (Lk (Ud _) (Ud _) (by omega) (by omega)),.c [] (Qa5 (Ud _) (Ud _) hm1 hm2),.c [] (Lk (Ud _) (Ud _) (by omega) (by omega)),.r 17 (eI (b:=(p.length:Int)-1-((j+1:Nat):Int)) (by omega))] rfl (by simp [Ua] <;> omega) ?_;exact rd (j+1) (by omega) hlt rfl
 ·obtain rfl:j=p.length:=by omega
  exact en tt [.f (by simp; omega)] rfl rfl trivial
theorem Ba {p:List Int} (tp:Uf p) (hl:p.length<274877906944) (hp:Bd 4294967295 p):Ub Tryz.prog 306 [pr p] [.agg (Gb (p.getD (p.length-1) 0))]:=by
 have cn:=Hk tp hl hp;by_cases h0:p=[]
 ·subst h0;exact w tt Tryz.func306 rfl [.c [] cn,.t (by simp)] rfl (by simp [Dm]) trivial
 ·have hpl:0<p.length:=Jp.2 h0;exact w tt Tryz.func306 rfl [.c [] cn,.f (by simpa using h0),.r 12 (eI (b:=((p.length-1:Nat):Int)) (by simp; omega)),.x (Sb (Hl (by omega)))] rfl rfl (by simp [Ua]; omega)
theorem Ze1 {a b:Int} {q:Rat} (h1:a=q.num) (h2:b=(q.den:Int)):[sg a,mg a,sg b,mg b]=rl q:=by rw [h1,h2]
theorem Io {n d:Int} (h0:d≠0) (hn:Ul n<=4294967295) (hd:Ul d<=4294967295):Ub Tryz.prog 225 [.agg (Gb n),.agg (Gb d)] [.agg (rl (Rat.divInt n d))]:=by
 have cg:=Q2w (Gy [n,d]) (λz hz=>by simp at hz; rcases hz with rfl | rfl <;> assumption);have gp:=Qqs (n:=n) h0;have gs:=Qx7 (n:=n) h0 hd;have m1:=Qik n d;have m2:=Qil n d;obtain ⟨g,hg⟩:=nmE (((Gl [n,d]:Nat):Int));rw [<-hg] at cg gp gs m1 m2;by_cases hneg:d<0
 ·obtain ⟨e1,e2⟩:=Zb1 (n:=n) hneg;rw [<-hg] at e1 e2;rw [<-Ze1 e1 e2];exact w tt Tryz.func225 rfl [.c [] cg,.t (by simpa using hneg),.c [] (Qhh (Ud n) hn),.c [] (Qhh (Ud d) hd),.c [] (Dz (Ud _) (Ud _) (by rw [Fx]; exact hn) gs (by omega) (Qyp m1)),.c [] (Dz (Ud _) (Ud _) (by rw [Fx]; exact hd) gs (by omega) (Qyp m2))] rfl rfl trivial
 ·obtain ⟨e1,e2⟩:=Qny (n:=n) (d:=d) (by omega);rw [<-hg] at e1 e2;rw [<-Ze1 e1 e2];exact w tt Tryz.func225 rfl [.c [] cg,.f (by simpa using hneg),.c [] (Dz (Ud _) (Ud _) hn gs (by omega) m1),.c [] (Dz (Ud _) (Ud _) hd gs (by omega) m2)] rfl rfl trivial
theorem Qgh {x y x' y':LV} {n d:Int} (h1:Ho x y n) (h2:Ho x' y' d) (hn:Ul n<=4294967295) (hd:Ul d<=4294967295):Ub Tryz.prog 172 [.agg [x,y,x',y']] [.agg (rl (Ft n d))]:=by
 have c1:=Cg h1 hn;have c2:=Cg h2 hd;obtain ⟨b,l,rfl,rfl,_⟩:=h1;obtain ⟨b',l',rfl,rfl,_⟩:=h2;by_cases h0:d=0
 ·have e:Ft n d=Rat.divInt n 1:=by unfold Ft; rw [if_pos h0]
  rw [e];exact w tt Tryz.func172 rfl [.c [] c2,.c [] Ll,.t (by simpa using h0),.c [] (Qtl (z:=1) (by decide)),.c [] c1,.c [] (Io (by decide) hn (by decide))] rfl rfl trivial
 ·have e:Ft n d=Rat.divInt n d:=by unfold Ft; rw [if_neg h0]
  rw [e];exact w tt Tryz.func172 rfl [.c [] c2,.c [] Ll,.f (by simpa using h0),.c [] c1,.c [] (Io h0 hn hd)] rfl rfl trivial
theorem Qhs {q:Rat} (hq:Qs 4294967295 q):Ub Tryz.prog 172 [.agg (rl q)] [.agg (rl q)]:=by
 have:=Qgh (Ud q.num) (Ud (q.den:Int)) hq.1 hq.2;rwa [Au] at this
theorem Qmx {a b:Rat} (ha:Qs 2147483647 a) (hb:Qs 2147483647 b):Ub Tryz.prog 213 [.agg (rl a),.agg (rl b)] [.agg (Gb (a.num*(b.den:Int))),.agg (Gb (b.num*(a.den:Int))),.agg (Gb ((a.den:Int)*(b.den:Int)))] :=
 w tt Tryz.func213 rfl [.c [] (Qhs (ha.mono (by decide))),.c [] (Qhs (hb.mono (by decide))),.c [] (Lk (Ud _) (Ud _) (Qa ha.1 (by decide)) (Qa hb.2 (by decide))),.c [] (Lk (Ud _) (Ud _) (Qa hb.1 (by decide)) (Qa ha.2 (by decide))),.c [] (Lk (Ud _) (Ud _) (Qa ha.2 (by decide)) (Qa hb.2 (by decide)))] rfl rfl trivial
theorem C9 {a b:Rat} (ha:Qs 2147483647 a) (hb:Qs 2147483647 b):Ub Tryz.prog 159 [.agg (rl a),.agg (rl b)] [.one (.int .i64 (U8 a b))] :=
 w tt Tryz.func159 rfl [.c [] (Qmx ha hb),.c [] (Qhl (Ud _) (Ud _) (Qa (Uv _ _) (by have:=ha.1; have:=hb.2; omega)) (Qa (Uv _ _) (by have:=hb.1; have:=ha.2; omega)))] rfl rfl trivial
theorem Q39 {x y x' y':LV} {n d:Int} (h1:Ho x y n) (h2:Ho x' y' d) (hn:Ul n<=4294967295) (hd:Ul d<=4294967295):Ub Tryz.prog 98 [.agg [x,y,x',y'],.one (.row [])] [.agg (rl (Ft n d))]:=by
 have c1:=Qgh h1 h2 hn hd;obtain ⟨b,l,rfl,rfl,_⟩:=h1;obtain ⟨b',l',rfl,rfl,_⟩:=h2;refine Gk Tryz.func98 rfl ?_;refine go tt [.c [] c1] rfl trivial ?_;refine lp (S:=Unit) 3 (λL1 _=>(12,.v (.one (.int .i64 0)))::L1) (λ_=>[.blk 72 [.bool b,.row (lm l),.bool b',.row (lm l')],.blk 72 [.bool false,.nils,.bool false,.nils],.blk 72 (rl (Ft n d))]) (λ_=>0) (λ_=>True) () trivial rfl (λ_ _=>rfl) rfl λ_ _=>?_
 exact en tt [.f (by simp)] rfl rfl trivial
theorem E8 {q:Rat} (hq:Qs 4294967295 q):Ub Tryz.prog 98 [.agg (rl q),.one (.row [])] [.agg (rl q)]:=by
 have:=Q39 (Ud q.num) (Ud (q.den:Int)) hq.1 hq.2;rwa [Au] at this
theorem Zao {q:Rat} (hq:Qs 4294967295 q):Ub Tryz.prog 263 [.agg (rl q)] [.agg (rl q)]:=w tt Tryz.func263 rfl [.c [] (E8 hq)] rfl rfl trivial
theorem Qwt {p:List Int} {q:Rat} {s t:Nat} (tp:Uf p) (hl:p.length<274877906944) (hp:Bd s p) (hq:Qs t q) (hst:s+p.length*(t+1)+2*t+10<=4294967295):Ub Tryz.prog 211 [pr p,.agg (rl q)] [.one (.int .i64 (U5 p q))]:=by
 have cc:=Qhl (Ud (Zcu p q.num q.den)) Nt (Qa (Qpb hp hq.1 hq.2).1 (by omega)) (by decide);exact w tt Tryz.func211 rfl [.c [] (Zao (hq.mono (by omega))),.c [] (Hk tp hl (W9 hp (by omega))),.c [] (Q28 hl hp hq.1 hq.2 hst),.c [] cc] rfl rfl trivial
theorem Q3v {p:List Int} {g:Int} (hl:p.length<274877906944) (hp:Bd 4294967295 p) (hg:Ul g≤4294967295) (h0:g≠0) (hd:∀ z∈p,z % g=0):Ub Tryz.prog 245 [pr p,.agg (Gb g)] [pr (trim (p.map (· / g)))]:=by
 refine Gk Tryz.func245 rfl ?_;refine go tt [.r 9 (eI (b:=(p.length:Int)) (by simp)),.i p.length,.i p.length,.r 12 (eI (b:=(p.length:Int)) (by simp))] rfl (by simp [Ua]; omega) ?_;rw [Dd λk=>Gb (p.getD k 0 / g)];refine lp (S:=Nat) 2 (λL1 k=>(13,.v (.one (.int .i64 (k:Int))))::L1) (λk=>[.blk 51 (Gb g),.row false 51 2 (fil (λk=>Gb (p.getD k 0 / g)) [.bool false,.nils] p.length k)]) (λk=>p.length-k) (λk=>k<=p.length) 0 (Qi _) rfl (λ_ _=>rfl) rfl λk hk=>?_
 by_cases hlt:k<p.length
 ·have hg2:=Hl hlt;refine go tt [.t (by simp; omega),.x (Sb hg2),.c [] (Dz (Ud _) (Ud _) (Um hp k) hg h0 (hd _ (Qc hg2))),.i k] rfl (by simp [Ua,Lc]; omega) ?_;have e:=Aj (λk=>Gb (p.getD k 0 / g)) [.bool false,.nils] hlt;rw [e];exact rd (k+1) (by omega) hlt rfl
 ·obtain rfl:k=p.length:=by omega
  have e:fil (λk=>Gb (p.getD k 0 / g)) [.bool false,.nils] p.length p.length=(p.map (· / g)).map Gb:=by
   rw [Ai];refine Xs λi=>?_
   by_cases hi:i<p.length
   ·simp [X2 hi,List.getD,Qd hi]
   ·simp [Qr,hi]
  rw [e];exact en tt [.f (by simp),.c [] (Cf (Gy (p.map (· / g))) (by simp; exact hl) (Qdr hp g))] rfl rfl trivial
theorem Qi7 (p:List Int):∀ c∈p.map Gb,c.length=2:=Zew p λ_=>rfl
theorem Qwz {lx ly:List (List LV)} {px py:List Int} {x y:LV} {d:Int} (hx:IsInts lx px) (hy:IsInts ly py) (hd:Ho x y d) (hk:Cs 4294967294 1073741824 (Crv.mk px py d)):Ub Tryz.prog 185 [.agg [.row lx,.row ly,x,y]] [.agg (cl (Crv.norm (Crv.mk px py d)))]:=by
 have hlx:=hk.lx;have hly:=hk.ly;simp only at hlx hly;have htx:=G0 px;have hty:=G0 py;have hd1:Ul (Crv.mk px py d).d'<=4294967295:=Qa (Qnq hk.d (by omega)) (by omega);have hg1:=Crv.isz_g (Crv.mk px py d) hd1;have hg0:=Crv.g_ne (Crv.mk px py d);have hgd:=Crv.g_dvd (Crv.mk px py d);have cx:=Cf hx (by omega) (W9 hk.x (by omega));have cy:=Cf hy (by omega) (W9 hk.y (by omega));have cd:=Cg hd (Qa hk.d (by omega));have bx:Bd 4294967295 (trim px):=W9 (Rj hk.x) (by omega);have by_:Bd 4294967295 (trim py):=W9 (Rj hk.y) (by omega);obtain ⟨b,l,rfl,rfl,_⟩:=hd;obtain ⟨e,he⟩:=nmE ((Crv.mk px py d).d');obtain ⟨g,hgg⟩:=nmE ((Crv.mk px py d).g);obtain ⟨X,hX⟩:=nmE (trim px);obtain ⟨Y,hY⟩:=nmE (trim py);have hnorm:(Crv.mk px py d).norm=⟨trim (X.map (· / g)),trim (Y.map (· / g)),e / g⟩:=by rw [he,hgg,hX,hY]; rfl
 rw [hnorm];have hgdef:g=if e<0 then -((Gl (e::(X++Y)):Nat):Int) else (Gl (e::(X++Y)):Nat):=by rw [hgg,he,hX,hY]; rfl
 have hde:e=if d=0 then 1 else d:=by rw [he]; rfl
 simp only [<-he,<-hgg,<-hX,<-hY] at hd1 hg1 hg0 hgd htx hty cx cy bx by_;clear hnorm hgg he hX hY;refine Gk Tryz.func185 rfl ?_;refine go tt [.c [] cx,.c [] cy,.c [] cd,.c [] Ll] rfl trivial ?_;refine ct 1 (S:=Unit) (λ_=>[(2,.v (.one (.ow 1 0))),(3,.v (pr X)),(4,.v (pr Y)),(5,.v (.one (.ow 2 0)))]) (λ_=>[.blk 53 [.row lx,.row ly,.bool b,.row (lm l)],.blk 53 [.nils,.nils,.bool false,.nils],.blk 51 (Gb e)]) (λ_=>True) rfl ?_ ?_
 ·by_cases h0:d=0
  ·rw [hde,if_pos h0];exact go tt [.t (by simpa using h0),.c [] (Qtl (z:=1) (by decide))] rfl trivial (rc () trivial rfl)
  ·rw [hde,if_neg h0];exact go tt [.f (by simpa using h0)] rfl trivial (rc () trivial rfl)
 ·intro _ _;have hgi:IsInts ([Gb e]++X.map Gb++Y.map Gb) (e::(X++Y)):=by
   have:=Gy (e::(X++Y));simpa using this
  have hgs:∀ z∈e::(X++Y),Ul z≤4294967295:=λz hz=>by
   rcases Qx.1 hz with rfl | hz
   ·exact hd1
   ·rcases Q0.1 hz with hz | hz
    ·exact bx z hz
    ·exact by_ z hz
  have cg:=Q2w hgi hgs;have co1:=Q3v (p:=X) (by omega) bx hg1 hg0 λz hz=>hgd z (Ql _ (List.mem_append_left _ hz))
  have co2:=Q3v (p:=Y) (by omega) by_ hg1 hg0 λz hz=>hgd z (Ql _ (List.mem_append_right _ hz))
  have ce:=Dz (Ud e) (Ud g) hd1 hg1 hg0 (hgd e (Qt ..));have hszg:=Qgp hgs;by_cases hneg:e<0
  ·rw [if_pos hneg] at hgdef;have cn:=Qhh (Ud ((Gl (e::(X++Y)):Nat):Int)) hszg;rw [<-hgdef] at cn;exact en tt [.lo,.s (Qi7 X),.s (Qi7 Y),.c [] cg,.t (by simpa using hneg),.c [] cn,.c [] ce,.c [] co1,.c [] co2] rfl rfl (by simp [Ua]; omega)
  ·rw [if_neg hneg] at hgdef;rw [<-hgdef] at cg;exact en tt [.lo,.s (Qi7 X),.s (Qi7 Y),.c [] cg,.f (by simpa using hneg),.c [] ce,.c [] co1,.c [] co2] rfl rfl (by simp [Ua]; omega)
theorem Qmw {lx ly:List (List LV)} {px py:List Int} {x y:LV} {d:Int} (hx:IsInts lx px) (hy:IsInts ly py) (hd:Ho x y d) (hk:Cs 4294967294 1073741824 (Crv.mk px py d)) (h0:d≠0):Ub Tryz.prog 250 [.one (.row lx),.one (.row ly),.agg [x,y]] [.agg (cl (Crv.norm (Crv.mk px py d))),.one (.int .i64 0)]:=by
 have cd:=Cg hd (Qa hk.d (by omega));have cn:=Qwz hx hy hd hk;obtain ⟨b,l,rfl,rfl,_⟩:=hd;exact w tt Tryz.func250 rfl [.c [] cd,.c [] Ll,.f (by simpa using h0),.c [] cn] rfl rfl trivial
theorem Zi2 {lx ly:List (List LV)} {px py:List Int} (hx:IsInts lx px) (hy:IsInts ly py) (hk:Cs 4294967294 1073741824 (Crv.mk px py 0)):Ub Tryz.prog 145 [.one (.row lx),.one (.row ly)] [.agg (cl (Crv.norm (Crv.mk px py 0)))] :=
 w tt Tryz.func145 rfl [.c [] (Qwz hx hy Nt hk)] rfl rfl trivial
def Bz (x y:Int):Crv:=Crv.norm ⟨trim [x],trim [y],0⟩
theorem Qqa {x y:Int} (hx:-9223372036854775808<=x/\x<=9223372036854775807) (hy:-9223372036854775808<=y/\y<=9223372036854775807):Cs 64 1 ⟨trim [x],trim [y],0⟩:=by
 have key:∀ z:Int,-9223372036854775808<=z/\z<=9223372036854775807->Ul z<=64:=λz hz=>by
  rw [Rh];have:(2:Nat)^64=18446744073709551616:=by decide
  omega
 refine ⟨Rj λz hz=>?_,Rj λz hz=>?_,Qi _,G0 [x],G0 [y]⟩
 ·rw [Qp] at hz; rw [hz]; exact key x hx
 ·rw [Qp] at hz; rw [hz]; exact key y hy
theorem Zac {x y:Int} (hx:-9223372036854775808<=x/\x<=9223372036854775807) (hy:-9223372036854775808<=y/\y<=9223372036854775807):Ub Tryz.prog 76 [.one (.int .i64 x),.one (.int .i64 y)] [.agg (cl (Bz x y))] :=
 w tt Tryz.func76 rfl [.c [] (Q26 (p:=[x]) (show 1<274877906944 by decide) (by intro z hz; rw [Qp] at hz; rw [hz]; exact hx)),.c [] (Q26 (p:=[y]) (show 1<274877906944 by decide) (by intro z hz; rw [Qp] at hz; rw [hz]; exact hy)),.c [] (Zi2 (Gy _) (Gy _) ((Qqa hx hy).mono (by omega) (by omega)))] rfl rfl trivial
theorem Qvc {l:List Pt} {i:Nat} {p:Pt} (h:l[i]? = some p):(l.map Hw)[i]? = some [pl p.c.x,pl p.c.y,sg p.c.d,mg p.c.d,.int .i64 p.id]:=Ga h
theorem Qr9 (l:List Pt):∀ c∈l.map Hw,c.length=5:=Zew l λ_=>rfl
theorem Zam {lx ly:List (List LV)} {px py:List Int} {x y:LV} {d:Int} (hx:IsInts lx px) (hy:IsInts ly py) (hd:Ho x y d) (hk:Cs 4294967294 1073741824 (Crv.mk px py d)) (id:Int):Ub Tryz.prog 194 [.agg [.row lx,.row ly,x,y,.int .i64 id]] [.agg (Hw ⟨Crv.norm (Crv.mk px py d),id⟩)]:=by
 have cd:=Cg hd (Qa hk.d (by omega));by_cases h0:d=0
 ·subst h0;have ck:Cs 4294967294 1073741824 (Crv.mk px py 1):=⟨hk.x,hk.y,show Ul 1<=4294967294 by decide,hk.lx,hk.ly⟩;have cm:=Qmw hx hy (Ud 1) ck (by decide);have e:Crv.norm (Crv.mk px py 1)=Crv.norm (Crv.mk px py 0):=by simp only [Crv.norm,Crv.g,Crv.d']; rfl
  rw [e] at cm;obtain ⟨b,l,rfl,rfl,_⟩:=hd;exact w tt Tryz.func194 rfl [.c [] cd,.c [] Ll,.t (by simp),.c [] (Qtl (z:=1) (by decide)),.c [] cm] rfl rfl trivial
 ·have cm:=Qmw hx hy hd hk h0;obtain ⟨b,l,rfl,rfl,_⟩:=hd;exact w tt Tryz.func194 rfl [.c [] cd,.c [] Ll,.f (by simpa using h0),.c [] cm] rfl rfl trivial
theorem Zi3 {l:List Pt} (id:Int) (hl:l.length<1073741824):Ub Tryz.prog 193 [.agg [pts l],.one (.int .i64 id)] [.one (.int .i64 (pos l id:Int)),.one (.bool (has l id))]:=by
 refine Gk Tryz.func193 rfl ?_;refine go tt [] rfl trivial ?_;refine ct 2 (S:=Unit) (λ_=>[(1,.v (.one (.int .i64 id))),(2,.v (.one (.ow 0 0))),(6,.v (.one (.int .i64 (pos l id:Int))))]) (λ_=>[.blk 80 [pts l]]) (λ_=>True) rfl ?_ ?_
 ·refine lp (S:=Nat) 1 (λL1 k=>(6,.v (.one (.int .i64 (k:Int))))::L1) (λ_=>[.blk 80 [pts l]]) (λk=>l.length-k) (λk=>k<=l.length/\∀ j p,j<k->l[j]? = some p->p.id<id) 0 ⟨Qi _,λj p h=>by omega⟩ rfl (λ_ _=>rfl) rfl λk ⟨hk,hlt⟩=>?_
  by_cases h:k<l.length
  ·obtain ⟨p,hp⟩:=gxE (l:=l) (i:=k) h;by_cases hid:p.id<id
   ·refine go tt [.t (by simp; omega),.x (Qvc hp),.t (by simpa using hid)] rfl (by simp [Ua]; omega) ?_;exact rd (k+1) (by omega) ⟨h,λj q hj hq=>by
     rcases Q6 j k with h2 | h2
     ·exact hlt j q h2 hq
     ·have:j=k:=by omega
      subst this; rw [hp] at hq; injection hq with hq; rw [<-hq]; exact hid⟩ rfl
   ·have e:=Qu6 hlt (.inr ⟨p,hp,hid⟩);refine go tt [.t (by simp; omega),.x (Qvc hp),.f (by simpa using hid)] rfl trivial ?_;rw [e];exact rc () trivial rfl
  ·obtain rfl:k=l.length:=by omega
   have e:=Qu6 hlt (.inl rfl);refine go tt [.f (by simp),.f rfl] rfl trivial ?_;rw [e];exact rc () trivial rfl
 ·intro _ _;by_cases h:pos l id<l.length
  ·obtain ⟨p,hp⟩:=gxE (l:=l) (i:=pos l id) h;have e:has l id=decide (p.id=id):=by simp [has,hp]
   rw [e];exact en tt [.g 30 true (by simp; omega),.x (Qvc hp)] rfl rfl trivial
  ·have e:has l id=false:=by simp [has,Qr (Ym h)]
   rw [e];exact en tt [.g 30 false (by simp; omega)] rfl rfl trivial
theorem Q2z {l:List Pt}:Ub Tryz.prog 173 [.agg [pts l]] [.one (pts l)]:=w tt Tryz.func173 rfl [] rfl rfl trivial
theorem Ziw {lx ly:List (List LV)} {px py:List Int} {x y:LV} {d id:Int} {l:List Pt} (hx:IsInts lx px) (hy:IsInts ly py) (hd:Ho x y d) (hk:Cs 4294967294 1073741824 (Crv.mk px py d)) (hl:l.length<=1000000) :
 Ub Tryz.prog 123 [.agg [pts l],.agg [.row lx,.row ly,x,y,.int .i64 id]] [.agg [pts (if Ol l (Pt.mk (Crv.norm (Crv.mk px py d)) id)=0 then put l (Pt.mk (Crv.norm (Crv.mk px py d)) id) else l)],.one (.int .i64 (Ol l (Pt.mk (Crv.norm (Crv.mk px py d)) id)))]:=by
 have ca:=Zi3 (l:=l) id (by omega);have cf:=Zam hx hy hd hk id;obtain ⟨b,r,rfl,rfl,_⟩:=hd;obtain ⟨q,hq⟩:=nmE (Pt.mk (Crv.norm (Crv.mk px py d)) id);have hqi:q.id=id:=by rw [hq]
 rw [<-hq] at cf ⊢;have hpl:=Q65 l id;by_cases h1:has l id=true
 ·have e:Ol l q=6:=by simp [Ol,hqi,h1]
  rw [e,if_neg (by decide)];exact w tt Tryz.func123 rfl [.c [] ca,.t h1] rfl rfl trivial
 by_cases h2:6<=l.length
 ·have e:Ol l q=9:=by simp [Ol,hqi,h1,h2]
  rw [e,if_neg (by decide)];exact w tt Tryz.func123 rfl [.c [] ca,.f (by simpa using h1),.t (by simp; omega)] rfl rfl trivial
 have e:Ol l q=0:=by simp [Ol,hqi,h1,h2]
 rw [e,if_pos rfl];have s1:∀ c∈(l.map Hw).take (pos l id),c.length=5:=λc hc=>Qr9 l c (Qk hc)
 have s3:∀ c∈(l.map Hw).drop (pos l id),c.length=5:=λc hc=>Qr9 l c (Qz hc)
 refine w tt Tryz.func123 rfl [.c [] ca,.f (by simpa using h1),.f (by simp; omega),.i (pos l id),.s s1,.c [] cf,.i (pos l id),.s s3] rfl ?_ ?_
 ·simp [put,hqi,pts,Jo,Y0,Hw]
 ·simp [Ua];exact ⟨by omega,hpl,λ_ _=>rfl,by omega,by omega,hpl⟩
theorem Q6m:∀ (qs:List Pt),(Tf [] qs).1.length<=qs.length:=by
 have key:∀ (qs acc:List Pt),(Tf acc qs).1.length<=acc.length+qs.length:=by
  intro qs
  induction qs with
  | nil=>intro acc; simp [Tf]
  |
   cons q qs ih =>
   intro acc;simp only [Tf]
   split
   ·have:=ih (put acc q); rw [Qy4] at this; simp only [Zc]; omega
   ·simp
 intro qs;have:=key qs [];simpa using this
theorem Zit {zs:List (List LV)} {qs:List Pt} (hz:IsPts 4294967294 1073741824 zs qs) (hl:qs.length<=6):Ub Tryz.prog 129 [.one (.row zs)] [.agg [pts (Tf [] qs).1],.one (.int .i64 (Tf [] qs).2)]:=by
 refine Gk Tryz.func129 rfl ?_;have hzl:=hz.len;refine go tt [.f (by simp; omega)] rfl trivial ?_;refine nlb 1 rfl rfl rfl ?_;refine lp (S:=Nat) 2 (λL1 i=>(14,.v (.one (.int .i64 (i:Int))))::L1) (λi=>[.blk 80 [.nils],.blk 80 [pts (Tf [] (qs.take i)).1]]) (λi=>qs.length-i) (λi=>i<=qs.length/\(Tf [] (qs.take i)).2=0) 0 ⟨Qi _,rfl⟩ rfl (λ_ _=>rfl) rfl λi ⟨hi,h0⟩=>?_
 by_cases hlt:i<qs.length
 ·have hqi:qs[i]? = some qs[i]:=Qd hlt;obtain ⟨z,hzi,lx,ly,b,r,px,py,d,rfl,hx,hy,hd,hk,hc⟩:=hz.get hqi;have hq:(Pt.mk (Crv.norm (Crv.mk px py d)) qs[i].id)=qs[i]:=by rw [<-hc]
  have hst:=Q07 [] qs hqi (by rw [<-h0]);have hnl:=Q6m (qs.take i);have cp:=Ziw (l:=(Tf [] (qs.take i)).1) (id:=qs[i].id) hx hy hd hk (by rw [Qq] at hnl; omega);rw [hq] at cp;by_cases he:Ol (Tf [] (qs.take i)).1 qs[i]=0
  ·rw [if_pos he] at hst;rw [he,if_pos rfl] at cp;refine go tt [.t (by simp; omega),.x hzi,.c [] cp,.f rfl] rfl (by simp [Ua]; omega) ?_;exact rd (i+1) (by omega) ⟨hlt,by rw [hst]⟩ (by rw [hst]; rfl)
  ·rw [if_neg he] at hst;have herr:=Q6l [] qs he hst;rw [herr];exact en tt [.t (by simp; omega),.x hzi,.c [] cp,.t (by simpa using he)] rfl rfl trivial
 ·obtain rfl:i=qs.length:=by omega
  rw [Za] at h0;rw [Za,h0];exact en tt [.f (by simp; omega)] rfl rfl trivial
theorem Qo2 (q:Rat):Uf [-q.num,(q.den:Int)]:=by
 have:=q.den_nz;simp [Uf,trim,this]
theorem Zip {s:Nat} {q:Rat} (h:Qs s q):Bd s [-q.num,(q.den:Int)]:=λz hz=>by
 simp at hz;rcases hz with rfl | rfl
 ·rw [Fx]; exact h.1
 ·exact h.2
theorem Zed {x y x' y':LV} {n d:Int} (h1:Ho x y n) (h2:Ho x' y' d) (hn:Ul n<=4294967295) (hd:Ul d<=4294967295) (hq:Qs 4294967295 (Ft n d)):Ub Tryz.prog 83 [.agg [x,y,x',y']] [.agg (qa (Ft n d))]:=by
 have c1:=Q39 h1 h2 hn hd;obtain ⟨b,l,rfl,rfl,_⟩:=h1;obtain ⟨b',l',rfl,rfl,_⟩:=h2;exact w tt Tryz.func83 rfl [.c [] c1,.c [] (Qhh (Ud _) hq.1),.c [] (E8 hq)] rfl rfl trivial
theorem Qgg {k:Crv} (hn:Nml k) (hk:Cs 4294967294 1073741824 k):Ub Tryz.prog 230 [.agg (cl k)] [.agg (cl k)]:=by
 have h0:k.d≠0:=by have:=hn.2.2.1; omega
 have cm:=Qmw (Gy k.x) (Gy k.y) (Ud k.d) hk h0;rw [show Crv.mk k.x k.y k.d=k from rfl,Crv.norm_of hn] at cm;exact w tt Tryz.func230 rfl [.c [] (Cg (Ud k.d) (Qa hk.d (by omega))),.c [] Ll,.f (by simpa using h0),.c [] cm] rfl rfl trivial
theorem Qwv {a b:Crv} (ha:Nml a) (hb:Nml b) (ca:Cb a) (cb:Cb b):Ub Tryz.prog 235 [.agg (cl a),.agg (cl b)] [pr (He a b)]:=by
 have l1:=ca.lx;have l2:=cb.lx;have l3:=Uz b.x a.d;have l4:=Uz a.x b.d;exact w tt Tryz.func235 rfl [.c [] (Qgg ha (ca.mono (by omega) (by omega))),.c [] (Qgg hb (cb.mono (by omega) (by omega))),.c [] (Eb (by omega) (W9 cb.x (by omega)) (Qa ca.d (by omega))),.c [] (Eb (by omega) (W9 ca.x (by omega)) (Qa cb.d (by omega))),.c [] (Qms (by omega) (by omega) (W9 (U9 cb.x ca.d) (by omega)) (W9 (U9 ca.x cb.d) (by omega)))] rfl rfl trivial
theorem Qwm {a b:Crv} (ha:Nml a) (hb:Nml b) (ca:Cb a) (cb:Cb b):Ub Tryz.prog 236 [.agg (cl a),.agg (cl b)] [pr (Gw a b)]:=by
 have l1:=ca.ly;have l2:=cb.ly;have l3:=Uz b.y a.d;have l4:=Uz a.y b.d;exact w tt Tryz.func236 rfl [.c [] (Qgg ha (ca.mono (by omega) (by omega))),.c [] (Qgg hb (cb.mono (by omega) (by omega))),.c [] (Eb (by omega) (W9 cb.y (by omega)) (Qa ca.d (by omega))),.c [] (Eb (by omega) (W9 ca.y (by omega)) (Qa cb.d (by omega))),.c [] (Qms (by omega) (by omega) (W9 (U9 cb.y ca.d) (by omega)) (W9 (U9 ca.y cb.d) (by omega)))] rfl rfl trivial
def Tg (ps:List (List Int)):List (List LV):=ps.map λp=>[pl p]
theorem Hb {ps:List (List Int)} {i:Nat} {p:List Int} (h:ps[i]? = some p):(Tg ps)[i]? = some [pl p]:=Ga h
theorem Q3n {p q:List Int}:Ub Tryz.prog 234 [pr p,pr q] [pr (Lm p q)]:=by
 by_cases h:0<p.length
 ·exact w tt Tryz.func234 rfl [.t (by simp; omega)] rfl (by simp only [Lm]; rw [if_pos h]) trivial
 ·exact w tt Tryz.func234 rfl [.f (by simp; exact Qh (by omega))] rfl (by simp only [Lm]; rw [if_neg h]) trivial
theorem Qz6:Ub Tryz.prog 233 [.one (.int .i64 2)] [.one (.int .i64 2)]:=w tt Tryz.func233 rfl [.f rfl,.t rfl] rfl rfl trivial
theorem Q2y {k i0 i1 i2 i3 l j0 j1 j2 j3:Int}:Ub Tryz.prog 152 [.agg [.int .i64 k,.int .i64 i0,.int .i64 i1,.int .i64 i2,.int .i64 i3],.agg [.int .i64 l,.int .i64 j0,.int .i64 j1,.int .i64 j2,.int .i64 j3]] [.one (.bool (Hq [k,i0,i1,i2,i3] [l,j0,j1,j2,j3]))]:=by
 by_cases hk:k=l
 ·subst hk;rw [show Hq [k,i0,i1,i2,i3] [k,j0,j1,j2,j3]=Hq [i0,i1,i2,i3] [j0,j1,j2,j3] from by simp [Hq]];refine Gk Tryz.func152 rfl ?_;refine go tt [.f (by simp)] rfl trivial ?_;refine lp (S:=Nat) 2 (λL1 i=>(19,.v (.one (.int .i64 (i:Int))))::L1) (λ_=>[.blk 88 [.int .i64 k,.int .i64 i0,.int .i64 i1,.int .i64 i2,.int .i64 i3],.blk 88 [.int .i64 k,.int .i64 j0,.int .i64 j1,.int .i64 j2,.int .i64 j3]]) (λi=>4-i) (λi=>i<=4/\Hq ([i0,i1,i2,i3].drop i) ([j0,j1,j2,j3].drop i)=Hq [i0,i1,i2,i3] [j0,j1,j2,j3]) 0 ⟨by omega,rfl⟩ rfl (λ_ _=>rfl) rfl λi ⟨hi,he⟩=>?_
  rw [<-he];rcases (show i=0\/i=1\/i=2\/i=3\/i=4 by omega) with rfl | rfl | rfl | rfl | rfl
  ·by_cases h:i0=j0
   ·exact go tt [.t rfl,.i 0,.i 0,.f (by simpa using h)] rfl (by simp [Ua]) (rd 1 (by omega) ⟨by omega,by simp [Hq,h]⟩ rfl)
   ·exact en tt [.t rfl,.i 0,.i 0,.t (by simpa using h),.i 0] rfl (by simp [Hq,h]) trivial
  ·by_cases h:i1=j1
   ·exact go tt [.t rfl,.i 1,.i 1,.f (by simpa using h)] rfl (by simp [Ua]) (rd 2 (by omega) ⟨by omega,by simp [Hq,h]⟩ rfl)
   ·exact en tt [.t rfl,.i 1,.i 1,.t (by simpa using h),.i 1] rfl (by simp [Hq,h]) trivial
  ·by_cases h:i2=j2
   ·exact go tt [.t rfl,.i 2,.i 2,.f (by simpa using h)] rfl (by simp [Ua]) (rd 3 (by omega) ⟨by omega,by simp [Hq,h]⟩ rfl)
   ·exact en tt [.t rfl,.i 2,.i 2,.t (by simpa using h),.i 2] rfl (by simp [Hq,h]) trivial
  ·by_cases h:i3=j3
   ·exact go tt [.t rfl,.i 3,.i 3,.f (by simpa using h)] rfl (by simp [Ua]) (rd 4 (by omega) ⟨by omega,by simp [Hq,h]⟩ rfl)
   ·exact en tt [.t rfl,.i 3,.i 3,.t (by simpa using h),.i 3] rfl (by simp [Hq,h]) trivial
  ·exact en tt [.f rfl] rfl (by simp [Hq]) trivial
 ·exact w tt Tryz.func152 rfl [.t (by simpa using hk)] rfl (by simp [Hq,hk]) trivial
abbrev zCt:List LV:=[.int .i64 0,.int .i64 0,.int .i64 0,.int .i64 0,.int .i64 0,.nils,.int .i64 0]
def Gs (l:List Ct):List (List LV):=l.map Qi2
theorem Qa8 {l:List Ct} {i:Nat} {c:Ct} (h:l[i]? = some c):(Gs l)[i]? = some (Qi2 c):=Ga h
theorem B5 (l:List Ct):(Gs l).length=l.length:=by simp [Gs]
theorem Q4o (l:List Ct):∀ c∈Gs l,c.length=7:=λc hc=>by
 obtain ⟨x,_,rfl⟩:=Zg.1 hc; rfl
theorem Q51 {O:List Ct} {z:List LV} {c:Ct} {k m:Nat} {l2:List (List LV)} (hk:k<=O.length) (hp:Oe O c O.length=k) (hm:m=O.length-k) (h2:l2.take m=((Gs O++[z]).drop k).take m) :
 ((Gs O++[z]).take (k+1)++(l2.take m++(Gs O++[z]).drop (k+1+m))).set k (Qi2 c)=Gs (Qbb O c):=by
 rw [h2,<-Zy,Qq2 (Gs O) z (Qi2 c) (by rw [B5]; omega) (by rw [B5]; omega)];simp [Qbb,hp,Gs,Jo,Y0]
theorem Qto {l:List Ct} (hl:∀ c∈l,Pb c.p) (hn:l.length≤1000000):Ub Tryz.prog 86 [.one (.row (Gs l))] [.one (.row (Gs (Gm l)))]:=by
 have hcl:=B5 l;refine Gk Tryz.func86 rfl ?_;refine go tt [.o 3 90 7] rfl trivial ?_;refine lp (S:=Nat) 1 (λL1 i=>(9,.v (.one (.int .i64 (i:Int))))::(3,.v (.one (.orow 0 7 none)))::L1) (λi=>[.row false 90 7 (Gs (Gm (l.take i)))]) (λi=>l.length-i) (λi=>i<=l.length) 0 (Qi _) rfl (λ_ _=>rfl) rfl λi hi=>?_
 by_cases hlt:i<l.length
 ·obtain ⟨c,hc⟩:=gxE (l:=l) (i:=i) hlt;have hst:=Qvx hc;have hcp:=hl c (Qc hc);obtain ⟨O,hO⟩:=nmE (Gm (l.take i));have hOl:O.length=i:=by rw [hO,C4,Qq]; omega
  rw [<-hO] at hst ⊢;refine go tt [.t (by simp [hcl]; omega),.x (Qa8 hc)] rfl trivial ?_;refine lp (S:=Nat) 2 (λL1 k=>(6,.v (.one (.int .i64 (k:Int))))::L1) (λk=>[.row false 90 7 (Gs O),.blk 90 (Qi2 c)]) id (λk=>k<=O.length/\Oe O c k=Oe O c O.length) (Gs O).length ⟨by rw [B5]; exact Qj _,by rw [B5]⟩ rfl (λ_ _=>rfl) rfl λk ⟨hk,hp⟩=>?_
  have hz:∀ y∈[zCt],y.length=7:=λy hy=>by rw [Qp.1 hy]; rfl
  have h77:∀ y∈Gs O++[zCt],y.length=7:=λy hy=>by
   rcases Q0.1 hy with hy | hy
   ·exact Q4o O y hy
   ·exact hz y hy
  cases k with
  |
   zero =>
   have hp:Oe O c O.length=0:=by rw [<-hp]; rfl
   refine go tt [.g 17 false (by simp),.f rfl,.s (sz:=7) hz,.r 36 (eI (b:=((0+1:Nat):Int)) (by simp)),.i (0+1),.i (0),.s (sz:=7) (λy hy=>h77 y (Qk hy)),.i (O.length),.c [] (Hk hcp.t (by have:=hcp.l; omega) (W9 hcp.b (by omega))),.i (0)] rfl (by simp [Ua,B5]; omega) ?_;exact rd (i+1) (by omega) hlt (by rw [hst,<-Q51 (z:=zCt) (l2:=(Gs O++[zCt]).take ((Gs O++[zCt]).length-0)) (k:=0) (m:=O.length) (by omega) hp (by omega) (by congr 1; exact Qm (by simp))]; rfl)
  |
   succ k =>
   obtain ⟨x,hx⟩:=gxE (l:=O) (i:=k) (by omega);by_cases hlc:Mw c x=true
   ·refine go tt [.g 17 true (by simp),.r 22 (eI (b:=(k:Int)) (by simp)),.i k,.x (Qa8 hx),.c [] Q2y,.t hlc,.r 29 (eI (b:=(k:Int)) (by simp))] rfl (by simp [Ua,B5]; omega) ?_;exact rd k (by simp) ⟨by omega,by rw [<-hp,Zcl hx hlc]⟩ rfl
   ·have hlc:Mw c x=false:=by simpa using hlc
    have hp:Oe O c O.length=k+1:=by rw [<-hp,Q64 hx hlc]
    refine go tt [.g 17 true (by simp),.r 22 (eI (b:=(k:Int)) (by simp)),.i k,.x (Qa8 hx),.c [] Q2y,.f hlc,.s (sz:=7) hz,.r 36 (eI (b:=((k+1+1:Nat):Int)) (by simp)),.i (k+1+1),.i (k+1),.s (sz:=7) (λy hy=>h77 y (Qz (Qk hy))),.i (O.length-(k+1)),.c [] (Hk hcp.t (by have:=hcp.l; omega) (W9 hcp.b (by omega))),.i (k+1)] rfl (by simp [Ua,B5]; omega) ?_;exact rd (i+1) (by omega) hlt (by rw [hst,<-Q51 (z:=zCt) (l2:=((Gs O++[zCt]).drop (k+1)).take ((Gs O++[zCt]).length-(k+1))) (k:=k+1) (m:=O.length-(k+1)) (by omega) hp (by omega) (by congr 1; exact Qm (by simp))]; rfl)
 ·obtain rfl:i=l.length:=by omega
  rw [Za];exact en tt [.f (by simp [hcl])] rfl rfl trivial
end Orr
namespace Orr
def Un (p:List Int):Int:=p.getD (p.length-1) 0
def chk (p:List Int):Option (List Int):=if p.length<=64/\(p.all λz=>Nat.ble (Ul z) 16777216)=true then some p else none
def chq (q:Rat):Option Rat:=if Ul q.num<=16777216/\Ul (q.den:Int)<=16777216 then some q else none
def H7 (p:List Int):Int:=(Gl p:Nat)
def Nl (p:List Int) (c:Int):List Int:=trim (p.map (· / c))
def Fo (p:List Int):Int:=if Un p<0 then -H7 p else H7 p
def Uh (p:List Int):List Int:=if p.length=0 then [] else Nl p (Fo p)
def mono (i:Nat) (x:Int):List Int:=List.replicate i 0++[x]
def psd (b:List Int) (c:Int):Nat->List Int×List Int->List Int×List Int
 | 0,s=>s
 |
  i+1,(q,r) =>
  psd b c i (Qcs (Uu q c) (mono i (if r.length=b.length+i then Un r else 0)),Tp (Uu r c) (Fv (trim (mono i (if r.length=b.length+i then Un r else 0))) b))
def Se (a b:List Int):List Int:=(psd b (Un b) (a.length+1-b.length) ([],a)).2
def Pm (a b r:List Int):List Int:=if (a.length+1-b.length) % 2=1/\Un b<0 then S5 r else r
def Do (r:List Int):List Int:=if r.length=0 then [] else Nl r (H7 r)
def Fy (a b:List Int):List Int:=Do (Pm a b (Se a b))
def Qob (b:List Int):Nat->List Int->List Int->Option (List Int)
 | 0,a,q=>if a.length=0 then some q else none
 | i+1,a,q=>if a.length<b.length+i then Qob b i a q else if Un a % Un b=0 then Qob b i (Tp a (Fv (trim (mono i (Un a / Un b))) b)) (q.set i (Un a / Un b)) else none
def Og (a b:List Int):Option (List Int):=if b.length=0 then none else (Qob b (a.length+1-b.length) a (List.replicate (a.length+1-b.length) 0)).bind λq=>chk (trim q)
def Qe3:Nat->List Int->List Int->Option (List Int)
 | 0,_,_=>none
 | k+1,a,b=>if b.length=0 then some a else (chk (Fy a b)).bind λr=>Qe3 k b r
def Oj (a b:List Int):Option (List Int):=(Qe3 66 (Uh a) (Uh b)).map Uh
def Qod (a b:List Int):Option (List Int):=(Oj [] a).bind λg=>Oj g b
def Sl (a:List Int):Option (List Int):=if (Uh a).length<2 then some (Uh a) else (chk (U3 (Uh a))).bind λd=>(Oj (Uh a) d).bind λg=>Og (Uh a) g
def Qej:Nat->List Int->Option (List (List Int))
 | 0,_=>none
 | k+1,g=>if g.length<2 then some [] else (chk (U3 g)).bind λd=>(Oj g d).bind λh=>(Og g h).bind λw=>(Qej k h).bind λl=>some (w::l)
def Qj4:List (List Int)->Option (List (List Int))
 | []=>some []
 | [w]=>some [w]
 | w::v::l=>(Og w v).bind λf=>(Qj4 (v::l)).bind λr=>some (f::r)
def Qcp:Nat->List Int->List (List Int)->Option (List Int)
 | _,p,[]=>some p
 | i,p,f::l=>if i % 2=0 then (chk (Fv p f)).bind λq=>Qcp (i+1) q l else Qcp (i+1) p l
def Qu4 (a:List Int):Option (List Int):=if (Uh a).length=0 then some [] else (Qej 66 (Uh a)).bind λl=>(Qj4 l).bind λfs=>Qcp 0 [1] fs
def chF:Nat->List Int->List Int->Option (List (List Int))
 | 0,_,_=>none
 | k+1,a,b=>if b.length=0 then some [] else (chk (Fy a b)).bind λr=>(chF k b (S5 r)).bind λl=>some (b::l)
def chain (p:List Int):Option (List (List Int)):=(Sl p).bind λa=>if a.length=0 then none else (chk (U3 a)).bind λd=>(chF 66 a (Uh d)).bind λl=>some (a::l)
def Ht (sg:List Int->Int) (s:Nat×Int) (p:List Int):Nat×Int:=if sg p=0 then s else (if s.2=-(sg p) then s.1+1 else s.1,sg p)
def P3 (sg:List Int->Int) (l:List (List Int)):Nat:=(l.foldl (Ht sg) (0,0)).1
def So (l:List (List Int)) (q:Rat):Nat:=P3 (λp=>U5 p q) l
def Gx (l:List (List Int)) (lo hi:Rat):Int:=if U8 hi lo<0 then 0 else (So l lo:Int)-(So l hi:Int)
def Qb6 (p:List Int):Int:=Int.sign (Un p)
def If (p:List Int):Int:=if p.length % 2=0 then -Int.sign (Un p) else Int.sign (Un p)
def On (l:List (List Int)):Int:=(P3 If l:Int)-(P3 Qb6 l:Int)
def most:List Int->Nat:=λl=>l.foldl (λm z=>if m<z.natAbs then z.natAbs else m) 0
def Fp (p:List Int):Rat:=Rat.divInt (((Un p).natAbs:Int)+(most (p.take (p.length-1)):Int)) ((Un p).natAbs:Int)
def A9 (a b:Rat):Rat:=Rat.divInt (a.num*(b.den:Int)+b.num*(a.den:Int)) ((a.den:Int)*(b.den:Int)*2)
def Dq (p:List Int) (c:List (List Int)):Nat->Rat->Rat->Int->Option (List Tm)
 | 0,_,_,_=>none
 | k+1,lo,hi,n=>if n=0 then some [] else if n=1 then some [⟨p,lo,hi⟩] else (chq (A9 lo hi)).bind λm=>(Dq p c k lo m (Gx c lo m)).bind λl=>(Dq p c k m hi (n-Gx c lo m)).bind λr=>some (l++r)
def Qjf (p:List Int):Option (List Tm):=(chain p).bind λc=>(Sl p).bind λq=>(chq (Fp q)).bind λb=>Dq q c 100000 (-b) b (On c)
def Tm.point (a:Tm):Bool:=decide (0<=U8 a.lo a.hi)
def low (p:List Int) (q:Rat):Int:=if U5 p q≠0 then U5 p q else U5 (U3 p) q
def Qcc (p:List Int) (lo hi:Rat):Bool:=decide (U5 p hi=0\/U5 p hi≠low p lo)
def Up (a:Tm) (t:Rat):Int :=
 if a.point=true then U8 a.lo t else if U8 t a.lo<=0 then 1 else if 0<U8 t a.hi then -1 else if U5 a.p t=0 then 0 else if U5 a.p t=low a.p a.lo then 1 else -1
def Qnl (a:Tm):Option Tm:=if a.point=true then some a else (chq (A9 a.lo a.hi)).bind λm =>
 some (if Up a m=0 then ⟨a.p,m,m⟩ else if Up a m=-1 then ⟨a.p,a.lo,m⟩ else ⟨a.p,m,a.hi⟩)
def Fq (p:List Int):Nat:=p.foldl (λn z=>max n (Ul z)) 0
def Sf (a b:Tm):Nat:=64+2*(Ul a.lo.num+Ul a.hi.num+Ul b.lo.num+Ul b.hi.num)+4*(a.p.length+b.p.length)*(Fq a.p+Fq b.p+(a.p.length+b.p.length)+8)
def Qji (a b:Rat):Rat:=Rat.divInt (a.num*(b.den:Int)-b.num*(a.den:Int)) ((a.den:Int)*(b.den:Int))
def Bm (a b:Tm):Bool:=decide (U8 a.hi b.lo<=0/\¬((a.point=true/\b.point=true)/\U8 a.hi b.lo=0))
def apF:Nat->Tm->Tm->Option (Tm×Tm×Int)
 | 0,a,b=>some (a,b,0)
 |
  k+1,a,b=>if Bm a b=true then some (a,b,-1) else if Bm b a=true then some (a,b,1) else
  if 0<=U8 (Qji a.hi a.lo) (Qji b.hi b.lo) then (Qnl a).bind λx=>apF k x b else (Qnl b).bind λx=>apF k a x
def Qf4 (a b:Tm):Option Int:=if a.point=true then some (-Up b a.lo) else if b.point=true then some (Up a b.lo) else
 let lo:=if 0<U8 b.lo a.lo then b.lo else a.lo
 let hi:=if U8 b.hi a.hi<0 then b.hi else a.hi
 if U8 lo hi<0 then (Qod a.p b.p).bind λg=>if 1<g.length/\Qcc g lo hi=true then some 0 else (apF (Sf a b) a b).bind λr=>some r.2.2
 else (apF (Sf a b) a b).bind λr=>some r.2.2
def sgF (c:List (List Int)):Nat->Tm->Option Tm
 | 0,a=>some a
 | k+1,a=>if a.point=true\/Gx c a.lo a.hi=0 then some a else (Qnl a).bind λx=>sgF c k x
def Qjl (p:List Int) (a:Tm):Option Int:=if p.length=0 then some 0 else if a.point=true then some (U5 p a.lo) else
 (Qod p a.p).bind λg=>if 1<g.length/\Qcc g a.lo a.hi=true then some 0 else (chain p).bind λc=>(sgF c (64+2*(Ul a.lo.num+Ul a.hi.num)+4*(a.p.length+p.length)*(Fq a.p+Fq p+(a.p.length+p.length)+8)) a).bind λx=>some (U5 p x.hi)
def Ao:Tm->List Tm->Option Tm
 | b,[]=>some b
 | b,a::l=>(Qf4 a b).bind λc=>Ao (if c<0 then a else b) l
def Qax (a:Tm):List Tm->Option (Option Tm)
 | []=>some none
 | r::l=>(Qf4 r a).bind λc=>if 0<c then some (some r) else Qax a l
def Lx (p:List Int):Option (List Tm):=(Qu4 p).bind λq=>if q.length=0 then some [] else Qjf q
def Qfr (p:List Int) (a:Tm):Option (Option Tm):=(Lx p).bind λl=>Qax a l
end Orr
namespace Orr
open Go Go.Proofs
set_option maxRecDepth 10000
theorem Bf {p:List Int} (tp:Uf p) (h:p.length≠0):Un p≠0:=Gi tp (by omega)
theorem Qiv {p:List Int} (h:p.length≠0):Un p∈p:=Qc (Hl (by omega))
theorem Pw {s:Nat} {p:List Int} (h:Bd s p):Ul (Un p)<=s:=Um h _
theorem Cx {p:List Int}:∀ z∈p,H7 p∣z:=I3
theorem Em {p:List Int} (tp:Uf p) (h:p.length≠0):H7 p≠0:=λh0=>Bf tp h (Int.zero_dvd.1 (h0 ▸ Cx _ (Qiv h)))
theorem O9 {p:List Int} (h:Bd 4294967295 p):Ul (H7 p)<=4294967295:=Qgp h
theorem Qyx {p:List Int} (tp:Uf p) (h:p.length≠0):Fo p≠0:=by
 have:=Em tp h;unfold Fo; split <;> omega
theorem Qcu {p:List Int}:∀ z∈p,Fo p∣z:=λz hz=>by
 unfold Fo; split
 ·exact W6.2 (Cx z hz)
 ·exact Cx z hz
theorem Q53 {p:List Int} (h:Bd 4294967295 p):Ul (Fo p)<=4294967295:=by
 unfold Fo; split
 ·rw [Fx]; exact O9 h
 ·exact O9 h
theorem Qhc {s:Nat} {p:List Int} (h:Bd s p) (c:Int):Bd s (Nl p c):=Rj (Qdr h c)
theorem Qlh (p:List Int) (c:Int):(Nl p c).length<=p.length:=Qa (G0 _) (by simp)
theorem Az (p:List Int) (c:Int):Uf (Nl p c):=Gu _
theorem Q6z {p:List Int} (h:Pb p) (c:Int):Pb (Nl p c):=⟨Az _ _,Qa (Qlh _ _) h.l,Qhc h.b c⟩
theorem Qeq:Pb []:=⟨rfl,by simp,Im⟩
theorem Hn {p:List Int} (h:Pb p):Pb (Uh p):=by
 unfold Uh; split
 ·exact Qeq
 ·exact Q6z h _
theorem Pb.bd {p:List Int} (h:Pb p):Bd 4294967295 p:=W9 h.b (by omega)
theorem Pb.ln {p:List Int} (h:Pb p):p.length<274877906944:=Zx h.l (by omega)
theorem Pb.ln' {p:List Int} (h:Pb p):p.length<8589934592:=Zx h.l (by omega)
theorem E9 {p q:List Int} (tp:Uf p) (h:chk p=some q):q=p/\Pb p:=by
 unfold chk at h
 split at h
 ·rename_i hc;injection h with h;refine ⟨h.symm,tp,hc.1,λz hz=>?_⟩;have:=Yl.1 hc.2 z hz;exact Xt this
 ·cases h
theorem Qw0 {p:List Int} {g:Int} (hl:p.length<274877906944) (hp:Bd 4294967295 p) (hg:Ul g≤4294967295) (h0:g≠0) (hd:∀ z∈p,g∣z):Ub Tryz.prog 308 [pr p,.agg (Gb g)] [pr (Nl p g)]:=by
 refine Gk Tryz.func308 rfl ?_;refine go tt [.r 9 (eI (b:=(p.length:Int)) (by simp)),.i p.length,.i p.length,.r 12 (eI (b:=(p.length:Int)) (by simp))] rfl (by simp [Ua]; omega) ?_;rw [Dd λk=>Gb (p.getD k 0 / g)];refine lp (S:=Nat) 2 (λL1 k=>(13,.v (.one (.int .i64 (k:Int))))::L1) (λk=>[.blk 51 (Gb g),.row false 51 2 (fil (λk=>Gb (p.getD k 0 / g)) [.bool false,.nils] p.length k)]) (λk=>p.length-k) (λk=>k<=p.length) 0 (Qi _) rfl (λ_ _=>rfl) rfl λk hk=>?_
 by_cases hlt:k<p.length
 ·have hg2:=Hl hlt;refine go tt [.t (by simp; omega),.x (Sb hg2),.c [] (Dz (Ud _) (Ud _) (Um hp k) hg h0 (Jw (hd _ (Qc hg2)))),.i k] rfl (by simp [Ua,Lc]; omega) ?_;have e:=Aj (λk=>Gb (p.getD k 0 / g)) [.bool false,.nils] hlt;rw [e];exact rd (k+1) (by omega) hlt rfl
 ·obtain rfl:k=p.length:=by omega
  have e:fil (λk=>Gb (p.getD k 0 / g)) [.bool false,.nils] p.length p.length=(p.map (· / g)).map Gb:=by
   rw [Ai];refine Xs λi=>?_
   by_cases hi:i<p.length
   ·simp [X2 hi,List.getD,Qd hi]
   ·simp [Qr,hi]
  rw [e];exact en tt [.f (by simp),.c [] (Cf (Gy (p.map (· / g))) (by simp; exact hl) (Qdr hp g))] rfl rfl trivial
theorem Qdu {p:List Int} (hl:p.length<8589934592) (hp:Bd 4294967295 p):Ub Tryz.prog 309 [.one (.row [[pl p]])] [.agg (Gb (H7 p))]:=by
 refine Gk Tryz.func309 rfl ?_;refine go tt [.o 3 51 2] rfl trivial ?_;refine lp (S:=Nat) 2 (λL1 i=>(8,.v (.one (.int .i64 (i:Int))))::(3,.v (.one (.orow 1 2 none)))::L1) (λi=>[.blk 51 [.bool false,.nils],.row false 51 2 (if i=0 then [] else p.map Gb)]) (λi=>1-i) (λi=>i<=1) 0 (Qi _) rfl (λ_ _=>rfl) rfl λi hi=>?_
 rcases (show i=0\/i=1 by omega) with rfl | rfl
 ·refine go tt [.t rfl,.x (i:=0) (xs:=[pl p]) rfl,.s (Qi7 p)] rfl (by simp [Ua]; omega) ?_;exact rd 1 (by omega) (by omega) rfl
 ·exact en tt [.f rfl,.c [] (Q2w (Gy p) hp)] rfl rfl trivial
theorem Q3y {p:List Int} (tp:Uf p) (hl':p.length<8589934592) (hp:Bd 4294967295 p):Ub Tryz.prog 304 [pr p] [.agg (Gb (if p.length=0 then 0 else Fo p)),pr (Uh p)]:=by
 have hl:p.length<274877906944:=by omega
 have cn:=Hk tp hl hp;by_cases h0:p.length=0
 ·have e:p=[]:=Qh h0;subst e;exact w tt Tryz.func304 rfl [.c [] cn,.t rfl] rfl (by simp [Dm,Uh]; rfl) trivial
 ·have hpf:Uh p=Nl p (Fo p):=by unfold Uh; rw [if_neg h0]
  rw [if_neg h0,hpf];have co:=Qw0 hl hp (Q53 hp) (Qyx tp h0) Qcu;by_cases hneg:Un p<0
  ·have e:Fo p=-H7 p:=by unfold Fo; rw [if_pos hneg]
   rw [e] at co ⊢;exact w tt Tryz.func304 rfl [.c [] cn,.f (by simpa using h0),.c [] (Qdu hl' hp),.c [] (Ba tp hl hp),.t (by simpa [Un] using hneg),.c [] (Qhh (Ud _) (O9 hp)),.c [] co] rfl rfl trivial
  ·have e:Fo p=H7 p:=by unfold Fo; rw [if_neg hneg]
   rw [e] at co ⊢;exact w tt Tryz.func304 rfl [.c [] cn,.f (by simpa using h0),.c [] (Qdu hl' hp),.c [] (Ba tp hl hp),.f (by simpa [Un] using hneg),.c [] co] rfl rfl trivial
theorem D3 {p:List Int} (hp:Pb p):Ub Tryz.prog 268 [pr p] [pr (Uh p)] :=
 w tt Tryz.func268 rfl [.c [] (Q3y hp.t hp.ln' hp.bd)] rfl rfl trivial
theorem Mg (p:List Int):Ub Tryz.prog 161 [pr p] [.one (.int .i64 ((p.length:Int)-1))]:=by
 have h:Ub Tryz.prog 161 [pr p] [.one (.int .i64 (((p.map Gb).length:Int)-1))]:=Gk Tryz.func161 rfl (ln 0 rfl rfl λhl=>en tt [] rfl rfl (by simp [Ua] at hl ⊢; omega));rw [Zd] at h; exact h
theorem Ei (i:Nat) (x:Int):(mono i x).length=i+1:=by simp [mono]
theorem Qha {s i:Nat} {x:Int} (h:Ul x<=s):Bd s (mono i x):=λz hz=>by
 simp only [mono,Q0,Qp] at hz;rcases hz with hz | rfl
 ·rw [(List.mem_replicate.1 hz).2,Px]; exact Qi _
 ·exact h
def stq (c:Int) (i:Nat) (x:Int) (q:List Int):List Int:=Qcs (Uu q c) (mono i x)
def str (b:List Int) (c:Int) (i:Nat) (x:Int) (r:List Int):List Int:=Tp (Uu r c) (Fv (trim (mono i x)) b)
theorem Zfk {u t i:Nat} {c x:Int} {q:List Int} (hq:Bd u q) (hc:Ul c<=t) (hx:Ul x<=u):Bd (u+t+8) (stq c i x q) :=
 W9 (Q9x (U9 hq hc) (Qha hx)) (by omega)
theorem Zbx {c x:Int} {i:Nat} {q:List Int}:(stq c i x q).length<=max q.length (i+1):=by
 have h:=Q57 (Uu q c) (mono i x);have h1:=Uz q c;rw [Ei] at h;unfold stq; omega
theorem Qnt {i:Nat} {x:Int} {b:List Int}:(Fv (trim (mono i x)) b).length<=i+b.length:=by
 have h:=Q58 (trim (mono i x)) b;have h1:=G0 (mono i x);rw [Ei] at h1; omega
theorem Qwl {u t i:Nat} {x:Int} {b:List Int} (hb:Bd t b) (hx:Ul x<=u) (hi:i<=64):Bd (u+t+7) (Fv (trim (mono i x)) b) :=
 Q9y (Rj (Qha hx)) hb (Zx (G0 _) (by rw [Ei]; omega))
theorem Qta {u t i:Nat} {c x:Int} {b r:List Int} (hr:Bd u r) (hb:Bd t b) (hc:Ul c<=t) (hx:Ul x<=u) (hi:i<=64):Bd (u+t+8) (str b c i x r) :=
 W9 (Dy (U9 hr hc) (Qwl hb hx hi)) (by omega)
theorem Qnu {c x:Int} {i:Nat} {b r:List Int}:(str b c i x r).length<=max r.length (i+b.length):=by
 have h:=Mv (Uu r c) (Fv (trim (mono i x)) b);have h1:=Uz r c;have h2:=Qnt (i:=i) (x:=x) (b:=b);unfold str; omega
theorem Qrh (i:Nat) (x:Int):((List.replicate (i+1) (0:Int)).map Gb).set i (Gb x)=(mono i x).map Gb:=by
 rw [Qu2,mono];congr 1;refine Xs λj=>?_
 simp only [Yf,List.getElem?_append,Jy,X9];by_cases h:j=i
 ·subst h; simp
 ·rw [if_neg (by omega)];by_cases h2:j<i
  ·simp [h2]; omega
  ·rw [if_neg (by omega),if_neg h2];cases hj:j-i with
   | zero=>omega
   | succ m=>simp
theorem Qym (i:Nat) {x:Int} {y:List LV} (h:y.map Qf7=Gb x):(((List.replicate (i+1) [LV.bool false,LV.nils]).set i y).map λc=>c.map Qf7)=(mono i x).map Gb:=by
 rw [Vm,Qgz,h]; exact Qrh i x
theorem Oi {b:List Int} {c:Int} {i:Nat} {q r:List Int} {x:Int} (hx:x=if r.length=b.length+i then Un r else 0):psd b c (i+1) (q,r)=psd b c i (stq c i x q,str b c i x r):=by
 subst hx; rfl
theorem Q27 {a b:List Int} (ha:Pb a) (hb:Pb b) (h0:b.length≠0):Ub Tryz.prog 305 [pr a,pr b] [pr (psd b (Un b) (a.length+1-b.length) ([],a)).1,pr (Se a b),.one (.int .i64 ((a.length+1-b.length:Nat):Int)),.one (.int .i64 0)]:=by
 have hal:=ha.l;have hbl:=hb.l;have hlb:Ul (Un b)<=16777216:=Pw hb.b;obtain ⟨c,hc⟩:=nmE (Un b);have cl:=Ba hb.t hb.ln hb.bd;rw [show b.getD (b.length-1) 0=c from hc.symm] at cl;obtain ⟨k,hk⟩:=nmE (a.length+1-b.length);unfold Se;rw [<-hc,<-hk];rw [<-hc] at hlb;refine Gk Tryz.func305 rfl ?_;refine go tt [.z 4,.c [] (Hk ha.t ha.ln ha.bd),.c [] (Hk hb.t hb.ln hb.bd),.f (by simpa using h0),.c [] cl,.c [] (Mg a),.c [] (Mg b),.r 27 (eI (b:=(k:Int)) (by omega))] rfl (by simp [Ua]; omega) ?_;refine lp (S:=Nat×List Int×List Int) 1 (λL1 s=>(4,.v (pr s.2.1))::(5,.v (pr s.2.2))::(9,.v (.one (.int .i64 ((s.1:Int)-1))))::L1) (λ_=>[.blk 51 (Gb c)]) (λs=>s.1) (λs=>s.1<=k/\Uf s.2.2/\s.2.1.length<=66/\s.2.2.length<=a.length/\Bd (16777216+(k-s.1)*16777224) s.2.1/\Bd (16777216+(k-s.1)*16777224) s.2.2/\psd b c s.1 s.2=psd b c k ([],a)) (k,[],a) ⟨Qj _,ha.t,by simp,Qj _,Im,by simpa using ha.b,rfl⟩ rfl (λ_ _=>rfl) rfl λ⟨i,q,r⟩ ⟨j1,j2,j3,j4,j5,j6,j7⟩=>?_
 dsimp only at j1 j2 j3 j4 j5 j6 j7 ⊢;rw [<-j7];cases i with
 | zero=>exact en tt [.f (by simp)] rfl rfl trivial
 |
  succ i =>
  obtain ⟨x,hx⟩:=nmE (if r.length=b.length+i then Un r else 0);obtain ⟨u,hu⟩:=nmE (16777216+(k-(i+1))*16777224);rw [<-hu] at j5 j6;have hub:u<=1107296256:=by
   have:(k-(i+1))*16777224<=64*16777224:=Qw _ (by omega);omega
  have hxs:Ul x<=u:=by
   rw [hx]; split
   ·exact Pw j6
   ·rw [Px]; exact Qi _
  have cs:=Eb (p:=q) (c:=c) (by omega) (W9 j5 (by omega)) (by omega);have cs2:=Eb (p:=r) (c:=c) (by omega) (W9 j6 (by omega)) (by omega);have l1:=Uz q c;have l2:=Uz r c;have ca:=Zfv (p:=Uu q c) (q:=mono i x) (by omega) (by rw [Ei]; omega) (W9 (U9 j5 hlb) (by omega)) (W9 (Qha hxs) (by omega));have cm:=Qmr (p0:=mono i x) hb.t (by rw [Ei]; omega) (by omega) (Qha hxs) hb.b (by omega);have l3:=Qnt (i:=i) (x:=x) (b:=b);have cb:=Qms (p:=Uu r c) (q:=Fv (trim (mono i x)) b) (by omega) (by omega) (W9 (U9 j6 hlb) (by omega)) (W9 (Qwl hb.b hxs (by omega)) (by omega));have hst:=Oi (b:=b) (c:=c) (q:=q) hx;have hI:i<=k/\Uf (str b c i x r)/\(stq c i x q).length<=66/\(str b c i x r).length<=a.length/\Bd (16777216+(k-i)*16777224) (stq c i x q)/\Bd (16777216+(k-i)*16777224) (str b c i x r):=by
   have l5:=Zbx (c:=c) (x:=x) (i:=i) (q:=q);have l6:=Qnu (c:=c) (x:=x) (i:=i) (b:=b) (r:=r);have hku:u+16777216+8=16777216+(k-i)*16777224:=by
    rw [hu,show k-i=(k-(i+1))+1 from by omega,Ji]; omega
   refine ⟨by omega,Ut _ _,by omega,by omega,?_,?_⟩
   ·rw [<-hku]; exact Zfk j5 hlb hxs
   ·rw [<-hku]; exact Qta j6 hb.b hlb hxs (by omega)
  rw [hst];by_cases h:r.length=b.length+i
  ·refine go tt [.t (by simp <;> omega),.c [] (Mg r),.c [] (Mg b),.t (by simp; omega),.c [] (Ba j2 (by omega) (W9 j6 (by omega))),.r 44 (eI (b:=((i+1:Nat):Int)) (by omega)),.i (i+1),.i (i+1),.r 47 (eI (b:=(i:Int)) (by omega)),.i i] rfl (by simp [Ua]; omega) ?_;refine nl 2 rfl rfl rfl ?_;rw [Qym i (x:=x) (by rw [hx,if_pos h]; rfl)];refine go tt [.c [] cs,.c [] ca,.c [] cs2,.c [] cm,.c [] cb,.r 33 (eI (b:=(i:Int)-1) (by omega))] rfl (by simp [Ua]; omega) ?_;exact rd (i,stq c i x q,str b c i x r) (by dsimp only; omega) ⟨hI.1,hI.2.1,hI.2.2.1,hI.2.2.2.1,hI.2.2.2.2.1,hI.2.2.2.2.2,rfl⟩ rfl
  ·refine go tt [.t (by simp <;> omega),.c [] (Mg r),.c [] (Mg b),.f (by simp; omega),.r 44 (eI (b:=((i+1:Nat):Int)) (by omega)),.i (i+1),.i (i+1),.r 47 (eI (b:=(i:Int)) (by omega)),.i i] rfl (by simp [Ua]; omega) ?_;refine nl 2 rfl rfl rfl ?_;rw [Qym i (x:=x) (by rw [hx,if_neg h,Dm]; rfl)];refine go tt [.c [] cs,.c [] ca,.c [] cs2,.c [] cm,.c [] cb,.r 33 (eI (b:=(i:Int)-1) (by omega))] rfl (by simp [Ua]; omega) ?_;exact rd (i,stq c i x q,str b c i x r) (by dsimp only; omega) ⟨hI.1,hI.2.1,hI.2.2.1,hI.2.2.2.1,hI.2.2.2.2.1,hI.2.2.2.2.2,rfl⟩ rfl
theorem Q68 {b:List Int} {c:Int} (hb:Bd 16777216 b) (hc:Ul c<=16777216) {n:Nat}:∀ (i u:Nat) (q r:List Int),i<=64->i+b.length<=n+1->Uf r->r.length<=n->Bd u r->Uf (psd b c i (q,r)).2/\(psd b c i (q,r)).2.length<=n/\Bd (u+i*16777224) (psd b c i (q,r)).2
 | 0,u,q,r,_,_,h1,h2,h3=>⟨h1,h2,by simpa [psd] using h3⟩
 |
  i+1,u,q,r,hi,hn,h1,h2,h3=>by
  rw [Oi rfl];have hx:Ul (if r.length=b.length+i then Un r else 0)<=u:=by
   split
   ·exact Pw h3
   ·rw [Px]; exact Qi _
  have l6:=Qnu (c:=c) (x:=if r.length=b.length+i then Un r else 0) (i:=i) (b:=b) (r:=r);have:=Q68 hb hc (n:=n) i (u+16777216+8) (stq c i (if r.length=b.length+i then Un r else 0) q) (str b c i (if r.length=b.length+i then Un r else 0) r) (by omega) (by omega) (Ut _ _) (by omega) (Qta h3 hb hc hx (by omega));exact ⟨this.1,this.2.1,W9 this.2.2 (by omega)⟩
theorem Qy0 {a b:List Int} (ha:Pb a) (hb:Pb b) (h0:b.length≠0):Uf (Se a b)/\(Se a b).length<=a.length/\Bd 1107296256 (Se a b):=by
 have hal:=ha.l;by_cases h:b.length<=a.length+1
 ·obtain ⟨h1,h2,h3⟩:=Q68 hb.b (Pw hb.b) (n:=a.length) (a.length+1-b.length) 16777216 [] a (by omega) (by omega) ha.t (Qj _) ha.b;refine ⟨h1,h2,W9 h3 ?_⟩;have:(a.length+1-b.length)*16777224<=64*16777224:=Qw _ (by omega);omega
 ·have e:Se a b=a:=by unfold Se; rw [show a.length+1-b.length=0 from by omega]; rfl
  rw [e];exact ⟨ha.t,Qj _,W9 ha.b (by omega)⟩
theorem Qcx {a b r:List Int} {s n:Nat} (h1:Uf r) (h2:r.length<=n) (h3:Bd s r):Uf (Pm a b r)/\(Pm a b r).length<=n/\Bd s (Pm a b r):=by
 unfold Pm; split
 ·exact ⟨Ut _ _,Qa (Di r) h2,Qbx h3⟩
 ·exact ⟨h1,h2,h3⟩
theorem Qi9 {r:List Int} {s n:Nat} (h2:r.length<=n) (h3:Bd s r):Uf (Do r)/\(Do r).length<=n/\Bd s (Do r):=by
 unfold Do; split
 ·exact ⟨rfl,by simp,Im⟩
 ·exact ⟨Az _ _,Qa (Qlh _ _) h2,Qhc h3 _⟩
theorem Qcw {a b:List Int} (ha:Pb a) (hb:Pb b) (h0:b.length≠0):Uf (Fy a b)/\(Fy a b).length<=a.length/\Bd 1107296256 (Fy a b):=by
 obtain ⟨h1,h2,h3⟩:=Qy0 ha hb h0;obtain ⟨h4,h5,h6⟩:=Qcx (a:=a) (b:=b) h1 h2 h3;exact Qi9 h5 h6
theorem Q29 {a b:List Int} (ha:Pb a) (hb:Pb b) (h0:b.length≠0):Ub Tryz.prog 269 [pr a,pr b] [pr (Fy a b),.one (.int .i64 0)]:=by
 obtain ⟨h1,h2,h3⟩:=Qy0 ha hb h0;obtain ⟨h4,h5,h6⟩:=Qcx (a:=a) (b:=b) h1 h2 h3;have hal:=ha.l;have cp:=Q27 ha hb h0;have cl:=Ba hb.t hb.ln hb.bd;have cn:=Q25 (p:=Se a b) (by omega) (W9 h3 (by omega));unfold Fy;obtain ⟨r,hr⟩:=nmE (Pm a b (Se a b));have cc:=Qdu (p:=r) (by rw [hr]; omega) (by rw [hr]; exact W9 h6 (by omega));rw [<-hr] at h4 h5 h6 ⊢;obtain ⟨k,hk⟩:=nmE (a.length+1-b.length);rw [<-hk] at cp;have em:((k:Int).tmod 2)=((k % 2:Nat):Int):=by rw [Yv (by omega)]; omega
 have key:Do r=if r.length=0 then [] else Nl r (H7 r):=rfl
 by_cases hz:r.length=0
 ·rw [key,if_pos hz];by_cases hodd:k % 2=1
  ·by_cases hneg:Un b<0
   ·have e:r=S5 (Se a b):=by rw [hr]; unfold Pm; rw [if_pos ⟨by rw [<-hk]; exact hodd,hneg⟩]
    rw [e] at hz;exact w tt Tryz.func269 rfl [.c [] cp,.f (by simp),.r 22 (eI em),.t (by simp; omega),.c [] cl,.t (by simpa [Un] using hneg),.c [] cn,.t (by simpa using hz)] rfl rfl (by simp [Ua])
   ·have e:r=Se a b:=by rw [hr]; unfold Pm; rw [if_neg (λh=>hneg h.2)]
    rw [e] at hz;exact w tt Tryz.func269 rfl [.c [] cp,.f (by simp),.r 22 (eI em),.t (by simp; omega),.c [] cl,.f (by simpa [Un] using hneg),.t (by simpa using hz)] rfl rfl (by simp [Ua])
  ·have e:r=Se a b:=by rw [hr]; unfold Pm; rw [if_neg (λh=>hodd (by rw [hk]; exact h.1))]
   rw [e] at hz;exact w tt Tryz.func269 rfl [.c [] cp,.f (by simp),.r 22 (eI em),.f (by simp; omega),.f rfl,.t (by simpa using hz)] rfl rfl (by simp [Ua])
 ·rw [key,if_neg hz];have cd:=Qw0 (p:=r) (g:=H7 r) (by omega) (W9 h6 (by omega)) (O9 (W9 h6 (by omega))) (Em h4 hz) Cx;by_cases hodd:k % 2=1
  ·by_cases hneg:Un b<0
   ·have e:r=S5 (Se a b):=by rw [hr]; unfold Pm; rw [if_pos ⟨by rw [<-hk]; exact hodd,hneg⟩]
    rw [e] at hz cc cd ⊢;exact w tt Tryz.func269 rfl [.c [] cp,.f (by simp),.r 22 (eI em),.t (by simp; omega),.c [] cl,.t (by simpa [Un] using hneg),.c [] cn,.f (by simpa using hz),.c [] cc,.c [] cd] rfl rfl (by simp [Ua])
   ·have e:r=Se a b:=by rw [hr]; unfold Pm; rw [if_neg (λh=>hneg h.2)]
    rw [e] at hz cc cd ⊢;exact w tt Tryz.func269 rfl [.c [] cp,.f (by simp),.r 22 (eI em),.t (by simp; omega),.c [] cl,.f (by simpa [Un] using hneg),.f (by simpa using hz),.c [] cc,.c [] cd] rfl rfl (by simp [Ua])
  ·have e:r=Se a b:=by rw [hr]; unfold Pm; rw [if_neg (λh=>hodd (by rw [hk]; exact h.1))]
   rw [e] at hz cc cd ⊢;exact w tt Tryz.func269 rfl [.c [] cp,.f (by simp),.r 22 (eI em),.f (by simp; omega),.f rfl,.f (by simpa using hz),.c [] cc,.c [] cd] rfl rfl (by simp [Ua])
theorem Zbr {s:Nat} {x:Int} (h:Ul x<=s) (g:Int):Ul (x / g)<=s:=Qdr (p:=[x]) (λz hz=>by rw [Qp.1 hz]; exact h) g _ (by simp)
def sta (b:List Int) (i:Nat) (x:Int) (a:List Int):List Int:=Tp a (Fv (trim (mono i x)) b)
theorem Zfj {u t i:Nat} {x:Int} {b a:List Int} (ha:Bd u a) (hb:Bd t b) (hx:Ul x<=u) (hi:i<=64):Bd (u+t+8) (sta b i x a) :=
 W9 (Dy ha (Qwl hb hx hi)) (by omega)
theorem Qye {x:Int} {i:Nat} {b a:List Int}:(sta b i x a).length<=max a.length (i+b.length):=by
 have h:=Mv a (Fv (trim (mono i x)) b);have h2:=Qnt (i:=i) (x:=x) (b:=b);unfold sta; omega
theorem Q9z (s n:Nat):Bd s (List.replicate n 0):=λz hz=>by rw [(List.mem_replicate.1 hz).2,Px]; exact Qi _
theorem Zfi {s i:Nat} {l:List Int} {x:Int} (h:Bd s l) (hx:Ul x<=s):Bd s (l.set i x):=λz hz=>by
 rcases J9 hz with hz | rfl
 ·exact h z hz
 ·exact hx
theorem Q23 {a b q:List Int} (ha:Pb a) (hb:Pb b) (h:Og a b=some q):Ub Tryz.prog 340 [pr a,pr b] [pr q,.one (.int .i64 0)]:=by
 unfold Og at h
 split at h
 ·cases h
 rename_i h0;obtain ⟨k,hk⟩:=nmE (a.length+1-b.length);rw [<-hk] at h;obtain ⟨q',hq,hq2⟩:=Qe.1 h;obtain ⟨rfl,hpb⟩:=E9 (Gu _) hq2;have hal:=ha.l;have hbl:=hb.l;refine Gk Tryz.func340 rfl ?_;refine go tt [.c [] (Hk ha.t ha.ln ha.bd),.c [] (Hk hb.t hb.ln hb.bd),.f (by simpa using h0),.r 24 (eI (b:=(k:Int)) (by simp; omega)),.i k,.i k,.r 27 (eI (b:=(k:Int)) (by simp))] rfl (by simp [Ua]; omega) ?_;refine nl 0 rfl rfl rfl ?_;rw [Qgz];refine lp (S:=Nat×List Int×List Int) 1 (λL1 s=>(0,.v (pr s.2.1))::(7,.v (.one (.int .i64 ((s.1:Int)-1))))::L1) (λs=>[.row false 51 2 (s.2.2.map Gb)]) (λs=>s.1) (λs=>s.1<=k/\Uf s.2.1/\s.2.1.length<=a.length/\Bd (16777216+(k-s.1)*16777224) s.2.1/\s.2.2.length=k/\Bd 1107296256 s.2.2/\Qob b s.1 s.2.1 s.2.2=some q') (k,a,List.replicate k 0) ⟨Qj _,ha.t,Qj _,by simpa using ha.b,by simp,Q9z _ _,hq⟩ rfl (λ_ _=>rfl) rfl λ⟨i,A,Q⟩ ⟨j1,j2,j3,j4,j5,j7,j6⟩=>?_
 dsimp only at j1 j2 j3 j4 j5 j6 j7 ⊢;cases i with
 |
  zero =>
  simp only [Qob] at j6
  split at j6
  ·rename_i hA;injection j6 with j6; subst j6;exact en tt [.f (by simp),.f (by simpa using hA),.c [] (Cf (Gy Q) (by omega) (W9 j7 (by omega)))] rfl rfl trivial
  ·cases j6
 |
  succ i =>
  obtain ⟨u,hu⟩:=nmE (16777216+(k-(i+1))*16777224);rw [<-hu] at j4;have hub:u<=1107296256:=by
   have:(k-(i+1))*16777224<=64*16777224:=Qw _ (by omega);omega
  have hku:u+16777216+8=16777216+(k-i)*16777224:=by
   rw [hu,show k-i=(k-(i+1))+1 from by omega,Ji]; omega
  simp only [Qob] at j6;by_cases hlt:A.length<b.length+i
  ·rw [if_pos hlt] at j6;refine go tt [.t (by simp <;> omega),.c [] (Mg A),.c [] (Mg b),.t (by simp; omega),.r 32 (eI (b:=(i:Int)-1) (by omega))] rfl (by simp [Ua]; omega) ?_;exact rd (i,A,Q) (by dsimp only; omega) ⟨by dsimp only; omega,j2,j3,W9 j4 (by dsimp only; omega),j5,j7,j6⟩ rfl
  ·rw [if_neg hlt] at j6
   split at j6
   ·rename_i hdv;obtain ⟨x,hx⟩:=nmE (Un A / Un b);rw [<-hx] at j6;have hxs:Ul x<=u:=by rw [hx]; exact Zbr (Pw j4) _
    have ce:=Dz (Ud (Un A)) (Ud (Un b)) (Qa (Pw j4) (by omega)) (Qa (Pw hb.b) (by omega)) (Bf hb.t h0) hdv;rw [<-hx] at ce;have cm:Ub Tryz.prog 242 [.one (.row ((mono i x).map Gb)),pr b] [pr (Fv (trim (mono i x)) b)]:=Qmr (p0:=mono i x) hb.t (by rw [Ei]; omega) (by omega) (Qha hxs) hb.b (by omega);have l3:=Qnt (i:=i) (x:=x) (b:=b);have l4:=Qye (i:=i) (x:=x) (b:=b) (a:=A);have cb:=Qms (p:=A) (q:=Fv (trim (mono i x)) b) (by omega) (by omega) (W9 j4 (by omega)) (W9 (Qwl hb.b hxs (by omega)) (by omega));refine go tt [.t (by simp <;> omega),.c [] (Mg A),.c [] (Mg b),.f (by simp; omega),.c [] (Ba j2 (by omega) (W9 j4 (by omega))),.c [] (Ba hb.t hb.ln hb.bd),.c [] ce,.f rfl,.r 51 (eI (b:=(i:Int)) (by omega)),.i i,.r 55 (eI (b:=((i+1:Nat):Int)) (by omega)),.i (i+1),.i (i+1),.r 58 (eI (b:=(i:Int)) (by omega))] rfl (by simp [Ua]; omega) ?_;refine nl 2 rfl rfl rfl ?_;rw [Qgz,Qu2];rw [<-Qrh i x] at cm;refine go tt [.i i,.c [] cm,.c [] cb,.r 32 (eI (b:=(i:Int)-1) (by omega))] rfl (by simp [Ua]; omega) ?_;exact rd (i,sta b i x A,Q.set i x) (by dsimp only; omega) ⟨by dsimp only; omega,Ut _ _,by dsimp only; omega,by dsimp only; rw [<-hku]; exact Zfj j4 hb.b hxs (by omega),by simpa using j5,Zfi j7 (Nat.le_trans hxs hub),j6⟩ rfl
   ·cases j6
theorem Qu0 {a b q:List Int} (h:Og a b=some q):Pb q:=by
 unfold Og at h
 split at h
 ·cases h
 ·obtain ⟨q',_,hq2⟩:=Qe.1 h;obtain ⟨rfl,hpb⟩:=E9 (Gu _) hq2;exact hpb
theorem Q34 {a b q:List Int} (ha:Pb a) (hb:Pb b) (h:Og a b=some q):Ub Tryz.prog 327 [pr a,pr b] [pr q] :=
 w tt Tryz.func327 rfl [.c [] (Q23 ha hb h)] rfl rfl trivial
theorem Qo7:∀ {k:Nat} {a b g:List Int},Pb a->Pb b->Qe3 k a b=some g->Pb g
 | 0,_,_,_,_,_,h=>by cases h
 |
  k+1,a,b,g,ha,hb,h=>by
  simp only [Qe3] at h
  split at h
  ·injection h with h; subst h; exact ha
  ·rename_i h0;obtain ⟨r,hr,h⟩:=Qe.1 h;obtain ⟨rfl,hpb⟩:=E9 (Qcw ha hb h0).1 hr;exact Qo7 hb hpb h
theorem Qxa {a b g:List Int} (ha:Pb a) (hb:Pb b) (h:Oj a b=some g):Ub Tryz.prog 215 [pr a,pr b] [pr g]:=by
 unfold Oj at h;obtain ⟨g',h2,rfl⟩:=Vd.1 h;have hg:=Qo7 (Hn ha) (Hn hb) h2;refine Gk Tryz.func215 rfl ?_;refine go tt [.c [] (D3 ha),.c [] (D3 hb)] rfl trivial ?_;refine lp (S:=Nat×List Int×List Int) 0 (λL1 s=>(0,.v (pr s.2.1))::(1,.v (pr s.2.2))::L1) (λ_=>[]) (λs=>s.1) (λs=>Pb s.2.1/\Pb s.2.2/\Qe3 s.1 s.2.1 s.2.2=some g') (66,Uh a,Uh b) ⟨Hn ha,Hn hb,h2⟩ rfl (λ_ _=>rfl) rfl λ⟨k,A,C⟩ ⟨j1,j2,j3⟩=>?_
 dsimp only at j1 j2 j3 ⊢;cases k with
 | zero=>cases j3
 |
  succ k =>
  simp only [Qe3] at j3
  split at j3
  ·rename_i h0;injection j3 with j3; subst j3;exact en tt [.f (by simpa using h0),.c [] (D3 j1)] rfl rfl trivial
  ·rename_i h0;obtain ⟨r,hr,j3⟩:=Qe.1 j3;obtain ⟨rfl,hpb⟩:=E9 (Qcw j1 j2 h0).1 hr;refine go tt [.t (by simp; omega),.c [] (Q29 j1 j2 h0)] rfl trivial ?_;exact rd (k,C,Fy A C) (by dsimp only; omega) ⟨j2,hpb,j3⟩ rfl
theorem Qes {a b g:List Int} (ha:Pb a) (hb:Pb b) (h:Oj a b=some g):Pb g:=by
 unfold Oj at h;obtain ⟨g',h2,rfl⟩:=Vd.1 h;exact Hn (Qo7 (Hn ha) (Hn hb) h2)
theorem Q24 {a b g:List Int} (ha:Pb a) (hb:Pb b) (h:Qod a b=some g):Ub Tryz.prog 160 [.one (.row (Tg [a,b]))] [pr g]:=by
 unfold Qod at h;obtain ⟨g1,h1,h2⟩:=Qe.1 h;have hg1:=Qes Qeq ha h1;refine Gk Tryz.func160 rfl ?_;refine go tt [.z 3] rfl trivial ?_;refine lp (S:=Nat) 0 (λL1 i=>(8,.v (.one (.int .i64 (i:Int))))::(3,.v (pr (if i=0 then [] else if i=1 then g1 else g)))::L1) (λ_=>[]) (λi=>2-i) (λi=>i<=2) 0 (Qi _) rfl (λ_ _=>rfl) rfl λi hi=>?_
 rcases (show i=0\/i=1\/i=2 by omega) with rfl | rfl | rfl
 ·refine go tt [.t rfl,.x (Hb (i:=0) (p:=a) rfl),.c [] (Qxa Qeq ha h1)] rfl (by simp [Ua]) ?_;exact rd 1 (by omega) (by omega) rfl
 ·refine go tt [.t rfl,.x (Hb (i:=1) (p:=b) rfl),.c [] (Qxa hg1 hb h2)] rfl (by simp [Ua]) ?_;exact rd 2 (by omega) (by omega) rfl
 ·exact en tt [.f rfl] rfl rfl trivial
theorem Q6w {a b g:List Int} (ha:Pb a) (hb:Pb b) (h:Qod a b=some g):Pb g:=by
 unfold Qod at h;obtain ⟨g1,h1,h2⟩:=Qe.1 h;exact Qes (Qes Qeq ha h1) hb h2
theorem Qi5 {p d:List Int} (h:chk (U3 p)=some d):d=U3 p/\Pb (U3 p):=E9 (Ut _ _) h
theorem Qhj {a g:List Int} (ha:Pb a) (h:Sl a=some g):Ub Tryz.prog 298 [pr a] [pr g]:=by
 have hp:=Hn ha;unfold Sl at h
 split at h
 ·rename_i h0;injection h with h; subst h;exact w tt Tryz.func298 rfl [.c [] (D3 ha),.c [] (Mg _),.t (by simp; omega)] rfl rfl trivial
 ·rename_i h0;obtain ⟨d,h1,h⟩:=Qe.1 h;obtain ⟨rfl,hd⟩:=Qi5 h1;obtain ⟨g1,h1,h⟩:=Qe.1 h;exact w tt Tryz.func298 rfl [.c [] (D3 ha),.c [] (Mg _),.f (by simp; omega),.c [] (Ea hp.ln hp.bd),.c [] (Qxa hp hd h1),.c [] (Q34 hp (Qes hp hd h1) h)] rfl rfl trivial
theorem Qer {a g:List Int} (ha:Pb a) (h:Sl a=some g):Pb g:=by
 unfold Sl at h
 split at h
 ·injection h with h; subst h; exact Hn ha
 ·obtain ⟨d,h1,h⟩:=Qe.1 h;obtain ⟨g1,h1,h⟩:=Qe.1 h;exact Qu0 h
theorem Q6x {p:List Int} (h:Pb p):Pb (S5 p):=⟨Ut _ _,Qa (Di p) h.l,Qbx h.b⟩
theorem Qt0:∀ {k:Nat} {a b:List Int} {l:List (List Int)},Pb a->Pb b->chF k a b=some l->l.length≤k/\∀ p∈l,Pb p
 | 0,_,_,_,_,_,h=>by cases h
 |
  k+1,a,b,l,ha,hb,h=>by
  simp only [chF] at h
  split at h
  ·injection h with h; subst h; exact ⟨by simp,λp hp=>by cases hp⟩
  ·rename_i h0;obtain ⟨r,hr,h⟩:=Qe.1 h;obtain ⟨rfl,hpb⟩:=E9 (Qcw ha hb h0).1 hr;obtain ⟨l',h1,h⟩:=Qe.1 h;injection h with h; subst h;obtain ⟨i1,i2⟩:=Qt0 hb (Q6x hpb) h1;refine ⟨by simp; exact i1,λp hp=>?_⟩;rcases Qx.1 hp with rfl | hp
   ·exact hb
   ·exact i2 p hp
theorem chain_ok {p:List Int} {l:List (List Int)} (hp:Pb p) (h:chain p=some l):l.length≤67/\∀ q∈l,Pb q:=by
 unfold chain at h;obtain ⟨a,h1,h⟩:=Qe.1 h;have ha:=Qer hp h1
 split at h
 ·cases h
 ·obtain ⟨d,h2,h⟩:=Qe.1 h;obtain ⟨rfl,hd⟩:=Qi5 h2;obtain ⟨l',h3,h⟩:=Qe.1 h;injection h with h; subst h;obtain ⟨i1,i2⟩:=Qt0 ha (Hn hd) h3;refine ⟨by simp; omega,λp hp=>?_⟩;rcases Qx.1 hp with rfl | hp
  ·exact ha
  ·exact i2 p hp
theorem Qi8 (l:List (List Int)) (p:List Int):Tg l++[[pl p]]=Tg (l++[p]):=by simp [Tg]
theorem Cz (l:List (List Int)):(Tg l).length=l.length:=by simp [Tg]
theorem Q3b {p:List Int} {l:List (List Int)} (hp:Pb p) (h:chain p=some l):Ub Tryz.prog 275 [pr p] [.one (.sh [.row (Tg l)]),.one (.int .i64 0)]:=by
 unfold chain at h;obtain ⟨a,h1,h⟩:=Qe.1 h;have ha:=Qer hp h1
 split at h
 ·cases h
 rename_i h0;obtain ⟨d,h2,h⟩:=Qe.1 h;obtain ⟨rfl,hd⟩:=Qi5 h2;obtain ⟨l',h3,h⟩:=Qe.1 h;injection h with h; subst h;refine Gk Tryz.func275 rfl ?_;refine go tt [.c [] (Qhj hp h1),.f (by simpa using h0),.lo,.c [] (Ea ha.ln ha.bd),.c [] (Q3y hd.t hd.ln' hd.bd)] rfl (by simp [Ua]) ?_;obtain ⟨z,hz⟩:=nmE (if (U3 a).length=0 then 0 else Fo (U3 a));rw [<-hz];refine sb [(4,.v (pr a)),(7,.v (pr (Uh (U3 a)))),(5,.v (.one (.ow 1 0)))] [.row false 48 1 [[pl a]],.blk 356 [.orow 0 1 none],.blk 51 (Gb z)] rfl rfl ?_;have hll:=(Qt0 ha (Hn hd) h3).1;refine lp (S:=Nat×List (List Int)×List Int×List Int) 3 (λL1 s=>(4,.v (pr s.2.2.1))::(7,.v (pr s.2.2.2))::L1) (λs=>[.row false 48 1 (Tg s.2.1),.blk 356 [.orow 0 1 none],.blk 51 (Gb z)]) (λs=>s.1) (λs=>Pb s.2.2.1/\Pb s.2.2.2/\∃ m,chF s.1 s.2.2.1 s.2.2.2=some m/\s.2.1++m=a::l') (66,[a],a,Uh (U3 a)) ⟨ha,Hn hd,l',h3,rfl⟩ rfl (λ_ _=>rfl) rfl λ⟨k,out,A,C⟩ ⟨j1,j2,m,j3,j4⟩=>?_
 dsimp only at j1 j2 j3 j4 ⊢;have hol:out.length<=67:=by have:=congrArg List.length j4; simp at this; omega
 cases k with
 | zero=>cases j3
 |
  succ k =>
  simp only [chF] at j3
  split at j3
  ·rename_i h0;injection j3 with j3; subst j3;rw [Xj] at j4;rw [<-j4];exact en tt [.f (by simpa using h0)] rfl rfl trivial
  ·rename_i h0;obtain ⟨r,hr,j3⟩:=Qe.1 j3;obtain ⟨rfl,hpb⟩:=E9 (Qcw j1 j2 h0).1 hr;obtain ⟨m',j6,j5⟩:=Qe.1 j3;injection j5 with j5; subst j5;refine go tt [.t (by simp; omega),.s (sz:=1) (λc hc=>by rw [Qp.1 hc]; rfl),.c [] (Q29 j1 j2 h0),.c [] (Q25 hpb.ln hpb.bd)] rfl (by simp [Ua,Cz]; omega) ?_;exact rd (k,out++[C],C,S5 (Fy A C)) (by dsimp only; omega) ⟨j2,Q6x hpb,m',j6,by rw [<-j4]; simp⟩ (by rw [Qi8]; rfl)
structure Tb (t:Tm):Prop where
 p:Pb t.p
 lo:Qb t.lo
 hi:Qb t.hi
theorem Qxi (x y:Int):-1<=Mm x y/\Mm x y<=1:=by unfold Mm; split <;> (try split) <;> omega
theorem Aa (a b:Rat):-1<=U8 a b/\U8 a b<=1:=Qxi _ _
theorem M5 (p:List Int) (q:Rat):-1<=U5 p q/\U5 p q<=1:=Qxi _ _
theorem Quq (p:List Int) (q:Rat):-1<=low p q/\low p q<=1:=by unfold low; split <;> exact M5 _ _
theorem Qb.s31 {q:Rat} (h:Qb q):Qs 2147483647 q:=h.mono (by decide)
theorem Qb.s32 {q:Rat} (h:Qb q):Qs 4294967295 q:=h.mono (by decide)
theorem Qf3 {p:List Int} {q:Rat} (hp:Pb p) (hq:Qb q):Ub Tryz.prog 211 [pr p,.agg (rl q)] [.one (.int .i64 (U5 p q))]:=by
 have hm:p.length*(16777216+1)<=64*16777217:=Qw _ hp.l;exact Qwt hp.t hp.ln hp.b hq (by omega)
theorem Ziv {p:List Int} {q:Rat} (hp:Pb p) (hq:Qb q):Ub Tryz.prog 211 [pr (U3 p),.agg (rl q)] [.one (.int .i64 (U5 (U3 p) q))]:=by
 have hl:=Qa (Te p) (show p.length-1<=64 by have:=hp.l; omega);have hm:(U3 p).length*(16777216+1)<=64*16777217:=Qw _ hl;exact Qwt (Ut _ _) (Zx hl (by omega)) (Qgf (t:=6) hp.b hp.l) hq (by omega)
theorem Bn {t:Tm} (ht:Tb t):Ub Tryz.prog 157 [.agg (ta t)] [.one (.bool t.point)] :=
 w tt Tryz.func157 rfl [.c [] (C9 ht.lo.s31 ht.hi.s31)] rfl rfl trivial
theorem Qgi {t:Tm} (ht:Tb t):Ub Tryz.prog 156 [.agg (ta t)] [.agg (ta t)] :=
 w tt Tryz.func156 rfl [.c [] (Hk ht.p.t ht.p.ln ht.p.bd),.c [] (E8 ht.lo.s32),.c [] (E8 ht.hi.s32)] rfl rfl trivial
theorem Q4c {t:Tm} (ht:Tb t):Ub Tryz.prog 151 [.agg (ta t)] [.agg (ta t)]:=w tt Tryz.func151 rfl [.c [] (Qgi ht)] rfl rfl trivial
theorem Q3t {p:List Int} {q:Rat} (hp:Pb p) (hq:Qb q):Ub Tryz.prog 212 [pr p,.agg (rl q)] [.one (.int .i64 (low p q))]:=by
 unfold low;by_cases h:U5 p q=0
 ·rw [if_neg (by simpa using h)];exact w tt Tryz.func212 rfl [.c [] (Qf3 hp hq),.f (by simpa using h),.c [] (Ea hp.ln hp.bd),.c [] (Ziv hp hq)] rfl rfl trivial
 ·rw [if_pos h];exact w tt Tryz.func212 rfl [.c [] (Qf3 hp hq),.t (by simpa using h)] rfl rfl trivial
theorem Q3q {p:List Int} {lo hi:Rat} (hp:Pb p) (hl:Qb lo) (hh:Qb hi):Ub Tryz.prog 162 [pr p,.agg (rl lo),.agg (rl hi)] [.one (.bool (Qcc p lo hi))]:=by
 by_cases h:U5 p hi=0
 ·exact w tt Tryz.func162 rfl [.c [] (Qf3 hp hh),.t (by simpa using h)] rfl (by simp [Qcc,h]) trivial
 ·exact w tt Tryz.func162 rfl [.c [] (Qf3 hp hh),.f (by simpa using h),.c [] (Q3t hp hl)] rfl (by simp [Qcc,h]) trivial
theorem Qhg {t:Tm} {q:Rat} (ht:Tb t) (hq:Qb q):Ub Tryz.prog 158 [.agg (ta t),.agg (rl q)] [.one (.int .i64 (Up t q))]:=by
 have cp:=Bn ht;unfold Up;by_cases h1:t.point=true
 ·rw [if_pos h1];exact w tt Tryz.func158 rfl [.c [] cp,.t h1,.c [] (C9 ht.lo.s31 hq.s31)] rfl rfl trivial
 rw [if_neg h1];have h1:t.point=false:=by simpa using h1
 have c1:=C9 hq.s31 ht.lo.s31;have c2:=C9 hq.s31 ht.hi.s31;by_cases h2:U8 q t.lo<=0
 ·rw [if_pos h2];exact w tt Tryz.func158 rfl [.c [] cp,.f h1,.c [] c1,.t (by simpa using h2)] rfl rfl trivial
 rw [if_neg h2];by_cases h3:0<U8 q t.hi
 ·rw [if_pos h3];exact w tt Tryz.func158 rfl [.c [] cp,.f h1,.c [] c1,.f (by simpa using h2),.c [] c2,.t (by simpa using h3)] rfl rfl trivial
 rw [if_neg h3];by_cases h4:U5 t.p q=0
 ·rw [if_pos h4];exact w tt Tryz.func158 rfl [.c [] cp,.f h1,.c [] c1,.f (by simpa using h2),.c [] c2,.f (by simpa using h3),.c [] (Qf3 ht.p hq),.t (by simpa using h4)] rfl rfl trivial
 rw [if_neg h4];by_cases h5:U5 t.p q=low t.p t.lo
 ·rw [if_pos h5];exact w tt Tryz.func158 rfl [.c [] cp,.f h1,.c [] c1,.f (by simpa using h2),.c [] c2,.f (by simpa using h3),.c [] (Qf3 ht.p hq),.f (by simpa using h4),.c [] (Q3t ht.p ht.lo),.t (by simpa using h5)] rfl rfl trivial
 ·rw [if_neg h5];exact w tt Tryz.func158 rfl [.c [] cp,.f h1,.c [] c1,.f (by simpa using h2),.c [] c2,.f (by simpa using h3),.c [] (Qf3 ht.p hq),.f (by simpa using h4),.c [] (Q3t ht.p ht.lo),.f (by simpa using h5)] rfl rfl trivial
theorem Za1 (t:Tm) (q:Rat):-1<=Up t q/\Up t q<=1:=by
 unfold Up;have:=Aa t.lo q
 repeat' split
 all_goals omega
theorem Za9 (q:Rat):0<(q.den:Int):=by have:=q.den_pos; omega
theorem Zd9 {a b:Rat} (ha:Qb a) (hb:Qb b):Ub Tryz.prog 273 [.agg (rl a),.agg (rl b)] [.agg (rl (A9 a b))]:=by
 have h1:Ul (a.num*(b.den:Int))<=33554432:=Qa (Uv _ _) (by have:=ha.1; have:=hb.2; omega);have h2:Ul (b.num*(a.den:Int))<=33554432:=Qa (Uv _ _) (by have:=hb.1; have:=ha.2; omega);have h3:Ul ((a.den:Int)*(b.den:Int))<=33554432:=Qa (Uv _ _) (by have:=ha.2; have:=hb.2; omega);have h4:Ul (2:Int)<=2:=by decide
 have h5:Ul (a.num*(b.den:Int)+b.num*(a.den:Int))<=33554433:=Qa (An _ _) (by omega);have h6:Ul ((a.den:Int)*(b.den:Int)*2)<=33554434:=Qa (Uv _ _) (by omega);have h0:(a.den:Int)*(b.den:Int)*2≠0:=by
  have:=W5 (Za9 a) (Za9 b); omega
 exact w tt Tryz.func273 rfl [.c [] (Qmx ha.s31 hb.s31),.c [] (Qa5 (Ud _) (Ud _) (by omega) (by omega)),.c [] (Qtl (z:=2) (by decide)),.c [] (Lk (Ud _) (Ud _) (by omega) (by omega)),.c [] (Io h0 (by omega) (by omega))] rfl rfl trivial
theorem Qm0 {a b:Rat} (ha:Qb a) (hb:Qb b):Ub Tryz.prog 217 [.agg (rl a),.agg (rl b)] [.agg (rl (Qji a b))]:=by
 have h1:Ul (a.num*(b.den:Int))<=33554432:=Qa (Uv _ _) (by have:=ha.1; have:=hb.2; omega);have h2:Ul (b.num*(a.den:Int))<=33554432:=Qa (Uv _ _) (by have:=hb.1; have:=ha.2; omega);have h3:Ul ((a.den:Int)*(b.den:Int))<=33554432:=Qa (Uv _ _) (by have:=ha.2; have:=hb.2; omega);have h5:Ul (a.num*(b.den:Int)-b.num*(a.den:Int))<=33554433:=Qa (Qgq _ _) (by omega);have h0:(a.den:Int)*(b.den:Int)≠0:=by
  have:=W5 (Za9 a) (Za9 b); omega
 exact w tt Tryz.func217 rfl [.c [] (Qmx ha.s31 hb.s31),.c [] (Q3l (Ud _) (Ud _) (by omega) (by omega)),.c [] (Io h0 (by omega) (by omega))] rfl rfl trivial
theorem Qht {q r:Rat} (h:chq q=some r):r=q/\Qb q:=by
 unfold chq at h
 split at h
 ·rename_i hc; injection h with h; exact ⟨h.symm,hc⟩
 ·cases h
theorem Qts {t u:Tm} (ht:Tb t) (h:Qnl t=some u):Ub Tryz.prog 218 [.agg (ta t)] [.agg (ta u)]:=by
 have cp:=Bn ht;unfold Qnl at h
 split at h
 ·rename_i h1;injection h with h; subst h;exact w tt Tryz.func218 rfl [.c [] cp,.t h1] rfl rfl trivial
 ·rename_i h1;have h1:t.point=false:=by simpa using h1
  obtain ⟨m,hm0,h⟩:=Qe.1 h;obtain ⟨rfl,hm⟩:=Qht hm0;injection h with h;subst h;have cm:=Zd9 ht.lo ht.hi;have cc:=Qhg ht hm;by_cases h2:Up t (A9 t.lo t.hi)=0
  ·rw [if_pos h2];exact w tt Tryz.func218 rfl [.c [] cp,.f h1,.c [] cm,.c [] cc,.t (by simpa using h2)] rfl rfl trivial
  rw [if_neg h2];by_cases h3:Up t (A9 t.lo t.hi)=-1
  ·rw [if_pos h3];exact w tt Tryz.func218 rfl [.c [] cp,.f h1,.c [] cm,.c [] cc,.f (by simpa using h2),.t (by simpa using h3)] rfl rfl trivial
  ·rw [if_neg h3];exact w tt Tryz.func218 rfl [.c [] cp,.f h1,.c [] cm,.c [] cc,.f (by simpa using h2),.f (by simpa using h3)] rfl rfl trivial
theorem Qo1 {t u:Tm} (ht:Tb t) (h:Qnl t=some u):Tb u:=by
 unfold Qnl at h
 split at h
 ·injection h with h; subst h; exact ht
 ·obtain ⟨m,hm0,h⟩:=Qe.1 h;obtain ⟨rfl,hm⟩:=Qht hm0;injection h with h;subst h
  repeat' split
  ·exact ⟨ht.p,hm,hm⟩
  ·exact ⟨ht.p,ht.lo,hm⟩
  ·exact ⟨ht.p,hm,ht.hi⟩
theorem E5 {z:Int} (h:Ul z<=4294967296):Ub Tryz.prog 270 [.one (mg z)] [.one (.int .i64 (Ul z:Int))]:=by
 have h1:=Qth (l:=Ux z.natAbs) (By _) (by rw [Fh]; exact h);rw [Fh] at h1; exact h1
theorem Qjc {p:List Int} {i:Nat} {z:Int} (h:p[i]? = some z):Fq (p.take (i+1))=max (Fq (p.take i)) (Ul z):=by
 unfold Fq; rw [List.take_succ,h,Option.toList_some,List.foldl_append]; rfl
theorem S7 {p:List Int} {s:Nat} (h:Bd s p):∀ i,Fq (p.take i)<=s
 | 0=>by simp [Fq]
 |
  i+1=>by
  cases hz:p[i]? with
  |
   none =>
   rw [Qm (by have:=List.getElem?_eq_none_iff.1 hz; omega),<-Qm (l:=p) (i:=i) (by have:=List.getElem?_eq_none_iff.1 hz; omega)];exact S7 h i
  | some z=>rw [Qjc hz]; have:=S7 h i; have:=Q2l h hz; omega
theorem Qm3 {p:List Int} (hp:Pb p):Ub Tryz.prog 271 [pr p] [.one (.int .i64 (Fq p:Int))]:=by
 have hl:=hp.l;refine Gk Tryz.func271 rfl ?_;refine go tt [] rfl trivial ?_;refine lp (S:=Nat) 0 (λL1 i=>(8,.v (.one (.int .i64 (i:Int))))::(3,.v (.one (.int .i64 (Fq (p.take i):Int))))::L1) (λ_=>[]) (λi=>p.length-i) (λi=>i<=p.length) 0 (Qi _) rfl (λ_ _=>rfl) rfl λi hi=>?_
 by_cases hlt:i<p.length
 ·have hg:=Hl hlt;have hz:=Um hp.b i;have hs:=Qjc hg;refine go tt [.t (by simp; omega),.x (Sb hg),.c [] (E5 (by omega)),.r 16 (eI (b:=(Fq (p.take (i+1)):Int)) (by rw [hs]; omega))] rfl (by simp [Ua]; omega) ?_;exact rd (i+1) (by omega) hlt rfl
 ·obtain rfl:i=p.length:=by omega
  rw [Za];exact en tt [.f (by simp)] rfl rfl trivial
theorem Zax {a:Tm} {b:Tm} (ha:Tb a) (hb:Tb b):Ub Tryz.prog 216 [.agg (ta a),.agg (ta b)] [.one (.int .i64 (Sf a b:Nat))]:=by
 have l1:=ha.p.l;have l2:=hb.p.l;have b1:=ha.lo.1;have b2:=ha.hi.1;have b3:=hb.lo.1;have b4:=hb.hi.1;have s1:Fq a.p<=16777216:=by have:=S7 ha.p.b a.p.length; rwa [Za] at this
 have s2:Fq b.p<=16777216:=by have:=S7 hb.p.b b.p.length; rwa [Za] at this
 obtain ⟨N,hN⟩:=nmE (4*(a.p.length+b.p.length));obtain ⟨S,hS⟩:=nmE (Fq a.p+Fq b.p+(a.p.length+b.p.length)+8);have hNS:N*S<=512*33554568:=Zt (by omega) (by omega);have h0:(N:Int)*(S:Int)=((N*S:Nat):Int):=(Y4 _ _).symm;have hst:Sf a b=64+2*(Ul a.lo.num+Ul a.hi.num+Ul b.lo.num+Ul b.hi.num)+N*S:=by rw [hN,hS]; rfl
 rw [hst];exact w tt Tryz.func216 rfl [.c [] (E5 (z:=a.lo.num) (by omega)),.c [] (E5 (z:=a.hi.num) (by omega)),.c [] (E5 (z:=b.lo.num) (by omega)),.c [] (E5 (z:=b.hi.num) (by omega)),.r 41 (eI (b:=(N:Int)) (by rw [hN]; simp)),.c [] (Qm3 ha.p),.c [] (Qm3 hb.p),.r 51 (eI (b:=(S:Int)) (by rw [hS]; simp)),.r 52 (eI (b:=((N*S:Nat):Int)) h0)] rfl (by simp) (by rw [h0]; simp [Ua]; omega)
def Qv1 (p:List Int) (a:Tm):Nat:=64+2*(Ul a.lo.num+Ul a.hi.num)+4*(a.p.length+p.length)*(Fq a.p+Fq p+(a.p.length+p.length)+8)
theorem Qwo:Ub Tryz.prog 270 [lr []] [.one (.int .i64 0)]:=Qth (l:=[]) (by simp [Sm]) (by decide)
theorem Q4b {a:Tm} {p:List Int} (ha:Tb a) (hp:Pb p):Ub Tryz.prog 216 [.agg (ta a),.agg ([pl p,.bool false,.row [],.bool false,.row [],.bool false,.row [],.bool false,.row []])] [.one (.int .i64 (Qv1 p a:Nat))]:=by
 have l1:=ha.p.l;have l2:=hp.l;have b1:=ha.lo.1;have b2:=ha.hi.1;have s1:Fq a.p<=16777216:=by have:=S7 ha.p.b a.p.length; rwa [Za] at this
 have s2:Fq p<=16777216:=by have:=S7 hp.b p.length; rwa [Za] at this
 obtain ⟨N,hN⟩:=nmE (4*(a.p.length+p.length));obtain ⟨S,hS⟩:=nmE (Fq a.p+Fq p+(a.p.length+p.length)+8);have hNS:N*S<=512*33554568:=Zt (by omega) (by omega);have h0:(N:Int)*(S:Int)=((N*S:Nat):Int):=(Y4 _ _).symm;have hst:Qv1 p a=64+2*(Ul a.lo.num+Ul a.hi.num)+N*S:=by rw [hN,hS]; rfl
 rw [hst];exact w tt Tryz.func216 rfl [.c [] (E5 (z:=a.lo.num) (by omega)),.c [] (E5 (z:=a.hi.num) (by omega)),.c [] Qwo,.c [] Qwo,.r 41 (eI (b:=(N:Int)) (by rw [hN]; simp)),.c [] (Qm3 ha.p),.c [] (Qm3 hp),.r 51 (eI (b:=(S:Int)) (by rw [hS]; simp)),.r 52 (eI (b:=((N*S:Nat):Int)) h0)] rfl (by simp) (by rw [h0]; simp [Ua]; omega)
def C6 (sg:List Int->Int) (l:List (List Int)) (i:Nat):Nat×Int:=(l.take i).foldl (Ht sg) (0,0)
theorem Qjs {sg:List Int->Int} (hs:∀ p,-1<=sg p/\sg p<=1) (l:List (List Int)):∀ i,(C6 sg l i).1<=i/\-1<=(C6 sg l i).2/\(C6 sg l i).2<=1
 | 0=>⟨Qj _,show (-1:Int)<=0 by decide,show (0:Int)<=1 by decide⟩
 |
  i+1=>by
  obtain ⟨h1,h2,h3⟩:=Qjs hs l i;cases h:l[i]? with
  |
   none =>
   have:C6 sg l (i+1)=C6 sg l i:=by unfold C6; rw [List.take_of_length_le (by have:=List.getElem?_eq_none_iff.1 h; omega),List.take_of_length_le (List.getElem?_eq_none_iff.1 h)]
   rw [this]; omega
  |
   some p =>
   have:C6 sg l (i+1)=Ht sg (C6 sg l i) p:=P6 _ _ _ h;rw [this];have:=hs p;unfold Ht
   split
   ·omega
   ·dsimp only; split <;> omega
theorem Zay {l:List (List Int)} {fid:Nat} {l1:List LV} {sg:List Int->Int} (hl:l.length≤1000) (hs:∀ p,-1≤sg p/\sg p≤1) (h:∀ p∈l,Ub Tryz.prog fid [pr p,.one (.sh l1)] [.one (.int .i64 (sg p))]):Ub Tryz.prog 334 [.one (.sh [.row (Tg l)]),.one (.fn fid [] [.sh l1])] [.one (.int .i64 (P3 sg l:Nat))]:=by
 have hpl:=Cz l;refine Gk Tryz.func334 rfl ?_;refine go tt [] rfl trivial ?_;refine lp (S:=Nat) 0 (λL1 i=>(15,.v (.one (.int .i64 (i:Int))))::(5,.v (.one (.int .i64 ((C6 sg l i).1:Int))))::(6,.v (.one (.int .i64 (C6 sg l i).2)))::L1) (λ_=>[]) (λi=>l.length-i) (λi=>i<=l.length) 0 (Qi _) rfl (λ_ _=>rfl) rfl λi hi=>?_
 by_cases hlt:i<l.length
 ·obtain ⟨p,hp⟩:=gxE (l:=l) (i:=i) hlt;have hst:C6 sg l (i+1)=Ht sg (C6 sg l i) p:=P6 _ _ _ hp;obtain ⟨b1,b2,b3⟩:=Qjs hs l i;have b4:=hs p;by_cases h0:sg p=0
  ·refine go tt [.t (by simp [hpl]; omega),.x (Hb hp),.c [] (h p (Qc hp)),.t (by simpa using h0)] rfl (by simp [Ua]; omega) ?_;exact rd (i+1) (by omega) hlt (by rw [hst,show Ht sg (C6 sg l i) p=C6 sg l i from by unfold Ht; rw [if_pos h0]]; rfl)
  ·by_cases h1:(C6 sg l i).2=-(sg p)
   ·refine go tt [.t (by simp [hpl]; omega),.x (Hb hp),.c [] (h p (Qc hp)),.f (by simpa using h0),.t (by simpa using h1)] rfl (by simp [Ua]; omega) ?_;exact rd (i+1) (by omega) hlt (by rw [hst,show Ht sg (C6 sg l i) p=((C6 sg l i).1+1,sg p) from by unfold Ht; rw [if_neg h0,if_pos h1]]; rfl)
   ·refine go tt [.t (by simp [hpl]; omega),.x (Hb hp),.c [] (h p (Qc hp)),.f (by simpa using h0),.f (by simpa using h1)] rfl (by simp [Ua]; omega) ?_;exact rd (i+1) (by omega) hlt (by rw [hst,show Ht sg (C6 sg l i) p=((C6 sg l i).1,sg p) from by unfold Ht; rw [if_neg h0,if_neg h1]]; rfl)
 ·obtain rfl:i=l.length:=by omega
  refine en tt [.f (by simp [hpl])] rfl ?_ trivial;unfold C6 P3; rw [List.take_length]
theorem Q3j {p:List Int} {q:Rat} (hp:Pb p) (hq:Qb q):Ub Tryz.prog 335 [pr p,.one (.sh (rl q))] [.one (.int .i64 (U5 p q))]:=w tt Tryz.func335 rfl [.c [] (Qf3 hp hq)] rfl rfl trivial
theorem Qwy {l:List (List Int)} {q:Rat} (hl:l.length≤1000) (hp:∀ p∈l,Pb p) (hq:Qb q):Ub Tryz.prog 311 [.one (.sh [.row (Tg l)]),.agg (rl q)] [.one (.int .i64 (So l q:Nat))] :=
 w tt Tryz.func311 rfl [.c [] (Zay (fid:=335) (l1:=rl q) (sg:=λp=>U5 p q) hl (λp=>M5 p q) λp h=>Q3j (hp p h) hq)] rfl rfl trivial
theorem P4 {sg:List Int->Int} (hs:∀ p,-1<=sg p/\sg p<=1) (l:List (List Int)):P3 sg l<=l.length:=by
 have:=(Qjs hs l l.length).1;unfold C6 at this; rwa [List.take_length] at this
theorem Qkg {l:List (List Int)} {lo hi:Rat} (hl:l.length≤1000) (hp:∀ p∈l,Pb p) (ql:Qb lo) (qh:Qb hi):Ub Tryz.prog 276 [.one (.sh [.row (Tg l)]),.agg (rl lo),.agg (rl hi)] [.one (.int .i64 (Gx l lo hi))]:=by
 have b1:So l lo<=l.length:=P4 (λp=>M5 p lo) l;have b2:So l hi<=l.length:=P4 (λp=>M5 p hi) l;have c1:=C9 qh.s31 ql.s31;unfold Gx;by_cases h:U8 hi lo<0
 ·rw [if_pos h];exact w tt Tryz.func276 rfl [.c [] c1,.t (by simpa using h)] rfl rfl trivial
 ·rw [if_neg h];exact w tt Tryz.func276 rfl [.c [] c1,.f (by simpa using h),.c [] (Qwy hl hp ql),.c [] (Qwy hl hp qh)] rfl rfl (by simp [Ua]; omega)
def zTm:List LV:=[.nils,.bool false,.nils,.bool false,.nils,.bool false,.nils,.bool false,.nils]
theorem Q1r {a b:Tm} (ha:Tb a) (hb:Tb b):Sf a b<=17179938816+200000000:=by
 have l1:=ha.p.l;have l2:=hb.p.l;have b1:=ha.lo.1;have b2:=ha.hi.1;have b3:=hb.lo.1;have b4:=hb.hi.1;have s1:Fq a.p<=16777216:=by have:=S7 ha.p.b a.p.length; rwa [Za] at this
 have s2:Fq b.p<=16777216:=by have:=S7 hb.p.b b.p.length; rwa [Za] at this
 have:4*(a.p.length+b.p.length)*(Fq a.p+Fq b.p+(a.p.length+b.p.length)+8)<=512*33554568:=Zt (by omega) (by omega);unfold Sf; omega
theorem Zcx {a b:Rat} (ha:Qb a) (hb:Qb b):Qs 2147483647 (Qji a b):=by
 have h1:Ul (a.num*(b.den:Int))<=33554432:=Qa (Uv _ _) (by have:=ha.1; have:=hb.2; omega);have h2:Ul (b.num*(a.den:Int))<=33554432:=Qa (Uv _ _) (by have:=hb.1; have:=ha.2; omega);have h3:Ul ((a.den:Int)*(b.den:Int))<=33554432:=Qa (Uv _ _) (by have:=ha.2; have:=hb.2; omega);have h5:Ul (a.num*(b.den:Int)-b.num*(a.den:Int))<=33554433:=Qa (Qgq _ _) (by omega);exact (Qs.divInt (s:=33554433) h5 (by omega) (by omega)).mono (by omega)
theorem Qmv {a b:Tm} {r:Tm×Tm×Int} (ha:Tb a) (hb:Tb b) (h:apF (Sf a b) a b=some r):Ub Tryz.prog 163 [.agg (ta a),.agg (ta b)] [.agg (ta r.1),.agg (ta r.2.1),.one (.int .i64 r.2.2)]:=by
 have hsb:=Q1r ha hb;refine Gk Tryz.func163 rfl ?_;refine go tt [.c [] (Zax ha hb)] rfl trivial ?_;obtain ⟨n,hn⟩:=nmE (Sf a b);rw [<-hn] at h hsb ⊢;refine sb [(10,.v (.one (.int .i64 0))),(9,.v (.one (.int .i64 (n:Int)))),(5,.v (.one (.ow 3 0))),(4,.v (.one (.ow 2 0))),(3,.v (.one (.ow 1 0))),(2,.v (.one (.ow 0 0)))] [.blk 74 (ta a),.blk 74 (ta b),.blk 74 zTm,.blk 74 zTm] rfl rfl ?_;refine lp (S:=Nat×Tm×Tm) 4 (λL1 s=>(10,.v (.one (.int .i64 (s.1:Int))))::L1) (λs=>[.blk 74 (ta s.2.1),.blk 74 (ta s.2.2),.blk 74 zTm,.blk 74 zTm]) (λs=>n-s.1) (λs=>s.1<=n/\Tb s.2.1/\Tb s.2.2/\apF (n-s.1) s.2.1 s.2.2=some r) (0,a,b) ⟨Qi _,ha,hb,h⟩ rfl (λ_ _=>rfl) rfl λ⟨i,u,v⟩ ⟨j1,j2,j3,j4⟩=>?_
 dsimp only at j1 j2 j3 j4 ⊢;by_cases hi:i<n
 ·obtain ⟨k,hk⟩:∃ k,n-i=k+1:=⟨n-i-1,by omega⟩;have hk':n-(i+1)=k:=by omega
  rw [hk] at j4;have c1:=C9 j2.hi.s31 j3.lo.s31;have c2:=C9 j3.hi.s31 j2.lo.s31;have pu:=Bn j2;have pv:=Bn j3;have hlt:decide ((i:Int)<(n:Int))=true:=by simp; omega
  simp only [apF] at j4;refine go tt [.t hlt] rfl trivial ?_;refine ct 3 (S:=Unit) (λ_=>[(10,.v (.one (.int .i64 (i:Int)))),(9,.v (.one (.int .i64 (n:Int)))),(5,.v (.one (.ow 3 0))),(4,.v (.one (.ow 2 0))),(3,.v (.one (.ow 1 0))),(2,.v (.one (.ow 0 0)))]) (λ_=>[.blk 74 (ta u),.blk 74 (ta v),.blk 74 zTm,.blk 74 zTm]) (λ_=>¬Bm u v=true/\¬Bm v u=true) rfl ?_ ?_
  ·have bA:Bm u v=(decide (U8 u.hi v.lo<=0) && !(u.point && v.point && decide (U8 u.hi v.lo=0))):=by
    unfold Bm; cases u.point <;> cases v.point <;> simp
   have bB:Bm v u=(decide (U8 v.hi u.lo<=0) && !(u.point && v.point && decide (U8 v.hi u.lo=0))):=by
    unfold Bm; cases u.point <;> cases v.point <;> simp
   obtain ⟨a0,A'⟩:∃ b,decide (U8 u.hi v.lo<=0)=b:=⟨_,rfl⟩;obtain ⟨b0,B'⟩:∃ b,decide (U8 v.hi u.lo<=0)=b:=⟨_,rfl⟩;obtain ⟨p0,P'⟩:∃ b,u.point=b:=⟨_,rfl⟩;obtain ⟨q0,Q'⟩:∃ b,v.point=b:=⟨_,rfl⟩;obtain ⟨x0,X'⟩:∃ b,decide (U8 u.hi v.lo=0)=b:=⟨_,rfl⟩;obtain ⟨y0,Y'⟩:∃ b,decide (U8 v.hi u.lo=0)=b:=⟨_,rfl⟩;rw [A',P',Q',X'] at bA;rw [B',P',Q',Y'] at bB;have r1:Bm u v=true->(u,v,-1)=r:=λh=>by rw [if_pos h] at j4; injection j4
   have r2:¬Bm u v=true->Bm v u=true->(u,v,1)=r:=λh h'=>by rw [if_neg h,if_pos h'] at j4; injection j4
   clear j4;cases a0
   ·cases b0
    ·exact go tt [.c [] c1,.g 19 false A',.f rfl,.c [] c2,.g 45 false B',.f rfl] rfl trivial (rc () ⟨by rw [bA]; simp,by rw [bB]; simp⟩ rfl)
    ·cases p0
     ·obtain rfl:=r2 (by rw [bA]; simp) (by rw [bB]; rfl);exact en tt [.c [] c1,.g 19 false A',.f rfl,.c [] c2,.g 45 true B',.c [] pu,.g 48 false P',.g 52 false rfl,.t rfl] rfl rfl trivial
     ·cases q0
      ·obtain rfl:=r2 (by rw [bA]; simp) (by rw [bB]; rfl);exact en tt [.c [] c1,.g 19 false A',.f rfl,.c [] c2,.g 45 true B',.c [] pu,.g 48 true P',.c [] pv,.g 52 false Q',.t rfl] rfl rfl trivial
      ·cases y0
       ·obtain rfl:=r2 (by rw [bA]; simp) (by rw [bB]; rfl);exact en tt [.c [] c1,.g 19 false A',.f rfl,.c [] c2,.g 45 true B',.c [] pu,.g 48 true P',.c [] pv,.g 52 true Q',.c [] c2,.t (by simpa using Y')] rfl rfl trivial
       ·exact go tt [.c [] c1,.g 19 false A',.f rfl,.c [] c2,.g 45 true B',.c [] pu,.g 48 true P',.c [] pv,.g 52 true Q',.c [] c2,.f (by simpa using Y')] rfl trivial (rc () ⟨by rw [bA]; simp,by rw [bB]; simp⟩ rfl)
   ·cases p0
    ·obtain rfl:=r1 (by rw [bA]; rfl);exact en tt [.c [] c1,.g 19 true A',.c [] pu,.g 22 false P',.g 26 false rfl,.t rfl] rfl rfl trivial
    ·cases q0
     ·obtain rfl:=r1 (by rw [bA]; rfl);exact en tt [.c [] c1,.g 19 true A',.c [] pu,.g 22 true P',.c [] pv,.g 26 false Q',.t rfl] rfl rfl trivial
     ·cases x0
      ·obtain rfl:=r1 (by rw [bA]; rfl);exact en tt [.c [] c1,.g 19 true A',.c [] pu,.g 22 true P',.c [] pv,.g 26 true Q',.c [] c1,.t (by simpa using X')] rfl rfl trivial
      ·cases b0
       ·exact go tt [.c [] c1,.g 19 true A',.c [] pu,.g 22 true P',.c [] pv,.g 26 true Q',.c [] c1,.f (by simpa using X'),.c [] c2,.g 45 false B',.f rfl] rfl trivial (rc () ⟨by rw [bA]; simp,by rw [bB]; simp⟩ rfl)
       ·cases y0
        ·obtain rfl:=r2 (by rw [bA]; simp) (by rw [bB]; rfl);exact en tt [.c [] c1,.g 19 true A',.c [] pu,.g 22 true P',.c [] pv,.g 26 true Q',.c [] c1,.f (by simpa using X'),.c [] c2,.g 45 true B',.c [] pu,.g 48 true P',.c [] pv,.g 52 true Q',.c [] c2,.t (by simpa using Y')] rfl rfl trivial
        ·exact go tt [.c [] c1,.g 19 true A',.c [] pu,.g 22 true P',.c [] pv,.g 26 true Q',.c [] c1,.f (by simpa using X'),.c [] c2,.g 45 true B',.c [] pu,.g 48 true P',.c [] pv,.g 52 true Q',.c [] c2,.f (by simpa using Y')] rfl trivial (rc () ⟨by rw [bA]; simp,by rw [bB]; simp⟩ rfl)
  ·rintro _ ⟨n1,n2⟩
   rw [if_neg n1,if_neg n2] at j4;have qr:∀ {x y:Rat},Qb x->Qb y->Qs 2147483647 (Qji x y):=λh1 h2=>Zcx h1 h2
   have cc:=C9 (qr j2.hi j2.lo) (qr j3.hi j3.lo);by_cases D:0<=U8 (Qji u.hi u.lo) (Qji v.hi v.lo)
   ·rw [if_pos D] at j4;obtain ⟨x,x1,x2⟩:=Qe.1 j4;refine go tt [.c [] (Qm0 j2.hi j2.lo),.c [] (Qm0 j3.hi j3.lo),.c [] cc,.t (by simpa using D),.c [] (Qts j2 x1)] rfl (by simp [Ua]; omega) ?_;exact rd (i+1,x,v) (by dsimp only; omega) ⟨hi,Qo1 j2 x1,j3,by dsimp only; rw [hk']; exact x2⟩ rfl
   ·rw [if_neg D] at j4;obtain ⟨x,x1,x2⟩:=Qe.1 j4;refine go tt [.c [] (Qm0 j2.hi j2.lo),.c [] (Qm0 j3.hi j3.lo),.c [] cc,.f (by simpa using D),.c [] (Qts j3 x1)] rfl (by simp [Ua]; omega) ?_;exact rd (i+1,u,x) (by dsimp only; omega) ⟨hi,j2,Qo1 j3 x1,by dsimp only; rw [hk']; exact x2⟩ rfl
 ·obtain rfl:i=n:=by omega
  rw [Ye] at j4;simp only [apF] at j4;injection j4 with j4; subst j4;exact en tt [.f (by simp)] rfl rfl trivial
theorem Zau {a b:Rat} (ha:Qb a) (hb:Qb b):Ub Tryz.prog 98 [.agg (rl a),.one (.row [rl b])] [.agg (rl (if 0<U8 b a then b else a))]:=by
 have ca:=Qgh (Ud a.num) (Ud (a.den:Int)) ha.s32.1 ha.s32.2;have cb:=Qgh (Ud b.num) (Ud (b.den:Int)) hb.s32.1 hb.s32.2;rw [Au] at ca cb;have cc:=C9 hb.s31 ha.s31;refine Gk Tryz.func98 rfl ?_;refine go tt [.c [] ca] rfl trivial ?_;refine lp (S:=Nat) 3 (λL1 i=>(12,.v (.one (.int .i64 (i:Int))))::L1) (λi=>[.blk 72 (rl a),.blk 72 [.bool false,.nils,.bool false,.nils],.blk 72 (rl (if i=0 then a else if 0<U8 b a then b else a))]) (λi=>1-i) (λi=>i<=1) 0 (Qi _) rfl (λ_ _=>rfl) rfl λi hi=>?_
 rcases (show i=0\/i=1 by omega) with rfl | rfl
 ·by_cases h:0<U8 b a
  ·refine go tt [.t rfl,.x (i:=0) (xs:=rl b) rfl,.c [] cc,.t (by simpa using h),.c [] cb] rfl (by simp [Ua]) ?_;exact rd 1 (by omega) (by omega) (by rw [if_pos h]; rfl)
  ·refine go tt [.t rfl,.x (i:=0) (xs:=rl b) rfl,.c [] cc,.f (by simpa using h)] rfl (by simp [Ua]) ?_;exact rd 1 (by omega) (by omega) (by rw [if_neg h]; rfl)
 ·exact en tt [.f rfl] rfl rfl trivial
theorem Qhf {a b:Tm} {c:Int} (ha:Tb a) (hb:Tb b) (h:Qf4 a b=some c):Ub Tryz.prog 92 [.agg (ta a),.agg (ta b)] [.one (.int .i64 c)]:=by
 have ca:=Qgi ha;have cb:=Qgi hb;have pa:=Bn ha;have pb:=Bn hb;unfold Qf4 at h;by_cases h1:a.point=true
 ·rw [if_pos h1] at h;injection h with h; subst h;have:=Za1 b a.lo;exact w tt Tryz.func92 rfl [.c [] ca,.c [] cb,.c [] pa,.t h1,.c [] (Qhg hb ha.lo)] rfl rfl (by simp [Ua]; omega)
 rw [if_neg h1] at h;have h1:a.point=false:=by simpa using h1
 by_cases h2:b.point=true
 ·rw [if_pos h2] at h;injection h with h; subst h;exact w tt Tryz.func92 rfl [.c [] ca,.c [] cb,.c [] pa,.f h1,.c [] pb,.t h2,.c [] (Qhg ha hb.lo)] rfl rfl trivial
 rw [if_neg h2] at h;have h2:b.point=false:=by simpa using h2
 obtain ⟨lo,hlo⟩:=nmE (if 0<U8 b.lo a.lo then b.lo else a.lo);obtain ⟨hi,hhi⟩:=nmE (if U8 b.hi a.hi<0 then b.hi else a.hi);have h:(if U8 lo hi<0 then (Qod a.p b.p).bind λg=>if 1<g.length/\Qcc g lo hi=true then some 0 else (apF (Sf a b) a b).bind λr=>some r.2.2 else (apF (Sf a b) a b).bind λr=>some r.2.2)=some c:=by rw [hlo,hhi]; exact h
 have qlo:Qb lo:=by rw [hlo]; split; exact hb.lo; exact ha.lo
 have qhi:Qb hi:=by rw [hhi]; split; exact hb.hi; exact ha.hi
 have cm:=Zau ha.lo hb.lo;rw [<-hlo] at cm;have cc1:=C9 hb.hi.s31 ha.hi.s31;have cc2:=C9 qlo.s31 qhi.s31;refine Gk Tryz.func92 rfl ?_;refine go tt [.c [] ca,.c [] cb,.c [] pa,.f h1,.c [] pb,.f h2,.c [] cm] rfl trivial ?_;refine ct 2 (S:=Unit) (λ_=>[(6,.v (.one (.ow 3 0))),(5,.v (.one (.ow 2 0))),(4,.v (.one (.int .i64 0))),(3,.v (.one (.ow 1 0))),(2,.v (.one (.ow 0 0)))]) (λ_=>[.blk 74 (ta a),.blk 74 (ta b),.blk 72 (rl lo),.blk 72 (rl hi)]) (λ_=>True) rfl ?_ ?_
 ·by_cases D:U8 b.hi a.hi<0
  ·rw [if_pos D] at hhi; subst hhi;exact go tt [.c [] cc1,.t (by simpa using D)] rfl trivial (rc () trivial rfl)
  ·rw [if_neg D] at hhi; subst hhi;exact go tt [.c [] cc1,.f (by simpa using D)] rfl trivial (rc () trivial rfl)
 ·rintro _ _
  by_cases D:U8 lo hi<0
  ·rw [if_pos D] at h;obtain ⟨g,g1,h⟩:=Qe.1 h;have cg:=Q24 ha.p hb.p g1;have pg:=Q6w ha.p hb.p g1;have ch:=Q3q pg qlo qhi;by_cases G:1<g.length
   ·by_cases R:Qcc g lo hi=true
    ·rw [if_pos ⟨G,R⟩] at h;injection h with h; subst h;exact en tt [.c [] cc2,.t (by simpa using D),.c [] cg,.c [] (Mg g),.g 58 true (by simp; omega),.c [] ch,.t R] rfl rfl trivial
    ·rw [if_neg λh=>R h.2] at h;obtain ⟨r,r1,h⟩:=Qe.1 h;injection h with h; subst h;exact en tt [.c [] cc2,.t (by simpa using D),.c [] cg,.c [] (Mg g),.g 58 true (by simp; omega),.c [] ch,.f (by simpa using R),.c [] (Qmv ha hb r1)] rfl rfl trivial
   ·rw [if_neg λh=>G h.1] at h;obtain ⟨r,r1,h⟩:=Qe.1 h;injection h with h; subst h;exact en tt [.c [] cc2,.t (by simpa using D),.c [] cg,.c [] (Mg g),.g 58 false (by simp; omega),.f rfl,.c [] (Qmv ha hb r1)] rfl rfl trivial
  ·rw [if_neg D] at h;obtain ⟨r,r1,h⟩:=Qe.1 h;injection h with h; subst h;exact en tt [.c [] cc2,.f (by simpa using D),.c [] (Qmv ha hb r1)] rfl rfl trivial
theorem Q90 {p:List Int} {a:Tm} {s:Int} (hp:Pb p) (ha:Tb a) (h:Qjl p a=some s):Ub Tryz.prog 228 [pr p,.agg (ta a)] [.one (.int .i64 s)]:=by
 have ca:=Qgi ha;have pa:=Bn ha;have cn:=Hk hp.t hp.ln hp.bd;unfold Qjl at h;by_cases h0:p.length=0
 ·rw [if_pos h0] at h;injection h with h; subst h;exact w tt Tryz.func228 rfl [.c [] cn,.c [] ca,.t (by simp; exact Qh h0)] rfl rfl trivial
 rw [if_neg h0] at h;have h0:p≠[]:=λe=>h0 (by rw [e]; rfl)
 by_cases h1:a.point=true
 ·rw [if_pos h1] at h;injection h with h; subst h;exact w tt Tryz.func228 rfl [.c [] cn,.c [] ca,.f (by simpa using h0),.c [] pa,.t h1,.c [] (Qf3 hp ha.lo)] rfl rfl trivial
 rw [if_neg h1] at h;have h1:a.point=false:=by simpa using h1
 obtain ⟨g,g1,h⟩:=Qe.1 h;have cg:=Q24 hp ha.p g1;have pg:=Q6w hp ha.p g1;have ch:=Q3q pg ha.lo ha.hi;by_cases G:1<g.length/\Qcc g a.lo a.hi=true
 ·rw [if_pos G] at h;injection h with h; subst h;exact w tt Tryz.func228 rfl [.c [] cn,.c [] ca,.f (by simpa using h0),.c [] pa,.f h1,.c [] cg,.c [] (Mg g),.g 29 true (by simp; omega),.c [] ch,.t G.2] rfl rfl trivial
 rw [if_neg G] at h;obtain ⟨c,c1,h⟩:=Qe.1 h;obtain ⟨u,u1,h⟩:=Qe.1 h;injection h with h; subst h;obtain ⟨cl,call⟩:=chain_ok hp c1;obtain ⟨n,hn⟩:=nmE (64+2*(Ul a.lo.num+Ul a.hi.num)+4*(a.p.length+p.length)*(Fq a.p+Fq p+(a.p.length+p.length)+8));have cst:=Q4b ha hp;rw [show Qv1 p a=n from hn.symm] at cst;rw [<-hn] at u1;have hnb:n<=17179938816+200000000:=by
  have l1:=ha.p.l;have l2:=hp.l;have b1:=ha.lo.1;have b2:=ha.hi.1;have s1:Fq a.p<=16777216:=by have:=S7 ha.p.b a.p.length; rwa [Za] at this
  have s2:Fq p<=16777216:=by have:=S7 hp.b p.length; rwa [Za] at this
  have:4*(a.p.length+p.length)*(Fq a.p+Fq p+(a.p.length+p.length)+8)<=512*33554568:=Zt (by omega) (by omega);omega
 refine Gk Tryz.func228 rfl ?_;refine go tt [.c [] cn,.c [] ca,.f (by simpa using h0),.c [] pa,.f h1,.c [] cg] rfl trivial ?_;refine ct 2 (S:=Unit) (λ_=>[(3,.v (.one (.ow 0 0))),(0,.v (pr p))]) (λ_=>[.blk 74 (ta a)]) (λ_=>True) rfl ?_ ?_
 ·by_cases G1:1<g.length
  ·exact go tt [.c [] (Mg g),.g 29 true (by simp; omega),.c [] ch,.f (by simpa using λh=>G ⟨G1,h⟩)] rfl trivial (rc () trivial rfl)
  ·exact go tt [.c [] (Mg g),.g 29 false (by simp; omega),.f rfl] rfl trivial (rc () trivial rfl)
 rintro _ _
 refine go tt [.c [] (Q3b hp c1),.c [] cst] rfl trivial ?_;refine lp (S:=Nat×Tm) 1 (λL1 s=>(46,.v (.one (.int .i64 (s.1:Int))))::L1) (λs=>[.blk 74 (ta s.2)]) (λs=>n-s.1) (λs=>s.1<=n/\Tb s.2/\sgF c (n-s.1) s.2=some u) (0,a) ⟨Qi _,ha,u1⟩ rfl (λ_ _=>rfl) rfl λ⟨i,x⟩ ⟨j1,j2,j3⟩=>?_
 dsimp only at j1 j2 j3 ⊢;by_cases hi:i<n
 ·obtain ⟨k,hk⟩:∃ k,n-i=k+1:=⟨n-i-1,by omega⟩;have hk':n-(i+1)=k:=by omega
  rw [hk] at j3;simp only [sgF] at j3;have px:=Bn j2;have cb:=Qkg (by omega) call j2.lo j2.hi;have hlt:decide ((i:Int)<(n:Int))=true:=by simp; omega
  by_cases X:x.point=true
  ·rw [if_pos (.inl X)] at j3;injection j3 with j3; subst j3;exact en tt [.t hlt,.c [] px,.g 50 true X,.t rfl,.c [] (Qf3 hp j2.hi)] rfl rfl trivial
  ·have X':x.point=false:=by simpa using X
   by_cases Z:Gx c x.lo x.hi=0
   ·rw [if_pos (.inr Z)] at j3;injection j3 with j3; subst j3;exact en tt [.t hlt,.c [] px,.g 50 false X',.c [] cb,.t (by simpa using Z),.c [] (Qf3 hp j2.hi)] rfl rfl trivial
   ·rw [if_neg (by rintro (h | h); exact X h; exact Z h)] at j3;obtain ⟨v,v1,v2⟩:=Qe.1 j3;refine go tt [.t hlt,.c [] px,.g 50 false X',.c [] cb,.f (by simpa using Z),.c [] (Qts j2 v1)] rfl (by simp [Ua]; omega) ?_;exact rd (i+1,v) (by dsimp only; omega) ⟨hi,Qo1 j2 v1,by dsimp only; rw [hk']; exact v2⟩ rfl
 ·obtain rfl:i=n:=by omega
  rw [Ye] at j3;simp only [sgF] at j3;injection j3 with j3; subst j3;exact en tt [.f (by simp),.c [] (Qf3 hp j2.hi)] rfl rfl trivial
abbrev tas (l:List Tm):LV:=.row (l.map λt=>ta t)
theorem Qg7 {l:List Tm} {i:Nat} {t:Tm} (h:l[i]? = some t):(l.map λt=>ta t)[i]? = some (ta t):=Ga h
def zTr:List LV:=[.row [],.bool false,.row [],.bool false,.row [],.bool false,.row [],.bool false,.row []]
theorem Q2x:Ub Tryz.prog 85 [.one (.row [])] [.agg zTr,.one (.bool false)]:=w tt Tryz.func85 rfl [.t rfl] rfl rfl trivial
theorem L9 {b:Tm} {l:List Tm} {m:Tm} (hb:Tb b) (hl:∀ t∈l,Tb t) (hn:l.length≤1000000) (h:Ao b l=some m):Ub Tryz.prog 85 [.one (tas (b::l))] [.agg (ta m),.one (.bool true)]:=by
 refine Gk Tryz.func85 rfl ?_;refine go tt [.f (by simp; omega),.x (i:=0) (xs:=ta b) rfl,.i 1] rfl (by simp [Ua]; exact ⟨rfl,λ_ _=>rfl⟩) ?_;refine lp (S:=Nat×Tm) 2 (λL1 s=>(17,.v (.one (.int .i64 (s.1:Int))))::L1) (λs=>[.blk 74 zTm,.blk 74 (ta s.2)]) (λs=>l.length-s.1) (λs=>s.1<=l.length/\Tb s.2/\Ao s.2 (l.drop s.1)=some m) (0,b) ⟨Qi _,hb,h⟩ rfl (λ_ _=>rfl) rfl λ⟨i,x⟩ ⟨j1,j2,j3⟩=>?_
 dsimp only at j1 j2 j3 ⊢;by_cases hi:i<l.length
 ·obtain ⟨a,ha⟩:=gxE (l:=l) (i:=i) hi;have hdr:l.drop i=a::l.drop (i+1):=by
   rw [Zn hi]; congr 1;have:=Qd hi; rw [ha] at this; injection this with this; exact this.symm
  rw [hdr] at j3;simp only [Ao] at j3;obtain ⟨c,c1,j3⟩:=Qe.1 j3;have ta':=hl a (Qc ha);by_cases hc:c<0
  ·rw [if_pos hc] at j3;refine go tt [.t (by simp; omega),.x (Qg7 ha),.c [] (Qhf ta' j2 c1),.t (by simpa using hc)] rfl (by simp [Ua]; omega) ?_;exact rd (i+1,a) (by dsimp only; omega) ⟨hi,ta',j3⟩ rfl
  ·rw [if_neg hc] at j3;refine go tt [.t (by simp; omega),.x (Qg7 ha),.c [] (Qhf ta' j2 c1),.f (by simpa using hc)] rfl (by simp [Ua]; omega) ?_;exact rd (i+1,x) (by dsimp only; omega) ⟨hi,j2,j3⟩ rfl
 ·obtain rfl:i=l.length:=by omega
  rw [Vr] at j3;simp only [Ao] at j3;injection j3 with j3; subst j3;exact en tt [.f (by simp),.c [] (Q4c j2)] rfl rfl trivial
end Orr
