/- R4 RefPL CrvL CrowdL PredL CertL Y1 Y2 Q1 C1 C2 D1 E1 AlgL F1 F2 F3 F4 -/
import Derived.Test.YtkkhemmhhedniaaGreatPart04
import Derived.Test.YtkkhemmhhedniaaGreatPart00
set_option linter.all false
namespace Orr
open Go Go.Proofs
set_option maxRecDepth 10000
theorem Zeu {a b:Int} (h:(decide (a<0) == decide (b<0))=true):U4 (decide (a<0)) (a.natAbs+b.natAbs)=a+b:=by
 unfold U4;by_cases h1:a<0 <;> by_cases h2:b<0 <;> simp [h1,h2] at h ⊢ <;> omega
theorem Zex {a b:Int} (h:¬(decide (a<0) == decide (b<0))=true) (hl:b.natAbs<=a.natAbs):U4 (decide (a<0)) (a.natAbs-b.natAbs)=a+b:=by
 unfold U4;by_cases h1:a<0 <;> by_cases h2:b<0 <;> simp [h1,h2] at h ⊢ <;> omega
theorem Q90 {a b:Int} (h:¬(decide (a<0) == decide (b<0))=true) (hl:¬b.natAbs<=a.natAbs):U4 (decide (b<0)) (b.natAbs-a.natAbs)=a+b:=by
 unfold U4;by_cases h1:a<0 <;> by_cases h2:b<0 <;> simp [h1,h2] at h ⊢ <;> omega
theorem Qbg (a:Int):(∃ m:Nat,a=(m:Int))\/∃ m:Nat,a=-(m:Int)/\0<m:=by
 rcases We a 0 with h | h
 ·exact .inr ⟨a.natAbs,by omega,by omega⟩
 ·exact .inl ⟨a.natAbs,by omega⟩
theorem Zew (a b:Int):U4 (!(decide (a<0) == decide (b<0))) (a.natAbs*b.natAbs)=a*b:=by
 rcases Qbg a with ⟨m,rfl⟩ | ⟨m,rfl,hm⟩ <;> rcases Qbg b with ⟨n,rfl⟩ | ⟨n,rfl,hn⟩
 ·simp [U4,show ¬((m:Int)<0) by omega,show ¬((n:Int)<0) by omega]
 ·simp [U4,show ¬((m:Int)<0) by omega,show (-(n:Int)<0) by omega,hn,Ku]
 ·simp [U4,show (-(m:Int)<0) by omega,show ¬((n:Int)<0) by omega,hm,Ke]
 ·simp [U4,show (-(m:Int)<0) by omega,show (-(n:Int)<0) by omega,hm,hn,Un]
theorem Zev {a b:Int} (h:a % b=0):U4 (!(decide (a<0) == decide (b<0))) (a.natAbs / b.natAbs)=a / b:=by
 by_cases hb:b=0
 ·subst hb; simp [U4]
 obtain ⟨c,rfl⟩:=Yn h;rw [Xw _ hb,Jy,Nat.mul_div_cancel_left _ (by omega)];rcases Qbg b with ⟨n,rfl⟩ | ⟨n,rfl,hn⟩ <;> rcases Qbg c with ⟨m,rfl⟩ | ⟨m,rfl,hm⟩
 ·have:¬((n:Int)*(m:Int)<0):=by rw [<-Vm]; omega
  simp [U4,this,show ¬((n:Int)<0) by omega]
 ·have h1:0<n*m:=J9 (by omega) hm;have:((n:Int)*-(m:Int)<0):=by rw [Ku,<-Vm]; omega
  simp only [this,show ¬((n:Int)<0) by omega];simp [U4]
 ·by_cases h0:m=0
  ·subst h0; simp [U4]
  ·have h1:0<n*m:=J9 hn (by omega);have:(-(n:Int)*(m:Int)<0):=by rw [Ke,<-Vm]; omega
   simp only [this,show (-(n:Int)<0) by omega];simp [U4]
 ·have:¬(-(n:Int)*-(m:Int)<0):=by rw [Un,<-Vm]; omega
  simp only [this,show (-(n:Int)<0) by omega];simp [U4]
theorem Q96 (a b:Int):Int.sign (a-b)=C0 a b:=by
 unfold C0;rcases J4 a b with h | h | h
 ·rw [if_pos h,Jb (by omega)]
 ·rw [if_neg (by omega),if_neg (by omega),h,Int.sub_self]; rfl
 ·rw [if_neg (by omega),if_pos h,Jo (by omega)]
theorem Qy8 {x y:Nat}:0<=I7 x y↔y<=x:=by
 unfold I7;constructor
 ·intro h; split at h
  ·omega
  ·omega
 ·intro h; split
  ·omega
  ·split <;> omega
theorem Qi5 {x e:Nat} (h:(Fp x).length=1) (he:(Fp x)[0]? = some e):x=e:=by
 rcases hd:Fp x with _ | ⟨u,l⟩
 ·rw [hd] at h; cases h
 ·rcases l with _ | ⟨w,l⟩
  ·rw [hd] at he; simp at he;have:=Ht x;rw [hd] at this; simp [Rl] at this; omega
  ·rw [hd] at h; simp at h
theorem Qv4 {a b:Int} (hb:0<b):ri (a / ((Int.gcd a b:Nat):Int))++ri (b / ((Int.gcd a b:Nat):Int))=fr (Rat.divInt a b):=by
 obtain ⟨h1,h2⟩:=Qpj (n:=a) hb;rw [Nl,Int.gcd_comm] at h1 h2;rw [h1,h2]
theorem Qv5 (a:Int):ri a++ri 1=fr (Rat.divInt a 1):=by
 have h:=Qv4 (a:=a) (b:=1) (by decide);rw [show ((Int.gcd a 1:Nat):Int)=1 by simp] at h;simpa using h
theorem Qmm {a b:Int} (hb:b≠0) (ha2:U9 a<=90000000) (hb2:U9 b<=90000000):U9 ((Int.gcd a b:Nat):Int)<=90000000/\((Int.gcd a b:Nat):Int)≠0/\a % ((Int.gcd a b:Nat):Int)=0/\b % ((Int.gcd a b:Nat):Int)=0:=by
 have h1:=Qzy (n:=a) hb hb2;have h2:=Qsh (n:=a) hb;have h3:=Qjs a b;have h4:=Qjt a b;rw [Nl,Int.gcd_comm] at h1 h2 h3 h4;exact ⟨h1,by omega,h3,h4⟩
theorem Qnj {a b:Int} (h:b<0):Gx a b=Rat.divInt (-a) (-b):=by
 unfold Gx; rw [if_neg (by omega)];exact (Rat.neg_divInt_neg a b).symm
theorem Qnk {a b:Int} (h:0<b):Gx a b=Rat.divInt a b:=by
 unfold Gx; rw [if_neg (by omega)]
theorem Q1o (a b:Rat):Gx (a.num*(b.den:Int)+b.num*(a.den:Int)) ((a.den:Int)*(b.den:Int))=a+b:=by
 unfold Gx;rw [if_neg (Jr (Bs a) (Bs b)),<-Rat.divInt_add_divInt _ _ (Bs a) (Bs b),Zz,Zz]
theorem Qmy (a b:Rat):Gx (a.num*b.num) ((a.den:Int)*(b.den:Int))=a*b:=by
 unfold Gx;rw [if_neg (Jr (Bs a) (Bs b)),<-K8,Zz,Zz]
theorem Qng {a b:Rat} (h:b≠0):Gx (a.num*(b.den:Int)) ((a.den:Int)*b.num)=a / b:=by
 have hn:b.num≠0:=λe=>h (Rat.num_eq_zero.1 e)
 unfold Gx;rw [if_neg (Jr (Bs a) hn),<-K8,Zz,Jx];congr 1
 conv=>rhs; rw [<-Zz b,Rat.inv_divInt]
theorem Qoc {z:Int} (hz:U9 z<=100000000):Uw Tryz.prog 56 [.agg (Hg z)] [.agg (ri z)]:=by
 have hl:(Fo z.natAbs).length<=1099511627776:=by have h2:32*(Fo z.natAbs).length<=100000000+31:=Rx hz; omega
 have h:=Zbr (l:=Fo z.natAbs) (λu hu=>(Dy _).1 u hu) hl (by rw [Gq]; exact hz);rw [Gq] at h;have hm:=Lx (decide (z<0)) z.natAbs;have e:U4 (decide (z<0)) z.natAbs=z:=by unfold U4; by_cases h:z<0 <;> simp [h] <;> omega
 rw [e] at hm;exact w tt Tryz.func56 rfl [.c [] h,.c [] hm] rfl rfl trivial
theorem Qyr {z:Int}:Uw Tryz.prog 166 [.agg (ri z)] [.one (.int .i64 (Int.sign z))]:=by
 have hn:=Qde (x:=z.natAbs);have hl:=Qca z.natAbs;rcases J4 z 0 with h | h | h
 ·rw [Jb h];exact w tt Tryz.func166 rfl [.f (by simp only [H7]; exact decide_eq_false (by omega)),.t (decide_eq_true h)] rfl rfl trivial
 ·subst h;exact w tt Tryz.func166 rfl [.t (by simp only [H7]; show decide (((Fp 0).length:Int)=0)=true; rw [G0]; rfl)] rfl rfl trivial
 ·rw [Jo h];exact w tt Tryz.func166 rfl [.f (by simp only [H7]; exact decide_eq_false (by omega)),.f (decide_eq_false (by omega))] rfl rfl trivial
theorem Qvd {a b:Int} (ha:U9 a<=200000000) (hb:U9 b<=200000000):Uw Tryz.prog 168 [.agg (ri a),.agg (ri b)] [.agg (ri (a+b))]:=by
 by_cases hs:(decide (a<0) == decide (b<0))=true
 ·have cm:=Lx (decide (a<0)) (a.natAbs+b.natAbs);rw [Zeu hs] at cm;exact w tt Tryz.func168 rfl [.t hs,.c [] (Zg2 ha hb),.c [] cm] rfl rfl trivial
 ·have hs':(decide (a<0) == decide (b<0))=false:=by simpa using hs
  by_cases hl:b.natAbs<=a.natAbs
  ·have cm:=Lx (decide (a<0)) (a.natAbs-b.natAbs);rw [Zex hs hl] at cm;exact w tt Tryz.func168 rfl [.f hs',.c [] (Qu6 ha hb),.t (decide_eq_true (Qy8.2 hl)),.c [] (Qvc ha hb hl),.c [] cm] rfl rfl trivial
  ·have cm:=Lx (decide (b<0)) (b.natAbs-a.natAbs);rw [Q90 hs hl] at cm;exact w tt Tryz.func168 rfl [.f hs',.c [] (Qu6 ha hb),.f (decide_eq_false λh=>hl (Qy8.1 h)),.c [] (Qvc hb ha (by omega)),.c [] cm] rfl rfl trivial
theorem Q5j {a b:Int} (ha:U9 a<=200000000) (hb:U9 b<=200000000):Uw Tryz.prog 170 [.agg (ri a),.agg (ri b)] [.agg (ri (a-b))]:=by
 have ca:=Qvd (a:=a) (b:=-b) ha (by rw [Hl]; exact hb);rw [show a+-b=a-b from by omega] at ca;exact w tt Tryz.func170 rfl [.c [] (A7 (z:=b)),.c [] ca] rfl rfl trivial
theorem Pf {a b:Int} (ha:U9 a<=200000000) (hb:U9 b<=200000000):Uw Tryz.prog 55 [.agg (ri a),.agg (ri b)] [.agg (ri (a*b))]:=by
 have cm:=Lx (!(decide (a<0) == decide (b<0))) (a.natAbs*b.natAbs);rw [Zew] at cm;exact w tt Tryz.func55 rfl [.c [] (Zg6 ha hb),.c [] cm] rfl rfl trivial
theorem Zhg {a b:Int} (ha:U9 a<=200000000) (hb:U9 b<=200000000):Uw Tryz.prog 96 [.agg (ri a),.agg (ri b)] [.one (.int .i64 (C0 a b))]:=by
 have h:=Qyr (z:=a-b);rw [Q96] at h;exact w tt Tryz.func96 rfl [.c [] (Q5j ha hb),.c [] h] rfl rfl trivial
theorem Qe6 {a b:Int} (ha:U9 a<=90000000) (hb:U9 b<=90000000) (h0:b≠0) (hd:a % b=0):Uw Tryz.prog 134 [.agg (ri a),.agg (ri b)] [.agg (ri (a / b))]:=by
 have cm:=Lx (!(decide (a<0) == decide (b<0))) (a.natAbs / b.natAbs);rw [Zev hd] at cm;exact w tt Tryz.func134 rfl [.c [] (Q4s ha hb (by omega)),.c [] cm] rfl rfl trivial
theorem Zix (x:Nat):ri ((x:Nat):Int)=[nd x,.bool false]:=by
 unfold ri sg;rw [Xd,decide_eq_false (by omega)]
theorem Qiv {a b:Int} (ha:U9 a<=90000000) (hb:U9 b<=90000000):Uw Tryz.prog 133 [.agg (ri a),.agg (ri b)] [.agg (ri ((Int.gcd a b:Nat):Int))]:=by
 rw [Zix];refine Hn Tryz.func133 rfl ?_;refine go tt [] rfl trivial ?_;refine lp (S:=Nat×Nat) 3 (λL1 s=>(5,.v (.one (nd s.1)))::(6,.v (.one (nd s.2)))::L1) (λ_=>[.blk 33 (ri a),.blk 33 (ri b),.blk 33 [.nils,.bool false]]) (λs=>s.2) (λs=>Nat.gcd s.1 s.2=Int.gcd a b/\sz s.1<=90000000/\sz s.2<=90000000) (a.natAbs,b.natAbs) ⟨rfl,ha,hb⟩ rfl (λ_ _=>rfl) rfl λs hs=>?_
 obtain ⟨x,y⟩:=s;obtain ⟨hp0,hp1,hp2⟩:=hs;dsimp only at hp0 hp1 hp2 ⊢;have hyn:=Qde (x:=y);have hyl:=Qca y;by_cases h1:y=0
 ·have e:Int.gcd a b=x:=by rw [<-hp0,h1,Nat.gcd_zero_right]
  rw [e];exact en tt [.f (by simp only [H7]; exact decide_eq_false (by omega))] rfl rfl trivial
 ·have hlt:=Z0 x (show 0<y by omega);refine go tt [.t (by simp only [H7]; exact decide_eq_true (by omega)),.c [] (Q4s hp1 hp2 (by omega))] rfl trivial ?_;exact rd (y,x % y) (by dsimp only; omega) ⟨by dsimp only; rw [<-hp0,Nat.gcd_comm x y,Nat.gcd_rec y x,Nat.gcd_comm],hp2,Nat.le_trans (Re (by dsimp only; omega)) hp2⟩ rfl
theorem Qc5 {a b:Int} (ha:U9 a<=90000000) (hb:U9 b<=90000000):Uw Tryz.prog 68 [.agg (ri a),.agg (ri b)] [.agg (fr (Gx a b))]:=by
 rcases J4 b 0 with hs | hs | hs
 ·skip
  by_cases h1:-b=1
  ·have h0:(M3 (Fp (-b).natAbs))[0]? = some [LV.int .i64 1]:=by rw [h1,show (1:Int).natAbs=1 from rfl,L6]; rfl
   have hl1:decide (((M3 (Fp (-b).natAbs)).length:Int)=1)=true:=by rw [h1,show (1:Int).natAbs=1 from rfl,L6]; rfl
   have e:fr (Gx a b)=ri (-a)++ri (-b):=by rw [Qnj hs,h1]; exact (Qv5 _).symm
   rw [e];exact w tt Tryz.func68 rfl [.c [] (Mm (z:=b)),.f (decide_eq_false (by omega)),.t (decide_eq_true hs),.c [] (A7 (z:=a)),.c [] (A7 (z:=b)),.g 19 true hl1,.x h0,.t rfl] rfl rfl trivial
  ·have hgf:=Qmm (a:=-a) (b:=-b) (by omega) (by first | exact ha | (rw [Hl]; exact ha)) (by first | exact hb | (rw [Hl]; exact hb));have cg:=Qiv (a:=-a) (b:=-b) (by first | exact ha | (rw [Hl]; exact ha)) (by first | exact hb | (rw [Hl]; exact hb));have q1:=Qe6 (a:=-a) (b:=((Int.gcd (-a) (-b):Nat):Int)) (by first | exact ha | (rw [Hl]; exact ha)) hgf.1 hgf.2.1 hgf.2.2.1;have q2:=Qe6 (a:=-b) (b:=((Int.gcd (-a) (-b):Nat):Int)) (by first | exact hb | (rw [Hl]; exact hb)) hgf.1 hgf.2.1 hgf.2.2.2;have e:fr (Gx a b)=ri ((-a) / ((Int.gcd (-a) (-b):Nat):Int))++ri ((-b) / ((Int.gcd (-a) (-b):Nat):Int)):=by rw [Qnj hs]; exact (Qv4 (by omega)).symm
   rw [e];have hl:=Qca (-b).natAbs;by_cases hl1:(Fp (-b).natAbs).length=1
   ·obtain ⟨u,hu⟩:=gxE (l:=(Fp (-b).natAbs)) (i:=0) (by omega);have hue:=Qi5 hl1 hu;exact w tt Tryz.func68 rfl [.c [] (Mm (z:=b)),.f (decide_eq_false (by omega)),.t (decide_eq_true hs),.c [] (A7 (z:=a)),.c [] (A7 (z:=b)),.g 19 true (by simp only [H7]; exact decide_eq_true (by omega)),.x (Gi hu),.f (decide_eq_false (by omega)),.c [] cg,.c [] q1,.c [] q2] rfl rfl trivial
   ·exact w tt Tryz.func68 rfl [.c [] (Mm (z:=b)),.f (decide_eq_false (by omega)),.t (decide_eq_true hs),.c [] (A7 (z:=a)),.c [] (A7 (z:=b)),.g 19 false (by simp only [H7]; exact decide_eq_false (by omega)),.f rfl,.c [] cg,.c [] q1,.c [] q2] rfl rfl trivial
 ·subst hs;have h0:(M3 (Fp (1:Int).natAbs))[0]? = some [LV.int .i64 1]:=by rw [show (1:Int).natAbs=1 from rfl,L6]; rfl
  have h1:decide (((M3 (Fp (1:Int).natAbs)).length:Int)=1)=true:=by rw [show (1:Int).natAbs=1 from rfl,L6]; rfl
  have e:fr (Gx a 0)=ri a++ri 1:=(Qv5 a).symm;rw [e];exact w tt Tryz.func68 rfl [.c [] (Mm (z:=0)),.t rfl,.c [] (C5 (n:=1) (by decide)),.f rfl,.g 19 true h1,.x h0,.t rfl] rfl rfl trivial
 ·skip
  by_cases h1:b=1
  ·have h0:(M3 (Fp (b).natAbs))[0]? = some [LV.int .i64 1]:=by rw [h1,show (1:Int).natAbs=1 from rfl,L6]; rfl
   have hl1:decide (((M3 (Fp (b).natAbs)).length:Int)=1)=true:=by rw [h1,show (1:Int).natAbs=1 from rfl,L6]; rfl
   have e:fr (Gx a b)=ri (a)++ri (b):=by rw [Qnk hs,h1]; exact (Qv5 _).symm
   rw [e];exact w tt Tryz.func68 rfl [.c [] (Mm (z:=b)),.f (decide_eq_false (by omega)),.f (decide_eq_false (by omega)),.g 19 true hl1,.x h0,.t rfl] rfl rfl trivial
  ·have hgf:=Qmm (a:=a) (b:=b) (by omega) (by first | exact ha | (rw [Hl]; exact ha)) (by first | exact hb | (rw [Hl]; exact hb));have cg:=Qiv (a:=a) (b:=b) (by first | exact ha | (rw [Hl]; exact ha)) (by first | exact hb | (rw [Hl]; exact hb));have q1:=Qe6 (a:=a) (b:=((Int.gcd (a) (b):Nat):Int)) (by first | exact ha | (rw [Hl]; exact ha)) hgf.1 hgf.2.1 hgf.2.2.1;have q2:=Qe6 (a:=b) (b:=((Int.gcd (a) (b):Nat):Int)) (by first | exact hb | (rw [Hl]; exact hb)) hgf.1 hgf.2.1 hgf.2.2.2;have e:fr (Gx a b)=ri ((a) / ((Int.gcd (a) (b):Nat):Int))++ri ((b) / ((Int.gcd (a) (b):Nat):Int)):=by rw [Qnk hs]; exact (Qv4 (by omega)).symm
   rw [e];have hl:=Qca (b).natAbs;by_cases hl1:(Fp (b).natAbs).length=1
   ·obtain ⟨u,hu⟩:=gxE (l:=(Fp (b).natAbs)) (i:=0) (by omega);have hue:=Qi5 hl1 hu;exact w tt Tryz.func68 rfl [.c [] (Mm (z:=b)),.f (decide_eq_false (by omega)),.f (decide_eq_false (by omega)),.g 19 true (by simp only [H7]; exact decide_eq_true (by omega)),.x (Gi hu),.f (decide_eq_false (by omega)),.c [] cg,.c [] q1,.c [] q2] rfl rfl trivial
   ·exact w tt Tryz.func68 rfl [.c [] (Mm (z:=b)),.f (decide_eq_false (by omega)),.f (decide_eq_false (by omega)),.g 19 false (by simp only [H7]; exact decide_eq_false (by omega)),.f rfl,.c [] cg,.c [] q1,.c [] q2] rfl rfl trivial
theorem Zkh {n d:Int} (hn:-1000000000<=n/\n<=1000000000) (hd:-1000000000<=d/\d<=1000000000):Uw Tryz.prog 112 [.one (.int .i64 n),.one (.int .i64 d)] [.agg (fr (Gx n d))]:=by
 have b1:U9 n<=90000000:=Qd (Te.2 (show n.natAbs<2^40 by omega)) (by decide);have b2:U9 d<=90000000:=Qd (Te.2 (show d.natAbs<2^40 by omega)) (by decide);exact w tt Tryz.func112 rfl [.c [] (C5 (by omega)),.c [] (C5 (by omega)),.c [] (Qc5 b1 b2)] rfl rfl trivial
theorem Zg8 {a:Rat}:Uw Tryz.prog 67 [.agg (fr a)] [.agg (fr (-a))]:=by
 have e:fr (-a)=ri (-a.num)++ri (a.den:Int):=rfl;rw [e];exact w tt Tryz.func67 rfl [.c [] (A7 (z:=a.num))] rfl rfl trivial
theorem Q4p {a b:Rat} (ha:Qs 20000000 a) (hb:Qs 20000000 b):Uw Tryz.prog 169 [.agg (fr a),.agg (fr b)] [.agg (fr (a+b))]:=by
 have k1:=Ft a.num (b.den:Int);have k2:=Ft b.num (a.den:Int);have k3:=Ft (a.den:Int) (b.den:Int);have k4:=Qds (a.num*(b.den:Int)) (b.num*(a.den:Int));have h1:=ha.1; have h2:=ha.2; have h3:=hb.1; have h4:=hb.2;have cm:=Qc5 (a:=a.num*(b.den:Int)+b.num*(a.den:Int)) (b:=(a.den:Int)*(b.den:Int)) (by omega) (by omega);rw [Q1o] at cm;exact w tt Tryz.func169 rfl [.c [] (Pf (a:=a.num) (b:=(b.den:Int)) (by omega) (by omega)),.c [] (Pf (a:=b.num) (b:=(a.den:Int)) (by omega) (by omega)),.c [] (Qvd (by omega) (by omega)),.c [] (Pf (a:=(a.den:Int)) (b:=(b.den:Int)) (by omega) (by omega)),.c [] cm] rfl rfl trivial
theorem Q4z {a b:Rat} (ha:Qs 40000000 a) (hb:Qs 40000000 b):Uw Tryz.prog 139 [.agg (fr a),.agg (fr b)] [.agg (fr (a*b))]:=by
 have k1:=Ft a.num b.num;have k3:=Ft (a.den:Int) (b.den:Int);have h1:=ha.1; have h2:=ha.2; have h3:=hb.1; have h4:=hb.2;have cm:=Qc5 (a:=a.num*b.num) (b:=(a.den:Int)*(b.den:Int)) (by omega) (by omega);rw [Qmy] at cm;exact w tt Tryz.func139 rfl [.c [] (Pf (a:=a.num) (b:=b.num) (by omega) (by omega)),.c [] (Pf (a:=(a.den:Int)) (b:=(b.den:Int)) (by omega) (by omega)),.c [] cm] rfl rfl trivial
theorem Qva {a b:Rat} (ha:Qs 40000000 a) (hb:Qs 40000000 b) (h0:b≠0):Uw Tryz.prog 207 [.agg (fr a),.agg (fr b)] [.agg (fr (a / b))]:=by
 have k1:=Ft a.num (b.den:Int);have k3:=Ft (a.den:Int) b.num;have h1:=ha.1; have h2:=ha.2; have h3:=hb.1; have h4:=hb.2;have cm:=Qc5 (a:=a.num*(b.den:Int)) (b:=(a.den:Int)*b.num) (by omega) (by omega);rw [Qng h0] at cm;exact w tt Tryz.func207 rfl [.c [] (Pf (a:=a.num) (b:=(b.den:Int)) (by omega) (by omega)),.c [] (Pf (a:=(a.den:Int)) (b:=b.num) (by omega) (by omega)),.c [] cm] rfl rfl trivial
theorem Zb0 {a b:Rat} (ha:Qs 40000000 a) (hb:Qs 40000000 b):Uw Tryz.prog 30 [.agg (fr a),.agg (fr b)] [.one (.int .i64 (Gt a b))]:=by
 have k1:=Ft a.num (b.den:Int);have k2:=Ft b.num (a.den:Int);have h1:=ha.1; have h2:=ha.2; have h3:=hb.1; have h4:=hb.2;exact w tt Tryz.func30 rfl [.c [] (Pf (a:=a.num) (b:=(b.den:Int)) (by omega) (by omega)),.c [] (Pf (a:=b.num) (b:=(a.den:Int)) (by omega) (by omega)),.c [] (Zhg (a:=a.num*(b.den:Int)) (b:=b.num*(a.den:Int)) (by omega) (by omega))] rfl rfl trivial
end Orr
namespace Orr
def Bl:List Rat->List Rat
 | []=>[]
 |
  x::l=>match Bl l with
  | []=>if x=0 then [] else [x]
  | y::k=>x::y::k
theorem Qal:∀ {l:List Rat},(∀ x∈l,x=0)->Bl l=[]
 | [],_=>rfl
 |
  x::l,h=>by
  have ih:=Qal (l:=l) (λy hy=>h y (Qk _ hy));simp [Bl,ih,h x (Qx ..)]
theorem Qk1:∀ {l:List Rat} {m:Nat} {y:Rat},(∀ j x,m<j->l[j]? = some x->x=0)->l[m]? = some y->y≠0->Bl l=l.take (m+1)
 | [],m,y,_,h,_=>by simp at h
 |
  x::l,0,y,h1,h2,h3=>by
  have h0:Bl l=[]:=Qal λz hz=>by
   obtain ⟨j,hj⟩:=Zg.1 hz;exact h1 (j+1) z (by omega) (by simpa using hj)
  simp at h2;subst h2;simp [Bl,h0,h3]
 |
  x::l,m+1,y,h1,h2,h3=>by
  have ih:=Qk1 (l:=l) (m:=m) (y:=y) (λj z hj hz=>h1 (j+1) z (by omega) (by simpa using hz)) (by simpa using h2) h3;cases hl:l with
  | nil=>subst hl; simp at h2
  |
   cons u k =>
   subst hl;rw [J8] at ih;simp only [Bl] at ih ⊢;rw [ih];simp
theorem Qf5 {l:List Rat} {m:Nat} (hm:m<=l.length) (h1:∀ j x,m<=j->l[j]? = some x->x=0) (h2:0<m->∃ y,l[m-1]? = some y/\y≠0):Bl l=l.take m:=by
 rcases Qy m with h0 | h0
 ·subst h0;rw [Qal λz hz=>?_]; rfl;obtain ⟨j,hj⟩:=Zg.1 hz;exact h1 j z (by omega) hj
 ·obtain ⟨y,hy,hy0⟩:=h2 h0;have:=Qk1 (l:=l) (m:=m-1) (y:=y) (λj x hj hx=>h1 j x (by omega) hx) hy hy0;rwa [show m-1+1=m from by omega] at this
theorem Qns:∀ (l:List Rat),∀ z∈Bl l,z∈l
 | [],z,h=>h
 |
  x::l,z,h=>by
  simp only [Bl] at h;have ih:=Qns l
  split at h
  ·split at h
   ·cases h
   ·simp at h; simp [h]
  ·rename_i y k e;rw [e] at ih;rcases Qq.1 h with h | h
   ·simp [h]
   ·exact Qk _ (ih z h)
theorem Qnr:∀ (l:List Rat),(Bl l).length<=l.length
 | []=>Qi _
 |
  x::l=>by
  have ih:=Qnr l;simp only [Bl]
  split
  ·split <;> simp
  ·rename_i y k e;rw [e] at ih;simp at ih ⊢; omega
def zp (p:List Int):List Rat:=p.map λ(z:Int)=>(z:Rat)
theorem Bb:∀ (p:List Int),Bl (zp p)=zp (trim p)
 | []=>rfl
 |
  x::l=>by
  have ih:=Bb l;unfold zp at ih ⊢;simp only [Z8,Bl,trim,ih];cases h:trim l with
  |
   nil =>
   simp only [Jl];by_cases hx:x=0
   ·subst hx; simp
   ·have:(x:Rat)≠0:=λe=>hx (by exact_mod_cast e)
    simp [hx,this]
  | cons y k=>simp
theorem T0 (p:List Int):(zp p).length=p.length:=Zc _
theorem Za3 {p:List Int} {i:Nat} {z:Int} (h:p[i]? = some z):(zp p)[i]? = some (z:Rat):=by simp [zp,h]
theorem Qew (p:List Int) (i:Nat):(zp p).getD i 0=((p.getD i 0:Int):Rat):=by
 simp only [Qf,zp,Zb];cases p[i]? <;> rfl
def Rb (s:Nat) (p:List Rat):Prop:=∀ q∈p,Qs s q
theorem Rb.mono {s t:Nat} {p:List Rat} (h:Rb s p) (ht:s<=t):Rb t p:=λq hq=>(h q hq).mono ht
theorem Rb.get {s:Nat} {p:List Rat} (h:Rb s p) {i:Nat} {q:Rat} (hq:p[i]? = some q):Qs s q:=h q (Qa hq)
theorem C3 {s:Nat} {z:Int} (h:U9 z<=s) (h1:1<=s):Qs s (z:Rat):=⟨by simpa using h,Qd (show U9 ((1:Nat):Int)<=1 by decide) h1⟩
theorem I6 {s:Nat} {p:List Int} (h:Bd s p) (h1:1<=s):Rb s (zp p):=λq hq=>by
 obtain ⟨z,hz,rfl⟩:=Zx.1 hq;exact C3 (h z hz) h1
theorem Zeg {s:Nat} (h1:1<=s):Qs s 0:=C3 (z:=0) (by simp [Mf]) h1
theorem Rb.getD {s:Nat} {p:List Rat} (h:Rb s p) (h1:1<=s) (i:Nat):Qs s (p.getD i 0):=by
 rw [Qf];cases e:p[i]? with
 | none=>exact Zeg h1
 | some q=>exact h.get e
theorem Rb.trim {s:Nat} {p:List Rat} (h:Rb s p):Rb s (Bl p):=λq hq=>h q (Qns p q hq)
def I8 (f:Nat->Rat) (n:Nat):List Rat:=(List.range n).map f
theorem Qek (f:Nat->Rat) (n:Nat):(I8 f n).length=n:=by simp [I8]
theorem Qn0 (f:Nat->Rat) (n:Nat):I8 f (n+1)=I8 f n++[f n]:=by simp [I8,Wj]
theorem Ze5 {s n:Nat} {f:Nat->Rat} (h:∀ i,i<n->Qs s (f i)):Rb s (I8 f n):=λq hq=>by
 obtain ⟨i,hi,rfl⟩:=Zx.1 hq;exact h i (Kq.1 hi)
theorem Qii {f:Nat->Rat} {g:Nat->Int} (n:Nat) (h:∀ i,i<n->f i=(g i:Rat)):I8 f n=zp ((List.range n).map g):=by
 simp only [I8,zp,List.map_map];exact Wp λi hi=>h i (Kq.1 hi)
def Q3n (p q:List Rat):List Rat:=Bl (I8 (λi=>p.getD i 0+q.getD i 0) (max p.length q.length))
def Mb (p:List Rat) (c:Rat):List Rat:=Bl (I8 (λi=>p.getD i 0*c) p.length)
def Qqb (p:List Rat):List Rat:=Mb p (-1)
def Qk0 (p q:List Rat):List Rat:=Q3n p (Qqb q)
theorem Q02 (p q:List Int):Q3n (zp p) (zp q)=zp (Bv p q):=by
 unfold Q3n Bv P8;rw [Qii (g:=λk=>p.getD k 0+q.getD k 0) _ λi _=>by rw [Qew,Qew,Kk],Bb,T0,T0]
theorem Qno (p:List Int) (c:Int):Mb (zp p) (c:Rat)=zp (Fi p c):=by
 unfold Mb Fi P8;rw [Qii (g:=λk=>p.getD k 0*c) _ λi _=>by rw [Qew,X1],Bb,T0]
theorem Qw1 (p:List Int):Fi p (-1)=S5 p:=by
 unfold Fi S5 P8;congr 2;funext k;omega
theorem Q05 (p:List Int):Qqb (zp p)=zp (S5 p):=by
 rw [<-Qw1,<-Qno]; rfl
theorem Ot {p q:List Int} (hp:U3 p) (hq:U3 q) (h:∀ k,p.getD k 0=q.getD k 0):p=q:=by
 have key:∀ {p q:List Int},U3 q->(∀ k,p.getD k 0=q.getD k 0)->q.length<=p.length:=by
  intro p q hq h;rcases Q6 p.length q.length with h1 | h1
  ·have h2:=Hk hq (by omega);rw [<-h,Qf,Qu (by omega)] at h2;exact (h2 rfl).elim
  ·exact h1
 exact Qjj (Kj (key hp λk=>(h k).symm) (key hq h)) λj _=>h j
theorem Qvz {n m:Nat} {f g:Nat->Int} (hn:n<=m) (h:∀ k,k<n->f k=g k) (h0:∀ k,n<=k->k<m->g k=0):P8 n f=P8 m g:=by
 refine Ot (Fl _ _) (Fl _ _) λk=>?_
 rw [Ti,Ti];by_cases h1:k<n
 ·rw [if_pos h1,if_pos (by omega),h k h1]
 ·rw [if_neg h1];by_cases h2:k<m
  ·rw [if_pos h2,h0 k (by omega) h2]
  ·rw [if_neg h2]
theorem Q09 (p q:List Int):Qk0 (zp p) (zp q)=zp (Po p q):=by
 unfold Qk0;rw [Q05,Q02];congr 1;have hl:=Lf q;unfold Bv Po;refine Qvz (by omega) (λk _=>?_) λk h1 h2=>?_
 ·unfold S5;rw [Ti]
  split
  ·omega
  ·rename_i h;have:q.getD k 0=0:=by rw [Qf,Qu (by omega)]; rfl
   omega
 ·have h3:p.getD k 0=0:=by rw [Qf,Qu (by omega)]; rfl
  have h4:(S5 q).getD k 0=0:=by rw [Qf,Qu (by omega)]; rfl
  unfold S5 at h4;rw [Ti] at h4
  split at h4
  ·omega
  ·have:q.getD k 0=0:=by rw [Qf,Qu (by omega)]; rfl
   omega
structure Crv where
 x:List Int
 y:List Int
 d:Int
abbrev cl (k:Crv):List LV:=[pl k.x,pl k.y,sg k.d,mg k.d]
def Crv.d' (k:Crv):Int:=if k.d=0 then 1 else k.d
def Crv.g (k:Crv):Int:=if k.d'<0 then -((G9 (k.d'::(trim k.x++trim k.y)):Nat):Int) else (G9 (k.d'::(trim k.x++trim k.y)):Nat)
def Crv.norm (k:Crv):Crv:=⟨trim ((trim k.x).map (· / k.g)),trim ((trim k.y).map (· / k.g)),k.d' / k.g⟩
theorem Oy {l:List Int}:∀ z∈l,((G9 l:Nat):Int)∣z:=by
 have key:∀ (l:List Int) (g:Nat),(l.foldl (λg z=>Nat.gcd g z.natAbs) g∣g)/\∀ z∈l,l.foldl (λg z=>Nat.gcd g z.natAbs) g∣z.natAbs:=by
  intro l
  induction l with
  | nil=>intro g; exact ⟨Nat.dvd_refl _,by simp⟩
  |
   cons u l ih =>
   intro g;obtain ⟨h1,h2⟩:=ih (Nat.gcd g u.natAbs);refine ⟨Nat.dvd_trans h1 (K0 _ _),λz hz=>?_⟩;rcases Qq.1 hz with rfl | hz
   ·exact Nat.dvd_trans h1 (Ub _ _)
   ·exact h2 z hz
 intro z hz;have:=(key l 0).2 z hz;exact Wz.2 this
theorem Crv.d'_ne (k:Crv):k.d'≠0:=by unfold Crv.d'; split <;> omega
theorem Crv.gcd_ne (k:Crv):G9 (k.d'::(trim k.x++trim k.y))≠0:=by
 intro e;have h:=Oy (l:=k.d'::(trim k.x++trim k.y)) k.d' (Qx ..);rw [e] at h;exact k.d'_ne (by simpa using h)
theorem Crv.g_ne (k:Crv):k.g≠0:=by
 have h0:=k.gcd_ne;unfold Crv.g
 split <;> omega
theorem Crv.g_dvd (k:Crv):∀ z∈k.d'::(trim k.x++trim k.y),z % k.g=0:=by
 intro z hz;have h:=Oy z hz;refine Jz ?_;unfold Crv.g
 split
 ·exact Us.2 h
 ·exact h
theorem Crv.isz_g (k:Crv) {s:Nat} (h:U9 k.d'<=s):U9 k.g<=s:=by
 have hd:=Oy (l:=k.d'::(trim k.x++trim k.y)) k.d' (Qx ..);have hle:G9 (k.d'::(trim k.x++trim k.y))<=k.d'.natAbs:=Kd (by have:=k.d'_ne; omega) (Wz.1 hd);refine Qd (Re ?_) h;unfold Crv.g
 split <;> simp <;> exact hle
structure Cs (s n:Nat) (k:Crv):Prop where
 x:Bd s k.x
 y:Bd s k.y
 d:U9 k.d<=s
 lx:k.x.length<=n
 ly:k.y.length<=n
theorem Qpc {k:Crv} {s:Nat} (h:U9 k.d<=s) (h1:1<=s):U9 k.d'<=s:=by unfold Crv.d'; split <;> first | exact h1 | exact h
theorem Qe2 {s:Nat} {p:List Int} (h:Bd s p) (g:Int):Bd s (p.map (· / g)):=λz hz=>by
 obtain ⟨u,hu,rfl⟩:=Zx.1 hz;exact Qd (O3 u g) (h u hu)
theorem Cs.norm {s n:Nat} {k:Crv} (h:Cs s n k) (h1:1<=s):Cs s n k.norm:=by
 refine ⟨Tc (Qe2 (Tc h.x) _),Tc (Qe2 (Tc h.y) _),Qd (O3 _ _) (Qpc h.d h1),?_,?_⟩
 ·refine Qd (Hq _) ?_; rw [Zc]; exact Qd (Hq _) h.lx
 ·refine Qd (Hq _) ?_; rw [Zc]; exact Qd (Hq _) h.ly
theorem Cs.mono {s n t m:Nat} {k:Crv} (h:Cs s n k) (hs:s<=t) (hn:n<=m):Cs t m k:=⟨Uv h.x hs,Uv h.y hs,Qd h.d hs,Qd h.lx hn,Qd h.ly hn⟩
def Nml (k:Crv):Prop:=U3 k.x/\U3 k.y/\0<k.d/\G9 (k.d::(k.x++k.y))=1
theorem Crv.norm_of {k:Crv} (h:Nml k):k.norm=k:=by
 obtain ⟨h1,h2,h3,h4⟩:=h;have hd:k.d'=k.d:=by unfold Crv.d'; rw [if_neg (by omega)]
 have hx:trim k.x=k.x:=h1;have hy:trim k.y=k.y:=h2;have hg:k.g=1:=by unfold Crv.g; rw [hd,hx,hy,h4,if_neg (by omega)]; rfl
 unfold Crv.norm;rw [hg,hd,hx,hy];simp [hx,hy]
theorem Qo6 {l:List Int} {g:Int} (hg:g≠0) (hga:g.natAbs=G9 l):G9 (l.map (· / g))=1:=by
 have key:∀ (l:List Int) (a:Nat),(∀ z∈l,g∣z)->l.foldl (λa z=>Nat.gcd a z.natAbs) (a*g.natAbs)=((l.map (· / g)).foldl (λa z=>Nat.gcd a z.natAbs) a)*g.natAbs:=by
  intro l
  induction l with
  | nil=>intro a _; rfl
  |
   cons z l ih =>
   intro a h;simp only [Z8,Xg];have hz:z.natAbs=(z / g).natAbs*g.natAbs:=by
    obtain ⟨q,rfl⟩:=h z (Qx ..);rw [Xw _ hg,Jy,Zh]
   rw [hz,Uc];exact ih _ λu hu=>h u (Qk _ hu)
 have h:=key l 0 λz hz=>Xz.1 (by rw [hga]; exact Xz.2 (Oy z hz))
 rw [Ya] at h;have h':G9 l=G9 (l.map (· / g))*g.natAbs:=h;rw [<-hga] at h';have hp:0<g.natAbs:=by omega
 exact Nat.eq_of_mul_eq_mul_right hp (by rw [Wx]; exact h'.symm)
theorem Lp {l:List Int} {g:Int} (ht:U3 l) (hg:g≠0) (hd:∀ z∈l,g∣z):U3 (l.map (· / g)):=by
 induction l with
 | nil=>rfl
 |
  cons x l ih =>
  have hne:∀ z∈x::l,z≠0->z / g≠0:=λz hz h0 h1=>by
   obtain ⟨q,rfl⟩:=hd z hz;rw [Xw _ hg] at h1;rw [h1] at h0; simp at h0
  unfold U3 at ht ih ⊢;cases hl:trim l with
  |
   nil =>
   simp only [trim,hl] at ht
   split at ht
   ·cases ht
   ·rename_i hx;injection ht with _ h2;subst h2;simp [trim,hne x (Qx ..) hx]
  |
   cons y k =>
   simp only [trim,hl] at ht;injection ht with _ h2;have hll:trim l=l:=by rw [hl]; exact h2
   have ih:=ih hll λz hz=>hd z (Qk _ hz)
   rw [Z8];have hne2:l.map (· / g)≠[]:=by rw [<-hll,hl]; simp
   cases hm:l.map (· / g) with
   | nil=>exact absurd hm hne2
   |
    cons u w =>
    rw [hm] at ih;have e:trim (x / g::u::w)=match trim (u::w) with | []=>if x / g=0 then [] else [x / g] | y::k=>x / g::y::k:=rfl
    rw [e,ih]
theorem Crv.nml (k:Crv):Nml k.norm:=by
 have hg:=k.g_ne;have hdv:∀ z∈k.d'::(trim k.x++trim k.y),k.g∣z:=λz hz=>Yn (k.g_dvd z hz)
 have hx:=Lp (g:=k.g) (H6 k.x) hg λz hz=>hdv z (by simp [hz])
 have hy:=Lp (g:=k.g) (H6 k.y) hg λz hz=>hdv z (by simp [hz])
 refine ⟨H6 _,H6 _,?_,?_⟩
 ·show 0<k.d' / k.g;obtain ⟨q,hq⟩:=hdv k.d' (Qx ..);have h0:=k.d'_ne;have hgc:=k.gcd_ne;have e:k.d' / k.g=q:=by rw [hq,Xw _ hg]
  rw [e];unfold Crv.g at hq hg;have hq0:q≠0:=λe=>by rw [e,Km] at hq; exact h0 hq
  split at hq
  ·rename_i hneg;rcases Wy hq0 with h | h
   ·have:=Kh (a:=-((G9 (k.d'::(trim k.x++trim k.y)):Nat):Int)) (b:=q) (by omega) h;omega
   ·exact h
  ·rename_i hneg;rcases Wy hq0 with h | h
   ·have:=Kg (a:=((G9 (k.d'::(trim k.x++trim k.y)):Nat):Int)) (b:=q) (by omega) h;omega
   ·exact h
 ·show G9 (k.d' / k.g::(trim ((trim k.x).map (· / k.g))++trim ((trim k.y).map (· / k.g))))=1;rw [show trim ((trim k.x).map (· / k.g))=(trim k.x).map (· / k.g) from hx,show trim ((trim k.y).map (· / k.g))=(trim k.y).map (· / k.g) from hy,<-Yi,<-Z8 (f:=(· / k.g))];refine Qo6 hg ?_;unfold Crv.g
  split <;> omega
structure Pt where
 c:Crv
 id:Int
def Hi (p:Pt):List LV:=[pl p.c.x,pl p.c.y,sg p.c.d,mg p.c.d,.int .i64 p.id]
def pts (l:List Pt):LV:=.row (l.map Hi)
def pos:List Pt->Int->Nat
 | [],_=>0
 | p::l,id=>if p.id<id then pos l id+1 else 0
def has (l:List Pt) (id:Int):Bool:=match l[pos l id]? with
 | some p=>decide (p.id=id)
 | none=>false
theorem Q8w (l:List Pt) (id:Int):pos l id<=l.length:=by
 induction l with
 | nil=>exact Qi _
 | cons p l ih=>simp only [pos]; split <;> simp <;> omega
theorem Qw0:∀ {l:List Pt} {id:Int} {k:Nat},(∀ j p,j<k->l[j]? = some p->p.id<id)->(k=l.length\/∃ p,l[k]? = some p/\¬p.id<id)->pos l id=k
 |
  [],id,k,_,h=>by
  rcases h with h | ⟨p,h,_⟩
  ·subst h; rfl
  ·simp at h
 |
  q::l,id,0,_,h=>by
  rcases h with h | ⟨p,h,h2⟩
  ·simp at h
  ·simp at h; subst h; simp [pos,h2]
 |
  q::l,id,k+1,h1,h=>by
  have hq:=h1 0 q (by omega) rfl;simp only [pos,hq,if_true];rw [Qw0 (k:=k) (λj p hj hp=>h1 (j+1) p (by omega) (by simpa using hp))];rcases h with h | ⟨p,h,h2⟩
  ·left; simpa using h
  ·right; exact ⟨p,by simpa using h,h2⟩
def put (l:List Pt) (q:Pt):List Pt:=l.take (pos l q.id)++q::l.drop (pos l q.id)
def Qai (l:List Pt) (q:Pt):Int:=if has l q.id=true then 6 else if 6<=l.length then 9 else 0
def Quu (s n:Nat) (p:Pt):Prop:=Nml p.c/\Cs s n p.c
theorem Q0y (l:List Pt) (q:Pt):(put l q).length=l.length+1:=by
 have:=Q8w l q.id;simp [put]; omega
theorem Q0z {l:List Pt} {q p:Pt} (h:p∈put l q):p=q\/p∈l:=by
 unfold put at h;rcases Qt.1 h with h | h
 ·exact .inr (Ql h)
 ·rcases Qq.1 h with h | h
  ·exact .inl h
  ·exact .inr (Ze h)
def Tx:List Pt->List Pt->List Pt×Int
 | acc,[]=>(acc,0)
 | acc,q::qs=>if Qai acc q=0 then Tx (put acc q) qs else ([],Qai acc q)
def Ck (a b:Crv):Bool:=decide (a.x=b.x/\a.y=b.y/\a.d=b.d)
def Sv (out:List Pt) (p:Pt):List Pt:=if out.any (λq=>Ck p.c q.c)=true then out else out++[p]
def Sb (l:List Pt):List Pt:=l.foldl Sv []
theorem Q35 {out:List Pt} {p q:Pt} (h:q∈Sv out p):q∈out\/q=p:=by
 unfold Sv at h
 split at h
 ·exact .inl h
 ·rcases Qt.1 h with h | h
  ·exact .inl h
  ·exact .inr (by simpa using h)
theorem Q34 (out:List Pt) (p:Pt):(Sv out p).length<=out.length+1:=by
 unfold Sv; split <;> simp
theorem Tj {α β:Type} (f:β->α->β) (b:β) (l:List α) {i:Nat} {x:α} (h:l[i]? = some x):(l.take (i+1)).foldl f b=f ((l.take i).foldl f b) x:=by
 rw [Y6,h]; simp [Vx]
theorem Qb5 (l:List Pt) (i:Nat):∀ q∈(l.take i).foldl Sv [],q∈l:=by
 induction i with
 | zero=>simp
 |
  succ i ih =>
  intro q hq;cases hi:l[i]? with
  |
   none =>
   rw [Qn (by have:=Js.1 hi; omega)] at hq;rw [Qn (Js.1 hi)] at ih;exact ih q hq
  |
   some x =>
   rw [Tj _ _ _ hi] at hq;rcases Q35 hq with h | h
   ·exact ih q h
   ·subst h; exact Qa hi
theorem Qb4 (l:List Pt) (i:Nat):((l.take i).foldl Sv []).length<=i:=by
 induction i with
 | zero=>simp
 |
  succ i ih =>
  cases hi:l[i]? with
  |
   none =>
   rw [Qn (by have:=Js.1 hi; omega)];rw [Qn (Js.1 hi)] at ih;omega
  |
   some x =>
   rw [Tj _ _ _ hi];have:=Q34 ((l.take i).foldl Sv []) x;omega
theorem Cz {l:List Pt} {q:Pt} (h:q∈Sb l):q∈l:=by
 have:=Qb5 l l.length q;rw [Q0] at this;exact this h
theorem Quk (l:List Pt):(Sb l).length<=l.length:=by
 have:=Qb4 l l.length;rwa [Q0] at this
def IsPt (s n:Nat) (z:List LV) (q:Pt):Prop:=∃ lx ly b l px py d,z=[.row lx,.row ly,.bool b,Zjh l,.int .i64 q.id]/\IsInts lx px/\IsInts ly py/\Rj (.bool b) (Zjh l) d/\Cs s n ⟨px,py,d⟩/\q.c=Crv.norm ⟨px,py,d⟩
theorem Zib {s n:Nat} {p:Pt} (h:Quu s n p):IsPt s n (Hi p) p:=by
 obtain ⟨b,l,h1,h2,h3,h4⟩:=U0 p.c.d;refine ⟨_,_,decide (p.c.d<0),Fo p.c.d.natAbs,_,_,p.c.d,rfl,Ha _,Ha _,U0 _,h.2,(Crv.norm_of h.1).symm⟩
def IsPts (s n:Nat):List (List LV)->List Pt->Prop
 | [],[]=>True
 | z::zs,q::qs=>IsPt s n z q/\IsPts s n zs qs
 | _,_=>False
theorem IsPts.len {s n:Nat}:∀ {zs:List (List LV)} {qs:List Pt},IsPts s n zs qs->zs.length=qs.length
 | [],[],_=>rfl
 | _::_,_::_,h=>by simp [h.2.len]
 | [],_::_,h=>h.elim
 | _::_,[],h=>h.elim
theorem IsPts.get {s n:Nat}:∀ {zs:List (List LV)} {qs:List Pt},IsPts s n zs qs->∀ {i:Nat} {q:Pt},qs[i]? = some q->∃ z,zs[i]? = some z/\IsPt s n z q
 | [],[],_,i,q,h=>by simp at h
 | z::zs,q::qs,h,0,r,hr=>by simp at hr; subst hr; exact ⟨z,rfl,h.1⟩
 | z::zs,q::qs,h,i+1,r,hr=>by simpa using h.2.get (i:=i) (by simpa using hr)
 | [],_::_,h,_,_,_=>h.elim
 | _::_,[],h,_,_,_=>h.elim
theorem Qzx {s n:Nat}:∀ {l:List Pt},(∀ p∈l,Quu s n p)->IsPts s n (l.map Hi) l
 | [],_=>trivial
 | p::l,h=>⟨Zib (h p (Qx ..)),Qzx λq hq=>h q (Qk _ hq)⟩
theorem IsPt.ok {s n:Nat} {z:List LV} {q:Pt} (h:IsPt s n z q) (h1:1<=s):Quu s n q:=by
 obtain ⟨lx,ly,b,l,px,py,d,_,_,_,_,hc,e⟩:=h;unfold Quu;rw [e];exact ⟨Crv.nml _,hc.norm h1⟩
theorem Q3a (acc qs:List Pt) {i:Nat} {q:Pt} (hi:qs[i]? = some q) (h:Tx acc (qs.take i)=((Tx acc (qs.take i)).1,0)):Tx acc (qs.take (i+1))=if Qai (Tx acc (qs.take i)).1 q=0 then (put (Tx acc (qs.take i)).1 q,0) else ([],Qai (Tx acc (qs.take i)).1 q):=by
 induction qs generalizing acc i with
 | nil=>simp at hi
 |
  cons x qs ih =>
  cases i with
  | zero=>simp at hi; subst hi; simp [Tx]
  |
   succ i =>
   simp only [J8,Tx] at h ⊢;by_cases h0:Qai acc x=0
   ·simp only [h0,if_true] at h ⊢;exact ih (put acc x) (by simpa using hi) h
   ·simp only [h0,if_false] at h;injection h with _ h;exact absurd h h0
theorem Q79 (acc qs:List Pt) {i:Nat} {e:Int} (he:e≠0) (h:Tx acc (qs.take i)=([],e)):Tx acc qs=([],e):=by
 induction qs generalizing acc i with
 | nil=>simp [Tx] at h; exact absurd h.2.symm he
 |
  cons x qs ih =>
  cases i with
  | zero=>simp [Tx] at h; exact absurd h.2.symm he
  |
   succ i =>
   simp only [J8,Tx] at h ⊢;by_cases h0:Qai acc x=0
   ·simp only [h0,if_true] at h ⊢; exact ih _ h
   ·simp only [h0,if_false] at h ⊢; exact h
def Gm (p:List Int) (q:Rat):Int:=C0 (Zec p q.num q.den) 0
abbrev qa (q:Rat):List LV:=pl [-q.num,(q.den:Int)]::(rl q++rl q)
def Sj (sgn:List Int->Int):Nat->List Int->Int
 | 0,_=>0
 | k+1,p=>if p.length=0 then 0 else if sgn p=0 then Sj sgn k (Gf p) else sgn p
theorem Oz (sgn:List Int->Int):∀ (k:Nat) (p:List Int),p.length<=k->Sj sgn k p=Sj sgn p.length p
 |
  0,p,h=>by
  have:p.length=0:=by omega
  rw [this]
 |
  k+1,p,h=>by
  cases hp:p.length with
  | zero=>simp [Sj,hp]
  |
   succ m =>
   simp only [Sj];have h1:=Pi p;rw [Oz sgn k (Gf p) (by omega),Oz sgn m (Gf p) (by omega)]
theorem Qgq (sgn:List Int->Int) {p:List Int} (h:p.length=0):Sj sgn p.length p=0:=by rw [h]; rfl
theorem Qgo (sgn:List Int->Int) {p:List Int} (h:0<p.length) (hs:sgn p≠0):Sj sgn p.length p=sgn p:=by
 obtain ⟨m,hm⟩:∃ m,p.length=m+1:=⟨p.length-1,by omega⟩;rw [hm]; simp only [Sj]; rw [if_neg (by omega),if_neg hs]
theorem Qgp (sgn:List Int->Int) {p:List Int} (h:0<p.length) (hs:sgn p=0):Sj sgn p.length p=Sj sgn (Gf p).length (Gf p):=by
 obtain ⟨m,hm⟩:∃ m,p.length=m+1:=⟨p.length-1,by omega⟩;rw [hm]; simp only [Sj]; rw [if_neg (by omega),if_pos hs];exact Oz sgn m _ (by have:=Pi p; omega)
structure Tm where
 p:List Int
 lo:Rat
 hi:Rat
abbrev ta (t:Tm):List LV:=pl t.p::(rl t.lo++rl t.hi)
abbrev tq (q:Rat):Tm:=⟨[-q.num,(q.den:Int)],q,q⟩
def Nc (sg:List Int->Int) (p:List Int):Int:=Sj sg p.length p
def S0 (p:List Int) (q:Rat):Int:=Nc (λp=>Gm p q) p
structure Pb (p:List Int):Prop where
 t:U3 p
 l:p.length<=64
 b:Bd 16777216 p
abbrev Qb (q:Rat):Prop:=Qs 16777216 q
abbrev Cb (k:Crv):Prop:=Cs 1048576 16 k
def Hm (a b:Crv):List Int:=Po (Fi b.x a.d) (Fi a.x b.d)
def Hr (a b:Crv):List Int:=Po (Fi b.y a.d) (Fi a.y b.d)
def Iw (sg:List Int->Int) (a b:Pt):List (List Int)->Bool
 | []=>decide (a.id<b.id)
 | p::l=>if 0<p.length then decide (0<Nc sg p) else Iw sg a b l
def Ms (sg:List Int->Int) (a b:Pt):Bool:=Iw sg a b [Hm a.c b.c,Hr a.c b.c]
end Orr
namespace Orr
open Go
structure Ct where
 kind:Int
 i0:Int
 i1:Int
 i2:Int
 i3:Int
 p:List Int
 want:Int
abbrev Qkh (c:Ct):List LV:=[.int .i64 c.kind,.int .i64 c.i0,.int .i64 c.i1,.int .i64 c.i2,.int .i64 c.i3,pl c.p,.int .i64 c.want]
def Qcb (p q:List Int):List Int:=if 0<p.length then p else q
def H9:List Int->List Int->Bool
 | x::l,y::m=>if x=y then H9 l m else decide (x<y)
 | _,_=>false
def Rz (a b:Ct):Bool:=H9 [a.kind,a.i0,a.i1,a.i2,a.i3] [b.kind,b.i0,b.i1,b.i2,b.i3]
def Qaf (out:List Ct) (c:Ct):Nat->Nat
 | 0=>0
 |
  k+1=>match out[k]? with
  | some x=>if Rz c x=true then Qaf out c k else k+1
  | none=>k+1
theorem Q0r (out:List Ct) (c:Ct):∀ k,Qaf out c k<=k
 | 0=>Qi _
 |
  k+1=>by
  simp only [Qaf]
  split
  ·split
   ·exact Nat.le_succ_of_le (Q0r out c k)
   ·exact Qi _
  ·exact Qi _
theorem Zd3 {out:List Ct} {c x:Ct} {k:Nat} (hx:out[k]? = some x) (h:Rz c x=true):Qaf out c (k+1)=Qaf out c k:=by
 simp only [Qaf,hx,h,if_true]
theorem Q8v {out:List Ct} {c x:Ct} {k:Nat} (hx:out[k]? = some x) (h:Rz c x=false):Qaf out c (k+1)=k+1:=by
 simp [Qaf,hx,h]
def Qcf (out:List Ct) (c:Ct):List Ct:=out.take (Qaf out c out.length)++c::out.drop (Qaf out c out.length)
theorem Q7n (out:List Ct) (c:Ct):(Qcf out c).length=out.length+1:=by
 have:=Q0r out c out.length;simp [Qcf]; omega
theorem Q7o {out:List Ct} {c x:Ct} (h:x∈Qcf out c):x=c\/x∈out:=by
 simp only [Qcf,Qt,Qq] at h;rcases h with h | h | h
 ·exact .inr (Ql h)
 ·exact .inl h
 ·exact .inr (Ze h)
def Sr (l:List Ct):List Ct:=l.foldl Qcf []
theorem Qxo (l:List Ct) (c:Ct):Sr (l++[c])=Qcf (Sr l) c:=by simp [Sr,Vx]
theorem Qxp {l:List Ct} {i:Nat} {c:Ct} (h:l[i]? = some c):Sr (l.take (i+1))=Qcf (Sr (l.take i)) c:=by
 rw [Zw,h]; exact Qxo _ _
theorem Qmg:∀ (l acc:List Ct),(l.foldl Qcf acc).length=acc.length+l.length
 | [],acc=>by simp
 | c::l,acc=>by simp only [Xg]; rw [Qmg l (Qcf acc c),Q7n]; simp; omega
theorem Qf6 (l:List Ct):(Sr l).length=l.length:=by unfold Sr; rw [Qmg]; simp
theorem Qmh:∀ (l acc:List Ct) {x:Ct},x∈l.foldl Qcf acc->x∈l\/x∈acc
 | [],acc,x,h=>.inr h
 |
  c::l,acc,x,h=>by
  simp only [Xg] at h;rcases Qmh l _ h with h | h
  ·exact .inl (Qk _ h)
  ·rcases Q7o h with rfl | h
   ·exact .inl (Qx ..)
   ·exact .inr h
theorem Q3s {l:List Ct} {x:Ct} (h:x∈Sr l):x∈l:=by
 rcases Qmh l [] h with h | h
 ·exact h
 ·cases h
theorem Qsp {α:Type} (l:List α) (z x:α) {k m':Nat} (hk:k<=l.length) (hm:m'=l.length-k) :
 ((l++[z]).take (k+1)++((l++[z]).drop k).take m'++(l++[z]).drop (k+1+m')).set k x=l.take k++x::l.drop k:=by
 subst hm;have e1:((l++[z]).drop k).take (l.length-k)=l.drop k:=by
  rw [Vv hk,Ym (by simp),Qn (by simp)]
 have e2:(l++[z]).drop (k+1+(l.length-k))=[]:=Yq (by simp; omega);rw [e1,e2,Zy];have e3:(l++[z]).take (k+1)=(l++[z]).take k++[(l++[z])[k]'(by simp; omega)]:=by rw [List.take_succ_eq_append_getElem]
 rw [e3,Ym hk,Zi,List.set_append,if_neg (by simp; omega)];simp [Zt hk]
def Qcm (a b:Pt):List Int:=Qcb (Hm a.c b.c) (Hr a.c b.c)
def Di (sg:List Int->Int) (a b:Pt):Ct:={ kind:=1,i0:=a.id,i1:=b.id,i2:=0,i3:=0,p:=Qcm a b,want:=Nc sg (Qcm a b) }
end Orr
namespace Orr
open Go Go.Proofs
set_option maxRecDepth 10000
abbrev pr (p:List Int):TV:=.one (pl p)
theorem S4 {p:List Int} {i:Nat} {z:Int} (h:p[i]? = some z):(p.map Hg)[i]? = some (Hg z):=Ho h
theorem Qiw (p:List Int):Uw Tryz.prog 206 [pr p] [pr (trim p)]:=by
 refine Hn Tryz.func206 rfl (ln 0 rfl rfl λhl=>?_);rw [Zc] at hl;refine go tt [] rfl trivial ?_;refine lp (S:=Nat) 0 (λL1 n=>(3,.v (.one (.int .i64 (n:Int))))::L1) (λ_=>[]) id (λn=>n<=p.length/\∀ j x,n<=j->p[j]? = some x->x=0) (p.map Hg).length ⟨by simp,λj x h1 h2=>by
  have:=(Qc.1 h2).1; simp at h1; omega⟩ rfl (λ_ _=>rfl) rfl λn ⟨h1,h2⟩=>?_
 cases n with
 | zero=>exact en tt [.f (by simp),.f rfl,.i 0] rfl (by rw [Qt9 h1 h2 (λh=>by omega)]; simp [pl]) (by simp [Uu])
 |
  succ n =>
  obtain ⟨x,hx⟩:=gxE (l:=p) (i:=n) (by omega);by_cases h0:x=0
  ·refine go tt [.t (by simp),.r 11 (v:=.one (.int .i64 (n:Int))) (by simp),.x (S4 hx),.c [] A6,.t (by simp [h0]),.r 17 (v:=.one (.int .i64 (n:Int))) (by simp)] rfl (by simp [Uu]; omega) ?_;exact rd n (by simp) ⟨by omega,λj y h3 h4=>by
    rcases Vn h3 with rfl | h3
    ·rw [hx] at h4; injection h4 with h4; rw [<-h4,h0]
    ·exact h2 j y h3 h4⟩ rfl
  ·exact en tt [.t (by simp),.r 11 (v:=.one (.int .i64 (n:Int))) (by simp),.x (S4 hx),.c [] A6,.f (by simp [h0]),.i (n+1)] rfl (by rw [Qt9 h1 h2 (λ_=>⟨x,hx,h0⟩)]; simp [pl,Yb]) (by simp [Uu] <;> omega)
theorem Qyv (p:List Int) (k:Nat):Uw Tryz.prog 279 [pr p,.one (.int .i64 (k:Int))] [.agg (Hg (p.getD k 0))]:=by
 by_cases h:k<p.length
 ·have hx:=Qe h;have e:p.getD k 0=p[k]:=by simp [List.getD,hx]
  rw [e];exact w tt Tryz.func279 rfl [.t (by simp; omega),.x (S4 hx)] rfl rfl trivial
 ·have e:p.getD k 0=0:=by simp [List.getD,Qu (Vg h)]
  rw [e,Lk];exact w tt Tryz.func279 rfl [.f (by simp; omega)] rfl rfl trivial
def fil (f:Nat->List LV) (z:List LV) (n k:Nat):List (List LV):=(List.range n).map λi=>if i<k then f i else z
theorem Qa4 (f:Nat->List LV) (z:List LV) (n k:Nat):(fil f z n k).length=n:=by simp [fil]
theorem E8 (f:Nat->List LV) (z:List LV) (n:Nat):List.replicate n z=fil f z n 0:=by
 refine Xu λi=>?_
 simp only [fil,J1,Zb];by_cases h:i<n
 ·simp [h]
 ·simp [h]
theorem Qa3 (f:Nat->List LV) (z:List LV) (n:Nat):fil f z n n=(List.range n).map f:=by
 refine Wp λi hi=>?_
 rw [if_pos (Kq.1 hi)]
theorem Qa5 (f:Nat->List LV) (z:List LV) {n k:Nat} (h:k<n):(fil f z n k).set k (f k)=fil f z n (k+1):=by
 refine Xu λi=>?_
 rw [Y5];simp only [fil,Zb,Zc,List.length_range,h,if_true];by_cases e:k=i
 ·subst e; simp [h]
 ·simp only [e,if_false];by_cases hi:i<n
  ·simp only [X9 hi,Vp];congr 1;by_cases h2:i<k
   ·rw [if_pos h2,if_pos (by omega)]
   ·rw [if_neg h2,if_neg (by omega)]
  ·simp [Qu,hi]
theorem Qok {n fid:Nat} {l1 l2:List LV} {g:Nat->Int} (hn:n<274877906944) (h:∀ k,k<n->Uw Tryz.prog fid [.one (.int .i64 (k:Int)),.one (.sh l1),.one (.sh l2)] [.agg (Hg (g k))]):Uw Tryz.prog 246 [.one (.int .i64 (n:Int)),.one (.fn fid [] [.sh l1,.sh l2])] [pr (P8 n g)]:=by
 refine Hn Tryz.func246 rfl ?_;refine go tt [.i n,.i n,.r 10 (eI (b:=(n:Int)) (by simp))] rfl (by simp [Uu]; omega) ?_;rw [E8 λk=>Hg (g k)];refine lp (S:=Nat) 1 (λL1 k=>(11,.v (.one (.int .i64 (k:Int))))::L1) (λk=>[.row false 51 2 (fil (λk=>Hg (g k)) [.bool false,.nils] n k)]) (λk=>n-k) (λk=>k<=n) 0 (Qg _) rfl (λ_ _=>rfl) rfl λk hk=>?_
 by_cases hlt:k<n
 ·refine go tt [.t (by simp; omega),.c [] (h k hlt),.i k] rfl (by simp [Uu,Qa4]; omega) ?_;have e:=Qa5 (λk=>Hg (g k)) [.bool false,.nils] hlt;rw [e];exact rd (k+1) (by omega) hlt rfl
 ·obtain rfl:k=n:=by omega
  have e:fil (λk=>Hg (g k)) [.bool false,.nils] k k=((List.range k).map g).map Hg:=by rw [Qa3]; simp
  rw [e];exact en tt [.f (by simp),.c [] (Qiw _)] rfl rfl trivial
theorem Qyq {n fid:Nat} {l1:List LV} {g:Nat->Int} (hn:n<274877906944) (h:∀ k,k<n->Uw Tryz.prog fid [.one (.int .i64 (k:Int)),.one (.sh l1)] [.agg (Hg (g k))]):Uw Tryz.prog 246 [.one (.int .i64 (n:Int)),.one (.fn fid [] [.sh l1])] [pr (P8 n g)]:=by
 refine Hn Tryz.func246 rfl ?_;refine go tt [.i n,.i n,.r 10 (eI (b:=(n:Int)) (by simp))] rfl (by simp [Uu]; omega) ?_;rw [E8 λk=>Hg (g k)];refine lp (S:=Nat) 1 (λL1 k=>(11,.v (.one (.int .i64 (k:Int))))::L1) (λk=>[.row false 51 2 (fil (λk=>Hg (g k)) [.bool false,.nils] n k)]) (λk=>n-k) (λk=>k<=n) 0 (Qg _) rfl (λ_ _=>rfl) rfl λk hk=>?_
 by_cases hlt:k<n
 ·refine go tt [.t (by simp; omega),.c [] (h k hlt),.i k] rfl (by simp [Uu,Qa4]; omega) ?_;have e:=Qa5 (λk=>Hg (g k)) [.bool false,.nils] hlt;rw [e];exact rd (k+1) (by omega) hlt rfl
 ·obtain rfl:k=n:=by omega
  have e:fil (λk=>Hg (g k)) [.bool false,.nils] k k=((List.range k).map g).map Hg:=by rw [Qa3]; simp
  rw [e];exact en tt [.f (by simp),.c [] (Qiw _)] rfl rfl trivial
theorem Zg1 {p q:List Int} (k:Nat) (hp:Bd 4294967295 p) (hq:Bd 4294967295 q):Uw Tryz.prog 285 [.one (.int .i64 (k:Int)),.one (.sh [pl p]),.one (.sh [pl q])] [.agg (Hg (p.getD k 0+q.getD k 0))] :=
 w tt Tryz.func285 rfl [.c [] (Qyv p k),.c [] (Qyv q k),.c [] (Qiu (U0 _) (U0 _) (Fb hp k) (Fb hq k))] rfl rfl trivial
theorem Zhd {p q:List Int} (k:Nat) (hp:Bd 4294967295 p) (hq:Bd 4294967295 q):Uw Tryz.prog 278 [.one (.int .i64 (k:Int)),.one (.sh [pl p]),.one (.sh [pl q])] [.agg (Hg (p.getD k 0-q.getD k 0))] :=
 w tt Tryz.func278 rfl [.c [] (Qyv p k),.c [] (Qyv q k),.c [] (Q5f (U0 _) (U0 _) (Fb hp k) (Fb hq k))] rfl rfl trivial
theorem H8 {p:List Int} {k:Nat} (h:k<p.length):p[k]? = some (p.getD k 0):=by simp [List.getD,Qe h]
theorem Q5a {p:List Int} {c:Int} {k:Nat} (hk:k<p.length) (hp:Bd 4294967295 p) (hc:U9 c<=4294967295):Uw Tryz.prog 247 [.one (.int .i64 (k:Int)),.one (.sh [pl p]),.one (.sh (Hg c))] [.agg (Hg (p.getD k 0*c))] :=
 w tt Tryz.func247 rfl [.x (S4 (H8 hk)),.c [] (Ef (U0 _) (U0 _) (Fb hp k) hc)] rfl rfl trivial
theorem Zg7 {p:List Int} {k:Nat} (hk:k<p.length) (hp:Bd 4294967295 p):Uw Tryz.prog 333 [.one (.int .i64 (k:Int)),.one (.sh [pl p])] [.agg (Hg (-(p.getD k 0)))] :=
 w tt Tryz.func333 rfl [.x (S4 (H8 hk)),.c [] (Qlr (U0 _) (Fb hp k))] rfl rfl trivial
theorem Q1x {p:List Int} {k:Nat} (hk:k+1<p.length) (hl:p.length<274877906944) (hp:Bd 4294967295 p):Uw Tryz.prog 303 [.one (.int .i64 (k:Int)),.one (.sh [pl p])] [.agg (Hg (p.getD (k+1) 0*((k+1:Nat):Int)))] :=
 w tt Tryz.func303 rfl [.x (S4 (H8 hk)),.r 10 (eI (b:=((k+1:Nat):Int)) (by omega)),.c [] (Qu9 (by omega)),.c [] (Ef (U0 _) (U0 _) (Fb hp _) (Q21 (show k+1<274877906944 by omega)))] rfl rfl (by simp [Uu] <;> omega)
theorem Q42 {p q:List Int} (hlp:p.length<274877906944) (hlq:q.length<274877906944) (hp:Bd 4294967295 p) (hq:Bd 4294967295 q):Uw Tryz.prog 241 [pr p,pr q] [pr (Bv p q)] :=
 w tt Tryz.func241 rfl [.r 9 (eI (b:=((max p.length q.length:Nat):Int)) (by simp; omega)),.c [] (Qok (by omega) λk _=>Zg1 k hp hq)] rfl rfl trivial
theorem Qis {p q:List Int} (hlp:p.length<274877906944) (hlq:q.length<274877906944) (hp:Bd 4294967295 p) (hq:Bd 4294967295 q):Uw Tryz.prog 231 [pr p,pr q] [pr (Po p q)] :=
 w tt Tryz.func231 rfl [.r 9 (eI (b:=((max p.length q.length:Nat):Int)) (by simp; omega)),.c [] (Qok (by omega) λk _=>Zhd k hp hq)] rfl rfl trivial
theorem Q45 {p:List Int} (hlp:p.length<274877906944) (hp:Bd 4294967295 p):Uw Tryz.prog 307 [pr p] [pr (S5 p)] :=
 w tt Tryz.func307 rfl [.r 4 (eI (b:=(p.length:Int)) (by simp)),.c [] (Qyq hlp λk hk=>Zg7 hk hp)] rfl rfl trivial
theorem Ew {p:List Int} {c:Int} (hlp:p.length<274877906944) (hp:Bd 4294967295 p) (hc:U9 c<=4294967295):Uw Tryz.prog 186 [pr p,.agg (Hg c)] [pr (Fi p c)] :=
 w tt Tryz.func186 rfl [.r 6 (eI (b:=(p.length:Int)) (by simp)),.c [] (Qok hlp λk hk=>Q5a hk hp hc)] rfl rfl trivial
theorem Qaw {p:List Int} (hlp:p.length<274877906944) (hp:Bd 4294967295 p):Uw Tryz.prog 265 [pr p] [pr (Gf p)] :=
 w tt Tryz.func265 rfl [.r 6 (eI (b:=((p.length-1:Nat):Int)) (by simp; omega)),.c [] (Qyq (by omega) λk hk=>Q1x (by omega) hlp hp)] rfl rfl (by simp [Uu]; omega)
theorem De {ls:List (List LV)} {p:List Int} (hi:IsInts ls p) (hl:p.length<274877906944) (hs:Bd 4294967295 p):Uw Tryz.prog 153 [.one (.row ls)] [pr (trim p)]:=by
 refine Hn Tryz.func153 rfl ?_;have hlen:=hi.len;refine go tt [.i ls.length,.i ls.length] rfl (by simp [Uu]; omega) ?_;rw [E8 λk=>Hg (p.getD k 0)];refine lp (S:=Nat) 1 (λL1 k=>(11,.v (.one (.int .i64 (k:Int))))::L1) (λk=>[.row false 51 2 (fil (λk=>Hg (p.getD k 0)) [.bool false,.nils] ls.length k)]) (λk=>ls.length-k) (λk=>k<=ls.length) 0 (Qg _) rfl (λ_ _=>rfl) rfl λk hk=>?_
 by_cases hlt:k<ls.length
 ·obtain ⟨x,y,hx,hxy⟩:=hi.get (H8 (p:=p) (k:=k) (by omega));have cn:=A5 hxy (Fb hs k);obtain ⟨b,l,rfl,rfl,_⟩:=hxy;refine go tt [.t (by simp; omega),.x hx,.c [] cn,.i k] rfl (by simp [Uu,Qa4]; omega) ?_;have e:=Qa5 (λk=>Hg (p.getD k 0)) [.bool false,.nils] hlt;rw [e];exact rd (k+1) (by omega) hlt rfl
 ·obtain rfl:k=ls.length:=by omega
  have e:fil (λk=>Hg (p.getD k 0)) [.bool false,.nils] ls.length ls.length=p.map Hg:=by
   rw [Qa3,hlen];refine Xu λi=>?_
   by_cases hi:i<p.length
   ·simp [X9 hi,List.getD,Qe hi]
   ·simp [Qu,hi]
  rw [e];exact en tt [.f (by simp),.c [] (Qiw _)] rfl rfl trivial
theorem Rk {p:List Int} (ht:U3 p) (hl:p.length<274877906944) (hs:Bd 4294967295 p):Uw Tryz.prog 153 [pr p] [pr p]:=by
 have:=De (Ha p) hl hs;rw [ht] at this; exact this
theorem Zc2 {p:List Int} {i:Nat} {z:Int} (h:p[i]? = some z):(p.map λ(x:Int)=>[LV.int .i64 x])[i]? = some [.int .i64 z]:=Ho h
theorem Q46 {p:List Int} (hl:p.length<274877906944) (hr:∀ z∈p,-9223372036854775808≤z/\z≤9223372036854775807):Uw Tryz.prog 146 [.one (ids p)] [pr (trim p)]:=by
 refine Hn Tryz.func146 rfl ?_;refine go tt [.r 7 (eI (b:=(p.length:Int)) (by simp)),.i p.length,.i p.length,.r 10 (eI (b:=(p.length:Int)) (by simp))] rfl (by simp [Uu]; omega) ?_;rw [E8 λk=>Hg (p.getD k 0)];refine lp (S:=Nat) 1 (λL1 k=>(11,.v (.one (.int .i64 (k:Int))))::L1) (λk=>[.row false 51 2 (fil (λk=>Hg (p.getD k 0)) [.bool false,.nils] p.length k)]) (λk=>p.length-k) (λk=>k<=p.length) 0 (Qg _) rfl (λ_ _=>rfl) rfl λk hk=>?_
 by_cases hlt:k<p.length
 ·have hg:=H8 hlt;refine go tt [.t (by simp; omega),.x (Zc2 hg),.c [] (Qu9 (hr _ (Qa hg))),.i k] rfl (by simp [Uu,Qa4]; omega) ?_;have e:=Qa5 (λk=>Hg (p.getD k 0)) [.bool false,.nils] hlt;rw [e];exact rd (k+1) (by omega) hlt rfl
 ·obtain rfl:k=p.length:=by omega
  have e:fil (λk=>Hg (p.getD k 0)) [.bool false,.nils] p.length p.length=p.map Hg:=by
   rw [Qa3];refine Xu λi=>?_
   by_cases hi:i<p.length
   ·simp [X9 hi,List.getD,Qe hi]
   ·simp [Qu,hi]
  rw [e];exact en tt [.f (by simp),.c [] (Qiw _)] rfl rfl trivial
theorem Qww (l:List Int) (i:Nat) (z:Int):(l.map Hg).set i (Hg z)=(l.set i z).map Hg:=by rw [V1]
theorem Qh9 (m:Nat):((List.replicate m [LV.bool false,LV.nils]).map λc=>c.map Qhf)=(List.replicate m (0:Int)).map Hg:=by
 simp [Lk,Qhf]
theorem Qod {p0 q:List Int} {s t:Nat} (tq:U3 q) (hlp:p0.length<137438953472) (hlq:q.length<137438953472) (hp:Bd s p0) (hq:Bd t q) (hst:s+t<=4294967000):Uw Tryz.prog 242 [pr p0,pr q] [pr (Fu (trim p0) q)]:=by
 have cp:=De (Ha p0) (by omega) (Uv hp (show s<=4294967295 by omega));have hp:=Tc hp;have hlp:=Xa (Hq p0) hlp;obtain ⟨p,ep⟩:=nmE (trim p0);rw [<-ep] at cp hp hlp ⊢;have cq:=Rk tq (by omega) (Uv hq (show t<=4294967295 by omega));by_cases h0:p.length=0
 ·have e:Fu p q=[]:=by unfold Fu; rw [if_pos (.inl h0)]
  rw [e];exact w tt Tryz.func242 rfl [.c [] cp,.c [] cq,.t (by simp; exact Qh h0),.t rfl] rfl rfl trivial
 by_cases h1:q.length=0
 ·have e:Fu p q=[]:=by unfold Fu; rw [if_pos (.inr h1)]
  rw [e];exact w tt Tryz.func242 rfl [.c [] cp,.c [] cq,.f (by simp; intro h; subst h; simp at h0),.t (by simp; exact Qh h1)] rfl rfl trivial
 refine Hn Tryz.func242 rfl ?_;have e:Fu p q=trim (No p q (List.replicate (p.length+q.length-1) 0) p.length):=by unfold Fu; rw [if_neg (by omega)]
 rw [e];obtain ⟨N,hN⟩:=nmE (p.length+q.length-1);rw [<-hN];obtain ⟨o,ho⟩:=nmE (List.replicate N (0:Int));rw [<-ho];have hol:o.length=N:=by rw [ho]; simp
 have ho0:∀ m,o.getD m 0=0:=λm=>by rw [ho]; exact Tw N m
 refine go tt [.c [] cp,.c [] cq,.f (by simp; intro h; subst h; simp at h0),.f (by simp; intro h; subst h; simp at h1),.r 27 (eI (b:=(N:Int)) (by simp; omega)),.i N,.i N] rfl (by simp [Uu]; omega) ?_;refine nl 0 rfl rfl rfl ?_;rw [Qh9,<-ho];refine lp (S:=Nat) 1 (λL1 i=>(31,.v (.one (.int .i64 (i:Int))))::L1) (λi=>[.row false 51 2 ((No p q o i).map Hg)]) (λi=>p.length-i) (λi=>i<=p.length) 0 (Qg _) rfl (λ_ _=>rfl) rfl λi hi=>?_
 by_cases hlt:i<p.length
 ·refine go tt [.t (by simp; omega),.x (S4 (H8 hlt))] rfl trivial ?_;refine lp (S:=Nat) 2 (λL1 k=>(38,.v (.one (.int .i64 (k:Int))))::L1) (λk=>[.row false 51 2 ((Ag (p.getD i 0) q i (No p q o i) k).map Hg),.blk 51 (Hg (p.getD i 0))]) (λk=>q.length-k) (λk=>k<=q.length) 0 (Qg _) rfl (λ_ _=>rfl) rfl λk hk=>?_
  by_cases hk2:k<q.length
  ·have hm1:U9 ((Ag (p.getD i 0) q i (No p q o i) k).getD (i+k) 0)<=4294967295:=Qd (El (t:=39) (Qpn (by rw [Np]; omega) (Qpm (λj hj=>by omega) ho0 (λi j=>Mg (Fb hp i) (Fb hq j))) (λj=>Mg (Fb hp i) (Fb hq j)) (i+k)) (Kn (show i+1<549755813888 by omega) (by decide))) (by omega);have hm2:U9 (p.getD i 0*q.getD k 0)<=4294967295:=Qd (Ft _ _) (by have:=Fb hp i; have:=Fb hq k; omega);have hg:(Ag (p.getD i 0) q i (No p q o i) k)[i+k]? = some ((Ag (p.getD i 0) q i (No p q o i) k).getD (i+k) 0):=H8 (by rw [Ah,Np]; omega);refine go tt [.t (by simp; omega),.x (S4 (H8 hk2)),.i (i+k),.x (S4 hg),.c [] (Ef (U0 _) (U0 _) (Qd (Fb hp i) (by omega)) (Qd (Fb hq k) (by omega))),.c [] (Qiu (U0 _) (U0 _) hm1 hm2),.i (i+k)] rfl (by simp [Uu,Ah,Np] <;> omega) ?_;rw [Qww];exact rd (k+1) (by omega) hk2 rfl
  ·obtain rfl:k=q.length:=by omega
   exact go tt [.f (by simp)] rfl (by simp [Uu]; omega) (rd (i+1) (by omega) hlt rfl)
 ·obtain rfl:i=p.length:=by omega
  exact en tt [.f (by simp),.c [] (Qiw _)] rfl rfl trivial
theorem Zg9 {p q:List Int} {s t:Nat} (tp:U3 p) (tq:U3 q) (hlp:p.length<137438953472) (hlq:q.length<137438953472) (hp:Bd s p) (hq:Bd t q) (hst:s+t<=4294967000):Uw Tryz.prog 242 [pr p,pr q] [pr (Fu p q)]:=by
 have h:=Qod tq hlp hlq hp hq hst;rw [show trim p=p from tp] at h;exact h
theorem Qyj {p q:List Int} (hlp:p.length<274877906944) (hlq:q.length<274877906944) (hp:Bd 4294967295 p) (hq:Bd 4294967295 q):Uw Tryz.prog 274 [pr p,pr q] [.one (.bool (decide (trim p=trim q)))]:=by
 refine Hn Tryz.func274 rfl ?_;have cp:=De (Ha p) hlp hp;have cq:=De (Ha q) hlq hq;have bp:=Tc hp;have bq:=Tc hq;have l1:=Hq p;have l2:=Hq q;obtain ⟨a,ha⟩:=nmE (trim p);obtain ⟨b,hb⟩:=nmE (trim q);rw [<-ha] at cp bp l1 ⊢;rw [<-hb] at cq bq l2 ⊢;by_cases hl:a.length=b.length
 ·refine go tt [.c [] cp,.c [] cq,.f (by simp; omega)] rfl trivial ?_;refine lp (S:=Nat) 0 (λL1 i=>(18,.v (.one (.int .i64 (i:Int))))::L1) (λ_=>[]) (λi=>a.length-i) (λi=>i<=a.length/\a.take i=b.take i) 0 ⟨Qg _,rfl⟩ rfl (λ_ _=>rfl) rfl λi ⟨hi,he⟩=>?_
  by_cases hlt:i<a.length
  ·have ga:=H8 hlt;have gb:=H8 (p:=b) (k:=i) (by omega);have cc:=Qof (U0 (a.getD i 0)) (U0 (b.getD i 0)) (Fb bp i) (Fb bq i);by_cases hz:a.getD i 0=b.getD i 0
   ·refine go tt [.t (by simp; omega),.x (S4 ga),.x (S4 gb),.c [] cc,.f (by simpa using Qor.2 hz)] rfl (by simp [Uu]; omega) ?_;exact rd (i+1) (by omega) ⟨hlt,by rw [Y6,Y6,he,ga,gb,hz]⟩ rfl
   ·exact en tt [.t (by simp; omega),.x (S4 ga),.x (S4 gb),.c [] cc,.t (by have:=mt Qor.1 hz; simpa using this)] rfl (by rw [decide_eq_false]; intro h; exact hz (by rw [h])) trivial
  ·obtain rfl:i=a.length:=by omega
   rw [Q0,hl,Q0] at he;exact en tt [.f (by simp)] rfl (by rw [decide_eq_true he]) trivial
 ·exact en tt [.c [] cp,.c [] cq,.t (by simp; omega)] rfl (by rw [decide_eq_false]; intro h; exact hl (by rw [h])) trivial
theorem Q48 {p:List Int} {n d:Int} {s t:Nat} (hl:p.length<274877906944) (hp:Bd s p) (hn:U9 n<=t) (hd:U9 d<=t) (hst:s+p.length*(t+1)+2*t+10<=4294967295):Uw Tryz.prog 264 [pr p,.agg (Hg n),.agg (Hg d)] [.agg (Hg (Zec p n d))]:=by
 refine Hn Tryz.func264 rfl ?_;refine go tt [.c [] (Qu9 (z:=1) (by decide)),.r 13 (eI (b:=(p.length:Int)-1-((0:Nat):Int)) (by simp))] rfl (by simp [Uu]; omega) ?_;refine nlb 3 rfl rfl rfl ?_;have e0:[LV.bool false,LV.nils].map Qhf=Hg (Pu p n d 0).1:=by simp [Qhf,Pu,Lk]
 rw [e0];refine lp (S:=Nat) 5 (λL1 j=>(9,.v (.one (.int .i64 ((p.length:Int)-1-(j:Int)))))::L1) (λj=>[.blk 51 (Hg n),.blk 51 (Hg d),.blk 51 [.bool false,.nils],.blk 51 (Hg (Pu p n d j).1),.blk 51 (Hg (Pu p n d j).2)]) (λj=>p.length-j) (λj=>j<=p.length) 0 (Qg _) rfl (λ_ _=>rfl) rfl λj hj=>?_
 have hv:=Qqw (k:=j) hp hn hd;have hjl:j*(t+1)<=p.length*(t+1):=Qz _ (by omega);have hjl2:j*t<=j*(t+1):=Zm _ (by omega);by_cases hlt:j<p.length
 ·have hc:=Fb hp (p.length-1-j);have hm1:U9 ((Pu p n d j).1*n)<=4294967295:=Qd (Ft _ _) (by omega);have hm2:U9 (p.getD (p.length-1-j) 0*(Pu p n d j).2)<=4294967295:=Qd (Ft _ _) (by omega);refine go tt [.t (by simp; omega),.c [] (Ef (U0 _) (U0 _) (by omega) (by omega)),.r 22 (eI (b:=((p.length-1-j:Nat):Int)) (by omega)),.x (S4 (H8 (p:=p) (k:=p.length-1-j) (by omega))),.c [] (Ef (U0 _) (U0 _) (by omega) (by omega)),.c [] (Qiu (U0 _) (U0 _) hm1 hm2),.c [] (Ef (U0 _) (U0 _) (by omega) (by omega)),.r 17 (eI (b:=(p.length:Int)-1-((j+1:Nat):Int)) (by omega))] rfl (by simp [Uu] <;> omega) ?_;exact rd (j+1) (by omega) hlt rfl
 ·obtain rfl:j=p.length:=by omega
  exact en tt [.f (by simp; omega)] rfl rfl trivial
theorem A4 {p:List Int} (tp:U3 p) (hl:p.length<274877906944) (hp:Bd 4294967295 p):Uw Tryz.prog 306 [pr p] [.agg (Hg (p.getD (p.length-1) 0))]:=by
 have cn:=Rk tp hl hp;by_cases h0:p=[]
 ·subst h0;exact w tt Tryz.func306 rfl [.c [] cn,.t (by simp)] rfl (by simp [Lk]) trivial
 ·have Dv:0<p.length:=J6.2 h0;exact w tt Tryz.func306 rfl [.c [] cn,.f (by simpa using h0),.r 12 (eI (b:=((p.length-1:Nat):Int)) (by simp; omega)),.x (S4 (H8 (by omega)))] rfl rfl (by simp [Uu]; omega)
theorem Zge {a b:Int} {q:Rat} (h1:a=q.num) (h2:b=(q.den:Int)):[sg a,mg a,sg b,mg b]=rl q:=by rw [h1,h2]
theorem Qc7 {n d:Int} (h0:d≠0) (hn:U9 n<=4294967295) (hd:U9 d<=4294967295):Uw Tryz.prog 225 [.agg (Hg n),.agg (Hg d)] [.agg (rl (Rat.divInt n d))]:=by
 have cg:=Q4t (Ha [n,d]) (λz hz=>by simp at hz; rcases hz with rfl | rfl <;> assumption);have gp:=Qsh (n:=n) h0;have gs:=Qzy (n:=n) h0 hd;have m1:=Qjs n d;have m2:=Qjt n d;obtain ⟨g,hg⟩:=nmE (((G9 [n,d]:Nat):Int));rw [<-hg] at cg gp gs m1 m2;by_cases hneg:d<0
 ·obtain ⟨e1,e2⟩:=Zdg (n:=n) hneg;rw [<-hg] at e1 e2;rw [<-Zge e1 e2];exact w tt Tryz.func225 rfl [.c [] cg,.t (by simpa using hneg),.c [] (Qlr (U0 n) hn),.c [] (Qlr (U0 d) hd),.c [] (Lv (U0 _) (U0 _) (by rw [Hl]; exact hn) gs (by omega) (Q0h m1)),.c [] (Lv (U0 _) (U0 _) (by rw [Hl]; exact hd) gs (by omega) (Q0h m2))] rfl rfl trivial
 ·obtain ⟨e1,e2⟩:=Qpj (n:=n) (d:=d) (by omega);rw [<-hg] at e1 e2;rw [<-Zge e1 e2];exact w tt Tryz.func225 rfl [.c [] cg,.f (by simpa using hneg),.c [] (Lv (U0 _) (U0 _) hn gs (by omega) m1),.c [] (Lv (U0 _) (U0 _) hd gs (by omega) m2)] rfl rfl trivial
theorem Qhr {x y x' y':LV} {n d:Int} (h1:Rj x y n) (h2:Rj x' y' d) (hn:U9 n<=4294967295) (hd:U9 d<=4294967295):Uw Tryz.prog 172 [.agg [x,y,x',y']] [.agg (rl (Gx n d))]:=by
 have c1:=A5 h1 hn;have c2:=A5 h2 hd;obtain ⟨b,l,rfl,rfl,_⟩:=h1;obtain ⟨b',l',rfl,rfl,_⟩:=h2;by_cases h0:d=0
 ·have e:Gx n d=Rat.divInt n 1:=by unfold Gx; rw [if_pos h0]
  rw [e];exact w tt Tryz.func172 rfl [.c [] c2,.c [] A6,.t (by simpa using h0),.c [] (Qu9 (z:=1) (by decide)),.c [] c1,.c [] (Qc7 (by decide) hn (by decide))] rfl rfl trivial
 ·have e:Gx n d=Rat.divInt n d:=by unfold Gx; rw [if_neg h0]
  rw [e];exact w tt Tryz.func172 rfl [.c [] c2,.c [] A6,.f (by simpa using h0),.c [] c1,.c [] (Qc7 h0 hn hd)] rfl rfl trivial
theorem Qrq {q:Rat} (hq:Qs 4294967295 q):Uw Tryz.prog 172 [.agg (rl q)] [.agg (rl q)]:=by
 have:=Qhr (U0 q.num) (U0 (q.den:Int)) hq.1 hq.2;rwa [Qec] at this
theorem Qoj {a b:Rat} (ha:Qs 2147483647 a) (hb:Qs 2147483647 b):Uw Tryz.prog 213 [.agg (rl a),.agg (rl b)] [.agg (Hg (a.num*(b.den:Int))),.agg (Hg (b.num*(a.den:Int))),.agg (Hg ((a.den:Int)*(b.den:Int)))] :=
 w tt Tryz.func213 rfl [.c [] (Qrq (ha.mono (by decide))),.c [] (Qrq (hb.mono (by decide))),.c [] (Ef (U0 _) (U0 _) (Qd ha.1 (by decide)) (Qd hb.2 (by decide))),.c [] (Ef (U0 _) (U0 _) (Qd hb.1 (by decide)) (Qd ha.2 (by decide))),.c [] (Ef (U0 _) (U0 _) (Qd ha.2 (by decide)) (Qd hb.2 (by decide)))] rfl rfl trivial
theorem D6 {a b:Rat} (ha:Qs 2147483647 a) (hb:Qs 2147483647 b):Uw Tryz.prog 159 [.agg (rl a),.agg (rl b)] [.one (.int .i64 (Gt a b))] :=
 w tt Tryz.func159 rfl [.c [] (Qoj ha hb),.c [] (Qof (U0 _) (U0 _) (Qd (Ft _ _) (by have:=ha.1; have:=hb.2; omega)) (Qd (Ft _ _) (by have:=hb.1; have:=ha.2; omega)))] rfl rfl trivial
theorem Q5x {x y x' y':LV} {n d:Int} (h1:Rj x y n) (h2:Rj x' y' d) (hn:U9 n<=4294967295) (hd:U9 d<=4294967295):Uw Tryz.prog 98 [.agg [x,y,x',y'],.one (.row [])] [.agg (rl (Gx n d))]:=by
 have c1:=Qhr h1 h2 hn hd;obtain ⟨b,l,rfl,rfl,_⟩:=h1;obtain ⟨b',l',rfl,rfl,_⟩:=h2;refine Hn Tryz.func98 rfl ?_;refine go tt [.c [] c1] rfl trivial ?_;refine lp (S:=Unit) 3 (λL1 _=>(12,.v (.one (.int .i64 0)))::L1) (λ_=>[.blk 72 [.bool b,.row (lm l),.bool b',.row (lm l')],.blk 72 [.bool false,.nils,.bool false,.nils],.blk 72 (rl (Gx n d))]) (λ_=>0) (λ_=>True) () trivial rfl (λ_ _=>rfl) rfl λ_ _=>?_
 exact en tt [.f (by simp)] rfl rfl trivial
theorem Qhq {q:Rat} (hq:Qs 4294967295 q):Uw Tryz.prog 98 [.agg (rl q),.one (.row [])] [.agg (rl q)]:=by
 have:=Q5x (U0 q.num) (U0 (q.den:Int)) hq.1 hq.2;rwa [Qec] at this
theorem Zb5 {q:Rat} (hq:Qs 4294967295 q):Uw Tryz.prog 263 [.agg (rl q)] [.agg (rl q)]:=w tt Tryz.func263 rfl [.c [] (Qhq hq)] rfl rfl trivial
theorem Qyk {p:List Int} {q:Rat} {s t:Nat} (tp:U3 p) (hl:p.length<274877906944) (hp:Bd s p) (hq:Qs t q) (hst:s+p.length*(t+1)+2*t+10<=4294967295):Uw Tryz.prog 211 [pr p,.agg (rl q)] [.one (.int .i64 (Gm p q))]:=by
 have cc:=Qof (U0 (Zec p q.num q.den)) Im (Qd (Qqw hp hq.1 hq.2).1 (by omega)) (by decide);exact w tt Tryz.func211 rfl [.c [] (Zb5 (hq.mono (by omega))),.c [] (Rk tp hl (Uv hp (by omega))),.c [] (Q48 hl hp hq.1 hq.2 hst),.c [] cc] rfl rfl trivial
theorem Q5n {p:List Int} {g:Int} (hl:p.length<274877906944) (hp:Bd 4294967295 p) (hg:U9 g≤4294967295) (h0:g≠0) (hd:∀ z∈p,z % g=0):Uw Tryz.prog 245 [pr p,.agg (Hg g)] [pr (trim (p.map (· / g)))]:=by
 refine Hn Tryz.func245 rfl ?_;refine go tt [.r 9 (eI (b:=(p.length:Int)) (by simp)),.i p.length,.i p.length,.r 12 (eI (b:=(p.length:Int)) (by simp))] rfl (by simp [Uu]; omega) ?_;rw [E8 λk=>Hg (p.getD k 0 / g)];refine lp (S:=Nat) 2 (λL1 k=>(13,.v (.one (.int .i64 (k:Int))))::L1) (λk=>[.blk 51 (Hg g),.row false 51 2 (fil (λk=>Hg (p.getD k 0 / g)) [.bool false,.nils] p.length k)]) (λk=>p.length-k) (λk=>k<=p.length) 0 (Qg _) rfl (λ_ _=>rfl) rfl λk hk=>?_
 by_cases hlt:k<p.length
 ·have hg2:=H8 hlt;refine go tt [.t (by simp; omega),.x (S4 hg2),.c [] (Lv (U0 _) (U0 _) (Fb hp k) hg h0 (hd _ (Qa hg2))),.i k] rfl (by simp [Uu,Qa4]; omega) ?_;have e:=Qa5 (λk=>Hg (p.getD k 0 / g)) [.bool false,.nils] hlt;rw [e];exact rd (k+1) (by omega) hlt rfl
 ·obtain rfl:k=p.length:=by omega
  have e:fil (λk=>Hg (p.getD k 0 / g)) [.bool false,.nils] p.length p.length=(p.map (· / g)).map Hg:=by
   rw [Qa3];refine Xu λi=>?_
   by_cases hi:i<p.length
   ·simp [X9 hi,List.getD,Qe hi]
   ·simp [Qu,hi]
  rw [e];exact en tt [.f (by simp),.c [] (De (Ha (p.map (· / g))) (by simp; exact hl) (Qe2 hp g))] rfl rfl trivial
theorem Qko (p:List Int):∀ c∈p.map Hg,c.length=2:=Zga p λ_=>rfl
theorem Qoi {lx ly:List (List LV)} {px py:List Int} {x y:LV} {d:Int} (hx:IsInts lx px) (hy:IsInts ly py) (hd:Rj x y d) (hk:Cs 4294967294 1073741824 (Crv.mk px py d)):Uw Tryz.prog 185 [.agg [.row lx,.row ly,x,y]] [.agg (cl (Crv.norm (Crv.mk px py d)))]:=by
 have hlx:=hk.lx;have hly:=hk.ly;simp only at hlx hly;have htx:=Hq px;have hty:=Hq py;have hd1:U9 (Crv.mk px py d).d'<=4294967295:=Qd (Qpc hk.d (by omega)) (by omega);have hg1:=Crv.isz_g (Crv.mk px py d) hd1;have hg0:=Crv.g_ne (Crv.mk px py d);have hgd:=Crv.g_dvd (Crv.mk px py d);have cx:=De hx (by omega) (Uv hk.x (by omega));have cy:=De hy (by omega) (Uv hk.y (by omega));have cd:=A5 hd (Qd hk.d (by omega));have bx:Bd 4294967295 (trim px):=Uv (Tc hk.x) (by omega);have by_:Bd 4294967295 (trim py):=Uv (Tc hk.y) (by omega);obtain ⟨b,l,rfl,rfl,_⟩:=hd;obtain ⟨e,he⟩:=nmE ((Crv.mk px py d).d');obtain ⟨g,hgg⟩:=nmE ((Crv.mk px py d).g);obtain ⟨X,hX⟩:=nmE (trim px);obtain ⟨Y,hY⟩:=nmE (trim py);have hnorm:(Crv.mk px py d).norm=⟨trim (X.map (· / g)),trim (Y.map (· / g)),e / g⟩:=by rw [he,hgg,hX,hY]; rfl
 rw [hnorm];have hgdef:g=if e<0 then -((G9 (e::(X++Y)):Nat):Int) else (G9 (e::(X++Y)):Nat):=by rw [hgg,he,hX,hY]; rfl
 have hde:e=if d=0 then 1 else d:=by rw [he]; rfl
 simp only [<-he,<-hgg,<-hX,<-hY] at hd1 hg1 hg0 hgd htx hty cx cy bx by_;clear hnorm hgg he hX hY;refine Hn Tryz.func185 rfl ?_;refine go tt [.c [] cx,.c [] cy,.c [] cd,.c [] A6] rfl trivial ?_;refine ct 1 (S:=Unit) (λ_=>[(2,.v (.one (.ow 1 0))),(3,.v (pr X)),(4,.v (pr Y)),(5,.v (.one (.ow 2 0)))]) (λ_=>[.blk 53 [.row lx,.row ly,.bool b,.row (lm l)],.blk 53 [.nils,.nils,.bool false,.nils],.blk 51 (Hg e)]) (λ_=>True) rfl ?_ ?_
 ·by_cases h0:d=0
  ·rw [hde,if_pos h0];exact go tt [.t (by simpa using h0),.c [] (Qu9 (z:=1) (by decide))] rfl trivial (rc () trivial rfl)
  ·rw [hde,if_neg h0];exact go tt [.f (by simpa using h0)] rfl trivial (rc () trivial rfl)
 ·intro _ _;have hgi:IsInts ([Hg e]++X.map Hg++Y.map Hg) (e::(X++Y)):=by
   have:=Ha (e::(X++Y));simpa using this
  have hgs:∀ z∈e::(X++Y),U9 z≤4294967295:=λz hz=>by
   rcases Qq.1 hz with rfl | hz
   ·exact hd1
   ·rcases Qt.1 hz with hz | hz
    ·exact bx z hz
    ·exact by_ z hz
  have cg:=Q4t hgi hgs;have co1:=Q5n (p:=X) (by omega) bx hg1 hg0 λz hz=>hgd z (Qk _ (Jc _ hz))
  have co2:=Q5n (p:=Y) (by omega) by_ hg1 hg0 λz hz=>hgd z (Qk _ (K6 _ hz))
  have ce:=Lv (U0 e) (U0 g) hd1 hg1 hg0 (hgd e (Qx ..));have hszg:=Qhz hgs;by_cases hneg:e<0
  ·rw [if_pos hneg] at hgdef;have cn:=Qlr (U0 ((G9 (e::(X++Y)):Nat):Int)) hszg;rw [<-hgdef] at cn;exact en tt [.lo,.s (Qko X),.s (Qko Y),.c [] cg,.t (by simpa using hneg),.c [] cn,.c [] ce,.c [] co1,.c [] co2] rfl rfl (by simp [Uu]; omega)
  ·rw [if_neg hneg] at hgdef;rw [<-hgdef] at cg;exact en tt [.lo,.s (Qko X),.s (Qko Y),.c [] cg,.f (by simpa using hneg),.c [] ce,.c [] co1,.c [] co2] rfl rfl (by simp [Uu]; omega)
theorem Qrm {k:Crv} (hn:Nml k) (hk:Cs 4294967294 1073741824 k):Uw Tryz.prog 185 [.agg (cl k)] [.agg (cl k)]:=by
 have h:=Qoi (Ha k.x) (Ha k.y) (U0 k.d) hk;rw [Crv.norm_of hn] at h; exact h
theorem Qoh {lx ly:List (List LV)} {px py:List Int} {x y:LV} {d:Int} (hx:IsInts lx px) (hy:IsInts ly py) (hd:Rj x y d) (hk:Cs 4294967294 1073741824 (Crv.mk px py d)) (h0:d≠0):Uw Tryz.prog 250 [.one (.row lx),.one (.row ly),.agg [x,y]] [.agg (cl (Crv.norm (Crv.mk px py d))),.one (.int .i64 0)]:=by
 have cd:=A5 hd (Qd hk.d (by omega));have cn:=Qoi hx hy hd hk;obtain ⟨b,l,rfl,rfl,_⟩:=hd;exact w tt Tryz.func250 rfl [.c [] cd,.c [] A6,.f (by simpa using h0),.c [] cn] rfl rfl trivial
theorem Zkq {lx ly:List (List LV)} {px py:List Int} (hx:IsInts lx px) (hy:IsInts ly py) (hk:Cs 4294967294 1073741824 (Crv.mk px py 0)):Uw Tryz.prog 145 [.one (.row lx),.one (.row ly)] [.agg (cl (Crv.norm (Crv.mk px py 0)))] :=
 w tt Tryz.func145 rfl [.c [] (Qoi hx hy Im hk)] rfl rfl trivial
def Ed (x y:Int):Crv:=Crv.norm ⟨trim [x],trim [y],0⟩
theorem Qrz {x y:Int} (hx:-9223372036854775808<=x/\x<=9223372036854775807) (hy:-9223372036854775808<=y/\y<=9223372036854775807):Cs 64 1 ⟨trim [x],trim [y],0⟩:=by
 have key:∀ z:Int,-9223372036854775808<=z/\z<=9223372036854775807->U9 z<=64:=λz hz=>by
  rw [Te];have:(2:Nat)^64=18446744073709551616:=by decide
  omega
 refine ⟨Tc λz hz=>?_,Tc λz hz=>?_,Qg _,Hq [x],Hq [y]⟩
 ·rw [Qj] at hz; rw [hz]; exact key x hx
 ·rw [Qj] at hz; rw [hz]; exact key y hy
theorem Qoe {x y:Int} (hx:-9223372036854775808<=x/\x<=9223372036854775807) (hy:-9223372036854775808<=y/\y<=9223372036854775807):Uw Tryz.prog 76 [.one (.int .i64 x),.one (.int .i64 y)] [.agg (cl (Ed x y))] :=
 w tt Tryz.func76 rfl [.c [] (Q46 (p:=[x]) (show 1<274877906944 by decide) (by intro z hz; rw [Qj] at hz; rw [hz]; exact hx)),.c [] (Q46 (p:=[y]) (show 1<274877906944 by decide) (by intro z hz; rw [Qj] at hz; rw [hz]; exact hy)),.c [] (Zkq (Ha _) (Ha _) ((Qrz hx hy).mono (by omega) (by omega)))] rfl rfl trivial
theorem Zby {a b:Crv} (ha:Nml a) (hb:Nml b) (ca:Cs 4294967294 1073741824 a) (cb:Cs 4294967294 1073741824 b):Uw Tryz.prog 249 [.agg (cl a),.agg (cl b)] [.one (.bool (Ck a b))]:=by
 have na:=Qrm ha ca;have nb:=Qrm hb cb;have alx:=ca.lx;have aly:=ca.ly;have blx:=cb.lx;have bly:=cb.ly;have sx:=Qyj (p:=a.x) (q:=b.x) (by omega) (by omega) (Uv ca.x (by omega)) (Uv cb.x (by omega));have sy:=Qyj (p:=a.y) (q:=b.y) (by omega) (by omega) (Uv ca.y (by omega)) (Uv cb.y (by omega));have sd:=Qof (U0 a.d) (U0 b.d) (Qd ca.d (by omega)) (Qd cb.d (by omega));rw [ha.1,hb.1] at sx;rw [ha.2.1,hb.2.1] at sy;by_cases h1:a.x=b.x
 ·by_cases h2:a.y=b.y
  ·exact w tt Tryz.func249 rfl [.c [] na,.c [] nb,.c [] sx,.t (by simpa using h1),.c [] sy,.t (by simpa using h2),.c [] sd] rfl (by simp [Ck,h1,h2,Qor]) trivial
  ·exact w tt Tryz.func249 rfl [.c [] na,.c [] nb,.c [] sx,.t (by simpa using h1),.c [] sy,.f (by simpa using h2)] rfl (by simp [Ck,h1,h2]) trivial
 ·exact w tt Tryz.func249 rfl [.c [] na,.c [] nb,.c [] sx,.f (by simpa using h1),.f rfl] rfl (by simp [Ck,h1]) trivial
theorem Qfy {l:List Pt} {i:Nat} {p:Pt} (h:l[i]? = some p):(l.map Hi)[i]? = some [pl p.c.x,pl p.c.y,sg p.c.d,mg p.c.d,.int .i64 p.id]:=Ho h
theorem Qts (l:List Pt):∀ c∈l.map Hi,c.length=5:=Zga l λ_=>rfl
theorem Zb2 {lx ly:List (List LV)} {px py:List Int} {x y:LV} {d:Int} (hx:IsInts lx px) (hy:IsInts ly py) (hd:Rj x y d) (hk:Cs 4294967294 1073741824 (Crv.mk px py d)) (id:Int):Uw Tryz.prog 194 [.agg [.row lx,.row ly,x,y,.int .i64 id]] [.agg (Hi ⟨Crv.norm (Crv.mk px py d),id⟩)]:=by
 have cd:=A5 hd (Qd hk.d (by omega));by_cases h0:d=0
 ·subst h0;have ck:Cs 4294967294 1073741824 (Crv.mk px py 1):=⟨hk.x,hk.y,show U9 1<=4294967294 by decide,hk.lx,hk.ly⟩;have cm:=Qoh hx hy (U0 1) ck (by decide);have e:Crv.norm (Crv.mk px py 1)=Crv.norm (Crv.mk px py 0):=by simp only [Crv.norm,Crv.g,Crv.d']; rfl
  rw [e] at cm;obtain ⟨b,l,rfl,rfl,_⟩:=hd;exact w tt Tryz.func194 rfl [.c [] cd,.c [] A6,.t (by simp),.c [] (Qu9 (z:=1) (by decide)),.c [] cm] rfl rfl trivial
 ·have cm:=Qoh hx hy hd hk h0;obtain ⟨b,l,rfl,rfl,_⟩:=hd;exact w tt Tryz.func194 rfl [.c [] cd,.c [] A6,.f (by simpa using h0),.c [] cm] rfl rfl trivial
theorem Zkr {l:List Pt} (id:Int) (hl:l.length<1073741824):Uw Tryz.prog 193 [.agg [pts l],.one (.int .i64 id)] [.one (.int .i64 (pos l id:Int)),.one (.bool (has l id))]:=by
 refine Hn Tryz.func193 rfl ?_;refine go tt [] rfl trivial ?_;refine ct 2 (S:=Unit) (λ_=>[(1,.v (.one (.int .i64 id))),(2,.v (.one (.ow 0 0))),(6,.v (.one (.int .i64 (pos l id:Int))))]) (λ_=>[.blk 80 [pts l]]) (λ_=>True) rfl ?_ ?_
 ·refine lp (S:=Nat) 1 (λL1 k=>(6,.v (.one (.int .i64 (k:Int))))::L1) (λ_=>[.blk 80 [pts l]]) (λk=>l.length-k) (λk=>k<=l.length/\∀ j p,j<k->l[j]? = some p->p.id<id) 0 ⟨Qg _,λj p h=>by omega⟩ rfl (λ_ _=>rfl) rfl λk ⟨hk,hlt⟩=>?_
  by_cases h:k<l.length
  ·obtain ⟨p,hp⟩:=gxE (l:=l) (i:=k) h;by_cases hid:p.id<id
   ·refine go tt [.t (by simp; omega),.x (Qfy hp),.t (by simpa using hid)] rfl (by simp [Uu]; omega) ?_;exact rd (k+1) (by omega) ⟨h,λj q hj hq=>by
     rcases Q6 j k with h2 | h2
     ·exact hlt j q h2 hq
     ·have:j=k:=by omega
      subst this; rw [hp] at hq; injection hq with hq; rw [<-hq]; exact hid⟩ rfl
   ·have e:=Qw0 hlt (.inr ⟨p,hp,hid⟩);refine go tt [.t (by simp; omega),.x (Qfy hp),.f (by simpa using hid)] rfl trivial ?_;rw [e];exact rc () trivial rfl
  ·obtain rfl:k=l.length:=by omega
   have e:=Qw0 hlt (.inl rfl);refine go tt [.f (by simp),.f rfl] rfl trivial ?_;rw [e];exact rc () trivial rfl
 ·intro _ _;by_cases h:pos l id<l.length
  ·obtain ⟨p,hp⟩:=gxE (l:=l) (i:=pos l id) h;have e:has l id=decide (p.id=id):=by simp [has,hp]
   rw [e];exact en tt [.g 30 true (by simp; omega),.x (Qfy hp)] rfl rfl trivial
  ·have e:has l id=false:=by simp [has,Qu (Vg h)]
   rw [e];exact en tt [.g 30 false (by simp; omega)] rfl rfl trivial
theorem Q4x {l:List Pt}:Uw Tryz.prog 173 [.agg [pts l]] [.one (pts l)]:=w tt Tryz.func173 rfl [] rfl rfl trivial
theorem Zkj {lx ly:List (List LV)} {px py:List Int} {x y:LV} {d id:Int} {l:List Pt} (hx:IsInts lx px) (hy:IsInts ly py) (hd:Rj x y d) (hk:Cs 4294967294 1073741824 (Crv.mk px py d)) (hl:l.length<=1000000) :
 Uw Tryz.prog 123 [.agg [pts l],.agg [.row lx,.row ly,x,y,.int .i64 id]] [.agg [pts (if Qai l (Pt.mk (Crv.norm (Crv.mk px py d)) id)=0 then put l (Pt.mk (Crv.norm (Crv.mk px py d)) id) else l)],.one (.int .i64 (Qai l (Pt.mk (Crv.norm (Crv.mk px py d)) id)))]:=by
 have ca:=Zkr (l:=l) id (by omega);have cf:=Zb2 hx hy hd hk id;obtain ⟨b,r,rfl,rfl,_⟩:=hd;obtain ⟨q,hq⟩:=nmE (Pt.mk (Crv.norm (Crv.mk px py d)) id);have hqi:q.id=id:=by rw [hq]
 rw [<-hq] at cf ⊢;have Dv:=Q8w l id;by_cases h1:has l id=true
 ·have e:Qai l q=6:=by simp [Qai,hqi,h1]
  rw [e,if_neg (by decide)];exact w tt Tryz.func123 rfl [.c [] ca,.t h1] rfl rfl trivial
 by_cases h2:6<=l.length
 ·have e:Qai l q=9:=by simp [Qai,hqi,h1,h2]
  rw [e,if_neg (by decide)];exact w tt Tryz.func123 rfl [.c [] ca,.f (by simpa using h1),.t (by simp; omega)] rfl rfl trivial
 have e:Qai l q=0:=by simp [Qai,hqi,h1,h2]
 rw [e,if_pos rfl];have s1:∀ c∈(l.map Hi).take (pos l id),c.length=5:=λc hc=>Qts l c (Ql hc)
 have s3:∀ c∈(l.map Hi).drop (pos l id),c.length=5:=λc hc=>Qts l c (Ze hc)
 refine w tt Tryz.func123 rfl [.c [] ca,.f (by simpa using h1),.f (by simp; omega),.i (pos l id),.s s1,.c [] cf,.i (pos l id),.s s3] rfl ?_ ?_
 ·simp [put,hqi,pts,Yb,W6,Hi]
 ·simp [Uu];exact ⟨by omega,Dv,λ_ _=>rfl,by omega,by omega,Dv⟩
theorem Q8a:∀ (qs:List Pt),(Tx [] qs).1.length<=qs.length:=by
 have key:∀ (qs acc:List Pt),(Tx acc qs).1.length<=acc.length+qs.length:=by
  intro qs
  induction qs with
  | nil=>intro acc; simp [Tx]
  |
   cons q qs ih =>
   intro acc;simp only [Tx]
   split
   ·have:=ih (put acc q); rw [Q0y] at this; simp only [Q7]; omega
   ·simp
 intro qs;have:=key qs [];simpa using this
theorem Zkg {zs:List (List LV)} {qs:List Pt} (hz:IsPts 4294967294 1073741824 zs qs) (hl:qs.length<=6):Uw Tryz.prog 129 [.one (.row zs)] [.agg [pts (Tx [] qs).1],.one (.int .i64 (Tx [] qs).2)]:=by
 refine Hn Tryz.func129 rfl ?_;have hzl:=hz.len;refine go tt [.f (by simp; omega)] rfl trivial ?_;refine nlb 1 rfl rfl rfl ?_;refine lp (S:=Nat) 2 (λL1 i=>(14,.v (.one (.int .i64 (i:Int))))::L1) (λi=>[.blk 80 [.nils],.blk 80 [pts (Tx [] (qs.take i)).1]]) (λi=>qs.length-i) (λi=>i<=qs.length/\(Tx [] (qs.take i)).2=0) 0 ⟨Qg _,rfl⟩ rfl (λ_ _=>rfl) rfl λi ⟨hi,h0⟩=>?_
 by_cases hlt:i<qs.length
 ·have hqi:qs[i]? = some qs[i]:=Qe hlt;obtain ⟨z,hzi,lx,ly,b,r,px,py,d,rfl,hx,hy,hd,hk,hc⟩:=hz.get hqi;have hq:(Pt.mk (Crv.norm (Crv.mk px py d)) qs[i].id)=qs[i]:=by rw [<-hc]
  have hst:=Q3a [] qs hqi (by rw [<-h0]);have hnl:=Q8a (qs.take i);have cp:=Zkj (l:=(Tx [] (qs.take i)).1) (id:=qs[i].id) hx hy hd hk (by rw [Qr] at hnl; omega);rw [hq] at cp;by_cases he:Qai (Tx [] (qs.take i)).1 qs[i]=0
  ·rw [if_pos he] at hst;rw [he,if_pos rfl] at cp;refine go tt [.t (by simp; omega),.x hzi,.c [] cp,.f rfl] rfl (by simp [Uu]; omega) ?_;exact rd (i+1) (by omega) ⟨hlt,by rw [hst]⟩ (by rw [hst]; rfl)
  ·rw [if_neg he] at hst;have herr:=Q79 [] qs he hst;rw [herr];exact en tt [.t (by simp; omega),.x hzi,.c [] cp,.t (by simpa using he)] rfl rfl trivial
 ·obtain rfl:i=qs.length:=by omega
  rw [Q0] at h0;rw [Q0,h0];exact en tt [.f (by simp; omega)] rfl rfl trivial
theorem Zhe {l:List Pt} (hok:∀ p∈l,Quu 4294967294 1073741824 p) (hl:l.length<1073741824):Uw Tryz.prog 189 [.agg [pts l]] [.one (pts (Sb l))]:=by
 refine Hn Tryz.func189 rfl ?_;refine go tt [.o 3 135 5] rfl trivial ?_;refine lp (S:=Nat) 2 (λL1 i=>(12,.v (.one (.int .i64 (i:Int))))::(3,.v (.one (.orow 1 5 none)))::L1) (λi=>[.blk 80 [pts l],.row false 135 5 (((l.take i).foldl Sv []).map Hi)]) (λi=>l.length-i) (λi=>i<=l.length) 0 (Qg _) rfl (λ_ _=>rfl) rfl λi hi=>?_
 by_cases hlt:i<l.length
 ·obtain ⟨p,hp⟩:=gxE (l:=l) (i:=i) hlt;obtain ⟨hn,hk⟩:=hok p (Qa hp);have hws:=Tj Sv [] l hp;have hwl:=Qb4 l i;have hwm:=Qb5 l i;obtain ⟨o,ho⟩:=nmE ((l.take i).foldl Sv []);rw [<-ho] at hws hwl hwm ⊢;refine go tt [.t (by simp; omega),.x (Qfy hp)] rfl trivial ?_;refine lp (S:=Nat) 3 (λL1 k=>(18,.v (.one (.int .i64 (k:Int))))::(6,.v (.one (.bool ((o.take k).any λq=>Ck p.c q.c))))::L1) (λk=>[.blk 80 [pts l],.row false 135 5 (o.map Hi),.blk 135 (Hi p)]) (λk=>o.length-k) (λk=>k<=o.length) 0 (Qg _) rfl (λ_ _=>rfl) rfl λk hk2=>?_
  by_cases hk3:k<o.length
  ·obtain ⟨q,hq⟩:=gxE (l:=o) (i:=k) hk3;obtain ⟨hqn,hqk⟩:=hok q (hwm q (Qa hq));have hany:((o.take (k+1)).any λq=>Ck p.c q.c)=(((o.take k).any λq=>Ck p.c q.c) || Ck p.c q.c):=by rw [Y6,hq,List.any_append]; simp
   cases hb:(o.take k).any λq=>Ck p.c q.c with
   |
    true =>
    rw [hb] at hany;refine go tt [.t (by simp; omega),.i k,.x (Qfy hq),.t rfl,.r 29 (v:=.one (.bool ((o.take (k+1)).any λq=>Ck p.c q.c))) (by rw [hany]; rfl)] rfl (by simp [Uu]; omega) ?_;exact rd (k+1) (by omega) hk3 rfl
   |
    false =>
    rw [hb] at hany;refine go tt [.t (by simp; omega),.i k,.x (Qfy hq),.f rfl,.c [] (Zby hn hqn hk hqk),.r 29 (v:=.one (.bool ((o.take (k+1)).any λq=>Ck p.c q.c))) (by rw [hany]; rfl)] rfl (by simp [Uu]; omega) ?_;exact rd (k+1) (by omega) hk3 rfl
  ·obtain rfl:k=o.length:=by omega
   rw [Q0];cases hb:o.any λq=>Ck p.c q.c with
   |
    true =>
    have e:Sv o p=o:=by unfold Sv; rw [if_pos hb]
    exact go tt [.f (by simp),.f rfl] rfl (by simp [Uu]; omega) (rd (i+1) (by omega) hlt (by rw [hws,e]; rfl))
   |
    false =>
    have e:Sv o p=o++[p]:=by unfold Sv; rw [if_neg (by rw [hb]; decide)]
    exact go tt [.f (by simp),.t rfl] rfl (by simp [Uu]; omega) (rd (i+1) (by omega) hlt (by rw [hws,e,Yi]; rfl))
 ·obtain rfl:i=l.length:=by omega
  exact en tt [.f (by simp)] rfl (by rw [Q0]; rfl) trivial
theorem Q1g (q:Rat):U3 [-q.num,(q.den:Int)]:=by
 have:=q.den_nz;simp [U3,trim,this]
theorem Zj8 {s:Nat} {q:Rat} (h:Qs s q):Bd s [-q.num,(q.den:Int)]:=λz hz=>by
 simp at hz;rcases hz with rfl | rfl
 ·rw [Hl]; exact h.1
 ·exact h.2
theorem Zkp {x y x' y':LV} {n d:Int} (h1:Rj x y n) (h2:Rj x' y' d) (hn:U9 n<=4294967295) (hd:U9 d<=4294967295) (hq:Qs 4294967295 (Gx n d)):Uw Tryz.prog 83 [.agg [x,y,x',y']] [.agg (qa (Gx n d))]:=by
 have c1:=Q5x h1 h2 hn hd;obtain ⟨b,l,rfl,rfl,_⟩:=h1;obtain ⟨b',l',rfl,rfl,_⟩:=h2;exact w tt Tryz.func83 rfl [.c [] c1,.c [] (Qlr (U0 _) hq.1),.c [] (Qhq hq)] rfl rfl trivial
theorem Qc9 {k:Crv} (hn:Nml k) (hk:Cs 4294967294 1073741824 k):Uw Tryz.prog 230 [.agg (cl k)] [.agg (cl k)]:=by
 have h0:k.d≠0:=by have:=hn.2.2.1; omega
 have cm:=Qoh (Ha k.x) (Ha k.y) (U0 k.d) hk h0;rw [show Crv.mk k.x k.y k.d=k from rfl,Crv.norm_of hn] at cm;exact w tt Tryz.func230 rfl [.c [] (A5 (U0 k.d) (Qd hk.d (by omega))),.c [] A6,.f (by simpa using h0),.c [] cm] rfl rfl trivial
theorem Qym {a b:Crv} (ha:Nml a) (hb:Nml b) (ca:Cb a) (cb:Cb b):Uw Tryz.prog 235 [.agg (cl a),.agg (cl b)] [pr (Hm a b)]:=by
 have l1:=ca.lx;have l2:=cb.lx;have l3:=Fz b.x a.d;have l4:=Fz a.x b.d;exact w tt Tryz.func235 rfl [.c [] (Qc9 ha (ca.mono (by omega) (by omega))),.c [] (Qc9 hb (cb.mono (by omega) (by omega))),.c [] (Ew (by omega) (Uv cb.x (by omega)) (Qd ca.d (by omega))),.c [] (Ew (by omega) (Uv ca.x (by omega)) (Qd cb.d (by omega))),.c [] (Qis (by omega) (by omega) (Uv (Gp cb.x ca.d) (by omega)) (Uv (Gp ca.x cb.d) (by omega)))] rfl rfl trivial
theorem Qyf {a b:Crv} (ha:Nml a) (hb:Nml b) (ca:Cb a) (cb:Cb b):Uw Tryz.prog 236 [.agg (cl a),.agg (cl b)] [pr (Hr a b)]:=by
 have l1:=ca.ly;have l2:=cb.ly;have l3:=Fz b.y a.d;have l4:=Fz a.y b.d;exact w tt Tryz.func236 rfl [.c [] (Qc9 ha (ca.mono (by omega) (by omega))),.c [] (Qc9 hb (cb.mono (by omega) (by omega))),.c [] (Ew (by omega) (Uv cb.y (by omega)) (Qd ca.d (by omega))),.c [] (Ew (by omega) (Uv ca.y (by omega)) (Qd cb.d (by omega))),.c [] (Qis (by omega) (by omega) (Uv (Gp cb.y ca.d) (by omega)) (Uv (Gp ca.y cb.d) (by omega)))] rfl rfl trivial
def Ll (ps:List (List Int)):List (List LV):=ps.map λp=>[pl p]
theorem Bw {ps:List (List Int)} {i:Nat} {p:List Int} (h:ps[i]? = some p):(Ll ps)[i]? = some [pl p]:=Ho h
theorem Q5h {p q:List Int}:Uw Tryz.prog 234 [pr p,pr q] [pr (Qcb p q)]:=by
 by_cases h:0<p.length
 ·exact w tt Tryz.func234 rfl [.t (by simp; omega)] rfl (by simp only [Qcb]; rw [if_pos h]) trivial
 ·exact w tt Tryz.func234 rfl [.f (by simp; exact Qh (by omega))] rfl (by simp only [Qcb]; rw [if_neg h]) trivial
theorem Q13:Uw Tryz.prog 233 [.one (.int .i64 1)] [.one (.int .i64 2)]:=w tt Tryz.func233 rfl [.t rfl,.t rfl] rfl rfl trivial
theorem Q14:Uw Tryz.prog 233 [.one (.int .i64 3)] [.one (.int .i64 3)]:=w tt Tryz.func233 rfl [.f rfl,.f rfl,.t rfl] rfl rfl trivial
theorem Q4w {k i0 i1 i2 i3 l j0 j1 j2 j3:Int}:Uw Tryz.prog 152 [.agg [.int .i64 k,.int .i64 i0,.int .i64 i1,.int .i64 i2,.int .i64 i3],.agg [.int .i64 l,.int .i64 j0,.int .i64 j1,.int .i64 j2,.int .i64 j3]] [.one (.bool (H9 [k,i0,i1,i2,i3] [l,j0,j1,j2,j3]))]:=by
 by_cases hk:k=l
 ·subst hk;rw [show H9 [k,i0,i1,i2,i3] [k,j0,j1,j2,j3]=H9 [i0,i1,i2,i3] [j0,j1,j2,j3] from by simp [H9]];refine Hn Tryz.func152 rfl ?_;refine go tt [.f (by simp)] rfl trivial ?_;refine lp (S:=Nat) 2 (λL1 i=>(19,.v (.one (.int .i64 (i:Int))))::L1) (λ_=>[.blk 88 [.int .i64 k,.int .i64 i0,.int .i64 i1,.int .i64 i2,.int .i64 i3],.blk 88 [.int .i64 k,.int .i64 j0,.int .i64 j1,.int .i64 j2,.int .i64 j3]]) (λi=>4-i) (λi=>i<=4/\H9 ([i0,i1,i2,i3].drop i) ([j0,j1,j2,j3].drop i)=H9 [i0,i1,i2,i3] [j0,j1,j2,j3]) 0 ⟨by omega,rfl⟩ rfl (λ_ _=>rfl) rfl λi ⟨hi,he⟩=>?_
  rw [<-he];rcases (show i=0\/i=1\/i=2\/i=3\/i=4 by omega) with rfl | rfl | rfl | rfl | rfl
  ·by_cases h:i0=j0
   ·exact go tt [.t rfl,.i 0,.i 0,.f (by simpa using h)] rfl (by simp [Uu]) (rd 1 (by omega) ⟨by omega,by simp [H9,h]⟩ rfl)
   ·exact en tt [.t rfl,.i 0,.i 0,.t (by simpa using h),.i 0] rfl (by simp [H9,h]) trivial
  ·by_cases h:i1=j1
   ·exact go tt [.t rfl,.i 1,.i 1,.f (by simpa using h)] rfl (by simp [Uu]) (rd 2 (by omega) ⟨by omega,by simp [H9,h]⟩ rfl)
   ·exact en tt [.t rfl,.i 1,.i 1,.t (by simpa using h),.i 1] rfl (by simp [H9,h]) trivial
  ·by_cases h:i2=j2
   ·exact go tt [.t rfl,.i 2,.i 2,.f (by simpa using h)] rfl (by simp [Uu]) (rd 3 (by omega) ⟨by omega,by simp [H9,h]⟩ rfl)
   ·exact en tt [.t rfl,.i 2,.i 2,.t (by simpa using h),.i 2] rfl (by simp [H9,h]) trivial
  ·by_cases h:i3=j3
   ·exact go tt [.t rfl,.i 3,.i 3,.f (by simpa using h)] rfl (by simp [Uu]) (rd 4 (by omega) ⟨by omega,by simp [H9,h]⟩ rfl)
   ·exact en tt [.t rfl,.i 3,.i 3,.t (by simpa using h),.i 3] rfl (by simp [H9,h]) trivial
  ·exact en tt [.f rfl] rfl (by simp [H9]) trivial
 ·exact w tt Tryz.func152 rfl [.t (by simpa using hk)] rfl (by simp [H9,hk]) trivial
abbrev zCt:List LV:=[.int .i64 0,.int .i64 0,.int .i64 0,.int .i64 0,.int .i64 0,.nils,.int .i64 0]
def He (l:List Ct):List (List LV):=l.map Qkh
theorem Qou {l:List Ct} {i:Nat} {c:Ct} (h:l[i]? = some c):(He l)[i]? = some (Qkh c):=Ho h
theorem Eg (l:List Ct):(He l).length=l.length:=by simp [He]
theorem Q6e (l:List Ct):∀ c∈He l,c.length=7:=λc hc=>by
 obtain ⟨x,_,rfl⟩:=Zx.1 hc; rfl
theorem Q7q {O:List Ct} {z:List LV} {c:Ct} {k m:Nat} {l2:List (List LV)} (hk:k<=O.length) (hp:Qaf O c O.length=k) (hm:m=O.length-k) (h2:l2.take m=((He O++[z]).drop k).take m) :
 ((He O++[z]).take (k+1)++(l2.take m++(He O++[z]).drop (k+1+m))).set k (Qkh c)=He (Qcf O c):=by
 rw [h2,<-Zi,Qsp (He O) z (Qkh c) (by rw [Eg]; omega) (by rw [Eg]; omega)];simp [Qcf,hp,He,Yb,W6]
theorem Zhc {l:List Ct} (hl:∀ c∈l,Pb c.p) (hn:l.length≤1000000):Uw Tryz.prog 86 [.one (.row (He l))] [.one (.row (He (Sr l)))]:=by
 have hcl:=Eg l;refine Hn Tryz.func86 rfl ?_;refine go tt [.o 3 90 7] rfl trivial ?_;refine lp (S:=Nat) 1 (λL1 i=>(9,.v (.one (.int .i64 (i:Int))))::(3,.v (.one (.orow 0 7 none)))::L1) (λi=>[.row false 90 7 (He (Sr (l.take i)))]) (λi=>l.length-i) (λi=>i<=l.length) 0 (Qg _) rfl (λ_ _=>rfl) rfl λi hi=>?_
 by_cases hlt:i<l.length
 ·obtain ⟨c,hc⟩:=gxE (l:=l) (i:=i) hlt;have hst:=Qxp hc;have hcp:=hl c (Qa hc);obtain ⟨O,hO⟩:=nmE (Sr (l.take i));have hOl:O.length=i:=by rw [hO,Qf6,Qr]; omega
  rw [<-hO] at hst ⊢;refine go tt [.t (by simp [hcl]; omega),.x (Qou hc)] rfl trivial ?_;refine lp (S:=Nat) 2 (λL1 k=>(6,.v (.one (.int .i64 (k:Int))))::L1) (λk=>[.row false 90 7 (He O),.blk 90 (Qkh c)]) id (λk=>k<=O.length/\Qaf O c k=Qaf O c O.length) (He O).length ⟨by rw [Eg]; exact Qi _,by rw [Eg]⟩ rfl (λ_ _=>rfl) rfl λk ⟨hk,hp⟩=>?_
  have hz:∀ y∈[zCt],y.length=7:=λy hy=>by rw [Qj.1 hy]; rfl
  have h77:∀ y∈He O++[zCt],y.length=7:=λy hy=>by
   rcases Qt.1 hy with hy | hy
   ·exact Q6e O y hy
   ·exact hz y hy
  cases k with
  |
   zero =>
   have hp:Qaf O c O.length=0:=by rw [<-hp]; rfl
   refine go tt [.g 17 false (by simp),.f rfl,.s (sz:=7) hz,.r 36 (eI (b:=((0+1:Nat):Int)) (by simp)),.i (0+1),.i (0),.s (sz:=7) (λy hy=>h77 y (Ql hy)),.i (O.length),.c [] (Rk hcp.t (by have:=hcp.l; omega) (Uv hcp.b (by omega))),.i (0)] rfl (by simp [Uu,Eg]; omega) ?_;exact rd (i+1) (by omega) hlt (by rw [hst,<-Q7q (z:=zCt) (l2:=(He O++[zCt]).take ((He O++[zCt]).length-0)) (k:=0) (m:=O.length) (by omega) hp (by omega) (by congr 1; exact Qn (by simp))]; rfl)
  |
   succ k =>
   obtain ⟨x,hx⟩:=gxE (l:=O) (i:=k) (by omega);by_cases hlc:Rz c x=true
   ·refine go tt [.g 17 true (by simp),.r 22 (eI (b:=(k:Int)) (by simp)),.i k,.x (Qou hx),.c [] Q4w,.t hlc,.r 29 (eI (b:=(k:Int)) (by simp))] rfl (by simp [Uu,Eg]; omega) ?_;exact rd k (by simp) ⟨by omega,by rw [<-hp,Zd3 hx hlc]⟩ rfl
   ·have hlc:Rz c x=false:=by simpa using hlc
    have hp:Qaf O c O.length=k+1:=by rw [<-hp,Q8v hx hlc]
    refine go tt [.g 17 true (by simp),.r 22 (eI (b:=(k:Int)) (by simp)),.i k,.x (Qou hx),.c [] Q4w,.f hlc,.s (sz:=7) hz,.r 36 (eI (b:=((k+1+1:Nat):Int)) (by simp)),.i (k+1+1),.i (k+1),.s (sz:=7) (λy hy=>h77 y (Ze (Ql hy))),.i (O.length-(k+1)),.c [] (Rk hcp.t (by have:=hcp.l; omega) (Uv hcp.b (by omega))),.i (k+1)] rfl (by simp [Uu,Eg]; omega) ?_;exact rd (i+1) (by omega) hlt (by rw [hst,<-Q7q (z:=zCt) (l2:=((He O++[zCt]).drop (k+1)).take ((He O++[zCt]).length-(k+1))) (k:=k+1) (m:=O.length-(k+1)) (by omega) hp (by omega) (by congr 1; exact Qn (by simp))]; rfl)
 ·obtain rfl:i=l.length:=by omega
  rw [Q0];exact en tt [.f (by simp [hcl])] rfl rfl trivial
end Orr
namespace Orr
def Ff (p:List Int):Int:=p.getD (p.length-1) 0
def chk (p:List Int):Option (List Int):=if p.length<=64/\(p.all λz=>Nat.ble (U9 z) 16777216)=true then some p else none
def chq (q:Rat):Option Rat:=if U9 q.num<=16777216/\U9 (q.den:Int)<=16777216 then some q else none
def Mi (p:List Int):Int:=(G9 p:Nat)
def Da (p:List Int) (c:Int):List Int:=trim (p.map (· / c))
def Hb (p:List Int):Int:=if Ff p<0 then -Mi p else Mi p
def Fg (p:List Int):List Int:=if p.length=0 then [] else Da p (Hb p)
def mono (i:Nat) (x:Int):List Int:=List.replicate i 0++[x]
def psd (b:List Int) (c:Int):Nat->List Int×List Int->List Int×List Int
 | 0,s=>s
 |
  i+1,(q,r) =>
  psd b c i (Bv (Fi q c) (mono i (if r.length=b.length+i then Ff r else 0)),Po (Fi r c) (Fu (trim (mono i (if r.length=b.length+i then Ff r else 0))) b))
def Pd (a b:List Int):List Int:=(psd b (Ff b) (a.length+1-b.length) ([],a)).2
def M8 (a b r:List Int):List Int:=if (a.length+1-b.length) % 2=1/\Ff b<0 then S5 r else r
def Qbz (r:List Int):List Int:=if r.length=0 then [] else Da r (Mi r)
def Ra (a b:List Int):List Int:=Qbz (M8 a b (Pd a b))
def Qpx (b:List Int):Nat->List Int->List Int->Option (List Int)
 | 0,a,q=>if a.length=0 then some q else none
 | i+1,a,q=>if a.length<b.length+i then Qpx b i a q else if Ff a % Ff b=0 then Qpx b i (Po a (Fu (trim (mono i (Ff a / Ff b))) b)) (q.set i (Ff a / Ff b)) else none
def Qbt (a b:List Int):Option (List Int):=if b.length=0 then none else (Qpx b (a.length+1-b.length) a (List.replicate (a.length+1-b.length) 0)).bind λq=>chk (trim q)
def Qf8:Nat->List Int->List Int->Option (List Int)
 | 0,_,_=>none
 | k+1,a,b=>if b.length=0 then some a else (chk (Ra a b)).bind λr=>Qf8 k b r
def Qah (a b:List Int):Option (List Int):=(Qf8 66 (Fg a) (Fg b)).map Fg
def Qpz (a b:List Int):Option (List Int):=(Qah [] a).bind λg=>Qah g b
def P5 (a:List Int):Option (List Int):=if (Fg a).length<2 then some (Fg a) else (chk (Gf (Fg a))).bind λd=>(Qah (Fg a) d).bind λg=>Qbt (Fg a) g
def Q24:Nat->List Int->Option (List (List Int))
 | 0,_=>none
 | k+1,g=>if g.length<2 then some [] else (chk (Gf g)).bind λd=>(Qah g d).bind λh=>(Qbt g h).bind λw=>(Q24 k h).bind λl=>some (w::l)
def Q60:List (List Int)->Option (List (List Int))
 | []=>some []
 | [w]=>some [w]
 | w::v::l=>(Qbt w v).bind λf=>(Q60 (v::l)).bind λr=>some (f::r)
def Qkg:Nat->List Int->List (List Int)->Option (List Int)
 | _,p,[]=>some p
 | i,p,f::l=>if i % 2=0 then (chk (Fu p f)).bind λq=>Qkg (i+1) q l else Qkg (i+1) p l
def Zit (a:List Int):Option (List Int):=if (Fg a).length=0 then some [] else (Q24 66 (Fg a)).bind λl=>(Q60 l).bind λfs=>Qkg 0 [1] fs
def chF:Nat->List Int->List Int->Option (List (List Int))
 | 0,_,_=>none
 | k+1,a,b=>if b.length=0 then some [] else (chk (Ra a b)).bind λr=>(chF k b (S5 r)).bind λl=>some (b::l)
def C6 (p:List Int):Option (List (List Int)):=(P5 p).bind λa=>if a.length=0 then none else (chk (Gf a)).bind λd=>(chF 66 a (Fg d)).bind λl=>some (a::l)
def Bm (sg:List Int->Int) (s:Nat×Int) (p:List Int):Nat×Int:=if sg p=0 then s else (if s.2=-(sg p) then s.1+1 else s.1,sg p)
def Qap (sg:List Int->Int) (l:List (List Int)):Nat:=(l.foldl (Bm sg) (0,0)).1
def Dq (l:List (List Int)) (q:Rat):Nat:=Qap (λp=>Gm p q) l
def Tl (l:List (List Int)) (lo hi:Rat):Int:=if Gt hi lo<0 then 0 else (Dq l lo:Int)-(Dq l hi:Int)
def Q2q (p:List Int):Int:=Int.sign (Ff p)
def Q2p (p:List Int):Int:=if p.length % 2=0 then -Int.sign (Ff p) else Int.sign (Ff p)
def Qqc (l:List (List Int)):Int:=(Qap Q2p l:Int)-(Qap Q2q l:Int)
def most:List Int->Nat:=λl=>l.foldl (λm z=>if m<z.natAbs then z.natAbs else m) 0
def Gv (p:List Int):Rat:=Rat.divInt (((Ff p).natAbs:Int)+(most (p.take (p.length-1)):Int)) ((Ff p).natAbs:Int)
def mid (a b:Rat):Rat:=Rat.divInt (a.num*(b.den:Int)+b.num*(a.den:Int)) ((a.den:Int)*(b.den:Int)*2)
def Av (p:List Int) (c:List (List Int)):Nat->Rat->Rat->Int->Option (List Tm)
 | 0,_,_,_=>none
 | k+1,lo,hi,n=>if n=0 then some [] else if n=1 then some [⟨p,lo,hi⟩] else (chq (mid lo hi)).bind λm=>(Av p c k lo m (Tl c lo m)).bind λl=>(Av p c k m hi (n-Tl c lo m)).bind λr=>some (l++r)
def Qtx (p:List Int):Option (List Tm):=(C6 p).bind λc=>(P5 p).bind λq=>(chq (Gv q)).bind λb=>Av q c 100000 (-b) b (Qqc c)
def Tm.point (a:Tm):Bool:=decide (0<=Gt a.lo a.hi)
def low (p:List Int) (q:Rat):Int:=if Gm p q≠0 then Gm p q else Gm (Gf p) q
def Qdm (p:List Int) (lo hi:Rat):Bool:=decide (Gm p hi=0\/Gm p hi≠low p lo)
def Fw (a:Tm) (t:Rat):Int :=
 if a.point=true then Gt a.lo t else if Gt t a.lo<=0 then 1 else if 0<Gt t a.hi then -1 else if Gm a.p t=0 then 0 else if Gm a.p t=low a.p a.lo then 1 else -1
def Qo8 (a:Tm):Option Tm:=if a.point=true then some a else (chq (mid a.lo a.hi)).bind λm =>
 some (if Fw a m=0 then ⟨a.p,m,m⟩ else if Fw a m=-1 then ⟨a.p,a.lo,m⟩ else ⟨a.p,m,a.hi⟩)
def Gs (p:List Int):Nat:=p.foldl (λn z=>max n (U9 z)) 0
def S6 (a b:Tm):Nat:=64+2*(U9 a.lo.num+U9 a.hi.num+U9 b.lo.num+U9 b.hi.num)+4*(a.p.length+b.p.length)*(Gs a.p+Gs b.p+(a.p.length+b.p.length)+8)
def Qkz (a b:Rat):Rat:=Rat.divInt (a.num*(b.den:Int)-b.num*(a.den:Int)) ((a.den:Int)*(b.den:Int))
def Ch (a b:Tm):Bool:=decide (Gt a.hi b.lo<=0/\¬((a.point=true/\b.point=true)/\Gt a.hi b.lo=0))
def apF:Nat->Tm->Tm->Option (Tm×Tm×Int)
 | 0,a,b=>some (a,b,0)
 |
  k+1,a,b=>if Ch a b=true then some (a,b,-1) else if Ch b a=true then some (a,b,1) else
  if 0<=Gt (Qkz a.hi a.lo) (Qkz b.hi b.lo) then (Qo8 a).bind λx=>apF k x b else (Qo8 b).bind λx=>apF k a x
def Qlg (a b:Tm):Option Int:=if a.point=true then some (-Fw b a.lo) else if b.point=true then some (Fw a b.lo) else
 let lo:=if 0<Gt b.lo a.lo then b.lo else a.lo
 let hi:=if Gt b.hi a.hi<0 then b.hi else a.hi
 if Gt lo hi<0 then (Qpz a.p b.p).bind λg=>if 1<g.length/\Qdm g lo hi=true then some 0 else (apF (S6 a b) a b).bind λr=>some r.2.2
 else (apF (S6 a b) a b).bind λr=>some r.2.2
def sgF (c:List (List Int)):Nat->Tm->Option Tm
 | 0,a=>some a
 | k+1,a=>if a.point=true\/Tl c a.lo a.hi=0 then some a else (Qo8 a).bind λx=>sgF c k x
def Qk4 (p:List Int) (a:Tm):Option Int:=if p.length=0 then some 0 else if a.point=true then some (Gm p a.lo) else
 (Qpz p a.p).bind λg=>if 1<g.length/\Qdm g a.lo a.hi=true then some 0 else (C6 p).bind λc=>(sgF c (64+2*(U9 a.lo.num+U9 a.hi.num)+4*(a.p.length+p.length)*(Gs a.p+Gs p+(a.p.length+p.length)+8)) a).bind λx=>some (Gm p x.hi)
def Io:Tm->List Tm->Option Tm
 | b,[]=>some b
 | b,a::l=>(Qlg a b).bind λc=>Io (if c<0 then a else b) l
def Qm2 (a:Tm):List Tm->Option (Option Tm)
 | []=>some none
 | r::l=>(Qlg r a).bind λc=>if 0<c then some (some r) else Qm2 a l
def Qqr (p:List Int):Option (List Tm):=(Zit p).bind λq=>if q.length=0 then some [] else Qtx q
def Qm3 (p:List Int) (a:Tm):Option (Option Tm):=(Qqr p).bind λl=>Qm2 a l
end Orr
namespace Orr
open Go Go.Proofs
set_option maxRecDepth 10000
theorem Ea {p:List Int} (tp:U3 p) (h:p.length≠0):Ff p≠0:=Hk tp (by omega)
theorem Qsw {p:List Int} (h:p.length≠0):Ff p∈p:=Qa (H8 (by omega))
theorem Me {s:Nat} {p:List Int} (h:Bd s p):U9 (Ff p)<=s:=Fb h _
theorem Ak {p:List Int}:∀ z∈p,Mi p∣z:=Oy
theorem Qac {p:List Int} (tp:U3 p) (h:p.length≠0):Mi p≠0:=λh0=>Ea tp h (Int.zero_dvd.1 (h0 ▸ Ak _ (Qsw h)))
theorem Qa7 {p:List Int} (h:Bd 4294967295 p):U9 (Mi p)<=4294967295:=Qhz h
theorem Q0q {p:List Int} (tp:U3 p) (h:p.length≠0):Hb p≠0:=by
 have:=Qac tp h;unfold Hb; split <;> omega
theorem Qd2 {p:List Int}:∀ z∈p,Hb p∣z:=λz hz=>by
 unfold Hb; split
 ·exact Us.2 (Ak z hz)
 ·exact Ak z hz
theorem Q7s {p:List Int} (h:Bd 4294967295 p):U9 (Hb p)<=4294967295:=by
 unfold Hb; split
 ·rw [Hl]; exact Qa7 h
 ·exact Qa7 h
theorem Qio {s:Nat} {p:List Int} (h:Bd s p) (c:Int):Bd s (Da p c):=Tc (Qe2 h c)
theorem Qmt (p:List Int) (c:Int):(Da p c).length<=p.length:=Qd (Hq _) (by simp)
theorem Iy (p:List Int) (c:Int):U3 (Da p c):=H6 _
theorem Q8p {p:List Int} (h:Pb p) (c:Int):Pb (Da p c):=⟨Iy _ _,Qd (Qmt _ _) h.l,Qio h.b c⟩
theorem Qpt:Pb []:=⟨rfl,by simp,Of⟩
theorem So {p:List Int} (h:Pb p):Pb (Fg p):=by
 unfold Fg; split
 ·exact Qpt
 ·exact Q8p h _
theorem Pb.bd {p:List Int} (h:Pb p):Bd 4294967295 p:=Uv h.b (by omega)
theorem Pb.ln {p:List Int} (h:Pb p):p.length<274877906944:=Xa h.l (by omega)
theorem Pb.ln' {p:List Int} (h:Pb p):p.length<8589934592:=Xa h.l (by omega)
theorem Oi {p q:List Int} (tp:U3 p) (h:chk p=some q):q=p/\Pb p:=by
 unfold chk at h
 split at h
 ·rename_i hc;injection h with h;refine ⟨h.symm,tp,hc.1,λz hz=>?_⟩;have:=Yp.1 hc.2 z hz;exact Xs this
 ·cases h
theorem Qyp {p:List Int} {g:Int} (hl:p.length<274877906944) (hp:Bd 4294967295 p) (hg:U9 g≤4294967295) (h0:g≠0) (hd:∀ z∈p,g∣z):Uw Tryz.prog 308 [pr p,.agg (Hg g)] [pr (Da p g)]:=by
 refine Hn Tryz.func308 rfl ?_;refine go tt [.r 9 (eI (b:=(p.length:Int)) (by simp)),.i p.length,.i p.length,.r 12 (eI (b:=(p.length:Int)) (by simp))] rfl (by simp [Uu]; omega) ?_;rw [E8 λk=>Hg (p.getD k 0 / g)];refine lp (S:=Nat) 2 (λL1 k=>(13,.v (.one (.int .i64 (k:Int))))::L1) (λk=>[.blk 51 (Hg g),.row false 51 2 (fil (λk=>Hg (p.getD k 0 / g)) [.bool false,.nils] p.length k)]) (λk=>p.length-k) (λk=>k<=p.length) 0 (Qg _) rfl (λ_ _=>rfl) rfl λk hk=>?_
 by_cases hlt:k<p.length
 ·have hg2:=H8 hlt;refine go tt [.t (by simp; omega),.x (S4 hg2),.c [] (Lv (U0 _) (U0 _) (Fb hp k) hg h0 (Jz (hd _ (Qa hg2)))),.i k] rfl (by simp [Uu,Qa4]; omega) ?_;have e:=Qa5 (λk=>Hg (p.getD k 0 / g)) [.bool false,.nils] hlt;rw [e];exact rd (k+1) (by omega) hlt rfl
 ·obtain rfl:k=p.length:=by omega
  have e:fil (λk=>Hg (p.getD k 0 / g)) [.bool false,.nils] p.length p.length=(p.map (· / g)).map Hg:=by
   rw [Qa3];refine Xu λi=>?_
   by_cases hi:i<p.length
   ·simp [X9 hi,List.getD,Qe hi]
   ·simp [Qu,hi]
  rw [e];exact en tt [.f (by simp),.c [] (De (Ha (p.map (· / g))) (by simp; exact hl) (Qe2 hp g))] rfl rfl trivial
theorem Qe4 {p:List Int} (hl:p.length<8589934592) (hp:Bd 4294967295 p):Uw Tryz.prog 309 [.one (.row [[pl p]])] [.agg (Hg (Mi p))]:=by
 refine Hn Tryz.func309 rfl ?_;refine go tt [.o 3 51 2] rfl trivial ?_;refine lp (S:=Nat) 2 (λL1 i=>(8,.v (.one (.int .i64 (i:Int))))::(3,.v (.one (.orow 1 2 none)))::L1) (λi=>[.blk 51 [.bool false,.nils],.row false 51 2 (if i=0 then [] else p.map Hg)]) (λi=>1-i) (λi=>i<=1) 0 (Qg _) rfl (λ_ _=>rfl) rfl λi hi=>?_
 rcases (show i=0\/i=1 by omega) with rfl | rfl
 ·refine go tt [.t rfl,.x (i:=0) (xs:=[pl p]) rfl,.s (Qko p)] rfl (by simp [Uu]; omega) ?_;exact rd 1 (by omega) (by omega) rfl
 ·exact en tt [.f rfl,.c [] (Q4t (Ha p) hp)] rfl rfl trivial
theorem Q5p {p:List Int} (tp:U3 p) (hl':p.length<8589934592) (hp:Bd 4294967295 p):Uw Tryz.prog 304 [pr p] [.agg (Hg (if p.length=0 then 0 else Hb p)),pr (Fg p)]:=by
 have hl:p.length<274877906944:=by omega
 have cn:=Rk tp hl hp;by_cases h0:p.length=0
 ·have e:p=[]:=Qh h0;subst e;exact w tt Tryz.func304 rfl [.c [] cn,.t rfl] rfl (by simp [Lk,Fg]; rfl) trivial
 ·have hpf:Fg p=Da p (Hb p):=by unfold Fg; rw [if_neg h0]
  rw [if_neg h0,hpf];have co:=Qyp hl hp (Q7s hp) (Q0q tp h0) Qd2;by_cases hneg:Ff p<0
  ·have e:Hb p=-Mi p:=by unfold Hb; rw [if_pos hneg]
   rw [e] at co ⊢;exact w tt Tryz.func304 rfl [.c [] cn,.f (by simpa using h0),.c [] (Qe4 hl' hp),.c [] (A4 tp hl hp),.t (by simpa [Ff] using hneg),.c [] (Qlr (U0 _) (Qa7 hp)),.c [] co] rfl rfl trivial
  ·have e:Hb p=Mi p:=by unfold Hb; rw [if_neg hneg]
   rw [e] at co ⊢;exact w tt Tryz.func304 rfl [.c [] cn,.f (by simpa using h0),.c [] (Qe4 hl' hp),.c [] (A4 tp hl hp),.f (by simpa [Ff] using hneg),.c [] co] rfl rfl trivial
theorem Qda {p:List Int} (hp:Pb p):Uw Tryz.prog 268 [pr p] [pr (Fg p)] :=
 w tt Tryz.func268 rfl [.c [] (Q5p hp.t hp.ln' hp.bd)] rfl rfl trivial
theorem Bh (p:List Int):Uw Tryz.prog 161 [pr p] [.one (.int .i64 ((p.length:Int)-1))]:=by
 have h:Uw Tryz.prog 161 [pr p] [.one (.int .i64 (((p.map Hg).length:Int)-1))]:=Hn Tryz.func161 rfl (ln 0 rfl rfl λhl=>en tt [] rfl rfl (by simp [Uu] at hl ⊢; omega));rw [Zc] at h; exact h
theorem Af (i:Nat) (x:Int):(mono i x).length=i+1:=by simp [mono]
theorem Qim {s i:Nat} {x:Int} (h:U9 x<=s):Bd s (mono i x):=λz hz=>by
 simp only [mono,Qt,Qj] at hz;rcases hz with hz | rfl
 ·rw [(List.mem_replicate.1 hz).2,Mf]; exact Qg _
 ·exact h
def stq (c:Int) (i:Nat) (x:Int) (q:List Int):List Int:=Bv (Fi q c) (mono i x)
def str (b:List Int) (c:Int) (i:Nat) (x:Int) (r:List Int):List Int:=Po (Fi r c) (Fu (trim (mono i x)) b)
theorem Zgy {u t i:Nat} {c x:Int} {q:List Int} (hq:Bd u q) (hc:U9 c<=t) (hx:U9 x<=u):Bd (u+t+8) (stq c i x q) :=
 Uv (Qob (Gp hq hc) (Qim hx)) (by omega)
theorem Zdb {c x:Int} {i:Nat} {q:List Int}:(stq c i x q).length<=max q.length (i+1):=by
 have h:=Qj6 (Fi q c) (mono i x);have h1:=Fz q c;rw [Af] at h;unfold stq; omega
theorem Qpf {i:Nat} {x:Int} {b:List Int}:(Fu (trim (mono i x)) b).length<=i+b.length:=by
 have h:=O5 (trim (mono i x)) b;have h1:=Hq (mono i x);rw [Af] at h1; omega
theorem Qye {u t i:Nat} {x:Int} {b:List Int} (hb:Bd t b) (hx:U9 x<=u) (hi:i<=64):Bd (u+t+7) (Fu (trim (mono i x)) b) :=
 Qc2 (Tc (Qim hx)) hb (Xa (Hq _) (by rw [Af]; omega))
theorem Qu0 {u t i:Nat} {c x:Int} {b r:List Int} (hr:Bd u r) (hb:Bd t b) (hc:U9 c<=t) (hx:U9 x<=u) (hi:i<=64):Bd (u+t+8) (str b c i x r) :=
 Uv (A1 (Gp hr hc) (Qye hb hx hi)) (by omega)
theorem Qpg {c x:Int} {i:Nat} {b r:List Int}:(str b c i x r).length<=max r.length (i+b.length):=by
 have h:=Lh (Fi r c) (Fu (trim (mono i x)) b);have h1:=Fz r c;have h2:=Qpf (i:=i) (x:=x) (b:=b);unfold str; omega
theorem Qs4 (i:Nat) (x:Int):((List.replicate (i+1) (0:Int)).map Hg).set i (Hg x)=(mono i x).map Hg:=by
 rw [Qww,mono];congr 1;refine Xu λj=>?_
 simp only [Y5,List.getElem?_append,J1,Ja];by_cases h:j=i
 ·subst h; simp
 ·rw [if_neg (by omega)];by_cases h2:j<i
  ·simp [h2]; omega
  ·rw [if_neg (by omega),if_neg h2];cases hj:j-i with
   | zero=>omega
   | succ m=>simp
theorem Q0f (i:Nat) {x:Int} {y:List LV} (h:y.map Qhf=Hg x):(((List.replicate (i+1) [LV.bool false,LV.nils]).set i y).map λc=>c.map Qhf)=(mono i x).map Hg:=by
 rw [V1,Qh9,h]; exact Qs4 i x
theorem Qag {b:List Int} {c:Int} {i:Nat} {q r:List Int} {x:Int} (hx:x=if r.length=b.length+i then Ff r else 0):psd b c (i+1) (q,r)=psd b c i (stq c i x q,str b c i x r):=by
 subst hx; rfl
theorem Q47 {a b:List Int} (ha:Pb a) (hb:Pb b) (h0:b.length≠0):Uw Tryz.prog 305 [pr a,pr b] [pr (psd b (Ff b) (a.length+1-b.length) ([],a)).1,pr (Pd a b),.one (.int .i64 ((a.length+1-b.length:Nat):Int)),.one (.int .i64 0)]:=by
 have hal:=ha.l;have hbl:=hb.l;have hlb:U9 (Ff b)<=16777216:=Me hb.b;obtain ⟨c,hc⟩:=nmE (Ff b);have cl:=A4 hb.t hb.ln hb.bd;rw [show b.getD (b.length-1) 0=c from hc.symm] at cl;obtain ⟨k,hk⟩:=nmE (a.length+1-b.length);unfold Pd;rw [<-hc,<-hk];rw [<-hc] at hlb;refine Hn Tryz.func305 rfl ?_;refine go tt [.z 4,.c [] (Rk ha.t ha.ln ha.bd),.c [] (Rk hb.t hb.ln hb.bd),.f (by simpa using h0),.c [] cl,.c [] (Bh a),.c [] (Bh b),.r 27 (eI (b:=(k:Int)) (by omega))] rfl (by simp [Uu]; omega) ?_;refine lp (S:=Nat×List Int×List Int) 1 (λL1 s=>(4,.v (pr s.2.1))::(5,.v (pr s.2.2))::(9,.v (.one (.int .i64 ((s.1:Int)-1))))::L1) (λ_=>[.blk 51 (Hg c)]) (λs=>s.1) (λs=>s.1<=k/\U3 s.2.2/\s.2.1.length<=66/\s.2.2.length<=a.length/\Bd (16777216+(k-s.1)*16777224) s.2.1/\Bd (16777216+(k-s.1)*16777224) s.2.2/\psd b c s.1 s.2=psd b c k ([],a)) (k,[],a) ⟨Qi _,ha.t,by simp,Qi _,Of,by simpa using ha.b,rfl⟩ rfl (λ_ _=>rfl) rfl λ⟨i,q,r⟩ ⟨j1,j2,j3,j4,j5,j6,j7⟩=>?_
 dsimp only at j1 j2 j3 j4 j5 j6 j7 ⊢;rw [<-j7];cases i with
 | zero=>exact en tt [.f (by simp)] rfl rfl trivial
 |
  succ i =>
  obtain ⟨x,hx⟩:=nmE (if r.length=b.length+i then Ff r else 0);obtain ⟨u,hu⟩:=nmE (16777216+(k-(i+1))*16777224);rw [<-hu] at j5 j6;have hub:u<=1107296256:=by
   have:(k-(i+1))*16777224<=64*16777224:=Qz _ (by omega);omega
  have hxs:U9 x<=u:=by
   rw [hx]; split
   ·exact Me j6
   ·rw [Mf]; exact Qg _
  have cs:=Ew (p:=q) (c:=c) (by omega) (Uv j5 (by omega)) (by omega);have cs2:=Ew (p:=r) (c:=c) (by omega) (Uv j6 (by omega)) (by omega);have l1:=Fz q c;have l2:=Fz r c;have ca:=Q42 (p:=Fi q c) (q:=mono i x) (by omega) (by rw [Af]; omega) (Uv (Gp j5 hlb) (by omega)) (Uv (Qim hxs) (by omega));have cm:=Qod (p0:=mono i x) hb.t (by rw [Af]; omega) (by omega) (Qim hxs) hb.b (by omega);have l3:=Qpf (i:=i) (x:=x) (b:=b);have cb:=Qis (p:=Fi r c) (q:=Fu (trim (mono i x)) b) (by omega) (by omega) (Uv (Gp j6 hlb) (by omega)) (Uv (Qye hb.b hxs (by omega)) (by omega));have hst:=Qag (b:=b) (c:=c) (q:=q) hx;have hI:i<=k/\U3 (str b c i x r)/\(stq c i x q).length<=66/\(str b c i x r).length<=a.length/\Bd (16777216+(k-i)*16777224) (stq c i x q)/\Bd (16777216+(k-i)*16777224) (str b c i x r):=by
   have l5:=Zdb (c:=c) (x:=x) (i:=i) (q:=q);have l6:=Qpg (c:=c) (x:=x) (i:=i) (b:=b) (r:=r);have hku:u+16777216+8=16777216+(k-i)*16777224:=by
    rw [hu,show k-i=(k-(i+1))+1 from by omega,Jp]; omega
   refine ⟨by omega,Fl _ _,by omega,by omega,?_,?_⟩
   ·rw [<-hku]; exact Zgy j5 hlb hxs
   ·rw [<-hku]; exact Qu0 j6 hb.b hlb hxs (by omega)
  rw [hst];by_cases h:r.length=b.length+i
  ·refine go tt [.t (by simp <;> omega),.c [] (Bh r),.c [] (Bh b),.t (by simp; omega),.c [] (A4 j2 (by omega) (Uv j6 (by omega))),.r 44 (eI (b:=((i+1:Nat):Int)) (by omega)),.i (i+1),.i (i+1),.r 47 (eI (b:=(i:Int)) (by omega)),.i i] rfl (by simp [Uu]; omega) ?_;refine nl 2 rfl rfl rfl ?_;rw [Q0f i (x:=x) (by rw [hx,if_pos h]; rfl)];refine go tt [.c [] cs,.c [] ca,.c [] cs2,.c [] cm,.c [] cb,.r 33 (eI (b:=(i:Int)-1) (by omega))] rfl (by simp [Uu]; omega) ?_;exact rd (i,stq c i x q,str b c i x r) (by dsimp only; omega) ⟨hI.1,hI.2.1,hI.2.2.1,hI.2.2.2.1,hI.2.2.2.2.1,hI.2.2.2.2.2,rfl⟩ rfl
  ·refine go tt [.t (by simp <;> omega),.c [] (Bh r),.c [] (Bh b),.f (by simp; omega),.r 44 (eI (b:=((i+1:Nat):Int)) (by omega)),.i (i+1),.i (i+1),.r 47 (eI (b:=(i:Int)) (by omega)),.i i] rfl (by simp [Uu]; omega) ?_;refine nl 2 rfl rfl rfl ?_;rw [Q0f i (x:=x) (by rw [hx,if_neg h,Lk]; rfl)];refine go tt [.c [] cs,.c [] ca,.c [] cs2,.c [] cm,.c [] cb,.r 33 (eI (b:=(i:Int)-1) (by omega))] rfl (by simp [Uu]; omega) ?_;exact rd (i,stq c i x q,str b c i x r) (by dsimp only; omega) ⟨hI.1,hI.2.1,hI.2.2.1,hI.2.2.2.1,hI.2.2.2.2.1,hI.2.2.2.2.2,rfl⟩ rfl
theorem Q80 {b:List Int} {c:Int} (hb:Bd 16777216 b) (hc:U9 c<=16777216) {n:Nat}:∀ (i u:Nat) (q r:List Int),i<=64->i+b.length<=n+1->U3 r->r.length<=n->Bd u r->U3 (psd b c i (q,r)).2/\(psd b c i (q,r)).2.length<=n/\Bd (u+i*16777224) (psd b c i (q,r)).2
 | 0,u,q,r,_,_,h1,h2,h3=>⟨h1,h2,by simpa [psd] using h3⟩
 |
  i+1,u,q,r,hi,hn,h1,h2,h3=>by
  rw [Qag rfl];have hx:U9 (if r.length=b.length+i then Ff r else 0)<=u:=by
   split
   ·exact Me h3
   ·rw [Mf]; exact Qg _
  have l6:=Qpg (c:=c) (x:=if r.length=b.length+i then Ff r else 0) (i:=i) (b:=b) (r:=r);have:=Q80 hb hc (n:=n) i (u+16777216+8) (stq c i (if r.length=b.length+i then Ff r else 0) q) (str b c i (if r.length=b.length+i then Ff r else 0) r) (by omega) (by omega) (Fl _ _) (by omega) (Qu0 h3 hb hc hx (by omega));exact ⟨this.1,this.2.1,Uv this.2.2 (by omega)⟩
theorem Q0t {a b:List Int} (ha:Pb a) (hb:Pb b) (h0:b.length≠0):U3 (Pd a b)/\(Pd a b).length<=a.length/\Bd 1107296256 (Pd a b):=by
 have hal:=ha.l;by_cases h:b.length<=a.length+1
 ·obtain ⟨h1,h2,h3⟩:=Q80 hb.b (Me hb.b) (n:=a.length) (a.length+1-b.length) 16777216 [] a (by omega) (by omega) ha.t (Qi _) ha.b;refine ⟨h1,h2,Uv h3 ?_⟩;have:(a.length+1-b.length)*16777224<=64*16777224:=Qz _ (by omega);omega
 ·have e:Pd a b=a:=by unfold Pd; rw [show a.length+1-b.length=0 from by omega]; rfl
  rw [e];exact ⟨ha.t,Qi _,Uv ha.b (by omega)⟩
theorem Qd7 {a b r:List Int} {s n:Nat} (h1:U3 r) (h2:r.length<=n) (h3:Bd s r):U3 (M8 a b r)/\(M8 a b r).length<=n/\Bd s (M8 a b r):=by
 unfold M8; split
 ·exact ⟨Fl _ _,Qd (Lf r) h2,Qav h3⟩
 ·exact ⟨h1,h2,h3⟩
theorem Qkp {r:List Int} {s n:Nat} (h2:r.length<=n) (h3:Bd s r):U3 (Qbz r)/\(Qbz r).length<=n/\Bd s (Qbz r):=by
 unfold Qbz; split
 ·exact ⟨rfl,by simp,Of⟩
 ·exact ⟨Iy _ _,Qd (Qmt _ _) h2,Qio h3 _⟩
theorem Qd3 {a b:List Int} (ha:Pb a) (hb:Pb b) (h0:b.length≠0):U3 (Ra a b)/\(Ra a b).length<=a.length/\Bd 1107296256 (Ra a b):=by
 obtain ⟨h1,h2,h3⟩:=Q0t ha hb h0;obtain ⟨h4,h5,h6⟩:=Qd7 (a:=a) (b:=b) h1 h2 h3;exact Qkp h5 h6
theorem Q49 {a b:List Int} (ha:Pb a) (hb:Pb b) (h0:b.length≠0):Uw Tryz.prog 269 [pr a,pr b] [pr (Ra a b),.one (.int .i64 0)]:=by
 obtain ⟨h1,h2,h3⟩:=Q0t ha hb h0;obtain ⟨h4,h5,h6⟩:=Qd7 (a:=a) (b:=b) h1 h2 h3;have hal:=ha.l;have cp:=Q47 ha hb h0;have cl:=A4 hb.t hb.ln hb.bd;have cn:=Q45 (p:=Pd a b) (by omega) (Uv h3 (by omega));unfold Ra;obtain ⟨r,hr⟩:=nmE (M8 a b (Pd a b));have cc:=Qe4 (p:=r) (by rw [hr]; omega) (by rw [hr]; exact Uv h6 (by omega));rw [<-hr] at h4 h5 h6 ⊢;obtain ⟨k,hk⟩:=nmE (a.length+1-b.length);rw [<-hk] at cp;have em:((k:Int).tmod 2)=((k % 2:Nat):Int):=by rw [Y3 (by omega)]; omega
 have key:Qbz r=if r.length=0 then [] else Da r (Mi r):=rfl
 by_cases hz:r.length=0
 ·rw [key,if_pos hz];by_cases hodd:k % 2=1
  ·by_cases hneg:Ff b<0
   ·have e:r=S5 (Pd a b):=by rw [hr]; unfold M8; rw [if_pos ⟨by rw [<-hk]; exact hodd,hneg⟩]
    rw [e] at hz;exact w tt Tryz.func269 rfl [.c [] cp,.f (by simp),.r 22 (eI em),.t (by simp; omega),.c [] cl,.t (by simpa [Ff] using hneg),.c [] cn,.t (by simpa using hz)] rfl rfl (by simp [Uu])
   ·have e:r=Pd a b:=by rw [hr]; unfold M8; rw [if_neg (λh=>hneg h.2)]
    rw [e] at hz;exact w tt Tryz.func269 rfl [.c [] cp,.f (by simp),.r 22 (eI em),.t (by simp; omega),.c [] cl,.f (by simpa [Ff] using hneg),.t (by simpa using hz)] rfl rfl (by simp [Uu])
  ·have e:r=Pd a b:=by rw [hr]; unfold M8; rw [if_neg (λh=>hodd (by rw [hk]; exact h.1))]
   rw [e] at hz;exact w tt Tryz.func269 rfl [.c [] cp,.f (by simp),.r 22 (eI em),.f (by simp; omega),.f rfl,.t (by simpa using hz)] rfl rfl (by simp [Uu])
 ·rw [key,if_neg hz];have cd:=Qyp (p:=r) (g:=Mi r) (by omega) (Uv h6 (by omega)) (Qa7 (Uv h6 (by omega))) (Qac h4 hz) Ak;by_cases hodd:k % 2=1
  ·by_cases hneg:Ff b<0
   ·have e:r=S5 (Pd a b):=by rw [hr]; unfold M8; rw [if_pos ⟨by rw [<-hk]; exact hodd,hneg⟩]
    rw [e] at hz cc cd ⊢;exact w tt Tryz.func269 rfl [.c [] cp,.f (by simp),.r 22 (eI em),.t (by simp; omega),.c [] cl,.t (by simpa [Ff] using hneg),.c [] cn,.f (by simpa using hz),.c [] cc,.c [] cd] rfl rfl (by simp [Uu])
   ·have e:r=Pd a b:=by rw [hr]; unfold M8; rw [if_neg (λh=>hneg h.2)]
    rw [e] at hz cc cd ⊢;exact w tt Tryz.func269 rfl [.c [] cp,.f (by simp),.r 22 (eI em),.t (by simp; omega),.c [] cl,.f (by simpa [Ff] using hneg),.f (by simpa using hz),.c [] cc,.c [] cd] rfl rfl (by simp [Uu])
  ·have e:r=Pd a b:=by rw [hr]; unfold M8; rw [if_neg (λh=>hodd (by rw [hk]; exact h.1))]
   rw [e] at hz cc cd ⊢;exact w tt Tryz.func269 rfl [.c [] cp,.f (by simp),.r 22 (eI em),.f (by simp; omega),.f rfl,.f (by simpa using hz),.c [] cc,.c [] cd] rfl rfl (by simp [Uu])
theorem Zc6 {s:Nat} {x:Int} (h:U9 x<=s) (g:Int):U9 (x / g)<=s:=Qe2 (p:=[x]) (λz hz=>by rw [Qj.1 hz]; exact h) g _ (by simp)
def sta (b:List Int) (i:Nat) (x:Int) (a:List Int):List Int:=Po a (Fu (trim (mono i x)) b)
theorem Zgx {u t i:Nat} {x:Int} {b a:List Int} (ha:Bd u a) (hb:Bd t b) (hx:U9 x<=u) (hi:i<=64):Bd (u+t+8) (sta b i x a) :=
 Uv (A1 ha (Qye hb hx hi)) (by omega)
theorem Qz5 {x:Int} {i:Nat} {b a:List Int}:(sta b i x a).length<=max a.length (i+b.length):=by
 have h:=Lh a (Fu (trim (mono i x)) b);have h2:=Qpf (i:=i) (x:=x) (b:=b);unfold sta; omega
theorem Zbp (s n:Nat):Bd s (List.replicate n 0):=λz hz=>by rw [(List.mem_replicate.1 hz).2,Mf]; exact Qg _
theorem Zgw {s i:Nat} {l:List Int} {x:Int} (h:Bd s l) (hx:U9 x<=s):Bd s (l.set i x):=λz hz=>by
 rcases Yd hz with hz | rfl
 ·exact h z hz
 ·exact hx
theorem Q43 {a b q:List Int} (ha:Pb a) (hb:Pb b) (h:Qbt a b=some q):Uw Tryz.prog 340 [pr a,pr b] [pr q,.one (.int .i64 0)]:=by
 unfold Qbt at h
 split at h
 ·cases h
 rename_i h0;obtain ⟨k,hk⟩:=nmE (a.length+1-b.length);rw [<-hk] at h;obtain ⟨q',hq,hq2⟩:=Qm.1 h;obtain ⟨rfl,hpb⟩:=Oi (H6 _) hq2;have hal:=ha.l;have hbl:=hb.l;refine Hn Tryz.func340 rfl ?_;refine go tt [.c [] (Rk ha.t ha.ln ha.bd),.c [] (Rk hb.t hb.ln hb.bd),.f (by simpa using h0),.r 24 (eI (b:=(k:Int)) (by simp; omega)),.i k,.i k,.r 27 (eI (b:=(k:Int)) (by simp))] rfl (by simp [Uu]; omega) ?_;refine nl 0 rfl rfl rfl ?_;rw [Qh9];refine lp (S:=Nat×List Int×List Int) 1 (λL1 s=>(0,.v (pr s.2.1))::(7,.v (.one (.int .i64 ((s.1:Int)-1))))::L1) (λs=>[.row false 51 2 (s.2.2.map Hg)]) (λs=>s.1) (λs=>s.1<=k/\U3 s.2.1/\s.2.1.length<=a.length/\Bd (16777216+(k-s.1)*16777224) s.2.1/\s.2.2.length=k/\Bd 1107296256 s.2.2/\Qpx b s.1 s.2.1 s.2.2=some q') (k,a,List.replicate k 0) ⟨Qi _,ha.t,Qi _,by simpa using ha.b,by simp,Zbp _ _,hq⟩ rfl (λ_ _=>rfl) rfl λ⟨i,A,Q⟩ ⟨j1,j2,j3,j4,j5,j7,j6⟩=>?_
 dsimp only at j1 j2 j3 j4 j5 j6 j7 ⊢;cases i with
 |
  zero =>
  simp only [Qpx] at j6
  split at j6
  ·rename_i hA;injection j6 with j6; subst j6;exact en tt [.f (by simp),.f (by simpa using hA),.c [] (De (Ha Q) (by omega) (Uv j7 (by omega)))] rfl rfl trivial
  ·cases j6
 |
  succ i =>
  obtain ⟨u,hu⟩:=nmE (16777216+(k-(i+1))*16777224);rw [<-hu] at j4;have hub:u<=1107296256:=by
   have:(k-(i+1))*16777224<=64*16777224:=Qz _ (by omega);omega
  have hku:u+16777216+8=16777216+(k-i)*16777224:=by
   rw [hu,show k-i=(k-(i+1))+1 from by omega,Jp]; omega
  simp only [Qpx] at j6;by_cases hlt:A.length<b.length+i
  ·rw [if_pos hlt] at j6;refine go tt [.t (by simp <;> omega),.c [] (Bh A),.c [] (Bh b),.t (by simp; omega),.r 32 (eI (b:=(i:Int)-1) (by omega))] rfl (by simp [Uu]; omega) ?_;exact rd (i,A,Q) (by dsimp only; omega) ⟨by dsimp only; omega,j2,j3,Uv j4 (by dsimp only; omega),j5,j7,j6⟩ rfl
  ·rw [if_neg hlt] at j6
   split at j6
   ·rename_i hdv;obtain ⟨x,hx⟩:=nmE (Ff A / Ff b);rw [<-hx] at j6;have hxs:U9 x<=u:=by rw [hx]; exact Zc6 (Me j4) _
    have ce:=Lv (U0 (Ff A)) (U0 (Ff b)) (Qd (Me j4) (by omega)) (Qd (Me hb.b) (by omega)) (Ea hb.t h0) hdv;rw [<-hx] at ce;have cm:Uw Tryz.prog 242 [.one (.row ((mono i x).map Hg)),pr b] [pr (Fu (trim (mono i x)) b)]:=Qod (p0:=mono i x) hb.t (by rw [Af]; omega) (by omega) (Qim hxs) hb.b (by omega);have l3:=Qpf (i:=i) (x:=x) (b:=b);have l4:=Qz5 (i:=i) (x:=x) (b:=b) (a:=A);have cb:=Qis (p:=A) (q:=Fu (trim (mono i x)) b) (by omega) (by omega) (Uv j4 (by omega)) (Uv (Qye hb.b hxs (by omega)) (by omega));refine go tt [.t (by simp <;> omega),.c [] (Bh A),.c [] (Bh b),.f (by simp; omega),.c [] (A4 j2 (by omega) (Uv j4 (by omega))),.c [] (A4 hb.t hb.ln hb.bd),.c [] ce,.f rfl,.r 51 (eI (b:=(i:Int)) (by omega)),.i i,.r 55 (eI (b:=((i+1:Nat):Int)) (by omega)),.i (i+1),.i (i+1),.r 58 (eI (b:=(i:Int)) (by omega))] rfl (by simp [Uu]; omega) ?_;refine nl 2 rfl rfl rfl ?_;rw [Qh9,Qww];rw [<-Qs4 i x] at cm;refine go tt [.i i,.c [] cm,.c [] cb,.r 32 (eI (b:=(i:Int)-1) (by omega))] rfl (by simp [Uu]; omega) ?_;exact rd (i,sta b i x A,Q.set i x) (by dsimp only; omega) ⟨by dsimp only; omega,Fl _ _,by dsimp only; omega,by dsimp only; rw [<-hku]; exact Zgx j4 hb.b hxs (by omega),by simpa using j5,Zgw j7 (Nat.le_trans hxs hub),j6⟩ rfl
   ·cases j6
theorem Zir {a b q:List Int} (h:Qbt a b=some q):Pb q:=by
 unfold Qbt at h
 split at h
 ·cases h
 ·obtain ⟨q',_,hq2⟩:=Qm.1 h;obtain ⟨rfl,hpb⟩:=Oi (H6 _) hq2;exact hpb
theorem Zku {a b q:List Int} (ha:Pb a) (hb:Pb b) (h:Qbt a b=some q):Uw Tryz.prog 327 [pr a,pr b] [pr q] :=
 w tt Tryz.func327 rfl [.c [] (Q43 ha hb h)] rfl rfl trivial
theorem Qqt:∀ {k:Nat} {a b g:List Int},Pb a->Pb b->Qf8 k a b=some g->Pb g
 | 0,_,_,_,_,_,h=>by cases h
 |
  k+1,a,b,g,ha,hb,h=>by
  simp only [Qf8] at h
  split at h
  ·injection h with h; subst h; exact ha
  ·rename_i h0;obtain ⟨r,hr,h⟩:=Qm.1 h;obtain ⟨rfl,hpb⟩:=Oi (Qd3 ha hb h0).1 hr;exact Qqt hb hpb h
theorem Q53 {a b g:List Int} (ha:Pb a) (hb:Pb b) (h:Qah a b=some g):Uw Tryz.prog 215 [pr a,pr b] [pr g]:=by
 unfold Qah at h;obtain ⟨g',h2,rfl⟩:=Option.map_eq_some_iff.1 h;have hg:=Qqt (So ha) (So hb) h2;refine Hn Tryz.func215 rfl ?_;refine go tt [.c [] (Qda ha),.c [] (Qda hb)] rfl trivial ?_;refine lp (S:=Nat×List Int×List Int) 0 (λL1 s=>(0,.v (pr s.2.1))::(1,.v (pr s.2.2))::L1) (λ_=>[]) (λs=>s.1) (λs=>Pb s.2.1/\Pb s.2.2/\Qf8 s.1 s.2.1 s.2.2=some g') (66,Fg a,Fg b) ⟨So ha,So hb,h2⟩ rfl (λ_ _=>rfl) rfl λ⟨k,A,C⟩ ⟨j1,j2,j3⟩=>?_
 dsimp only at j1 j2 j3 ⊢;cases k with
 | zero=>cases j3
 |
  succ k =>
  simp only [Qf8] at j3
  split at j3
  ·rename_i h0;injection j3 with j3; subst j3;exact en tt [.f (by simpa using h0),.c [] (Qda j1)] rfl rfl trivial
  ·rename_i h0;obtain ⟨r,hr,j3⟩:=Qm.1 j3;obtain ⟨rfl,hpb⟩:=Oi (Qd3 j1 j2 h0).1 hr;refine go tt [.t (by simp; omega),.c [] (Q49 j1 j2 h0)] rfl trivial ?_;exact rd (k,C,Ra A C) (by dsimp only; omega) ⟨j2,hpb,j3⟩ rfl
theorem Qpu {a b g:List Int} (ha:Pb a) (hb:Pb b) (h:Qah a b=some g):Pb g:=by
 unfold Qah at h;obtain ⟨g',h2,rfl⟩:=Option.map_eq_some_iff.1 h;exact So (Qqt (So ha) (So hb) h2)
theorem Q44 {a b g:List Int} (ha:Pb a) (hb:Pb b) (h:Qpz a b=some g):Uw Tryz.prog 160 [.one (.row (Ll [a,b]))] [pr g]:=by
 unfold Qpz at h;obtain ⟨g1,h1,h2⟩:=Qm.1 h;have hg1:=Qpu Qpt ha h1;refine Hn Tryz.func160 rfl ?_;refine go tt [.z 3] rfl trivial ?_;refine lp (S:=Nat) 0 (λL1 i=>(8,.v (.one (.int .i64 (i:Int))))::(3,.v (pr (if i=0 then [] else if i=1 then g1 else g)))::L1) (λ_=>[]) (λi=>2-i) (λi=>i<=2) 0 (Qg _) rfl (λ_ _=>rfl) rfl λi hi=>?_
 rcases (show i=0\/i=1\/i=2 by omega) with rfl | rfl | rfl
 ·refine go tt [.t rfl,.x (Bw (i:=0) (p:=a) rfl),.c [] (Q53 Qpt ha h1)] rfl (by simp [Uu]) ?_;exact rd 1 (by omega) (by omega) rfl
 ·refine go tt [.t rfl,.x (Bw (i:=1) (p:=b) rfl),.c [] (Q53 hg1 hb h2)] rfl (by simp [Uu]) ?_;exact rd 2 (by omega) (by omega) rfl
 ·exact en tt [.f rfl] rfl rfl trivial
theorem Q8n {a b g:List Int} (ha:Pb a) (hb:Pb b) (h:Qpz a b=some g):Pb g:=by
 unfold Qpz at h;obtain ⟨g1,h1,h2⟩:=Qm.1 h;exact Qpu (Qpu Qpt ha h1) hb h2
theorem Qwt {p d:List Int} (h:chk (Gf p)=some d):d=Gf p/\Pb (Gf p):=Oi (Fl _ _) h
theorem Q5b {a g:List Int} (ha:Pb a) (h:P5 a=some g):Uw Tryz.prog 298 [pr a] [pr g]:=by
 have hp:=So ha;unfold P5 at h
 split at h
 ·rename_i h0;injection h with h; subst h;exact w tt Tryz.func298 rfl [.c [] (Qda ha),.c [] (Bh _),.t (by simp; omega)] rfl rfl trivial
 ·rename_i h0;obtain ⟨d,h1,h⟩:=Qm.1 h;obtain ⟨rfl,hd⟩:=Qwt h1;obtain ⟨g1,h1,h⟩:=Qm.1 h;exact w tt Tryz.func298 rfl [.c [] (Qda ha),.c [] (Bh _),.f (by simp; omega),.c [] (Qaw hp.ln hp.bd),.c [] (Q53 hp hd h1),.c [] (Zku hp (Qpu hp hd h1) h)] rfl rfl trivial
theorem Qm7 {a g:List Int} (ha:Pb a) (h:P5 a=some g):Pb g:=by
 unfold P5 at h
 split at h
 ·injection h with h; subst h; exact So ha
 ·obtain ⟨d,h1,h⟩:=Qm.1 h;obtain ⟨g1,h1,h⟩:=Qm.1 h;exact Zir h
theorem Q8o {p:List Int} (h:Pb p):Pb (S5 p):=⟨Fl _ _,Qd (Lf p) h.l,Qav h.b⟩
theorem Qvr:∀ {k:Nat} {a b:List Int} {l:List (List Int)},Pb a->Pb b->chF k a b=some l->l.length≤k/\∀ p∈l,Pb p
 | 0,_,_,_,_,_,h=>by cases h
 |
  k+1,a,b,l,ha,hb,h=>by
  simp only [chF] at h
  split at h
  ·injection h with h; subst h; exact ⟨by simp,λp hp=>by cases hp⟩
  ·rename_i h0;obtain ⟨r,hr,h⟩:=Qm.1 h;obtain ⟨rfl,hpb⟩:=Oi (Qd3 ha hb h0).1 hr;obtain ⟨l',h1,h⟩:=Qm.1 h;injection h with h; subst h;obtain ⟨i1,i2⟩:=Qvr hb (Q8o hpb) h1;refine ⟨by simp; exact i1,λp hp=>?_⟩;rcases Qq.1 hp with rfl | hp
   ·exact hb
   ·exact i2 p hp
theorem chain_ok {p:List Int} {l:List (List Int)} (hp:Pb p) (h:C6 p=some l):l.length≤67/\∀ q∈l,Pb q:=by
 unfold C6 at h;obtain ⟨a,h1,h⟩:=Qm.1 h;have ha:=Qm7 hp h1
 split at h
 ·cases h
 ·obtain ⟨d,h2,h⟩:=Qm.1 h;obtain ⟨rfl,hd⟩:=Qwt h2;obtain ⟨l',h3,h⟩:=Qm.1 h;injection h with h; subst h;obtain ⟨i1,i2⟩:=Qvr ha (So hd) h3;refine ⟨by simp; omega,λp hp=>?_⟩;rcases Qq.1 hp with rfl | hp
  ·exact ha
  ·exact i2 p hp
theorem Qwx (l:List (List Int)) (p:List Int):Ll l++[[pl p]]=Ll (l++[p]):=by simp [Ll]
theorem Qnb (l:List (List Int)):(Ll l).length=l.length:=by simp [Ll]
theorem Zha {p:List Int} {l:List (List Int)} (hp:Pb p) (h:C6 p=some l):Uw Tryz.prog 275 [pr p] [.one (.sh [.row (Ll l)]),.one (.int .i64 0)]:=by
 unfold C6 at h;obtain ⟨a,h1,h⟩:=Qm.1 h;have ha:=Qm7 hp h1
 split at h
 ·cases h
 rename_i h0;obtain ⟨d,h2,h⟩:=Qm.1 h;obtain ⟨rfl,hd⟩:=Qwt h2;obtain ⟨l',h3,h⟩:=Qm.1 h;injection h with h; subst h;refine Hn Tryz.func275 rfl ?_;refine go tt [.c [] (Q5b hp h1),.f (by simpa using h0),.lo,.c [] (Qaw ha.ln ha.bd),.c [] (Q5p hd.t hd.ln' hd.bd)] rfl (by simp [Uu]) ?_;obtain ⟨z,hz⟩:=nmE (if (Gf a).length=0 then 0 else Hb (Gf a));rw [<-hz];refine sb [(4,.v (pr a)),(7,.v (pr (Fg (Gf a)))),(5,.v (.one (.ow 1 0)))] [.row false 48 1 [[pl a]],.blk 356 [.orow 0 1 none],.blk 51 (Hg z)] rfl rfl ?_;have hll:=(Qvr ha (So hd) h3).1;refine lp (S:=Nat×List (List Int)×List Int×List Int) 3 (λL1 s=>(4,.v (pr s.2.2.1))::(7,.v (pr s.2.2.2))::L1) (λs=>[.row false 48 1 (Ll s.2.1),.blk 356 [.orow 0 1 none],.blk 51 (Hg z)]) (λs=>s.1) (λs=>Pb s.2.2.1/\Pb s.2.2.2/\∃ m,chF s.1 s.2.2.1 s.2.2.2=some m/\s.2.1++m=a::l') (66,[a],a,Fg (Gf a)) ⟨ha,So hd,l',h3,rfl⟩ rfl (λ_ _=>rfl) rfl λ⟨k,out,A,C⟩ ⟨j1,j2,m,j3,j4⟩=>?_
 dsimp only at j1 j2 j3 j4 ⊢;have hol:out.length<=67:=by have:=congrArg List.length j4; simp at this; omega
 cases k with
 | zero=>cases j3
 |
  succ k =>
  simp only [chF] at j3
  split at j3
  ·rename_i h0;injection j3 with j3; subst j3;rw [Zy] at j4;rw [<-j4];exact en tt [.f (by simpa using h0)] rfl rfl trivial
  ·rename_i h0;obtain ⟨r,hr,j3⟩:=Qm.1 j3;obtain ⟨rfl,hpb⟩:=Oi (Qd3 j1 j2 h0).1 hr;obtain ⟨m',j6,j5⟩:=Qm.1 j3;injection j5 with j5; subst j5;refine go tt [.t (by simp; omega),.s (sz:=1) (λc hc=>by rw [Qj.1 hc]; rfl),.c [] (Q49 j1 j2 h0),.c [] (Q45 hpb.ln hpb.bd)] rfl (by simp [Uu,Qnb]; omega) ?_;exact rd (k,out++[C],C,S5 (Ra A C)) (by dsimp only; omega) ⟨j2,Q8o hpb,m',j6,by rw [<-j4]; simp⟩ (by rw [Qwx]; rfl)
structure Tb (t:Tm):Prop where
 p:Pb t.p
 lo:Qb t.lo
 hi:Qb t.hi
theorem Qzb (x y:Int):-1<=C0 x y/\C0 x y<=1:=by unfold C0; split <;> (try split) <;> omega
theorem Ib (a b:Rat):-1<=Gt a b/\Gt a b<=1:=Qzb _ _
theorem Qd6 (p:List Int) (q:Rat):-1<=Gm p q/\Gm p q<=1:=Qzb _ _
theorem Qwm (p:List Int) (q:Rat):-1<=low p q/\low p q<=1:=by unfold low; split <;> exact Qd6 _ _
theorem Qb.s31 {q:Rat} (h:Qb q):Qs 2147483647 q:=h.mono (by decide)
theorem Qb.s32 {q:Rat} (h:Qb q):Qs 4294967295 q:=h.mono (by decide)
theorem Qhc {p:List Int} {q:Rat} (hp:Pb p) (hq:Qb q):Uw Tryz.prog 211 [pr p,.agg (rl q)] [.one (.int .i64 (Gm p q))]:=by
 have hm:p.length*(16777216+1)<=64*16777217:=Qz _ hp.l;exact Qyk hp.t hp.ln hp.b hq (by omega)
theorem Zki {p:List Int} {q:Rat} (hp:Pb p) (hq:Qb q):Uw Tryz.prog 211 [pr (Gf p),.agg (rl q)] [.one (.int .i64 (Gm (Gf p) q))]:=by
 have hl:=Qd (Pi p) (show p.length-1<=64 by have:=hp.l; omega);have hm:(Gf p).length*(16777216+1)<=64*16777217:=Qz _ hl;exact Qyk (Fl _ _) (Xa hl (by omega)) (Qhp (t:=6) hp.b hp.l) hq (by omega)
theorem Cj {t:Tm} (ht:Tb t):Uw Tryz.prog 157 [.agg (ta t)] [.one (.bool t.point)] :=
 w tt Tryz.func157 rfl [.c [] (D6 ht.lo.s31 ht.hi.s31)] rfl rfl trivial
theorem Qhs {t:Tm} (ht:Tb t):Uw Tryz.prog 156 [.agg (ta t)] [.agg (ta t)] :=
 w tt Tryz.func156 rfl [.c [] (Rk ht.p.t ht.p.ln ht.p.bd),.c [] (Qhq ht.lo.s32),.c [] (Qhq ht.hi.s32)] rfl rfl trivial
theorem Q52 {t:Tm} (ht:Tb t):Uw Tryz.prog 151 [.agg (ta t)] [.agg (ta t)]:=w tt Tryz.func151 rfl [.c [] (Qhs ht)] rfl rfl trivial
theorem Q5m {p:List Int} {q:Rat} (hp:Pb p) (hq:Qb q):Uw Tryz.prog 212 [pr p,.agg (rl q)] [.one (.int .i64 (low p q))]:=by
 unfold low;by_cases h:Gm p q=0
 ·rw [if_neg (by simpa using h)];exact w tt Tryz.func212 rfl [.c [] (Qhc hp hq),.f (by simpa using h),.c [] (Qaw hp.ln hp.bd),.c [] (Zki hp hq)] rfl rfl trivial
 ·rw [if_pos h];exact w tt Tryz.func212 rfl [.c [] (Qhc hp hq),.t (by simpa using h)] rfl rfl trivial
theorem Q5k {p:List Int} {lo hi:Rat} (hp:Pb p) (hl:Qb lo) (hh:Qb hi):Uw Tryz.prog 162 [pr p,.agg (rl lo),.agg (rl hi)] [.one (.bool (Qdm p lo hi))]:=by
 by_cases h:Gm p hi=0
 ·exact w tt Tryz.func162 rfl [.c [] (Qhc hp hh),.t (by simpa using h)] rfl (by simp [Qdm,h]) trivial
 ·exact w tt Tryz.func162 rfl [.c [] (Qhc hp hh),.f (by simpa using h),.c [] (Q5m hp hl)] rfl (by simp [Qdm,h]) trivial
theorem Qu7 {t:Tm} {q:Rat} (ht:Tb t) (hq:Qb q):Uw Tryz.prog 158 [.agg (ta t),.agg (rl q)] [.one (.int .i64 (Fw t q))]:=by
 have cp:=Cj ht;unfold Fw;by_cases h1:t.point=true
 ·rw [if_pos h1];exact w tt Tryz.func158 rfl [.c [] cp,.t h1,.c [] (D6 ht.lo.s31 hq.s31)] rfl rfl trivial
 rw [if_neg h1];have h1:t.point=false:=by simpa using h1
 have c1:=D6 hq.s31 ht.lo.s31;have c2:=D6 hq.s31 ht.hi.s31;by_cases h2:Gt q t.lo<=0
 ·rw [if_pos h2];exact w tt Tryz.func158 rfl [.c [] cp,.f h1,.c [] c1,.t (by simpa using h2)] rfl rfl trivial
 rw [if_neg h2];by_cases h3:0<Gt q t.hi
 ·rw [if_pos h3];exact w tt Tryz.func158 rfl [.c [] cp,.f h1,.c [] c1,.f (by simpa using h2),.c [] c2,.t (by simpa using h3)] rfl rfl trivial
 rw [if_neg h3];by_cases h4:Gm t.p q=0
 ·rw [if_pos h4];exact w tt Tryz.func158 rfl [.c [] cp,.f h1,.c [] c1,.f (by simpa using h2),.c [] c2,.f (by simpa using h3),.c [] (Qhc ht.p hq),.t (by simpa using h4)] rfl rfl trivial
 rw [if_neg h4];by_cases h5:Gm t.p q=low t.p t.lo
 ·rw [if_pos h5];exact w tt Tryz.func158 rfl [.c [] cp,.f h1,.c [] c1,.f (by simpa using h2),.c [] c2,.f (by simpa using h3),.c [] (Qhc ht.p hq),.f (by simpa using h4),.c [] (Q5m ht.p ht.lo),.t (by simpa using h5)] rfl rfl trivial
 ·rw [if_neg h5];exact w tt Tryz.func158 rfl [.c [] cp,.f h1,.c [] c1,.f (by simpa using h2),.c [] c2,.f (by simpa using h3),.c [] (Qhc ht.p hq),.f (by simpa using h4),.c [] (Q5m ht.p ht.lo),.f (by simpa using h5)] rfl rfl trivial
theorem Zcj (t:Tm) (q:Rat):-1<=Fw t q/\Fw t q<=1:=by
 unfold Fw;have:=Ib t.lo q
 repeat' split
 all_goals omega
theorem Zcr (q:Rat):0<(q.den:Int):=by have:=q.den_pos; omega
theorem Zke {a b:Rat} (ha:Qb a) (hb:Qb b):Uw Tryz.prog 273 [.agg (rl a),.agg (rl b)] [.agg (rl (mid a b))]:=by
 have h1:U9 (a.num*(b.den:Int))<=33554432:=Qd (Ft _ _) (by have:=ha.1; have:=hb.2; omega);have h2:U9 (b.num*(a.den:Int))<=33554432:=Qd (Ft _ _) (by have:=hb.1; have:=ha.2; omega);have h3:U9 ((a.den:Int)*(b.den:Int))<=33554432:=Qd (Ft _ _) (by have:=ha.2; have:=hb.2; omega);have h4:U9 (2:Int)<=2:=by decide
 have h5:U9 (a.num*(b.den:Int)+b.num*(a.den:Int))<=33554433:=Qd (Qds _ _) (by omega);have h6:U9 ((a.den:Int)*(b.den:Int)*2)<=33554434:=Qd (Ft _ _) (by omega);have h0:(a.den:Int)*(b.den:Int)*2≠0:=by
  have:=Int.mul_pos (Zcr a) (Zcr b); omega
 exact w tt Tryz.func273 rfl [.c [] (Qoj ha.s31 hb.s31),.c [] (Qiu (U0 _) (U0 _) (by omega) (by omega)),.c [] (Qu9 (z:=2) (by decide)),.c [] (Ef (U0 _) (U0 _) (by omega) (by omega)),.c [] (Qc7 h0 (by omega) (by omega))] rfl rfl trivial
theorem Qon {a b:Rat} (ha:Qb a) (hb:Qb b):Uw Tryz.prog 217 [.agg (rl a),.agg (rl b)] [.agg (rl (Qkz a b))]:=by
 have h1:U9 (a.num*(b.den:Int))<=33554432:=Qd (Ft _ _) (by have:=ha.1; have:=hb.2; omega);have h2:U9 (b.num*(a.den:Int))<=33554432:=Qd (Ft _ _) (by have:=hb.1; have:=ha.2; omega);have h3:U9 ((a.den:Int)*(b.den:Int))<=33554432:=Qd (Ft _ _) (by have:=ha.2; have:=hb.2; omega);have h5:U9 (a.num*(b.den:Int)-b.num*(a.den:Int))<=33554433:=Qd (Qpe _ _) (by omega);have h0:(a.den:Int)*(b.den:Int)≠0:=by
  have:=Int.mul_pos (Zcr a) (Zcr b); omega
 exact w tt Tryz.func217 rfl [.c [] (Qoj ha.s31 hb.s31),.c [] (Q5f (U0 _) (U0 _) (by omega) (by omega)),.c [] (Qc7 h0 (by omega) (by omega))] rfl rfl trivial
theorem Qvt {q r:Rat} (h:chq q=some r):r=q/\Qb q:=by
 unfold chq at h
 split at h
 ·rename_i hc; injection h with h; exact ⟨h.symm,hc⟩
 ·cases h
theorem Qve {t u:Tm} (ht:Tb t) (h:Qo8 t=some u):Uw Tryz.prog 218 [.agg (ta t)] [.agg (ta u)]:=by
 have cp:=Cj ht;unfold Qo8 at h
 split at h
 ·rename_i h1;injection h with h; subst h;exact w tt Tryz.func218 rfl [.c [] cp,.t h1] rfl rfl trivial
 ·rename_i h1;have h1:t.point=false:=by simpa using h1
  obtain ⟨m,hm0,h⟩:=Qm.1 h;obtain ⟨rfl,hm⟩:=Qvt hm0;injection h with h;subst h;have cm:=Zke ht.lo ht.hi;have cc:=Qu7 ht hm;by_cases h2:Fw t (mid t.lo t.hi)=0
  ·rw [if_pos h2];exact w tt Tryz.func218 rfl [.c [] cp,.f h1,.c [] cm,.c [] cc,.t (by simpa using h2)] rfl rfl trivial
  rw [if_neg h2];by_cases h3:Fw t (mid t.lo t.hi)=-1
  ·rw [if_pos h3];exact w tt Tryz.func218 rfl [.c [] cp,.f h1,.c [] cm,.c [] cc,.f (by simpa using h2),.t (by simpa using h3)] rfl rfl trivial
  ·rw [if_neg h3];exact w tt Tryz.func218 rfl [.c [] cp,.f h1,.c [] cm,.c [] cc,.f (by simpa using h2),.f (by simpa using h3)] rfl rfl trivial
theorem Qqn {t u:Tm} (ht:Tb t) (h:Qo8 t=some u):Tb u:=by
 unfold Qo8 at h
 split at h
 ·injection h with h; subst h; exact ht
 ·obtain ⟨m,hm0,h⟩:=Qm.1 h;obtain ⟨rfl,hm⟩:=Qvt hm0;injection h with h;subst h
  repeat' split
  ·exact ⟨ht.p,hm,hm⟩
  ·exact ⟨ht.p,ht.lo,hm⟩
  ·exact ⟨ht.p,hm,ht.hi⟩
theorem A3 {z:Int} (h:U9 z<=4294967296):Uw Tryz.prog 270 [.one (mg z)] [.one (.int .i64 (U9 z:Int))]:=by
 have h1:=Qu5 (l:=Fo z.natAbs) (Cy _) (by rw [Gq]; exact h);rw [Gq] at h1; exact h1
theorem Qkt {p:List Int} {i:Nat} {z:Int} (h:p[i]? = some z):Gs (p.take (i+1))=max (Gs (p.take i)) (U9 z):=by
 unfold Gs; rw [List.take_succ,h,Option.toList_some,List.foldl_append]; rfl
theorem Pn {p:List Int} {s:Nat} (h:Bd s p):∀ i,Gs (p.take i)<=s
 | 0=>by simp [Gs]
 |
  i+1=>by
  cases hz:p[i]? with
  |
   none =>
   rw [Qn (by have:=Js.1 hz; omega),<-Qn (l:=p) (i:=i) (by have:=Js.1 hz; omega)];exact Pn h i
  | some z=>rw [Qkt hz]; have:=Pn h i; have:=Q4m h hz; omega
theorem Qop {p:List Int} (hp:Pb p):Uw Tryz.prog 271 [pr p] [.one (.int .i64 (Gs p:Int))]:=by
 have hl:=hp.l;refine Hn Tryz.func271 rfl ?_;refine go tt [] rfl trivial ?_;refine lp (S:=Nat) 0 (λL1 i=>(8,.v (.one (.int .i64 (i:Int))))::(3,.v (.one (.int .i64 (Gs (p.take i):Int))))::L1) (λ_=>[]) (λi=>p.length-i) (λi=>i<=p.length) 0 (Qg _) rfl (λ_ _=>rfl) rfl λi hi=>?_
 by_cases hlt:i<p.length
 ·have hg:=H8 hlt;have hz:=Fb hp.b i;have hs:=Qkt hg;refine go tt [.t (by simp; omega),.x (S4 hg),.c [] (A3 (by omega)),.r 16 (eI (b:=(Gs (p.take (i+1)):Int)) (by rw [hs]; omega))] rfl (by simp [Uu]; omega) ?_;exact rd (i+1) (by omega) hlt rfl
 ·obtain rfl:i=p.length:=by omega
  rw [Q0];exact en tt [.f (by simp)] rfl rfl trivial
theorem Zcf {a:Tm} {b:Tm} (ha:Tb a) (hb:Tb b):Uw Tryz.prog 216 [.agg (ta a),.agg (ta b)] [.one (.int .i64 (S6 a b:Nat))]:=by
 have l1:=ha.p.l;have l2:=hb.p.l;have b1:=ha.lo.1;have b2:=ha.hi.1;have b3:=hb.lo.1;have b4:=hb.hi.1;have s1:Gs a.p<=16777216:=by have:=Pn ha.p.b a.p.length; rwa [Q0] at this
 have s2:Gs b.p<=16777216:=by have:=Pn hb.p.b b.p.length; rwa [Q0] at this
 obtain ⟨N,hN⟩:=nmE (4*(a.p.length+b.p.length));obtain ⟨S,hS⟩:=nmE (Gs a.p+Gs b.p+(a.p.length+b.p.length)+8);have hNS:N*S<=512*33554568:=Zr (by omega) (by omega);have h0:(N:Int)*(S:Int)=((N*S:Nat):Int):=(Vm _ _).symm;have hst:S6 a b=64+2*(U9 a.lo.num+U9 a.hi.num+U9 b.lo.num+U9 b.hi.num)+N*S:=by rw [hN,hS]; rfl
 rw [hst];exact w tt Tryz.func216 rfl [.c [] (A3 (z:=a.lo.num) (by omega)),.c [] (A3 (z:=a.hi.num) (by omega)),.c [] (A3 (z:=b.lo.num) (by omega)),.c [] (A3 (z:=b.hi.num) (by omega)),.r 41 (eI (b:=(N:Int)) (by rw [hN]; simp)),.c [] (Qop ha.p),.c [] (Qop hb.p),.r 51 (eI (b:=(S:Int)) (by rw [hS]; simp)),.r 52 (eI (b:=((N*S:Nat):Int)) h0)] rfl (by simp) (by rw [h0]; simp [Uu]; omega)
def Qxs (p:List Int) (a:Tm):Nat:=64+2*(U9 a.lo.num+U9 a.hi.num)+4*(a.p.length+p.length)*(Gs a.p+Gs p+(a.p.length+p.length)+8)
theorem Qyg:Uw Tryz.prog 270 [lr []] [.one (.int .i64 0)]:=Qu5 (l:=[]) (by simp [Sm]) (by decide)
theorem Q51 {a:Tm} {p:List Int} (ha:Tb a) (hp:Pb p):Uw Tryz.prog 216 [.agg (ta a),.agg ([pl p,.bool false,.row [],.bool false,.row [],.bool false,.row [],.bool false,.row []])] [.one (.int .i64 (Qxs p a:Nat))]:=by
 have l1:=ha.p.l;have l2:=hp.l;have b1:=ha.lo.1;have b2:=ha.hi.1;have s1:Gs a.p<=16777216:=by have:=Pn ha.p.b a.p.length; rwa [Q0] at this
 have s2:Gs p<=16777216:=by have:=Pn hp.b p.length; rwa [Q0] at this
 obtain ⟨N,hN⟩:=nmE (4*(a.p.length+p.length));obtain ⟨S,hS⟩:=nmE (Gs a.p+Gs p+(a.p.length+p.length)+8);have hNS:N*S<=512*33554568:=Zr (by omega) (by omega);have h0:(N:Int)*(S:Int)=((N*S:Nat):Int):=(Vm _ _).symm;have hst:Qxs p a=64+2*(U9 a.lo.num+U9 a.hi.num)+N*S:=by rw [hN,hS]; rfl
 rw [hst];exact w tt Tryz.func216 rfl [.c [] (A3 (z:=a.lo.num) (by omega)),.c [] (A3 (z:=a.hi.num) (by omega)),.c [] Qyg,.c [] Qyg,.r 41 (eI (b:=(N:Int)) (by rw [hN]; simp)),.c [] (Qop ha.p),.c [] (Qop hp),.r 51 (eI (b:=(S:Int)) (by rw [hS]; simp)),.r 52 (eI (b:=((N*S:Nat):Int)) h0)] rfl (by simp) (by rw [h0]; simp [Uu]; omega)
def tst (sg:List Int->Int) (l:List (List Int)) (i:Nat):Nat×Int:=(l.take i).foldl (Bm sg) (0,0)
theorem Qxx {sg:List Int->Int} (hs:∀ p,-1<=sg p/\sg p<=1) (l:List (List Int)):∀ i,(tst sg l i).1<=i/\-1<=(tst sg l i).2/\(tst sg l i).2<=1
 | 0=>⟨Qi _,show (-1:Int)<=0 by decide,show (0:Int)<=1 by decide⟩
 |
  i+1=>by
  obtain ⟨h1,h2,h3⟩:=Qxx hs l i;cases h:l[i]? with
  |
   none =>
   have:tst sg l (i+1)=tst sg l i:=by unfold tst; rw [List.take_of_length_le (by have:=List.getElem?_eq_none_iff.1 h; omega),List.take_of_length_le (List.getElem?_eq_none_iff.1 h)]
   rw [this]; omega
  |
   some p =>
   have:tst sg l (i+1)=Bm sg (tst sg l i) p:=Tj _ _ _ h;rw [this];have:=hs p;unfold Bm
   split
   ·omega
   ·dsimp only; split <;> omega
theorem Zcg {l:List (List Int)} {fid:Nat} {l1:List LV} {sg:List Int->Int} (hl:l.length≤1000) (hs:∀ p,-1≤sg p/\sg p≤1) (h:∀ p∈l,Uw Tryz.prog fid [pr p,.one (.sh l1)] [.one (.int .i64 (sg p))]):Uw Tryz.prog 334 [.one (.sh [.row (Ll l)]),.one (.fn fid [] [.sh l1])] [.one (.int .i64 (Qap sg l:Nat))]:=by
 have Dv:=Qnb l;refine Hn Tryz.func334 rfl ?_;refine go tt [] rfl trivial ?_;refine lp (S:=Nat) 0 (λL1 i=>(15,.v (.one (.int .i64 (i:Int))))::(5,.v (.one (.int .i64 ((tst sg l i).1:Int))))::(6,.v (.one (.int .i64 (tst sg l i).2)))::L1) (λ_=>[]) (λi=>l.length-i) (λi=>i<=l.length) 0 (Qg _) rfl (λ_ _=>rfl) rfl λi hi=>?_
 by_cases hlt:i<l.length
 ·obtain ⟨p,hp⟩:=gxE (l:=l) (i:=i) hlt;have hst:tst sg l (i+1)=Bm sg (tst sg l i) p:=Tj _ _ _ hp;obtain ⟨b1,b2,b3⟩:=Qxx hs l i;have b4:=hs p;by_cases h0:sg p=0
  ·refine go tt [.t (by simp [Dv]; omega),.x (Bw hp),.c [] (h p (Qa hp)),.t (by simpa using h0)] rfl (by simp [Uu]; omega) ?_;exact rd (i+1) (by omega) hlt (by rw [hst,show Bm sg (tst sg l i) p=tst sg l i from by unfold Bm; rw [if_pos h0]]; rfl)
  ·by_cases h1:(tst sg l i).2=-(sg p)
   ·refine go tt [.t (by simp [Dv]; omega),.x (Bw hp),.c [] (h p (Qa hp)),.f (by simpa using h0),.t (by simpa using h1)] rfl (by simp [Uu]; omega) ?_;exact rd (i+1) (by omega) hlt (by rw [hst,show Bm sg (tst sg l i) p=((tst sg l i).1+1,sg p) from by unfold Bm; rw [if_neg h0,if_pos h1]]; rfl)
   ·refine go tt [.t (by simp [Dv]; omega),.x (Bw hp),.c [] (h p (Qa hp)),.f (by simpa using h0),.f (by simpa using h1)] rfl (by simp [Uu]; omega) ?_;exact rd (i+1) (by omega) hlt (by rw [hst,show Bm sg (tst sg l i) p=((tst sg l i).1,sg p) from by unfold Bm; rw [if_neg h0,if_neg h1]]; rfl)
 ·obtain rfl:i=l.length:=by omega
  refine en tt [.f (by simp [Dv])] rfl ?_ trivial;unfold tst Qap; rw [List.take_length]
theorem Q5e {p:List Int} {q:Rat} (hp:Pb p) (hq:Qb q):Uw Tryz.prog 335 [pr p,.one (.sh (rl q))] [.one (.int .i64 (Gm p q))]:=w tt Tryz.func335 rfl [.c [] (Qhc hp hq)] rfl rfl trivial
theorem Qyn {l:List (List Int)} {q:Rat} (hl:l.length≤1000) (hp:∀ p∈l,Pb p) (hq:Qb q):Uw Tryz.prog 311 [.one (.sh [.row (Ll l)]),.agg (rl q)] [.one (.int .i64 (Dq l q:Nat))] :=
 w tt Tryz.func311 rfl [.c [] (Zcg (fid:=335) (l1:=rl q) (sg:=λp=>Gm p q) hl (λp=>Qd6 p q) λp h=>Q5e (hp p h) hq)] rfl rfl trivial
theorem Qud {sg:List Int->Int} (hs:∀ p,-1<=sg p/\sg p<=1) (l:List (List Int)):Qap sg l<=l.length:=by
 have:=(Qxx hs l l.length).1;unfold tst at this; rwa [List.take_length] at this
theorem Q1w {l:List (List Int)} {lo hi:Rat} (hl:l.length≤1000) (hp:∀ p∈l,Pb p) (ql:Qb lo) (qh:Qb hi):Uw Tryz.prog 276 [.one (.sh [.row (Ll l)]),.agg (rl lo),.agg (rl hi)] [.one (.int .i64 (Tl l lo hi))]:=by
 have b1:Dq l lo<=l.length:=Qud (λp=>Qd6 p lo) l;have b2:Dq l hi<=l.length:=Qud (λp=>Qd6 p hi) l;have c1:=D6 qh.s31 ql.s31;unfold Tl;by_cases h:Gt hi lo<0
 ·rw [if_pos h];exact w tt Tryz.func276 rfl [.c [] c1,.t (by simpa using h)] rfl rfl trivial
 ·rw [if_neg h];exact w tt Tryz.func276 rfl [.c [] c1,.f (by simpa using h),.c [] (Qyn hl hp ql),.c [] (Qyn hl hp qh)] rfl rfl (by simp [Uu]; omega)
def zTm:List LV:=[.nils,.bool false,.nils,.bool false,.nils,.bool false,.nils,.bool false,.nils]
theorem Q3t {a b:Tm} (ha:Tb a) (hb:Tb b):S6 a b<=17179938816+200000000:=by
 have l1:=ha.p.l;have l2:=hb.p.l;have b1:=ha.lo.1;have b2:=ha.hi.1;have b3:=hb.lo.1;have b4:=hb.hi.1;have s1:Gs a.p<=16777216:=by have:=Pn ha.p.b a.p.length; rwa [Q0] at this
 have s2:Gs b.p<=16777216:=by have:=Pn hb.p.b b.p.length; rwa [Q0] at this
 have:4*(a.p.length+b.p.length)*(Gs a.p+Gs b.p+(a.p.length+b.p.length)+8)<=512*33554568:=Zr (by omega) (by omega);unfold S6; omega
theorem Zef {a b:Rat} (ha:Qb a) (hb:Qb b):Qs 2147483647 (Qkz a b):=by
 have h1:U9 (a.num*(b.den:Int))<=33554432:=Qd (Ft _ _) (by have:=ha.1; have:=hb.2; omega);have h2:U9 (b.num*(a.den:Int))<=33554432:=Qd (Ft _ _) (by have:=hb.1; have:=ha.2; omega);have h3:U9 ((a.den:Int)*(b.den:Int))<=33554432:=Qd (Ft _ _) (by have:=ha.2; have:=hb.2; omega);have h5:U9 (a.num*(b.den:Int)-b.num*(a.den:Int))<=33554433:=Qd (Qpe _ _) (by omega);exact (Qs.divInt (s:=33554433) h5 (by omega) (by omega)).mono (by omega)
theorem Qog {a b:Tm} {r:Tm×Tm×Int} (ha:Tb a) (hb:Tb b) (h:apF (S6 a b) a b=some r):Uw Tryz.prog 163 [.agg (ta a),.agg (ta b)] [.agg (ta r.1),.agg (ta r.2.1),.one (.int .i64 r.2.2)]:=by
 have hsb:=Q3t ha hb;refine Hn Tryz.func163 rfl ?_;refine go tt [.c [] (Zcf ha hb)] rfl trivial ?_;obtain ⟨n,hn⟩:=nmE (S6 a b);rw [<-hn] at h hsb ⊢;refine sb [(10,.v (.one (.int .i64 0))),(9,.v (.one (.int .i64 (n:Int)))),(5,.v (.one (.ow 3 0))),(4,.v (.one (.ow 2 0))),(3,.v (.one (.ow 1 0))),(2,.v (.one (.ow 0 0)))] [.blk 74 (ta a),.blk 74 (ta b),.blk 74 zTm,.blk 74 zTm] rfl rfl ?_;refine lp (S:=Nat×Tm×Tm) 4 (λL1 s=>(10,.v (.one (.int .i64 (s.1:Int))))::L1) (λs=>[.blk 74 (ta s.2.1),.blk 74 (ta s.2.2),.blk 74 zTm,.blk 74 zTm]) (λs=>n-s.1) (λs=>s.1<=n/\Tb s.2.1/\Tb s.2.2/\apF (n-s.1) s.2.1 s.2.2=some r) (0,a,b) ⟨Qg _,ha,hb,h⟩ rfl (λ_ _=>rfl) rfl λ⟨i,u,v⟩ ⟨j1,j2,j3,j4⟩=>?_
 dsimp only at j1 j2 j3 j4 ⊢;by_cases hi:i<n
 ·obtain ⟨k,hk⟩:∃ k,n-i=k+1:=⟨n-i-1,by omega⟩;have hk':n-(i+1)=k:=by omega
  rw [hk] at j4;have c1:=D6 j2.hi.s31 j3.lo.s31;have c2:=D6 j3.hi.s31 j2.lo.s31;have pu:=Cj j2;have pv:=Cj j3;have hlt:decide ((i:Int)<(n:Int))=true:=by simp; omega
  simp only [apF] at j4;refine go tt [.t hlt] rfl trivial ?_;refine ct 3 (S:=Unit) (λ_=>[(10,.v (.one (.int .i64 (i:Int)))),(9,.v (.one (.int .i64 (n:Int)))),(5,.v (.one (.ow 3 0))),(4,.v (.one (.ow 2 0))),(3,.v (.one (.ow 1 0))),(2,.v (.one (.ow 0 0)))]) (λ_=>[.blk 74 (ta u),.blk 74 (ta v),.blk 74 zTm,.blk 74 zTm]) (λ_=>¬Ch u v=true/\¬Ch v u=true) rfl ?_ ?_
  ·have bA:Ch u v=(decide (Gt u.hi v.lo<=0) && !(u.point && v.point && decide (Gt u.hi v.lo=0))):=by
    unfold Ch; cases u.point <;> cases v.point <;> simp
   have bB:Ch v u=(decide (Gt v.hi u.lo<=0) && !(u.point && v.point && decide (Gt v.hi u.lo=0))):=by
    unfold Ch; cases u.point <;> cases v.point <;> simp
   obtain ⟨a0,A'⟩:∃ b,decide (Gt u.hi v.lo<=0)=b:=⟨_,rfl⟩;obtain ⟨b0,B'⟩:∃ b,decide (Gt v.hi u.lo<=0)=b:=⟨_,rfl⟩;obtain ⟨p0,P'⟩:∃ b,u.point=b:=⟨_,rfl⟩;obtain ⟨q0,Q'⟩:∃ b,v.point=b:=⟨_,rfl⟩;obtain ⟨x0,X'⟩:∃ b,decide (Gt u.hi v.lo=0)=b:=⟨_,rfl⟩;obtain ⟨y0,Y'⟩:∃ b,decide (Gt v.hi u.lo=0)=b:=⟨_,rfl⟩;rw [A',P',Q',X'] at bA;rw [B',P',Q',Y'] at bB;have r1:Ch u v=true->(u,v,-1)=r:=λh=>by rw [if_pos h] at j4; injection j4
   have r2:¬Ch u v=true->Ch v u=true->(u,v,1)=r:=λh h'=>by rw [if_neg h,if_pos h'] at j4; injection j4
   clear j4;cases a0
   ·cases b0
    ·exact go tt [.c [] c1,.g 19 false A',.f rfl,.c [] c2,.g 45 false B',.f rfl] rfl trivial (rc () ⟨by rw [bA]; simp,by rw [bB]; simp⟩ rfl)
    ·cases p0
     ·obtain rfl:=r2 (by rw [bA]; simp) (by rw [bB]; rfl);exact en tt [.c [] c1,.g 19 false A',.f rfl,.c [] c2,.g 45 true B',.c [] pu,.g 48 false P',.g 52 false rfl,.t rfl] rfl rfl trivial
     ·cases q0
      ·obtain rfl:=r2 (by rw [bA]; simp) (by rw [bB]; rfl);exact en tt [.c [] c1,.g 19 false A',.f rfl,.c [] c2,.g 45 true B',.c [] pu,.g 48 true P',.c [] pv,.g 52 false Q',.t rfl] rfl rfl trivial
      ·cases y0
       ·obtain rfl:=r2 (by rw [bA]; simp) (by rw [bB]; rfl);exact en tt [.c [] c1,.g 19 false A',.f rfl,.c [] c2,.g 45 true B',.c [] pu,.g 48 true P',.c [] pv,.g 52 true Q',.c [] c2,.t (by simpa using Y')] rfl rfl trivial
       ·exact go tt [.c [] c1,.g 19 false A',.f rfl,.c [] c2,.g 45 true B',.c [] pu,.g 48 true P',.c [] pv,.g 52 true Q',.c [] c2,.f (by simpa using Y')] rfl trivial (rc () ⟨by rw [bA]; simp,by rw [bB]; simp⟩ rfl)
   ·cases p0
    ·obtain rfl:=r1 (by rw [bA]; rfl);exact en tt [.c [] c1,.g 19 true A',.c [] pu,.g 22 false P',.g 26 false rfl,.t rfl] rfl rfl trivial
    ·cases q0
     ·obtain rfl:=r1 (by rw [bA]; rfl);exact en tt [.c [] c1,.g 19 true A',.c [] pu,.g 22 true P',.c [] pv,.g 26 false Q',.t rfl] rfl rfl trivial
     ·cases x0
      ·obtain rfl:=r1 (by rw [bA]; rfl);exact en tt [.c [] c1,.g 19 true A',.c [] pu,.g 22 true P',.c [] pv,.g 26 true Q',.c [] c1,.t (by simpa using X')] rfl rfl trivial
      ·cases b0
       ·exact go tt [.c [] c1,.g 19 true A',.c [] pu,.g 22 true P',.c [] pv,.g 26 true Q',.c [] c1,.f (by simpa using X'),.c [] c2,.g 45 false B',.f rfl] rfl trivial (rc () ⟨by rw [bA]; simp,by rw [bB]; simp⟩ rfl)
       ·cases y0
        ·obtain rfl:=r2 (by rw [bA]; simp) (by rw [bB]; rfl);exact en tt [.c [] c1,.g 19 true A',.c [] pu,.g 22 true P',.c [] pv,.g 26 true Q',.c [] c1,.f (by simpa using X'),.c [] c2,.g 45 true B',.c [] pu,.g 48 true P',.c [] pv,.g 52 true Q',.c [] c2,.t (by simpa using Y')] rfl rfl trivial
        ·exact go tt [.c [] c1,.g 19 true A',.c [] pu,.g 22 true P',.c [] pv,.g 26 true Q',.c [] c1,.f (by simpa using X'),.c [] c2,.g 45 true B',.c [] pu,.g 48 true P',.c [] pv,.g 52 true Q',.c [] c2,.f (by simpa using Y')] rfl trivial (rc () ⟨by rw [bA]; simp,by rw [bB]; simp⟩ rfl)
  ·rintro _ ⟨n1,n2⟩
   rw [if_neg n1,if_neg n2] at j4;have qr:∀ {x y:Rat},Qb x->Qb y->Qs 2147483647 (Qkz x y):=λh1 h2=>Zef h1 h2
   have cc:=D6 (qr j2.hi j2.lo) (qr j3.hi j3.lo);by_cases D:0<=Gt (Qkz u.hi u.lo) (Qkz v.hi v.lo)
   ·rw [if_pos D] at j4;obtain ⟨x,x1,x2⟩:=Qm.1 j4;refine go tt [.c [] (Qon j2.hi j2.lo),.c [] (Qon j3.hi j3.lo),.c [] cc,.t (by simpa using D),.c [] (Qve j2 x1)] rfl (by simp [Uu]; omega) ?_;exact rd (i+1,x,v) (by dsimp only; omega) ⟨hi,Qqn j2 x1,j3,by dsimp only; rw [hk']; exact x2⟩ rfl
   ·rw [if_neg D] at j4;obtain ⟨x,x1,x2⟩:=Qm.1 j4;refine go tt [.c [] (Qon j2.hi j2.lo),.c [] (Qon j3.hi j3.lo),.c [] cc,.f (by simpa using D),.c [] (Qve j3 x1)] rfl (by simp [Uu]; omega) ?_;exact rd (i+1,u,x) (by dsimp only; omega) ⟨hi,j2,Qqn j3 x1,by dsimp only; rw [hk']; exact x2⟩ rfl
 ·obtain rfl:i=n:=by omega
  rw [Jn] at j4;simp only [apF] at j4;injection j4 with j4; subst j4;exact en tt [.f (by simp)] rfl rfl trivial
end Orr
