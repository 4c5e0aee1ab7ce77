/- R4 RefPL CrvL CrowdL PredL CertL Y1 Y2 Q1 C1 C2 D1 E1 AlgL F1 F2 F3 F4 F5 -/
import Derived.Test.YtpnhifedfcgjbaaGreatPart04
import Derived.Test.YtpnhifedfcgjbaaGreatPart00
set_option linter.all false
namespace Orr
open Go Go.Proofs
set_option maxRecDepth 10000
theorem Zfg {a b:Int} (h:(decide (a<0) == decide (b<0))=true):Un (decide (a<0)) (a.natAbs+b.natAbs)=a+b:=by
 unfold Un;by_cases h1:a<0 <;> by_cases h2:b<0 <;> simp [h1,h2] at h ⊢ <;> omega
theorem Zfj {a b:Int} (h:¬(decide (a<0) == decide (b<0))=true) (hl:b.natAbs<=a.natAbs):Un (decide (a<0)) (a.natAbs-b.natAbs)=a+b:=by
 unfold Un;by_cases h1:a<0 <;> by_cases h2:b<0 <;> simp [h1,h2] at h ⊢ <;> omega
theorem Q98 {a b:Int} (h:¬(decide (a<0) == decide (b<0))=true) (hl:¬b.natAbs<=a.natAbs):Un (decide (b<0)) (b.natAbs-a.natAbs)=a+b:=by
 unfold Un;by_cases h1:a<0 <;> by_cases h2:b<0 <;> simp [h1,h2] at h ⊢ <;> omega
theorem Qay (a:Int):(∃ m:Nat,a=(m:Int))\/∃ m:Nat,a=-(m:Int)/\0<m:=by
 rcases Ky a 0 with h | h
 ·exact .inr ⟨a.natAbs,by omega,by omega⟩
 ·exact .inl ⟨a.natAbs,by omega⟩
theorem Zfi (a b:Int):Un (!(decide (a<0) == decide (b<0))) (a.natAbs*b.natAbs)=a*b:=by
 rcases Qay a with ⟨m,rfl⟩ | ⟨m,rfl,hm⟩ <;> rcases Qay b with ⟨n,rfl⟩ | ⟨n,rfl,hn⟩
 ·simp [Un,show ¬((m:Int)<0) by omega,show ¬((n:Int)<0) by omega]
 ·simp [Un,show ¬((m:Int)<0) by omega,show (-(n:Int)<0) by omega,hn,Kg]
 ·simp [Un,show (-(m:Int)<0) by omega,show ¬((n:Int)<0) by omega,hm,Vk]
 ·simp [Un,show (-(m:Int)<0) by omega,show (-(n:Int)<0) by omega,hm,hn,W6]
theorem Zfh {a b:Int} (h:a % b=0):Un (!(decide (a<0) == decide (b<0))) (a.natAbs / b.natAbs)=a / b:=by
 by_cases hb:b=0
 ·subst hb; simp [Un]
 obtain ⟨c,rfl⟩:=Yh h;rw [Xt _ hb,Jp,Nat.mul_div_cancel_left _ (by omega)];rcases Qay b with ⟨n,rfl⟩ | ⟨n,rfl,hn⟩ <;> rcases Qay c with ⟨m,rfl⟩ | ⟨m,rfl,hm⟩
 ·have:¬((n:Int)*(m:Int)<0):=by rw [<-Vf]; omega
  simp [Un,this,show ¬((n:Int)<0) by omega]
 ·have h1:0<n*m:=J3 (by omega) hm;have:((n:Int)*-(m:Int)<0):=by rw [Kg,<-Vf]; omega
  simp only [this,show ¬((n:Int)<0) by omega];simp [Un]
 ·by_cases h0:m=0
  ·subst h0; simp [Un]
  ·have h1:0<n*m:=J3 hn (by omega);have:(-(n:Int)*(m:Int)<0):=by rw [Vk,<-Vf]; omega
   simp only [this,show (-(n:Int)<0) by omega];simp [Un]
 ·have:¬(-(n:Int)*-(m:Int)<0):=by rw [W6,<-Vf]; omega
  simp only [this,show (-(n:Int)<0) by omega];simp [Un]
theorem Zaf (a b:Int):Int.sign (a-b)=B7 a b:=by
 unfold B7;rcases Ju a b with h | h | h
 ·rw [if_pos h,X5 (by omega)]
 ·rw [if_neg (by omega),if_neg (by omega),h,Int.sub_self]; rfl
 ·rw [if_neg (by omega),if_pos h,Jg (by omega)]
theorem Qza {x y:Nat}:0<=Ip x y↔y<=x:=by
 unfold Ip;constructor
 ·intro h; split at h
  ·omega
  ·omega
 ·intro h; split
  ·omega
  ·split <;> omega
theorem Qiq {x e:Nat} (h:(U5 x).length=1) (he:(U5 x)[0]? = some e):x=e:=by
 rcases hd:U5 x with _ | ⟨u,l⟩
 ·rw [hd] at h; cases h
 ·rcases l with _ | ⟨w,l⟩
  ·rw [hd] at he; simp at he;have:=G5 x;rw [hd] at this; simp [Hr] at this; omega
  ·rw [hd] at h; simp at h
theorem Qwd {a b:Int} (hb:0<b):ri (a / ((Int.gcd a b:Nat):Int))++ri (b / ((Int.gcd a b:Nat):Int))=fr (Rat.divInt a b):=by
 obtain ⟨h1,h2⟩:=Qpb (n:=a) hb;rw [M4,Int.gcd_comm] at h1 h2;rw [h1,h2]
theorem Qwe (a:Int):ri a++ri 1=fr (Rat.divInt a 1):=by
 have h:=Qwd (a:=a) (b:=1) (by decide);rw [show ((Int.gcd a 1:Nat):Int)=1 by simp] at h;simpa using h
theorem Qma {a b:Int} (hb:b≠0) (ha2:Ur a<=90000000) (hb2:Ur b<=90000000):Ur ((Int.gcd a b:Nat):Int)<=90000000/\((Int.gcd a b:Nat):Int)≠0/\a % ((Int.gcd a b:Nat):Int)=0/\b % ((Int.gcd a b:Nat):Int)=0:=by
 have h1:=Qz3 (n:=a) hb hb2;have h2:=Qsa (n:=a) hb;have h3:=Qjd a b;have h4:=Qje a b;rw [M4,Int.gcd_comm] at h1 h2 h3 h4;exact ⟨h1,by omega,h3,h4⟩
theorem Qm9 {a b:Int} (h:b<0):Gd a b=Rat.divInt (-a) (-b):=by
 unfold Gd; rw [if_neg (by omega)];exact (Rat.neg_divInt_neg a b).symm
theorem Qna {a b:Int} (h:0<b):Gd a b=Rat.divInt a b:=by
 unfold Gd; rw [if_neg (by omega)]
theorem Q1t (a b:Rat):Gd (a.num*(b.den:Int)+b.num*(a.den:Int)) ((a.den:Int)*(b.den:Int))=a+b:=by
 unfold Gd;rw [if_neg (Jj (Nu a) (Nu b)),<-Rat.divInt_add_divInt _ _ (Nu a) (Nu b),Zv,Zv]
theorem Qmm (a b:Rat):Gd (a.num*b.num) ((a.den:Int)*(b.den:Int))=a*b:=by
 unfold Gd;rw [if_neg (Jj (Nu a) (Nu b)),<-Kr,Zv,Zv]
theorem Qm8 {a b:Rat} (h:b≠0):Gd (a.num*(b.den:Int)) ((a.den:Int)*b.num)=a / b:=by
 have hn:b.num≠0:=λe=>h (Rat.num_eq_zero.1 e)
 unfold Gd;rw [if_neg (Jj (Nu a) hn),<-Kr,Zv,J8];congr 1
 conv=>rhs; rw [<-Zv b,Rat.inv_divInt]
theorem Qn2 {z:Int} (hz:Ur z<=100000000):Uh Tryz.prog 37 [.agg (Gs z)] [.agg (ri z)]:=by
 have hl:(U3 z.natAbs).length<=1099511627776:=by have h2:32*(U3 z.natAbs).length<=100000000+31:=H9 hz; omega
 have h:=Zb6 (l:=U3 z.natAbs) (λu hu=>(Da _).1 u hu) hl (by rw [Fv]; exact hz);rw [Fv] at h;have hm:=Li (decide (z<0)) z.natAbs;have e:Un (decide (z<0)) z.natAbs=z:=by unfold Un; by_cases h:z<0 <;> simp [h] <;> omega
 rw [e] at hm;exact w tt Tryz.func37 rfl [.c [] h,.c [] hm] rfl rfl trivial
theorem Qyu {z:Int}:Uh Tryz.prog 122 [.agg (ri z)] [.one (.int .i64 (Int.sign z))]:=by
 have hn:=Qc2 (x:=z.natAbs);have hl:=Qbv z.natAbs;rcases Ju z 0 with h | h | h
 ·rw [X5 h];exact w tt Tryz.func122 rfl [.f (by simp only [Hf]; exact decide_eq_false (by omega)),.t (decide_eq_true h)] rfl rfl trivial
 ·subst h;exact w tt Tryz.func122 rfl [.t (by simp only [Hf]; show decide (((U5 0).length:Int)=0)=true; rw [Ge]; rfl)] rfl rfl trivial
 ·rw [Jg h];exact w tt Tryz.func122 rfl [.f (by simp only [Hf]; exact decide_eq_false (by omega)),.f (decide_eq_false (by omega))] rfl rfl trivial
theorem Qvk {a b:Int} (ha:Ur a<=200000000) (hb:Ur b<=200000000):Uh Tryz.prog 143 [.agg (ri a),.agg (ri b)] [.agg (ri (a+b))]:=by
 by_cases hs:(decide (a<0) == decide (b<0))=true
 ·have cm:=Li (decide (a<0)) (a.natAbs+b.natAbs);rw [Zfg hs] at cm;exact w tt Tryz.func143 rfl [.t hs,.c [] (Zho ha hb),.c [] cm] rfl rfl trivial
 ·have hs':(decide (a<0) == decide (b<0))=false:=by simpa using hs
  by_cases hl:b.natAbs<=a.natAbs
  ·have cm:=Li (decide (a<0)) (a.natAbs-b.natAbs);rw [Zfj hs hl] at cm;exact w tt Tryz.func143 rfl [.f hs',.c [] (Qva ha hb),.t (decide_eq_true (Qza.2 hl)),.c [] (Qvj ha hb hl),.c [] cm] rfl rfl trivial
  ·have cm:=Li (decide (b<0)) (b.natAbs-a.natAbs);rw [Q98 hs hl] at cm;exact w tt Tryz.func143 rfl [.f hs',.c [] (Qva ha hb),.f (decide_eq_false λh=>hl (Qza.1 h)),.c [] (Qvj hb ha (by omega)),.c [] cm] rfl rfl trivial
theorem Q5o {a b:Int} (ha:Ur a<=200000000) (hb:Ur b<=200000000):Uh Tryz.prog 123 [.agg (ri a),.agg (ri b)] [.agg (ri (a-b))]:=by
 have ca:=Qvk (a:=a) (b:=-b) ha (by rw [Gy]; exact hb);rw [show a+-b=a-b from by omega] at ca;exact w tt Tryz.func123 rfl [.c [] (Aq (z:=b)),.c [] ca] rfl rfl trivial
theorem Sj {a b:Int} (ha:Ur a<=200000000) (hb:Ur b<=200000000):Uh Tryz.prog 36 [.agg (ri a),.agg (ri b)] [.agg (ri (a*b))]:=by
 have cm:=Li (!(decide (a<0) == decide (b<0))) (a.natAbs*b.natAbs);rw [Zfi] at cm;exact w tt Tryz.func36 rfl [.c [] (Zhr ha hb),.c [] cm] rfl rfl trivial
theorem Zhy {a b:Int} (ha:Ur a<=200000000) (hb:Ur b<=200000000):Uh Tryz.prog 62 [.agg (ri a),.agg (ri b)] [.one (.int .i64 (B7 a b))]:=by
 have h:=Qyu (z:=a-b);rw [Zaf] at h;exact w tt Tryz.func62 rfl [.c [] (Q5o ha hb),.c [] h] rfl rfl trivial
theorem Qew {a b:Int} (ha:Ur a<=90000000) (hb:Ur b<=90000000) (h0:b≠0) (hd:a % b=0):Uh Tryz.prog 101 [.agg (ri a),.agg (ri b)] [.agg (ri (a / b))]:=by
 have cm:=Li (!(decide (a<0) == decide (b<0))) (a.natAbs / b.natAbs);rw [Zfh hd] at cm;exact w tt Tryz.func101 rfl [.c [] (Q40 ha hb (by omega)),.c [] cm] rfl rfl trivial
theorem Zjh (x:Nat):ri ((x:Nat):Int)=[nd x,.bool false]:=by
 unfold ri sg;rw [Xa,decide_eq_false (by omega)]
theorem Qil {a b:Int} (ha:Ur a<=90000000) (hb:Ur b<=90000000):Uh Tryz.prog 100 [.agg (ri a),.agg (ri b)] [.agg (ri ((Int.gcd a b:Nat):Int))]:=by
 rw [Zjh];refine Ha Tryz.func100 rfl ?_;refine go tt [] rfl trivial ?_;refine lp (S:=Nat×Nat) 3 (λL1 s=>(5,.v (.one (nd s.1)))::(6,.v (.one (nd s.2)))::L1) (λ_=>[.blk 33 (ri a),.blk 33 (ri b),.blk 33 [.nils,.bool false]]) (λs=>s.2) (λs=>Nat.gcd s.1 s.2=Int.gcd a b/\sz s.1<=90000000/\sz s.2<=90000000) (a.natAbs,b.natAbs) ⟨rfl,ha,hb⟩ rfl (λ_ _=>rfl) rfl λs hs=>?_
 obtain ⟨x,y⟩:=s;obtain ⟨hp0,hp1,hp2⟩:=hs;dsimp only at hp0 hp1 hp2 ⊢;have hyn:=Qc2 (x:=y);have hyl:=Qbv y;by_cases h1:y=0
 ·have e:Int.gcd a b=x:=by rw [<-hp0,h1,Nat.gcd_zero_right]
  rw [e];exact en tt [.f (by simp only [Hf]; exact decide_eq_false (by omega))] rfl rfl trivial
 ·have hlt:=Xd x (show 0<y by omega);refine go tt [.t (by simp only [Hf]; exact decide_eq_true (by omega)),.c [] (Q40 hp1 hp2 (by omega))] rfl trivial ?_;exact rd (y,x % y) (by dsimp only; omega) ⟨by dsimp only; rw [<-hp0,Nat.gcd_comm x y,Nat.gcd_rec y x,Nat.gcd_comm],hp2,Nat.le_trans (Hl (by dsimp only; omega)) hp2⟩ rfl
theorem Qct {a b:Int} (ha:Ur a<=90000000) (hb:Ur b<=90000000):Uh Tryz.prog 48 [.agg (ri a),.agg (ri b)] [.agg (fr (Gd a b))]:=by
 rcases Ju b 0 with hs | hs | hs
 ·skip
  by_cases h1:-b=1
  ·have h0:(Mk (U5 (-b).natAbs))[0]? = some [LV.int .i64 1]:=by rw [h1,show (1:Int).natAbs=1 from rfl,Ll]; rfl
   have hl1:decide (((Mk (U5 (-b).natAbs)).length:Int)=1)=true:=by rw [h1,show (1:Int).natAbs=1 from rfl,Ll]; rfl
   have e:fr (Gd a b)=ri (-a)++ri (-b):=by rw [Qm9 hs,h1]; exact (Qwe _).symm
   rw [e];exact w tt Tryz.func48 rfl [.c [] (P8 (z:=b)),.f (decide_eq_false (by omega)),.t (decide_eq_true hs),.c [] (Aq (z:=a)),.c [] (Aq (z:=b)),.g 19 true hl1,.x h0,.t rfl] rfl rfl trivial
  ·have hgf:=Qma (a:=-a) (b:=-b) (by omega) (by first | exact ha | (rw [Gy]; exact ha)) (by first | exact hb | (rw [Gy]; exact hb));have cg:=Qil (a:=-a) (b:=-b) (by first | exact ha | (rw [Gy]; exact ha)) (by first | exact hb | (rw [Gy]; exact hb));have q1:=Qew (a:=-a) (b:=((Int.gcd (-a) (-b):Nat):Int)) (by first | exact ha | (rw [Gy]; exact ha)) hgf.1 hgf.2.1 hgf.2.2.1;have q2:=Qew (a:=-b) (b:=((Int.gcd (-a) (-b):Nat):Int)) (by first | exact hb | (rw [Gy]; exact hb)) hgf.1 hgf.2.1 hgf.2.2.2;have e:fr (Gd a b)=ri ((-a) / ((Int.gcd (-a) (-b):Nat):Int))++ri ((-b) / ((Int.gcd (-a) (-b):Nat):Int)):=by rw [Qm9 hs]; exact (Qwd (by omega)).symm
   rw [e];have hl:=Qbv (-b).natAbs;by_cases hl1:(U5 (-b).natAbs).length=1
   ·obtain ⟨u,hu⟩:=gxE (l:=(U5 (-b).natAbs)) (i:=0) (by omega);have hue:=Qiq hl1 hu;exact w tt Tryz.func48 rfl [.c [] (P8 (z:=b)),.f (decide_eq_false (by omega)),.t (decide_eq_true hs),.c [] (Aq (z:=a)),.c [] (Aq (z:=b)),.g 19 true (by simp only [Hf]; exact decide_eq_true (by omega)),.x (Fl hu),.f (decide_eq_false (by omega)),.c [] cg,.c [] q1,.c [] q2] rfl rfl trivial
   ·exact w tt Tryz.func48 rfl [.c [] (P8 (z:=b)),.f (decide_eq_false (by omega)),.t (decide_eq_true hs),.c [] (Aq (z:=a)),.c [] (Aq (z:=b)),.g 19 false (by simp only [Hf]; exact decide_eq_false (by omega)),.f rfl,.c [] cg,.c [] q1,.c [] q2] rfl rfl trivial
 ·subst hs;have h0:(Mk (U5 (1:Int).natAbs))[0]? = some [LV.int .i64 1]:=by rw [show (1:Int).natAbs=1 from rfl,Ll]; rfl
  have h1:decide (((Mk (U5 (1:Int).natAbs)).length:Int)=1)=true:=by rw [show (1:Int).natAbs=1 from rfl,Ll]; rfl
  have e:fr (Gd a 0)=ri a++ri 1:=(Qwe a).symm;rw [e];exact w tt Tryz.func48 rfl [.c [] (P8 (z:=0)),.t rfl,.c [] (Cd (n:=1) (by decide)),.f rfl,.g 19 true h1,.x h0,.t rfl] rfl rfl trivial
 ·skip
  by_cases h1:b=1
  ·have h0:(Mk (U5 (b).natAbs))[0]? = some [LV.int .i64 1]:=by rw [h1,show (1:Int).natAbs=1 from rfl,Ll]; rfl
   have hl1:decide (((Mk (U5 (b).natAbs)).length:Int)=1)=true:=by rw [h1,show (1:Int).natAbs=1 from rfl,Ll]; rfl
   have e:fr (Gd a b)=ri (a)++ri (b):=by rw [Qna hs,h1]; exact (Qwe _).symm
   rw [e];exact w tt Tryz.func48 rfl [.c [] (P8 (z:=b)),.f (decide_eq_false (by omega)),.f (decide_eq_false (by omega)),.g 19 true hl1,.x h0,.t rfl] rfl rfl trivial
  ·have hgf:=Qma (a:=a) (b:=b) (by omega) (by first | exact ha | (rw [Gy]; exact ha)) (by first | exact hb | (rw [Gy]; exact hb));have cg:=Qil (a:=a) (b:=b) (by first | exact ha | (rw [Gy]; exact ha)) (by first | exact hb | (rw [Gy]; exact hb));have q1:=Qew (a:=a) (b:=((Int.gcd (a) (b):Nat):Int)) (by first | exact ha | (rw [Gy]; exact ha)) hgf.1 hgf.2.1 hgf.2.2.1;have q2:=Qew (a:=b) (b:=((Int.gcd (a) (b):Nat):Int)) (by first | exact hb | (rw [Gy]; exact hb)) hgf.1 hgf.2.1 hgf.2.2.2;have e:fr (Gd a b)=ri ((a) / ((Int.gcd (a) (b):Nat):Int))++ri ((b) / ((Int.gcd (a) (b):Nat):Int)):=by rw [Qna hs]; exact (Qwd (by omega)).symm
   rw [e];have hl:=Qbv (b).natAbs;by_cases hl1:(U5 (b).natAbs).length=1
   ·obtain ⟨u,hu⟩:=gxE (l:=(U5 (b).natAbs)) (i:=0) (by omega);have hue:=Qiq hl1 hu;exact w tt Tryz.func48 rfl [.c [] (P8 (z:=b)),.f (decide_eq_false (by omega)),.f (decide_eq_false (by omega)),.g 19 true (by simp only [Hf]; exact decide_eq_true (by omega)),.x (Fl hu),.f (decide_eq_false (by omega)),.c [] cg,.c [] q1,.c [] q2] rfl rfl trivial
   ·exact w tt Tryz.func48 rfl [.c [] (P8 (z:=b)),.f (decide_eq_false (by omega)),.f (decide_eq_false (by omega)),.g 19 false (by simp only [Hf]; exact decide_eq_false (by omega)),.f rfl,.c [] cg,.c [] q1,.c [] q2] rfl rfl trivial
theorem Zk1 {n d:Int} (hn:-1000000000<=n/\n<=1000000000) (hd:-1000000000<=d/\d<=1000000000):Uh Tryz.prog 17 [.one (.int .i64 n),.one (.int .i64 d)] [.agg (fr (Gd n d))]:=by
 have b1:Ur n<=90000000:=Qd (Ri.2 (show n.natAbs<2^40 by omega)) (by decide);have b2:Ur d<=90000000:=Qd (Ri.2 (show d.natAbs<2^40 by omega)) (by decide);exact w tt Tryz.func17 rfl [.c [] (Cd (by omega)),.c [] (Cd (by omega)),.c [] (Qct b1 b2)] rfl rfl trivial
theorem Zht {a:Rat}:Uh Tryz.prog 47 [.agg (fr a)] [.agg (fr (-a))]:=by
 have e:fr (-a)=ri (-a.num)++ri (a.den:Int):=rfl;rw [e];exact w tt Tryz.func47 rfl [.c [] (Aq (z:=a.num))] rfl rfl trivial
theorem Q4w {a b:Rat} (ha:Qs 20000000 a) (hb:Qs 20000000 b):Uh Tryz.prog 110 [.agg (fr a),.agg (fr b)] [.agg (fr (a+b))]:=by
 have k1:=U6 a.num (b.den:Int);have k2:=U6 b.num (a.den:Int);have k3:=U6 (a.den:Int) (b.den:Int);have k4:=Qdb (a.num*(b.den:Int)) (b.num*(a.den:Int));have h1:=ha.1; have h2:=ha.2; have h3:=hb.1; have h4:=hb.2;have cm:=Qct (a:=a.num*(b.den:Int)+b.num*(a.den:Int)) (b:=(a.den:Int)*(b.den:Int)) (by omega) (by omega);rw [Q1t] at cm;exact w tt Tryz.func110 rfl [.c [] (Sj (a:=a.num) (b:=(b.den:Int)) (by omega) (by omega)),.c [] (Sj (a:=b.num) (b:=(a.den:Int)) (by omega) (by omega)),.c [] (Qvk (by omega) (by omega)),.c [] (Sj (a:=(a.den:Int)) (b:=(b.den:Int)) (by omega) (by omega)),.c [] cm] rfl rfl trivial
theorem Q45 {a b:Rat} (ha:Qs 40000000 a) (hb:Qs 40000000 b):Uh Tryz.prog 107 [.agg (fr a),.agg (fr b)] [.agg (fr (a*b))]:=by
 have k1:=U6 a.num b.num;have k3:=U6 (a.den:Int) (b.den:Int);have h1:=ha.1; have h2:=ha.2; have h3:=hb.1; have h4:=hb.2;have cm:=Qct (a:=a.num*b.num) (b:=(a.den:Int)*(b.den:Int)) (by omega) (by omega);rw [Qmm] at cm;exact w tt Tryz.func107 rfl [.c [] (Sj (a:=a.num) (b:=b.num) (by omega) (by omega)),.c [] (Sj (a:=(a.den:Int)) (b:=(b.den:Int)) (by omega) (by omega)),.c [] cm] rfl rfl trivial
theorem Qvh {a b:Rat} (ha:Qs 40000000 a) (hb:Qs 40000000 b) (h0:b≠0):Uh Tryz.prog 176 [.agg (fr a),.agg (fr b)] [.agg (fr (a / b))]:=by
 have k1:=U6 a.num (b.den:Int);have k3:=U6 (a.den:Int) b.num;have h1:=ha.1; have h2:=ha.2; have h3:=hb.1; have h4:=hb.2;have cm:=Qct (a:=a.num*(b.den:Int)) (b:=(a.den:Int)*b.num) (by omega) (by omega);rw [Qm8 h0] at cm;exact w tt Tryz.func176 rfl [.c [] (Sj (a:=a.num) (b:=(b.den:Int)) (by omega) (by omega)),.c [] (Sj (a:=(a.den:Int)) (b:=b.num) (by omega) (by omega)),.c [] cm] rfl rfl trivial
theorem Zcf {a b:Rat} (ha:Qs 40000000 a) (hb:Qs 40000000 b):Uh Tryz.prog 21 [.agg (fr a),.agg (fr b)] [.one (.int .i64 (Fx a b))]:=by
 have k1:=U6 a.num (b.den:Int);have k2:=U6 b.num (a.den:Int);have h1:=ha.1; have h2:=ha.2; have h3:=hb.1; have h4:=hb.2;exact w tt Tryz.func21 rfl [.c [] (Sj (a:=a.num) (b:=(b.den:Int)) (by omega) (by omega)),.c [] (Sj (a:=b.num) (b:=(a.den:Int)) (by omega) (by omega)),.c [] (Zhy (a:=a.num*(b.den:Int)) (b:=b.num*(a.den:Int)) (by omega) (by omega))] rfl rfl trivial
end Orr
namespace Orr
def Tz:List Rat->List Rat
 | []=>[]
 |
  x::l=>match Tz l with
  | []=>if x=0 then [] else [x]
  | y::k=>x::y::k
theorem Lt:∀ {l:List Rat},(∀ x∈l,x=0)->Tz l=[]
 | [],_=>rfl
 |
  x::l,h=>by
  have ih:=Lt (l:=l) (λy hy=>h y (Qh _ hy));simp [Tz,ih,h x (Qt ..)]
theorem Qkn:∀ {l:List Rat} {m:Nat} {y:Rat},(∀ j x,m<j->l[j]? = some x->x=0)->l[m]? = some y->y≠0->Tz l=l.take (m+1)
 | [],m,y,_,h,_=>by simp at h
 |
  x::l,0,y,h1,h2,h3=>by
  have h0:Tz l=[]:=Lt λz hz=>by
   obtain ⟨j,hj⟩:=Zh.1 hz;exact h1 (j+1) z (by omega) (by simpa using hj)
  simp at h2;subst h2;simp [Tz,h0,h3]
 |
  x::l,m+1,y,h1,h2,h3=>by
  have ih:=Qkn (l:=l) (m:=m) (y:=y) (λj z hj hz=>h1 (j+1) z (by omega) (by simpa using hz)) (by simpa using h2) h3;cases hl:l with
  | nil=>subst hl; simp at h2
  |
   cons u k =>
   subst hl;rw [Yj] at ih;simp only [Tz] at ih ⊢;rw [ih];simp
theorem Qfu {l:List Rat} {m:Nat} (hm:m<=l.length) (h1:∀ j x,m<=j->l[j]? = some x->x=0) (h2:0<m->∃ y,l[m-1]? = some y/\y≠0):Tz l=l.take m:=by
 rcases Qy m with h0 | h0
 ·subst h0;rw [Lt λz hz=>?_]; rfl;obtain ⟨j,hj⟩:=Zh.1 hz;exact h1 j z (by omega) hj
 ·obtain ⟨y,hy,hy0⟩:=h2 h0;have:=Qkn (l:=l) (m:=m-1) (y:=y) (λj x hj hx=>h1 j x (by omega) hx) hy hy0;rwa [show m-1+1=m from by omega] at this
theorem Qni:∀ (l:List Rat),∀ z∈Tz l,z∈l
 | [],z,h=>h
 |
  x::l,z,h=>by
  simp only [Tz] at h;have ih:=Qni l
  split at h
  ·split at h
   ·cases h
   ·simp at h; simp [h]
  ·rename_i y k e;rw [e] at ih;rcases Qo.1 h with h | h
   ·simp [h]
   ·exact Qh _ (ih z h)
theorem Qnh:∀ (l:List Rat),(Tz l).length<=l.length
 | []=>Qm _
 |
  x::l=>by
  have ih:=Qnh l;simp only [Tz]
  split
  ·split <;> simp
  ·rename_i y k e;rw [e] at ih;simp at ih ⊢; omega
def zp (p:List Int):List Rat:=p.map λ(z:Int)=>(z:Rat)
theorem Ng:∀ (p:List Int),Tz (zp p)=zp (trim p)
 | []=>rfl
 |
  x::l=>by
  have ih:=Ng l;unfold zp at ih ⊢;simp only [Zt,Tz,trim,ih];cases h:trim l with
  |
   nil =>
   simp only [Jb];by_cases hx:x=0
   ·subst hx; simp
   ·have:(x:Rat)≠0:=λe=>hx (by exact_mod_cast e)
    simp [hx,this]
  | cons y k=>simp
theorem Ty (p:List Int):(zp p).length=p.length:=Zc _
theorem Zbd {p:List Int} {i:Nat} {z:Int} (h:p[i]? = some z):(zp p)[i]? = some (z:Rat):=by simp [zp,h]
theorem Qem (p:List Int) (i:Nat):(zp p).getD i 0=((p.getD i 0:Int):Rat):=by
 simp only [Qe,zp,Za];cases p[i]? <;> rfl
def Rb (s:Nat) (p:List Rat):Prop:=∀ q∈p,Qs s q
theorem Rb.mono {s t:Nat} {p:List Rat} (h:Rb s p) (ht:s<=t):Rb t p:=λq hq=>(h q hq).mono ht
theorem Rb.get {s:Nat} {p:List Rat} (h:Rb s p) {i:Nat} {q:Rat} (hq:p[i]? = some q):Qs s q:=h q (Qa hq)
theorem Ca {s:Nat} {z:Int} (h:Ur z<=s) (h1:1<=s):Qs s (z:Rat):=⟨by simpa using h,Qd (show Ur ((1:Nat):Int)<=1 by decide) h1⟩
theorem Qbk {s:Nat} {p:List Int} (h:Bd s p) (h1:1<=s):Rb s (zp p):=λq hq=>by
 obtain ⟨z,hz,rfl⟩:=Zi.1 hq;exact Ca (h z hz) h1
theorem Ze0 {s:Nat} (h1:1<=s):Qs s 0:=Ca (z:=0) (by simp [Pu]) h1
theorem Rb.getD {s:Nat} {p:List Rat} (h:Rb s p) (h1:1<=s) (i:Nat):Qs s (p.getD i 0):=by
 rw [Qe];cases e:p[i]? with
 | none=>exact Ze0 h1
 | some q=>exact h.get e
theorem Rb.trim {s:Nat} {p:List Rat} (h:Rb s p):Rb s (Tz p):=λq hq=>h q (Qni p q hq)
def Ib (f:Nat->Rat) (n:Nat):List Rat:=(List.range n).map f
theorem Qd8 (f:Nat->Rat) (n:Nat):(Ib f n).length=n:=by simp [Ib]
theorem Qno (f:Nat->Rat) (n:Nat):Ib f (n+1)=Ib f n++[f n]:=by simp [Ib,K5]
theorem Zfr {s n:Nat} {f:Nat->Rat} (h:∀ i,i<n->Qs s (f i)):Rb s (Ib f n):=λq hq=>by
 obtain ⟨i,hi,rfl⟩:=Zi.1 hq;exact h i (Vq.1 hi)
theorem Qh6 {f:Nat->Rat} {g:Nat->Int} (n:Nat) (h:∀ i,i<n->f i=(g i:Rat)):Ib f n=zp ((List.range n).map g):=by
 simp only [Ib,zp,List.map_map];exact Y9 λi hi=>h i (Vq.1 hi)
def Qts (p q:List Rat):List Rat:=Tz (Ib (λi=>p.getD i 0+q.getD i 0) (max p.length q.length))
def Sy (p:List Rat) (c:Rat):List Rat:=Tz (Ib (λi=>p.getD i 0*c) p.length)
def Qkk (p:List Rat):List Rat:=Sy p (-1)
def Qd0 (p q:List Rat):List Rat:=Qts p (Qkk q)
theorem Q09 (p q:List Int):Qts (zp p) (zp q)=zp (Tf p q):=by
 unfold Qts Tf Pk;rw [Qh6 (g:=λk=>p.getD k 0+q.getD k 0) _ λi _=>by rw [Qem,Qem,V9],Ng,Ty,Ty]
theorem Qnd (p:List Int) (c:Int):Sy (zp p) (c:Rat)=zp (Uz p c):=by
 unfold Sy Uz Pk;rw [Qh6 (g:=λk=>p.getD k 0*c) _ λi _=>by rw [Qem,Xx],Ng,Ty]
theorem Qw9 (p:List Int):Uz p (-1)=H5 p:=by
 unfold Uz H5 Pk;congr 2;funext k;omega
theorem Q1b (p:List Int):Qkk (zp p)=zp (H5 p):=by
 rw [<-Qw9,<-Qnd]; rfl
theorem Qf9 {p q:List Int} (hp:Um p) (hq:Um q) (h:∀ k,p.getD k 0=q.getD k 0):p=q:=by
 have key:∀ {p q:List Int},Um q->(∀ k,p.getD k 0=q.getD k 0)->q.length<=p.length:=by
  intro p q hq h;rcases Q8 p.length q.length with h1 | h1
  ·have h2:=Gw hq (by omega);rw [<-h,Qe,Qr (by omega)] at h2;exact (h2 rfl).elim
  ·exact h1
 exact Qi5 (V8 (key hp λk=>(h k).symm) (key hq h)) λj _=>h j
theorem Qv4 {n m:Nat} {f g:Nat->Int} (hn:n<=m) (h:∀ k,k<n->f k=g k) (h0:∀ k,n<=k->k<m->g k=0):Pk n f=Pk m g:=by
 refine Qf9 (Uv _ _) (Uv _ _) λk=>?_
 rw [Rz,Rz];by_cases h1:k<n
 ·rw [if_pos h1,if_pos (by omega),h k h1]
 ·rw [if_neg h1];by_cases h2:k<m
  ·rw [if_pos h2,h0 k (by omega) h2]
  ·rw [if_neg h2]
theorem Ze7 (p q:List Int):Qd0 (zp p) (zp q)=zp (Sx p q):=by
 unfold Qd0;rw [Q1b,Q09];congr 1;have hl:=Bs q;unfold Tf Sx;refine Qv4 (by omega) (λk _=>?_) λk h1 h2=>?_
 ·unfold H5;rw [Rz]
  split
  ·omega
  ·rename_i h;have:q.getD k 0=0:=by rw [Qe,Qr (by omega)]; rfl
   omega
 ·have h3:p.getD k 0=0:=by rw [Qe,Qr (by omega)]; rfl
  have h4:(H5 q).getD k 0=0:=by rw [Qe,Qr (by omega)]; rfl
  unfold H5 at h4;rw [Rz] at h4
  split at h4
  ·omega
  ·have:q.getD k 0=0:=by rw [Qe,Qr (by omega)]; rfl
   omega
structure Crv where
 x:List Int
 y:List Int
 d:Int
abbrev cl (k:Crv):List LV:=[pl k.x,pl k.y,sg k.d,mg k.d]
def Crv.d' (k:Crv):Int:=if k.d=0 then 1 else k.d
def Crv.g (k:Crv):Int:=if k.d'<0 then -((Gj (k.d'::(trim k.x++trim k.y)):Nat):Int) else (Gj (k.d'::(trim k.x++trim k.y)):Nat)
def Crv.norm (k:Crv):Crv:=⟨trim ((trim k.x).map (· / k.g)),trim ((trim k.y).map (· / k.g)),k.d' / k.g⟩
theorem I6 {l:List Int}:∀ z∈l,((Gj l:Nat):Int)∣z:=by
 have key:∀ (l:List Int) (g:Nat),(l.foldl (λg z=>Nat.gcd g z.natAbs) g∣g)/\∀ z∈l,l.foldl (λg z=>Nat.gcd g z.natAbs) g∣z.natAbs:=by
  intro l
  induction l with
  | nil=>intro g; exact ⟨Nat.dvd_refl _,by simp⟩
  |
   cons u l ih =>
   intro g;obtain ⟨h1,h2⟩:=ih (Nat.gcd g u.natAbs);refine ⟨Nat.dvd_trans h1 (Kk _ _),λz hz=>?_⟩;rcases Qo.1 hz with rfl | hz
   ·exact Nat.dvd_trans h1 (Wv _ _)
   ·exact h2 z hz
 intro z hz;have:=(key l 0).2 z hz;exact Wj.2 this
theorem Crv.d'_ne (k:Crv):k.d'≠0:=by unfold Crv.d'; split <;> omega
theorem Crv.gcd_ne (k:Crv):Gj (k.d'::(trim k.x++trim k.y))≠0:=by
 intro e;have h:=I6 (l:=k.d'::(trim k.x++trim k.y)) k.d' (Qt ..);rw [e] at h;exact k.d'_ne (by simpa using h)
theorem Crv.g_ne (k:Crv):k.g≠0:=by
 have h0:=k.gcd_ne;unfold Crv.g
 split <;> omega
theorem Crv.g_dvd (k:Crv):∀ z∈k.d'::(trim k.x++trim k.y),z % k.g=0:=by
 intro z hz;have h:=I6 z hz;refine Jq ?_;unfold Crv.g
 split
 ·exact Uc.2 h
 ·exact h
theorem Crv.isz_g (k:Crv) {s:Nat} (h:Ur k.d'<=s):Ur k.g<=s:=by
 have hd:=I6 (l:=k.d'::(trim k.x++trim k.y)) k.d' (Qt ..);have hle:Gj (k.d'::(trim k.x++trim k.y))<=k.d'.natAbs:=V1 (by have:=k.d'_ne; omega) (Wj.1 hd);refine Qd (Hl ?_) h;unfold Crv.g
 split <;> simp <;> exact hle
structure Cs (s n:Nat) (k:Crv):Prop where
 x:Bd s k.x
 y:Bd s k.y
 d:Ur k.d<=s
 lx:k.x.length<=n
 ly:k.y.length<=n
theorem Qo4 {k:Crv} {s:Nat} (h:Ur k.d<=s) (h1:1<=s):Ur k.d'<=s:=by unfold Crv.d'; split <;> first | exact h1 | exact h
theorem Qes {s:Nat} {p:List Int} (h:Bd s p) (g:Int):Bd s (p.map (· / g)):=λz hz=>by
 obtain ⟨u,hu,rfl⟩:=Zi.1 hz;exact Qd (I9 u g) (h u hu)
theorem Cs.norm {s n:Nat} {k:Crv} (h:Cs s n k) (h1:1<=s):Cs s n k.norm:=by
 refine ⟨Rf (Qes (Rf h.x) _),Rf (Qes (Rf h.y) _),Qd (I9 _ _) (Qo4 h.d h1),?_,?_⟩
 ·refine Qd (G0 _) ?_; rw [Zc]; exact Qd (G0 _) h.lx
 ·refine Qd (G0 _) ?_; rw [Zc]; exact Qd (G0 _) h.ly
theorem Cs.mono {s n t m:Nat} {k:Crv} (h:Cs s n k) (hs:s<=t) (hn:n<=m):Cs t m k:=⟨Ug h.x hs,Ug h.y hs,Qd h.d hs,Qd h.lx hn,Qd h.ly hn⟩
def Nml (k:Crv):Prop:=Um k.x/\Um k.y/\0<k.d/\Gj (k.d::(k.x++k.y))=1
theorem Crv.norm_of {k:Crv} (h:Nml k):k.norm=k:=by
 obtain ⟨h1,h2,h3,h4⟩:=h;have hd:k.d'=k.d:=by unfold Crv.d'; rw [if_neg (by omega)]
 have hx:trim k.x=k.x:=h1;have hy:trim k.y=k.y:=h2;have hg:k.g=1:=by unfold Crv.g; rw [hd,hx,hy,h4,if_neg (by omega)]; rfl
 unfold Crv.norm;rw [hg,hd,hx,hy];simp [hx,hy]
theorem Qoy {l:List Int} {g:Int} (hg:g≠0) (hga:g.natAbs=Gj l):Gj (l.map (· / g))=1:=by
 have key:∀ (l:List Int) (a:Nat),(∀ z∈l,g∣z)->l.foldl (λa z=>Nat.gcd a z.natAbs) (a*g.natAbs)=((l.map (· / g)).foldl (λa z=>Nat.gcd a z.natAbs) a)*g.natAbs:=by
  intro l
  induction l with
  | nil=>intro a _; rfl
  |
   cons z l ih =>
   intro a h;simp only [Zt,Z8];have hz:z.natAbs=(z / g).natAbs*g.natAbs:=by
    obtain ⟨q,rfl⟩:=h z (Qt ..);rw [Xt _ hg,Jp,Zj]
   rw [hz,Ww];exact ih _ λu hu=>h u (Qh _ hu)
 have h:=key l 0 λz hz=>Xw.1 (by rw [hga]; exact Xw.2 (I6 z hz))
 rw [J4] at h;have h':Gj l=Gj (l.map (· / g))*g.natAbs:=h;rw [<-hga] at h';have hp:0<g.natAbs:=by omega
 exact Nat.eq_of_mul_eq_mul_right hp (by rw [Wh]; exact h'.symm)
theorem La {l:List Int} {g:Int} (ht:Um l) (hg:g≠0) (hd:∀ z∈l,g∣z):Um (l.map (· / g)):=by
 induction l with
 | nil=>rfl
 |
  cons x l ih =>
  have hne:∀ z∈x::l,z≠0->z / g≠0:=λz hz h0 h1=>by
   obtain ⟨q,rfl⟩:=hd z hz;rw [Xt _ hg] at h1;rw [h1] at h0; simp at h0
  unfold Um at ht ih ⊢;cases hl:trim l with
  |
   nil =>
   simp only [trim,hl] at ht
   split at ht
   ·cases ht
   ·rename_i hx;injection ht with _ h2;subst h2;simp [trim,hne x (Qt ..) hx]
  |
   cons y k =>
   simp only [trim,hl] at ht;injection ht with _ h2;have hll:trim l=l:=by rw [hl]; exact h2
   have ih:=ih hll λz hz=>hd z (Qh _ hz)
   rw [Zt];have hne2:l.map (· / g)≠[]:=by rw [<-hll,hl]; simp
   cases hm:l.map (· / g) with
   | nil=>exact absurd hm hne2
   |
    cons u w =>
    rw [hm] at ih;have e:trim (x / g::u::w)=match trim (u::w) with | []=>if x / g=0 then [] else [x / g] | y::k=>x / g::y::k:=rfl
    rw [e,ih]
theorem Crv.nml (k:Crv):Nml k.norm:=by
 have hg:=k.g_ne;have hdv:∀ z∈k.d'::(trim k.x++trim k.y),k.g∣z:=λz hz=>Yh (k.g_dvd z hz)
 have hx:=La (g:=k.g) (He k.x) hg λz hz=>hdv z (by simp [hz])
 have hy:=La (g:=k.g) (He k.y) hg λz hz=>hdv z (by simp [hz])
 refine ⟨He _,He _,?_,?_⟩
 ·show 0<k.d' / k.g;obtain ⟨q,hq⟩:=hdv k.d' (Qt ..);have h0:=k.d'_ne;have hgc:=k.gcd_ne;have e:k.d' / k.g=q:=by rw [hq,Xt _ hg]
  rw [e];unfold Crv.g at hq hg;have hq0:q≠0:=λe=>by rw [e,Kb] at hq; exact h0 hq
  split at hq
  ·rename_i hneg;rcases Wi hq0 with h | h
   ·have:=V5 (a:=-((Gj (k.d'::(trim k.x++trim k.y)):Nat):Int)) (b:=q) (by omega) h;omega
   ·exact h
  ·rename_i hneg;rcases Wi hq0 with h | h
   ·have:=V4 (a:=((Gj (k.d'::(trim k.x++trim k.y)):Nat):Int)) (b:=q) (by omega) h;omega
   ·exact h
 ·show Gj (k.d' / k.g::(trim ((trim k.x).map (· / k.g))++trim ((trim k.y).map (· / k.g))))=1;rw [show trim ((trim k.x).map (· / k.g))=(trim k.x).map (· / k.g) from hx,show trim ((trim k.y).map (· / k.g))=(trim k.y).map (· / k.g) from hy,<-Jm,<-Zt (f:=(· / k.g))];refine Qoy hg ?_;unfold Crv.g
  split <;> omega
structure Pt where
 c:Crv
 id:Int
def Hn (p:Pt):List LV:=[pl p.c.x,pl p.c.y,sg p.c.d,mg p.c.d,.int .i64 p.id]
def pts (l:List Pt):LV:=.row (l.map Hn)
def pos:List Pt->Int->Nat
 | [],_=>0
 | p::l,id=>if p.id<id then pos l id+1 else 0
def has (l:List Pt) (id:Int):Bool:=match l[pos l id]? with
 | some p=>decide (p.id=id)
 | none=>false
theorem Q85 (l:List Pt) (id:Int):pos l id<=l.length:=by
 induction l with
 | nil=>exact Qm _
 | cons p l ih=>simp only [pos]; split <;> simp <;> omega
theorem Qw8:∀ {l:List Pt} {id:Int} {k:Nat},(∀ j p,j<k->l[j]? = some p->p.id<id)->(k=l.length\/∃ p,l[k]? = some p/\¬p.id<id)->pos l id=k
 |
  [],id,k,_,h=>by
  rcases h with h | ⟨p,h,_⟩
  ·subst h; rfl
  ·simp at h
 |
  q::l,id,0,_,h=>by
  rcases h with h | ⟨p,h,h2⟩
  ·simp at h
  ·simp at h; subst h; simp [pos,h2]
 |
  q::l,id,k+1,h1,h=>by
  have hq:=h1 0 q (by omega) rfl;simp only [pos,hq,if_true];rw [Qw8 (k:=k) (λj p hj hp=>h1 (j+1) p (by omega) (by simpa using hp))];rcases h with h | ⟨p,h,h2⟩
  ·left; simpa using h
  ·right; exact ⟨p,by simpa using h,h2⟩
def put (l:List Pt) (q:Pt):List Pt:=l.take (pos l q.id)++q::l.drop (pos l q.id)
def Ow (l:List Pt) (q:Pt):Int:=if has l q.id=true then 6 else if 6<=l.length then 9 else 0
def Quu (s n:Nat) (p:Pt):Prop:=Nml p.c/\Cs s n p.c
theorem Q05 (l:List Pt) (q:Pt):(put l q).length=l.length+1:=by
 have:=Q85 l q.id;simp [put]; omega
theorem Q06 {l:List Pt} {q p:Pt} (h:p∈put l q):p=q\/p∈l:=by
 unfold put at h;rcases Qw.1 h with h | h
 ·exact .inr (Ql h)
 ·rcases Qo.1 h with h | h
  ·exact .inl h
  ·exact .inr (Q3 h)
def Ta:List Pt->List Pt->List Pt×Int
 | acc,[]=>(acc,0)
 | acc,q::qs=>if Ow acc q=0 then Ta (put acc q) qs else ([],Ow acc q)
def Ce (a b:Crv):Bool:=decide (a.x=b.x/\a.y=b.y/\a.d=b.d)
def Sa (out:List Pt) (p:Pt):List Pt:=if out.any (λq=>Ce p.c q.c)=true then out else out++[p]
def C0 (l:List Pt):List Pt:=l.foldl Sa []
theorem Qnv {out:List Pt} {p q:Pt} (h:q∈Sa out p):q∈out\/q=p:=by
 unfold Sa at h
 split at h
 ·exact .inl h
 ·rcases Qw.1 h with h | h
  ·exact .inl h
  ·exact .inr (by simpa using h)
theorem Q36 (out:List Pt) (p:Pt):(Sa out p).length<=out.length+1:=by
 unfold Sa; split <;> simp
theorem Rk {α β:Type} (f:β->α->β) (b:β) (l:List α) {i:Nat} {x:α} (h:l[i]? = some x):(l.take (i+1)).foldl f b=f ((l.take i).foldl f b) x:=by
 rw [Jv,h]; simp [Yx]
theorem Qbr (l:List Pt) (i:Nat):∀ q∈(l.take i).foldl Sa [],q∈l:=by
 induction i with
 | zero=>simp
 |
  succ i ih =>
  intro q hq;cases hi:l[i]? with
  |
   none =>
   rw [Qj (by have:=Jk.1 hi; omega)] at hq;rw [Qj (Jk.1 hi)] at ih;exact ih q hq
  |
   some x =>
   rw [Rk _ _ _ hi] at hq;rcases Qnv hq with h | h
   ·exact ih q h
   ·subst h; exact Qa hi
theorem Qbq (l:List Pt) (i:Nat):((l.take i).foldl Sa []).length<=i:=by
 induction i with
 | zero=>simp
 |
  succ i ih =>
  cases hi:l[i]? with
  |
   none =>
   rw [Qj (by have:=Jk.1 hi; omega)];rw [Qj (Jk.1 hi)] at ih;omega
  |
   some x =>
   rw [Rk _ _ _ hi];have:=Q36 ((l.take i).foldl Sa []) x;omega
theorem Qky {l:List Pt} {q:Pt} (h:q∈C0 l):q∈l:=by
 have:=Qbr l l.length q;rw [Q5] at this;exact this h
theorem Qeh (l:List Pt):(C0 l).length<=l.length:=by
 have:=Qbq l l.length;rwa [Q5] at this
def IsPt (s n:Nat) (z:List LV) (q:Pt):Prop:=∃ lx ly b l px py d,z=[.row lx,.row ly,.bool b,Zj2 l,.int .i64 q.id]/\IsInts lx px/\IsInts ly py/\Hp (.bool b) (Zj2 l) d/\Cs s n ⟨px,py,d⟩/\q.c=Crv.norm ⟨px,py,d⟩
theorem Ziu {s n:Nat} {p:Pt} (h:Quu s n p):IsPt s n (Hn p) p:=by
 obtain ⟨b,l,h1,h2,h3,h4⟩:=Uk p.c.d;refine ⟨_,_,decide (p.c.d<0),U3 p.c.d.natAbs,_,_,p.c.d,rfl,Gk _,Gk _,Uk _,h.2,(Crv.norm_of h.1).symm⟩
def IsPts (s n:Nat):List (List LV)->List Pt->Prop
 | [],[]=>True
 | z::zs,q::qs=>IsPt s n z q/\IsPts s n zs qs
 | _,_=>False
theorem IsPts.len {s n:Nat}:∀ {zs:List (List LV)} {qs:List Pt},IsPts s n zs qs->zs.length=qs.length
 | [],[],_=>rfl
 | _::_,_::_,h=>by simp [h.2.len]
 | [],_::_,h=>h.elim
 | _::_,[],h=>h.elim
theorem IsPts.get {s n:Nat}:∀ {zs:List (List LV)} {qs:List Pt},IsPts s n zs qs->∀ {i:Nat} {q:Pt},qs[i]? = some q->∃ z,zs[i]? = some z/\IsPt s n z q
 | [],[],_,i,q,h=>by simp at h
 | z::zs,q::qs,h,0,r,hr=>by simp at hr; subst hr; exact ⟨z,rfl,h.1⟩
 | z::zs,q::qs,h,i+1,r,hr=>by simpa using h.2.get (i:=i) (by simpa using hr)
 | [],_::_,h,_,_,_=>h.elim
 | _::_,[],h,_,_,_=>h.elim
theorem Qz2 {s n:Nat}:∀ {l:List Pt},(∀ p∈l,Quu s n p)->IsPts s n (l.map Hn) l
 | [],_=>trivial
 | p::l,h=>⟨Ziu (h p (Qt ..)),Qz2 λq hq=>h q (Qh _ hq)⟩
theorem IsPt.ok {s n:Nat} {z:List LV} {q:Pt} (h:IsPt s n z q) (h1:1<=s):Quu s n q:=by
 obtain ⟨lx,ly,b,l,px,py,d,_,_,_,_,hc,e⟩:=h;unfold Quu;rw [e];exact ⟨Crv.nml _,hc.norm h1⟩
theorem Q3c (acc qs:List Pt) {i:Nat} {q:Pt} (hi:qs[i]? = some q) (h:Ta acc (qs.take i)=((Ta acc (qs.take i)).1,0)):Ta acc (qs.take (i+1))=if Ow (Ta acc (qs.take i)).1 q=0 then (put (Ta acc (qs.take i)).1 q,0) else ([],Ow (Ta acc (qs.take i)).1 q):=by
 induction qs generalizing acc i with
 | nil=>simp at hi
 |
  cons x qs ih =>
  cases i with
  | zero=>simp at hi; subst hi; simp [Ta]
  |
   succ i =>
   simp only [Yj,Ta] at h ⊢;by_cases h0:Ow acc x=0
   ·simp only [h0,if_true] at h ⊢;exact ih (put acc x) (by simpa using hi) h
   ·simp only [h0,if_false] at h;injection h with _ h;exact absurd h h0
theorem Q8h (acc qs:List Pt) {i:Nat} {e:Int} (he:e≠0) (h:Ta acc (qs.take i)=([],e)):Ta acc qs=([],e):=by
 induction qs generalizing acc i with
 | nil=>simp [Ta] at h; exact absurd h.2.symm he
 |
  cons x qs ih =>
  cases i with
  | zero=>simp [Ta] at h; exact absurd h.2.symm he
  |
   succ i =>
   simp only [Yj,Ta] at h ⊢;by_cases h0:Ow acc x=0
   ·simp only [h0,if_true] at h ⊢; exact ih _ h
   ·simp only [h0,if_false] at h ⊢; exact h
def U9 (p:List Int) (q:Rat):Int:=B7 (Zew p q.num q.den) 0
abbrev qa (q:Rat):List LV:=pl [-q.num,(q.den:Int)]::(rl q++rl q)
def Hd (sgn:List Int->Int):Nat->List Int->Int
 | 0,_=>0
 | k+1,p=>if p.length=0 then 0 else if sgn p=0 then Hd sgn k (Fg p) else sgn p
theorem Lo (sgn:List Int->Int):∀ (k:Nat) (p:List Int),p.length<=k->Hd sgn k p=Hd sgn p.length p
 |
  0,p,h=>by
  have:p.length=0:=by omega
  rw [this]
 |
  k+1,p,h=>by
  cases hp:p.length with
  | zero=>simp [Hd,hp]
  |
   succ m =>
   simp only [Hd];have h1:=Sr p;rw [Lo sgn k (Fg p) (by omega),Lo sgn m (Fg p) (by omega)]
theorem Qgf (sgn:List Int->Int) {p:List Int} (h:p.length=0):Hd sgn p.length p=0:=by rw [h]; rfl
theorem Qgd (sgn:List Int->Int) {p:List Int} (h:0<p.length) (hs:sgn p≠0):Hd sgn p.length p=sgn p:=by
 obtain ⟨m,hm⟩:∃ m,p.length=m+1:=⟨p.length-1,by omega⟩;rw [hm]; simp only [Hd]; rw [if_neg (by omega),if_neg hs]
theorem Qge (sgn:List Int->Int) {p:List Int} (h:0<p.length) (hs:sgn p=0):Hd sgn p.length p=Hd sgn (Fg p).length (Fg p):=by
 obtain ⟨m,hm⟩:∃ m,p.length=m+1:=⟨p.length-1,by omega⟩;rw [hm]; simp only [Hd]; rw [if_neg (by omega),if_pos hs];exact Lo sgn m _ (by have:=Sr p; omega)
structure Tm where
 p:List Int
 lo:Rat
 hi:Rat
abbrev ta (t:Tm):List LV:=pl t.p::(rl t.lo++rl t.hi)
abbrev tq (q:Rat):Tm:=⟨[-q.num,(q.den:Int)],q,q⟩
def Nw (sg:List Int->Int) (p:List Int):Int:=Hd sg p.length p
def Fc (p:List Int) (q:Rat):Int:=Nw (λp=>U9 p q) p
structure Pb (p:List Int):Prop where
 t:Um p
 l:p.length<=64
 b:Bd 16777216 p
abbrev Qb (q:Rat):Prop:=Qs 16777216 q
abbrev Cb (k:Crv):Prop:=Cs 1048576 16 k
def Qpy (a b:Crv):List Int:=Sx (Uz b.x a.d) (Uz a.x b.d)
def Qpn (a b:Crv):List Int:=Sx (Uz b.y a.d) (Uz a.y b.d)
def Q81 (sg:List Int->Int) (a b:Pt):List (List Int)->Bool
 | []=>decide (a.id<b.id)
 | p::l=>if 0<p.length then decide (0<Nw sg p) else Q81 sg a b l
def Qif (sg:List Int->Int) (a b:Pt):Bool:=Q81 sg a b [Qpy a.c b.c,Qpn a.c b.c]
end Orr
namespace Orr
open Go
structure Ct where
 kind:Int
 i0:Int
 i1:Int
 i2:Int
 i3:Int
 p:List Int
 want:Int
abbrev Qla (c:Ct):List LV:=[.int .i64 c.kind,.int .i64 c.i0,.int .i64 c.i1,.int .i64 c.i2,.int .i64 c.i3,pl c.p,.int .i64 c.want]
def Hi:List Int->List Int->Bool
 | x::l,y::m=>if x=y then Hi l m else decide (x<y)
 | _,_=>false
def Nl (a b:Ct):Bool:=Hi [a.kind,a.i0,a.i1,a.i2,a.i3] [b.kind,b.i0,b.i1,b.i2,b.i3]
def Oq (out:List Ct) (c:Ct):Nat->Nat
 | 0=>0
 |
  k+1=>match out[k]? with
  | some x=>if Nl c x=true then Oq out c k else k+1
  | none=>k+1
theorem Q0y (out:List Ct) (c:Ct):∀ k,Oq out c k<=k
 | 0=>Qm _
 |
  k+1=>by
  simp only [Oq]
  split
  ·split
   ·exact Nat.le_succ_of_le (Q0y out c k)
   ·exact Qm _
  ·exact Qm _
theorem Zeo {out:List Ct} {c x:Ct} {k:Nat} (hx:out[k]? = some x) (h:Nl c x=true):Oq out c (k+1)=Oq out c k:=by
 simp only [Oq,hx,h,if_true]
theorem Q84 {out:List Ct} {c x:Ct} {k:Nat} (hx:out[k]? = some x) (h:Nl c x=false):Oq out c (k+1)=k+1:=by
 simp [Oq,hx,h]
def Qbz (out:List Ct) (c:Ct):List Ct:=out.take (Oq out c out.length)++c::out.drop (Oq out c out.length)
theorem Q7s (out:List Ct) (c:Ct):(Qbz out c).length=out.length+1:=by
 have:=Q0y out c out.length;simp [Qbz]; omega
theorem Q7t {out:List Ct} {c x:Ct} (h:x∈Qbz out c):x=c\/x∈out:=by
 simp only [Qbz,Qw,Qo] at h;rcases h with h | h | h
 ·exact .inr (Ql h)
 ·exact .inl h
 ·exact .inr (Q3 h)
def Tp (l:List Ct):List Ct:=l.foldl Qbz []
theorem Qxu (l:List Ct) (c:Ct):Tp (l++[c])=Qbz (Tp l) c:=by simp [Tp,Yx]
theorem Qxv {l:List Ct} {i:Nat} {c:Ct} (h:l[i]? = some c):Tp (l.take (i+1))=Qbz (Tp (l.take i)) c:=by
 rw [Xc,h]; exact Qxu _ _
theorem Ql4:∀ (l acc:List Ct),(l.foldl Qbz acc).length=acc.length+l.length
 | [],acc=>by simp
 | c::l,acc=>by simp only [Z8]; rw [Ql4 l (Qbz acc c),Q7s]; simp; omega
theorem Qfw (l:List Ct):(Tp l).length=l.length:=by unfold Tp; rw [Ql4]; simp
theorem Ql5:∀ (l acc:List Ct) {x:Ct},x∈l.foldl Qbz acc->x∈l\/x∈acc
 | [],acc,x,h=>.inr h
 |
  c::l,acc,x,h=>by
  simp only [Z8] at h;rcases Ql5 l _ h with h | h
  ·exact .inl (Qh _ h)
  ·rcases Q7t h with rfl | h
   ·exact .inl (Qt ..)
   ·exact .inr h
theorem Q3u {l:List Ct} {x:Ct} (h:x∈Tp l):x∈l:=by
 rcases Ql5 l [] h with h | h
 ·exact h
 ·cases h
theorem Qsk {α:Type} (l:List α) (z x:α) {k m':Nat} (hk:k<=l.length) (hm:m'=l.length-k) :
 ((l++[z]).take (k+1)++((l++[z]).drop k).take m'++(l++[z]).drop (k+1+m')).set k x=l.take k++x::l.drop k:=by
 subst hm;have e1:((l++[z]).drop k).take (l.length-k)=l.drop k:=by
  rw [Vn hk,Yg (by simp),Qj (by simp)]
 have e2:(l++[z]).drop (k+1+(l.length-k))=[]:=Ym (by simp; omega);rw [e1,e2,Xo];have e3:(l++[z]).take (k+1)=(l++[z]).take k++[(l++[z])[k]'(by simp; omega)]:=by rw [List.take_succ_eq_append_getElem]
 rw [e3,Yg hk,Ze,List.set_append,if_neg (by simp; omega)];simp [Zr hk]
end Orr
namespace Orr
open Go Go.Proofs
set_option maxRecDepth 10000
abbrev pr (p:List Int):TV:=.one (pl p)
theorem Tv {p:List Int} {i:Nat} {z:Int} (h:p[i]? = some z):(p.map Gs)[i]? = some (Gs z):=Gz h
theorem Qim (p:List Int):Uh Tryz.prog 158 [pr p] [pr (trim p)]:=by
 refine Ha Tryz.func158 rfl (ln 0 rfl rfl λhl=>?_);rw [Zc] at hl;refine go tt [] rfl trivial ?_;refine lp (S:=Nat) 0 (λL1 n=>(3,.v (.one (.int .i64 (n:Int))))::L1) (λ_=>[]) id (λn=>n<=p.length/\∀ j x,n<=j->p[j]? = some x->x=0) (p.map Gs).length ⟨by simp,λj x h1 h2=>by
  have:=(Qc.1 h2).1; simp at h1; omega⟩ rfl (λ_ _=>rfl) rfl λn ⟨h1,h2⟩=>?_
 cases n with
 | zero=>exact en tt [.f (by simp),.f rfl,.i 0] rfl (by rw [Qua h1 h2 (λh=>by omega)]; simp [pl]) (by simp [Uf])
 |
  succ n =>
  obtain ⟨x,hx⟩:=gxE (l:=p) (i:=n) (by omega);by_cases h0:x=0
  ·refine go tt [.t (by simp),.r 11 (v:=.one (.int .i64 (n:Int))) (by simp),.x (Tv hx),.c [] Ap,.t (by simp [h0]),.r 17 (v:=.one (.int .i64 (n:Int))) (by simp)] rfl (by simp [Uf]; omega) ?_;exact rd n (by simp) ⟨by omega,λj y h3 h4=>by
    rcases Vg h3 with rfl | h3
    ·rw [hx] at h4; injection h4 with h4; rw [<-h4,h0]
    ·exact h2 j y h3 h4⟩ rfl
  ·exact en tt [.t (by simp),.r 11 (v:=.one (.int .i64 (n:Int))) (by simp),.x (Tv hx),.c [] Ap,.f (by simp [h0]),.i (n+1)] rfl (by rw [Qua h1 h2 (λ_=>⟨x,hx,h0⟩)]; simp [pl,Yv]) (by simp [Uf] <;> omega)
theorem Qyw (p:List Int) (k:Nat):Uh Tryz.prog 244 [pr p,.one (.int .i64 (k:Int))] [.agg (Gs (p.getD k 0))]:=by
 by_cases h:k<p.length
 ·have hx:=Qf h;have e:p.getD k 0=p[k]:=by simp [List.getD,hx]
  rw [e];exact w tt Tryz.func244 rfl [.t (by simp; omega),.x (Tv hx)] rfl rfl trivial
 ·have e:p.getD k 0=0:=by simp [List.getD,Qr (Y6 h)]
  rw [e,D2];exact w tt Tryz.func244 rfl [.f (by simp; omega)] rfl rfl trivial
def fil (f:Nat->List LV) (z:List LV) (n k:Nat):List (List LV):=(List.range n).map λi=>if i<k then f i else z
theorem Qak (f:Nat->List LV) (z:List LV) (n k:Nat):(fil f z n k).length=n:=by simp [fil]
theorem Er (f:Nat->List LV) (z:List LV) (n:Nat):List.replicate n z=fil f z n 0:=by
 refine Xq λi=>?_
 simp only [fil,Js,Za];by_cases h:i<n
 ·simp [h]
 ·simp [h]
theorem Qaj (f:Nat->List LV) (z:List LV) (n:Nat):fil f z n n=(List.range n).map f:=by
 refine Y9 λi hi=>?_
 rw [if_pos (Vq.1 hi)]
theorem Qal (f:Nat->List LV) (z:List LV) {n k:Nat} (h:k<n):(fil f z n k).set k (f k)=fil f z n (k+1):=by
 refine Xq λi=>?_
 rw [Ye];simp only [fil,Za,Zc,List.length_range,h,if_true];by_cases e:k=i
 ·subst e; simp [h]
 ·simp only [e,if_false];by_cases hi:i<n
  ·simp only [Xz hi,Jy];congr 1;by_cases h2:i<k
   ·rw [if_pos h2,if_pos (by omega)]
   ·rw [if_neg h2,if_neg (by omega)]
  ·simp [Qr,hi]
theorem Qoa {n fid:Nat} {l1 l2:List LV} {g:Nat->Int} (hn:n<274877906944) (h:∀ k,k<n->Uh Tryz.prog fid [.one (.int .i64 (k:Int)),.one (.sh l1),.one (.sh l2)] [.agg (Gs (g k))]):Uh Tryz.prog 240 [.one (.int .i64 (n:Int)),.one (.fn fid [] [.sh l1,.sh l2])] [pr (Pk n g)]:=by
 refine Ha Tryz.func240 rfl ?_;refine go tt [.i n,.i n,.r 10 (eI (b:=(n:Int)) (by simp))] rfl (by simp [Uf]; omega) ?_;rw [Er λk=>Gs (g k)];refine lp (S:=Nat) 1 (λL1 k=>(11,.v (.one (.int .i64 (k:Int))))::L1) (λk=>[.row false 55 2 (fil (λk=>Gs (g k)) [.bool false,.nils] n k)]) (λk=>n-k) (λk=>k<=n) 0 (Qg _) rfl (λ_ _=>rfl) rfl λk hk=>?_
 by_cases hlt:k<n
 ·refine go tt [.t (by simp; omega),.c [] (h k hlt),.i k] rfl (by simp [Uf,Qak]; omega) ?_;have e:=Qal (λk=>Gs (g k)) [.bool false,.nils] hlt;rw [e];exact rd (k+1) (by omega) hlt rfl
 ·obtain rfl:k=n:=by omega
  have e:fil (λk=>Gs (g k)) [.bool false,.nils] k k=((List.range k).map g).map Gs:=by rw [Qaj]; simp
  rw [e];exact en tt [.f (by simp),.c [] (Qim _)] rfl rfl trivial
theorem Qyt {n fid:Nat} {l1:List LV} {g:Nat->Int} (hn:n<274877906944) (h:∀ k,k<n->Uh Tryz.prog fid [.one (.int .i64 (k:Int)),.one (.sh l1)] [.agg (Gs (g k))]):Uh Tryz.prog 240 [.one (.int .i64 (n:Int)),.one (.fn fid [] [.sh l1])] [pr (Pk n g)]:=by
 refine Ha Tryz.func240 rfl ?_;refine go tt [.i n,.i n,.r 10 (eI (b:=(n:Int)) (by simp))] rfl (by simp [Uf]; omega) ?_;rw [Er λk=>Gs (g k)];refine lp (S:=Nat) 1 (λL1 k=>(11,.v (.one (.int .i64 (k:Int))))::L1) (λk=>[.row false 55 2 (fil (λk=>Gs (g k)) [.bool false,.nils] n k)]) (λk=>n-k) (λk=>k<=n) 0 (Qg _) rfl (λ_ _=>rfl) rfl λk hk=>?_
 by_cases hlt:k<n
 ·refine go tt [.t (by simp; omega),.c [] (h k hlt),.i k] rfl (by simp [Uf,Qak]; omega) ?_;have e:=Qal (λk=>Gs (g k)) [.bool false,.nils] hlt;rw [e];exact rd (k+1) (by omega) hlt rfl
 ·obtain rfl:k=n:=by omega
  have e:fil (λk=>Gs (g k)) [.bool false,.nils] k k=((List.range k).map g).map Gs:=by rw [Qaj]; simp
  rw [e];exact en tt [.f (by simp),.c [] (Qim _)] rfl rfl trivial
theorem Zhn {p q:List Int} (k:Nat) (hp:Bd 4294967295 p) (hq:Bd 4294967295 q):Uh Tryz.prog 248 [.one (.int .i64 (k:Int)),.one (.sh [pl p]),.one (.sh [pl q])] [.agg (Gs (p.getD k 0+q.getD k 0))] :=
 w tt Tryz.func248 rfl [.c [] (Qyw p k),.c [] (Qyw q k),.c [] (Qik (Uk _) (Uk _) (Uu hp k) (Uu hq k))] rfl rfl trivial
theorem Zhw {p q:List Int} (k:Nat) (hp:Bd 4294967295 p) (hq:Bd 4294967295 q):Uh Tryz.prog 243 [.one (.int .i64 (k:Int)),.one (.sh [pl p]),.one (.sh [pl q])] [.agg (Gs (p.getD k 0-q.getD k 0))] :=
 w tt Tryz.func243 rfl [.c [] (Qyw p k),.c [] (Qyw q k),.c [] (Q5l (Uk _) (Uk _) (Uu hp k) (Uu hq k))] rfl rfl trivial
theorem Hg {p:List Int} {k:Nat} (h:k<p.length):p[k]? = some (p.getD k 0):=by simp [List.getD,Qf h]
theorem Q5g {p:List Int} {c:Int} {k:Nat} (hk:k<p.length) (hp:Bd 4294967295 p) (hc:Ur c<=4294967295):Uh Tryz.prog 245 [.one (.int .i64 (k:Int)),.one (.sh [pl p]),.one (.sh (Gs c))] [.agg (Gs (p.getD k 0*c))] :=
 w tt Tryz.func245 rfl [.x (Tv (Hg hk)),.c [] (Dk (Uk _) (Uk _) (Uu hp k) hc)] rfl rfl trivial
theorem Zhs {p:List Int} {k:Nat} (hk:k<p.length) (hp:Bd 4294967295 p):Uh Tryz.prog 285 [.one (.int .i64 (k:Int)),.one (.sh [pl p])] [.agg (Gs (-(p.getD k 0)))] :=
 w tt Tryz.func285 rfl [.x (Tv (Hg hk)),.c [] (Qlh (Uk _) (Uu hp k))] rfl rfl trivial
theorem Q12 {p:List Int} {k:Nat} (hk:k+1<p.length) (hl:p.length<274877906944) (hp:Bd 4294967295 p):Uh Tryz.prog 241 [.one (.int .i64 (k:Int)),.one (.sh [pl p])] [.agg (Gs (p.getD (k+1) 0*((k+1:Nat):Int)))] :=
 w tt Tryz.func241 rfl [.x (Tv (Hg hk)),.r 10 (eI (b:=((k+1:Nat):Int)) (by omega)),.c [] (Qvd (by omega)),.c [] (Dk (Uk _) (Uk _) (Uu hp _) (Q22 (show k+1<274877906944 by omega)))] rfl rfl (by simp [Uf] <;> omega)
theorem Qve {p q:List Int} (hlp:p.length<274877906944) (hlq:q.length<274877906944) (hp:Bd 4294967295 p) (hq:Bd 4294967295 q):Uh Tryz.prog 214 [pr p,pr q] [pr (Tf p q)] :=
 w tt Tryz.func214 rfl [.r 9 (eI (b:=((max p.length q.length:Nat):Int)) (by simp; omega)),.c [] (Qoa (by omega) λk _=>Zhn k hp hq)] rfl rfl trivial
theorem Qvg {p q:List Int} (hlp:p.length<274877906944) (hlq:q.length<274877906944) (hp:Bd 4294967295 p) (hq:Bd 4294967295 q):Uh Tryz.prog 208 [pr p,pr q] [pr (Sx p q)] :=
 w tt Tryz.func208 rfl [.r 9 (eI (b:=((max p.length q.length:Nat):Int)) (by simp; omega)),.c [] (Qoa (by omega) λk _=>Zhw k hp hq)] rfl rfl trivial
theorem Q5b {p:List Int} (hlp:p.length<274877906944) (hp:Bd 4294967295 p):Uh Tryz.prog 260 [pr p] [pr (H5 p)] :=
 w tt Tryz.func260 rfl [.r 4 (eI (b:=(p.length:Int)) (by simp)),.c [] (Qyt hlp λk hk=>Zhs hk hp)] rfl rfl trivial
theorem Qcr {p:List Int} {c:Int} (hlp:p.length<274877906944) (hp:Bd 4294967295 p) (hc:Ur c<=4294967295):Uh Tryz.prog 209 [pr p,.agg (Gs c)] [pr (Uz p c)] :=
 w tt Tryz.func209 rfl [.r 6 (eI (b:=(p.length:Int)) (by simp)),.c [] (Qoa hlp λk hk=>Q5g hk hp hc)] rfl rfl trivial
theorem Qad {p:List Int} (hlp:p.length<274877906944) (hp:Bd 4294967295 p):Uh Tryz.prog 202 [pr p] [pr (Fg p)] :=
 w tt Tryz.func202 rfl [.r 6 (eI (b:=((p.length-1:Nat):Int)) (by simp; omega)),.c [] (Qyt (by omega) λk hk=>Q12 (by omega) hlp hp)] rfl rfl (by simp [Uf]; omega)
theorem Ck {ls:List (List LV)} {p:List Int} (hi:IsInts ls p) (hl:p.length<274877906944) (hs:Bd 4294967295 p):Uh Tryz.prog 126 [.one (.row ls)] [pr (trim p)]:=by
 refine Ha Tryz.func126 rfl ?_;have hlen:=hi.len;refine go tt [.i ls.length,.i ls.length] rfl (by simp [Uf]; omega) ?_;rw [Er λk=>Gs (p.getD k 0)];refine lp (S:=Nat) 1 (λL1 k=>(11,.v (.one (.int .i64 (k:Int))))::L1) (λk=>[.row false 55 2 (fil (λk=>Gs (p.getD k 0)) [.bool false,.nils] ls.length k)]) (λk=>ls.length-k) (λk=>k<=ls.length) 0 (Qg _) rfl (λ_ _=>rfl) rfl λk hk=>?_
 by_cases hlt:k<ls.length
 ·obtain ⟨x,y,hx,hxy⟩:=hi.get (Hg (p:=p) (k:=k) (by omega));have cn:=Ao hxy (Uu hs k);obtain ⟨b,l,rfl,rfl,_⟩:=hxy;refine go tt [.t (by simp; omega),.x hx,.c [] cn,.i k] rfl (by simp [Uf,Qak]; omega) ?_;have e:=Qal (λk=>Gs (p.getD k 0)) [.bool false,.nils] hlt;rw [e];exact rd (k+1) (by omega) hlt rfl
 ·obtain rfl:k=ls.length:=by omega
  have e:fil (λk=>Gs (p.getD k 0)) [.bool false,.nils] ls.length ls.length=p.map Gs:=by
   rw [Qaj,hlen];refine Xq λi=>?_
   by_cases hi:i<p.length
   ·simp [Xz hi,List.getD,Qf hi]
   ·simp [Qr,hi]
  rw [e];exact en tt [.f (by simp),.c [] (Qim _)] rfl rfl trivial
theorem Hq {p:List Int} (ht:Um p) (hl:p.length<274877906944) (hs:Bd 4294967295 p):Uh Tryz.prog 126 [pr p] [pr p]:=by
 have:=Ck (Gk p) hl hs;rw [ht] at this; exact this
theorem Zdl {p:List Int} {i:Nat} {z:Int} (h:p[i]? = some z):(p.map λ(x:Int)=>[LV.int .i64 x])[i]? = some [.int .i64 z]:=Gz h
theorem Q5c {p:List Int} (hl:p.length<274877906944) (hr:∀ z∈p,-9223372036854775808≤z/\z≤9223372036854775807):Uh Tryz.prog 114 [.one (ids p)] [pr (trim p)]:=by
 refine Ha Tryz.func114 rfl ?_;refine go tt [.r 7 (eI (b:=(p.length:Int)) (by simp)),.i p.length,.i p.length,.r 10 (eI (b:=(p.length:Int)) (by simp))] rfl (by simp [Uf]; omega) ?_;rw [Er λk=>Gs (p.getD k 0)];refine lp (S:=Nat) 1 (λL1 k=>(11,.v (.one (.int .i64 (k:Int))))::L1) (λk=>[.row false 55 2 (fil (λk=>Gs (p.getD k 0)) [.bool false,.nils] p.length k)]) (λk=>p.length-k) (λk=>k<=p.length) 0 (Qg _) rfl (λ_ _=>rfl) rfl λk hk=>?_
 by_cases hlt:k<p.length
 ·have hg:=Hg hlt;refine go tt [.t (by simp; omega),.x (Zdl hg),.c [] (Qvd (hr _ (Qa hg))),.i k] rfl (by simp [Uf,Qak]; omega) ?_;have e:=Qal (λk=>Gs (p.getD k 0)) [.bool false,.nils] hlt;rw [e];exact rd (k+1) (by omega) hlt rfl
 ·obtain rfl:k=p.length:=by omega
  have e:fil (λk=>Gs (p.getD k 0)) [.bool false,.nils] p.length p.length=p.map Gs:=by
   rw [Qaj];refine Xq λi=>?_
   by_cases hi:i<p.length
   ·simp [Xz hi,List.getD,Qf hi]
   ·simp [Qr,hi]
  rw [e];exact en tt [.f (by simp),.c [] (Qim _)] rfl rfl trivial
theorem Qw5 (l:List Int) (i:Nat) (z:Int):(l.map Gs).set i (Gs z)=(l.set i z).map Gs:=by rw [Yo]
theorem Qhy (m:Nat):((List.replicate m [LV.bool false,LV.nils]).map λc=>c.map Qg3)=(List.replicate m (0:Int)).map Gs:=by
 simp [D2,Qg3]
theorem Qn3 {p0 q:List Int} {s t:Nat} (tq:Um q) (hlp:p0.length<137438953472) (hlq:q.length<137438953472) (hp:Bd s p0) (hq:Bd t q) (hst:s+t<=4294967000):Uh Tryz.prog 215 [pr p0,pr q] [pr (Uq (trim p0) q)]:=by
 have cp:=Ck (Gk p0) (by omega) (Ug hp (show s<=4294967295 by omega));have hp:=Rf hp;have hlp:=Zz (G0 p0) hlp;obtain ⟨p,ep⟩:=nmE (trim p0);rw [<-ep] at cp hp hlp ⊢;have cq:=Hq tq (by omega) (Ug hq (show t<=4294967295 by omega));by_cases h0:p.length=0
 ·have e:Uq p q=[]:=by unfold Uq; rw [if_pos (.inl h0)]
  rw [e];exact w tt Tryz.func215 rfl [.c [] cp,.c [] cq,.t (by simp; exact Qi h0),.t rfl] rfl rfl trivial
 by_cases h1:q.length=0
 ·have e:Uq p q=[]:=by unfold Uq; rw [if_pos (.inr h1)]
  rw [e];exact w tt Tryz.func215 rfl [.c [] cp,.c [] cq,.f (by simp; intro h; subst h; simp at h0),.t (by simp; exact Qi h1)] rfl rfl trivial
 refine Ha Tryz.func215 rfl ?_;have e:Uq p q=trim (B8 p q (List.replicate (p.length+q.length-1) 0) p.length):=by unfold Uq; rw [if_neg (by omega)]
 rw [e];obtain ⟨N,hN⟩:=nmE (p.length+q.length-1);rw [<-hN];obtain ⟨o,ho⟩:=nmE (List.replicate N (0:Int));rw [<-ho];have hol:o.length=N:=by rw [ho]; simp
 have ho0:∀ m,o.getD m 0=0:=λm=>by rw [ho]; exact So N m
 refine go tt [.c [] cp,.c [] cq,.f (by simp; intro h; subst h; simp at h0),.f (by simp; intro h; subst h; simp at h1),.r 27 (eI (b:=(N:Int)) (by simp; omega)),.i N,.i N] rfl (by simp [Uf]; omega) ?_;refine nl 0 rfl rfl rfl ?_;rw [Qhy,<-ho];refine lp (S:=Nat) 1 (λL1 i=>(31,.v (.one (.int .i64 (i:Int))))::L1) (λi=>[.row false 55 2 ((B8 p q o i).map Gs)]) (λi=>p.length-i) (λi=>i<=p.length) 0 (Qg _) rfl (λ_ _=>rfl) rfl λi hi=>?_
 by_cases hlt:i<p.length
 ·refine go tt [.t (by simp; omega),.x (Tv (Hg hlt))] rfl trivial ?_;refine lp (S:=Nat) 2 (λL1 k=>(38,.v (.one (.int .i64 (k:Int))))::L1) (λk=>[.row false 55 2 ((Ez (p.getD i 0) q i (B8 p q o i) k).map Gs),.blk 55 (Gs (p.getD i 0))]) (λk=>q.length-k) (λk=>k<=q.length) 0 (Qg _) rfl (λ_ _=>rfl) rfl λk hk=>?_
  by_cases hk2:k<q.length
  ·have hm1:Ur ((Ez (p.getD i 0) q i (B8 p q o i) k).getD (i+k) 0)<=4294967295:=Qd (Ea (t:=39) (Qpf (by rw [Bt]; omega) (Qpe (λj hj=>by omega) ho0 (λi j=>Pv (Uu hp i) (Uu hq j))) (λj=>Pv (Uu hp i) (Uu hq j)) (i+k)) (Kd (show i+1<549755813888 by omega) (by decide))) (by omega);have hm2:Ur (p.getD i 0*q.getD k 0)<=4294967295:=Qd (U6 _ _) (by have:=Uu hp i; have:=Uu hq k; omega);have hg:(Ez (p.getD i 0) q i (B8 p q o i) k)[i+k]? = some ((Ez (p.getD i 0) q i (B8 p q o i) k).getD (i+k) 0):=Hg (by rw [E3,Bt]; omega);refine go tt [.t (by simp; omega),.x (Tv (Hg hk2)),.i (i+k),.x (Tv hg),.c [] (Dk (Uk _) (Uk _) (Qd (Uu hp i) (by omega)) (Qd (Uu hq k) (by omega))),.c [] (Qik (Uk _) (Uk _) hm1 hm2),.i (i+k)] rfl (by simp [Uf,E3,Bt] <;> omega) ?_;rw [Qw5];exact rd (k+1) (by omega) hk2 rfl
  ·obtain rfl:k=q.length:=by omega
   exact go tt [.f (by simp)] rfl (by simp [Uf]; omega) (rd (i+1) (by omega) hlt rfl)
 ·obtain rfl:i=p.length:=by omega
  exact en tt [.f (by simp),.c [] (Qim _)] rfl rfl trivial
theorem Qvf {p q:List Int} {s t:Nat} (tp:Um p) (tq:Um q) (hlp:p.length<137438953472) (hlq:q.length<137438953472) (hp:Bd s p) (hq:Bd t q) (hst:s+t<=4294967000):Uh Tryz.prog 215 [pr p,pr q] [pr (Uq p q)]:=by
 have h:=Qn3 tq hlp hlq hp hq hst;rw [show trim p=p from tp] at h;exact h
theorem Qyo {p q:List Int} (hlp:p.length<274877906944) (hlq:q.length<274877906944) (hp:Bd 4294967295 p) (hq:Bd 4294967295 q):Uh Tryz.prog 203 [pr p,pr q] [.one (.bool (decide (trim p=trim q)))]:=by
 refine Ha Tryz.func203 rfl ?_;have cp:=Ck (Gk p) hlp hp;have cq:=Ck (Gk q) hlq hq;have bp:=Rf hp;have bq:=Rf hq;have l1:=G0 p;have l2:=G0 q;obtain ⟨a,ha⟩:=nmE (trim p);obtain ⟨b,hb⟩:=nmE (trim q);rw [<-ha] at cp bp l1 ⊢;rw [<-hb] at cq bq l2 ⊢;by_cases hl:a.length=b.length
 ·refine go tt [.c [] cp,.c [] cq,.f (by simp; omega)] rfl trivial ?_;refine lp (S:=Nat) 0 (λL1 i=>(18,.v (.one (.int .i64 (i:Int))))::L1) (λ_=>[]) (λi=>a.length-i) (λi=>i<=a.length/\a.take i=b.take i) 0 ⟨Qg _,rfl⟩ rfl (λ_ _=>rfl) rfl λi ⟨hi,he⟩=>?_
  by_cases hlt:i<a.length
  ·have ga:=Hg hlt;have gb:=Hg (p:=b) (k:=i) (by omega);have cc:=Qn4 (Uk (a.getD i 0)) (Uk (b.getD i 0)) (Uu bp i) (Uu bq i);by_cases hz:a.getD i 0=b.getD i 0
   ·refine go tt [.t (by simp; omega),.x (Tv ga),.x (Tv gb),.c [] cc,.f (by simpa using Qoh.2 hz)] rfl (by simp [Uf]; omega) ?_;exact rd (i+1) (by omega) ⟨hlt,by rw [Jv,Jv,he,ga,gb,hz]⟩ rfl
   ·exact en tt [.t (by simp; omega),.x (Tv ga),.x (Tv gb),.c [] cc,.t (by have:=mt Qoh.1 hz; simpa using this)] rfl (by rw [decide_eq_false]; intro h; exact hz (by rw [h])) trivial
  ·obtain rfl:i=a.length:=by omega
   rw [Q5,hl,Q5] at he;exact en tt [.f (by simp)] rfl (by rw [decide_eq_true he]) trivial
 ·exact en tt [.c [] cp,.c [] cq,.t (by simp; omega)] rfl (by rw [decide_eq_false]; intro h; exact hl (by rw [h])) trivial
theorem Q5e {p:List Int} {n d:Int} {s t:Nat} (hl:p.length<274877906944) (hp:Bd s p) (hn:Ur n<=t) (hd:Ur d<=t) (hst:s+p.length*(t+1)+2*t+10<=4294967295):Uh Tryz.prog 201 [pr p,.agg (Gs n),.agg (Gs d)] [.agg (Gs (Zew p n d))]:=by
 refine Ha Tryz.func201 rfl ?_;refine go tt [.c [] (Qvd (z:=1) (by decide)),.r 13 (eI (b:=(p.length:Int)-1-((0:Nat):Int)) (by simp))] rfl (by simp [Uf]; omega) ?_;refine nlb 3 rfl rfl rfl ?_;have e0:[LV.bool false,LV.nils].map Qg3=Gs (S4 p n d 0).1:=by simp [Qg3,S4,D2]
 rw [e0];refine lp (S:=Nat) 5 (λL1 j=>(9,.v (.one (.int .i64 ((p.length:Int)-1-(j:Int)))))::L1) (λj=>[.blk 55 (Gs n),.blk 55 (Gs d),.blk 55 [.bool false,.nils],.blk 55 (Gs (S4 p n d j).1),.blk 55 (Gs (S4 p n d j).2)]) (λj=>p.length-j) (λj=>j<=p.length) 0 (Qg _) rfl (λ_ _=>rfl) rfl λj hj=>?_
 have hv:=Qqs (k:=j) hp hn hd;have hjl:j*(t+1)<=p.length*(t+1):=Qz _ (by omega);have hjl2:j*t<=j*(t+1):=Zl _ (by omega);by_cases hlt:j<p.length
 ·have hc:=Uu hp (p.length-1-j);have hm1:Ur ((S4 p n d j).1*n)<=4294967295:=Qd (U6 _ _) (by omega);have hm2:Ur (p.getD (p.length-1-j) 0*(S4 p n d j).2)<=4294967295:=Qd (U6 _ _) (by omega);refine go tt [.t (by simp; omega),.c [] (Dk (Uk _) (Uk _) (by omega) (by omega)),.r 22 (eI (b:=((p.length-1-j:Nat):Int)) (by omega)),.x (Tv (Hg (p:=p) (k:=p.length-1-j) (by omega))),.c [] (Dk (Uk _) (Uk _) (by omega) (by omega)),.c [] (Qik (Uk _) (Uk _) hm1 hm2),.c [] (Dk (Uk _) (Uk _) (by omega) (by omega)),.r 17 (eI (b:=(p.length:Int)-1-((j+1:Nat):Int)) (by omega))] rfl (by simp [Uf] <;> omega) ?_;exact rd (j+1) (by omega) hlt rfl
 ·obtain rfl:j=p.length:=by omega
  exact en tt [.f (by simp; omega)] rfl rfl trivial
theorem An {p:List Int} (tp:Um p) (hl:p.length<274877906944) (hp:Bd 4294967295 p):Uh Tryz.prog 259 [pr p] [.agg (Gs (p.getD (p.length-1) 0))]:=by
 have cn:=Hq tp hl hp;by_cases h0:p=[]
 ·subst h0;exact w tt Tryz.func259 rfl [.c [] cn,.t (by simp)] rfl (by simp [D2]) trivial
 ·have hpl:0<p.length:=Jz.2 h0;exact w tt Tryz.func259 rfl [.c [] cn,.f (by simpa using h0),.r 12 (eI (b:=((p.length-1:Nat):Int)) (by simp; omega)),.x (Tv (Hg (by omega)))] rfl rfl (by simp [Uf]; omega)
theorem Zg2 {a b:Int} {q:Rat} (h1:a=q.num) (h2:b=(q.den:Int)):[sg a,mg a,sg b,mg b]=rl q:=by rw [h1,h2]
theorem Qcv {n d:Int} (h0:d≠0) (hn:Ur n<=4294967295) (hd:Ur d<=4294967295):Uh Tryz.prog 163 [.agg (Gs n),.agg (Gs d)] [.agg (rl (Rat.divInt n d))]:=by
 have cg:=Q41 (Gk [n,d]) (λz hz=>by simp at hz; rcases hz with rfl | rfl <;> assumption);have gp:=Qsa (n:=n) h0;have gs:=Qz3 (n:=n) h0 hd;have m1:=Qjd n d;have m2:=Qje n d;obtain ⟨g,hg⟩:=nmE (((Gj [n,d]:Nat):Int));rw [<-hg] at cg gp gs m1 m2;by_cases hneg:d<0
 ·obtain ⟨e1,e2⟩:=Zdy (n:=n) hneg;rw [<-hg] at e1 e2;rw [<-Zg2 e1 e2];exact w tt Tryz.func163 rfl [.c [] cg,.t (by simpa using hneg),.c [] (Qlh (Uk n) hn),.c [] (Qlh (Uk d) hd),.c [] (Lh (Uk _) (Uk _) (by rw [Gy]; exact hn) gs (by omega) (Q0n m1)),.c [] (Lh (Uk _) (Uk _) (by rw [Gy]; exact hd) gs (by omega) (Q0n m2))] rfl rfl trivial
 ·obtain ⟨e1,e2⟩:=Qpb (n:=n) (d:=d) (by omega);rw [<-hg] at e1 e2;rw [<-Zg2 e1 e2];exact w tt Tryz.func163 rfl [.c [] cg,.f (by simpa using hneg),.c [] (Lh (Uk _) (Uk _) hn gs (by omega) m1),.c [] (Lh (Uk _) (Uk _) hd gs (by omega) m2)] rfl rfl trivial
theorem Qhd {x y x' y':LV} {n d:Int} (h1:Hp x y n) (h2:Hp x' y' d) (hn:Ur n<=4294967295) (hd:Ur d<=4294967295):Uh Tryz.prog 117 [.agg [x,y,x',y']] [.agg (rl (Gd n d))]:=by
 have c1:=Ao h1 hn;have c2:=Ao h2 hd;obtain ⟨b,l,rfl,rfl,_⟩:=h1;obtain ⟨b',l',rfl,rfl,_⟩:=h2;by_cases h0:d=0
 ·have e:Gd n d=Rat.divInt n 1:=by unfold Gd; rw [if_pos h0]
  rw [e];exact w tt Tryz.func117 rfl [.c [] c2,.c [] Ap,.t (by simpa using h0),.c [] (Qvd (z:=1) (by decide)),.c [] c1,.c [] (Qcv (by decide) hn (by decide))] rfl rfl trivial
 ·have e:Gd n d=Rat.divInt n d:=by unfold Gd; rw [if_neg h0]
  rw [e];exact w tt Tryz.func117 rfl [.c [] c2,.c [] Ap,.f (by simpa using h0),.c [] c1,.c [] (Qcv h0 hn hd)] rfl rfl trivial
theorem Qrg {q:Rat} (hq:Qs 4294967295 q):Uh Tryz.prog 117 [.agg (rl q)] [.agg (rl q)]:=by
 have:=Qhd (Uk q.num) (Uk (q.den:Int)) hq.1 hq.2;rwa [Qdy] at this
theorem Qn8 {a b:Rat} (ha:Qs 2147483647 a) (hb:Qs 2147483647 b):Uh Tryz.prog 164 [.agg (rl a),.agg (rl b)] [.agg (Gs (a.num*(b.den:Int))),.agg (Gs (b.num*(a.den:Int))),.agg (Gs ((a.den:Int)*(b.den:Int)))] :=
 w tt Tryz.func164 rfl [.c [] (Qrg (ha.mono (by decide))),.c [] (Qrg (hb.mono (by decide))),.c [] (Dk (Uk _) (Uk _) (Qd ha.1 (by decide)) (Qd hb.2 (by decide))),.c [] (Dk (Uk _) (Uk _) (Qd hb.1 (by decide)) (Qd ha.2 (by decide))),.c [] (Dk (Uk _) (Uk _) (Qd ha.2 (by decide)) (Qd hb.2 (by decide)))] rfl rfl trivial
theorem Dl {a b:Rat} (ha:Qs 2147483647 a) (hb:Qs 2147483647 b):Uh Tryz.prog 118 [.agg (rl a),.agg (rl b)] [.one (.int .i64 (Fx a b))] :=
 w tt Tryz.func118 rfl [.c [] (Qn8 ha hb),.c [] (Qn4 (Uk _) (Uk _) (Qd (U6 _ _) (by have:=ha.1; have:=hb.2; omega)) (Qd (U6 _ _) (by have:=hb.1; have:=ha.2; omega)))] rfl rfl trivial
theorem Q51 {x y x' y':LV} {n d:Int} (h1:Hp x y n) (h2:Hp x' y' d) (hn:Ur n<=4294967295) (hd:Ur d<=4294967295):Uh Tryz.prog 60 [.agg [x,y,x',y'],.one (.row [])] [.agg (rl (Gd n d))]:=by
 have c1:=Qhd h1 h2 hn hd;obtain ⟨b,l,rfl,rfl,_⟩:=h1;obtain ⟨b',l',rfl,rfl,_⟩:=h2;refine Ha Tryz.func60 rfl ?_;refine go tt [.c [] c1] rfl trivial ?_;refine lp (S:=Unit) 3 (λL1 _=>(12,.v (.one (.int .i64 0)))::L1) (λ_=>[.blk 74 [.bool b,.row (lm l),.bool b',.row (lm l')],.blk 74 [.bool false,.nils,.bool false,.nils],.blk 74 (rl (Gd n d))]) (λ_=>0) (λ_=>True) () trivial rfl (λ_ _=>rfl) rfl λ_ _=>?_
 exact en tt [.f (by simp)] rfl rfl trivial
theorem Qhc {q:Rat} (hq:Qs 4294967295 q):Uh Tryz.prog 60 [.agg (rl q),.one (.row [])] [.agg (rl q)]:=by
 have:=Q51 (Uk q.num) (Uk (q.den:Int)) hq.1 hq.2;rwa [Qdy] at this
theorem Zcl {q:Rat} (hq:Qs 4294967295 q):Uh Tryz.prog 200 [.agg (rl q)] [.agg (rl q)]:=w tt Tryz.func200 rfl [.c [] (Qhc hq)] rfl rfl trivial
theorem Qyp {p:List Int} {q:Rat} {s t:Nat} (tp:Um p) (hl:p.length<274877906944) (hp:Bd s p) (hq:Qs t q) (hst:s+p.length*(t+1)+2*t+10<=4294967295):Uh Tryz.prog 159 [pr p,.agg (rl q)] [.one (.int .i64 (U9 p q))]:=by
 have cc:=Qn4 (Uk (Zew p q.num q.den)) A2 (Qd (Qqs hp hq.1 hq.2).1 (by omega)) (by decide);exact w tt Tryz.func159 rfl [.c [] (Zcl (hq.mono (by omega))),.c [] (Hq tp hl (Ug hp (by omega))),.c [] (Q5e hl hp hq.1 hq.2 hst),.c [] cc] rfl rfl trivial
theorem Q5s {p:List Int} {g:Int} (hl:p.length<274877906944) (hp:Bd 4294967295 p) (hg:Ur g≤4294967295) (h0:g≠0) (hd:∀ z∈p,z % g=0):Uh Tryz.prog 199 [pr p,.agg (Gs g)] [pr (trim (p.map (· / g)))]:=by
 refine Ha Tryz.func199 rfl ?_;refine go tt [.r 9 (eI (b:=(p.length:Int)) (by simp)),.i p.length,.i p.length,.r 12 (eI (b:=(p.length:Int)) (by simp))] rfl (by simp [Uf]; omega) ?_;rw [Er λk=>Gs (p.getD k 0 / g)];refine lp (S:=Nat) 2 (λL1 k=>(13,.v (.one (.int .i64 (k:Int))))::L1) (λk=>[.blk 55 (Gs g),.row false 55 2 (fil (λk=>Gs (p.getD k 0 / g)) [.bool false,.nils] p.length k)]) (λk=>p.length-k) (λk=>k<=p.length) 0 (Qg _) rfl (λ_ _=>rfl) rfl λk hk=>?_
 by_cases hlt:k<p.length
 ·have hg2:=Hg hlt;refine go tt [.t (by simp; omega),.x (Tv hg2),.c [] (Lh (Uk _) (Uk _) (Uu hp k) hg h0 (hd _ (Qa hg2))),.i k] rfl (by simp [Uf,Qak]; omega) ?_;have e:=Qal (λk=>Gs (p.getD k 0 / g)) [.bool false,.nils] hlt;rw [e];exact rd (k+1) (by omega) hlt rfl
 ·obtain rfl:k=p.length:=by omega
  have e:fil (λk=>Gs (p.getD k 0 / g)) [.bool false,.nils] p.length p.length=(p.map (· / g)).map Gs:=by
   rw [Qaj];refine Xq λi=>?_
   by_cases hi:i<p.length
   ·simp [Xz hi,List.getD,Qf hi]
   ·simp [Qr,hi]
  rw [e];exact en tt [.f (by simp),.c [] (Ck (Gk (p.map (· / g))) (by simp; exact hl) (Qes hp g))] rfl rfl trivial
theorem Qj8 (p:List Int):∀ c∈p.map Gs,c.length=2:=Zgx p λ_=>rfl
theorem Qn7 {lx ly:List (List LV)} {px py:List Int} {x y:LV} {d:Int} (hx:IsInts lx px) (hy:IsInts ly py) (hd:Hp x y d) (hk:Cs 4294967294 1073741824 (Crv.mk px py d)):Uh Tryz.prog 157 [.agg [.row lx,.row ly,x,y]] [.agg (cl (Crv.norm (Crv.mk px py d)))]:=by
 have hlx:=hk.lx;have hly:=hk.ly;simp only at hlx hly;have htx:=G0 px;have hty:=G0 py;have hd1:Ur (Crv.mk px py d).d'<=4294967295:=Qd (Qo4 hk.d (by omega)) (by omega);have hg1:=Crv.isz_g (Crv.mk px py d) hd1;have hg0:=Crv.g_ne (Crv.mk px py d);have hgd:=Crv.g_dvd (Crv.mk px py d);have cx:=Ck hx (by omega) (Ug hk.x (by omega));have cy:=Ck hy (by omega) (Ug hk.y (by omega));have cd:=Ao hd (Qd hk.d (by omega));have bx:Bd 4294967295 (trim px):=Ug (Rf hk.x) (by omega);have by_:Bd 4294967295 (trim py):=Ug (Rf hk.y) (by omega);obtain ⟨b,l,rfl,rfl,_⟩:=hd;obtain ⟨e,he⟩:=nmE ((Crv.mk px py d).d');obtain ⟨g,hgg⟩:=nmE ((Crv.mk px py d).g);obtain ⟨X,hX⟩:=nmE (trim px);obtain ⟨Y,hY⟩:=nmE (trim py);have hnorm:(Crv.mk px py d).norm=⟨trim (X.map (· / g)),trim (Y.map (· / g)),e / g⟩:=by rw [he,hgg,hX,hY]; rfl
 rw [hnorm];have hgdef:g=if e<0 then -((Gj (e::(X++Y)):Nat):Int) else (Gj (e::(X++Y)):Nat):=by rw [hgg,he,hX,hY]; rfl
 have hde:e=if d=0 then 1 else d:=by rw [he]; rfl
 simp only [<-he,<-hgg,<-hX,<-hY] at hd1 hg1 hg0 hgd htx hty cx cy bx by_;clear hnorm hgg he hX hY;refine Ha Tryz.func157 rfl ?_;refine go tt [.c [] cx,.c [] cy,.c [] cd,.c [] Ap] rfl trivial ?_;refine ct 1 (S:=Unit) (λ_=>[(2,.v (.one (.ow 1 0))),(3,.v (pr X)),(4,.v (pr Y)),(5,.v (.one (.ow 2 0)))]) (λ_=>[.blk 57 [.row lx,.row ly,.bool b,.row (lm l)],.blk 57 [.nils,.nils,.bool false,.nils],.blk 55 (Gs e)]) (λ_=>True) rfl ?_ ?_
 ·by_cases h0:d=0
  ·rw [hde,if_pos h0];exact go tt [.t (by simpa using h0),.c [] (Qvd (z:=1) (by decide))] rfl trivial (rc () trivial rfl)
  ·rw [hde,if_neg h0];exact go tt [.f (by simpa using h0)] rfl trivial (rc () trivial rfl)
 ·intro _ _;have hgi:IsInts ([Gs e]++X.map Gs++Y.map Gs) (e::(X++Y)):=by
   have:=Gk (e::(X++Y));simpa using this
  have hgs:∀ z∈e::(X++Y),Ur z≤4294967295:=λz hz=>by
   rcases Qo.1 hz with rfl | hz
   ·exact hd1
   ·rcases Qw.1 hz with hz | hz
    ·exact bx z hz
    ·exact by_ z hz
  have cg:=Q41 hgi hgs;have co1:=Q5s (p:=X) (by omega) bx hg1 hg0 λz hz=>hgd z (Qh _ (List.mem_append_left _ hz))
  have co2:=Q5s (p:=Y) (by omega) by_ hg1 hg0 λz hz=>hgd z (Qh _ (List.mem_append_right _ hz))
  have ce:=Lh (Uk e) (Uk g) hd1 hg1 hg0 (hgd e (Qt ..));have hszg:=Qhn hgs;by_cases hneg:e<0
  ·rw [if_pos hneg] at hgdef;have cn:=Qlh (Uk ((Gj (e::(X++Y)):Nat):Int)) hszg;rw [<-hgdef] at cn;exact en tt [.lo,.s (Qj8 X),.s (Qj8 Y),.c [] cg,.t (by simpa using hneg),.c [] cn,.c [] ce,.c [] co1,.c [] co2] rfl rfl (by simp [Uf]; omega)
  ·rw [if_neg hneg] at hgdef;rw [<-hgdef] at cg;exact en tt [.lo,.s (Qj8 X),.s (Qj8 Y),.c [] cg,.f (by simpa using hneg),.c [] ce,.c [] co1,.c [] co2] rfl rfl (by simp [Uf]; omega)
theorem Qrd {k:Crv} (hn:Nml k) (hk:Cs 4294967294 1073741824 k):Uh Tryz.prog 157 [.agg (cl k)] [.agg (cl k)]:=by
 have h:=Qn7 (Gk k.x) (Gk k.y) (Uk k.d) hk;rw [Crv.norm_of hn] at h; exact h
theorem Qn6 {lx ly:List (List LV)} {px py:List Int} {x y:LV} {d:Int} (hx:IsInts lx px) (hy:IsInts ly py) (hd:Hp x y d) (hk:Cs 4294967294 1073741824 (Crv.mk px py d)) (h0:d≠0):Uh Tryz.prog 188 [.one (.row lx),.one (.row ly),.agg [x,y]] [.agg (cl (Crv.norm (Crv.mk px py d))),.one (.int .i64 0)]:=by
 have cd:=Ao hd (Qd hk.d (by omega));have cn:=Qn7 hx hy hd hk;obtain ⟨b,l,rfl,rfl,_⟩:=hd;exact w tt Tryz.func188 rfl [.c [] cd,.c [] Ap,.f (by simpa using h0),.c [] cn] rfl rfl trivial
theorem Zla {lx ly:List (List LV)} {px py:List Int} (hx:IsInts lx px) (hy:IsInts ly py) (hk:Cs 4294967294 1073741824 (Crv.mk px py 0)):Uh Tryz.prog 113 [.one (.row lx),.one (.row ly)] [.agg (cl (Crv.norm (Crv.mk px py 0)))] :=
 w tt Tryz.func113 rfl [.c [] (Qn7 hx hy A2 hk)] rfl rfl trivial
def Qnn (x y:Int):Crv:=Crv.norm ⟨trim [x],trim [y],0⟩
theorem Qrr {x y:Int} (hx:-9223372036854775808<=x/\x<=9223372036854775807) (hy:-9223372036854775808<=y/\y<=9223372036854775807):Cs 64 1 ⟨trim [x],trim [y],0⟩:=by
 have key:∀ z:Int,-9223372036854775808<=z/\z<=9223372036854775807->Ur z<=64:=λz hz=>by
  rw [Ri];have:(2:Nat)^64=18446744073709551616:=by decide
  omega
 refine ⟨Rf λz hz=>?_,Rf λz hz=>?_,Qg _,G0 [x],G0 [y]⟩
 ·rw [Qn] at hz; rw [hz]; exact key x hx
 ·rw [Qn] at hz; rw [hz]; exact key y hy
theorem Qhb {x y:Int} (hx:-9223372036854775808<=x/\x<=9223372036854775807) (hy:-9223372036854775808<=y/\y<=9223372036854775807):Uh Tryz.prog 57 [.one (.int .i64 x),.one (.int .i64 y)] [.agg (cl (Qnn x y))] :=
 w tt Tryz.func57 rfl [.c [] (Q5c (p:=[x]) (show 1<274877906944 by decide) (by intro z hz; rw [Qn] at hz; rw [hz]; exact hx)),.c [] (Q5c (p:=[y]) (show 1<274877906944 by decide) (by intro z hz; rw [Qn] at hz; rw [hz]; exact hy)),.c [] (Zla (Gk _) (Gk _) ((Qrr hx hy).mono (by omega) (by omega)))] rfl rfl trivial
theorem Zcd {a b:Crv} (ha:Nml a) (hb:Nml b) (ca:Cs 4294967294 1073741824 a) (cb:Cs 4294967294 1073741824 b):Uh Tryz.prog 166 [.agg (cl a),.agg (cl b)] [.one (.bool (Ce a b))]:=by
 have na:=Qrd ha ca;have nb:=Qrd hb cb;have alx:=ca.lx;have aly:=ca.ly;have blx:=cb.lx;have bly:=cb.ly;have sx:=Qyo (p:=a.x) (q:=b.x) (by omega) (by omega) (Ug ca.x (by omega)) (Ug cb.x (by omega));have sy:=Qyo (p:=a.y) (q:=b.y) (by omega) (by omega) (Ug ca.y (by omega)) (Ug cb.y (by omega));have sd:=Qn4 (Uk a.d) (Uk b.d) (Qd ca.d (by omega)) (Qd cb.d (by omega));rw [ha.1,hb.1] at sx;rw [ha.2.1,hb.2.1] at sy;by_cases h1:a.x=b.x
 ·by_cases h2:a.y=b.y
  ·exact w tt Tryz.func166 rfl [.c [] na,.c [] nb,.c [] sx,.t (by simpa using h1),.c [] sy,.t (by simpa using h2),.c [] sd] rfl (by simp [Ce,h1,h2,Qoh]) trivial
  ·exact w tt Tryz.func166 rfl [.c [] na,.c [] nb,.c [] sx,.t (by simpa using h1),.c [] sy,.f (by simpa using h2)] rfl (by simp [Ce,h1,h2]) trivial
 ·exact w tt Tryz.func166 rfl [.c [] na,.c [] nb,.c [] sx,.f (by simpa using h1),.f rfl] rfl (by simp [Ce,h1]) trivial
theorem Tw {l:List Pt} {i:Nat} {p:Pt} (h:l[i]? = some p):(l.map Hn)[i]? = some [pl p.c.x,pl p.c.y,sg p.c.d,mg p.c.d,.int .i64 p.id]:=Gz h
theorem Qtn (l:List Pt):∀ c∈l.map Hn,c.length=5:=Zgx l λ_=>rfl
theorem Zch {lx ly:List (List LV)} {px py:List Int} {x y:LV} {d:Int} (hx:IsInts lx px) (hy:IsInts ly py) (hd:Hp x y d) (hk:Cs 4294967294 1073741824 (Crv.mk px py d)) (id:Int):Uh Tryz.prog 148 [.agg [.row lx,.row ly,x,y,.int .i64 id]] [.agg (Hn ⟨Crv.norm (Crv.mk px py d),id⟩)]:=by
 have cd:=Ao hd (Qd hk.d (by omega));by_cases h0:d=0
 ·subst h0;have ck:Cs 4294967294 1073741824 (Crv.mk px py 1):=⟨hk.x,hk.y,show Ur 1<=4294967294 by decide,hk.lx,hk.ly⟩;have cm:=Qn6 hx hy (Uk 1) ck (by decide);have e:Crv.norm (Crv.mk px py 1)=Crv.norm (Crv.mk px py 0):=by simp only [Crv.norm,Crv.g,Crv.d']; rfl
  rw [e] at cm;obtain ⟨b,l,rfl,rfl,_⟩:=hd;exact w tt Tryz.func148 rfl [.c [] cd,.c [] Ap,.t (by simp),.c [] (Qvd (z:=1) (by decide)),.c [] cm] rfl rfl trivial
 ·have cm:=Qn6 hx hy hd hk h0;obtain ⟨b,l,rfl,rfl,_⟩:=hd;exact w tt Tryz.func148 rfl [.c [] cd,.c [] Ap,.f (by simpa using h0),.c [] cm] rfl rfl trivial
theorem Zlb {l:List Pt} (id:Int) (hl:l.length<1073741824):Uh Tryz.prog 147 [.agg [pts l],.one (.int .i64 id)] [.one (.int .i64 (pos l id:Int)),.one (.bool (has l id))]:=by
 refine Ha Tryz.func147 rfl ?_;refine go tt [] rfl trivial ?_;refine ct 2 (S:=Unit) (λ_=>[(1,.v (.one (.int .i64 id))),(2,.v (.one (.ow 0 0))),(6,.v (.one (.int .i64 (pos l id:Int))))]) (λ_=>[.blk 84 [pts l]]) (λ_=>True) rfl ?_ ?_
 ·refine lp (S:=Nat) 1 (λL1 k=>(6,.v (.one (.int .i64 (k:Int))))::L1) (λ_=>[.blk 84 [pts l]]) (λk=>l.length-k) (λk=>k<=l.length/\∀ j p,j<k->l[j]? = some p->p.id<id) 0 ⟨Qg _,λj p h=>by omega⟩ rfl (λ_ _=>rfl) rfl λk ⟨hk,hlt⟩=>?_
  by_cases h:k<l.length
  ·obtain ⟨p,hp⟩:=gxE (l:=l) (i:=k) h;by_cases hid:p.id<id
   ·refine go tt [.t (by simp; omega),.x (Tw hp),.t (by simpa using hid)] rfl (by simp [Uf]; omega) ?_;exact rd (k+1) (by omega) ⟨h,λj q hj hq=>by
     rcases Q8 j k with h2 | h2
     ·exact hlt j q h2 hq
     ·have:j=k:=by omega
      subst this; rw [hp] at hq; injection hq with hq; rw [<-hq]; exact hid⟩ rfl
   ·have e:=Qw8 hlt (.inr ⟨p,hp,hid⟩);refine go tt [.t (by simp; omega),.x (Tw hp),.f (by simpa using hid)] rfl trivial ?_;rw [e];exact rc () trivial rfl
  ·obtain rfl:k=l.length:=by omega
   have e:=Qw8 hlt (.inl rfl);refine go tt [.f (by simp),.f rfl] rfl trivial ?_;rw [e];exact rc () trivial rfl
 ·intro _ _;by_cases h:pos l id<l.length
  ·obtain ⟨p,hp⟩:=gxE (l:=l) (i:=pos l id) h;have e:has l id=decide (p.id=id):=by simp [has,hp]
   rw [e];exact en tt [.g 30 true (by simp; omega),.x (Tw hp)] rfl rfl trivial
  ·have e:has l id=false:=by simp [has,Qr (Y6 h)]
   rw [e];exact en tt [.g 30 false (by simp; omega)] rfl rfl trivial
theorem Zk3 {lx ly:List (List LV)} {px py:List Int} {x y:LV} {d id:Int} {l:List Pt} (hx:IsInts lx px) (hy:IsInts ly py) (hd:Hp x y d) (hk:Cs 4294967294 1073741824 (Crv.mk px py d)) (hl:l.length<=1000000) :
 Uh Tryz.prog 90 [.agg [pts l],.agg [.row lx,.row ly,x,y,.int .i64 id]] [.agg [pts (if Ow l (Pt.mk (Crv.norm (Crv.mk px py d)) id)=0 then put l (Pt.mk (Crv.norm (Crv.mk px py d)) id) else l)],.one (.int .i64 (Ow l (Pt.mk (Crv.norm (Crv.mk px py d)) id)))]:=by
 have ca:=Zlb (l:=l) id (by omega);have cf:=Zch hx hy hd hk id;obtain ⟨b,r,rfl,rfl,_⟩:=hd;obtain ⟨q,hq⟩:=nmE (Pt.mk (Crv.norm (Crv.mk px py d)) id);have hqi:q.id=id:=by rw [hq]
 rw [<-hq] at cf ⊢;have hpl:=Q85 l id;by_cases h1:has l id=true
 ·have e:Ow l q=6:=by simp [Ow,hqi,h1]
  rw [e,if_neg (by decide)];exact w tt Tryz.func90 rfl [.c [] ca,.t h1] rfl rfl trivial
 by_cases h2:6<=l.length
 ·have e:Ow l q=9:=by simp [Ow,hqi,h1,h2]
  rw [e,if_neg (by decide)];exact w tt Tryz.func90 rfl [.c [] ca,.f (by simpa using h1),.t (by simp; omega)] rfl rfl trivial
 have e:Ow l q=0:=by simp [Ow,hqi,h1,h2]
 rw [e,if_pos rfl];have s1:∀ c∈(l.map Hn).take (pos l id),c.length=5:=λc hc=>Qtn l c (Ql hc)
 have s3:∀ c∈(l.map Hn).drop (pos l id),c.length=5:=λc hc=>Qtn l c (Q3 hc)
 refine w tt Tryz.func90 rfl [.c [] ca,.f (by simpa using h1),.f (by simp; omega),.i (pos l id),.s s1,.c [] cf,.i (pos l id),.s s3] rfl ?_ ?_
 ·simp [put,hqi,pts,Yv,Wo,Hn]
 ·simp [Uf];exact ⟨by omega,hpl,λ_ _=>rfl,by omega,by omega,hpl⟩
theorem Q8i:∀ (qs:List Pt),(Ta [] qs).1.length<=qs.length:=by
 have key:∀ (qs acc:List Pt),(Ta acc qs).1.length<=acc.length+qs.length:=by
  intro qs
  induction qs with
  | nil=>intro acc; simp [Ta]
  |
   cons q qs ih =>
   intro acc;simp only [Ta]
   split
   ·have:=ih (put acc q); rw [Q05] at this; simp only [Q7]; omega
   ·simp
 intro qs;have:=key qs [];simpa using this
theorem Zk0 {zs:List (List LV)} {qs:List Pt} (hz:IsPts 4294967294 1073741824 zs qs) (hl:qs.length<=6):Uh Tryz.prog 96 [.one (.row zs)] [.agg [pts (Ta [] qs).1],.one (.int .i64 (Ta [] qs).2)]:=by
 refine Ha Tryz.func96 rfl ?_;have hzl:=hz.len;refine go tt [.f (by simp; omega)] rfl trivial ?_;refine nlb 1 rfl rfl rfl ?_;refine lp (S:=Nat) 2 (λL1 i=>(14,.v (.one (.int .i64 (i:Int))))::L1) (λi=>[.blk 84 [.nils],.blk 84 [pts (Ta [] (qs.take i)).1]]) (λi=>qs.length-i) (λi=>i<=qs.length/\(Ta [] (qs.take i)).2=0) 0 ⟨Qg _,rfl⟩ rfl (λ_ _=>rfl) rfl λi ⟨hi,h0⟩=>?_
 by_cases hlt:i<qs.length
 ·have hqi:qs[i]? = some qs[i]:=Qf hlt;obtain ⟨z,hzi,lx,ly,b,r,px,py,d,rfl,hx,hy,hd,hk,hc⟩:=hz.get hqi;have hq:(Pt.mk (Crv.norm (Crv.mk px py d)) qs[i].id)=qs[i]:=by rw [<-hc]
  have hst:=Q3c [] qs hqi (by rw [<-h0]);have hnl:=Q8i (qs.take i);have cp:=Zk3 (l:=(Ta [] (qs.take i)).1) (id:=qs[i].id) hx hy hd hk (by rw [Qx] at hnl; omega);rw [hq] at cp;by_cases he:Ow (Ta [] (qs.take i)).1 qs[i]=0
  ·rw [if_pos he] at hst;rw [he,if_pos rfl] at cp;refine go tt [.t (by simp; omega),.x hzi,.c [] cp,.f rfl] rfl (by simp [Uf]; omega) ?_;exact rd (i+1) (by omega) ⟨hlt,by rw [hst]⟩ (by rw [hst]; rfl)
  ·rw [if_neg he] at hst;have herr:=Q8h [] qs he hst;rw [herr];exact en tt [.t (by simp; omega),.x hzi,.c [] cp,.t (by simpa using he)] rfl rfl trivial
 ·obtain rfl:i=qs.length:=by omega
  rw [Q5] at h0;rw [Q5,h0];exact en tt [.f (by simp; omega)] rfl rfl trivial
theorem Zhx {l:List Pt} (hok:∀ p∈l,Quu 4294967294 1073741824 p) (hl:l.length<1073741824):Uh Tryz.prog 119 [.agg [pts l]] [.one (pts (C0 l))]:=by
 refine Ha Tryz.func119 rfl ?_;refine go tt [.o 3 114 5] rfl trivial ?_;refine lp (S:=Nat) 2 (λL1 i=>(12,.v (.one (.int .i64 (i:Int))))::(3,.v (.one (.orow 1 5 none)))::L1) (λi=>[.blk 84 [pts l],.row false 114 5 (((l.take i).foldl Sa []).map Hn)]) (λi=>l.length-i) (λi=>i<=l.length) 0 (Qg _) rfl (λ_ _=>rfl) rfl λi hi=>?_
 by_cases hlt:i<l.length
 ·obtain ⟨p,hp⟩:=gxE (l:=l) (i:=i) hlt;obtain ⟨hn,hk⟩:=hok p (Qa hp);have hws:=Rk Sa [] l hp;have hwl:=Qbq l i;have hwm:=Qbr l i;obtain ⟨o,ho⟩:=nmE ((l.take i).foldl Sa []);rw [<-ho] at hws hwl hwm ⊢;refine go tt [.t (by simp; omega),.x (Tw hp)] rfl trivial ?_;refine lp (S:=Nat) 3 (λL1 k=>(18,.v (.one (.int .i64 (k:Int))))::(6,.v (.one (.bool ((o.take k).any λq=>Ce p.c q.c))))::L1) (λk=>[.blk 84 [pts l],.row false 114 5 (o.map Hn),.blk 114 (Hn p)]) (λk=>o.length-k) (λk=>k<=o.length) 0 (Qg _) rfl (λ_ _=>rfl) rfl λk hk2=>?_
  by_cases hk3:k<o.length
  ·obtain ⟨q,hq⟩:=gxE (l:=o) (i:=k) hk3;obtain ⟨hqn,hqk⟩:=hok q (hwm q (Qa hq));have hany:((o.take (k+1)).any λq=>Ce p.c q.c)=(((o.take k).any λq=>Ce p.c q.c) || Ce p.c q.c):=by rw [Jv,hq,W7]; simp
   cases hb:(o.take k).any λq=>Ce p.c q.c with
   |
    true =>
    rw [hb] at hany;refine go tt [.t (by simp; omega),.i k,.x (Tw hq),.t rfl,.r 29 (v:=.one (.bool ((o.take (k+1)).any λq=>Ce p.c q.c))) (by rw [hany]; rfl)] rfl (by simp [Uf]; omega) ?_;exact rd (k+1) (by omega) hk3 rfl
   |
    false =>
    rw [hb] at hany;refine go tt [.t (by simp; omega),.i k,.x (Tw hq),.f rfl,.c [] (Zcd hn hqn hk hqk),.r 29 (v:=.one (.bool ((o.take (k+1)).any λq=>Ce p.c q.c))) (by rw [hany]; rfl)] rfl (by simp [Uf]; omega) ?_;exact rd (k+1) (by omega) hk3 rfl
  ·obtain rfl:k=o.length:=by omega
   rw [Q5];cases hb:o.any λq=>Ce p.c q.c with
   |
    true =>
    have e:Sa o p=o:=by unfold Sa; rw [if_pos hb]
    exact go tt [.f (by simp),.f rfl] rfl (by simp [Uf]; omega) (rd (i+1) (by omega) hlt (by rw [hws,e]; rfl))
   |
    false =>
    have e:Sa o p=o++[p]:=by unfold Sa; rw [if_neg (by rw [hb]; decide)]
    exact go tt [.f (by simp),.t rfl] rfl (by simp [Uf]; omega) (rd (i+1) (by omega) hlt (by rw [hws,e,Jm]; rfl))
 ·obtain rfl:i=l.length:=by omega
  exact en tt [.f (by simp)] rfl (by rw [Q5]; rfl) trivial
theorem Q1l (q:Rat):Um [-q.num,(q.den:Int)]:=by
 have:=q.den_nz;simp [Um,trim,this]
theorem Zku {s:Nat} {q:Rat} (h:Qs s q):Bd s [-q.num,(q.den:Int)]:=λz hz=>by
 simp at hz;rcases hz with rfl | rfl
 ·rw [Gy]; exact h.1
 ·exact h.2
theorem Zk9 {x y x' y':LV} {n d:Int} (h1:Hp x y n) (h2:Hp x' y' d) (hn:Ur n<=4294967295) (hd:Ur d<=4294967295) (hq:Qs 4294967295 (Gd n d)):Uh Tryz.prog 70 [.agg [x,y,x',y']] [.agg (qa (Gd n d))]:=by
 have c1:=Q51 h1 h2 hn hd;obtain ⟨b,l,rfl,rfl,_⟩:=h1;obtain ⟨b',l',rfl,rfl,_⟩:=h2;exact w tt Tryz.func70 rfl [.c [] c1,.c [] (Qlh (Uk _) hq.1),.c [] (Qhc hq)] rfl rfl trivial
theorem Qyx {k:Crv} (hn:Nml k) (hk:Cs 4294967294 1073741824 k):Uh Tryz.prog 207 [.agg (cl k)] [.agg (cl k)]:=by
 have h0:k.d≠0:=by have:=hn.2.2.1; omega
 have cm:=Qn6 (Gk k.x) (Gk k.y) (Uk k.d) hk h0;rw [show Crv.mk k.x k.y k.d=k from rfl,Crv.norm_of hn] at cm;exact w tt Tryz.func207 rfl [.c [] (Ao (Uk k.d) (Qd hk.d (by omega))),.c [] Ap,.f (by simpa using h0),.c [] cm] rfl rfl trivial
def Il (ps:List (List Int)):List (List LV):=ps.map λp=>[pl p]
theorem E9 {ps:List (List Int)} {i:Nat} {p:List Int} (h:ps[i]? = some p):(Il ps)[i]? = some [pl p]:=Gz h
theorem Q17:Uh Tryz.prog 167 [.one (.int .i64 3)] [.one (.int .i64 3)]:=w tt Tryz.func167 rfl [.f rfl,.f rfl,.t rfl] rfl rfl trivial
theorem Q18:Uh Tryz.prog 167 [.one (.int .i64 4)] [.one (.int .i64 4)]:=w tt Tryz.func167 rfl [.f rfl,.f rfl,.f rfl,.t rfl,.t rfl] rfl rfl trivial
theorem Q43 {k i0 i1 i2 i3 l j0 j1 j2 j3:Int}:Uh Tryz.prog 125 [.agg [.int .i64 k,.int .i64 i0,.int .i64 i1,.int .i64 i2,.int .i64 i3],.agg [.int .i64 l,.int .i64 j0,.int .i64 j1,.int .i64 j2,.int .i64 j3]] [.one (.bool (Hi [k,i0,i1,i2,i3] [l,j0,j1,j2,j3]))]:=by
 by_cases hk:k=l
 ·subst hk;rw [show Hi [k,i0,i1,i2,i3] [k,j0,j1,j2,j3]=Hi [i0,i1,i2,i3] [j0,j1,j2,j3] from by simp [Hi]];refine Ha Tryz.func125 rfl ?_;refine go tt [.f (by simp)] rfl trivial ?_;refine lp (S:=Nat) 2 (λL1 i=>(19,.v (.one (.int .i64 (i:Int))))::L1) (λ_=>[.blk 97 [.int .i64 k,.int .i64 i0,.int .i64 i1,.int .i64 i2,.int .i64 i3],.blk 97 [.int .i64 k,.int .i64 j0,.int .i64 j1,.int .i64 j2,.int .i64 j3]]) (λi=>4-i) (λi=>i<=4/\Hi ([i0,i1,i2,i3].drop i) ([j0,j1,j2,j3].drop i)=Hi [i0,i1,i2,i3] [j0,j1,j2,j3]) 0 ⟨by omega,rfl⟩ rfl (λ_ _=>rfl) rfl λi ⟨hi,he⟩=>?_
  rw [<-he];rcases (show i=0\/i=1\/i=2\/i=3\/i=4 by omega) with rfl | rfl | rfl | rfl | rfl
  ·by_cases h:i0=j0
   ·exact go tt [.t rfl,.i 0,.i 0,.f (by simpa using h)] rfl (by simp [Uf]) (rd 1 (by omega) ⟨by omega,by simp [Hi,h]⟩ rfl)
   ·exact en tt [.t rfl,.i 0,.i 0,.t (by simpa using h),.i 0] rfl (by simp [Hi,h]) trivial
  ·by_cases h:i1=j1
   ·exact go tt [.t rfl,.i 1,.i 1,.f (by simpa using h)] rfl (by simp [Uf]) (rd 2 (by omega) ⟨by omega,by simp [Hi,h]⟩ rfl)
   ·exact en tt [.t rfl,.i 1,.i 1,.t (by simpa using h),.i 1] rfl (by simp [Hi,h]) trivial
  ·by_cases h:i2=j2
   ·exact go tt [.t rfl,.i 2,.i 2,.f (by simpa using h)] rfl (by simp [Uf]) (rd 3 (by omega) ⟨by omega,by simp [Hi,h]⟩ rfl)
   ·exact en tt [.t rfl,.i 2,.i 2,.t (by simpa using h),.i 2] rfl (by simp [Hi,h]) trivial
  ·by_cases h:i3=j3
   ·exact go tt [.t rfl,.i 3,.i 3,.f (by simpa using h)] rfl (by simp [Uf]) (rd 4 (by omega) ⟨by omega,by simp [Hi,h]⟩ rfl)
   ·exact en tt [.t rfl,.i 3,.i 3,.t (by simpa using h),.i 3] rfl (by simp [Hi,h]) trivial
  ·exact en tt [.f rfl] rfl (by simp [Hi]) trivial
 ·exact w tt Tryz.func125 rfl [.t (by simpa using hk)] rfl (by simp [Hi,hk]) trivial
abbrev zCt:List LV:=[.int .i64 0,.int .i64 0,.int .i64 0,.int .i64 0,.int .i64 0,.nils,.int .i64 0]
def Gp (l:List Ct):List (List LV):=l.map Qla
theorem Qol {l:List Ct} {i:Nat} {c:Ct} (h:l[i]? = some c):(Gp l)[i]? = some (Qla c):=Gz h
theorem Lx (l:List Ct):(Gp l).length=l.length:=by simp [Gp]
theorem Q6l (l:List Ct):∀ c∈Gp l,c.length=7:=λc hc=>by
 obtain ⟨x,_,rfl⟩:=Zi.1 hc; rfl
theorem Q7v {O:List Ct} {z:List LV} {c:Ct} {k m:Nat} {l2:List (List LV)} (hk:k<=O.length) (hp:Oq O c O.length=k) (hm:m=O.length-k) (h2:l2.take m=((Gp O++[z]).drop k).take m) :
 ((Gp O++[z]).take (k+1)++(l2.take m++(Gp O++[z]).drop (k+1+m))).set k (Qla c)=Gp (Qbz O c):=by
 rw [h2,<-Ze,Qsk (Gp O) z (Qla c) (by rw [Lx]; omega) (by rw [Lx]; omega)];simp [Qbz,hp,Gp,Yv,Wo]
theorem Zhv {l:List Ct} (hl:∀ c∈l,Pb c.p) (hn:l.length≤1000000):Uh Tryz.prog 66 [.one (.row (Gp l))] [.one (.row (Gp (Tp l)))]:=by
 have hcl:=Lx l;refine Ha Tryz.func66 rfl ?_;refine go tt [.o 3 99 7] rfl trivial ?_;refine lp (S:=Nat) 1 (λL1 i=>(9,.v (.one (.int .i64 (i:Int))))::(3,.v (.one (.orow 0 7 none)))::L1) (λi=>[.row false 99 7 (Gp (Tp (l.take i)))]) (λi=>l.length-i) (λi=>i<=l.length) 0 (Qg _) rfl (λ_ _=>rfl) rfl λi hi=>?_
 by_cases hlt:i<l.length
 ·obtain ⟨c,hc⟩:=gxE (l:=l) (i:=i) hlt;have hst:=Qxv hc;have hcp:=hl c (Qa hc);obtain ⟨O,hO⟩:=nmE (Tp (l.take i));have hOl:O.length=i:=by rw [hO,Qfw,Qx]; omega
  rw [<-hO] at hst ⊢;refine go tt [.t (by simp [hcl]; omega),.x (Qol hc)] rfl trivial ?_;refine lp (S:=Nat) 2 (λL1 k=>(6,.v (.one (.int .i64 (k:Int))))::L1) (λk=>[.row false 99 7 (Gp O),.blk 99 (Qla c)]) id (λk=>k<=O.length/\Oq O c k=Oq O c O.length) (Gp O).length ⟨by rw [Lx]; exact Qm _,by rw [Lx]⟩ rfl (λ_ _=>rfl) rfl λk ⟨hk,hp⟩=>?_
  have hz:∀ y∈[zCt],y.length=7:=λy hy=>by rw [Qn.1 hy]; rfl
  have h77:∀ y∈Gp O++[zCt],y.length=7:=λy hy=>by
   rcases Qw.1 hy with hy | hy
   ·exact Q6l O y hy
   ·exact hz y hy
  cases k with
  |
   zero =>
   have hp:Oq O c O.length=0:=by rw [<-hp]; rfl
   refine go tt [.g 17 false (by simp),.f rfl,.s (sz:=7) hz,.r 36 (eI (b:=((0+1:Nat):Int)) (by simp)),.i (0+1),.i (0),.s (sz:=7) (λy hy=>h77 y (Ql hy)),.i (O.length),.c [] (Hq hcp.t (by have:=hcp.l; omega) (Ug hcp.b (by omega))),.i (0)] rfl (by simp [Uf,Lx]; omega) ?_;exact rd (i+1) (by omega) hlt (by rw [hst,<-Q7v (z:=zCt) (l2:=(Gp O++[zCt]).take ((Gp O++[zCt]).length-0)) (k:=0) (m:=O.length) (by omega) hp (by omega) (by congr 1; exact Qj (by simp))]; rfl)
  |
   succ k =>
   obtain ⟨x,hx⟩:=gxE (l:=O) (i:=k) (by omega);by_cases hlc:Nl c x=true
   ·refine go tt [.g 17 true (by simp),.r 22 (eI (b:=(k:Int)) (by simp)),.i k,.x (Qol hx),.c [] Q43,.t hlc,.r 29 (eI (b:=(k:Int)) (by simp))] rfl (by simp [Uf,Lx]; omega) ?_;exact rd k (by simp) ⟨by omega,by rw [<-hp,Zeo hx hlc]⟩ rfl
   ·have hlc:Nl c x=false:=by simpa using hlc
    have hp:Oq O c O.length=k+1:=by rw [<-hp,Q84 hx hlc]
    refine go tt [.g 17 true (by simp),.r 22 (eI (b:=(k:Int)) (by simp)),.i k,.x (Qol hx),.c [] Q43,.f hlc,.s (sz:=7) hz,.r 36 (eI (b:=((k+1+1:Nat):Int)) (by simp)),.i (k+1+1),.i (k+1),.s (sz:=7) (λy hy=>h77 y (Q3 (Ql hy))),.i (O.length-(k+1)),.c [] (Hq hcp.t (by have:=hcp.l; omega) (Ug hcp.b (by omega))),.i (k+1)] rfl (by simp [Uf,Lx]; omega) ?_;exact rd (i+1) (by omega) hlt (by rw [hst,<-Q7v (z:=zCt) (l2:=((Gp O++[zCt]).drop (k+1)).take ((Gp O++[zCt]).length-(k+1))) (k:=k+1) (m:=O.length-(k+1)) (by omega) hp (by omega) (by congr 1; exact Qj (by simp))]; rfl)
 ·obtain rfl:i=l.length:=by omega
  rw [Q5];exact en tt [.f (by simp [hcl])] rfl rfl trivial
end Orr
namespace Orr
def Ux (p:List Int):Int:=p.getD (p.length-1) 0
def chk (p:List Int):Option (List Int):=if p.length<=64/\(p.all λz=>Nat.ble (Ur z) 16777216)=true then some p else none
def chq (q:Rat):Option Rat:=if Ur q.num<=16777216/\Ur (q.den:Int)<=16777216 then some q else none
def Px (p:List Int):Int:=(Gj p:Nat)
def Cf (p:List Int) (c:Int):List Int:=trim (p.map (· / c))
def Gl (p:List Int):Int:=if Ux p<0 then -Px p else Px p
def Uy (p:List Int):List Int:=if p.length=0 then [] else Cf p (Gl p)
def mono (i:Nat) (x:Int):List Int:=List.replicate i 0++[x]
def psd (b:List Int) (c:Int):Nat->List Int×List Int->List Int×List Int
 | 0,s=>s
 |
  i+1,(q,r) =>
  psd b c i (Tf (Uz q c) (mono i (if r.length=b.length+i then Ux r else 0)),Sx (Uz r c) (Uq (trim (mono i (if r.length=b.length+i then Ux r else 0))) b))
def Si (a b:List Int):List Int:=(psd b (Ux b) (a.length+1-b.length) ([],a)).2
def Mn (a b r:List Int):List Int:=if (a.length+1-b.length) % 2=1/\Ux b<0 then H5 r else r
def Qbi (r:List Int):List Int:=if r.length=0 then [] else Cf r (Px r)
def Hk (a b:List Int):List Int:=Qbi (Mn a b (Si a b))
def Qpr (b:List Int):Nat->List Int->List Int->Option (List Int)
 | 0,a,q=>if a.length=0 then some q else none
 | i+1,a,q=>if a.length<b.length+i then Qpr b i a q else if Ux a % Ux b=0 then Qpr b i (Sx a (Uq (trim (mono i (Ux a / Ux b))) b)) (q.set i (Ux a / Ux b)) else none
def Qbb (a b:List Int):Option (List Int):=if b.length=0 then none else (Qpr b (a.length+1-b.length) a (List.replicate (a.length+1-b.length) 0)).bind λq=>chk (trim q)
def Qfy:Nat->List Int->List Int->Option (List Int)
 | 0,_,_=>none
 | k+1,a,b=>if b.length=0 then some a else (chk (Hk a b)).bind λr=>Qfy k b r
def Ou (a b:List Int):Option (List Int):=(Qfy 66 (Uy a) (Uy b)).map Uy
def Qpt (a b:List Int):Option (List Int):=(Ou [] a).bind λg=>Ou g b
def Pg (a:List Int):Option (List Int):=if (Uy a).length<2 then some (Uy a) else (chk (Fg (Uy a))).bind λd=>(Ou (Uy a) d).bind λg=>Qbb (Uy a) g
def Q25:Nat->List Int->Option (List (List Int))
 | 0,_=>none
 | k+1,g=>if g.length<2 then some [] else (chk (Fg g)).bind λd=>(Ou g d).bind λh=>(Qbb g h).bind λw=>(Q25 k h).bind λl=>some (w::l)
def Q65:List (List Int)->Option (List (List Int))
 | []=>some []
 | [w]=>some [w]
 | w::v::l=>(Qbb w v).bind λf=>(Q65 (v::l)).bind λr=>some (f::r)
def Qjx:Nat->List Int->List (List Int)->Option (List Int)
 | _,p,[]=>some p
 | i,p,f::l=>if i % 2=0 then (chk (Uq p f)).bind λq=>Qjx (i+1) q l else Qjx (i+1) p l
def Zjd (a:List Int):Option (List Int):=if (Uy a).length=0 then some [] else (Q25 66 (Uy a)).bind λl=>(Q65 l).bind λfs=>Qjx 0 [1] fs
def chF:Nat->List Int->List Int->Option (List (List Int))
 | 0,_,_=>none
 | k+1,a,b=>if b.length=0 then some [] else (chk (Hk a b)).bind λr=>(chF k b (H5 r)).bind λl=>some (b::l)
def Lj (p:List Int):Option (List (List Int)):=(Pg p).bind λa=>if a.length=0 then none else (chk (Fg a)).bind λd=>(chF 66 a (Uy d)).bind λl=>some (a::l)
def Nn (sg:List Int->Int) (s:Nat×Int) (p:List Int):Nat×Int:=if sg p=0 then s else (if s.2=-(sg p) then s.1+1 else s.1,sg p)
def O6 (sg:List Int->Int) (l:List (List Int)):Nat:=(l.foldl (Nn sg) (0,0)).1
def Cy (l:List (List Int)) (q:Rat):Nat:=O6 (λp=>U9 p q) l
def Ro (l:List (List Int)) (lo hi:Rat):Int:=if Fx hi lo<0 then 0 else (Cy l lo:Int)-(Cy l hi:Int)
def Q2s (p:List Int):Int:=Int.sign (Ux p)
def Q2r (p:List Int):Int:=if p.length % 2=0 then -Int.sign (Ux p) else Int.sign (Ux p)
def Qp9 (l:List (List Int)):Int:=(O6 Q2r l:Int)-(O6 Q2s l:Int)
def most:List Int->Nat:=λl=>l.foldl (λm z=>if m<z.natAbs then z.natAbs else m) 0
def Ga (p:List Int):Rat:=Rat.divInt (((Ux p).natAbs:Int)+(most (p.take (p.length-1)):Int)) ((Ux p).natAbs:Int)
def mid (a b:Rat):Rat:=Rat.divInt (a.num*(b.den:Int)+b.num*(a.den:Int)) ((a.den:Int)*(b.den:Int)*2)
def Af (p:List Int) (c:List (List Int)):Nat->Rat->Rat->Int->Option (List Tm)
 | 0,_,_,_=>none
 | k+1,lo,hi,n=>if n=0 then some [] else if n=1 then some [⟨p,lo,hi⟩] else (chq (mid lo hi)).bind λm=>(Af p c k lo m (Ro c lo m)).bind λl=>(Af p c k m hi (n-Ro c lo m)).bind λr=>some (l++r)
def Qtx (p:List Int):Option (List Tm):=(Lj p).bind λc=>(Pg p).bind λq=>(chq (Ga q)).bind λb=>Af q c 100000 (-b) b (Qp9 c)
def Tm.point (a:Tm):Bool:=decide (0<=Fx a.lo a.hi)
def low (p:List Int) (q:Rat):Int:=if U9 p q≠0 then U9 p q else U9 (Fg p) q
def Qc8 (p:List Int) (lo hi:Rat):Bool:=decide (U9 p hi=0\/U9 p hi≠low p lo)
def Fa (a:Tm) (t:Rat):Int :=
 if a.point=true then Fx a.lo t else if Fx t a.lo<=0 then 1 else if 0<Fx t a.hi then -1 else if U9 a.p t=0 then 0 else if U9 a.p t=low a.p a.lo then 1 else -1
def Qo0 (a:Tm):Option Tm:=if a.point=true then some a else (chq (mid a.lo a.hi)).bind λm =>
 some (if Fa a m=0 then ⟨a.p,m,m⟩ else if Fa a m=-1 then ⟨a.p,a.lo,m⟩ else ⟨a.p,m,a.hi⟩)
def Fw (p:List Int):Nat:=p.foldl (λn z=>max n (Ur z)) 0
def Tx (a b:Tm):Nat:=64+2*(Ur a.lo.num+Ur a.hi.num+Ur b.lo.num+Ur b.hi.num)+4*(a.p.length+b.p.length)*(Fw a.p+Fw b.p+(a.p.length+b.p.length)+8)
def Qkm (a b:Rat):Rat:=Rat.divInt (a.num*(b.den:Int)-b.num*(a.den:Int)) ((a.den:Int)*(b.den:Int))
def Bm (a b:Tm):Bool:=decide (Fx a.hi b.lo<=0/\¬((a.point=true/\b.point=true)/\Fx a.hi b.lo=0))
def apF:Nat->Tm->Tm->Option (Tm×Tm×Int)
 | 0,a,b=>some (a,b,0)
 |
  k+1,a,b=>if Bm a b=true then some (a,b,-1) else if Bm b a=true then some (a,b,1) else
  if 0<=Fx (Qkm a.hi a.lo) (Qkm b.hi b.lo) then (Qo0 a).bind λx=>apF k x b else (Qo0 b).bind λx=>apF k a x
def Qk3 (a b:Tm):Option Int:=if a.point=true then some (-Fa b a.lo) else if b.point=true then some (Fa a b.lo) else
 let lo:=if 0<Fx b.lo a.lo then b.lo else a.lo
 let hi:=if Fx b.hi a.hi<0 then b.hi else a.hi
 if Fx lo hi<0 then (Qpt a.p b.p).bind λg=>if 1<g.length/\Qc8 g lo hi=true then some 0 else (apF (Tx a b) a b).bind λr=>some r.2.2
 else (apF (Tx a b) a b).bind λr=>some r.2.2
def sgF (c:List (List Int)):Nat->Tm->Option Tm
 | 0,a=>some a
 | k+1,a=>if a.point=true\/Ro c a.lo a.hi=0 then some a else (Qo0 a).bind λx=>sgF c k x
def Qbo (p:List Int) (a:Tm):Option Int:=if p.length=0 then some 0 else if a.point=true then some (U9 p a.lo) else
 (Qpt p a.p).bind λg=>if 1<g.length/\Qc8 g a.lo a.hi=true then some 0 else (Lj p).bind λc=>(sgF c (64+2*(Ur a.lo.num+Ur a.hi.num)+4*(a.p.length+p.length)*(Fw a.p+Fw p+(a.p.length+p.length)+8)) a).bind λx=>some (U9 p x.hi)
def A3:Tm->List Tm->Option Tm
 | b,[]=>some b
 | b,a::l=>(Qk3 a b).bind λc=>A3 (if c<0 then a else b) l
def Qms (a:Tm):List Tm->Option (Option Tm)
 | []=>some none
 | r::l=>(Qk3 r a).bind λc=>if 0<c then some (some r) else Qms a l
def Qqn (p:List Int):Option (List Tm):=(Zjd p).bind λq=>if q.length=0 then some [] else Qtx q
def Qmt (p:List Int) (a:Tm):Option (Option Tm):=(Qqn p).bind λl=>Qms a l
end Orr
namespace Orr
open Go Go.Proofs
set_option maxRecDepth 10000
theorem Lp {p:List Int} (tp:Um p) (h:p.length≠0):Ux p≠0:=Gw tp (by omega)
theorem Qsr {p:List Int} (h:p.length≠0):Ux p∈p:=Qa (Hg (by omega))
theorem Pq {s:Nat} {p:List Int} (h:Bd s p):Ur (Ux p)<=s:=Uu h _
theorem E5 {p:List Int}:∀ z∈p,Px p∣z:=I6
theorem Om {p:List Int} (tp:Um p) (h:p.length≠0):Px p≠0:=λh0=>Lp tp h (Int.zero_dvd.1 (h0 ▸ E5 _ (Qsr h)))
theorem Qap {p:List Int} (h:Bd 4294967295 p):Ur (Px p)<=4294967295:=Qhn h
theorem Q0x {p:List Int} (tp:Um p) (h:p.length≠0):Gl p≠0:=by
 have:=Om tp h;unfold Gl; split <;> omega
theorem Qdm {p:List Int}:∀ z∈p,Gl p∣z:=λz hz=>by
 unfold Gl; split
 ·exact Uc.2 (E5 z hz)
 ·exact E5 z hz
theorem Q7z {p:List Int} (h:Bd 4294967295 p):Ur (Gl p)<=4294967295:=by
 unfold Gl; split
 ·rw [Gy]; exact Qap h
 ·exact Qap h
theorem Qid {s:Nat} {p:List Int} (h:Bd s p) (c:Int):Bd s (Cf p c):=Rf (Qes h c)
theorem Qmh (p:List Int) (c:Int):(Cf p c).length<=p.length:=Qd (G0 _) (by simp)
theorem Ic (p:List Int) (c:Int):Um (Cf p c):=He _
theorem Q8x {p:List Int} (h:Pb p) (c:Int):Pb (Cf p c):=⟨Ic _ _,Qd (Qmh _ _) h.l,Qid h.b c⟩
theorem Qpo:Pb []:=⟨rfl,by simp,Iw⟩
theorem Tn {p:List Int} (h:Pb p):Pb (Uy p):=by
 unfold Uy; split
 ·exact Qpo
 ·exact Q8x h _
theorem Pb.bd {p:List Int} (h:Pb p):Bd 4294967295 p:=Ug h.b (by omega)
theorem Pb.ln {p:List Int} (h:Pb p):p.length<274877906944:=Zz h.l (by omega)
theorem Pb.ln' {p:List Int} (h:Pb p):p.length<8589934592:=Zz h.l (by omega)
theorem Iy {p q:List Int} (tp:Um p) (h:chk p=some q):q=p/\Pb p:=by
 unfold chk at h
 split at h
 ·rename_i hc;injection h with h;refine ⟨h.symm,tp,hc.1,λz hz=>?_⟩;have:=Yk.1 hc.2 z hz;exact Zd this
 ·cases h
theorem Qys {p:List Int} {g:Int} (hl:p.length<274877906944) (hp:Bd 4294967295 p) (hg:Ur g≤4294967295) (h0:g≠0) (hd:∀ z∈p,g∣z):Uh Tryz.prog 261 [pr p,.agg (Gs g)] [pr (Cf p g)]:=by
 refine Ha Tryz.func261 rfl ?_;refine go tt [.r 9 (eI (b:=(p.length:Int)) (by simp)),.i p.length,.i p.length,.r 12 (eI (b:=(p.length:Int)) (by simp))] rfl (by simp [Uf]; omega) ?_;rw [Er λk=>Gs (p.getD k 0 / g)];refine lp (S:=Nat) 2 (λL1 k=>(13,.v (.one (.int .i64 (k:Int))))::L1) (λk=>[.blk 55 (Gs g),.row false 55 2 (fil (λk=>Gs (p.getD k 0 / g)) [.bool false,.nils] p.length k)]) (λk=>p.length-k) (λk=>k<=p.length) 0 (Qg _) rfl (λ_ _=>rfl) rfl λk hk=>?_
 by_cases hlt:k<p.length
 ·have hg2:=Hg hlt;refine go tt [.t (by simp; omega),.x (Tv hg2),.c [] (Lh (Uk _) (Uk _) (Uu hp k) hg h0 (Jq (hd _ (Qa hg2)))),.i k] rfl (by simp [Uf,Qak]; omega) ?_;have e:=Qal (λk=>Gs (p.getD k 0 / g)) [.bool false,.nils] hlt;rw [e];exact rd (k+1) (by omega) hlt rfl
 ·obtain rfl:k=p.length:=by omega
  have e:fil (λk=>Gs (p.getD k 0 / g)) [.bool false,.nils] p.length p.length=(p.map (· / g)).map Gs:=by
   rw [Qaj];refine Xq λi=>?_
   by_cases hi:i<p.length
   ·simp [Xz hi,List.getD,Qf hi]
   ·simp [Qr,hi]
  rw [e];exact en tt [.f (by simp),.c [] (Ck (Gk (p.map (· / g))) (by simp; exact hl) (Qes hp g))] rfl rfl trivial
theorem Qeu {p:List Int} (hl:p.length<8589934592) (hp:Bd 4294967295 p):Uh Tryz.prog 262 [.one (.row [[pl p]])] [.agg (Gs (Px p))]:=by
 refine Ha Tryz.func262 rfl ?_;refine go tt [.o 3 55 2] rfl trivial ?_;refine lp (S:=Nat) 2 (λL1 i=>(8,.v (.one (.int .i64 (i:Int))))::(3,.v (.one (.orow 1 2 none)))::L1) (λi=>[.blk 55 [.bool false,.nils],.row false 55 2 (if i=0 then [] else p.map Gs)]) (λi=>1-i) (λi=>i<=1) 0 (Qg _) rfl (λ_ _=>rfl) rfl λi hi=>?_
 rcases (show i=0\/i=1 by omega) with rfl | rfl
 ·refine go tt [.t rfl,.x (i:=0) (xs:=[pl p]) rfl,.s (Qj8 p)] rfl (by simp [Uf]; omega) ?_;exact rd 1 (by omega) (by omega) rfl
 ·exact en tt [.f rfl,.c [] (Q41 (Gk p) hp)] rfl rfl trivial
theorem Q5t {p:List Int} (tp:Um p) (hl':p.length<8589934592) (hp:Bd 4294967295 p):Uh Tryz.prog 257 [pr p] [.agg (Gs (if p.length=0 then 0 else Gl p)),pr (Uy p)]:=by
 have hl:p.length<274877906944:=by omega
 have cn:=Hq tp hl hp;by_cases h0:p.length=0
 ·have e:p=[]:=Qi h0;subst e;exact w tt Tryz.func257 rfl [.c [] cn,.t rfl] rfl (by simp [D2,Uy]; rfl) trivial
 ·have hpf:Uy p=Cf p (Gl p):=by unfold Uy; rw [if_neg h0]
  rw [if_neg h0,hpf];have co:=Qys hl hp (Q7z hp) (Q0x tp h0) Qdm;by_cases hneg:Ux p<0
  ·have e:Gl p=-Px p:=by unfold Gl; rw [if_pos hneg]
   rw [e] at co ⊢;exact w tt Tryz.func257 rfl [.c [] cn,.f (by simpa using h0),.c [] (Qeu hl' hp),.c [] (An tp hl hp),.t (by simpa [Ux] using hneg),.c [] (Qlh (Uk _) (Qap hp)),.c [] co] rfl rfl trivial
  ·have e:Gl p=Px p:=by unfold Gl; rw [if_neg hneg]
   rw [e] at co ⊢;exact w tt Tryz.func257 rfl [.c [] cn,.f (by simpa using h0),.c [] (Qeu hl' hp),.c [] (An tp hl hp),.f (by simpa [Ux] using hneg),.c [] co] rfl rfl trivial
theorem Qcx {p:List Int} (hp:Pb p):Uh Tryz.prog 223 [pr p] [pr (Uy p)] :=
 w tt Tryz.func223 rfl [.c [] (Q5t hp.t hp.ln' hp.bd)] rfl rfl trivial
theorem Ni (p:List Int):Uh Tryz.prog 137 [pr p] [.one (.int .i64 ((p.length:Int)-1))]:=by
 have h:Uh Tryz.prog 137 [pr p] [.one (.int .i64 (((p.map Gs).length:Int)-1))]:=Ha Tryz.func137 rfl (ln 0 rfl rfl λhl=>en tt [] rfl rfl (by simp [Uf] at hl ⊢; omega));rw [Zc] at h; exact h
theorem Ey (i:Nat) (x:Int):(mono i x).length=i+1:=by simp [mono]
theorem Qib {s i:Nat} {x:Int} (h:Ur x<=s):Bd s (mono i x):=λz hz=>by
 simp only [mono,Qw,Qn] at hz;rcases hz with hz | rfl
 ·rw [(List.mem_replicate.1 hz).2,Pu]; exact Qg _
 ·exact h
def stq (c:Int) (i:Nat) (x:Int) (q:List Int):List Int:=Tf (Uz q c) (mono i x)
def str (b:List Int) (c:Int) (i:Nat) (x:Int) (r:List Int):List Int:=Sx (Uz r c) (Uq (trim (mono i x)) b)
theorem Zhk {u t i:Nat} {c x:Int} {q:List Int} (hq:Bd u q) (hc:Ur c<=t) (hx:Ur x<=u):Bd (u+t+8) (stq c i x q) :=
 Ug (Qcp (Np hq hc) (Qib hx)) (by omega)
theorem Zdu {c x:Int} {i:Nat} {q:List Int}:(stq c i x q).length<=max q.length (i+1):=by
 have h:=Ob (Uz q c) (mono i x);have h1:=Me q c;rw [Ey] at h;unfold stq; omega
theorem Qo7 {i:Nat} {x:Int} {b:List Int}:(Uq (trim (mono i x)) b).length<=i+b.length:=by
 have h:=Hu (trim (mono i x)) b;have h1:=G0 (mono i x);rw [Ey] at h1; omega
theorem Qyk {u t i:Nat} {x:Int} {b:List Int} (hb:Bd t b) (hx:Ur x<=u) (hi:i<=64):Bd (u+t+7) (Uq (trim (mono i x)) b) :=
 Rx (Rf (Qib hx)) hb (Zz (G0 _) (by rw [Ey]; omega))
theorem Qu0 {u t i:Nat} {c x:Int} {b r:List Int} (hr:Bd u r) (hb:Bd t b) (hc:Ur c<=t) (hx:Ur x<=u) (hi:i<=64):Bd (u+t+8) (str b c i x r) :=
 Ug (Qn0 (Np hr hc) (Qyk hb hx hi)) (by omega)
theorem Qo8 {c x:Int} {i:Nat} {b r:List Int}:(str b c i x r).length<=max r.length (i+b.length):=by
 have h:=Qjr (Uz r c) (Uq (trim (mono i x)) b);have h1:=Me r c;have h2:=Qo7 (i:=i) (x:=x) (b:=b);unfold str; omega
theorem Qs0 (i:Nat) (x:Int):((List.replicate (i+1) (0:Int)).map Gs).set i (Gs x)=(mono i x).map Gs:=by
 rw [Qw5,mono];congr 1;refine Xq λj=>?_
 simp only [Ye,List.getElem?_append,Js,Ja];by_cases h:j=i
 ·subst h; simp
 ·rw [if_neg (by omega)];by_cases h2:j<i
  ·simp [h2]; omega
  ·rw [if_neg (by omega),if_neg h2];cases hj:j-i with
   | zero=>omega
   | succ m=>simp
theorem Q0l (i:Nat) {x:Int} {y:List LV} (h:y.map Qg3=Gs x):(((List.replicate (i+1) [LV.bool false,LV.nils]).set i y).map λc=>c.map Qg3)=(mono i x).map Gs:=by
 rw [Yo,Qhy,h]; exact Qs0 i x
theorem Ot {b:List Int} {c:Int} {i:Nat} {q r:List Int} {x:Int} (hx:x=if r.length=b.length+i then Ux r else 0):psd b c (i+1) (q,r)=psd b c i (stq c i x q,str b c i x r):=by
 subst hx; rfl
theorem Q5d {a b:List Int} (ha:Pb a) (hb:Pb b) (h0:b.length≠0):Uh Tryz.prog 258 [pr a,pr b] [pr (psd b (Ux b) (a.length+1-b.length) ([],a)).1,pr (Si a b),.one (.int .i64 ((a.length+1-b.length:Nat):Int)),.one (.int .i64 0)]:=by
 have hal:=ha.l;have hbl:=hb.l;have hlb:Ur (Ux b)<=16777216:=Pq hb.b;obtain ⟨c,hc⟩:=nmE (Ux b);have cl:=An hb.t hb.ln hb.bd;rw [show b.getD (b.length-1) 0=c from hc.symm] at cl;obtain ⟨k,hk⟩:=nmE (a.length+1-b.length);unfold Si;rw [<-hc,<-hk];rw [<-hc] at hlb;refine Ha Tryz.func258 rfl ?_;refine go tt [.z 4,.c [] (Hq ha.t ha.ln ha.bd),.c [] (Hq hb.t hb.ln hb.bd),.f (by simpa using h0),.c [] cl,.c [] (Ni a),.c [] (Ni b),.r 27 (eI (b:=(k:Int)) (by omega))] rfl (by simp [Uf]; omega) ?_;refine lp (S:=Nat×List Int×List Int) 1 (λL1 s=>(4,.v (pr s.2.1))::(5,.v (pr s.2.2))::(9,.v (.one (.int .i64 ((s.1:Int)-1))))::L1) (λ_=>[.blk 55 (Gs c)]) (λs=>s.1) (λs=>s.1<=k/\Um s.2.2/\s.2.1.length<=66/\s.2.2.length<=a.length/\Bd (16777216+(k-s.1)*16777224) s.2.1/\Bd (16777216+(k-s.1)*16777224) s.2.2/\psd b c s.1 s.2=psd b c k ([],a)) (k,[],a) ⟨Qm _,ha.t,by simp,Qm _,Iw,by simpa using ha.b,rfl⟩ rfl (λ_ _=>rfl) rfl λ⟨i,q,r⟩ ⟨j1,j2,j3,j4,j5,j6,j7⟩=>?_
 dsimp only at j1 j2 j3 j4 j5 j6 j7 ⊢;rw [<-j7];cases i with
 | zero=>exact en tt [.f (by simp)] rfl rfl trivial
 |
  succ i =>
  obtain ⟨x,hx⟩:=nmE (if r.length=b.length+i then Ux r else 0);obtain ⟨u,hu⟩:=nmE (16777216+(k-(i+1))*16777224);rw [<-hu] at j5 j6;have hub:u<=1107296256:=by
   have:(k-(i+1))*16777224<=64*16777224:=Qz _ (by omega);omega
  have hxs:Ur x<=u:=by
   rw [hx]; split
   ·exact Pq j6
   ·rw [Pu]; exact Qg _
  have cs:=Qcr (p:=q) (c:=c) (by omega) (Ug j5 (by omega)) (by omega);have cs2:=Qcr (p:=r) (c:=c) (by omega) (Ug j6 (by omega)) (by omega);have l1:=Me q c;have l2:=Me r c;have ca:=Qve (p:=Uz q c) (q:=mono i x) (by omega) (by rw [Ey]; omega) (Ug (Np j5 hlb) (by omega)) (Ug (Qib hxs) (by omega));have cm:=Qn3 (p0:=mono i x) hb.t (by rw [Ey]; omega) (by omega) (Qib hxs) hb.b (by omega);have l3:=Qo7 (i:=i) (x:=x) (b:=b);have cb:=Qvg (p:=Uz r c) (q:=Uq (trim (mono i x)) b) (by omega) (by omega) (Ug (Np j6 hlb) (by omega)) (Ug (Qyk hb.b hxs (by omega)) (by omega));have hst:=Ot (b:=b) (c:=c) (q:=q) hx;have hI:i<=k/\Um (str b c i x r)/\(stq c i x q).length<=66/\(str b c i x r).length<=a.length/\Bd (16777216+(k-i)*16777224) (stq c i x q)/\Bd (16777216+(k-i)*16777224) (str b c i x r):=by
   have l5:=Zdu (c:=c) (x:=x) (i:=i) (q:=q);have l6:=Qo8 (c:=c) (x:=x) (i:=i) (b:=b) (r:=r);have hku:u+16777216+8=16777216+(k-i)*16777224:=by
    rw [hu,show k-i=(k-(i+1))+1 from by omega,Jh]; omega
   refine ⟨by omega,Uv _ _,by omega,by omega,?_,?_⟩
   ·rw [<-hku]; exact Zhk j5 hlb hxs
   ·rw [<-hku]; exact Qu0 j6 hb.b hlb hxs (by omega)
  rw [hst];by_cases h:r.length=b.length+i
  ·refine go tt [.t (by simp <;> omega),.c [] (Ni r),.c [] (Ni b),.t (by simp; omega),.c [] (An j2 (by omega) (Ug j6 (by omega))),.r 44 (eI (b:=((i+1:Nat):Int)) (by omega)),.i (i+1),.i (i+1),.r 47 (eI (b:=(i:Int)) (by omega)),.i i] rfl (by simp [Uf]; omega) ?_;refine nl 2 rfl rfl rfl ?_;rw [Q0l i (x:=x) (by rw [hx,if_pos h]; rfl)];refine go tt [.c [] cs,.c [] ca,.c [] cs2,.c [] cm,.c [] cb,.r 33 (eI (b:=(i:Int)-1) (by omega))] rfl (by simp [Uf]; omega) ?_;exact rd (i,stq c i x q,str b c i x r) (by dsimp only; omega) ⟨hI.1,hI.2.1,hI.2.2.1,hI.2.2.2.1,hI.2.2.2.2.1,hI.2.2.2.2.2,rfl⟩ rfl
  ·refine go tt [.t (by simp <;> omega),.c [] (Ni r),.c [] (Ni b),.f (by simp; omega),.r 44 (eI (b:=((i+1:Nat):Int)) (by omega)),.i (i+1),.i (i+1),.r 47 (eI (b:=(i:Int)) (by omega)),.i i] rfl (by simp [Uf]; omega) ?_;refine nl 2 rfl rfl rfl ?_;rw [Q0l i (x:=x) (by rw [hx,if_neg h,D2]; rfl)];refine go tt [.c [] cs,.c [] ca,.c [] cs2,.c [] cm,.c [] cb,.r 33 (eI (b:=(i:Int)-1) (by omega))] rfl (by simp [Uf]; omega) ?_;exact rd (i,stq c i x q,str b c i x r) (by dsimp only; omega) ⟨hI.1,hI.2.1,hI.2.2.1,hI.2.2.2.1,hI.2.2.2.2.1,hI.2.2.2.2.2,rfl⟩ rfl
theorem Q89 {b:List Int} {c:Int} (hb:Bd 16777216 b) (hc:Ur c<=16777216) {n:Nat}:∀ (i u:Nat) (q r:List Int),i<=64->i+b.length<=n+1->Um r->r.length<=n->Bd u r->Um (psd b c i (q,r)).2/\(psd b c i (q,r)).2.length<=n/\Bd (u+i*16777224) (psd b c i (q,r)).2
 | 0,u,q,r,_,_,h1,h2,h3=>⟨h1,h2,by simpa [psd] using h3⟩
 |
  i+1,u,q,r,hi,hn,h1,h2,h3=>by
  rw [Ot rfl];have hx:Ur (if r.length=b.length+i then Ux r else 0)<=u:=by
   split
   ·exact Pq h3
   ·rw [Pu]; exact Qg _
  have l6:=Qo8 (c:=c) (x:=if r.length=b.length+i then Ux r else 0) (i:=i) (b:=b) (r:=r);have:=Q89 hb hc (n:=n) i (u+16777216+8) (stq c i (if r.length=b.length+i then Ux r else 0) q) (str b c i (if r.length=b.length+i then Ux r else 0) r) (by omega) (by omega) (Uv _ _) (by omega) (Qu0 h3 hb hc hx (by omega));exact ⟨this.1,this.2.1,Ug this.2.2 (by omega)⟩
theorem Q00 {a b:List Int} (ha:Pb a) (hb:Pb b) (h0:b.length≠0):Um (Si a b)/\(Si a b).length<=a.length/\Bd 1107296256 (Si a b):=by
 have hal:=ha.l;by_cases h:b.length<=a.length+1
 ·obtain ⟨h1,h2,h3⟩:=Q89 hb.b (Pq hb.b) (n:=a.length) (a.length+1-b.length) 16777216 [] a (by omega) (by omega) ha.t (Qm _) ha.b;refine ⟨h1,h2,Ug h3 ?_⟩;have:(a.length+1-b.length)*16777224<=64*16777224:=Qz _ (by omega);omega
 ·have e:Si a b=a:=by unfold Si; rw [show a.length+1-b.length=0 from by omega]; rfl
  rw [e];exact ⟨ha.t,Qm _,Ug ha.b (by omega)⟩
theorem Qdt {a b r:List Int} {s n:Nat} (h1:Um r) (h2:r.length<=n) (h3:Bd s r):Um (Mn a b r)/\(Mn a b r).length<=n/\Bd s (Mn a b r):=by
 unfold Mn; split
 ·exact ⟨Uv _ _,Qd (Bs r) h2,Qac h3⟩
 ·exact ⟨h1,h2,h3⟩
theorem Qj9 {r:List Int} {s n:Nat} (h2:r.length<=n) (h3:Bd s r):Um (Qbi r)/\(Qbi r).length<=n/\Bd s (Qbi r):=by
 unfold Qbi; split
 ·exact ⟨rfl,by simp,Iw⟩
 ·exact ⟨Ic _ _,Qd (Qmh _ _) h2,Qid h3 _⟩
theorem Qdp {a b:List Int} (ha:Pb a) (hb:Pb b) (h0:b.length≠0):Um (Hk a b)/\(Hk a b).length<=a.length/\Bd 1107296256 (Hk a b):=by
 obtain ⟨h1,h2,h3⟩:=Q00 ha hb h0;obtain ⟨h4,h5,h6⟩:=Qdt (a:=a) (b:=b) h1 h2 h3;exact Qj9 h5 h6
theorem Q5f {a b:List Int} (ha:Pb a) (hb:Pb b) (h0:b.length≠0):Uh Tryz.prog 224 [pr a,pr b] [pr (Hk a b),.one (.int .i64 0)]:=by
 obtain ⟨h1,h2,h3⟩:=Q00 ha hb h0;obtain ⟨h4,h5,h6⟩:=Qdt (a:=a) (b:=b) h1 h2 h3;have hal:=ha.l;have cp:=Q5d ha hb h0;have cl:=An hb.t hb.ln hb.bd;have cn:=Q5b (p:=Si a b) (by omega) (Ug h3 (by omega));unfold Hk;obtain ⟨r,hr⟩:=nmE (Mn a b (Si a b));have cc:=Qeu (p:=r) (by rw [hr]; omega) (by rw [hr]; exact Ug h6 (by omega));rw [<-hr] at h4 h5 h6 ⊢;obtain ⟨k,hk⟩:=nmE (a.length+1-b.length);rw [<-hk] at cp;have em:((k:Int).tmod 2)=((k % 2:Nat):Int):=by rw [Yu (by omega)]; omega
 have key:Qbi r=if r.length=0 then [] else Cf r (Px r):=rfl
 by_cases hz:r.length=0
 ·rw [key,if_pos hz];by_cases hodd:k % 2=1
  ·by_cases hneg:Ux b<0
   ·have e:r=H5 (Si a b):=by rw [hr]; unfold Mn; rw [if_pos ⟨by rw [<-hk]; exact hodd,hneg⟩]
    rw [e] at hz;exact w tt Tryz.func224 rfl [.c [] cp,.f (by simp),.r 22 (eI em),.t (by simp; omega),.c [] cl,.t (by simpa [Ux] using hneg),.c [] cn,.t (by simpa using hz)] rfl rfl (by simp [Uf])
   ·have e:r=Si a b:=by rw [hr]; unfold Mn; rw [if_neg (λh=>hneg h.2)]
    rw [e] at hz;exact w tt Tryz.func224 rfl [.c [] cp,.f (by simp),.r 22 (eI em),.t (by simp; omega),.c [] cl,.f (by simpa [Ux] using hneg),.t (by simpa using hz)] rfl rfl (by simp [Uf])
  ·have e:r=Si a b:=by rw [hr]; unfold Mn; rw [if_neg (λh=>hodd (by rw [hk]; exact h.1))]
   rw [e] at hz;exact w tt Tryz.func224 rfl [.c [] cp,.f (by simp),.r 22 (eI em),.f (by simp; omega),.f rfl,.t (by simpa using hz)] rfl rfl (by simp [Uf])
 ·rw [key,if_neg hz];have cd:=Qys (p:=r) (g:=Px r) (by omega) (Ug h6 (by omega)) (Qap (Ug h6 (by omega))) (Om h4 hz) E5;by_cases hodd:k % 2=1
  ·by_cases hneg:Ux b<0
   ·have e:r=H5 (Si a b):=by rw [hr]; unfold Mn; rw [if_pos ⟨by rw [<-hk]; exact hodd,hneg⟩]
    rw [e] at hz cc cd ⊢;exact w tt Tryz.func224 rfl [.c [] cp,.f (by simp),.r 22 (eI em),.t (by simp; omega),.c [] cl,.t (by simpa [Ux] using hneg),.c [] cn,.f (by simpa using hz),.c [] cc,.c [] cd] rfl rfl (by simp [Uf])
   ·have e:r=Si a b:=by rw [hr]; unfold Mn; rw [if_neg (λh=>hneg h.2)]
    rw [e] at hz cc cd ⊢;exact w tt Tryz.func224 rfl [.c [] cp,.f (by simp),.r 22 (eI em),.t (by simp; omega),.c [] cl,.f (by simpa [Ux] using hneg),.f (by simpa using hz),.c [] cc,.c [] cd] rfl rfl (by simp [Uf])
  ·have e:r=Si a b:=by rw [hr]; unfold Mn; rw [if_neg (λh=>hodd (by rw [hk]; exact h.1))]
   rw [e] at hz cc cd ⊢;exact w tt Tryz.func224 rfl [.c [] cp,.f (by simp),.r 22 (eI em),.f (by simp; omega),.f rfl,.f (by simpa using hz),.c [] cc,.c [] cd] rfl rfl (by simp [Uf])
theorem Zdp {s:Nat} {x:Int} (h:Ur x<=s) (g:Int):Ur (x / g)<=s:=Qes (p:=[x]) (λz hz=>by rw [Qn.1 hz]; exact h) g _ (by simp)
def sta (b:List Int) (i:Nat) (x:Int) (a:List Int):List Int:=Sx a (Uq (trim (mono i x)) b)
theorem Zhj {u t i:Nat} {x:Int} {b a:List Int} (ha:Bd u a) (hb:Bd t b) (hx:Ur x<=u) (hi:i<=64):Bd (u+t+8) (sta b i x a) :=
 Ug (Qn0 ha (Qyk hb hx hi)) (by omega)
theorem Qz9 {x:Int} {i:Nat} {b a:List Int}:(sta b i x a).length<=max a.length (i+b.length):=by
 have h:=Qjr a (Uq (trim (mono i x)) b);have h2:=Qo7 (i:=i) (x:=x) (b:=b);unfold sta; omega
theorem Zb0 (s n:Nat):Bd s (List.replicate n 0):=λz hz=>by rw [(List.mem_replicate.1 hz).2,Pu]; exact Qg _
theorem Zhi {s i:Nat} {l:List Int} {x:Int} (h:Bd s l) (hx:Ur x<=s):Bd s (l.set i x):=λz hz=>by
 rcases J7 hz with hz | rfl
 ·exact h z hz
 ·exact hx
theorem Q49 {a b q:List Int} (ha:Pb a) (hb:Pb b) (h:Qbb a b=some q):Uh Tryz.prog 292 [pr a,pr b] [pr q,.one (.int .i64 0)]:=by
 unfold Qbb at h
 split at h
 ·cases h
 rename_i h0;obtain ⟨k,hk⟩:=nmE (a.length+1-b.length);rw [<-hk] at h;obtain ⟨q',hq,hq2⟩:=Qk.1 h;obtain ⟨rfl,hpb⟩:=Iy (He _) hq2;have hal:=ha.l;have hbl:=hb.l;refine Ha Tryz.func292 rfl ?_;refine go tt [.c [] (Hq ha.t ha.ln ha.bd),.c [] (Hq hb.t hb.ln hb.bd),.f (by simpa using h0),.r 24 (eI (b:=(k:Int)) (by simp; omega)),.i k,.i k,.r 27 (eI (b:=(k:Int)) (by simp))] rfl (by simp [Uf]; omega) ?_;refine nl 0 rfl rfl rfl ?_;rw [Qhy];refine lp (S:=Nat×List Int×List Int) 1 (λL1 s=>(0,.v (pr s.2.1))::(7,.v (.one (.int .i64 ((s.1:Int)-1))))::L1) (λs=>[.row false 55 2 (s.2.2.map Gs)]) (λs=>s.1) (λs=>s.1<=k/\Um s.2.1/\s.2.1.length<=a.length/\Bd (16777216+(k-s.1)*16777224) s.2.1/\s.2.2.length=k/\Bd 1107296256 s.2.2/\Qpr b s.1 s.2.1 s.2.2=some q') (k,a,List.replicate k 0) ⟨Qm _,ha.t,Qm _,by simpa using ha.b,by simp,Zb0 _ _,hq⟩ rfl (λ_ _=>rfl) rfl λ⟨i,A,Q⟩ ⟨j1,j2,j3,j4,j5,j7,j6⟩=>?_
 dsimp only at j1 j2 j3 j4 j5 j6 j7 ⊢;cases i with
 |
  zero =>
  simp only [Qpr] at j6
  split at j6
  ·rename_i hA;injection j6 with j6; subst j6;exact en tt [.f (by simp),.f (by simpa using hA),.c [] (Ck (Gk Q) (by omega) (Ug j7 (by omega)))] rfl rfl trivial
  ·cases j6
 |
  succ i =>
  obtain ⟨u,hu⟩:=nmE (16777216+(k-(i+1))*16777224);rw [<-hu] at j4;have hub:u<=1107296256:=by
   have:(k-(i+1))*16777224<=64*16777224:=Qz _ (by omega);omega
  have hku:u+16777216+8=16777216+(k-i)*16777224:=by
   rw [hu,show k-i=(k-(i+1))+1 from by omega,Jh]; omega
  simp only [Qpr] at j6;by_cases hlt:A.length<b.length+i
  ·rw [if_pos hlt] at j6;refine go tt [.t (by simp <;> omega),.c [] (Ni A),.c [] (Ni b),.t (by simp; omega),.r 32 (eI (b:=(i:Int)-1) (by omega))] rfl (by simp [Uf]; omega) ?_;exact rd (i,A,Q) (by dsimp only; omega) ⟨by dsimp only; omega,j2,j3,Ug j4 (by dsimp only; omega),j5,j7,j6⟩ rfl
  ·rw [if_neg hlt] at j6
   split at j6
   ·rename_i hdv;obtain ⟨x,hx⟩:=nmE (Ux A / Ux b);rw [<-hx] at j6;have hxs:Ur x<=u:=by rw [hx]; exact Zdp (Pq j4) _
    have ce:=Lh (Uk (Ux A)) (Uk (Ux b)) (Qd (Pq j4) (by omega)) (Qd (Pq hb.b) (by omega)) (Lp hb.t h0) hdv;rw [<-hx] at ce;have cm:Uh Tryz.prog 215 [.one (.row ((mono i x).map Gs)),pr b] [pr (Uq (trim (mono i x)) b)]:=Qn3 (p0:=mono i x) hb.t (by rw [Ey]; omega) (by omega) (Qib hxs) hb.b (by omega);have l3:=Qo7 (i:=i) (x:=x) (b:=b);have l4:=Qz9 (i:=i) (x:=x) (b:=b) (a:=A);have cb:=Qvg (p:=A) (q:=Uq (trim (mono i x)) b) (by omega) (by omega) (Ug j4 (by omega)) (Ug (Qyk hb.b hxs (by omega)) (by omega));refine go tt [.t (by simp <;> omega),.c [] (Ni A),.c [] (Ni b),.f (by simp; omega),.c [] (An j2 (by omega) (Ug j4 (by omega))),.c [] (An hb.t hb.ln hb.bd),.c [] ce,.f rfl,.r 51 (eI (b:=(i:Int)) (by omega)),.i i,.r 55 (eI (b:=((i+1:Nat):Int)) (by omega)),.i (i+1),.i (i+1),.r 58 (eI (b:=(i:Int)) (by omega))] rfl (by simp [Uf]; omega) ?_;refine nl 2 rfl rfl rfl ?_;rw [Qhy,Qw5];rw [<-Qs0 i x] at cm;refine go tt [.i i,.c [] cm,.c [] cb,.r 32 (eI (b:=(i:Int)-1) (by omega))] rfl (by simp [Uf]; omega) ?_;exact rd (i,sta b i x A,Q.set i x) (by dsimp only; omega) ⟨by dsimp only; omega,Uv _ _,by dsimp only; omega,by dsimp only; rw [<-hku]; exact Zhj j4 hb.b hxs (by omega),by simpa using j5,Zhi j7 (Nat.le_trans hxs hub),j6⟩ rfl
   ·cases j6
theorem Zjb {a b q:List Int} (h:Qbb a b=some q):Pb q:=by
 unfold Qbb at h
 split at h
 ·cases h
 ·obtain ⟨q',_,hq2⟩:=Qk.1 h;obtain ⟨rfl,hpb⟩:=Iy (He _) hq2;exact hpb
theorem Zle {a b q:List Int} (ha:Pb a) (hb:Pb b) (h:Qbb a b=some q):Uh Tryz.prog 279 [pr a,pr b] [pr q] :=
 w tt Tryz.func279 rfl [.c [] (Q49 ha hb h)] rfl rfl trivial
theorem Qqp:∀ {k:Nat} {a b g:List Int},Pb a->Pb b->Qfy k a b=some g->Pb g
 | 0,_,_,_,_,_,h=>by cases h
 |
  k+1,a,b,g,ha,hb,h=>by
  simp only [Qfy] at h
  split at h
  ·injection h with h; subst h; exact ha
  ·rename_i h0;obtain ⟨r,hr,h⟩:=Qk.1 h;obtain ⟨rfl,hpb⟩:=Iy (Qdp ha hb h0).1 hr;exact Qqp hb hpb h
theorem Q56 {a b g:List Int} (ha:Pb a) (hb:Pb b) (h:Ou a b=some g):Uh Tryz.prog 180 [pr a,pr b] [pr g]:=by
 unfold Ou at h;obtain ⟨g',h2,rfl⟩:=Option.map_eq_some_iff.1 h;have hg:=Qqp (Tn ha) (Tn hb) h2;refine Ha Tryz.func180 rfl ?_;refine go tt [.c [] (Qcx ha),.c [] (Qcx hb)] rfl trivial ?_;refine lp (S:=Nat×List Int×List Int) 0 (λL1 s=>(0,.v (pr s.2.1))::(1,.v (pr s.2.2))::L1) (λ_=>[]) (λs=>s.1) (λs=>Pb s.2.1/\Pb s.2.2/\Qfy s.1 s.2.1 s.2.2=some g') (66,Uy a,Uy b) ⟨Tn ha,Tn hb,h2⟩ rfl (λ_ _=>rfl) rfl λ⟨k,A,C⟩ ⟨j1,j2,j3⟩=>?_
 dsimp only at j1 j2 j3 ⊢;cases k with
 | zero=>cases j3
 |
  succ k =>
  simp only [Qfy] at j3
  split at j3
  ·rename_i h0;injection j3 with j3; subst j3;exact en tt [.f (by simpa using h0),.c [] (Qcx j1)] rfl rfl trivial
  ·rename_i h0;obtain ⟨r,hr,j3⟩:=Qk.1 j3;obtain ⟨rfl,hpb⟩:=Iy (Qdp j1 j2 h0).1 hr;refine go tt [.t (by simp; omega),.c [] (Q5f j1 j2 h0)] rfl trivial ?_;exact rd (k,C,Hk A C) (by dsimp only; omega) ⟨j2,hpb,j3⟩ rfl
theorem Qpp {a b g:List Int} (ha:Pb a) (hb:Pb b) (h:Ou a b=some g):Pb g:=by
 unfold Ou at h;obtain ⟨g',h2,rfl⟩:=Option.map_eq_some_iff.1 h;exact Tn (Qqp (Tn ha) (Tn hb) h2)
theorem Q5a {a b g:List Int} (ha:Pb a) (hb:Pb b) (h:Qpt a b=some g):Uh Tryz.prog 136 [.one (.row (Il [a,b]))] [pr g]:=by
 unfold Qpt at h;obtain ⟨g1,h1,h2⟩:=Qk.1 h;have hg1:=Qpp Qpo ha h1;refine Ha Tryz.func136 rfl ?_;refine go tt [.z 3] rfl trivial ?_;refine lp (S:=Nat) 0 (λL1 i=>(8,.v (.one (.int .i64 (i:Int))))::(3,.v (pr (if i=0 then [] else if i=1 then g1 else g)))::L1) (λ_=>[]) (λi=>2-i) (λi=>i<=2) 0 (Qg _) rfl (λ_ _=>rfl) rfl λi hi=>?_
 rcases (show i=0\/i=1\/i=2 by omega) with rfl | rfl | rfl
 ·refine go tt [.t rfl,.x (E9 (i:=0) (p:=a) rfl),.c [] (Q56 Qpo ha h1)] rfl (by simp [Uf]) ?_;exact rd 1 (by omega) (by omega) rfl
 ·refine go tt [.t rfl,.x (E9 (i:=1) (p:=b) rfl),.c [] (Q56 hg1 hb h2)] rfl (by simp [Uf]) ?_;exact rd 2 (by omega) (by omega) rfl
 ·exact en tt [.f rfl] rfl rfl trivial
theorem Q8v {a b g:List Int} (ha:Pb a) (hb:Pb b) (h:Qpt a b=some g):Pb g:=by
 unfold Qpt at h;obtain ⟨g1,h1,h2⟩:=Qk.1 h;exact Qpp (Qpp Qpo ha h1) hb h2
theorem Qw2 {p d:List Int} (h:chk (Fg p)=some d):d=Fg p/\Pb (Fg p):=Iy (Uv _ _) h
theorem Q5h {a g:List Int} (ha:Pb a) (h:Pg a=some g):Uh Tryz.prog 251 [pr a] [pr g]:=by
 have hp:=Tn ha;unfold Pg at h
 split at h
 ·rename_i h0;injection h with h; subst h;exact w tt Tryz.func251 rfl [.c [] (Qcx ha),.c [] (Ni _),.t (by simp; omega)] rfl rfl trivial
 ·rename_i h0;obtain ⟨d,h1,h⟩:=Qk.1 h;obtain ⟨rfl,hd⟩:=Qw2 h1;obtain ⟨g1,h1,h⟩:=Qk.1 h;exact w tt Tryz.func251 rfl [.c [] (Qcx ha),.c [] (Ni _),.f (by simp; omega),.c [] (Qad hp.ln hp.bd),.c [] (Q56 hp hd h1),.c [] (Zle hp (Qpp hp hd h1) h)] rfl rfl trivial
theorem Qmx {a g:List Int} (ha:Pb a) (h:Pg a=some g):Pb g:=by
 unfold Pg at h
 split at h
 ·injection h with h; subst h; exact Tn ha
 ·obtain ⟨d,h1,h⟩:=Qk.1 h;obtain ⟨g1,h1,h⟩:=Qk.1 h;exact Zjb h
theorem Q8w {p:List Int} (h:Pb p):Pb (H5 p):=⟨Uv _ _,Qd (Bs p) h.l,Qac h.b⟩
theorem Qvw:∀ {k:Nat} {a b:List Int} {l:List (List Int)},Pb a->Pb b->chF k a b=some l->l.length≤k/\∀ p∈l,Pb p
 | 0,_,_,_,_,_,h=>by cases h
 |
  k+1,a,b,l,ha,hb,h=>by
  simp only [chF] at h
  split at h
  ·injection h with h; subst h; exact ⟨by simp,λp hp=>by cases hp⟩
  ·rename_i h0;obtain ⟨r,hr,h⟩:=Qk.1 h;obtain ⟨rfl,hpb⟩:=Iy (Qdp ha hb h0).1 hr;obtain ⟨l',h1,h⟩:=Qk.1 h;injection h with h; subst h;obtain ⟨i1,i2⟩:=Qvw hb (Q8w hpb) h1;refine ⟨by simp; exact i1,λp hp=>?_⟩;rcases Qo.1 hp with rfl | hp
   ·exact hb
   ·exact i2 p hp
theorem chain_ok {p:List Int} {l:List (List Int)} (hp:Pb p) (h:Lj p=some l):l.length≤67/\∀ q∈l,Pb q:=by
 unfold Lj at h;obtain ⟨a,h1,h⟩:=Qk.1 h;have ha:=Qmx hp h1
 split at h
 ·cases h
 ·obtain ⟨d,h2,h⟩:=Qk.1 h;obtain ⟨rfl,hd⟩:=Qw2 h2;obtain ⟨l',h3,h⟩:=Qk.1 h;injection h with h; subst h;obtain ⟨i1,i2⟩:=Qvw ha (Tn hd) h3;refine ⟨by simp; omega,λp hp=>?_⟩;rcases Qo.1 hp with rfl | hp
  ·exact ha
  ·exact i2 p hp
theorem Qw6 (l:List (List Int)) (p:List Int):Il l++[[pl p]]=Il (l++[p]):=by simp [Il]
theorem Qm1 (l:List (List Int)):(Il l).length=l.length:=by simp [Il]
theorem Zhu {p:List Int} {l:List (List Int)} (hp:Pb p) (h:Lj p=some l):Uh Tryz.prog 249 [pr p] [.one (.sh [.row (Il l)]),.one (.int .i64 0)]:=by
 unfold Lj at h;obtain ⟨a,h1,h⟩:=Qk.1 h;have ha:=Qmx hp h1
 split at h
 ·cases h
 rename_i h0;obtain ⟨d,h2,h⟩:=Qk.1 h;obtain ⟨rfl,hd⟩:=Qw2 h2;obtain ⟨l',h3,h⟩:=Qk.1 h;injection h with h; subst h;refine Ha Tryz.func249 rfl ?_;refine go tt [.c [] (Q5h hp h1),.f (by simpa using h0),.lo,.c [] (Qad ha.ln ha.bd),.c [] (Q5t hd.t hd.ln' hd.bd)] rfl (by simp [Uf]) ?_;obtain ⟨z,hz⟩:=nmE (if (Fg a).length=0 then 0 else Gl (Fg a));rw [<-hz];refine sb [(4,.v (pr a)),(7,.v (pr (Uy (Fg a)))),(5,.v (.one (.ow 1 0)))] [.row false 52 1 [[pl a]],.blk 327 [.orow 0 1 none],.blk 55 (Gs z)] rfl rfl ?_;have hll:=(Qvw ha (Tn hd) h3).1;refine lp (S:=Nat×List (List Int)×List Int×List Int) 3 (λL1 s=>(4,.v (pr s.2.2.1))::(7,.v (pr s.2.2.2))::L1) (λs=>[.row false 52 1 (Il s.2.1),.blk 327 [.orow 0 1 none],.blk 55 (Gs z)]) (λs=>s.1) (λs=>Pb s.2.2.1/\Pb s.2.2.2/\∃ m,chF s.1 s.2.2.1 s.2.2.2=some m/\s.2.1++m=a::l') (66,[a],a,Uy (Fg a)) ⟨ha,Tn hd,l',h3,rfl⟩ rfl (λ_ _=>rfl) rfl λ⟨k,out,A,C⟩ ⟨j1,j2,m,j3,j4⟩=>?_
 dsimp only at j1 j2 j3 j4 ⊢;have hol:out.length<=67:=by have:=congrArg List.length j4; simp at this; omega
 cases k with
 | zero=>cases j3
 |
  succ k =>
  simp only [chF] at j3
  split at j3
  ·rename_i h0;injection j3 with j3; subst j3;rw [Xo] at j4;rw [<-j4];exact en tt [.f (by simpa using h0)] rfl rfl trivial
  ·rename_i h0;obtain ⟨r,hr,j3⟩:=Qk.1 j3;obtain ⟨rfl,hpb⟩:=Iy (Qdp j1 j2 h0).1 hr;obtain ⟨m',j6,j5⟩:=Qk.1 j3;injection j5 with j5; subst j5;refine go tt [.t (by simp; omega),.s (sz:=1) (λc hc=>by rw [Qn.1 hc]; rfl),.c [] (Q5f j1 j2 h0),.c [] (Q5b hpb.ln hpb.bd)] rfl (by simp [Uf,Qm1]; omega) ?_;exact rd (k,out++[C],C,H5 (Hk A C)) (by dsimp only; omega) ⟨j2,Q8w hpb,m',j6,by rw [<-j4]; simp⟩ (by rw [Qw6]; rfl)
structure Tb (t:Tm):Prop where
 p:Pb t.p
 lo:Qb t.lo
 hi:Qb t.hi
theorem Qzd (x y:Int):-1<=B7 x y/\B7 x y<=1:=by unfold B7; split <;> (try split) <;> omega
theorem Au (a b:Rat):-1<=Fx a b/\Fx a b<=1:=Qzd _ _
theorem Qds (p:List Int) (q:Rat):-1<=U9 p q/\U9 p q<=1:=Qzd _ _
theorem Qwu (p:List Int) (q:Rat):-1<=low p q/\low p q<=1:=by unfold low; split <;> exact Qds _ _
theorem Qb.s31 {q:Rat} (h:Qb q):Qs 2147483647 q:=h.mono (by decide)
theorem Qb.s32 {q:Rat} (h:Qb q):Qs 4294967295 q:=h.mono (by decide)
theorem Qg0 {p:List Int} {q:Rat} (hp:Pb p) (hq:Qb q):Uh Tryz.prog 159 [pr p,.agg (rl q)] [.one (.int .i64 (U9 p q))]:=by
 have hm:p.length*(16777216+1)<=64*16777217:=Qz _ hp.l;exact Qyp hp.t hp.ln hp.b hq (by omega)
theorem Zk2 {p:List Int} {q:Rat} (hp:Pb p) (hq:Qb q):Uh Tryz.prog 159 [pr (Fg p),.agg (rl q)] [.one (.int .i64 (U9 (Fg p) q))]:=by
 have hl:=Qd (Sr p) (show p.length-1<=64 by have:=hp.l; omega);have hm:(Fg p).length*(16777216+1)<=64*16777217:=Qz _ hl;exact Qyp (Uv _ _) (Zz hl (by omega)) (Qha (t:=6) hp.b hp.l) hq (by omega)
theorem Bn {t:Tm} (ht:Tb t):Uh Tryz.prog 135 [.agg (ta t)] [.one (.bool t.point)] :=
 w tt Tryz.func135 rfl [.c [] (Dl ht.lo.s31 ht.hi.s31)] rfl rfl trivial
theorem Qhe {t:Tm} (ht:Tb t):Uh Tryz.prog 134 [.agg (ta t)] [.agg (ta t)] :=
 w tt Tryz.func134 rfl [.c [] (Hq ht.p.t ht.p.ln ht.p.bd),.c [] (Qhc ht.lo.s32),.c [] (Qhc ht.hi.s32)] rfl rfl trivial
theorem Q55 {t:Tm} (ht:Tb t):Uh Tryz.prog 131 [.agg (ta t)] [.agg (ta t)]:=w tt Tryz.func131 rfl [.c [] (Qhe ht)] rfl rfl trivial
theorem Q5r {p:List Int} {q:Rat} (hp:Pb p) (hq:Qb q):Uh Tryz.prog 160 [pr p,.agg (rl q)] [.one (.int .i64 (low p q))]:=by
 unfold low;by_cases h:U9 p q=0
 ·rw [if_neg (by simpa using h)];exact w tt Tryz.func160 rfl [.c [] (Qg0 hp hq),.f (by simpa using h),.c [] (Qad hp.ln hp.bd),.c [] (Zk2 hp hq)] rfl rfl trivial
 ·rw [if_pos h];exact w tt Tryz.func160 rfl [.c [] (Qg0 hp hq),.t (by simpa using h)] rfl rfl trivial
theorem Q5p {p:List Int} {lo hi:Rat} (hp:Pb p) (hl:Qb lo) (hh:Qb hi):Uh Tryz.prog 138 [pr p,.agg (rl lo),.agg (rl hi)] [.one (.bool (Qc8 p lo hi))]:=by
 by_cases h:U9 p hi=0
 ·exact w tt Tryz.func138 rfl [.c [] (Qg0 hp hh),.t (by simpa using h)] rfl (by simp [Qc8,h]) trivial
 ·exact w tt Tryz.func138 rfl [.c [] (Qg0 hp hh),.f (by simpa using h),.c [] (Q5r hp hl)] rfl (by simp [Qc8,h]) trivial
theorem Qvb {t:Tm} {q:Rat} (ht:Tb t) (hq:Qb q):Uh Tryz.prog 115 [.agg (ta t),.agg (rl q)] [.one (.int .i64 (Fa t q))]:=by
 have cp:=Bn ht;unfold Fa;by_cases h1:t.point=true
 ·rw [if_pos h1];exact w tt Tryz.func115 rfl [.c [] cp,.t h1,.c [] (Dl ht.lo.s31 hq.s31)] rfl rfl trivial
 rw [if_neg h1];have h1:t.point=false:=by simpa using h1
 have c1:=Dl hq.s31 ht.lo.s31;have c2:=Dl hq.s31 ht.hi.s31;by_cases h2:Fx q t.lo<=0
 ·rw [if_pos h2];exact w tt Tryz.func115 rfl [.c [] cp,.f h1,.c [] c1,.t (by simpa using h2)] rfl rfl trivial
 rw [if_neg h2];by_cases h3:0<Fx q t.hi
 ·rw [if_pos h3];exact w tt Tryz.func115 rfl [.c [] cp,.f h1,.c [] c1,.f (by simpa using h2),.c [] c2,.t (by simpa using h3)] rfl rfl trivial
 rw [if_neg h3];by_cases h4:U9 t.p q=0
 ·rw [if_pos h4];exact w tt Tryz.func115 rfl [.c [] cp,.f h1,.c [] c1,.f (by simpa using h2),.c [] c2,.f (by simpa using h3),.c [] (Qg0 ht.p hq),.t (by simpa using h4)] rfl rfl trivial
 rw [if_neg h4];by_cases h5:U9 t.p q=low t.p t.lo
 ·rw [if_pos h5];exact w tt Tryz.func115 rfl [.c [] cp,.f h1,.c [] c1,.f (by simpa using h2),.c [] c2,.f (by simpa using h3),.c [] (Qg0 ht.p hq),.f (by simpa using h4),.c [] (Q5r ht.p ht.lo),.t (by simpa using h5)] rfl rfl trivial
 ·rw [if_neg h5];exact w tt Tryz.func115 rfl [.c [] cp,.f h1,.c [] c1,.f (by simpa using h2),.c [] c2,.f (by simpa using h3),.c [] (Qg0 ht.p hq),.f (by simpa using h4),.c [] (Q5r ht.p ht.lo),.f (by simpa using h5)] rfl rfl trivial
theorem Zc1 (t:Tm) (q:Rat):-1<=Fa t q/\Fa t q<=1:=by
 unfold Fa;have:=Au t.lo q
 repeat' split
 all_goals omega
theorem Zc9 (q:Rat):0<(q.den:Int):=by have:=q.den_pos; omega
theorem Zky {a b:Rat} (ha:Qb a) (hb:Qb b):Uh Tryz.prog 228 [.agg (rl a),.agg (rl b)] [.agg (rl (mid a b))]:=by
 have h1:Ur (a.num*(b.den:Int))<=33554432:=Qd (U6 _ _) (by have:=ha.1; have:=hb.2; omega);have h2:Ur (b.num*(a.den:Int))<=33554432:=Qd (U6 _ _) (by have:=hb.1; have:=ha.2; omega);have h3:Ur ((a.den:Int)*(b.den:Int))<=33554432:=Qd (U6 _ _) (by have:=ha.2; have:=hb.2; omega);have h4:Ur (2:Int)<=2:=by decide
 have h5:Ur (a.num*(b.den:Int)+b.num*(a.den:Int))<=33554433:=Qd (Qdb _ _) (by omega);have h6:Ur ((a.den:Int)*(b.den:Int)*2)<=33554434:=Qd (U6 _ _) (by omega);have h0:(a.den:Int)*(b.den:Int)*2≠0:=by
  have:=Int.mul_pos (Zc9 a) (Zc9 b); omega
 exact w tt Tryz.func228 rfl [.c [] (Qn8 ha.s31 hb.s31),.c [] (Qik (Uk _) (Uk _) (by omega) (by omega)),.c [] (Qvd (z:=2) (by decide)),.c [] (Dk (Uk _) (Uk _) (by omega) (by omega)),.c [] (Qcv h0 (by omega) (by omega))] rfl rfl trivial
theorem Qod {a b:Rat} (ha:Qb a) (hb:Qb b):Uh Tryz.prog 182 [.agg (rl a),.agg (rl b)] [.agg (rl (Qkm a b))]:=by
 have h1:Ur (a.num*(b.den:Int))<=33554432:=Qd (U6 _ _) (by have:=ha.1; have:=hb.2; omega);have h2:Ur (b.num*(a.den:Int))<=33554432:=Qd (U6 _ _) (by have:=hb.1; have:=ha.2; omega);have h3:Ur ((a.den:Int)*(b.den:Int))<=33554432:=Qd (U6 _ _) (by have:=ha.2; have:=hb.2; omega);have h5:Ur (a.num*(b.den:Int)-b.num*(a.den:Int))<=33554433:=Qd (Qo6 _ _) (by omega);have h0:(a.den:Int)*(b.den:Int)≠0:=by
  have:=Int.mul_pos (Zc9 a) (Zc9 b); omega
 exact w tt Tryz.func182 rfl [.c [] (Qn8 ha.s31 hb.s31),.c [] (Q5l (Uk _) (Uk _) (by omega) (by omega)),.c [] (Qcv h0 (by omega) (by omega))] rfl rfl trivial
theorem Qvx {q r:Rat} (h:chq q=some r):r=q/\Qb q:=by
 unfold chq at h
 split at h
 ·rename_i hc; injection h with h; exact ⟨h.symm,hc⟩
 ·cases h
theorem Qvl {t u:Tm} (ht:Tb t) (h:Qo0 t=some u):Uh Tryz.prog 183 [.agg (ta t)] [.agg (ta u)]:=by
 have cp:=Bn ht;unfold Qo0 at h
 split at h
 ·rename_i h1;injection h with h; subst h;exact w tt Tryz.func183 rfl [.c [] cp,.t h1] rfl rfl trivial
 ·rename_i h1;have h1:t.point=false:=by simpa using h1
  obtain ⟨m,hm0,h⟩:=Qk.1 h;obtain ⟨rfl,hm⟩:=Qvx hm0;injection h with h;subst h;have cm:=Zky ht.lo ht.hi;have cc:=Qvb ht hm;by_cases h2:Fa t (mid t.lo t.hi)=0
  ·rw [if_pos h2];exact w tt Tryz.func183 rfl [.c [] cp,.f h1,.c [] cm,.c [] cc,.t (by simpa using h2)] rfl rfl trivial
  rw [if_neg h2];by_cases h3:Fa t (mid t.lo t.hi)=-1
  ·rw [if_pos h3];exact w tt Tryz.func183 rfl [.c [] cp,.f h1,.c [] cm,.c [] cc,.f (by simpa using h2),.t (by simpa using h3)] rfl rfl trivial
  ·rw [if_neg h3];exact w tt Tryz.func183 rfl [.c [] cp,.f h1,.c [] cm,.c [] cc,.f (by simpa using h2),.f (by simpa using h3)] rfl rfl trivial
theorem Qqj {t u:Tm} (ht:Tb t) (h:Qo0 t=some u):Tb u:=by
 unfold Qo0 at h
 split at h
 ·injection h with h; subst h; exact ht
 ·obtain ⟨m,hm0,h⟩:=Qk.1 h;obtain ⟨rfl,hm⟩:=Qvx hm0;injection h with h;subst h
  repeat' split
  ·exact ⟨ht.p,hm,hm⟩
  ·exact ⟨ht.p,ht.lo,hm⟩
  ·exact ⟨ht.p,hm,ht.hi⟩
theorem Am {z:Int} (h:Ur z<=4294967296):Uh Tryz.prog 225 [.one (mg z)] [.one (.int .i64 (Ur z:Int))]:=by
 have h1:=Qu9 (l:=U3 z.natAbs) (By _) (by rw [Fv]; exact h);rw [Fv] at h1; exact h1
theorem Qkf {p:List Int} {i:Nat} {z:Int} (h:p[i]? = some z):Fw (p.take (i+1))=max (Fw (p.take i)) (Ur z):=by
 unfold Fw; rw [List.take_succ,h,Option.toList_some,List.foldl_append]; rfl
theorem Sw {p:List Int} {s:Nat} (h:Bd s p):∀ i,Fw (p.take i)<=s
 | 0=>by simp [Fw]
 |
  i+1=>by
  cases hz:p[i]? with
  |
   none =>
   rw [Qj (by have:=Jk.1 hz; omega),<-Qj (l:=p) (i:=i) (by have:=Jk.1 hz; omega)];exact Sw h i
  | some z=>rw [Qkf hz]; have:=Sw h i; have:=Q4r h hz; omega
theorem Qoe {p:List Int} (hp:Pb p):Uh Tryz.prog 226 [pr p] [.one (.int .i64 (Fw p:Int))]:=by
 have hl:=hp.l;refine Ha Tryz.func226 rfl ?_;refine go tt [] rfl trivial ?_;refine lp (S:=Nat) 0 (λL1 i=>(8,.v (.one (.int .i64 (i:Int))))::(3,.v (.one (.int .i64 (Fw (p.take i):Int))))::L1) (λ_=>[]) (λi=>p.length-i) (λi=>i<=p.length) 0 (Qg _) rfl (λ_ _=>rfl) rfl λi hi=>?_
 by_cases hlt:i<p.length
 ·have hg:=Hg hlt;have hz:=Uu hp.b i;have hs:=Qkf hg;refine go tt [.t (by simp; omega),.x (Tv hg),.c [] (Am (by omega)),.r 16 (eI (b:=(Fw (p.take (i+1)):Int)) (by rw [hs]; omega))] rfl (by simp [Uf]; omega) ?_;exact rd (i+1) (by omega) hlt rfl
 ·obtain rfl:i=p.length:=by omega
  rw [Q5];exact en tt [.f (by simp)] rfl rfl trivial
theorem Zcu {a:Tm} {b:Tm} (ha:Tb a) (hb:Tb b):Uh Tryz.prog 181 [.agg (ta a),.agg (ta b)] [.one (.int .i64 (Tx a b:Nat))]:=by
 have l1:=ha.p.l;have l2:=hb.p.l;have b1:=ha.lo.1;have b2:=ha.hi.1;have b3:=hb.lo.1;have b4:=hb.hi.1;have s1:Fw a.p<=16777216:=by have:=Sw ha.p.b a.p.length; rwa [Q5] at this
 have s2:Fw b.p<=16777216:=by have:=Sw hb.p.b b.p.length; rwa [Q5] at this
 obtain ⟨N,hN⟩:=nmE (4*(a.p.length+b.p.length));obtain ⟨S,hS⟩:=nmE (Fw a.p+Fw b.p+(a.p.length+b.p.length)+8);have hNS:N*S<=512*33554568:=Zw (by omega) (by omega);have h0:(N:Int)*(S:Int)=((N*S:Nat):Int):=(Vf _ _).symm;have hst:Tx a b=64+2*(Ur a.lo.num+Ur a.hi.num+Ur b.lo.num+Ur b.hi.num)+N*S:=by rw [hN,hS]; rfl
 rw [hst];exact w tt Tryz.func181 rfl [.c [] (Am (z:=a.lo.num) (by omega)),.c [] (Am (z:=a.hi.num) (by omega)),.c [] (Am (z:=b.lo.num) (by omega)),.c [] (Am (z:=b.hi.num) (by omega)),.r 41 (eI (b:=(N:Int)) (by rw [hN]; simp)),.c [] (Qoe ha.p),.c [] (Qoe hb.p),.r 51 (eI (b:=(S:Int)) (by rw [hS]; simp)),.r 52 (eI (b:=((N*S:Nat):Int)) h0)] rfl (by simp) (by rw [h0]; simp [Uf]; omega)
def Qxy (p:List Int) (a:Tm):Nat:=64+2*(Ur a.lo.num+Ur a.hi.num)+4*(a.p.length+p.length)*(Fw a.p+Fw p+(a.p.length+p.length)+8)
theorem Qyl:Uh Tryz.prog 225 [lr []] [.one (.int .i64 0)]:=Qu9 (l:=[]) (by simp [Sm]) (by decide)
theorem Q54 {a:Tm} {p:List Int} (ha:Tb a) (hp:Pb p):Uh Tryz.prog 181 [.agg (ta a),.agg ([pl p,.bool false,.row [],.bool false,.row [],.bool false,.row [],.bool false,.row []])] [.one (.int .i64 (Qxy p a:Nat))]:=by
 have l1:=ha.p.l;have l2:=hp.l;have b1:=ha.lo.1;have b2:=ha.hi.1;have s1:Fw a.p<=16777216:=by have:=Sw ha.p.b a.p.length; rwa [Q5] at this
 have s2:Fw p<=16777216:=by have:=Sw hp.b p.length; rwa [Q5] at this
 obtain ⟨N,hN⟩:=nmE (4*(a.p.length+p.length));obtain ⟨S,hS⟩:=nmE (Fw a.p+Fw p+(a.p.length+p.length)+8);have hNS:N*S<=512*33554568:=Zw (by omega) (by omega);have h0:(N:Int)*(S:Int)=((N*S:Nat):Int):=(Vf _ _).symm;have hst:Qxy p a=64+2*(Ur a.lo.num+Ur a.hi.num)+N*S:=by rw [hN,hS]; rfl
 rw [hst];exact w tt Tryz.func181 rfl [.c [] (Am (z:=a.lo.num) (by omega)),.c [] (Am (z:=a.hi.num) (by omega)),.c [] Qyl,.c [] Qyl,.r 41 (eI (b:=(N:Int)) (by rw [hN]; simp)),.c [] (Qoe ha.p),.c [] (Qoe hp),.r 51 (eI (b:=(S:Int)) (by rw [hS]; simp)),.r 52 (eI (b:=((N*S:Nat):Int)) h0)] rfl (by simp) (by rw [h0]; simp [Uf]; omega)
def tst (sg:List Int->Int) (l:List (List Int)) (i:Nat):Nat×Int:=(l.take i).foldl (Nn sg) (0,0)
theorem Qx3 {sg:List Int->Int} (hs:∀ p,-1<=sg p/\sg p<=1) (l:List (List Int)):∀ i,(tst sg l i).1<=i/\-1<=(tst sg l i).2/\(tst sg l i).2<=1
 | 0=>⟨Qm _,show (-1:Int)<=0 by decide,show (0:Int)<=1 by decide⟩
 |
  i+1=>by
  obtain ⟨h1,h2,h3⟩:=Qx3 hs l i;cases h:l[i]? with
  |
   none =>
   have:tst sg l (i+1)=tst sg l i:=by unfold tst; rw [List.take_of_length_le (by have:=List.getElem?_eq_none_iff.1 h; omega),List.take_of_length_le (List.getElem?_eq_none_iff.1 h)]
   rw [this]; omega
  |
   some p =>
   have:tst sg l (i+1)=Nn sg (tst sg l i) p:=Rk _ _ _ h;rw [this];have:=hs p;unfold Nn
   split
   ·omega
   ·dsimp only; split <;> omega
theorem Zcv {l:List (List Int)} {fid:Nat} {l1:List LV} {sg:List Int->Int} (hl:l.length≤1000) (hs:∀ p,-1≤sg p/\sg p≤1) (h:∀ p∈l,Uh Tryz.prog fid [pr p,.one (.sh l1)] [.one (.int .i64 (sg p))]):Uh Tryz.prog 290 [.one (.sh [.row (Il l)]),.one (.fn fid [] [.sh l1])] [.one (.int .i64 (O6 sg l:Nat))]:=by
 have hpl:=Qm1 l;refine Ha Tryz.func290 rfl ?_;refine go tt [] rfl trivial ?_;refine lp (S:=Nat) 0 (λL1 i=>(15,.v (.one (.int .i64 (i:Int))))::(5,.v (.one (.int .i64 ((tst sg l i).1:Int))))::(6,.v (.one (.int .i64 (tst sg l i).2)))::L1) (λ_=>[]) (λi=>l.length-i) (λi=>i<=l.length) 0 (Qg _) rfl (λ_ _=>rfl) rfl λi hi=>?_
 by_cases hlt:i<l.length
 ·obtain ⟨p,hp⟩:=gxE (l:=l) (i:=i) hlt;have hst:tst sg l (i+1)=Nn sg (tst sg l i) p:=Rk _ _ _ hp;obtain ⟨b1,b2,b3⟩:=Qx3 hs l i;have b4:=hs p;by_cases h0:sg p=0
  ·refine go tt [.t (by simp [hpl]; omega),.x (E9 hp),.c [] (h p (Qa hp)),.t (by simpa using h0)] rfl (by simp [Uf]; omega) ?_;exact rd (i+1) (by omega) hlt (by rw [hst,show Nn sg (tst sg l i) p=tst sg l i from by unfold Nn; rw [if_pos h0]]; rfl)
  ·by_cases h1:(tst sg l i).2=-(sg p)
   ·refine go tt [.t (by simp [hpl]; omega),.x (E9 hp),.c [] (h p (Qa hp)),.f (by simpa using h0),.t (by simpa using h1)] rfl (by simp [Uf]; omega) ?_;exact rd (i+1) (by omega) hlt (by rw [hst,show Nn sg (tst sg l i) p=((tst sg l i).1+1,sg p) from by unfold Nn; rw [if_neg h0,if_pos h1]]; rfl)
   ·refine go tt [.t (by simp [hpl]; omega),.x (E9 hp),.c [] (h p (Qa hp)),.f (by simpa using h0),.f (by simpa using h1)] rfl (by simp [Uf]; omega) ?_;exact rd (i+1) (by omega) hlt (by rw [hst,show Nn sg (tst sg l i) p=((tst sg l i).1,sg p) from by unfold Nn; rw [if_neg h0,if_neg h1]]; rfl)
 ·obtain rfl:i=l.length:=by omega
  refine en tt [.f (by simp [hpl])] rfl ?_ trivial;unfold tst O6; rw [List.take_length]
theorem Q5k {p:List Int} {q:Rat} (hp:Pb p) (hq:Qb q):Uh Tryz.prog 291 [pr p,.one (.sh (rl q))] [.one (.int .i64 (U9 p q))]:=w tt Tryz.func291 rfl [.c [] (Qg0 hp hq)] rfl rfl trivial
theorem Qyr {l:List (List Int)} {q:Rat} (hl:l.length≤1000) (hp:∀ p∈l,Pb p) (hq:Qb q):Uh Tryz.prog 278 [.one (.sh [.row (Il l)]),.agg (rl q)] [.one (.int .i64 (Cy l q:Nat))] :=
 w tt Tryz.func278 rfl [.c [] (Zcv (fid:=291) (l1:=rl q) (sg:=λp=>U9 p q) hl (λp=>Qds p q) λp h=>Q5k (hp p h) hq)] rfl rfl trivial
theorem Que {sg:List Int->Int} (hs:∀ p,-1<=sg p/\sg p<=1) (l:List (List Int)):O6 sg l<=l.length:=by
 have:=(Qx3 hs l l.length).1;unfold tst at this; rwa [List.take_length] at this
theorem Q10 {l:List (List Int)} {lo hi:Rat} (hl:l.length≤1000) (hp:∀ p∈l,Pb p) (ql:Qb lo) (qh:Qb hi):Uh Tryz.prog 250 [.one (.sh [.row (Il l)]),.agg (rl lo),.agg (rl hi)] [.one (.int .i64 (Ro l lo hi))]:=by
 have b1:Cy l lo<=l.length:=Que (λp=>Qds p lo) l;have b2:Cy l hi<=l.length:=Que (λp=>Qds p hi) l;have c1:=Dl qh.s31 ql.s31;unfold Ro;by_cases h:Fx hi lo<0
 ·rw [if_pos h];exact w tt Tryz.func250 rfl [.c [] c1,.t (by simpa using h)] rfl rfl trivial
 ·rw [if_neg h];exact w tt Tryz.func250 rfl [.c [] c1,.f (by simpa using h),.c [] (Qyr hl hp ql),.c [] (Qyr hl hp qh)] rfl rfl (by simp [Uf]; omega)
def zTm:List LV:=[.nils,.bool false,.nils,.bool false,.nils,.bool false,.nils,.bool false,.nils]
theorem Q3v {a b:Tm} (ha:Tb a) (hb:Tb b):Tx a b<=17179938816+200000000:=by
 have l1:=ha.p.l;have l2:=hb.p.l;have b1:=ha.lo.1;have b2:=ha.hi.1;have b3:=hb.lo.1;have b4:=hb.hi.1;have s1:Fw a.p<=16777216:=by have:=Sw ha.p.b a.p.length; rwa [Q5] at this
 have s2:Fw b.p<=16777216:=by have:=Sw hb.p.b b.p.length; rwa [Q5] at this
 have:4*(a.p.length+b.p.length)*(Fw a.p+Fw b.p+(a.p.length+b.p.length)+8)<=512*33554568:=Zw (by omega) (by omega);unfold Tx; omega
theorem Zez {a b:Rat} (ha:Qb a) (hb:Qb b):Qs 2147483647 (Qkm a b):=by
 have h1:Ur (a.num*(b.den:Int))<=33554432:=Qd (U6 _ _) (by have:=ha.1; have:=hb.2; omega);have h2:Ur (b.num*(a.den:Int))<=33554432:=Qd (U6 _ _) (by have:=hb.1; have:=ha.2; omega);have h3:Ur ((a.den:Int)*(b.den:Int))<=33554432:=Qd (U6 _ _) (by have:=ha.2; have:=hb.2; omega);have h5:Ur (a.num*(b.den:Int)-b.num*(a.den:Int))<=33554433:=Qd (Qo6 _ _) (by omega);exact (Qs.divInt (s:=33554433) h5 (by omega) (by omega)).mono (by omega)
theorem Qn5 {a b:Tm} {r:Tm×Tm×Int} (ha:Tb a) (hb:Tb b) (h:apF (Tx a b) a b=some r):Uh Tryz.prog 139 [.agg (ta a),.agg (ta b)] [.agg (ta r.1),.agg (ta r.2.1),.one (.int .i64 r.2.2)]:=by
 have hsb:=Q3v ha hb;refine Ha Tryz.func139 rfl ?_;refine go tt [.c [] (Zcu ha hb)] rfl trivial ?_;obtain ⟨n,hn⟩:=nmE (Tx a b);rw [<-hn] at h hsb ⊢;refine sb [(10,.v (.one (.int .i64 0))),(9,.v (.one (.int .i64 (n:Int)))),(5,.v (.one (.ow 3 0))),(4,.v (.one (.ow 2 0))),(3,.v (.one (.ow 1 0))),(2,.v (.one (.ow 0 0)))] [.blk 79 (ta a),.blk 79 (ta b),.blk 79 zTm,.blk 79 zTm] rfl rfl ?_;refine lp (S:=Nat×Tm×Tm) 4 (λL1 s=>(10,.v (.one (.int .i64 (s.1:Int))))::L1) (λs=>[.blk 79 (ta s.2.1),.blk 79 (ta s.2.2),.blk 79 zTm,.blk 79 zTm]) (λs=>n-s.1) (λs=>s.1<=n/\Tb s.2.1/\Tb s.2.2/\apF (n-s.1) s.2.1 s.2.2=some r) (0,a,b) ⟨Qg _,ha,hb,h⟩ rfl (λ_ _=>rfl) rfl λ⟨i,u,v⟩ ⟨j1,j2,j3,j4⟩=>?_
 dsimp only at j1 j2 j3 j4 ⊢;by_cases hi:i<n
 ·obtain ⟨k,hk⟩:∃ k,n-i=k+1:=⟨n-i-1,by omega⟩;have hk':n-(i+1)=k:=by omega
  rw [hk] at j4;have c1:=Dl j2.hi.s31 j3.lo.s31;have c2:=Dl j3.hi.s31 j2.lo.s31;have pu:=Bn j2;have pv:=Bn j3;have hlt:decide ((i:Int)<(n:Int))=true:=by simp; omega
  simp only [apF] at j4;refine go tt [.t hlt] rfl trivial ?_;refine ct 3 (S:=Unit) (λ_=>[(10,.v (.one (.int .i64 (i:Int)))),(9,.v (.one (.int .i64 (n:Int)))),(5,.v (.one (.ow 3 0))),(4,.v (.one (.ow 2 0))),(3,.v (.one (.ow 1 0))),(2,.v (.one (.ow 0 0)))]) (λ_=>[.blk 79 (ta u),.blk 79 (ta v),.blk 79 zTm,.blk 79 zTm]) (λ_=>¬Bm u v=true/\¬Bm v u=true) rfl ?_ ?_
  ·have bA:Bm u v=(decide (Fx u.hi v.lo<=0) && !(u.point && v.point && decide (Fx u.hi v.lo=0))):=by
    unfold Bm; cases u.point <;> cases v.point <;> simp
   have bB:Bm v u=(decide (Fx v.hi u.lo<=0) && !(u.point && v.point && decide (Fx v.hi u.lo=0))):=by
    unfold Bm; cases u.point <;> cases v.point <;> simp
   obtain ⟨a0,A'⟩:∃ b,decide (Fx u.hi v.lo<=0)=b:=⟨_,rfl⟩;obtain ⟨b0,B'⟩:∃ b,decide (Fx v.hi u.lo<=0)=b:=⟨_,rfl⟩;obtain ⟨p0,P'⟩:∃ b,u.point=b:=⟨_,rfl⟩;obtain ⟨q0,Q'⟩:∃ b,v.point=b:=⟨_,rfl⟩;obtain ⟨x0,X'⟩:∃ b,decide (Fx u.hi v.lo=0)=b:=⟨_,rfl⟩;obtain ⟨y0,Y'⟩:∃ b,decide (Fx v.hi u.lo=0)=b:=⟨_,rfl⟩;rw [A',P',Q',X'] at bA;rw [B',P',Q',Y'] at bB;have r1:Bm u v=true->(u,v,-1)=r:=λh=>by rw [if_pos h] at j4; injection j4
   have r2:¬Bm u v=true->Bm v u=true->(u,v,1)=r:=λh h'=>by rw [if_neg h,if_pos h'] at j4; injection j4
   clear j4;cases a0
   ·cases b0
    ·exact go tt [.c [] c1,.g 19 false A',.f rfl,.c [] c2,.g 45 false B',.f rfl] rfl trivial (rc () ⟨by rw [bA]; simp,by rw [bB]; simp⟩ rfl)
    ·cases p0
     ·obtain rfl:=r2 (by rw [bA]; simp) (by rw [bB]; rfl);exact en tt [.c [] c1,.g 19 false A',.f rfl,.c [] c2,.g 45 true B',.c [] pu,.g 48 false P',.g 52 false rfl,.t rfl] rfl rfl trivial
     ·cases q0
      ·obtain rfl:=r2 (by rw [bA]; simp) (by rw [bB]; rfl);exact en tt [.c [] c1,.g 19 false A',.f rfl,.c [] c2,.g 45 true B',.c [] pu,.g 48 true P',.c [] pv,.g 52 false Q',.t rfl] rfl rfl trivial
      ·cases y0
       ·obtain rfl:=r2 (by rw [bA]; simp) (by rw [bB]; rfl);exact en tt [.c [] c1,.g 19 false A',.f rfl,.c [] c2,.g 45 true B',.c [] pu,.g 48 true P',.c [] pv,.g 52 true Q',.c [] c2,.t (by simpa using Y')] rfl rfl trivial
       ·exact go tt [.c [] c1,.g 19 false A',.f rfl,.c [] c2,.g 45 true B',.c [] pu,.g 48 true P',.c [] pv,.g 52 true Q',.c [] c2,.f (by simpa using Y')] rfl trivial (rc () ⟨by rw [bA]; simp,by rw [bB]; simp⟩ rfl)
   ·cases p0
    ·obtain rfl:=r1 (by rw [bA]; rfl);exact en tt [.c [] c1,.g 19 true A',.c [] pu,.g 22 false P',.g 26 false rfl,.t rfl] rfl rfl trivial
    ·cases q0
     ·obtain rfl:=r1 (by rw [bA]; rfl);exact en tt [.c [] c1,.g 19 true A',.c [] pu,.g 22 true P',.c [] pv,.g 26 false Q',.t rfl] rfl rfl trivial
     ·cases x0
      ·obtain rfl:=r1 (by rw [bA]; rfl);exact en tt [.c [] c1,.g 19 true A',.c [] pu,.g 22 true P',.c [] pv,.g 26 true Q',.c [] c1,.t (by simpa using X')] rfl rfl trivial
      ·cases b0
       ·exact go tt [.c [] c1,.g 19 true A',.c [] pu,.g 22 true P',.c [] pv,.g 26 true Q',.c [] c1,.f (by simpa using X'),.c [] c2,.g 45 false B',.f rfl] rfl trivial (rc () ⟨by rw [bA]; simp,by rw [bB]; simp⟩ rfl)
       ·cases y0
        ·obtain rfl:=r2 (by rw [bA]; simp) (by rw [bB]; rfl);exact en tt [.c [] c1,.g 19 true A',.c [] pu,.g 22 true P',.c [] pv,.g 26 true Q',.c [] c1,.f (by simpa using X'),.c [] c2,.g 45 true B',.c [] pu,.g 48 true P',.c [] pv,.g 52 true Q',.c [] c2,.t (by simpa using Y')] rfl rfl trivial
        ·exact go tt [.c [] c1,.g 19 true A',.c [] pu,.g 22 true P',.c [] pv,.g 26 true Q',.c [] c1,.f (by simpa using X'),.c [] c2,.g 45 true B',.c [] pu,.g 48 true P',.c [] pv,.g 52 true Q',.c [] c2,.f (by simpa using Y')] rfl trivial (rc () ⟨by rw [bA]; simp,by rw [bB]; simp⟩ rfl)
  ·rintro _ ⟨n1,n2⟩
   rw [if_neg n1,if_neg n2] at j4;have qr:∀ {x y:Rat},Qb x->Qb y->Qs 2147483647 (Qkm x y):=λh1 h2=>Zez h1 h2
   have cc:=Dl (qr j2.hi j2.lo) (qr j3.hi j3.lo);by_cases D:0<=Fx (Qkm u.hi u.lo) (Qkm v.hi v.lo)
   ·rw [if_pos D] at j4;obtain ⟨x,x1,x2⟩:=Qk.1 j4;refine go tt [.c [] (Qod j2.hi j2.lo),.c [] (Qod j3.hi j3.lo),.c [] cc,.t (by simpa using D),.c [] (Qvl j2 x1)] rfl (by simp [Uf]; omega) ?_;exact rd (i+1,x,v) (by dsimp only; omega) ⟨hi,Qqj j2 x1,j3,by dsimp only; rw [hk']; exact x2⟩ rfl
   ·rw [if_neg D] at j4;obtain ⟨x,x1,x2⟩:=Qk.1 j4;refine go tt [.c [] (Qod j2.hi j2.lo),.c [] (Qod j3.hi j3.lo),.c [] cc,.f (by simpa using D),.c [] (Qvl j3 x1)] rfl (by simp [Uf]; omega) ?_;exact rd (i+1,u,x) (by dsimp only; omega) ⟨hi,j2,Qqj j3 x1,by dsimp only; rw [hk']; exact x2⟩ rfl
 ·obtain rfl:i=n:=by omega
  rw [Yd] at j4;simp only [apF] at j4;injection j4 with j4; subst j4;exact en tt [.f (by simp)] rfl rfl trivial
theorem Zcp {a b:Rat} (ha:Qb a) (hb:Qb b):Uh Tryz.prog 60 [.agg (rl a),.one (.row [rl b])] [.agg (rl (if 0<Fx b a then b else a))]:=by
 have ca:=Qhd (Uk a.num) (Uk (a.den:Int)) ha.s32.1 ha.s32.2;have cb:=Qhd (Uk b.num) (Uk (b.den:Int)) hb.s32.1 hb.s32.2;rw [Qdy] at ca cb;have cc:=Dl hb.s31 ha.s31;refine Ha Tryz.func60 rfl ?_;refine go tt [.c [] ca] rfl trivial ?_;refine lp (S:=Nat) 3 (λL1 i=>(12,.v (.one (.int .i64 (i:Int))))::L1) (λi=>[.blk 74 (rl a),.blk 74 [.bool false,.nils,.bool false,.nils],.blk 74 (rl (if i=0 then a else if 0<Fx b a then b else a))]) (λi=>1-i) (λi=>i<=1) 0 (Qg _) rfl (λ_ _=>rfl) rfl λi hi=>?_
 rcases (show i=0\/i=1 by omega) with rfl | rfl
 ·by_cases h:0<Fx b a
  ·refine go tt [.t rfl,.x (i:=0) (xs:=rl b) rfl,.c [] cc,.t (by simpa using h),.c [] cb] rfl (by simp [Uf]) ?_;exact rd 1 (by omega) (by omega) (by rw [if_pos h]; rfl)
  ·refine go tt [.t rfl,.x (i:=0) (xs:=rl b) rfl,.c [] cc,.f (by simpa using h)] rfl (by simp [Uf]) ?_;exact rd 1 (by omega) (by omega) (by rw [if_neg h]; rfl)
 ·exact en tt [.f rfl] rfl rfl trivial
theorem Q4u {a b:Tm} {c:Int} (ha:Tb a) (hb:Tb b) (h:Qk3 a b=some c):Uh Tryz.prog 78 [.agg (ta a),.agg (ta b)] [.one (.int .i64 c)]:=by
 have ca:=Qhe ha;have cb:=Qhe hb;have pa:=Bn ha;have pb:=Bn hb;unfold Qk3 at h;by_cases h1:a.point=true
 ·rw [if_pos h1] at h;injection h with h; subst h;have:=Zc1 b a.lo;exact w tt Tryz.func78 rfl [.c [] ca,.c [] cb,.c [] pa,.t h1,.c [] (Qvb hb ha.lo)] rfl rfl (by simp [Uf]; omega)
 rw [if_neg h1] at h;have h1:a.point=false:=by simpa using h1
 by_cases h2:b.point=true
 ·rw [if_pos h2] at h;injection h with h; subst h;exact w tt Tryz.func78 rfl [.c [] ca,.c [] cb,.c [] pa,.f h1,.c [] pb,.t h2,.c [] (Qvb ha hb.lo)] rfl rfl trivial
 rw [if_neg h2] at h;have h2:b.point=false:=by simpa using h2
 obtain ⟨lo,hlo⟩:=nmE (if 0<Fx b.lo a.lo then b.lo else a.lo);obtain ⟨hi,hhi⟩:=nmE (if Fx b.hi a.hi<0 then b.hi else a.hi);have h:(if Fx lo hi<0 then (Qpt a.p b.p).bind λg=>if 1<g.length/\Qc8 g lo hi=true then some 0 else (apF (Tx a b) a b).bind λr=>some r.2.2 else (apF (Tx a b) a b).bind λr=>some r.2.2)=some c:=by rw [hlo,hhi]; exact h
 have qlo:Qb lo:=by rw [hlo]; split; exact hb.lo; exact ha.lo
 have qhi:Qb hi:=by rw [hhi]; split; exact hb.hi; exact ha.hi
 have cm:=Zcp ha.lo hb.lo;rw [<-hlo] at cm;have cc1:=Dl hb.hi.s31 ha.hi.s31;have cc2:=Dl qlo.s31 qhi.s31;refine Ha Tryz.func78 rfl ?_;refine go tt [.c [] ca,.c [] cb,.c [] pa,.f h1,.c [] pb,.f h2,.c [] cm] rfl trivial ?_;refine ct 2 (S:=Unit) (λ_=>[(6,.v (.one (.ow 3 0))),(5,.v (.one (.ow 2 0))),(4,.v (.one (.int .i64 0))),(3,.v (.one (.ow 1 0))),(2,.v (.one (.ow 0 0)))]) (λ_=>[.blk 79 (ta a),.blk 79 (ta b),.blk 74 (rl lo),.blk 74 (rl hi)]) (λ_=>True) rfl ?_ ?_
 ·by_cases D:Fx b.hi a.hi<0
  ·rw [if_pos D] at hhi; subst hhi;exact go tt [.c [] cc1,.t (by simpa using D)] rfl trivial (rc () trivial rfl)
  ·rw [if_neg D] at hhi; subst hhi;exact go tt [.c [] cc1,.f (by simpa using D)] rfl trivial (rc () trivial rfl)
 ·rintro _ _
  by_cases D:Fx lo hi<0
  ·rw [if_pos D] at h;obtain ⟨g,g1,h⟩:=Qk.1 h;have cg:=Q5a ha.p hb.p g1;have pg:=Q8v ha.p hb.p g1;have ch:=Q5p pg qlo qhi;by_cases G:1<g.length
   ·by_cases R:Qc8 g lo hi=true
    ·rw [if_pos ⟨G,R⟩] at h;injection h with h; subst h;exact en tt [.c [] cc2,.t (by simpa using D),.c [] cg,.c [] (Ni g),.g 58 true (by simp; omega),.c [] ch,.t R] rfl rfl trivial
    ·rw [if_neg λh=>R h.2] at h;obtain ⟨r,r1,h⟩:=Qk.1 h;injection h with h; subst h;exact en tt [.c [] cc2,.t (by simpa using D),.c [] cg,.c [] (Ni g),.g 58 true (by simp; omega),.c [] ch,.f (by simpa using R),.c [] (Qn5 ha hb r1)] rfl rfl trivial
   ·rw [if_neg λh=>G h.1] at h;obtain ⟨r,r1,h⟩:=Qk.1 h;injection h with h; subst h;exact en tt [.c [] cc2,.t (by simpa using D),.c [] cg,.c [] (Ni g),.g 58 false (by simp; omega),.f rfl,.c [] (Qn5 ha hb r1)] rfl rfl trivial
  ·rw [if_neg D] at h;obtain ⟨r,r1,h⟩:=Qk.1 h;injection h with h; subst h;exact en tt [.c [] cc2,.f (by simpa using D),.c [] (Qn5 ha hb r1)] rfl rfl trivial
theorem Zb5 {p:List Int} {a:Tm} {s:Int} (hp:Pb p) (ha:Tb a) (h:Qbo p a=some s):Uh Tryz.prog 219 [pr p,.agg (ta a)] [.one (.int .i64 s)]:=by
 have ca:=Qhe ha;have pa:=Bn ha;have cn:=Hq hp.t hp.ln hp.bd;unfold Qbo at h;by_cases h0:p.length=0
 ·rw [if_pos h0] at h;injection h with h; subst h;exact w tt Tryz.func219 rfl [.c [] cn,.c [] ca,.t (by simp; exact Qi h0)] rfl rfl trivial
 rw [if_neg h0] at h;have h0:p≠[]:=λe=>h0 (by rw [e]; rfl)
 by_cases h1:a.point=true
 ·rw [if_pos h1] at h;injection h with h; subst h;exact w tt Tryz.func219 rfl [.c [] cn,.c [] ca,.f (by simpa using h0),.c [] pa,.t h1,.c [] (Qg0 hp ha.lo)] rfl rfl trivial
 rw [if_neg h1] at h;have h1:a.point=false:=by simpa using h1
 obtain ⟨g,g1,h⟩:=Qk.1 h;have cg:=Q5a hp ha.p g1;have pg:=Q8v hp ha.p g1;have ch:=Q5p pg ha.lo ha.hi;by_cases G:1<g.length/\Qc8 g a.lo a.hi=true
 ·rw [if_pos G] at h;injection h with h; subst h;exact w tt Tryz.func219 rfl [.c [] cn,.c [] ca,.f (by simpa using h0),.c [] pa,.f h1,.c [] cg,.c [] (Ni g),.g 29 true (by simp; omega),.c [] ch,.t G.2] rfl rfl trivial
 rw [if_neg G] at h;obtain ⟨c,c1,h⟩:=Qk.1 h;obtain ⟨u,u1,h⟩:=Qk.1 h;injection h with h; subst h;obtain ⟨cl,call⟩:=chain_ok hp c1;obtain ⟨n,hn⟩:=nmE (64+2*(Ur a.lo.num+Ur a.hi.num)+4*(a.p.length+p.length)*(Fw a.p+Fw p+(a.p.length+p.length)+8));have cst:=Q54 ha hp;rw [show Qxy p a=n from hn.symm] at cst;rw [<-hn] at u1;have hnb:n<=17179938816+200000000:=by
  have l1:=ha.p.l;have l2:=hp.l;have b1:=ha.lo.1;have b2:=ha.hi.1;have s1:Fw a.p<=16777216:=by have:=Sw ha.p.b a.p.length; rwa [Q5] at this
  have s2:Fw p<=16777216:=by have:=Sw hp.b p.length; rwa [Q5] at this
  have:4*(a.p.length+p.length)*(Fw a.p+Fw p+(a.p.length+p.length)+8)<=512*33554568:=Zw (by omega) (by omega);omega
 refine Ha Tryz.func219 rfl ?_;refine go tt [.c [] cn,.c [] ca,.f (by simpa using h0),.c [] pa,.f h1,.c [] cg] rfl trivial ?_;refine ct 2 (S:=Unit) (λ_=>[(3,.v (.one (.ow 0 0))),(0,.v (pr p))]) (λ_=>[.blk 79 (ta a)]) (λ_=>True) rfl ?_ ?_
 ·by_cases G1:1<g.length
  ·exact go tt [.c [] (Ni g),.g 29 true (by simp; omega),.c [] ch,.f (by simpa using λh=>G ⟨G1,h⟩)] rfl trivial (rc () trivial rfl)
  ·exact go tt [.c [] (Ni g),.g 29 false (by simp; omega),.f rfl] rfl trivial (rc () trivial rfl)
 rintro _ _
 refine go tt [.c [] (Zhu hp c1),.c [] cst] rfl trivial ?_;refine lp (S:=Nat×Tm) 1 (λL1 s=>(46,.v (.one (.int .i64 (s.1:Int))))::L1) (λs=>[.blk 79 (ta s.2)]) (λs=>n-s.1) (λs=>s.1<=n/\Tb s.2/\sgF c (n-s.1) s.2=some u) (0,a) ⟨Qg _,ha,u1⟩ rfl (λ_ _=>rfl) rfl λ⟨i,x⟩ ⟨j1,j2,j3⟩=>?_
 dsimp only at j1 j2 j3 ⊢;by_cases hi:i<n
 ·obtain ⟨k,hk⟩:∃ k,n-i=k+1:=⟨n-i-1,by omega⟩;have hk':n-(i+1)=k:=by omega
  rw [hk] at j3;simp only [sgF] at j3;have px:=Bn j2;have cb:=Q10 (by omega) call j2.lo j2.hi;have hlt:decide ((i:Int)<(n:Int))=true:=by simp; omega
  by_cases X:x.point=true
  ·rw [if_pos (.inl X)] at j3;injection j3 with j3; subst j3;exact en tt [.t hlt,.c [] px,.g 50 true X,.t rfl,.c [] (Qg0 hp j2.hi)] rfl rfl trivial
  ·have X':x.point=false:=by simpa using X
   by_cases Z:Ro c x.lo x.hi=0
   ·rw [if_pos (.inr Z)] at j3;injection j3 with j3; subst j3;exact en tt [.t hlt,.c [] px,.g 50 false X',.c [] cb,.t (by simpa using Z),.c [] (Qg0 hp j2.hi)] rfl rfl trivial
   ·rw [if_neg (by rintro (h | h); exact X h; exact Z h)] at j3;obtain ⟨v,v1,v2⟩:=Qk.1 j3;refine go tt [.t hlt,.c [] px,.g 50 false X',.c [] cb,.f (by simpa using Z),.c [] (Qvl j2 v1)] rfl (by simp [Uf]; omega) ?_;exact rd (i+1,v) (by dsimp only; omega) ⟨hi,Qqj j2 v1,by dsimp only; rw [hk']; exact v2⟩ rfl
 ·obtain rfl:i=n:=by omega
  rw [Yd] at j3;simp only [sgF] at j3;injection j3 with j3; subst j3;exact en tt [.f (by simp),.c [] (Qg0 hp j2.hi)] rfl rfl trivial
abbrev tas (l:List Tm):LV:=.row (l.map λt=>ta t)
theorem Q1i {l:List Tm} {i:Nat} {t:Tm} (h:l[i]? = some t):(l.map λt=>ta t)[i]? = some (ta t):=Gz h
theorem Q4v {b:Tm} {l:List Tm} {m:Tm} (hb:Tb b) (hl:∀ t∈l,Tb t) (hn:l.length≤1000000) (h:A3 b l=some m):Uh Tryz.prog 72 [.one (tas (b::l))] [.agg (ta m),.one (.bool true)]:=by
 refine Ha Tryz.func72 rfl ?_;refine go tt [.f (by simp; omega),.x (i:=0) (xs:=ta b) rfl,.i 1] rfl (by simp [Uf]; exact ⟨rfl,λ_ _=>rfl⟩) ?_;refine lp (S:=Nat×Tm) 2 (λL1 s=>(17,.v (.one (.int .i64 (s.1:Int))))::L1) (λs=>[.blk 79 zTm,.blk 79 (ta s.2)]) (λs=>l.length-s.1) (λs=>s.1<=l.length/\Tb s.2/\A3 s.2 (l.drop s.1)=some m) (0,b) ⟨Qg _,hb,h⟩ rfl (λ_ _=>rfl) rfl λ⟨i,x⟩ ⟨j1,j2,j3⟩=>?_
 dsimp only at j1 j2 j3 ⊢;by_cases hi:i<l.length
 ·obtain ⟨a,ha⟩:=gxE (l:=l) (i:=i) hi;have hdr:l.drop i=a::l.drop (i+1):=by
   rw [Zu hi]; congr 1;have:=Qf hi; rw [ha] at this; injection this with this; exact this.symm
  rw [hdr] at j3;simp only [A3] at j3;obtain ⟨c,c1,j3⟩:=Qk.1 j3;have ta':=hl a (Qa ha);by_cases hc:c<0
  ·rw [if_pos hc] at j3;refine go tt [.t (by simp; omega),.x (Q1i ha),.c [] (Q4u ta' j2 c1),.t (by simpa using hc)] rfl (by simp [Uf]; omega) ?_;exact rd (i+1,a) (by dsimp only; omega) ⟨hi,ta',j3⟩ rfl
  ·rw [if_neg hc] at j3;refine go tt [.t (by simp; omega),.x (Q1i ha),.c [] (Q4u ta' j2 c1),.f (by simpa using hc)] rfl (by simp [Uf]; omega) ?_;exact rd (i+1,x) (by dsimp only; omega) ⟨hi,j2,j3⟩ rfl
 ·obtain rfl:i=l.length:=by omega
  rw [List.drop_length] at j3;simp only [A3] at j3;injection j3 with j3; subst j3;exact en tt [.f (by simp),.c [] (Q55 j2)] rfl rfl trivial
end Orr
