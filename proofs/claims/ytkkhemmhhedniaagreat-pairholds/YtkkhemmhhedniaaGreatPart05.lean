/- R4 RefPL CrvL CrowdL PredL CertL Y1 Y2 Q1 C1 C2 D1 E1 AlgL F1 F2 F3 F4 F5 -/
import Derived.Test.YtkkhemmhhedniaaGreatPart04
import Derived.Test.YtkkhemmhhedniaaGreatPart00
set_option linter.all false
namespace Orr
open Go Go.Proofs
set_option maxRecDepth 10000
theorem Zd3 {a b:Int} (h:(decide (a<0) == decide (b<0))=true):Ui (decide (a<0)) (a.natAbs+b.natAbs)=a+b:=by
 unfold Ui;by_cases h1:a<0 <;> by_cases h2:b<0 <;> simp [h1,h2] at h ⊢ <;> omega
theorem Zd6 {a b:Int} (h:¬(decide (a<0) == decide (b<0))=true) (hl:b.natAbs<=a.natAbs):Ui (decide (a<0)) (a.natAbs-b.natAbs)=a+b:=by
 unfold Ui;by_cases h1:a<0 <;> by_cases h2:b<0 <;> simp [h1,h2] at h ⊢ <;> omega
theorem Q80 {a b:Int} (h:¬(decide (a<0) == decide (b<0))=true) (hl:¬b.natAbs<=a.natAbs):Ui (decide (b<0)) (b.natAbs-a.natAbs)=a+b:=by
 unfold Ui;by_cases h1:a<0 <;> by_cases h2:b<0 <;> simp [h1,h2] at h ⊢ <;> omega
theorem Qal (a:Int):(∃ m:Nat,a=(m:Int))\/∃ m:Nat,a=-(m:Int)/\0<m:=by
 rcases Ks a 0 with h | h
 ·exact .inr ⟨a.natAbs,by omega,by omega⟩
 ·exact .inl ⟨a.natAbs,by omega⟩
theorem Zd5 (a b:Int):Ui (!(decide (a<0) == decide (b<0))) (a.natAbs*b.natAbs)=a*b:=by
 rcases Qal a with ⟨m,rfl⟩ | ⟨m,rfl,hm⟩ <;> rcases Qal b with ⟨n,rfl⟩ | ⟨n,rfl,hn⟩
 ·simp [Ui,show ¬((m:Int)<0) by omega,show ¬((n:Int)<0) by omega]
 ·simp [Ui,show ¬((m:Int)<0) by omega,show (-(n:Int)<0) by omega,hn,Vx]
 ·simp [Ui,show (-(m:Int)<0) by omega,show ¬((n:Int)<0) by omega,hm,Y8]
 ·simp [Ui,show (-(m:Int)<0) by omega,show (-(n:Int)<0) by omega,hm,hn,Ww]
theorem Zd4 {a b:Int} (h:a % b=0):Ui (!(decide (a<0) == decide (b<0))) (a.natAbs / b.natAbs)=a / b:=by
 by_cases hb:b=0
 ·subst hb; simp [Ui]
 obtain ⟨c,rfl⟩:=Yh h;rw [Xx _ hb,Jv,Nat.mul_div_cancel_left _ (by omega)];rcases Qal b with ⟨n,rfl⟩ | ⟨n,rfl,hn⟩ <;> rcases Qal c with ⟨m,rfl⟩ | ⟨m,rfl,hm⟩
 ·have:¬((n:Int)*(m:Int)<0):=by rw [<-Y0]; omega
  simp [Ui,this,show ¬((n:Int)<0) by omega]
 ·have h1:0<n*m:=J4 (by omega) hm;have:((n:Int)*-(m:Int)<0):=by rw [Vx,<-Y0]; omega
  simp only [this,show ¬((n:Int)<0) by omega];simp [Ui]
 ·by_cases h0:m=0
  ·subst h0; simp [Ui]
  ·have h1:0<n*m:=J4 hn (by omega);have:(-(n:Int)*(m:Int)<0):=by rw [Y8,<-Y0]; omega
   simp only [this,show (-(n:Int)<0) by omega];simp [Ui]
 ·have:¬(-(n:Int)*-(m:Int)<0):=by rw [Ww,<-Y0]; omega
  simp only [this,show (-(n:Int)<0) by omega];simp [Ui]
theorem Q86 (a b:Int):Int.sign (a-b)=Mr a b:=by
 unfold Mr;rcases Jy a b with h | h | h
 ·rw [if_pos h,X3 (by omega)]
 ·rw [if_neg (by omega),if_neg (by omega),h,Int.sub_self]; rfl
 ·rw [if_neg (by omega),if_pos h,Jd (by omega)]
theorem Qx3 {x y:Nat}:0<=Ih x y↔y<=x:=by
 unfold Ih;constructor
 ·intro h; split at h
  ·omega
  ·omega
 ·intro h; split
  ·omega
  ·split <;> omega
theorem Qh4 {x e:Nat} (h:(U6 x).length=1) (he:(U6 x)[0]? = some e):x=e:=by
 rcases hd:U6 x with _ | ⟨u,l⟩
 ·rw [hd] at h; cases h
 ·rcases l with _ | ⟨w,l⟩
  ·rw [hd] at he; simp at he;have:=He x;rw [hd] at this; simp [Hz] at this; omega
  ·rw [hd] at h; simp at h
theorem Qu1 {a b:Int} (hb:0<b):ri (a / ((Int.gcd a b:Nat):Int))++ri (b / ((Int.gcd a b:Nat):Int))=fr (Rat.divInt a b):=by
 obtain ⟨h1,h2⟩:=Qn9 (n:=a) hb;rw [Mz,Int.gcd_comm] at h1 h2;rw [h1,h2]
theorem Qu2 (a:Int):ri a++ri 1=fr (Rat.divInt a 1):=by
 have h:=Qu1 (a:=a) (b:=1) (by decide);rw [show ((Int.gcd a 1:Nat):Int)=1 by simp] at h;simpa using h
theorem Qlg {a b:Int} (hb:b≠0) (ha2:Uj a<=90000000) (hb2:Uj b<=90000000):Uj ((Int.gcd a b:Nat):Int)<=90000000/\((Int.gcd a b:Nat):Int)≠0/\a % ((Int.gcd a b:Nat):Int)=0/\b % ((Int.gcd a b:Nat):Int)=0:=by
 have h1:=Qyx (n:=a) hb hb2;have h2:=Qq9 (n:=a) hb;have h3:=Qir a b;have h4:=Qis a b;rw [Mz,Int.gcd_comm] at h1 h2 h3 h4;exact ⟨h1,by omega,h3,h4⟩
theorem Qmd {a b:Int} (h:b<0):Fx a b=Rat.divInt (-a) (-b):=by
 unfold Fx; rw [if_neg (by omega)];exact (Rat.neg_divInt_neg a b).symm
theorem Qai {a b:Int} (h:0<b):Fx a b=Rat.divInt a b:=by
 unfold Fx; rw [if_neg (by omega)]
theorem Qki (a b:Rat):Fx (a.num*(b.den:Int)+b.num*(a.den:Int)) ((a.den:Int)*(b.den:Int))=a+b:=by
 unfold Fx;rw [if_neg (Xp (Md a) (Md b)),<-Rat.divInt_add_divInt _ _ (Md a) (Md b),Zq,Zq]
theorem Qls (a b:Rat):Fx (a.num*b.num) ((a.den:Int)*(b.den:Int))=a*b:=by
 unfold Fx;rw [if_neg (Xp (Md a) (Md b)),<-Ko,Zq,Zq]
theorem Qmc {a b:Rat} (h:b≠0):Fx (a.num*(b.den:Int)) ((a.den:Int)*b.num)=a / b:=by
 have hn:b.num≠0:=λe=>h (Rat.num_eq_zero.1 e)
 unfold Fx;rw [if_neg (Xp (Md a) hn),<-Ko,Zq,J8];congr 1
 conv=>rhs; rw [<-Zq b,Rat.inv_divInt]
theorem Zh2 {s:Nat} {a b:Rat} (ha:Qs s a) (hb:Qs s b):Qs (2*s+1) (a+b):=by
 rw [<-Qki];unfold Fx;rw [if_neg (Xp (Md a) (Md b))];refine Qs.divInt (Qa (As _ _) ?_) (Qa (Uw _ _) (by have:=ha.2; have:=hb.2; omega)) (by omega);have h1:=Uw a.num (b.den:Int);have h2:=Uw b.num (a.den:Int);have:=ha.1; have:=ha.2; have:=hb.1; have:=hb.2;omega
theorem Qdx {z:Int} (hz:Uj z<=100000000):Ua Tryz.prog 56 [.agg (Gh z)] [.agg (ri z)]:=by
 have hl:(U3 z.natAbs).length<=1099511627776:=by have h2:32*(U3 z.natAbs).length<=100000000+31:=Ri hz; omega
 have h:=Zau (l:=U3 z.natAbs) (λu hu=>(Nz _).1 u hu) hl (by rw [Fl]; exact hz);rw [Fl] at h;have hm:=D8 (decide (z<0)) z.natAbs;have e:Ui (decide (z<0)) z.natAbs=z:=by unfold Ui; by_cases h:z<0 <;> simp [h] <;> omega
 rw [e] at hm;exact w tt Tryz.func56 rfl [.c [] h,.c [] hm] rfl rfl trivial
theorem Qxr {z:Int}:Ua Tryz.prog 166 [.agg (ri z)] [.one (.int .i64 (Int.sign z))]:=by
 have hn:=Qb8 (x:=z.natAbs);have hl:=Qba z.natAbs;rcases Jy z 0 with h | h | h
 ·rw [X3 h];exact w tt Tryz.func166 rfl [.f (by simp only [Hk]; exact decide_eq_false (by omega)),.t (decide_eq_true h)] rfl rfl trivial
 ·subst h;exact w tt Tryz.func166 rfl [.t (by simp only [Hk]; show decide (((U6 0).length:Int)=0)=true; rw [Gk]; rfl)] rfl rfl trivial
 ·rw [Jd h];exact w tt Tryz.func166 rfl [.f (by simp only [Hk]; exact decide_eq_false (by omega)),.f (decide_eq_false (by omega))] rfl rfl trivial
theorem Que {a b:Int} (ha:Uj a<=200000000) (hb:Uj b<=200000000):Ua Tryz.prog 168 [.agg (ri a),.agg (ri b)] [.agg (ri (a+b))]:=by
 by_cases hs:(decide (a<0) == decide (b<0))=true
 ·have cm:=D8 (decide (a<0)) (a.natAbs+b.natAbs);rw [Zd3 hs] at cm;exact w tt Tryz.func168 rfl [.t hs,.c [] (Zge ha hb),.c [] cm] rfl rfl trivial
 ·have hs':(decide (a<0) == decide (b<0))=false:=by simpa using hs
  by_cases hl:b.natAbs<=a.natAbs
  ·have cm:=D8 (decide (a<0)) (a.natAbs-b.natAbs);rw [Zd6 hs hl] at cm;exact w tt Tryz.func168 rfl [.f hs',.c [] (Qt4 ha hb),.t (decide_eq_true (Qx3.2 hl)),.c [] (Qud ha hb hl),.c [] cm] rfl rfl trivial
  ·have cm:=D8 (decide (b<0)) (b.natAbs-a.natAbs);rw [Q80 hs hl] at cm;exact w tt Tryz.func168 rfl [.f hs',.c [] (Qt4 ha hb),.f (decide_eq_false λh=>hl (Qx3.1 h)),.c [] (Qud hb ha (by omega)),.c [] cm] rfl rfl trivial
theorem Q4g {a b:Int} (ha:Uj a<=200000000) (hb:Uj b<=200000000):Ua Tryz.prog 170 [.agg (ri a),.agg (ri b)] [.agg (ri (a-b))]:=by
 have ca:=Que (a:=a) (b:=-b) ha (by rw [Ga]; exact hb);rw [show a+-b=a-b from by omega] at ca;exact w tt Tryz.func170 rfl [.c [] (Ab (z:=b)),.c [] ca] rfl rfl trivial
theorem S0 {a b:Int} (ha:Uj a<=200000000) (hb:Uj b<=200000000):Ua Tryz.prog 55 [.agg (ri a),.agg (ri b)] [.agg (ri (a*b))]:=by
 have cm:=D8 (!(decide (a<0) == decide (b<0))) (a.natAbs*b.natAbs);rw [Zd5] at cm;exact w tt Tryz.func55 rfl [.c [] (Zgj ha hb),.c [] cm] rfl rfl trivial
theorem Zgp {a b:Int} (ha:Uj a<=200000000) (hb:Uj b<=200000000):Ua Tryz.prog 96 [.agg (ri a),.agg (ri b)] [.one (.int .i64 (Mr a b))]:=by
 have h:=Qxr (z:=a-b);rw [Q86] at h;exact w tt Tryz.func96 rfl [.c [] (Q4g ha hb),.c [] h] rfl rfl trivial
theorem Qdy {a b:Int} (ha:Uj a<=90000000) (hb:Uj b<=90000000) (h0:b≠0) (hd:a % b=0):Ua Tryz.prog 134 [.agg (ri a),.agg (ri b)] [.agg (ri (a / b))]:=by
 have cm:=D8 (!(decide (a<0) == decide (b<0))) (a.natAbs / b.natAbs);rw [Zd4 hd] at cm;exact w tt Tryz.func134 rfl [.c [] (Q3l ha hb (by omega)),.c [] cm] rfl rfl trivial
theorem Zh6 (x:Nat):ri ((x:Nat):Int)=[nd x,.bool false]:=by
 unfold ri sg;rw [Zx,decide_eq_false (by omega)]
theorem Qhu {a b:Int} (ha:Uj a<=90000000) (hb:Uj b<=90000000):Ua Tryz.prog 133 [.agg (ri a),.agg (ri b)] [.agg (ri ((Int.gcd a b:Nat):Int))]:=by
 rw [Zh6];refine Gu Tryz.func133 rfl ?_;refine go tt [] rfl trivial ?_;refine lp (S:=Nat×Nat) 3 (λL1 s=>(5,.v (.one (nd s.1)))::(6,.v (.one (nd s.2)))::L1) (λ_=>[.blk 33 (ri a),.blk 33 (ri b),.blk 33 [.nils,.bool false]]) (λs=>s.2) (λs=>Nat.gcd s.1 s.2=Int.gcd a b/\sz s.1<=90000000/\sz s.2<=90000000) (a.natAbs,b.natAbs) ⟨rfl,ha,hb⟩ rfl (λ_ _=>rfl) rfl λs hs=>?_
 obtain ⟨x,y⟩:=s;obtain ⟨hp0,hp1,hp2⟩:=hs;dsimp only at hp0 hp1 hp2 ⊢;have hyn:=Qb8 (x:=y);have hyl:=Qba y;by_cases h1:y=0
 ·have e:Int.gcd a b=x:=by rw [<-hp0,h1,Nat.gcd_zero_right]
  rw [e];exact en tt [.f (by simp only [Hk]; exact decide_eq_false (by omega))] rfl rfl trivial
 ·have hlt:=Xc x (show 0<y by omega);refine go tt [.t (by simp only [Hk]; exact decide_eq_true (by omega)),.c [] (Q3l hp1 hp2 (by omega))] rfl trivial ?_;exact rd (y,x % y) (by dsimp only; omega) ⟨by dsimp only; rw [<-hp0,Nat.gcd_comm x y,Nat.gcd_rec y x,Nat.gcd_comm],hp2,Nat.le_trans (Hw (by dsimp only; omega)) hp2⟩ rfl
theorem O3 {a b:Int} (ha:Uj a<=90000000) (hb:Uj b<=90000000):Ua Tryz.prog 68 [.agg (ri a),.agg (ri b)] [.agg (fr (Fx a b))]:=by
 rcases Jy b 0 with hs | hs | hs
 ·skip
  by_cases h1:-b=1
  ·have h0:(Mk (U6 (-b).natAbs))[0]? = some [LV.int .i64 1]:=by rw [h1,show (1:Int).natAbs=1 from rfl,Li]; rfl
   have hl1:decide (((Mk (U6 (-b).natAbs)).length:Int)=1)=true:=by rw [h1,show (1:Int).natAbs=1 from rfl,Li]; rfl
   have e:fr (Fx a b)=ri (-a)++ri (-b):=by rw [Qmd hs,h1]; exact (Qu2 _).symm
   rw [e];exact w tt Tryz.func68 rfl [.c [] (P8 (z:=b)),.f (decide_eq_false (by omega)),.t (decide_eq_true hs),.c [] (Ab (z:=a)),.c [] (Ab (z:=b)),.g 19 true hl1,.x h0,.t rfl] rfl rfl trivial
  ·have hgf:=Qlg (a:=-a) (b:=-b) (by omega) (by first | exact ha | (rw [Ga]; exact ha)) (by first | exact hb | (rw [Ga]; exact hb));have cg:=Qhu (a:=-a) (b:=-b) (by first | exact ha | (rw [Ga]; exact ha)) (by first | exact hb | (rw [Ga]; exact hb));have q1:=Qdy (a:=-a) (b:=((Int.gcd (-a) (-b):Nat):Int)) (by first | exact ha | (rw [Ga]; exact ha)) hgf.1 hgf.2.1 hgf.2.2.1;have q2:=Qdy (a:=-b) (b:=((Int.gcd (-a) (-b):Nat):Int)) (by first | exact hb | (rw [Ga]; exact hb)) hgf.1 hgf.2.1 hgf.2.2.2;have e:fr (Fx a b)=ri ((-a) / ((Int.gcd (-a) (-b):Nat):Int))++ri ((-b) / ((Int.gcd (-a) (-b):Nat):Int)):=by rw [Qmd hs]; exact (Qu1 (by omega)).symm
   rw [e];have hl:=Qba (-b).natAbs;by_cases hl1:(U6 (-b).natAbs).length=1
   ·obtain ⟨u,hu⟩:=gxE (l:=(U6 (-b).natAbs)) (i:=0) (by omega);have hue:=Qh4 hl1 hu;exact w tt Tryz.func68 rfl [.c [] (P8 (z:=b)),.f (decide_eq_false (by omega)),.t (decide_eq_true hs),.c [] (Ab (z:=a)),.c [] (Ab (z:=b)),.g 19 true (by simp only [Hk]; exact decide_eq_true (by omega)),.x (Fo hu),.f (decide_eq_false (by omega)),.c [] cg,.c [] q1,.c [] q2] rfl rfl trivial
   ·exact w tt Tryz.func68 rfl [.c [] (P8 (z:=b)),.f (decide_eq_false (by omega)),.t (decide_eq_true hs),.c [] (Ab (z:=a)),.c [] (Ab (z:=b)),.g 19 false (by simp only [Hk]; exact decide_eq_false (by omega)),.f rfl,.c [] cg,.c [] q1,.c [] q2] rfl rfl trivial
 ·subst hs;have h0:(Mk (U6 (1:Int).natAbs))[0]? = some [LV.int .i64 1]:=by rw [show (1:Int).natAbs=1 from rfl,Li]; rfl
  have h1:decide (((Mk (U6 (1:Int).natAbs)).length:Int)=1)=true:=by rw [show (1:Int).natAbs=1 from rfl,Li]; rfl
  have e:fr (Fx a 0)=ri a++ri 1:=(Qu2 a).symm;rw [e];exact w tt Tryz.func68 rfl [.c [] (P8 (z:=0)),.t rfl,.c [] (Cd (n:=1) (by decide)),.f rfl,.g 19 true h1,.x h0,.t rfl] rfl rfl trivial
 ·skip
  by_cases h1:b=1
  ·have h0:(Mk (U6 (b).natAbs))[0]? = some [LV.int .i64 1]:=by rw [h1,show (1:Int).natAbs=1 from rfl,Li]; rfl
   have hl1:decide (((Mk (U6 (b).natAbs)).length:Int)=1)=true:=by rw [h1,show (1:Int).natAbs=1 from rfl,Li]; rfl
   have e:fr (Fx a b)=ri (a)++ri (b):=by rw [Qai hs,h1]; exact (Qu2 _).symm
   rw [e];exact w tt Tryz.func68 rfl [.c [] (P8 (z:=b)),.f (decide_eq_false (by omega)),.f (decide_eq_false (by omega)),.g 19 true hl1,.x h0,.t rfl] rfl rfl trivial
  ·have hgf:=Qlg (a:=a) (b:=b) (by omega) (by first | exact ha | (rw [Ga]; exact ha)) (by first | exact hb | (rw [Ga]; exact hb));have cg:=Qhu (a:=a) (b:=b) (by first | exact ha | (rw [Ga]; exact ha)) (by first | exact hb | (rw [Ga]; exact hb));have q1:=Qdy (a:=a) (b:=((Int.gcd (a) (b):Nat):Int)) (by first | exact ha | (rw [Ga]; exact ha)) hgf.1 hgf.2.1 hgf.2.2.1;have q2:=Qdy (a:=b) (b:=((Int.gcd (a) (b):Nat):Int)) (by first | exact hb | (rw [Ga]; exact hb)) hgf.1 hgf.2.1 hgf.2.2.2;have e:fr (Fx a b)=ri ((a) / ((Int.gcd (a) (b):Nat):Int))++ri ((b) / ((Int.gcd (a) (b):Nat):Int)):=by rw [Qai hs]; exact (Qu1 (by omega)).symm
   rw [e];have hl:=Qba (b).natAbs;by_cases hl1:(U6 (b).natAbs).length=1
   ·obtain ⟨u,hu⟩:=gxE (l:=(U6 (b).natAbs)) (i:=0) (by omega);have hue:=Qh4 hl1 hu;exact w tt Tryz.func68 rfl [.c [] (P8 (z:=b)),.f (decide_eq_false (by omega)),.f (decide_eq_false (by omega)),.g 19 true (by simp only [Hk]; exact decide_eq_true (by omega)),.x (Fo hu),.f (decide_eq_false (by omega)),.c [] cg,.c [] q1,.c [] q2] rfl rfl trivial
   ·exact w tt Tryz.func68 rfl [.c [] (P8 (z:=b)),.f (decide_eq_false (by omega)),.f (decide_eq_false (by omega)),.g 19 false (by simp only [Hk]; exact decide_eq_false (by omega)),.f rfl,.c [] cg,.c [] q1,.c [] q2] rfl rfl trivial
theorem Ze0 {n d:Int} (hn:-1000000000<=n/\n<=1000000000) (hd:-1000000000<=d/\d<=1000000000):Ua Tryz.prog 112 [.one (.int .i64 n),.one (.int .i64 d)] [.agg (fr (Fx n d))]:=by
 have b1:Uj n<=90000000:=Qa (Rl.2 (show n.natAbs<2^40 by omega)) (by decide);have b2:Uj d<=90000000:=Qa (Rl.2 (show d.natAbs<2^40 by omega)) (by decide);exact w tt Tryz.func112 rfl [.c [] (Cd (by omega)),.c [] (Cd (by omega)),.c [] (O3 b1 b2)] rfl rfl trivial
theorem Zgl {a:Rat}:Ua Tryz.prog 67 [.agg (fr a)] [.agg (fr (-a))]:=by
 have e:fr (-a)=ri (-a.num)++ri (a.den:Int):=rfl;rw [e];exact w tt Tryz.func67 rfl [.c [] (Ab (z:=a.num))] rfl rfl trivial
theorem Qt2 {a b:Rat} (ha:Qs 20000000 a) (hb:Qs 20000000 b):Ua Tryz.prog 169 [.agg (fr a),.agg (fr b)] [.agg (fr (a+b))]:=by
 have k1:=Uw a.num (b.den:Int);have k2:=Uw b.num (a.den:Int);have k3:=Uw (a.den:Int) (b.den:Int);have k4:=As (a.num*(b.den:Int)) (b.num*(a.den:Int));have h1:=ha.1; have h2:=ha.2; have h3:=hb.1; have h4:=hb.2;have cm:=O3 (a:=a.num*(b.den:Int)+b.num*(a.den:Int)) (b:=(a.den:Int)*(b.den:Int)) (by omega) (by omega);rw [Qki] at cm;exact w tt Tryz.func169 rfl [.c [] (S0 (a:=a.num) (b:=(b.den:Int)) (by omega) (by omega)),.c [] (S0 (a:=b.num) (b:=(a.den:Int)) (by omega) (by omega)),.c [] (Que (by omega) (by omega)),.c [] (S0 (a:=(a.den:Int)) (b:=(b.den:Int)) (by omega) (by omega)),.c [] cm] rfl rfl trivial
theorem Qt7 {a b:Rat} (ha:Qs 40000000 a) (hb:Qs 40000000 b):Ua Tryz.prog 139 [.agg (fr a),.agg (fr b)] [.agg (fr (a*b))]:=by
 have k1:=Uw a.num b.num;have k3:=Uw (a.den:Int) (b.den:Int);have h1:=ha.1; have h2:=ha.2; have h3:=hb.1; have h4:=hb.2;have cm:=O3 (a:=a.num*b.num) (b:=(a.den:Int)*(b.den:Int)) (by omega) (by omega);rw [Qls] at cm;exact w tt Tryz.func139 rfl [.c [] (S0 (a:=a.num) (b:=b.num) (by omega) (by omega)),.c [] (S0 (a:=(a.den:Int)) (b:=(b.den:Int)) (by omega) (by omega)),.c [] cm] rfl rfl trivial
theorem Qua {a b:Rat} (ha:Qs 40000000 a) (hb:Qs 40000000 b) (h0:b≠0):Ua Tryz.prog 207 [.agg (fr a),.agg (fr b)] [.agg (fr (a / b))]:=by
 have k1:=Uw a.num (b.den:Int);have k3:=Uw (a.den:Int) b.num;have h1:=ha.1; have h2:=ha.2; have h3:=hb.1; have h4:=hb.2;have cm:=O3 (a:=a.num*(b.den:Int)) (b:=(a.den:Int)*b.num) (by omega) (by omega);rw [Qmc h0] at cm;exact w tt Tryz.func207 rfl [.c [] (S0 (a:=a.num) (b:=(b.den:Int)) (by omega) (by omega)),.c [] (S0 (a:=(a.den:Int)) (b:=b.num) (by omega) (by omega)),.c [] cm] rfl rfl trivial
theorem Cm {a b:Rat} (ha:Qs 40000000 a) (hb:Qs 40000000 b):Ua Tryz.prog 30 [.agg (fr a),.agg (fr b)] [.one (.int .i64 (Fb a b))]:=by
 have k1:=Uw a.num (b.den:Int);have k2:=Uw b.num (a.den:Int);have h1:=ha.1; have h2:=ha.2; have h3:=hb.1; have h4:=hb.2;exact w tt Tryz.func30 rfl [.c [] (S0 (a:=a.num) (b:=(b.den:Int)) (by omega) (by omega)),.c [] (S0 (a:=b.num) (b:=(a.den:Int)) (by omega) (by omega)),.c [] (Zgp (a:=a.num*(b.den:Int)) (b:=b.num*(a.den:Int)) (by omega) (by omega))] rfl rfl trivial
end Orr
namespace Orr
def Nt:List Rat->List Rat
 | []=>[]
 |
  x::l=>match Nt l with
  | []=>if x=0 then [] else [x]
  | y::k=>x::y::k
theorem Oq:∀ {l:List Rat},(∀ x∈l,x=0)->Nt l=[]
 | [],_=>rfl
 |
  x::l,h=>by
  have ih:=Oq (l:=l) (λy hy=>h y (Qj _ hy));simp [Nt,ih,h x (Qr ..)]
theorem Qjn:∀ {l:List Rat} {m:Nat} {y:Rat},(∀ j x,m<j->l[j]? = some x->x=0)->l[m]? = some y->y≠0->Nt l=l.take (m+1)
 | [],m,y,_,h,_=>by simp at h
 |
  x::l,0,y,h1,h2,h3=>by
  have h0:Nt l=[]:=Oq λz hz=>by
   obtain ⟨j,hj⟩:=Zd.1 hz;exact h1 (j+1) z (by omega) (by simpa using hj)
  simp at h2;subst h2;simp [Nt,h0,h3]
 |
  x::l,m+1,y,h1,h2,h3=>by
  have ih:=Qjn (l:=l) (m:=m) (y:=y) (λj z hj hz=>h1 (j+1) z (by omega) (by simpa using hz)) (by simpa using h2) h3;cases hl:l with
  | nil=>subst hl; simp at h2
  |
   cons u k =>
   subst hl;rw [Yk] at ih;simp only [Nt] at ih ⊢;rw [ih];simp
theorem Qe2 {l:List Rat} {m:Nat} (hm:m<=l.length) (h1:∀ j x,m<=j->l[j]? = some x->x=0) (h2:0<m->∃ y,l[m-1]? = some y/\y≠0):Nt l=l.take m:=by
 rcases Qx m with h0 | h0
 ·subst h0;rw [Oq λz hz=>?_]; rfl;obtain ⟨j,hj⟩:=Zd.1 hz;exact h1 j z (by omega) hj
 ·obtain ⟨y,hy,hy0⟩:=h2 h0;have:=Qjn (l:=l) (m:=m-1) (y:=y) (λj x hj hx=>h1 j x (by omega) hx) hy hy0;rwa [show m-1+1=m from by omega] at this
theorem Qmj:∀ (l:List Rat),∀ z∈Nt l,z∈l
 | [],z,h=>h
 |
  x::l,z,h=>by
  simp only [Nt] at h;have ih:=Qmj l
  split at h
  ·split at h
   ·cases h
   ·simp at h; simp [h]
  ·rename_i y k e;rw [e] at ih;rcases Qo.1 h with h | h
   ·simp [h]
   ·exact Qj _ (ih z h)
theorem Qmi:∀ (l:List Rat),(Nt l).length<=l.length
 | []=>Qk _
 |
  x::l=>by
  have ih:=Qmi l;simp only [Nt]
  split
  ·split <;> simp
  ·rename_i y k e;rw [e] at ih;simp at ih ⊢; omega
def zp (p:List Int):List Rat:=p.map λ(z:Int)=>(z:Rat)
theorem Nl:∀ (p:List Int),Nt (zp p)=zp (trim p)
 | []=>rfl
 |
  x::l=>by
  have ih:=Nl l;unfold zp at ih ⊢;simp only [Zw,Nt,trim,ih];cases h:trim l with
  |
   nil =>
   simp only [Jb];by_cases hx:x=0
   ·subst hx; simp
   ·have:(x:Rat)≠0:=λe=>hx (by exact_mod_cast e)
    simp [hx,this]
  | cons y k=>simp
theorem Tq (p:List Int):(zp p).length=p.length:=Q4 _
theorem Q95 {p:List Int} {i:Nat} {z:Int} (h:p[i]? = some z):(zp p)[i]? = some (z:Rat):=by simp [zp,h]
theorem Qdp (p:List Int) (i:Nat):(zp p).getD i 0=((p.getD i 0:Int):Rat):=by
 simp only [Qg,zp,Q7];cases p[i]? <;> rfl
def Rb (s:Nat) (p:List Rat):Prop:=∀ q∈p,Qs s q
theorem Rb.mono {s t:Nat} {p:List Rat} (h:Rb s p) (ht:s<=t):Rb t p:=λq hq=>(h q hq).mono ht
theorem Rb.get {s:Nat} {p:List Rat} (h:Rb s p) {i:Nat} {q:Rat} (hq:p[i]? = some q):Qs s q:=h q (Qc hq)
theorem B8 {s:Nat} {z:Int} (h:Uj z<=s) (h1:1<=s):Qs s (z:Rat):=⟨by simpa using h,Qa (show Uj ((1:Nat):Int)<=1 by decide) h1⟩
theorem Ig {s:Nat} {p:List Int} (h:Bd s p) (h1:1<=s):Rb s (zp p):=λq hq=>by
 obtain ⟨z,hz,rfl⟩:=Zk.1 hq;exact B8 (h z hz) h1
theorem Zdp {s:Nat} (h1:1<=s):Qs s 0:=B8 (z:=0) (by simp [Py]) h1
theorem Rb.getD {s:Nat} {p:List Rat} (h:Rb s p) (h1:1<=s) (i:Nat):Qs s (p.getD i 0):=by
 rw [Qg];cases e:p[i]? with
 | none=>exact Zdp h1
 | some q=>exact h.get e
theorem Rb.trim {s:Nat} {p:List Rat} (h:Rb s p):Rb s (Nt p):=λq hq=>h q (Qmj p q hq)
def Ij (f:Nat->Rat) (n:Nat):List Rat:=(List.range n).map f
theorem Qde (f:Nat->Rat) (n:Nat):(Ij f n).length=n:=by simp [Ij]
theorem Qmn (f:Nat->Rat) (n:Nat):Ij f (n+1)=Ij f n++[f n]:=by simp [Ij,Kv]
theorem Zee {s n:Nat} {f:Nat->Rat} (h:∀ i,i<n->Qs s (f i)):Rb s (Ij f n):=λq hq=>by
 obtain ⟨i,hi,rfl⟩:=Zk.1 hq;exact h i (Ka.1 hi)
theorem Qhb {f:Nat->Rat} {g:Nat->Int} (n:Nat) (h:∀ i,i<n->f i=(g i:Rat)):Ij f n=zp ((List.range n).map g):=by
 simp only [Ij,zp,List.map_map];exact Yx λi hi=>h i (Ka.1 hi)
def Q2e (p q:List Rat):List Rat:=Nt (Ij (λi=>p.getD i 0+q.getD i 0) (max p.length q.length))
def Pu (p:List Rat) (c:Rat):List Rat:=Nt (Ij (λi=>p.getD i 0*c) p.length)
def Qo2 (p:List Rat):List Rat:=Pu p (-1)
def Q8r (p q:List Rat):List Rat:=Q2e p (Qo2 q)
theorem Qz1 (p q:List Int):Q2e (zp p) (zp q)=zp (Qat p q):=by
 unfold Q2e Qat Pj;rw [Qhb (g:=λk=>p.getD k 0+q.getD k 0) _ λi _=>by rw [Qdp,Qdp,V4],Nl,Tq,Tq]
theorem Qmg (p:List Int) (c:Int):Pu (zp p) (c:Rat)=zp (Ut p c):=by
 unfold Pu Ut Pj;rw [Qhb (g:=λk=>p.getD k 0*c) _ λi _=>by rw [Qdp,Xv],Nl,Tq]
theorem Qvy (p:List Int):Ut p (-1)=S7 p:=by
 unfold Ut S7 Pj;congr 2;funext k;omega
theorem Qz4 (p:List Int):Qo2 (zp p)=zp (S7 p):=by
 rw [<-Qvy,<-Qmg]; rfl
theorem I2 {p q:List Int} (hp:Ue p) (hq:Ue q) (h:∀ k,p.getD k 0=q.getD k 0):p=q:=by
 have key:∀ {p q:List Int},Ue q->(∀ k,p.getD k 0=q.getD k 0)->q.length<=p.length:=by
  intro p q hq h;rcases Q5 p.length q.length with h1 | h1
  ·have h2:=Gq hq (by omega);rw [<-h,Qg,Qp (by omega)] at h2;exact (h2 rfl).elim
  ·exact h1
 exact Qih (V3 (key hp λk=>(h k).symm) (key hq h)) λj _=>h j
theorem Qux {n m:Nat} {f g:Nat->Int} (hn:n<=m) (h:∀ k,k<n->f k=g k) (h0:∀ k,n<=k->k<m->g k=0):Pj n f=Pj m g:=by
 refine I2 (Us _ _) (Us _ _) λk=>?_
 rw [Rh,Rh];by_cases h1:k<n
 ·rw [if_pos h1,if_pos (by omega),h k h1]
 ·rw [if_neg h1];by_cases h2:k<m
  ·rw [if_pos h2,h0 k (by omega) h2]
  ·rw [if_neg h2]
theorem Qz9 (p q:List Int):Q8r (zp p) (zp q)=zp (To p q):=by
 unfold Q8r;rw [Qz4,Qz1];congr 1;have hl:=Dq q;unfold Qat To;refine Qux (by omega) (λk _=>?_) λk h1 h2=>?_
 ·unfold S7;rw [Rh]
  split
  ·omega
  ·rename_i h;have:q.getD k 0=0:=by rw [Qg,Qp (by omega)]; rfl
   omega
 ·have h3:p.getD k 0=0:=by rw [Qg,Qp (by omega)]; rfl
  have h4:(S7 q).getD k 0=0:=by rw [Qg,Qp (by omega)]; rfl
  unfold S7 at h4;rw [Rh] at h4
  split at h4
  ·omega
  ·have:q.getD k 0=0:=by rw [Qg,Qp (by omega)]; rfl
   omega
structure Crv where
 x:List Int
 y:List Int
 d:Int
abbrev cl (k:Crv):List LV:=[pl k.x,pl k.y,sg k.d,mg k.d]
def Crv.d' (k:Crv):Int:=if k.d=0 then 1 else k.d
def Crv.g (k:Crv):Int:=if k.d'<0 then -((Gt (k.d'::(trim k.x++trim k.y)):Nat):Int) else (Gt (k.d'::(trim k.x++trim k.y)):Nat)
def Crv.norm (k:Crv):Crv:=⟨trim ((trim k.x).map (· / k.g)),trim ((trim k.y).map (· / k.g)),k.d' / k.g⟩
theorem I4 {l:List Int}:∀ z∈l,((Gt l:Nat):Int)∣z:=by
 have key:∀ (l:List Int) (g:Nat),(l.foldl (λg z=>Nat.gcd g z.natAbs) g∣g)/\∀ z∈l,l.foldl (λg z=>Nat.gcd g z.natAbs) g∣z.natAbs:=by
  intro l
  induction l with
  | nil=>intro g; exact ⟨Nat.dvd_refl _,by simp⟩
  |
   cons u l ih =>
   intro g;obtain ⟨h1,h2⟩:=ih (Nat.gcd g u.natAbs);refine ⟨Nat.dvd_trans h1 (Ki _ _),λz hz=>?_⟩;rcases Qo.1 hz with rfl | hz
   ·exact Nat.dvd_trans h1 (Wl _ _)
   ·exact h2 z hz
 intro z hz;have:=(key l 0).2 z hz;exact Wb.2 this
theorem Crv.d'_ne (k:Crv):k.d'≠0:=by unfold Crv.d'; split <;> omega
theorem Crv.gcd_ne (k:Crv):Gt (k.d'::(trim k.x++trim k.y))≠0:=by
 intro e;have h:=I4 (l:=k.d'::(trim k.x++trim k.y)) k.d' (Qr ..);rw [e] at h;exact k.d'_ne (by simpa using h)
theorem Crv.g_ne (k:Crv):k.g≠0:=by
 have h0:=k.gcd_ne;unfold Crv.g
 split <;> omega
theorem Crv.g_dvd (k:Crv):∀ z∈k.d'::(trim k.x++trim k.y),z % k.g=0:=by
 intro z hz;have h:=I4 z hz;refine Jw ?_;unfold Crv.g
 split
 ·exact W4.2 h
 ·exact h
theorem Crv.isz_g (k:Crv) {s:Nat} (h:Uj k.d'<=s):Uj k.g<=s:=by
 have hd:=I4 (l:=k.d'::(trim k.x++trim k.y)) k.d' (Qr ..);have hle:Gt (k.d'::(trim k.x++trim k.y))<=k.d'.natAbs:=Vw (by have:=k.d'_ne; omega) (Wb.1 hd);refine Qa (Hw ?_) h;unfold Crv.g
 split <;> simp <;> exact hle
structure Cs (s n:Nat) (k:Crv):Prop where
 x:Bd s k.x
 y:Bd s k.y
 d:Uj k.d<=s
 lx:k.x.length<=n
 ly:k.y.length<=n
theorem Qn0 {k:Crv} {s:Nat} (h:Uj k.d<=s) (h1:1<=s):Uj k.d'<=s:=by unfold Crv.d'; split <;> first | exact h1 | exact h
theorem Qdu {s:Nat} {p:List Int} (h:Bd s p) (g:Int):Bd s (p.map (· / g)):=λz hz=>by
 obtain ⟨u,hu,rfl⟩:=Zk.1 hz;exact Qa (I7 u g) (h u hu)
theorem Cs.norm {s n:Nat} {k:Crv} (h:Cs s n k) (h1:1<=s):Cs s n k.norm:=by
 refine ⟨Rp (Qdu (Rp h.x) _),Rp (Qdu (Rp h.y) _),Qa (I7 _ _) (Qn0 h.d h1),?_,?_⟩
 ·refine Qa (Ha _) ?_; rw [Q4]; exact Qa (Ha _) h.lx
 ·refine Qa (Ha _) ?_; rw [Q4]; exact Qa (Ha _) h.ly
theorem Cs.mono {s n t m:Nat} {k:Crv} (h:Cs s n k) (hs:s<=t) (hn:n<=m):Cs t m k:=⟨W8 h.x hs,W8 h.y hs,Qa h.d hs,Qa h.lx hn,Qa h.ly hn⟩
def Nml (k:Crv):Prop:=Ue k.x/\Ue k.y/\0<k.d/\Gt (k.d::(k.x++k.y))=1
theorem Crv.norm_of {k:Crv} (h:Nml k):k.norm=k:=by
 obtain ⟨h1,h2,h3,h4⟩:=h;have hd:k.d'=k.d:=by unfold Crv.d'; rw [if_neg (by omega)]
 have hx:trim k.x=k.x:=h1;have hy:trim k.y=k.y:=h2;have hg:k.g=1:=by unfold Crv.g; rw [hd,hx,hy,h4,if_neg (by omega)]; rfl
 unfold Crv.norm;rw [hg,hd,hx,hy];simp [hx,hy]
theorem Qns {l:List Int} {g:Int} (hg:g≠0) (hga:g.natAbs=Gt l):Gt (l.map (· / g))=1:=by
 have key:∀ (l:List Int) (a:Nat),(∀ z∈l,g∣z)->l.foldl (λa z=>Nat.gcd a z.natAbs) (a*g.natAbs)=((l.map (· / g)).foldl (λa z=>Nat.gcd a z.natAbs) a)*g.natAbs:=by
  intro l
  induction l with
  | nil=>intro a _; rfl
  |
   cons z l ih =>
   intro a h;simp only [Zw,Xi];have hz:z.natAbs=(z / g).natAbs*g.natAbs:=by
    obtain ⟨q,rfl⟩:=h z (Qr ..);rw [Xx _ hg,Jv,Ze]
   rw [hz,Nat.gcd_mul_right];exact ih _ λu hu=>h u (Qj _ hu)
 have h:=key l 0 λz hz=>Xj.1 (by rw [hga]; exact Xj.2 (I4 z hz))
 rw [Yp] at h;have h':Gt l=Gt (l.map (· / g))*g.natAbs:=h;rw [<-hga] at h';have hp:0<g.natAbs:=by omega
 exact Nat.eq_of_mul_eq_mul_right hp (by rw [W6]; exact h'.symm)
theorem D4 {l:List Int} {g:Int} (ht:Ue l) (hg:g≠0) (hd:∀ z∈l,g∣z):Ue (l.map (· / g)):=by
 induction l with
 | nil=>rfl
 |
  cons x l ih =>
  have hne:∀ z∈x::l,z≠0->z / g≠0:=λz hz h0 h1=>by
   obtain ⟨q,rfl⟩:=hd z hz;rw [Xx _ hg] at h1;rw [h1] at h0; simp at h0
  unfold Ue at ht ih ⊢;cases hl:trim l with
  |
   nil =>
   simp only [trim,hl] at ht
   split at ht
   ·cases ht
   ·rename_i hx;injection ht with _ h2;subst h2;simp [trim,hne x (Qr ..) hx]
  |
   cons y k =>
   simp only [trim,hl] at ht;injection ht with _ h2;have hll:trim l=l:=by rw [hl]; exact h2
   have ih:=ih hll λz hz=>hd z (Qj _ hz)
   rw [Zw];have hne2:l.map (· / g)≠[]:=by rw [<-hll,hl]; simp
   cases hm:l.map (· / g) with
   | nil=>exact absurd hm hne2
   |
    cons u w =>
    rw [hm] at ih;have e:trim (x / g::u::w)=match trim (u::w) with | []=>if x / g=0 then [] else [x / g] | y::k=>x / g::y::k:=rfl
    rw [e,ih]
theorem Crv.nml (k:Crv):Nml k.norm:=by
 have hg:=k.g_ne;have hdv:∀ z∈k.d'::(trim k.x++trim k.y),k.g∣z:=λz hz=>Yh (k.g_dvd z hz)
 have hx:=D4 (g:=k.g) (G0 k.x) hg λz hz=>hdv z (by simp [hz])
 have hy:=D4 (g:=k.g) (G0 k.y) hg λz hz=>hdv z (by simp [hz])
 refine ⟨G0 _,G0 _,?_,?_⟩
 ·show 0<k.d' / k.g;obtain ⟨q,hq⟩:=hdv k.d' (Qr ..);have h0:=k.d'_ne;have hgc:=k.gcd_ne;have e:k.d' / k.g=q:=by rw [hq,Xx _ hg]
  rw [e];unfold Crv.g at hq hg;have hq0:q≠0:=λe=>by rw [e,Vk] at hq; exact h0 hq
  split at hq
  ·rename_i hneg;rcases Wa hq0 with h | h
   ·have:=V1 (a:=-((Gt (k.d'::(trim k.x++trim k.y)):Nat):Int)) (b:=q) (by omega) h;omega
   ·exact h
  ·rename_i hneg;rcases Wa hq0 with h | h
   ·have:=V0 (a:=((Gt (k.d'::(trim k.x++trim k.y)):Nat):Int)) (b:=q) (by omega) h;omega
   ·exact h
 ·show Gt (k.d' / k.g::(trim ((trim k.x).map (· / k.g))++trim ((trim k.y).map (· / k.g))))=1;rw [show trim ((trim k.x).map (· / k.g))=(trim k.x).map (· / k.g) from hx,show trim ((trim k.y).map (· / k.g))=(trim k.y).map (· / k.g) from hy,<-Jz,<-Zw (f:=(· / k.g))];refine Qns hg ?_;unfold Crv.g
  split <;> omega
structure Pt where
 c:Crv
 id:Int
def Gp (p:Pt):List LV:=[pl p.c.x,pl p.c.y,sg p.c.d,mg p.c.d,.int .i64 p.id]
def pts (l:List Pt):LV:=.row (l.map Gp)
def pos:List Pt->Int->Nat
 | [],_=>0
 | p::l,id=>if p.id<id then pos l id+1 else 0
def has (l:List Pt) (id:Int):Bool:=match l[pos l id]? with
 | some p=>decide (p.id=id)
 | none=>false
theorem Q7t (l:List Pt) (id:Int):pos l id<=l.length:=by
 induction l with
 | nil=>exact Qk _
 | cons p l ih=>simp only [pos]; split <;> simp <;> omega
theorem Qvw:∀ {l:List Pt} {id:Int} {k:Nat},(∀ j p,j<k->l[j]? = some p->p.id<id)->(k=l.length\/∃ p,l[k]? = some p/\¬p.id<id)->pos l id=k
 |
  [],id,k,_,h=>by
  rcases h with h | ⟨p,h,_⟩
  ·subst h; rfl
  ·simp at h
 |
  q::l,id,0,_,h=>by
  rcases h with h | ⟨p,h,h2⟩
  ·simp at h
  ·simp at h; subst h; simp [pos,h2]
 |
  q::l,id,k+1,h1,h=>by
  have hq:=h1 0 q (by omega) rfl;simp only [pos,hq,if_true];rw [Qvw (k:=k) (λj p hj hp=>h1 (j+1) p (by omega) (by simpa using hp))];rcases h with h | ⟨p,h,h2⟩
  ·left; simpa using h
  ·right; exact ⟨p,by simpa using h,h2⟩
def put (l:List Pt) (q:Pt):List Pt:=l.take (pos l q.id)++q::l.drop (pos l q.id)
def On (l:List Pt) (q:Pt):Int:=if has l q.id=true then 6 else if 6<=l.length then 9 else 0
def Q25 (s n:Nat) (p:Pt):Prop:=Nml p.c/\Cs s n p.c
theorem Qzx (l:List Pt) (q:Pt):(put l q).length=l.length+1:=by
 have:=Q7t l q.id;simp [put]; omega
theorem Qzy {l:List Pt} {q p:Pt} (h:p∈put l q):p=q\/p∈l:=by
 unfold put at h;rcases Qz.1 h with h | h
 ·exact .inr (Qq h)
 ·rcases Qo.1 h with h | h
  ·exact .inl h
  ·exact .inr (Zh h)
def Tn:List Pt->List Pt->List Pt×Int
 | acc,[]=>(acc,0)
 | acc,q::qs=>if On acc q=0 then Tn (put acc q) qs else ([],On acc q)
def Zjx (a b:Crv):Bool:=decide (a.x=b.x/\a.y=b.y/\a.d=b.d)
def Zlz (out:List Pt) (p:Pt):List Pt:=if out.any (λq=>Zjx p.c q.c)=true then out else out++[p]
def Zpb (l:List Pt):List Pt:=l.foldl Zlz []
theorem P9 {α β:Type} (f:β->α->β) (b:β) (l:List α) {i:Nat} {x:α} (h:l[i]? = some x):(l.take (i+1)).foldl f b=f ((l.take i).foldl f b) x:=by
 rw [Vh,h]; simp [Vg]
def IsPt (s n:Nat) (z:List LV) (q:Pt):Prop:=∃ lx ly b l px py d,z=[.row lx,.row ly,.bool b,Ziu l,.int .i64 q.id]/\IsInts lx px/\IsInts ly py/\Hr (.bool b) (Ziu l) d/\Cs s n ⟨px,py,d⟩/\q.c=Crv.norm ⟨px,py,d⟩
theorem Zhm {s n:Nat} {p:Pt} (h:Q25 s n p):IsPt s n (Gp p) p:=by
 obtain ⟨b,l,h1,h2,h3,h4⟩:=Ub p.c.d;refine ⟨_,_,decide (p.c.d<0),U3 p.c.d.natAbs,_,_,p.c.d,rfl,G8 _,G8 _,Ub _,h.2,(Crv.norm_of h.1).symm⟩
def IsPts (s n:Nat):List (List LV)->List Pt->Prop
 | [],[]=>True
 | z::zs,q::qs=>IsPt s n z q/\IsPts s n zs qs
 | _,_=>False
theorem IsPts.len {s n:Nat}:∀ {zs:List (List LV)} {qs:List Pt},IsPts s n zs qs->zs.length=qs.length
 | [],[],_=>rfl
 | _::_,_::_,h=>by simp [h.2.len]
 | [],_::_,h=>h.elim
 | _::_,[],h=>h.elim
theorem IsPts.get {s n:Nat}:∀ {zs:List (List LV)} {qs:List Pt},IsPts s n zs qs->∀ {i:Nat} {q:Pt},qs[i]? = some q->∃ z,zs[i]? = some z/\IsPt s n z q
 | [],[],_,i,q,h=>by simp at h
 | z::zs,q::qs,h,0,r,hr=>by simp at hr; subst hr; exact ⟨z,rfl,h.1⟩
 | z::zs,q::qs,h,i+1,r,hr=>by simpa using h.2.get (i:=i) (by simpa using hr)
 | [],_::_,h,_,_,_=>h.elim
 | _::_,[],h,_,_,_=>h.elim
theorem Qyv {s n:Nat}:∀ {l:List Pt},(∀ p∈l,Q25 s n p)->IsPts s n (l.map Gp) l
 | [],_=>trivial
 | p::l,h=>⟨Zhm (h p (Qr ..)),Qyv λq hq=>h q (Qj _ hq)⟩
theorem IsPt.ok {s n:Nat} {z:List LV} {q:Pt} (h:IsPt s n z q) (h1:1<=s):Q25 s n q:=by
 obtain ⟨lx,ly,b,l,px,py,d,_,_,_,_,hc,e⟩:=h;unfold Q25;rw [e];exact ⟨Crv.nml _,hc.norm h1⟩
theorem Q13 (acc qs:List Pt) {i:Nat} {q:Pt} (hi:qs[i]? = some q) (h:Tn acc (qs.take i)=((Tn acc (qs.take i)).1,0)):Tn acc (qs.take (i+1))=if On (Tn acc (qs.take i)).1 q=0 then (put (Tn acc (qs.take i)).1 q,0) else ([],On (Tn acc (qs.take i)).1 q):=by
 induction qs generalizing acc i with
 | nil=>simp at hi
 |
  cons x qs ih =>
  cases i with
  | zero=>simp at hi; subst hi; simp [Tn]
  |
   succ i =>
   simp only [Yk,Tn] at h ⊢;by_cases h0:On acc x=0
   ·simp only [h0,if_true] at h ⊢;exact ih (put acc x) (by simpa using hi) h
   ·simp only [h0,if_false] at h;injection h with _ h;exact absurd h h0
theorem Q68 (acc qs:List Pt) {i:Nat} {e:Int} (he:e≠0) (h:Tn acc (qs.take i)=([],e)):Tn acc qs=([],e):=by
 induction qs generalizing acc i with
 | nil=>simp [Tn] at h; exact absurd h.2.symm he
 |
  cons x qs ih =>
  cases i with
  | zero=>simp [Tn] at h; exact absurd h.2.symm he
  |
   succ i =>
   simp only [Yk,Tn] at h ⊢;by_cases h0:On acc x=0
   ·simp only [h0,if_true] at h ⊢; exact ih _ h
   ·simp only [h0,if_false] at h ⊢; exact h
def U8 (p:List Int) (q:Rat):Int:=Mr (Zdl p q.num q.den) 0
abbrev qa (q:Rat):List LV:=pl [-q.num,(q.den:Int)]::(rl q++rl q)
def Tv (sgn:List Int->Int):Nat->List Int->Int
 | 0,_=>0
 | k+1,p=>if p.length=0 then 0 else if sgn p=0 then Tv sgn k (U7 p) else sgn p
theorem I5 (sgn:List Int->Int):∀ (k:Nat) (p:List Int),p.length<=k->Tv sgn k p=Tv sgn p.length p
 |
  0,p,h=>by
  have:p.length=0:=by omega
  rw [this]
 |
  k+1,p,h=>by
  cases hp:p.length with
  | zero=>simp [Tv,hp]
  |
   succ m =>
   simp only [Tv];have h1:=Tl p;rw [I5 sgn k (U7 p) (by omega),I5 sgn m (U7 p) (by omega)]
theorem Qfk (sgn:List Int->Int) {p:List Int} (h:p.length=0):Tv sgn p.length p=0:=by rw [h]; rfl
theorem Qfi (sgn:List Int->Int) {p:List Int} (h:0<p.length) (hs:sgn p≠0):Tv sgn p.length p=sgn p:=by
 obtain ⟨m,hm⟩:∃ m,p.length=m+1:=⟨p.length-1,by omega⟩;rw [hm]; simp only [Tv]; rw [if_neg (by omega),if_neg hs]
theorem Qfj (sgn:List Int->Int) {p:List Int} (h:0<p.length) (hs:sgn p=0):Tv sgn p.length p=Tv sgn (U7 p).length (U7 p):=by
 obtain ⟨m,hm⟩:∃ m,p.length=m+1:=⟨p.length-1,by omega⟩;rw [hm]; simp only [Tv]; rw [if_neg (by omega),if_pos hs];exact I5 sgn m _ (by have:=Tl p; omega)
structure Tm where
 p:List Int
 lo:Rat
 hi:Rat
abbrev ta (t:Tm):List LV:=pl t.p::(rl t.lo++rl t.hi)
abbrev tq (q:Rat):Tm:=⟨[-q.num,(q.den:Int)],q,q⟩
def Ms (sg:List Int->Int) (p:List Int):Int:=Tv sg p.length p
def Lx (p:List Int) (q:Rat):Int:=Ms (λp=>U8 p q) p
structure Pb (p:List Int):Prop where
 t:Ue p
 l:p.length<=64
 b:Bd 16777216 p
abbrev Qb (q:Rat):Prop:=Qs 16777216 q
abbrev Cb (k:Crv):Prop:=Cs 1048576 16 k
def Gf (a b:Crv):List Int:=To (Ut b.x a.d) (Ut a.x b.d)
def Ge (a b:Crv):List Int:=To (Ut b.y a.d) (Ut a.y b.d)
theorem Qsf {a b:Crv} (ha:Cb a) (hb:Cb b):Pb (Gf a b)/\(Gf a b).length<=16/\Bd 2097153 (Gf a b):=by
 have h1:Bd 2097153 (Gf a b):=W8 (Pg (Ur hb.x ha.d) (Ur ha.x hb.d)) (by omega);have h2:(Gf a b).length<=16:=by
  refine Qa (Ry _ _) ?_;have:=Ul b.x a.d; have:=Ul a.x b.d; have:=ha.lx; have:=hb.lx;omega
 exact ⟨⟨Us _ _,by omega,W8 h1 (by omega)⟩,h2,h1⟩
theorem Qsd {a b:Crv} (ha:Cb a) (hb:Cb b):Pb (Ge a b)/\(Ge a b).length<=16/\Bd 2097153 (Ge a b):=by
 have h1:Bd 2097153 (Ge a b):=W8 (Pg (Ur hb.y ha.d) (Ur ha.y hb.d)) (by omega);have h2:(Ge a b).length<=16:=by
  refine Qa (Ry _ _) ?_;have:=Ul b.y a.d; have:=Ul a.y b.d; have:=ha.ly; have:=hb.ly;omega
 exact ⟨⟨Us _ _,by omega,W8 h1 (by omega)⟩,h2,h1⟩
def Q7p (sg:List Int->Int) (a b:Pt):List (List Int)->Bool
 | []=>decide (a.id<b.id)
 | p::l=>if 0<p.length then decide (0<Ms sg p) else Q7p sg a b l
def Qtx (sg:List Int->Int) (a b:Pt):Bool:=Q7p sg a b [Gf a.c b.c,Ge a.c b.c]
end Orr
namespace Orr
open Go
structure Ct where
 kind:Int
 i0:Int
 i1:Int
 i2:Int
 i3:Int
 p:List Int
 want:Int
abbrev Qga (c:Ct):List LV:=[.int .i64 c.kind,.int .i64 c.i0,.int .i64 c.i1,.int .i64 c.i2,.int .i64 c.i3,pl c.p,.int .i64 c.want]
def Hu:List Int->List Int->Bool
 | x::l,y::m=>if x=y then Hu l m else decide (x<y)
 | _,_=>false
def Mm (a b:Ct):Bool:=Hu [a.kind,a.i0,a.i1,a.i2,a.i3] [b.kind,b.i0,b.i1,b.i2,b.i3]
def Oh (out:List Ct) (c:Ct):Nat->Nat
 | 0=>0
 |
  k+1=>match out[k]? with
  | some x=>if Mm c x=true then Oh out c k else k+1
  | none=>k+1
theorem Qzq (out:List Ct) (c:Ct):∀ k,Oh out c k<=k
 | 0=>Qk _
 |
  k+1=>by
  simp only [Oh]
  split
  ·split
   ·exact Nat.le_succ_of_le (Qzq out c k)
   ·exact Qk _
  ·exact Qk _
theorem Zdc {out:List Ct} {c x:Ct} {k:Nat} (hx:out[k]? = some x) (h:Mm c x=true):Oh out c (k+1)=Oh out c k:=by
 simp only [Oh,hx,h,if_true]
theorem Q7s {out:List Ct} {c x:Ct} {k:Nat} (hx:out[k]? = some x) (h:Mm c x=false):Oh out c (k+1)=k+1:=by
 simp [Oh,hx,h]
def Qbc (out:List Ct) (c:Ct):List Ct:=out.take (Oh out c out.length)++c::out.drop (Oh out c out.length)
theorem Q6n (out:List Ct) (c:Ct):(Qbc out c).length=out.length+1:=by
 have:=Qzq out c out.length;simp [Qbc]; omega
theorem Q6o {out:List Ct} {c x:Ct} (h:x∈Qbc out c):x=c\/x∈out:=by
 simp only [Qbc,Qz,Qo] at h;rcases h with h | h | h
 ·exact .inr (Qq h)
 ·exact .inl h
 ·exact .inr (Zh h)
def Gv (l:List Ct):List Ct:=l.foldl Qbc []
theorem Qwn (l:List Ct) (c:Ct):Gv (l++[c])=Qbc (Gv l) c:=by simp [Gv,Vg]
theorem Qwo {l:List Ct} {i:Nat} {c:Ct} (h:l[i]? = some c):Gv (l.take (i+1))=Qbc (Gv (l.take i)) c:=by
 rw [Xk,h]; exact Qwn _ _
theorem Qlb:∀ (l acc:List Ct),(l.foldl Qbc acc).length=acc.length+l.length
 | [],acc=>by simp
 | c::l,acc=>by simp only [Xi]; rw [Qlb l (Qbc acc c),Q6n]; simp; omega
theorem Da (l:List Ct):(Gv l).length=l.length:=by unfold Gv; rw [Qlb]; simp
theorem Qlc:∀ (l acc:List Ct) {x:Ct},x∈l.foldl Qbc acc->x∈l\/x∈acc
 | [],acc,x,h=>.inr h
 |
  c::l,acc,x,h=>by
  simp only [Xi] at h;rcases Qlc l _ h with h | h
  ·exact .inl (Qj _ h)
  ·rcases Q6o h with rfl | h
   ·exact .inl (Qr ..)
   ·exact .inr h
theorem Qe4 {l:List Ct} {x:Ct} (h:x∈Gv l):x∈l:=by
 rcases Qlc l [] h with h | h
 ·exact h
 ·cases h
theorem Q6q {α:Type} (l:List α) (z x:α) {k m':Nat} (hk:k<=l.length) (hm:m'=l.length-k) :
 ((l++[z]).take (k+1)++((l++[z]).drop k).take m'++(l++[z]).drop (k+1+m')).set k x=l.take k++x::l.drop k:=by
 subst hm;have e1:((l++[z]).drop k).take (l.length-k)=l.drop k:=by
  rw [List.drop_append_of_le_length hk,Yg (by simp),Qn (by simp)]
 have e2:(l++[z]).drop (k+1+(l.length-k))=[]:=Y9 (by simp; omega);rw [e1,e2,Xh];have e3:(l++[z]).take (k+1)=(l++[z]).take k++[(l++[z])[k]'(by simp; omega)]:=by rw [List.take_succ_eq_append_getElem]
 rw [e3,Yg hk,Zu,List.set_append,if_neg (by simp; omega)];simp [Zs hk]
end Orr
namespace Orr
open Go Go.Proofs
set_option maxRecDepth 10000
abbrev pr (p:List Int):TV:=.one (pl p)
theorem Sj {p:List Int} {i:Nat} {z:Int} (h:p[i]? = some z):(p.map Gh)[i]? = some (Gh z):=G9 h
theorem Qhv (p:List Int):Ua Tryz.prog 206 [pr p] [pr (trim p)]:=by
 refine Gu Tryz.func206 rfl (ln 0 rfl rfl λhl=>?_);rw [Q4] at hl;refine go tt [] rfl trivial ?_;refine lp (S:=Nat) 0 (λL1 n=>(3,.v (.one (.int .i64 (n:Int))))::L1) (λ_=>[]) id (λn=>n<=p.length/\∀ j x,n<=j->p[j]? = some x->x=0) (p.map Gh).length ⟨by simp,λj x h1 h2=>by
  have:=(Qf.1 h2).1; simp at h1; omega⟩ rfl (λ_ _=>rfl) rfl λn ⟨h1,h2⟩=>?_
 cases n with
 | zero=>exact en tt [.f (by simp),.f rfl,.i 0] rfl (by rw [Qte h1 h2 (λh=>by omega)]; simp [pl]) (by simp [W9])
 |
  succ n =>
  obtain ⟨x,hx⟩:=gxE (l:=p) (i:=n) (by omega);by_cases h0:x=0
  ·refine go tt [.t (by simp),.r 11 (v:=.one (.int .i64 (n:Int))) (by simp),.x (Sj hx),.c [] Ls,.t (by simp [h0]),.r 17 (v:=.one (.int .i64 (n:Int))) (by simp)] rfl (by simp [W9]; omega) ?_;exact rd n (by simp) ⟨by omega,λj y h3 h4=>by
    rcases Y4 h3 with rfl | h3
    ·rw [hx] at h4; injection h4 with h4; rw [<-h4,h0]
    ·exact h2 j y h3 h4⟩ rfl
  ·exact en tt [.t (by simp),.r 11 (v:=.one (.int .i64 (n:Int))) (by simp),.x (Sj hx),.c [] Ls,.f (by simp [h0]),.i (n+1)] rfl (by rw [Qte h1 h2 (λ_=>⟨x,hx,h0⟩)]; simp [pl,Ys]) (by simp [W9] <;> omega)
theorem Qxt (p:List Int) (k:Nat):Ua Tryz.prog 279 [pr p,.one (.int .i64 (k:Int))] [.agg (Gh (p.getD k 0))]:=by
 by_cases h:k<p.length
 ·have hx:=Qd h;have e:p.getD k 0=p[k]:=by simp [List.getD,hx]
  rw [e];exact w tt Tryz.func279 rfl [.t (by simp; omega),.x (Sj hx)] rfl rfl trivial
 ·have e:p.getD k 0=0:=by simp [List.getD,Qp (Jg h)]
  rw [e,Du];exact w tt Tryz.func279 rfl [.f (by simp; omega)] rfl rfl trivial
def fil (f:Nat->List LV) (z:List LV) (n k:Nat):List (List LV):=(List.range n).map λi=>if i<k then f i else z
theorem Ll (f:Nat->List LV) (z:List LV) (n k:Nat):(fil f z n k).length=n:=by simp [fil]
theorem Dl (f:Nat->List LV) (z:List LV) (n:Nat):List.replicate n z=fil f z n 0:=by
 refine Xt λi=>?_
 simp only [fil,Jx,Q7];by_cases h:i<n
 ·simp [h]
 ·simp [h]
theorem An (f:Nat->List LV) (z:List LV) (n:Nat):fil f z n n=(List.range n).map f:=by
 refine Yx λi hi=>?_
 rw [if_pos (Ka.1 hi)]
theorem Ao (f:Nat->List LV) (z:List LV) {n k:Nat} (h:k<n):(fil f z n k).set k (f k)=fil f z n (k+1):=by
 refine Xt λi=>?_
 rw [Yf];simp only [fil,Q7,Q4,List.length_range,h,if_true];by_cases e:k=i
 ·subst e; simp [h]
 ·simp only [e,if_false];by_cases hi:i<n
  ·simp only [X2 hi,Y6];congr 1;by_cases h2:i<k
   ·rw [if_pos h2,if_pos (by omega)]
   ·rw [if_neg h2,if_neg (by omega)]
  ·simp [Qp,hi]
theorem Qm6 {n fid:Nat} {l1 l2:List LV} {g:Nat->Int} (hn:n<274877906944) (h:∀ k,k<n->Ua Tryz.prog fid [.one (.int .i64 (k:Int)),.one (.sh l1),.one (.sh l2)] [.agg (Gh (g k))]):Ua Tryz.prog 246 [.one (.int .i64 (n:Int)),.one (.fn fid [] [.sh l1,.sh l2])] [pr (Pj n g)]:=by
 refine Gu Tryz.func246 rfl ?_;refine go tt [.i n,.i n,.r 10 (eI (b:=(n:Int)) (by simp))] rfl (by simp [W9]; omega) ?_;rw [Dl λk=>Gh (g k)];refine lp (S:=Nat) 1 (λL1 k=>(11,.v (.one (.int .i64 (k:Int))))::L1) (λk=>[.row false 51 2 (fil (λk=>Gh (g k)) [.bool false,.nils] n k)]) (λk=>n-k) (λk=>k<=n) 0 (Qi _) rfl (λ_ _=>rfl) rfl λk hk=>?_
 by_cases hlt:k<n
 ·refine go tt [.t (by simp; omega),.c [] (h k hlt),.i k] rfl (by simp [W9,Ll]; omega) ?_;have e:=Ao (λk=>Gh (g k)) [.bool false,.nils] hlt;rw [e];exact rd (k+1) (by omega) hlt rfl
 ·obtain rfl:k=n:=by omega
  have e:fil (λk=>Gh (g k)) [.bool false,.nils] k k=((List.range k).map g).map Gh:=by rw [An]; simp
  rw [e];exact en tt [.f (by simp),.c [] (Qhv _)] rfl rfl trivial
theorem Qxq {n fid:Nat} {l1:List LV} {g:Nat->Int} (hn:n<274877906944) (h:∀ k,k<n->Ua Tryz.prog fid [.one (.int .i64 (k:Int)),.one (.sh l1)] [.agg (Gh (g k))]):Ua Tryz.prog 246 [.one (.int .i64 (n:Int)),.one (.fn fid [] [.sh l1])] [pr (Pj n g)]:=by
 refine Gu Tryz.func246 rfl ?_;refine go tt [.i n,.i n,.r 10 (eI (b:=(n:Int)) (by simp))] rfl (by simp [W9]; omega) ?_;rw [Dl λk=>Gh (g k)];refine lp (S:=Nat) 1 (λL1 k=>(11,.v (.one (.int .i64 (k:Int))))::L1) (λk=>[.row false 51 2 (fil (λk=>Gh (g k)) [.bool false,.nils] n k)]) (λk=>n-k) (λk=>k<=n) 0 (Qi _) rfl (λ_ _=>rfl) rfl λk hk=>?_
 by_cases hlt:k<n
 ·refine go tt [.t (by simp; omega),.c [] (h k hlt),.i k] rfl (by simp [W9,Ll]; omega) ?_;have e:=Ao (λk=>Gh (g k)) [.bool false,.nils] hlt;rw [e];exact rd (k+1) (by omega) hlt rfl
 ·obtain rfl:k=n:=by omega
  have e:fil (λk=>Gh (g k)) [.bool false,.nils] k k=((List.range k).map g).map Gh:=by rw [An]; simp
  rw [e];exact en tt [.f (by simp),.c [] (Qhv _)] rfl rfl trivial
theorem Zgd {p q:List Int} (k:Nat) (hp:Bd 4294967295 p) (hq:Bd 4294967295 q):Ua Tryz.prog 285 [.one (.int .i64 (k:Int)),.one (.sh [pl p]),.one (.sh [pl q])] [.agg (Gh (p.getD k 0+q.getD k 0))] :=
 w tt Tryz.func285 rfl [.c [] (Qxt p k),.c [] (Qxt q k),.c [] (Qa5 (Ub _) (Ub _) (Um hp k) (Um hq k))] rfl rfl trivial
theorem Zgn {p q:List Int} (k:Nat) (hp:Bd 4294967295 p) (hq:Bd 4294967295 q):Ua Tryz.prog 278 [.one (.int .i64 (k:Int)),.one (.sh [pl p]),.one (.sh [pl q])] [.agg (Gh (p.getD k 0-q.getD k 0))] :=
 w tt Tryz.func278 rfl [.c [] (Qxt p k),.c [] (Qxt q k),.c [] (Q4d (Ub _) (Ub _) (Um hp k) (Um hq k))] rfl rfl trivial
theorem Hn {p:List Int} {k:Nat} (h:k<p.length):p[k]? = some (p.getD k 0):=by simp [List.getD,Qd h]
theorem Q37 {p:List Int} {c:Int} {k:Nat} (hk:k<p.length) (hp:Bd 4294967295 p) (hc:Uj c<=4294967295):Ua Tryz.prog 247 [.one (.int .i64 (k:Int)),.one (.sh [pl p]),.one (.sh (Gh c))] [.agg (Gh (p.getD k 0*c))] :=
 w tt Tryz.func247 rfl [.x (Sj (Hn hk)),.c [] (Mw (Ub _) (Ub _) (Um hp k) hc)] rfl rfl trivial
theorem Zgk {p:List Int} {k:Nat} (hk:k<p.length) (hp:Bd 4294967295 p):Ua Tryz.prog 333 [.one (.int .i64 (k:Int)),.one (.sh [pl p])] [.agg (Gh (-(p.getD k 0)))] :=
 w tt Tryz.func333 rfl [.x (Sj (Hn hk)),.c [] (Qho (Ub _) (Um hp k))] rfl rfl trivial
theorem Q0t {p:List Int} {k:Nat} (hk:k+1<p.length) (hl:p.length<274877906944) (hp:Bd 4294967295 p):Ua Tryz.prog 303 [.one (.int .i64 (k:Int)),.one (.sh [pl p])] [.agg (Gh (p.getD (k+1) 0*((k+1:Nat):Int)))] :=
 w tt Tryz.func303 rfl [.x (Sj (Hn hk)),.r 10 (eI (b:=((k+1:Nat):Int)) (by omega)),.c [] (Qt8 (by omega)),.c [] (Mw (Ub _) (Ub _) (Um hp _) (Q1t (show k+1<274877906944 by omega)))] rfl rfl (by simp [W9] <;> omega)
theorem Q3x {p q:List Int} (hlp:p.length<274877906944) (hlq:q.length<274877906944) (hp:Bd 4294967295 p) (hq:Bd 4294967295 q):Ua Tryz.prog 241 [pr p,pr q] [pr (Qat p q)] :=
 w tt Tryz.func241 rfl [.r 9 (eI (b:=((max p.length q.length:Nat):Int)) (by simp; omega)),.c [] (Qm6 (by omega) λk _=>Zgd k hp hq)] rfl rfl trivial
theorem Qhq {p q:List Int} (hlp:p.length<274877906944) (hlq:q.length<274877906944) (hp:Bd 4294967295 p) (hq:Bd 4294967295 q):Ua Tryz.prog 231 [pr p,pr q] [pr (To p q)] :=
 w tt Tryz.func231 rfl [.r 9 (eI (b:=((max p.length q.length:Nat):Int)) (by simp; omega)),.c [] (Qm6 (by omega) λk _=>Zgn k hp hq)] rfl rfl trivial
theorem Q30 {p:List Int} (hlp:p.length<274877906944) (hp:Bd 4294967295 p):Ua Tryz.prog 307 [pr p] [pr (S7 p)] :=
 w tt Tryz.func307 rfl [.r 4 (eI (b:=(p.length:Int)) (by simp)),.c [] (Qxq hlp λk hk=>Zgk hk hp)] rfl rfl trivial
theorem Bv {p:List Int} {c:Int} (hlp:p.length<274877906944) (hp:Bd 4294967295 p) (hc:Uj c<=4294967295):Ua Tryz.prog 186 [pr p,.agg (Gh c)] [pr (Ut p c)] :=
 w tt Tryz.func186 rfl [.r 6 (eI (b:=(p.length:Int)) (by simp)),.c [] (Qm6 hlp λk hk=>Q37 hk hp hc)] rfl rfl trivial
theorem Ef {p:List Int} (hlp:p.length<274877906944) (hp:Bd 4294967295 p):Ua Tryz.prog 265 [pr p] [pr (U7 p)] :=
 w tt Tryz.func265 rfl [.r 6 (eI (b:=((p.length-1:Nat):Int)) (by simp; omega)),.c [] (Qxq (by omega) λk hk=>Q0t (by omega) hlp hp)] rfl rfl (by simp [W9]; omega)
theorem Cj {ls:List (List LV)} {p:List Int} (hi:IsInts ls p) (hl:p.length<274877906944) (hs:Bd 4294967295 p):Ua Tryz.prog 153 [.one (.row ls)] [pr (trim p)]:=by
 refine Gu Tryz.func153 rfl ?_;have hlen:=hi.len;refine go tt [.i ls.length,.i ls.length] rfl (by simp [W9]; omega) ?_;rw [Dl λk=>Gh (p.getD k 0)];refine lp (S:=Nat) 1 (λL1 k=>(11,.v (.one (.int .i64 (k:Int))))::L1) (λk=>[.row false 51 2 (fil (λk=>Gh (p.getD k 0)) [.bool false,.nils] ls.length k)]) (λk=>ls.length-k) (λk=>k<=ls.length) 0 (Qi _) rfl (λ_ _=>rfl) rfl λk hk=>?_
 by_cases hlt:k<ls.length
 ·obtain ⟨x,y,hx,hxy⟩:=hi.get (Hn (p:=p) (k:=k) (by omega));have cn:=Ck hxy (Um hs k);obtain ⟨b,l,rfl,rfl,_⟩:=hxy;refine go tt [.t (by simp; omega),.x hx,.c [] cn,.i k] rfl (by simp [W9,Ll]; omega) ?_;have e:=Ao (λk=>Gh (p.getD k 0)) [.bool false,.nils] hlt;rw [e];exact rd (k+1) (by omega) hlt rfl
 ·obtain rfl:k=ls.length:=by omega
  have e:fil (λk=>Gh (p.getD k 0)) [.bool false,.nils] ls.length ls.length=p.map Gh:=by
   rw [An,hlen];refine Xt λi=>?_
   by_cases hi:i<p.length
   ·simp [X2 hi,List.getD,Qd hi]
   ·simp [Qp,hi]
  rw [e];exact en tt [.f (by simp),.c [] (Qhv _)] rfl rfl trivial
theorem Hm {p:List Int} (ht:Ue p) (hl:p.length<274877906944) (hs:Bd 4294967295 p):Ua Tryz.prog 153 [pr p] [pr p]:=by
 have:=Cj (G8 p) hl hs;rw [ht] at this; exact this
theorem Zcg {p:List Int} {i:Nat} {z:Int} (h:p[i]? = some z):(p.map λ(x:Int)=>[LV.int .i64 x])[i]? = some [.int .i64 z]:=G9 h
theorem Q31 {p:List Int} (hl:p.length<274877906944) (hr:∀ z∈p,-9223372036854775808≤z/\z≤9223372036854775807):Ua Tryz.prog 146 [.one (ids p)] [pr (trim p)]:=by
 refine Gu Tryz.func146 rfl ?_;refine go tt [.r 7 (eI (b:=(p.length:Int)) (by simp)),.i p.length,.i p.length,.r 10 (eI (b:=(p.length:Int)) (by simp))] rfl (by simp [W9]; omega) ?_;rw [Dl λk=>Gh (p.getD k 0)];refine lp (S:=Nat) 1 (λL1 k=>(11,.v (.one (.int .i64 (k:Int))))::L1) (λk=>[.row false 51 2 (fil (λk=>Gh (p.getD k 0)) [.bool false,.nils] p.length k)]) (λk=>p.length-k) (λk=>k<=p.length) 0 (Qi _) rfl (λ_ _=>rfl) rfl λk hk=>?_
 by_cases hlt:k<p.length
 ·have hg:=Hn hlt;refine go tt [.t (by simp; omega),.x (Zcg hg),.c [] (Qt8 (hr _ (Qc hg))),.i k] rfl (by simp [W9,Ll]; omega) ?_;have e:=Ao (λk=>Gh (p.getD k 0)) [.bool false,.nils] hlt;rw [e];exact rd (k+1) (by omega) hlt rfl
 ·obtain rfl:k=p.length:=by omega
  have e:fil (λk=>Gh (p.getD k 0)) [.bool false,.nils] p.length p.length=p.map Gh:=by
   rw [An];refine Xt λi=>?_
   by_cases hi:i<p.length
   ·simp [X2 hi,List.getD,Qd hi]
   ·simp [Qp,hi]
  rw [e];exact en tt [.f (by simp),.c [] (Qhv _)] rfl rfl trivial
theorem Qvs (l:List Int) (i:Nat) (z:Int):(l.map Gh).set i (Gh z)=(l.set i z).map Gh:=by rw [Vm]
theorem Qg4 (m:Nat):((List.replicate m [LV.bool false,LV.nils]).map λc=>c.map Qcq)=(List.replicate m (0:Int)).map Gh:=by
 simp [Du,Qcq]
theorem Qm1 {p0 q:List Int} {s t:Nat} (tq:Ue q) (hlp:p0.length<137438953472) (hlq:q.length<137438953472) (hp:Bd s p0) (hq:Bd t q) (hst:s+t<=4294967000):Ua Tryz.prog 242 [pr p0,pr q] [pr (Ff (trim p0) q)]:=by
 have cp:=Cj (G8 p0) (by omega) (W8 hp (show s<=4294967295 by omega));have hp:=Rp hp;have hlp:=Zy (Ha p0) hlp;obtain ⟨p,ep⟩:=nmE (trim p0);rw [<-ep] at cp hp hlp ⊢;have cq:=Hm tq (by omega) (W8 hq (show t<=4294967295 by omega));by_cases h0:p.length=0
 ·have e:Ff p q=[]:=by unfold Ff; rw [if_pos (.inl h0)]
  rw [e];exact w tt Tryz.func242 rfl [.c [] cp,.c [] cq,.t (by simp; exact Qh h0),.t rfl] rfl rfl trivial
 by_cases h1:q.length=0
 ·have e:Ff p q=[]:=by unfold Ff; rw [if_pos (.inr h1)]
  rw [e];exact w tt Tryz.func242 rfl [.c [] cp,.c [] cq,.f (by simp; intro h; subst h; simp at h0),.t (by simp; exact Qh h1)] rfl rfl trivial
 refine Gu Tryz.func242 rfl ?_;have e:Ff p q=trim (M5 p q (List.replicate (p.length+q.length-1) 0) p.length):=by unfold Ff; rw [if_neg (by omega)]
 rw [e];obtain ⟨N,hN⟩:=nmE (p.length+q.length-1);rw [<-hN];obtain ⟨o,ho⟩:=nmE (List.replicate N (0:Int));rw [<-ho];have hol:o.length=N:=by rw [ho]; simp
 have ho0:∀ m,o.getD m 0=0:=λm=>by rw [ho]; exact Ho N m
 refine go tt [.c [] cp,.c [] cq,.f (by simp; intro h; subst h; simp at h0),.f (by simp; intro h; subst h; simp at h1),.r 27 (eI (b:=(N:Int)) (by simp; omega)),.i N,.i N] rfl (by simp [W9]; omega) ?_;refine nl 0 rfl rfl rfl ?_;rw [Qg4,<-ho];refine lp (S:=Nat) 1 (λL1 i=>(31,.v (.one (.int .i64 (i:Int))))::L1) (λi=>[.row false 51 2 ((M5 p q o i).map Gh)]) (λi=>p.length-i) (λi=>i<=p.length) 0 (Qi _) rfl (λ_ _=>rfl) rfl λi hi=>?_
 by_cases hlt:i<p.length
 ·refine go tt [.t (by simp; omega),.x (Sj (Hn hlt))] rfl trivial ?_;refine lp (S:=Nat) 2 (λL1 k=>(38,.v (.one (.int .i64 (k:Int))))::L1) (λk=>[.row false 51 2 ((Eo (p.getD i 0) q i (M5 p q o i) k).map Gh),.blk 51 (Gh (p.getD i 0))]) (λk=>q.length-k) (λk=>k<=q.length) 0 (Qi _) rfl (λ_ _=>rfl) rfl λk hk=>?_
  by_cases hk2:k<q.length
  ·have hm1:Uj ((Eo (p.getD i 0) q i (M5 p q o i) k).getD (i+k) 0)<=4294967295:=Qa (Ly (t:=39) (Qoe (by rw [M6]; omega) (Qod (λj hj=>by omega) ho0 (λi j=>P0 (Um hp i) (Um hq j))) (λj=>P0 (Um hp i) (Um hq j)) (i+k)) (V7 (show i+1<549755813888 by omega) (by decide))) (by omega);have hm2:Uj (p.getD i 0*q.getD k 0)<=4294967295:=Qa (Uw _ _) (by have:=Um hp i; have:=Um hq k; omega);have hg:(Eo (p.getD i 0) q i (M5 p q o i) k)[i+k]? = some ((Eo (p.getD i 0) q i (M5 p q o i) k).getD (i+k) 0):=Hn (by rw [Ep,M6]; omega);refine go tt [.t (by simp; omega),.x (Sj (Hn hk2)),.i (i+k),.x (Sj hg),.c [] (Mw (Ub _) (Ub _) (Qa (Um hp i) (by omega)) (Qa (Um hq k) (by omega))),.c [] (Qa5 (Ub _) (Ub _) hm1 hm2),.i (i+k)] rfl (by simp [W9,Ep,M6] <;> omega) ?_;rw [Qvs];exact rd (k+1) (by omega) hk2 rfl
  ·obtain rfl:k=q.length:=by omega
   exact go tt [.f (by simp)] rfl (by simp [W9]; omega) (rd (i+1) (by omega) hlt rfl)
 ·obtain rfl:i=p.length:=by omega
  exact en tt [.f (by simp),.c [] (Qhv _)] rfl rfl trivial
theorem Qt9 {p q:List Int} {s t:Nat} (tp:Ue p) (tq:Ue q) (hlp:p.length<137438953472) (hlq:q.length<137438953472) (hp:Bd s p) (hq:Bd t q) (hst:s+t<=4294967000):Ua Tryz.prog 242 [pr p,pr q] [pr (Ff p q)]:=by
 have h:=Qm1 tq hlp hlq hp hq hst;rw [show trim p=p from tp] at h;exact h
theorem Za1 {p q:List Int} (hlp:p.length<274877906944) (hlq:q.length<274877906944) (hp:Bd 4294967295 p) (hq:Bd 4294967295 q):Ua Tryz.prog 274 [pr p,pr q] [.one (.bool (decide (trim p=trim q)))]:=by
 refine Gu Tryz.func274 rfl ?_;have cp:=Cj (G8 p) hlp hp;have cq:=Cj (G8 q) hlq hq;have bp:=Rp hp;have bq:=Rp hq;have l1:=Ha p;have l2:=Ha q;obtain ⟨a,ha⟩:=nmE (trim p);obtain ⟨b,hb⟩:=nmE (trim q);rw [<-ha] at cp bp l1 ⊢;rw [<-hb] at cq bq l2 ⊢;by_cases hl:a.length=b.length
 ·refine go tt [.c [] cp,.c [] cq,.f (by simp; omega)] rfl trivial ?_;refine lp (S:=Nat) 0 (λL1 i=>(18,.v (.one (.int .i64 (i:Int))))::L1) (λ_=>[]) (λi=>a.length-i) (λi=>i<=a.length/\a.take i=b.take i) 0 ⟨Qi _,rfl⟩ rfl (λ_ _=>rfl) rfl λi ⟨hi,he⟩=>?_
  by_cases hlt:i<a.length
  ·have ga:=Hn hlt;have gb:=Hn (p:=b) (k:=i) (by omega);have cc:=Qht (Ub (a.getD i 0)) (Ub (b.getD i 0)) (Um bp i) (Um bq i);by_cases hz:a.getD i 0=b.getD i 0
   ·refine go tt [.t (by simp; omega),.x (Sj ga),.x (Sj gb),.c [] cc,.f (by simpa using Qx6.2 hz)] rfl (by simp [W9]; omega) ?_;exact rd (i+1) (by omega) ⟨hlt,by rw [Vh,Vh,he,ga,gb,hz]⟩ rfl
   ·exact en tt [.t (by simp; omega),.x (Sj ga),.x (Sj gb),.c [] cc,.t (by have:=mt Qx6.1 hz; simpa using this)] rfl (by rw [decide_eq_false]; intro h; exact hz (by rw [h])) trivial
  ·obtain rfl:i=a.length:=by omega
   rw [Q8,hl,Q8] at he;exact en tt [.f (by simp)] rfl (by rw [decide_eq_true he]) trivial
 ·exact en tt [.c [] cp,.c [] cq,.t (by simp; omega)] rfl (by rw [decide_eq_false]; intro h; exact hl (by rw [h])) trivial
theorem Q33 {p:List Int} {n d:Int} {s t:Nat} (hl:p.length<274877906944) (hp:Bd s p) (hn:Uj n<=t) (hd:Uj d<=t) (hst:s+p.length*(t+1)+2*t+10<=4294967295):Ua Tryz.prog 264 [pr p,.agg (Gh n),.agg (Gh d)] [.agg (Gh (Zdl p n d))]:=by
 refine Gu Tryz.func264 rfl ?_;refine go tt [.c [] (Qt8 (z:=1) (by decide)),.r 13 (eI (b:=(p.length:Int)-1-((0:Nat):Int)) (by simp))] rfl (by simp [W9]; omega) ?_;refine nlb 3 rfl rfl rfl ?_;have e0:[LV.bool false,LV.nils].map Qcq=Gh (Pd p n d 0).1:=by simp [Qcq,Pd,Du]
 rw [e0];refine lp (S:=Nat) 5 (λL1 j=>(9,.v (.one (.int .i64 ((p.length:Int)-1-(j:Int)))))::L1) (λj=>[.blk 51 (Gh n),.blk 51 (Gh d),.blk 51 [.bool false,.nils],.blk 51 (Gh (Pd p n d j).1),.blk 51 (Gh (Pd p n d j).2)]) (λj=>p.length-j) (λj=>j<=p.length) 0 (Qi _) rfl (λ_ _=>rfl) rfl λj hj=>?_
 have hv:=Qpn (k:=j) hp hn hd;have hjl:j*(t+1)<=p.length*(t+1):=Qw _ (by omega);have hjl2:j*t<=j*(t+1):=Zg _ (by omega);by_cases hlt:j<p.length
 ·have hc:=Um hp (p.length-1-j);have hm1:Uj ((Pd p n d j).1*n)<=4294967295:=Qa (Uw _ _) (by omega);have hm2:Uj (p.getD (p.length-1-j) 0*(Pd p n d j).2)<=4294967295:=Qa (Uw _ _) (by omega);refine go tt [.t (by simp; omega),.c [] (Mw (Ub _) (Ub _) (by omega) (by omega)),.r 22 (eI (b:=((p.length-1-j:Nat):Int)) (by omega)),.x (Sj (Hn (p:=p) (k:=p.length-1-j) (by omega))),.c [] (Mw (Ub _) (Ub _) (by omega) (by omega)),.c [] (Qa5 (Ub _) (Ub _) hm1 hm2),.c [] (Mw (Ub _) (Ub _) (by omega) (by omega)),.r 17 (eI (b:=(p.length:Int)-1-((j+1:Nat):Int)) (by omega))] rfl (by simp [W9] <;> omega) ?_;exact rd (j+1) (by omega) hlt rfl
 ·obtain rfl:j=p.length:=by omega
  exact en tt [.f (by simp; omega)] rfl rfl trivial
theorem Bj {p:List Int} (tp:Ue p) (hl:p.length<274877906944) (hp:Bd 4294967295 p):Ua Tryz.prog 306 [pr p] [.agg (Gh (p.getD (p.length-1) 0))]:=by
 have cn:=Hm tp hl hp;by_cases h0:p=[]
 ·subst h0;exact w tt Tryz.func306 rfl [.c [] cn,.t (by simp)] rfl (by simp [Du]) trivial
 ·have hpl:0<p.length:=Jq.2 h0;exact w tt Tryz.func306 rfl [.c [] cn,.f (by simpa using h0),.r 12 (eI (b:=((p.length-1:Nat):Int)) (by simp; omega)),.x (Sj (Hn (by omega)))] rfl rfl (by simp [W9]; omega)
theorem Zfs {a b:Int} {q:Rat} (h1:a=q.num) (h2:b=(q.den:Int)):[sg a,mg a,sg b,mg b]=rl q:=by rw [h1,h2]
theorem Is {n d:Int} (h0:d≠0) (hn:Uj n<=4294967295) (hd:Uj d<=4294967295):Ua Tryz.prog 225 [.agg (Gh n),.agg (Gh d)] [.agg (rl (Rat.divInt n d))]:=by
 have cg:=Q3q (G8 [n,d]) (λz hz=>by simp at hz; rcases hz with rfl | rfl <;> assumption);have gp:=Qq9 (n:=n) h0;have gs:=Qyx (n:=n) h0 hd;have m1:=Qir n d;have m2:=Qis n d;obtain ⟨g,hg⟩:=nmE (((Gt [n,d]:Nat):Int));rw [<-hg] at cg gp gs m1 m2;by_cases hneg:d<0
 ·obtain ⟨e1,e2⟩:=Zct (n:=n) hneg;rw [<-hg] at e1 e2;rw [<-Zfs e1 e2];exact w tt Tryz.func225 rfl [.c [] cg,.t (by simpa using hneg),.c [] (Qho (Ub n) hn),.c [] (Qho (Ub d) hd),.c [] (D7 (Ub _) (Ub _) (by rw [Ga]; exact hn) gs (by omega) (Qzg m1)),.c [] (D7 (Ub _) (Ub _) (by rw [Ga]; exact hd) gs (by omega) (Qzg m2))] rfl rfl trivial
 ·obtain ⟨e1,e2⟩:=Qn9 (n:=n) (d:=d) (by omega);rw [<-hg] at e1 e2;rw [<-Zfs e1 e2];exact w tt Tryz.func225 rfl [.c [] cg,.f (by simpa using hneg),.c [] (D7 (Ub _) (Ub _) hn gs (by omega) m1),.c [] (D7 (Ub _) (Ub _) hd gs (by omega) m2)] rfl rfl trivial
theorem Qgj {x y x' y':LV} {n d:Int} (h1:Hr x y n) (h2:Hr x' y' d) (hn:Uj n<=4294967295) (hd:Uj d<=4294967295):Ua Tryz.prog 172 [.agg [x,y,x',y']] [.agg (rl (Fx n d))]:=by
 have c1:=Ck h1 hn;have c2:=Ck h2 hd;obtain ⟨b,l,rfl,rfl,_⟩:=h1;obtain ⟨b',l',rfl,rfl,_⟩:=h2;by_cases h0:d=0
 ·have e:Fx n d=Rat.divInt n 1:=by unfold Fx; rw [if_pos h0]
  rw [e];exact w tt Tryz.func172 rfl [.c [] c2,.c [] Ls,.t (by simpa using h0),.c [] (Qt8 (z:=1) (by decide)),.c [] c1,.c [] (Is (by decide) hn (by decide))] rfl rfl trivial
 ·have e:Fx n d=Rat.divInt n d:=by unfold Fx; rw [if_neg h0]
  rw [e];exact w tt Tryz.func172 rfl [.c [] c2,.c [] Ls,.f (by simpa using h0),.c [] c1,.c [] (Is h0 hn hd)] rfl rfl trivial
theorem Qh0 {q:Rat} (hq:Qs 4294967295 q):Ua Tryz.prog 172 [.agg (rl q)] [.agg (rl q)]:=by
 have:=Qgj (Ub q.num) (Ub (q.den:Int)) hq.1 hq.2;rwa [Az] at this
theorem Qm5 {a b:Rat} (ha:Qs 2147483647 a) (hb:Qs 2147483647 b):Ua Tryz.prog 213 [.agg (rl a),.agg (rl b)] [.agg (Gh (a.num*(b.den:Int))),.agg (Gh (b.num*(a.den:Int))),.agg (Gh ((a.den:Int)*(b.den:Int)))] :=
 w tt Tryz.func213 rfl [.c [] (Qh0 (ha.mono (by decide))),.c [] (Qh0 (hb.mono (by decide))),.c [] (Mw (Ub _) (Ub _) (Qa ha.1 (by decide)) (Qa hb.2 (by decide))),.c [] (Mw (Ub _) (Ub _) (Qa hb.1 (by decide)) (Qa ha.2 (by decide))),.c [] (Mw (Ub _) (Ub _) (Qa ha.2 (by decide)) (Qa hb.2 (by decide)))] rfl rfl trivial
theorem De {a b:Rat} (ha:Qs 2147483647 a) (hb:Qs 2147483647 b):Ua Tryz.prog 159 [.agg (rl a),.agg (rl b)] [.one (.int .i64 (Fb a b))] :=
 w tt Tryz.func159 rfl [.c [] (Qm5 ha hb),.c [] (Qht (Ub _) (Ub _) (Qa (Uw _ _) (by have:=ha.1; have:=hb.2; omega)) (Qa (Uw _ _) (by have:=hb.1; have:=ha.2; omega)))] rfl rfl trivial
theorem Q4x {x y x' y':LV} {n d:Int} (h1:Hr x y n) (h2:Hr x' y' d) (hn:Uj n<=4294967295) (hd:Uj d<=4294967295):Ua Tryz.prog 98 [.agg [x,y,x',y'],.one (.row [])] [.agg (rl (Fx n d))]:=by
 have c1:=Qgj h1 h2 hn hd;obtain ⟨b,l,rfl,rfl,_⟩:=h1;obtain ⟨b',l',rfl,rfl,_⟩:=h2;refine Gu Tryz.func98 rfl ?_;refine go tt [.c [] c1] rfl trivial ?_;refine lp (S:=Unit) 3 (λL1 _=>(12,.v (.one (.int .i64 0)))::L1) (λ_=>[.blk 72 [.bool b,.row (lm l),.bool b',.row (lm l')],.blk 72 [.bool false,.nils,.bool false,.nils],.blk 72 (rl (Fx n d))]) (λ_=>0) (λ_=>True) () trivial rfl (λ_ _=>rfl) rfl λ_ _=>?_
 exact en tt [.f (by simp)] rfl rfl trivial
theorem Ad {q:Rat} (hq:Qs 4294967295 q):Ua Tryz.prog 98 [.agg (rl q),.one (.row [])] [.agg (rl q)]:=by
 have:=Q4x (Ub q.num) (Ub (q.den:Int)) hq.1 hq.2;rwa [Az] at this
theorem Zbf {q:Rat} (hq:Qs 4294967295 q):Ua Tryz.prog 263 [.agg (rl q)] [.agg (rl q)]:=w tt Tryz.func263 rfl [.c [] (Ad hq)] rfl rfl trivial
theorem Qxi {p:List Int} {q:Rat} {s t:Nat} (tp:Ue p) (hl:p.length<274877906944) (hp:Bd s p) (hq:Qs t q) (hst:s+p.length*(t+1)+2*t+10<=4294967295):Ua Tryz.prog 211 [pr p,.agg (rl q)] [.one (.int .i64 (U8 p q))]:=by
 have cc:=Qht (Ub (Zdl p q.num q.den)) Ny (Qa (Qpn hp hq.1 hq.2).1 (by omega)) (by decide);exact w tt Tryz.func211 rfl [.c [] (Zbf (hq.mono (by omega))),.c [] (Hm tp hl (W8 hp (by omega))),.c [] (Q33 hl hp hq.1 hq.2 hst),.c [] cc] rfl rfl trivial
theorem Q4m {p:List Int} {g:Int} (hl:p.length<274877906944) (hp:Bd 4294967295 p) (hg:Uj g≤4294967295) (h0:g≠0) (hd:∀ z∈p,z % g=0):Ua Tryz.prog 245 [pr p,.agg (Gh g)] [pr (trim (p.map (· / g)))]:=by
 refine Gu Tryz.func245 rfl ?_;refine go tt [.r 9 (eI (b:=(p.length:Int)) (by simp)),.i p.length,.i p.length,.r 12 (eI (b:=(p.length:Int)) (by simp))] rfl (by simp [W9]; omega) ?_;rw [Dl λk=>Gh (p.getD k 0 / g)];refine lp (S:=Nat) 2 (λL1 k=>(13,.v (.one (.int .i64 (k:Int))))::L1) (λk=>[.blk 51 (Gh g),.row false 51 2 (fil (λk=>Gh (p.getD k 0 / g)) [.bool false,.nils] p.length k)]) (λk=>p.length-k) (λk=>k<=p.length) 0 (Qi _) rfl (λ_ _=>rfl) rfl λk hk=>?_
 by_cases hlt:k<p.length
 ·have hg2:=Hn hlt;refine go tt [.t (by simp; omega),.x (Sj hg2),.c [] (D7 (Ub _) (Ub _) (Um hp k) hg h0 (hd _ (Qc hg2))),.i k] rfl (by simp [W9,Ll]; omega) ?_;have e:=Ao (λk=>Gh (p.getD k 0 / g)) [.bool false,.nils] hlt;rw [e];exact rd (k+1) (by omega) hlt rfl
 ·obtain rfl:k=p.length:=by omega
  have e:fil (λk=>Gh (p.getD k 0 / g)) [.bool false,.nils] p.length p.length=(p.map (· / g)).map Gh:=by
   rw [An];refine Xt λi=>?_
   by_cases hi:i<p.length
   ·simp [X2 hi,List.getD,Qd hi]
   ·simp [Qp,hi]
  rw [e];exact en tt [.f (by simp),.c [] (Cj (G8 (p.map (· / g))) (by simp; exact hl) (Qdu hp g))] rfl rfl trivial
theorem Qjb (p:List Int):∀ c∈p.map Gh,c.length=2:=Zfn p λ_=>rfl
theorem Qxo {lx ly:List (List LV)} {px py:List Int} {x y:LV} {d:Int} (hx:IsInts lx px) (hy:IsInts ly py) (hd:Hr x y d) (hk:Cs 4294967294 1073741824 (Crv.mk px py d)):Ua Tryz.prog 185 [.agg [.row lx,.row ly,x,y]] [.agg (cl (Crv.norm (Crv.mk px py d)))]:=by
 have hlx:=hk.lx;have hly:=hk.ly;simp only at hlx hly;have htx:=Ha px;have hty:=Ha py;have hd1:Uj (Crv.mk px py d).d'<=4294967295:=Qa (Qn0 hk.d (by omega)) (by omega);have hg1:=Crv.isz_g (Crv.mk px py d) hd1;have hg0:=Crv.g_ne (Crv.mk px py d);have hgd:=Crv.g_dvd (Crv.mk px py d);have cx:=Cj hx (by omega) (W8 hk.x (by omega));have cy:=Cj hy (by omega) (W8 hk.y (by omega));have cd:=Ck hd (Qa hk.d (by omega));have bx:Bd 4294967295 (trim px):=W8 (Rp hk.x) (by omega);have by_:Bd 4294967295 (trim py):=W8 (Rp hk.y) (by omega);obtain ⟨b,l,rfl,rfl,_⟩:=hd;obtain ⟨e,he⟩:=nmE ((Crv.mk px py d).d');obtain ⟨g,hgg⟩:=nmE ((Crv.mk px py d).g);obtain ⟨X,hX⟩:=nmE (trim px);obtain ⟨Y,hY⟩:=nmE (trim py);have hnorm:(Crv.mk px py d).norm=⟨trim (X.map (· / g)),trim (Y.map (· / g)),e / g⟩:=by rw [he,hgg,hX,hY]; rfl
 rw [hnorm];have hgdef:g=if e<0 then -((Gt (e::(X++Y)):Nat):Int) else (Gt (e::(X++Y)):Nat):=by rw [hgg,he,hX,hY]; rfl
 have hde:e=if d=0 then 1 else d:=by rw [he]; rfl
 simp only [<-he,<-hgg,<-hX,<-hY] at hd1 hg1 hg0 hgd htx hty cx cy bx by_;clear hnorm hgg he hX hY;refine Gu Tryz.func185 rfl ?_;refine go tt [.c [] cx,.c [] cy,.c [] cd,.c [] Ls] rfl trivial ?_;refine ct 1 (S:=Unit) (λ_=>[(2,.v (.one (.ow 1 0))),(3,.v (pr X)),(4,.v (pr Y)),(5,.v (.one (.ow 2 0)))]) (λ_=>[.blk 53 [.row lx,.row ly,.bool b,.row (lm l)],.blk 53 [.nils,.nils,.bool false,.nils],.blk 51 (Gh e)]) (λ_=>True) rfl ?_ ?_
 ·by_cases h0:d=0
  ·rw [hde,if_pos h0];exact go tt [.t (by simpa using h0),.c [] (Qt8 (z:=1) (by decide))] rfl trivial (rc () trivial rfl)
  ·rw [hde,if_neg h0];exact go tt [.f (by simpa using h0)] rfl trivial (rc () trivial rfl)
 ·intro _ _;have hgi:IsInts ([Gh e]++X.map Gh++Y.map Gh) (e::(X++Y)):=by
   have:=G8 (e::(X++Y));simpa using this
  have hgs:∀ z∈e::(X++Y),Uj z≤4294967295:=λz hz=>by
   rcases Qo.1 hz with rfl | hz
   ·exact hd1
   ·rcases Qz.1 hz with hz | hz
    ·exact bx z hz
    ·exact by_ z hz
  have cg:=Q3q hgi hgs;have co1:=Q4m (p:=X) (by omega) bx hg1 hg0 λz hz=>hgd z (Qj _ (List.mem_append_left _ hz))
  have co2:=Q4m (p:=Y) (by omega) by_ hg1 hg0 λz hz=>hgd z (Qj _ (List.mem_append_right _ hz))
  have ce:=D7 (Ub e) (Ub g) hd1 hg1 hg0 (hgd e (Qr ..));have hszg:=Qgs hgs;by_cases hneg:e<0
  ·rw [if_pos hneg] at hgdef;have cn:=Qho (Ub ((Gt (e::(X++Y)):Nat):Int)) hszg;rw [<-hgdef] at cn;exact en tt [.lo,.s (Qjb X),.s (Qjb Y),.c [] cg,.t (by simpa using hneg),.c [] cn,.c [] ce,.c [] co1,.c [] co2] rfl rfl (by simp [W9]; omega)
  ·rw [if_neg hneg] at hgdef;rw [<-hgdef] at cg;exact en tt [.lo,.s (Qjb X),.s (Qjb Y),.c [] cg,.f (by simpa using hneg),.c [] ce,.c [] co1,.c [] co2] rfl rfl (by simp [W9]; omega)
theorem Qm4 {lx ly:List (List LV)} {px py:List Int} {x y:LV} {d:Int} (hx:IsInts lx px) (hy:IsInts ly py) (hd:Hr x y d) (hk:Cs 4294967294 1073741824 (Crv.mk px py d)) (h0:d≠0):Ua Tryz.prog 250 [.one (.row lx),.one (.row ly),.agg [x,y]] [.agg (cl (Crv.norm (Crv.mk px py d))),.one (.int .i64 0)]:=by
 have cd:=Ck hd (Qa hk.d (by omega));have cn:=Qxo hx hy hd hk;obtain ⟨b,l,rfl,rfl,_⟩:=hd;exact w tt Tryz.func250 rfl [.c [] cd,.c [] Ls,.f (by simpa using h0),.c [] cn] rfl rfl trivial
theorem Zjs {lx ly:List (List LV)} {px py:List Int} (hx:IsInts lx px) (hy:IsInts ly py) (hk:Cs 4294967294 1073741824 (Crv.mk px py 0)):Ua Tryz.prog 145 [.one (.row lx),.one (.row ly)] [.agg (cl (Crv.norm (Crv.mk px py 0)))] :=
 w tt Tryz.func145 rfl [.c [] (Qxo hx hy Ny hk)] rfl rfl trivial
def Q0e (x y:Int):Crv:=Crv.norm ⟨trim [x],trim [y],0⟩
theorem Qqs {x y:Int} (hx:-9223372036854775808<=x/\x<=9223372036854775807) (hy:-9223372036854775808<=y/\y<=9223372036854775807):Cs 64 1 ⟨trim [x],trim [y],0⟩:=by
 have key:∀ z:Int,-9223372036854775808<=z/\z<=9223372036854775807->Uj z<=64:=λz hz=>by
  rw [Rl];have:(2:Nat)^64=18446744073709551616:=by decide
  omega
 refine ⟨Rp λz hz=>?_,Rp λz hz=>?_,Qi _,Ha [x],Ha [y]⟩
 ·rw [Qt] at hz; rw [hz]; exact key x hx
 ·rw [Qt] at hz; rw [hz]; exact key y hy
theorem Qxm {x y:Int} (hx:-9223372036854775808<=x/\x<=9223372036854775807) (hy:-9223372036854775808<=y/\y<=9223372036854775807):Ua Tryz.prog 76 [.one (.int .i64 x),.one (.int .i64 y)] [.agg (cl (Q0e x y))] :=
 w tt Tryz.func76 rfl [.c [] (Q31 (p:=[x]) (show 1<274877906944 by decide) (by intro z hz; rw [Qt] at hz; rw [hz]; exact hx)),.c [] (Q31 (p:=[y]) (show 1<274877906944 by decide) (by intro z hz; rw [Qt] at hz; rw [hz]; exact hy)),.c [] (Zjs (G8 _) (G8 _) ((Qqs hx hy).mono (by omega) (by omega)))] rfl rfl trivial
theorem Qv3 {l:List Pt} {i:Nat} {p:Pt} (h:l[i]? = some p):(l.map Gp)[i]? = some [pl p.c.x,pl p.c.y,sg p.c.d,mg p.c.d,.int .i64 p.id]:=G9 h
theorem Qsv (l:List Pt):∀ c∈l.map Gp,c.length=5:=Zfn l λ_=>rfl
theorem Zbc {lx ly:List (List LV)} {px py:List Int} {x y:LV} {d:Int} (hx:IsInts lx px) (hy:IsInts ly py) (hd:Hr x y d) (hk:Cs 4294967294 1073741824 (Crv.mk px py d)) (id:Int):Ua Tryz.prog 194 [.agg [.row lx,.row ly,x,y,.int .i64 id]] [.agg (Gp ⟨Crv.norm (Crv.mk px py d),id⟩)]:=by
 have cd:=Ck hd (Qa hk.d (by omega));by_cases h0:d=0
 ·subst h0;have ck:Cs 4294967294 1073741824 (Crv.mk px py 1):=⟨hk.x,hk.y,show Uj 1<=4294967294 by decide,hk.lx,hk.ly⟩;have cm:=Qm4 hx hy (Ub 1) ck (by decide);have e:Crv.norm (Crv.mk px py 1)=Crv.norm (Crv.mk px py 0):=by simp only [Crv.norm,Crv.g,Crv.d']; rfl
  rw [e] at cm;obtain ⟨b,l,rfl,rfl,_⟩:=hd;exact w tt Tryz.func194 rfl [.c [] cd,.c [] Ls,.t (by simp),.c [] (Qt8 (z:=1) (by decide)),.c [] cm] rfl rfl trivial
 ·have cm:=Qm4 hx hy hd hk h0;obtain ⟨b,l,rfl,rfl,_⟩:=hd;exact w tt Tryz.func194 rfl [.c [] cd,.c [] Ls,.f (by simpa using h0),.c [] cm] rfl rfl trivial
theorem Zjt {l:List Pt} (id:Int) (hl:l.length<1073741824):Ua Tryz.prog 193 [.agg [pts l],.one (.int .i64 id)] [.one (.int .i64 (pos l id:Int)),.one (.bool (has l id))]:=by
 refine Gu Tryz.func193 rfl ?_;refine go tt [] rfl trivial ?_;refine ct 2 (S:=Unit) (λ_=>[(1,.v (.one (.int .i64 id))),(2,.v (.one (.ow 0 0))),(6,.v (.one (.int .i64 (pos l id:Int))))]) (λ_=>[.blk 80 [pts l]]) (λ_=>True) rfl ?_ ?_
 ·refine lp (S:=Nat) 1 (λL1 k=>(6,.v (.one (.int .i64 (k:Int))))::L1) (λ_=>[.blk 80 [pts l]]) (λk=>l.length-k) (λk=>k<=l.length/\∀ j p,j<k->l[j]? = some p->p.id<id) 0 ⟨Qi _,λj p h=>by omega⟩ rfl (λ_ _=>rfl) rfl λk ⟨hk,hlt⟩=>?_
  by_cases h:k<l.length
  ·obtain ⟨p,hp⟩:=gxE (l:=l) (i:=k) h;by_cases hid:p.id<id
   ·refine go tt [.t (by simp; omega),.x (Qv3 hp),.t (by simpa using hid)] rfl (by simp [W9]; omega) ?_;exact rd (k+1) (by omega) ⟨h,λj q hj hq=>by
     rcases Q5 j k with h2 | h2
     ·exact hlt j q h2 hq
     ·have:j=k:=by omega
      subst this; rw [hp] at hq; injection hq with hq; rw [<-hq]; exact hid⟩ rfl
   ·have e:=Qvw hlt (.inr ⟨p,hp,hid⟩);refine go tt [.t (by simp; omega),.x (Qv3 hp),.f (by simpa using hid)] rfl trivial ?_;rw [e];exact rc () trivial rfl
  ·obtain rfl:k=l.length:=by omega
   have e:=Qvw hlt (.inl rfl);refine go tt [.f (by simp),.f rfl] rfl trivial ?_;rw [e];exact rc () trivial rfl
 ·intro _ _;by_cases h:pos l id<l.length
  ·obtain ⟨p,hp⟩:=gxE (l:=l) (i:=pos l id) h;have e:has l id=decide (p.id=id):=by simp [has,hp]
   rw [e];exact en tt [.g 30 true (by simp; omega),.x (Qv3 hp)] rfl rfl trivial
  ·have e:has l id=false:=by simp [has,Qp (Jg h)]
   rw [e];exact en tt [.g 30 false (by simp; omega)] rfl rfl trivial
theorem Qm0 {l:List Pt}:Ua Tryz.prog 173 [.agg [pts l]] [.one (pts l)]:=w tt Tryz.func173 rfl [] rfl rfl trivial
theorem Zjn {lx ly:List (List LV)} {px py:List Int} {x y:LV} {d id:Int} {l:List Pt} (hx:IsInts lx px) (hy:IsInts ly py) (hd:Hr x y d) (hk:Cs 4294967294 1073741824 (Crv.mk px py d)) (hl:l.length<=1000000) :
 Ua Tryz.prog 123 [.agg [pts l],.agg [.row lx,.row ly,x,y,.int .i64 id]] [.agg [pts (if On l (Pt.mk (Crv.norm (Crv.mk px py d)) id)=0 then put l (Pt.mk (Crv.norm (Crv.mk px py d)) id) else l)],.one (.int .i64 (On l (Pt.mk (Crv.norm (Crv.mk px py d)) id)))]:=by
 have ca:=Zjt (l:=l) id (by omega);have cf:=Zbc hx hy hd hk id;obtain ⟨b,r,rfl,rfl,_⟩:=hd;obtain ⟨q,hq⟩:=nmE (Pt.mk (Crv.norm (Crv.mk px py d)) id);have hqi:q.id=id:=by rw [hq]
 rw [<-hq] at cf ⊢;have hpl:=Q7t l id;by_cases h1:has l id=true
 ·have e:On l q=6:=by simp [On,hqi,h1]
  rw [e,if_neg (by decide)];exact w tt Tryz.func123 rfl [.c [] ca,.t h1] rfl rfl trivial
 by_cases h2:6<=l.length
 ·have e:On l q=9:=by simp [On,hqi,h1,h2]
  rw [e,if_neg (by decide)];exact w tt Tryz.func123 rfl [.c [] ca,.f (by simpa using h1),.t (by simp; omega)] rfl rfl trivial
 have e:On l q=0:=by simp [On,hqi,h1,h2]
 rw [e,if_pos rfl];have s1:∀ c∈(l.map Gp).take (pos l id),c.length=5:=λc hc=>Qsv l c (Qq hc)
 have s3:∀ c∈(l.map Gp).drop (pos l id),c.length=5:=λc hc=>Qsv l c (Zh hc)
 refine w tt Tryz.func123 rfl [.c [] ca,.f (by simpa using h1),.f (by simp; omega),.i (pos l id),.s s1,.c [] cf,.i (pos l id),.s s3] rfl ?_ ?_
 ·simp [put,hqi,pts,Ys,Kg,Gp]
 ·simp [W9];exact ⟨by omega,hpl,λ_ _=>rfl,by omega,by omega,hpl⟩
theorem Q69:∀ (qs:List Pt),(Tn [] qs).1.length<=qs.length:=by
 have key:∀ (qs acc:List Pt),(Tn acc qs).1.length<=acc.length+qs.length:=by
  intro qs
  induction qs with
  | nil=>intro acc; simp [Tn]
  |
   cons q qs ih =>
   intro acc;simp only [Tn]
   split
   ·have:=ih (put acc q); rw [Qzx] at this; simp only [Q9]; omega
   ·simp
 intro qs;have:=key qs [];simpa using this
theorem Zjk {zs:List (List LV)} {qs:List Pt} (hz:IsPts 4294967294 1073741824 zs qs) (hl:qs.length<=6):Ua Tryz.prog 129 [.one (.row zs)] [.agg [pts (Tn [] qs).1],.one (.int .i64 (Tn [] qs).2)]:=by
 refine Gu Tryz.func129 rfl ?_;have hzl:=hz.len;refine go tt [.f (by simp; omega)] rfl trivial ?_;refine nlb 1 rfl rfl rfl ?_;refine lp (S:=Nat) 2 (λL1 i=>(14,.v (.one (.int .i64 (i:Int))))::L1) (λi=>[.blk 80 [.nils],.blk 80 [pts (Tn [] (qs.take i)).1]]) (λi=>qs.length-i) (λi=>i<=qs.length/\(Tn [] (qs.take i)).2=0) 0 ⟨Qi _,rfl⟩ rfl (λ_ _=>rfl) rfl λi ⟨hi,h0⟩=>?_
 by_cases hlt:i<qs.length
 ·have hqi:qs[i]? = some qs[i]:=Qd hlt;obtain ⟨z,hzi,lx,ly,b,r,px,py,d,rfl,hx,hy,hd,hk,hc⟩:=hz.get hqi;have hq:(Pt.mk (Crv.norm (Crv.mk px py d)) qs[i].id)=qs[i]:=by rw [<-hc]
  have hst:=Q13 [] qs hqi (by rw [<-h0]);have hnl:=Q69 (qs.take i);have cp:=Zjn (l:=(Tn [] (qs.take i)).1) (id:=qs[i].id) hx hy hd hk (by rw [Qy] at hnl; omega);rw [hq] at cp;by_cases he:On (Tn [] (qs.take i)).1 qs[i]=0
  ·rw [if_pos he] at hst;rw [he,if_pos rfl] at cp;refine go tt [.t (by simp; omega),.x hzi,.c [] cp,.f rfl] rfl (by simp [W9]; omega) ?_;exact rd (i+1) (by omega) ⟨hlt,by rw [hst]⟩ (by rw [hst]; rfl)
  ·rw [if_neg he] at hst;have herr:=Q68 [] qs he hst;rw [herr];exact en tt [.t (by simp; omega),.x hzi,.c [] cp,.t (by simpa using he)] rfl rfl trivial
 ·obtain rfl:i=qs.length:=by omega
  rw [Q8] at h0;rw [Q8,h0];exact en tt [.f (by simp; omega)] rfl rfl trivial
theorem Qpe (q:Rat):Ue [-q.num,(q.den:Int)]:=by
 have:=q.den_nz;simp [Ue,trim,this]
theorem Zjg {s:Nat} {q:Rat} (h:Qs s q):Bd s [-q.num,(q.den:Int)]:=λz hz=>by
 simp at hz;rcases hz with rfl | rfl
 ·rw [Ga]; exact h.1
 ·exact h.2
theorem Ze3 {x y x' y':LV} {n d:Int} (h1:Hr x y n) (h2:Hr x' y' d) (hn:Uj n<=4294967295) (hd:Uj d<=4294967295) (hq:Qs 4294967295 (Fx n d)):Ua Tryz.prog 83 [.agg [x,y,x',y']] [.agg (qa (Fx n d))]:=by
 have c1:=Q4x h1 h2 hn hd;obtain ⟨b,l,rfl,rfl,_⟩:=h1;obtain ⟨b',l',rfl,rfl,_⟩:=h2;exact w tt Tryz.func83 rfl [.c [] c1,.c [] (Qho (Ub _) hq.1),.c [] (Ad hq)] rfl rfl trivial
theorem D9 {k:Crv} (hn:Nml k) (hk:Cs 4294967294 1073741824 k):Ua Tryz.prog 230 [.agg (cl k)] [.agg (cl k)]:=by
 have h0:k.d≠0:=by have:=hn.2.2.1; omega
 have cm:=Qm4 (G8 k.x) (G8 k.y) (Ub k.d) hk h0;rw [show Crv.mk k.x k.y k.d=k from rfl,Crv.norm_of hn] at cm;exact w tt Tryz.func230 rfl [.c [] (Ck (Ub k.d) (Qa hk.d (by omega))),.c [] Ls,.f (by simpa using h0),.c [] cm] rfl rfl trivial
theorem Za3 {a b:Crv} (ha:Nml a) (hb:Nml b) (ca:Cb a) (cb:Cb b):Ua Tryz.prog 235 [.agg (cl a),.agg (cl b)] [pr (Gf a b)]:=by
 have l1:=ca.lx;have l2:=cb.lx;have l3:=Ul b.x a.d;have l4:=Ul a.x b.d;exact w tt Tryz.func235 rfl [.c [] (D9 ha (ca.mono (by omega) (by omega))),.c [] (D9 hb (cb.mono (by omega) (by omega))),.c [] (Bv (by omega) (W8 cb.x (by omega)) (Qa ca.d (by omega))),.c [] (Bv (by omega) (W8 ca.x (by omega)) (Qa cb.d (by omega))),.c [] (Qhq (by omega) (by omega) (W8 (Ur cb.x ca.d) (by omega)) (W8 (Ur ca.x cb.d) (by omega)))] rfl rfl trivial
theorem Zar {a b:Crv} (ha:Nml a) (hb:Nml b) (ca:Cb a) (cb:Cb b):Ua Tryz.prog 236 [.agg (cl a),.agg (cl b)] [pr (Ge a b)]:=by
 have l1:=ca.ly;have l2:=cb.ly;have l3:=Ul b.y a.d;have l4:=Ul a.y b.d;exact w tt Tryz.func236 rfl [.c [] (D9 ha (ca.mono (by omega) (by omega))),.c [] (D9 hb (cb.mono (by omega) (by omega))),.c [] (Bv (by omega) (W8 cb.y (by omega)) (Qa ca.d (by omega))),.c [] (Bv (by omega) (W8 ca.y (by omega)) (Qa cb.d (by omega))),.c [] (Qhq (by omega) (by omega) (W8 (Ur cb.y ca.d) (by omega)) (W8 (Ur ca.y cb.d) (by omega)))] rfl rfl trivial
def Sr (ps:List (List Int)):List (List LV):=ps.map λp=>[pl p]
theorem Rj {ps:List (List Int)} {i:Nat} {p:List Int} (h:ps[i]? = some p):(Sr ps)[i]? = some [pl p]:=G9 h
theorem Q03:Ua Tryz.prog 233 [.one (.int .i64 5)] [.one (.int .i64 4)]:=w tt Tryz.func233 rfl [.f rfl,.f rfl,.f rfl,.f rfl,.t rfl] rfl rfl trivial
theorem Q3t {k i0 i1 i2 i3 l j0 j1 j2 j3:Int}:Ua Tryz.prog 152 [.agg [.int .i64 k,.int .i64 i0,.int .i64 i1,.int .i64 i2,.int .i64 i3],.agg [.int .i64 l,.int .i64 j0,.int .i64 j1,.int .i64 j2,.int .i64 j3]] [.one (.bool (Hu [k,i0,i1,i2,i3] [l,j0,j1,j2,j3]))]:=by
 by_cases hk:k=l
 ·subst hk;rw [show Hu [k,i0,i1,i2,i3] [k,j0,j1,j2,j3]=Hu [i0,i1,i2,i3] [j0,j1,j2,j3] from by simp [Hu]];refine Gu Tryz.func152 rfl ?_;refine go tt [.f (by simp)] rfl trivial ?_;refine lp (S:=Nat) 2 (λL1 i=>(19,.v (.one (.int .i64 (i:Int))))::L1) (λ_=>[.blk 88 [.int .i64 k,.int .i64 i0,.int .i64 i1,.int .i64 i2,.int .i64 i3],.blk 88 [.int .i64 k,.int .i64 j0,.int .i64 j1,.int .i64 j2,.int .i64 j3]]) (λi=>4-i) (λi=>i<=4/\Hu ([i0,i1,i2,i3].drop i) ([j0,j1,j2,j3].drop i)=Hu [i0,i1,i2,i3] [j0,j1,j2,j3]) 0 ⟨by omega,rfl⟩ rfl (λ_ _=>rfl) rfl λi ⟨hi,he⟩=>?_
  rw [<-he];rcases (show i=0\/i=1\/i=2\/i=3\/i=4 by omega) with rfl | rfl | rfl | rfl | rfl
  ·by_cases h:i0=j0
   ·exact go tt [.t rfl,.i 0,.i 0,.f (by simpa using h)] rfl (by simp [W9]) (rd 1 (by omega) ⟨by omega,by simp [Hu,h]⟩ rfl)
   ·exact en tt [.t rfl,.i 0,.i 0,.t (by simpa using h),.i 0] rfl (by simp [Hu,h]) trivial
  ·by_cases h:i1=j1
   ·exact go tt [.t rfl,.i 1,.i 1,.f (by simpa using h)] rfl (by simp [W9]) (rd 2 (by omega) ⟨by omega,by simp [Hu,h]⟩ rfl)
   ·exact en tt [.t rfl,.i 1,.i 1,.t (by simpa using h),.i 1] rfl (by simp [Hu,h]) trivial
  ·by_cases h:i2=j2
   ·exact go tt [.t rfl,.i 2,.i 2,.f (by simpa using h)] rfl (by simp [W9]) (rd 3 (by omega) ⟨by omega,by simp [Hu,h]⟩ rfl)
   ·exact en tt [.t rfl,.i 2,.i 2,.t (by simpa using h),.i 2] rfl (by simp [Hu,h]) trivial
  ·by_cases h:i3=j3
   ·exact go tt [.t rfl,.i 3,.i 3,.f (by simpa using h)] rfl (by simp [W9]) (rd 4 (by omega) ⟨by omega,by simp [Hu,h]⟩ rfl)
   ·exact en tt [.t rfl,.i 3,.i 3,.t (by simpa using h),.i 3] rfl (by simp [Hu,h]) trivial
  ·exact en tt [.f rfl] rfl (by simp [Hu]) trivial
 ·exact w tt Tryz.func152 rfl [.t (by simpa using hk)] rfl (by simp [Hu,hk]) trivial
abbrev zCt:List LV:=[.int .i64 0,.int .i64 0,.int .i64 0,.int .i64 0,.int .i64 0,.nils,.int .i64 0]
def Gj (l:List Ct):List (List LV):=l.map Qga
theorem Qa9 {l:List Ct} {i:Nat} {c:Ct} (h:l[i]? = some c):(Gj l)[i]? = some (Qga c):=G9 h
theorem Dh (l:List Ct):(Gj l).length=l.length:=by simp [Gj]
theorem Q5c (l:List Ct):∀ c∈Gj l,c.length=7:=λc hc=>by
 obtain ⟨x,_,rfl⟩:=Zk.1 hc; rfl
theorem Q6r {O:List Ct} {z:List LV} {c:Ct} {k m:Nat} {l2:List (List LV)} (hk:k<=O.length) (hp:Oh O c O.length=k) (hm:m=O.length-k) (h2:l2.take m=((Gj O++[z]).drop k).take m) :
 ((Gj O++[z]).take (k+1)++(l2.take m++(Gj O++[z]).drop (k+1+m))).set k (Qga c)=Gj (Qbc O c):=by
 rw [h2,<-Zu,Q6q (Gj O) z (Qga c) (by rw [Dh]; omega) (by rw [Dh]; omega)];simp [Qbc,hp,Gj,Ys,Kg]
theorem Quc {l:List Ct} (hl:∀ c∈l,Pb c.p) (hn:l.length≤1000000):Ua Tryz.prog 86 [.one (.row (Gj l))] [.one (.row (Gj (Gv l)))]:=by
 have hcl:=Dh l;refine Gu Tryz.func86 rfl ?_;refine go tt [.o 3 90 7] rfl trivial ?_;refine lp (S:=Nat) 1 (λL1 i=>(9,.v (.one (.int .i64 (i:Int))))::(3,.v (.one (.orow 0 7 none)))::L1) (λi=>[.row false 90 7 (Gj (Gv (l.take i)))]) (λi=>l.length-i) (λi=>i<=l.length) 0 (Qi _) rfl (λ_ _=>rfl) rfl λi hi=>?_
 by_cases hlt:i<l.length
 ·obtain ⟨c,hc⟩:=gxE (l:=l) (i:=i) hlt;have hst:=Qwo hc;have hcp:=hl c (Qc hc);obtain ⟨O,hO⟩:=nmE (Gv (l.take i));have hOl:O.length=i:=by rw [hO,Da,Qy]; omega
  rw [<-hO] at hst ⊢;refine go tt [.t (by simp [hcl]; omega),.x (Qa9 hc)] rfl trivial ?_;refine lp (S:=Nat) 2 (λL1 k=>(6,.v (.one (.int .i64 (k:Int))))::L1) (λk=>[.row false 90 7 (Gj O),.blk 90 (Qga c)]) id (λk=>k<=O.length/\Oh O c k=Oh O c O.length) (Gj O).length ⟨by rw [Dh]; exact Qk _,by rw [Dh]⟩ rfl (λ_ _=>rfl) rfl λk ⟨hk,hp⟩=>?_
  have hz:∀ y∈[zCt],y.length=7:=λy hy=>by rw [Qt.1 hy]; rfl
  have h77:∀ y∈Gj O++[zCt],y.length=7:=λy hy=>by
   rcases Qz.1 hy with hy | hy
   ·exact Q5c O y hy
   ·exact hz y hy
  cases k with
  |
   zero =>
   have hp:Oh O c O.length=0:=by rw [<-hp]; rfl
   refine go tt [.g 17 false (by simp),.f rfl,.s (sz:=7) hz,.r 36 (eI (b:=((0+1:Nat):Int)) (by simp)),.i (0+1),.i (0),.s (sz:=7) (λy hy=>h77 y (Qq hy)),.i (O.length),.c [] (Hm hcp.t (by have:=hcp.l; omega) (W8 hcp.b (by omega))),.i (0)] rfl (by simp [W9,Dh]; omega) ?_;exact rd (i+1) (by omega) hlt (by rw [hst,<-Q6r (z:=zCt) (l2:=(Gj O++[zCt]).take ((Gj O++[zCt]).length-0)) (k:=0) (m:=O.length) (by omega) hp (by omega) (by congr 1; exact Qn (by simp))]; rfl)
  |
   succ k =>
   obtain ⟨x,hx⟩:=gxE (l:=O) (i:=k) (by omega);by_cases hlc:Mm c x=true
   ·refine go tt [.g 17 true (by simp),.r 22 (eI (b:=(k:Int)) (by simp)),.i k,.x (Qa9 hx),.c [] Q3t,.t hlc,.r 29 (eI (b:=(k:Int)) (by simp))] rfl (by simp [W9,Dh]; omega) ?_;exact rd k (by simp) ⟨by omega,by rw [<-hp,Zdc hx hlc]⟩ rfl
   ·have hlc:Mm c x=false:=by simpa using hlc
    have hp:Oh O c O.length=k+1:=by rw [<-hp,Q7s hx hlc]
    refine go tt [.g 17 true (by simp),.r 22 (eI (b:=(k:Int)) (by simp)),.i k,.x (Qa9 hx),.c [] Q3t,.f hlc,.s (sz:=7) hz,.r 36 (eI (b:=((k+1+1:Nat):Int)) (by simp)),.i (k+1+1),.i (k+1),.s (sz:=7) (λy hy=>h77 y (Zh (Qq hy))),.i (O.length-(k+1)),.c [] (Hm hcp.t (by have:=hcp.l; omega) (W8 hcp.b (by omega))),.i (k+1)] rfl (by simp [W9,Dh]; omega) ?_;exact rd (i+1) (by omega) hlt (by rw [hst,<-Q6r (z:=zCt) (l2:=((Gj O++[zCt]).drop (k+1)).take ((Gj O++[zCt]).length-(k+1))) (k:=k+1) (m:=O.length-(k+1)) (by omega) hp (by omega) (by congr 1; exact Qn (by simp))]; rfl)
 ·obtain rfl:i=l.length:=by omega
  rw [Q8];exact en tt [.f (by simp [hcl])] rfl rfl trivial
end Orr
namespace Orr
def Un (p:List Int):Int:=p.getD (p.length-1) 0
def chk (p:List Int):Option (List Int):=if p.length<=64/\(p.all λz=>Nat.ble (Uj z) 16777216)=true then some p else none
def chq (q:Rat):Option Rat:=if Uj q.num<=16777216/\Uj (q.den:Int)<=16777216 then some q else none
def Re (p:List Int):Int:=(Gt p:Nat)
def Ns (p:List Int) (c:Int):List Int:=trim (p.map (· / c))
def Fu (p:List Int):Int:=if Un p<0 then -Re p else Re p
def Ug (p:List Int):List Int:=if p.length=0 then [] else Ns p (Fu p)
def mono (i:Nat) (x:Int):List Int:=List.replicate i 0++[x]
def psd (b:List Int) (c:Int):Nat->List Int×List Int->List Int×List Int
 | 0,s=>s
 |
  i+1,(q,r) =>
  psd b c i (Qat (Ut q c) (mono i (if r.length=b.length+i then Un r else 0)),To (Ut r c) (Ff (trim (mono i (if r.length=b.length+i then Un r else 0))) b))
def Sk (a b:List Int):List Int:=(psd b (Un b) (a.length+1-b.length) ([],a)).2
def Pp (a b r:List Int):List Int:=if (a.length+1-b.length) % 2=1/\Un b<0 then S7 r else r
def Dy (r:List Int):List Int:=if r.length=0 then [] else Ns r (Re r)
def Gb (a b:List Int):List Int:=Dy (Pp a b (Sk a b))
def Qom (b:List Int):Nat->List Int->List Int->Option (List Int)
 | 0,a,q=>if a.length=0 then some q else none
 | i+1,a,q=>if a.length<b.length+i then Qom b i a q else if Un a % Un b=0 then Qom b i (To a (Ff (trim (mono i (Un a / Un b))) b)) (q.set i (Un a / Un b)) else none
def Oi (a b:List Int):Option (List Int):=if b.length=0 then none else (Qom b (a.length+1-b.length) a (List.replicate (a.length+1-b.length) 0)).bind λq=>chk (trim q)
def Qe6:Nat->List Int->List Int->Option (List Int)
 | 0,_,_=>none
 | k+1,a,b=>if b.length=0 then some a else (chk (Gb a b)).bind λr=>Qe6 k b r
def Om (a b:List Int):Option (List Int):=(Qe6 66 (Ug a) (Ug b)).map Ug
def Qoo (a b:List Int):Option (List Int):=(Om [] a).bind λg=>Om g b
def Ss (a:List Int):Option (List Int):=if (Ug a).length<2 then some (Ug a) else (chk (U7 (Ug a))).bind λd=>(Om (Ug a) d).bind λg=>Oi (Ug a) g
def Qel:Nat->List Int->Option (List (List Int))
 | 0,_=>none
 | k+1,g=>if g.length<2 then some [] else (chk (U7 g)).bind λd=>(Om g d).bind λh=>(Oi g h).bind λw=>(Qel k h).bind λl=>some (w::l)
def Qj8:List (List Int)->Option (List (List Int))
 | []=>some []
 | [w]=>some [w]
 | w::v::l=>(Oi w v).bind λf=>(Qj8 (v::l)).bind λr=>some (f::r)
def Qcu:Nat->List Int->List (List Int)->Option (List Int)
 | _,p,[]=>some p
 | i,p,f::l=>if i % 2=0 then (chk (Ff p f)).bind λq=>Qcu (i+1) q l else Qcu (i+1) p l
def Qvu (a:List Int):Option (List Int):=if (Ug a).length=0 then some [] else (Qel 66 (Ug a)).bind λl=>(Qj8 l).bind λfs=>Qcu 0 [1] fs
def chF:Nat->List Int->List Int->Option (List (List Int))
 | 0,_,_=>none
 | k+1,a,b=>if b.length=0 then some [] else (chk (Gb a b)).bind λr=>(chF k b (S7 r)).bind λl=>some (b::l)
def chain (p:List Int):Option (List (List Int)):=(Ss p).bind λa=>if a.length=0 then none else (chk (U7 a)).bind λd=>(chF 66 a (Ug d)).bind λl=>some (a::l)
def Hx (sg:List Int->Int) (s:Nat×Int) (p:List Int):Nat×Int:=if sg p=0 then s else (if s.2=-(sg p) then s.1+1 else s.1,sg p)
def P6 (sg:List Int->Int) (l:List (List Int)):Nat:=(l.foldl (Hx sg) (0,0)).1
def Su (l:List (List Int)) (q:Rat):Nat:=P6 (λp=>U8 p q) l
def G7 (l:List (List Int)) (lo hi:Rat):Int:=if Fb hi lo<0 then 0 else (Su l lo:Int)-(Su l hi:Int)
def Qca (p:List Int):Int:=Int.sign (Un p)
def Ii (p:List Int):Int:=if p.length % 2=0 then -Int.sign (Un p) else Int.sign (Un p)
def Oo (l:List (List Int)):Int:=(P6 Ii l:Int)-(P6 Qca l:Int)
def most:List Int->Nat:=λl=>l.foldl (λm z=>if m<z.natAbs then z.natAbs else m) 0
def Fv (p:List Int):Rat:=Rat.divInt (((Un p).natAbs:Int)+(most (p.take (p.length-1)):Int)) ((Un p).natAbs:Int)
def Ib (a b:Rat):Rat:=Rat.divInt (a.num*(b.den:Int)+b.num*(a.den:Int)) ((a.den:Int)*(b.den:Int)*2)
def Dz (p:List Int) (c:List (List Int)):Nat->Rat->Rat->Int->Option (List Tm)
 | 0,_,_,_=>none
 | k+1,lo,hi,n=>if n=0 then some [] else if n=1 then some [⟨p,lo,hi⟩] else (chq (Ib lo hi)).bind λm=>(Dz p c k lo m (G7 c lo m)).bind λl=>(Dz p c k m hi (n-G7 c lo m)).bind λr=>some (l++r)
def Qjk (p:List Int):Option (List Tm):=(chain p).bind λc=>(Ss p).bind λq=>(chq (Fv q)).bind λb=>Dz q c 100000 (-b) b (Oo c)
def Tm.point (a:Tm):Bool:=decide (0<=Fb a.lo a.hi)
def low (p:List Int) (q:Rat):Int:=if U8 p q≠0 then U8 p q else U8 (U7 p) q
def Qcf (p:List Int) (lo hi:Rat):Bool:=decide (U8 p hi=0\/U8 p hi≠low p lo)
def Uq (a:Tm) (t:Rat):Int :=
 if a.point=true then Fb a.lo t else if Fb t a.lo<=0 then 1 else if 0<Fb t a.hi then -1 else if U8 a.p t=0 then 0 else if U8 a.p t=low a.p a.lo then 1 else -1
def Qnw (a:Tm):Option Tm:=if a.point=true then some a else (chq (Ib a.lo a.hi)).bind λm =>
 some (if Uq a m=0 then ⟨a.p,m,m⟩ else if Uq a m=-1 then ⟨a.p,a.lo,m⟩ else ⟨a.p,m,a.hi⟩)
def Fw (p:List Int):Nat:=p.foldl (λn z=>max n (Uj z)) 0
def Sl (a b:Tm):Nat:=64+2*(Uj a.lo.num+Uj a.hi.num+Uj b.lo.num+Uj b.hi.num)+4*(a.p.length+b.p.length)*(Fw a.p+Fw b.p+(a.p.length+b.p.length)+8)
def Qjm (a b:Rat):Rat:=Rat.divInt (a.num*(b.den:Int)-b.num*(a.den:Int)) ((a.den:Int)*(b.den:Int))
def Bu (a b:Tm):Bool:=decide (Fb a.hi b.lo<=0/\¬((a.point=true/\b.point=true)/\Fb a.hi b.lo=0))
def apF:Nat->Tm->Tm->Option (Tm×Tm×Int)
 | 0,a,b=>some (a,b,0)
 |
  k+1,a,b=>if Bu a b=true then some (a,b,-1) else if Bu b a=true then some (a,b,1) else
  if 0<=Fb (Qjm a.hi a.lo) (Qjm b.hi b.lo) then (Qnw a).bind λx=>apF k x b else (Qnw b).bind λx=>apF k a x
def Qf7 (a b:Tm):Option Int:=if a.point=true then some (-Uq b a.lo) else if b.point=true then some (Uq a b.lo) else
 let lo:=if 0<Fb b.lo a.lo then b.lo else a.lo
 let hi:=if Fb b.hi a.hi<0 then b.hi else a.hi
 if Fb lo hi<0 then (Qoo a.p b.p).bind λg=>if 1<g.length/\Qcf g lo hi=true then some 0 else (apF (Sl a b) a b).bind λr=>some r.2.2
 else (apF (Sl a b) a b).bind λr=>some r.2.2
def sgF (c:List (List Int)):Nat->Tm->Option Tm
 | 0,a=>some a
 | k+1,a=>if a.point=true\/G7 c a.lo a.hi=0 then some a else (Qnw a).bind λx=>sgF c k x
def Qjp (p:List Int) (a:Tm):Option Int:=if p.length=0 then some 0 else if a.point=true then some (U8 p a.lo) else
 (Qoo p a.p).bind λg=>if 1<g.length/\Qcf g a.lo a.hi=true then some 0 else (chain p).bind λc=>(sgF c (64+2*(Uj a.lo.num+Uj a.hi.num)+4*(a.p.length+p.length)*(Fw a.p+Fw p+(a.p.length+p.length)+8)) a).bind λx=>some (U8 p x.hi)
def Au:Tm->List Tm->Option Tm
 | b,[]=>some b
 | b,a::l=>(Qf7 a b).bind λc=>Au (if c<0 then a else b) l
def Qay (a:Tm):List Tm->Option (Option Tm)
 | []=>some none
 | r::l=>(Qf7 r a).bind λc=>if 0<c then some (some r) else Qay a l
def Ea (p:List Int):Option (List Tm):=(Qvu p).bind λq=>if q.length=0 then some [] else Qjk q
def Qfs (p:List Int) (a:Tm):Option (Option Tm):=(Ea p).bind λl=>Qay a l
end Orr
namespace Orr
open Go Go.Proofs
set_option maxRecDepth 10000
theorem Bn {p:List Int} (tp:Ue p) (h:p.length≠0):Un p≠0:=Gq tp (by omega)
theorem Qi1 {p:List Int} (h:p.length≠0):Un p∈p:=Qc (Hn (by omega))
theorem Px {s:Nat} {p:List Int} (h:Bd s p):Uj (Un p)<=s:=Um h _
theorem C5 {p:List Int}:∀ z∈p,Re p∣z:=I4
theorem Es {p:List Int} (tp:Ue p) (h:p.length≠0):Re p≠0:=λh0=>Bn tp h (Int.zero_dvd.1 (h0 ▸ C5 _ (Qi1 h)))
theorem O9 {p:List Int} (h:Bd 4294967295 p):Uj (Re p)<=4294967295:=Qgs h
theorem Qzp {p:List Int} (tp:Ue p) (h:p.length≠0):Fu p≠0:=by
 have:=Es tp h;unfold Fu; split <;> omega
theorem Qcy {p:List Int}:∀ z∈p,Fu p∣z:=λz hz=>by
 unfold Fu; split
 ·exact W4.2 (C5 z hz)
 ·exact C5 z hz
theorem Q6t {p:List Int} (h:Bd 4294967295 p):Uj (Fu p)<=4294967295:=by
 unfold Fu; split
 ·rw [Ga]; exact O9 h
 ·exact O9 h
theorem Qhi {s:Nat} {p:List Int} (h:Bd s p) (c:Int):Bd s (Ns p c):=Rp (Qdu h c)
theorem Qlm (p:List Int) (c:Int):(Ns p c).length<=p.length:=Qa (Ha _) (by simp)
theorem A3 (p:List Int) (c:Int):Ue (Ns p c):=G0 _
theorem Q7n {p:List Int} (h:Pb p) (c:Int):Pb (Ns p c):=⟨A3 _ _,Qa (Qlm _ _) h.l,Qhi h.b c⟩
theorem Qet:Pb []:=⟨rfl,by simp,Ir⟩
theorem Hp {p:List Int} (h:Pb p):Pb (Ug p):=by
 unfold Ug; split
 ·exact Qet
 ·exact Q7n h _
theorem Pb.bd {p:List Int} (h:Pb p):Bd 4294967295 p:=W8 h.b (by omega)
theorem Pb.ln {p:List Int} (h:Pb p):p.length<274877906944:=Zy h.l (by omega)
theorem Pb.ln' {p:List Int} (h:Pb p):p.length<8589934592:=Zy h.l (by omega)
theorem Ae {p q:List Int} (tp:Ue p) (h:chk p=some q):q=p/\Pb p:=by
 unfold chk at h
 split at h
 ·rename_i hc;injection h with h;refine ⟨h.symm,tp,hc.1,λz hz=>?_⟩;have:=Yl.1 hc.2 z hz;exact Xu this
 ·cases h
theorem Qxp {p:List Int} {g:Int} (hl:p.length<274877906944) (hp:Bd 4294967295 p) (hg:Uj g≤4294967295) (h0:g≠0) (hd:∀ z∈p,g∣z):Ua Tryz.prog 308 [pr p,.agg (Gh g)] [pr (Ns p g)]:=by
 refine Gu Tryz.func308 rfl ?_;refine go tt [.r 9 (eI (b:=(p.length:Int)) (by simp)),.i p.length,.i p.length,.r 12 (eI (b:=(p.length:Int)) (by simp))] rfl (by simp [W9]; omega) ?_;rw [Dl λk=>Gh (p.getD k 0 / g)];refine lp (S:=Nat) 2 (λL1 k=>(13,.v (.one (.int .i64 (k:Int))))::L1) (λk=>[.blk 51 (Gh g),.row false 51 2 (fil (λk=>Gh (p.getD k 0 / g)) [.bool false,.nils] p.length k)]) (λk=>p.length-k) (λk=>k<=p.length) 0 (Qi _) rfl (λ_ _=>rfl) rfl λk hk=>?_
 by_cases hlt:k<p.length
 ·have hg2:=Hn hlt;refine go tt [.t (by simp; omega),.x (Sj hg2),.c [] (D7 (Ub _) (Ub _) (Um hp k) hg h0 (Jw (hd _ (Qc hg2)))),.i k] rfl (by simp [W9,Ll]; omega) ?_;have e:=Ao (λk=>Gh (p.getD k 0 / g)) [.bool false,.nils] hlt;rw [e];exact rd (k+1) (by omega) hlt rfl
 ·obtain rfl:k=p.length:=by omega
  have e:fil (λk=>Gh (p.getD k 0 / g)) [.bool false,.nils] p.length p.length=(p.map (· / g)).map Gh:=by
   rw [An];refine Xt λi=>?_
   by_cases hi:i<p.length
   ·simp [X2 hi,List.getD,Qd hi]
   ·simp [Qp,hi]
  rw [e];exact en tt [.f (by simp),.c [] (Cj (G8 (p.map (· / g))) (by simp; exact hl) (Qdu hp g))] rfl rfl trivial
theorem Qdw {p:List Int} (hl:p.length<8589934592) (hp:Bd 4294967295 p):Ua Tryz.prog 309 [.one (.row [[pl p]])] [.agg (Gh (Re p))]:=by
 refine Gu Tryz.func309 rfl ?_;refine go tt [.o 3 51 2] rfl trivial ?_;refine lp (S:=Nat) 2 (λL1 i=>(8,.v (.one (.int .i64 (i:Int))))::(3,.v (.one (.orow 1 2 none)))::L1) (λi=>[.blk 51 [.bool false,.nils],.row false 51 2 (if i=0 then [] else p.map Gh)]) (λi=>1-i) (λi=>i<=1) 0 (Qi _) rfl (λ_ _=>rfl) rfl λi hi=>?_
 rcases (show i=0\/i=1 by omega) with rfl | rfl
 ·refine go tt [.t rfl,.x (i:=0) (xs:=[pl p]) rfl,.s (Qjb p)] rfl (by simp [W9]; omega) ?_;exact rd 1 (by omega) (by omega) rfl
 ·exact en tt [.f rfl,.c [] (Q3q (G8 p) hp)] rfl rfl trivial
theorem Q4o {p:List Int} (tp:Ue p) (hl':p.length<8589934592) (hp:Bd 4294967295 p):Ua Tryz.prog 304 [pr p] [.agg (Gh (if p.length=0 then 0 else Fu p)),pr (Ug p)]:=by
 have hl:p.length<274877906944:=by omega
 have cn:=Hm tp hl hp;by_cases h0:p.length=0
 ·have e:p=[]:=Qh h0;subst e;exact w tt Tryz.func304 rfl [.c [] cn,.t rfl] rfl (by simp [Du,Ug]; rfl) trivial
 ·have hpf:Ug p=Ns p (Fu p):=by unfold Ug; rw [if_neg h0]
  rw [if_neg h0,hpf];have co:=Qxp hl hp (Q6t hp) (Qzp tp h0) Qcy;by_cases hneg:Un p<0
  ·have e:Fu p=-Re p:=by unfold Fu; rw [if_pos hneg]
   rw [e] at co ⊢;exact w tt Tryz.func304 rfl [.c [] cn,.f (by simpa using h0),.c [] (Qdw hl' hp),.c [] (Bj tp hl hp),.t (by simpa [Un] using hneg),.c [] (Qho (Ub _) (O9 hp)),.c [] co] rfl rfl trivial
  ·have e:Fu p=Re p:=by unfold Fu; rw [if_neg hneg]
   rw [e] at co ⊢;exact w tt Tryz.func304 rfl [.c [] cn,.f (by simpa using h0),.c [] (Qdw hl' hp),.c [] (Bj tp hl hp),.f (by simpa [Un] using hneg),.c [] co] rfl rfl trivial
theorem La {p:List Int} (hp:Pb p):Ua Tryz.prog 268 [pr p] [pr (Ug p)] :=
 w tt Tryz.func268 rfl [.c [] (Q4o hp.t hp.ln' hp.bd)] rfl rfl trivial
theorem Mj (p:List Int):Ua Tryz.prog 161 [pr p] [.one (.int .i64 ((p.length:Int)-1))]:=by
 have h:Ua Tryz.prog 161 [pr p] [.one (.int .i64 (((p.map Gh).length:Int)-1))]:=Gu Tryz.func161 rfl (ln 0 rfl rfl λhl=>en tt [] rfl rfl (by simp [W9] at hl ⊢; omega));rw [Q4] at h; exact h
theorem En (i:Nat) (x:Int):(mono i x).length=i+1:=by simp [mono]
theorem Qhg {s i:Nat} {x:Int} (h:Uj x<=s):Bd s (mono i x):=λz hz=>by
 simp only [mono,Qz,Qt] at hz;rcases hz with hz | rfl
 ·rw [(List.mem_replicate.1 hz).2,Py]; exact Qi _
 ·exact h
def stq (c:Int) (i:Nat) (x:Int) (q:List Int):List Int:=Qat (Ut q c) (mono i x)
def str (b:List Int) (c:Int) (i:Nat) (x:Int) (r:List Int):List Int:=To (Ut r c) (Ff (trim (mono i x)) b)
theorem Zga {u t i:Nat} {c x:Int} {q:List Int} (hq:Bd u q) (hc:Uj c<=t) (hx:Uj x<=u):Bd (u+t+8) (stq c i x q) :=
 W8 (Qb0 (Ur hq hc) (Qhg hx)) (by omega)
theorem Zcq {c x:Int} {i:Nat} {q:List Int}:(stq c i x q).length<=max q.length (i+1):=by
 have h:=I9 (Ut q c) (mono i x);have h1:=Ul q c;rw [En] at h;unfold stq; omega
theorem Qn3 {i:Nat} {x:Int} {b:List Int}:(Ff (trim (mono i x)) b).length<=i+b.length:=by
 have h:=Pz (trim (mono i x)) b;have h1:=Ha (mono i x);rw [En] at h1; omega
theorem Qxc {u t i:Nat} {x:Int} {b:List Int} (hb:Bd t b) (hx:Uj x<=u) (hi:i<=64):Bd (u+t+7) (Ff (trim (mono i x)) b) :=
 Bi (Rp (Qhg hx)) hb (Zy (Ha _) (by rw [En]; omega))
theorem Qtw {u t i:Nat} {c x:Int} {b r:List Int} (hr:Bd u r) (hb:Bd t b) (hc:Uj c<=t) (hx:Uj x<=u) (hi:i<=64):Bd (u+t+8) (str b c i x r) :=
 W8 (Pg (Ur hr hc) (Qxc hb hx hi)) (by omega)
theorem Qn5 {c x:Int} {i:Nat} {b r:List Int}:(str b c i x r).length<=max r.length (i+b.length):=by
 have h:=Ry (Ut r c) (Ff (trim (mono i x)) b);have h1:=Ul r c;have h2:=Qn3 (i:=i) (x:=x) (b:=b);unfold str; omega
theorem Qry (i:Nat) (x:Int):((List.replicate (i+1) (0:Int)).map Gh).set i (Gh x)=(mono i x).map Gh:=by
 rw [Qvs,mono];congr 1;refine Xt λj=>?_
 simp only [Yf,List.getElem?_append,Jx,X9];by_cases h:j=i
 ·subst h; simp
 ·rw [if_neg (by omega)];by_cases h2:j<i
  ·simp [h2]; omega
  ·rw [if_neg (by omega),if_neg h2];cases hj:j-i with
   | zero=>omega
   | succ m=>simp
theorem Qzc (i:Nat) {x:Int} {y:List LV} (h:y.map Qcq=Gh x):(((List.replicate (i+1) [LV.bool false,LV.nils]).set i y).map λc=>c.map Qcq)=(mono i x).map Gh:=by
 rw [Vm,Qg4,h]; exact Qry i x
theorem Ol {b:List Int} {c:Int} {i:Nat} {q r:List Int} {x:Int} (hx:x=if r.length=b.length+i then Un r else 0):psd b c (i+1) (q,r)=psd b c i (stq c i x q,str b c i x r):=by
 subst hx; rfl
theorem Q32 {a b:List Int} (ha:Pb a) (hb:Pb b) (h0:b.length≠0):Ua Tryz.prog 305 [pr a,pr b] [pr (psd b (Un b) (a.length+1-b.length) ([],a)).1,pr (Sk a b),.one (.int .i64 ((a.length+1-b.length:Nat):Int)),.one (.int .i64 0)]:=by
 have hal:=ha.l;have hbl:=hb.l;have hlb:Uj (Un b)<=16777216:=Px hb.b;obtain ⟨c,hc⟩:=nmE (Un b);have cl:=Bj hb.t hb.ln hb.bd;rw [show b.getD (b.length-1) 0=c from hc.symm] at cl;obtain ⟨k,hk⟩:=nmE (a.length+1-b.length);unfold Sk;rw [<-hc,<-hk];rw [<-hc] at hlb;refine Gu Tryz.func305 rfl ?_;refine go tt [.z 4,.c [] (Hm ha.t ha.ln ha.bd),.c [] (Hm hb.t hb.ln hb.bd),.f (by simpa using h0),.c [] cl,.c [] (Mj a),.c [] (Mj b),.r 27 (eI (b:=(k:Int)) (by omega))] rfl (by simp [W9]; omega) ?_;refine lp (S:=Nat×List Int×List Int) 1 (λL1 s=>(4,.v (pr s.2.1))::(5,.v (pr s.2.2))::(9,.v (.one (.int .i64 ((s.1:Int)-1))))::L1) (λ_=>[.blk 51 (Gh c)]) (λs=>s.1) (λs=>s.1<=k/\Ue s.2.2/\s.2.1.length<=66/\s.2.2.length<=a.length/\Bd (16777216+(k-s.1)*16777224) s.2.1/\Bd (16777216+(k-s.1)*16777224) s.2.2/\psd b c s.1 s.2=psd b c k ([],a)) (k,[],a) ⟨Qk _,ha.t,by simp,Qk _,Ir,by simpa using ha.b,rfl⟩ rfl (λ_ _=>rfl) rfl λ⟨i,q,r⟩ ⟨j1,j2,j3,j4,j5,j6,j7⟩=>?_
 dsimp only at j1 j2 j3 j4 j5 j6 j7 ⊢;rw [<-j7];cases i with
 | zero=>exact en tt [.f (by simp)] rfl rfl trivial
 |
  succ i =>
  obtain ⟨x,hx⟩:=nmE (if r.length=b.length+i then Un r else 0);obtain ⟨u,hu⟩:=nmE (16777216+(k-(i+1))*16777224);rw [<-hu] at j5 j6;have hub:u<=1107296256:=by
   have:(k-(i+1))*16777224<=64*16777224:=Qw _ (by omega);omega
  have hxs:Uj x<=u:=by
   rw [hx]; split
   ·exact Px j6
   ·rw [Py]; exact Qi _
  have cs:=Bv (p:=q) (c:=c) (by omega) (W8 j5 (by omega)) (by omega);have cs2:=Bv (p:=r) (c:=c) (by omega) (W8 j6 (by omega)) (by omega);have l1:=Ul q c;have l2:=Ul r c;have ca:=Q3x (p:=Ut q c) (q:=mono i x) (by omega) (by rw [En]; omega) (W8 (Ur j5 hlb) (by omega)) (W8 (Qhg hxs) (by omega));have cm:=Qm1 (p0:=mono i x) hb.t (by rw [En]; omega) (by omega) (Qhg hxs) hb.b (by omega);have l3:=Qn3 (i:=i) (x:=x) (b:=b);have cb:=Qhq (p:=Ut r c) (q:=Ff (trim (mono i x)) b) (by omega) (by omega) (W8 (Ur j6 hlb) (by omega)) (W8 (Qxc hb.b hxs (by omega)) (by omega));have hst:=Ol (b:=b) (c:=c) (q:=q) hx;have hI:i<=k/\Ue (str b c i x r)/\(stq c i x q).length<=66/\(str b c i x r).length<=a.length/\Bd (16777216+(k-i)*16777224) (stq c i x q)/\Bd (16777216+(k-i)*16777224) (str b c i x r):=by
   have l5:=Zcq (c:=c) (x:=x) (i:=i) (q:=q);have l6:=Qn5 (c:=c) (x:=x) (i:=i) (b:=b) (r:=r);have hku:u+16777216+8=16777216+(k-i)*16777224:=by
    rw [hu,show k-i=(k-(i+1))+1 from by omega,Jj]; omega
   refine ⟨by omega,Us _ _,by omega,by omega,?_,?_⟩
   ·rw [<-hku]; exact Zga j5 hlb hxs
   ·rw [<-hku]; exact Qtw j6 hb.b hlb hxs (by omega)
  rw [hst];by_cases h:r.length=b.length+i
  ·refine go tt [.t (by simp <;> omega),.c [] (Mj r),.c [] (Mj b),.t (by simp; omega),.c [] (Bj j2 (by omega) (W8 j6 (by omega))),.r 44 (eI (b:=((i+1:Nat):Int)) (by omega)),.i (i+1),.i (i+1),.r 47 (eI (b:=(i:Int)) (by omega)),.i i] rfl (by simp [W9]; omega) ?_;refine nl 2 rfl rfl rfl ?_;rw [Qzc i (x:=x) (by rw [hx,if_pos h]; rfl)];refine go tt [.c [] cs,.c [] ca,.c [] cs2,.c [] cm,.c [] cb,.r 33 (eI (b:=(i:Int)-1) (by omega))] rfl (by simp [W9]; omega) ?_;exact rd (i,stq c i x q,str b c i x r) (by dsimp only; omega) ⟨hI.1,hI.2.1,hI.2.2.1,hI.2.2.2.1,hI.2.2.2.2.1,hI.2.2.2.2.2,rfl⟩ rfl
  ·refine go tt [.t (by simp <;> omega),.c [] (Mj r),.c [] (Mj b),.f (by simp; omega),.r 44 (eI (b:=((i+1:Nat):Int)) (by omega)),.i (i+1),.i (i+1),.r 47 (eI (b:=(i:Int)) (by omega)),.i i] rfl (by simp [W9]; omega) ?_;refine nl 2 rfl rfl rfl ?_;rw [Qzc i (x:=x) (by rw [hx,if_neg h,Du]; rfl)];refine go tt [.c [] cs,.c [] ca,.c [] cs2,.c [] cm,.c [] cb,.r 33 (eI (b:=(i:Int)-1) (by omega))] rfl (by simp [W9]; omega) ?_;exact rd (i,stq c i x q,str b c i x r) (by dsimp only; omega) ⟨hI.1,hI.2.1,hI.2.2.1,hI.2.2.2.1,hI.2.2.2.2.1,hI.2.2.2.2.2,rfl⟩ rfl
theorem Q7x {b:List Int} {c:Int} (hb:Bd 16777216 b) (hc:Uj c<=16777216) {n:Nat}:∀ (i u:Nat) (q r:List Int),i<=64->i+b.length<=n+1->Ue r->r.length<=n->Bd u r->Ue (psd b c i (q,r)).2/\(psd b c i (q,r)).2.length<=n/\Bd (u+i*16777224) (psd b c i (q,r)).2
 | 0,u,q,r,_,_,h1,h2,h3=>⟨h1,h2,by simpa [psd] using h3⟩
 |
  i+1,u,q,r,hi,hn,h1,h2,h3=>by
  rw [Ol rfl];have hx:Uj (if r.length=b.length+i then Un r else 0)<=u:=by
   split
   ·exact Px h3
   ·rw [Py]; exact Qi _
  have l6:=Qn5 (c:=c) (x:=if r.length=b.length+i then Un r else 0) (i:=i) (b:=b) (r:=r);have:=Q7x hb hc (n:=n) i (u+16777216+8) (stq c i (if r.length=b.length+i then Un r else 0) q) (str b c i (if r.length=b.length+i then Un r else 0) r) (by omega) (by omega) (Us _ _) (by omega) (Qtw h3 hb hc hx (by omega));exact ⟨this.1,this.2.1,W8 this.2.2 (by omega)⟩
theorem Qzs {a b:List Int} (ha:Pb a) (hb:Pb b) (h0:b.length≠0):Ue (Sk a b)/\(Sk a b).length<=a.length/\Bd 1107296256 (Sk a b):=by
 have hal:=ha.l;by_cases h:b.length<=a.length+1
 ·obtain ⟨h1,h2,h3⟩:=Q7x hb.b (Px hb.b) (n:=a.length) (a.length+1-b.length) 16777216 [] a (by omega) (by omega) ha.t (Qk _) ha.b;refine ⟨h1,h2,W8 h3 ?_⟩;have:(a.length+1-b.length)*16777224<=64*16777224:=Qw _ (by omega);omega
 ·have e:Sk a b=a:=by unfold Sk; rw [show a.length+1-b.length=0 from by omega]; rfl
  rw [e];exact ⟨ha.t,Qk _,W8 ha.b (by omega)⟩
theorem Qc2 {a b r:List Int} {s n:Nat} (h1:Ue r) (h2:r.length<=n) (h3:Bd s r):Ue (Pp a b r)/\(Pp a b r).length<=n/\Bd s (Pp a b r):=by
 unfold Pp; split
 ·exact ⟨Us _ _,Qa (Dq r) h2,Qb1 h3⟩
 ·exact ⟨h1,h2,h3⟩
theorem Qjd {r:List Int} {s n:Nat} (h2:r.length<=n) (h3:Bd s r):Ue (Dy r)/\(Dy r).length<=n/\Bd s (Dy r):=by
 unfold Dy; split
 ·exact ⟨rfl,by simp,Ir⟩
 ·exact ⟨A3 _ _,Qa (Qlm _ _) h2,Qhi h3 _⟩
theorem Qcz {a b:List Int} (ha:Pb a) (hb:Pb b) (h0:b.length≠0):Ue (Gb a b)/\(Gb a b).length<=a.length/\Bd 1107296256 (Gb a b):=by
 obtain ⟨h1,h2,h3⟩:=Qzs ha hb h0;obtain ⟨h4,h5,h6⟩:=Qc2 (a:=a) (b:=b) h1 h2 h3;exact Qjd h5 h6
theorem Q34 {a b:List Int} (ha:Pb a) (hb:Pb b) (h0:b.length≠0):Ua Tryz.prog 269 [pr a,pr b] [pr (Gb a b),.one (.int .i64 0)]:=by
 obtain ⟨h1,h2,h3⟩:=Qzs ha hb h0;obtain ⟨h4,h5,h6⟩:=Qc2 (a:=a) (b:=b) h1 h2 h3;have hal:=ha.l;have cp:=Q32 ha hb h0;have cl:=Bj hb.t hb.ln hb.bd;have cn:=Q30 (p:=Sk a b) (by omega) (W8 h3 (by omega));unfold Gb;obtain ⟨r,hr⟩:=nmE (Pp a b (Sk a b));have cc:=Qdw (p:=r) (by rw [hr]; omega) (by rw [hr]; exact W8 h6 (by omega));rw [<-hr] at h4 h5 h6 ⊢;obtain ⟨k,hk⟩:=nmE (a.length+1-b.length);rw [<-hk] at cp;have em:((k:Int).tmod 2)=((k % 2:Nat):Int):=by rw [Yq (by omega)]; omega
 have key:Dy r=if r.length=0 then [] else Ns r (Re r):=rfl
 by_cases hz:r.length=0
 ·rw [key,if_pos hz];by_cases hodd:k % 2=1
  ·by_cases hneg:Un b<0
   ·have e:r=S7 (Sk a b):=by rw [hr]; unfold Pp; rw [if_pos ⟨by rw [<-hk]; exact hodd,hneg⟩]
    rw [e] at hz;exact w tt Tryz.func269 rfl [.c [] cp,.f (by simp),.r 22 (eI em),.t (by simp; omega),.c [] cl,.t (by simpa [Un] using hneg),.c [] cn,.t (by simpa using hz)] rfl rfl (by simp [W9])
   ·have e:r=Sk a b:=by rw [hr]; unfold Pp; rw [if_neg (λh=>hneg h.2)]
    rw [e] at hz;exact w tt Tryz.func269 rfl [.c [] cp,.f (by simp),.r 22 (eI em),.t (by simp; omega),.c [] cl,.f (by simpa [Un] using hneg),.t (by simpa using hz)] rfl rfl (by simp [W9])
  ·have e:r=Sk a b:=by rw [hr]; unfold Pp; rw [if_neg (λh=>hodd (by rw [hk]; exact h.1))]
   rw [e] at hz;exact w tt Tryz.func269 rfl [.c [] cp,.f (by simp),.r 22 (eI em),.f (by simp; omega),.f rfl,.t (by simpa using hz)] rfl rfl (by simp [W9])
 ·rw [key,if_neg hz];have cd:=Qxp (p:=r) (g:=Re r) (by omega) (W8 h6 (by omega)) (O9 (W8 h6 (by omega))) (Es h4 hz) C5;by_cases hodd:k % 2=1
  ·by_cases hneg:Un b<0
   ·have e:r=S7 (Sk a b):=by rw [hr]; unfold Pp; rw [if_pos ⟨by rw [<-hk]; exact hodd,hneg⟩]
    rw [e] at hz cc cd ⊢;exact w tt Tryz.func269 rfl [.c [] cp,.f (by simp),.r 22 (eI em),.t (by simp; omega),.c [] cl,.t (by simpa [Un] using hneg),.c [] cn,.f (by simpa using hz),.c [] cc,.c [] cd] rfl rfl (by simp [W9])
   ·have e:r=Sk a b:=by rw [hr]; unfold Pp; rw [if_neg (λh=>hneg h.2)]
    rw [e] at hz cc cd ⊢;exact w tt Tryz.func269 rfl [.c [] cp,.f (by simp),.r 22 (eI em),.t (by simp; omega),.c [] cl,.f (by simpa [Un] using hneg),.f (by simpa using hz),.c [] cc,.c [] cd] rfl rfl (by simp [W9])
  ·have e:r=Sk a b:=by rw [hr]; unfold Pp; rw [if_neg (λh=>hodd (by rw [hk]; exact h.1))]
   rw [e] at hz cc cd ⊢;exact w tt Tryz.func269 rfl [.c [] cp,.f (by simp),.r 22 (eI em),.f (by simp; omega),.f rfl,.f (by simpa using hz),.c [] cc,.c [] cd] rfl rfl (by simp [W9])
theorem Zck {s:Nat} {x:Int} (h:Uj x<=s) (g:Int):Uj (x / g)<=s:=Qdu (p:=[x]) (λz hz=>by rw [Qt.1 hz]; exact h) g _ (by simp)
def sta (b:List Int) (i:Nat) (x:Int) (a:List Int):List Int:=To a (Ff (trim (mono i x)) b)
theorem Zf9 {u t i:Nat} {x:Int} {b a:List Int} (ha:Bd u a) (hb:Bd t b) (hx:Uj x<=u) (hi:i<=64):Bd (u+t+8) (sta b i x a) :=
 W8 (Pg ha (Qxc hb hx hi)) (by omega)
theorem Qy4 {x:Int} {i:Nat} {b a:List Int}:(sta b i x a).length<=max a.length (i+b.length):=by
 have h:=Ry a (Ff (trim (mono i x)) b);have h2:=Qn3 (i:=i) (x:=x) (b:=b);unfold sta; omega
theorem Zap (s n:Nat):Bd s (List.replicate n 0):=λz hz=>by rw [(List.mem_replicate.1 hz).2,Py]; exact Qi _
theorem Zf8 {s i:Nat} {l:List Int} {x:Int} (h:Bd s l) (hx:Uj x<=s):Bd s (l.set i x):=λz hz=>by
 rcases J7 hz with hz | rfl
 ·exact h z hz
 ·exact hx
theorem Q3y {a b q:List Int} (ha:Pb a) (hb:Pb b) (h:Oi a b=some q):Ua Tryz.prog 340 [pr a,pr b] [pr q,.one (.int .i64 0)]:=by
 unfold Oi at h
 split at h
 ·cases h
 rename_i h0;obtain ⟨k,hk⟩:=nmE (a.length+1-b.length);rw [<-hk] at h;obtain ⟨q',hq,hq2⟩:=Qe.1 h;obtain ⟨rfl,hpb⟩:=Ae (G0 _) hq2;have hal:=ha.l;have hbl:=hb.l;refine Gu Tryz.func340 rfl ?_;refine go tt [.c [] (Hm ha.t ha.ln ha.bd),.c [] (Hm hb.t hb.ln hb.bd),.f (by simpa using h0),.r 24 (eI (b:=(k:Int)) (by simp; omega)),.i k,.i k,.r 27 (eI (b:=(k:Int)) (by simp))] rfl (by simp [W9]; omega) ?_;refine nl 0 rfl rfl rfl ?_;rw [Qg4];refine lp (S:=Nat×List Int×List Int) 1 (λL1 s=>(0,.v (pr s.2.1))::(7,.v (.one (.int .i64 ((s.1:Int)-1))))::L1) (λs=>[.row false 51 2 (s.2.2.map Gh)]) (λs=>s.1) (λs=>s.1<=k/\Ue s.2.1/\s.2.1.length<=a.length/\Bd (16777216+(k-s.1)*16777224) s.2.1/\s.2.2.length=k/\Bd 1107296256 s.2.2/\Qom b s.1 s.2.1 s.2.2=some q') (k,a,List.replicate k 0) ⟨Qk _,ha.t,Qk _,by simpa using ha.b,by simp,Zap _ _,hq⟩ rfl (λ_ _=>rfl) rfl λ⟨i,A,Q⟩ ⟨j1,j2,j3,j4,j5,j7,j6⟩=>?_
 dsimp only at j1 j2 j3 j4 j5 j6 j7 ⊢;cases i with
 |
  zero =>
  simp only [Qom] at j6
  split at j6
  ·rename_i hA;injection j6 with j6; subst j6;exact en tt [.f (by simp),.f (by simpa using hA),.c [] (Cj (G8 Q) (by omega) (W8 j7 (by omega)))] rfl rfl trivial
  ·cases j6
 |
  succ i =>
  obtain ⟨u,hu⟩:=nmE (16777216+(k-(i+1))*16777224);rw [<-hu] at j4;have hub:u<=1107296256:=by
   have:(k-(i+1))*16777224<=64*16777224:=Qw _ (by omega);omega
  have hku:u+16777216+8=16777216+(k-i)*16777224:=by
   rw [hu,show k-i=(k-(i+1))+1 from by omega,Jj]; omega
  simp only [Qom] at j6;by_cases hlt:A.length<b.length+i
  ·rw [if_pos hlt] at j6;refine go tt [.t (by simp <;> omega),.c [] (Mj A),.c [] (Mj b),.t (by simp; omega),.r 32 (eI (b:=(i:Int)-1) (by omega))] rfl (by simp [W9]; omega) ?_;exact rd (i,A,Q) (by dsimp only; omega) ⟨by dsimp only; omega,j2,j3,W8 j4 (by dsimp only; omega),j5,j7,j6⟩ rfl
  ·rw [if_neg hlt] at j6
   split at j6
   ·rename_i hdv;obtain ⟨x,hx⟩:=nmE (Un A / Un b);rw [<-hx] at j6;have hxs:Uj x<=u:=by rw [hx]; exact Zck (Px j4) _
    have ce:=D7 (Ub (Un A)) (Ub (Un b)) (Qa (Px j4) (by omega)) (Qa (Px hb.b) (by omega)) (Bn hb.t h0) hdv;rw [<-hx] at ce;have cm:Ua Tryz.prog 242 [.one (.row ((mono i x).map Gh)),pr b] [pr (Ff (trim (mono i x)) b)]:=Qm1 (p0:=mono i x) hb.t (by rw [En]; omega) (by omega) (Qhg hxs) hb.b (by omega);have l3:=Qn3 (i:=i) (x:=x) (b:=b);have l4:=Qy4 (i:=i) (x:=x) (b:=b) (a:=A);have cb:=Qhq (p:=A) (q:=Ff (trim (mono i x)) b) (by omega) (by omega) (W8 j4 (by omega)) (W8 (Qxc hb.b hxs (by omega)) (by omega));refine go tt [.t (by simp <;> omega),.c [] (Mj A),.c [] (Mj b),.f (by simp; omega),.c [] (Bj j2 (by omega) (W8 j4 (by omega))),.c [] (Bj hb.t hb.ln hb.bd),.c [] ce,.f rfl,.r 51 (eI (b:=(i:Int)) (by omega)),.i i,.r 55 (eI (b:=((i+1:Nat):Int)) (by omega)),.i (i+1),.i (i+1),.r 58 (eI (b:=(i:Int)) (by omega))] rfl (by simp [W9]; omega) ?_;refine nl 2 rfl rfl rfl ?_;rw [Qg4,Qvs];rw [<-Qry i x] at cm;refine go tt [.i i,.c [] cm,.c [] cb,.r 32 (eI (b:=(i:Int)-1) (by omega))] rfl (by simp [W9]; omega) ?_;exact rd (i,sta b i x A,Q.set i x) (by dsimp only; omega) ⟨by dsimp only; omega,Us _ _,by dsimp only; omega,by dsimp only; rw [<-hku]; exact Zf9 j4 hb.b hxs (by omega),by simpa using j5,Zf8 j7 (Nat.le_trans hxs hub),j6⟩ rfl
   ·cases j6
theorem Qvq {a b q:List Int} (h:Oi a b=some q):Pb q:=by
 unfold Oi at h
 split at h
 ·cases h
 ·obtain ⟨q',_,hq2⟩:=Qe.1 h;obtain ⟨rfl,hpb⟩:=Ae (G0 _) hq2;exact hpb
theorem Q4s {a b q:List Int} (ha:Pb a) (hb:Pb b) (h:Oi a b=some q):Ua Tryz.prog 327 [pr a,pr b] [pr q] :=
 w tt Tryz.func327 rfl [.c [] (Q3y ha hb h)] rfl rfl trivial
theorem Qpj:∀ {k:Nat} {a b g:List Int},Pb a->Pb b->Qe6 k a b=some g->Pb g
 | 0,_,_,_,_,_,h=>by cases h
 |
  k+1,a,b,g,ha,hb,h=>by
  simp only [Qe6] at h
  split at h
  ·injection h with h; subst h; exact ha
  ·rename_i h0;obtain ⟨r,hr,h⟩:=Qe.1 h;obtain ⟨rfl,hpb⟩:=Ae (Qcz ha hb h0).1 hr;exact Qpj hb hpb h
theorem Qxx {a b g:List Int} (ha:Pb a) (hb:Pb b) (h:Om a b=some g):Ua Tryz.prog 215 [pr a,pr b] [pr g]:=by
 unfold Om at h;obtain ⟨g',h2,rfl⟩:=Vd.1 h;have hg:=Qpj (Hp ha) (Hp hb) h2;refine Gu Tryz.func215 rfl ?_;refine go tt [.c [] (La ha),.c [] (La hb)] rfl trivial ?_;refine lp (S:=Nat×List Int×List Int) 0 (λL1 s=>(0,.v (pr s.2.1))::(1,.v (pr s.2.2))::L1) (λ_=>[]) (λs=>s.1) (λs=>Pb s.2.1/\Pb s.2.2/\Qe6 s.1 s.2.1 s.2.2=some g') (66,Ug a,Ug b) ⟨Hp ha,Hp hb,h2⟩ rfl (λ_ _=>rfl) rfl λ⟨k,A,C⟩ ⟨j1,j2,j3⟩=>?_
 dsimp only at j1 j2 j3 ⊢;cases k with
 | zero=>cases j3
 |
  succ k =>
  simp only [Qe6] at j3
  split at j3
  ·rename_i h0;injection j3 with j3; subst j3;exact en tt [.f (by simpa using h0),.c [] (La j1)] rfl rfl trivial
  ·rename_i h0;obtain ⟨r,hr,j3⟩:=Qe.1 j3;obtain ⟨rfl,hpb⟩:=Ae (Qcz j1 j2 h0).1 hr;refine go tt [.t (by simp; omega),.c [] (Q34 j1 j2 h0)] rfl trivial ?_;exact rd (k,C,Gb A C) (by dsimp only; omega) ⟨j2,hpb,j3⟩ rfl
theorem Qev {a b g:List Int} (ha:Pb a) (hb:Pb b) (h:Om a b=some g):Pb g:=by
 unfold Om at h;obtain ⟨g',h2,rfl⟩:=Vd.1 h;exact Hp (Qpj (Hp ha) (Hp hb) h2)
theorem Q3z {a b g:List Int} (ha:Pb a) (hb:Pb b) (h:Qoo a b=some g):Ua Tryz.prog 160 [.one (.row (Sr [a,b]))] [pr g]:=by
 unfold Qoo at h;obtain ⟨g1,h1,h2⟩:=Qe.1 h;have hg1:=Qev Qet ha h1;refine Gu Tryz.func160 rfl ?_;refine go tt [.z 3] rfl trivial ?_;refine lp (S:=Nat) 0 (λL1 i=>(8,.v (.one (.int .i64 (i:Int))))::(3,.v (pr (if i=0 then [] else if i=1 then g1 else g)))::L1) (λ_=>[]) (λi=>2-i) (λi=>i<=2) 0 (Qi _) rfl (λ_ _=>rfl) rfl λi hi=>?_
 rcases (show i=0\/i=1\/i=2 by omega) with rfl | rfl | rfl
 ·refine go tt [.t rfl,.x (Rj (i:=0) (p:=a) rfl),.c [] (Qxx Qet ha h1)] rfl (by simp [W9]) ?_;exact rd 1 (by omega) (by omega) rfl
 ·refine go tt [.t rfl,.x (Rj (i:=1) (p:=b) rfl),.c [] (Qxx hg1 hb h2)] rfl (by simp [W9]) ?_;exact rd 2 (by omega) (by omega) rfl
 ·exact en tt [.f rfl] rfl rfl trivial
theorem Q7k {a b g:List Int} (ha:Pb a) (hb:Pb b) (h:Qoo a b=some g):Pb g:=by
 unfold Qoo at h;obtain ⟨g1,h1,h2⟩:=Qe.1 h;exact Qev (Qev Qet ha h1) hb h2
theorem Qi9 {p d:List Int} (h:chk (U7 p)=some d):d=U7 p/\Pb (U7 p):=Ae (Us _ _) h
theorem Qhr {a g:List Int} (ha:Pb a) (h:Ss a=some g):Ua Tryz.prog 298 [pr a] [pr g]:=by
 have hp:=Hp ha;unfold Ss at h
 split at h
 ·rename_i h0;injection h with h; subst h;exact w tt Tryz.func298 rfl [.c [] (La ha),.c [] (Mj _),.t (by simp; omega)] rfl rfl trivial
 ·rename_i h0;obtain ⟨d,h1,h⟩:=Qe.1 h;obtain ⟨rfl,hd⟩:=Qi9 h1;obtain ⟨g1,h1,h⟩:=Qe.1 h;exact w tt Tryz.func298 rfl [.c [] (La ha),.c [] (Mj _),.f (by simp; omega),.c [] (Ef hp.ln hp.bd),.c [] (Qxx hp hd h1),.c [] (Q4s hp (Qev hp hd h1) h)] rfl rfl trivial
theorem Qeu {a g:List Int} (ha:Pb a) (h:Ss a=some g):Pb g:=by
 unfold Ss at h
 split at h
 ·injection h with h; subst h; exact Hp ha
 ·obtain ⟨d,h1,h⟩:=Qe.1 h;obtain ⟨g1,h1,h⟩:=Qe.1 h;exact Qvq h
theorem Q7l {p:List Int} (h:Pb p):Pb (S7 p):=⟨Us _ _,Qa (Dq p) h.l,Qb1 h.b⟩
theorem Qup:∀ {k:Nat} {a b:List Int} {l:List (List Int)},Pb a->Pb b->chF k a b=some l->l.length≤k/\∀ p∈l,Pb p
 | 0,_,_,_,_,_,h=>by cases h
 |
  k+1,a,b,l,ha,hb,h=>by
  simp only [chF] at h
  split at h
  ·injection h with h; subst h; exact ⟨by simp,λp hp=>by cases hp⟩
  ·rename_i h0;obtain ⟨r,hr,h⟩:=Qe.1 h;obtain ⟨rfl,hpb⟩:=Ae (Qcz ha hb h0).1 hr;obtain ⟨l',h1,h⟩:=Qe.1 h;injection h with h; subst h;obtain ⟨i1,i2⟩:=Qup hb (Q7l hpb) h1;refine ⟨by simp; exact i1,λp hp=>?_⟩;rcases Qo.1 hp with rfl | hp
   ·exact hb
   ·exact i2 p hp
theorem chain_ok {p:List Int} {l:List (List Int)} (hp:Pb p) (h:chain p=some l):l.length≤67/\∀ q∈l,Pb q:=by
 unfold chain at h;obtain ⟨a,h1,h⟩:=Qe.1 h;have ha:=Qeu hp h1
 split at h
 ·cases h
 ·obtain ⟨d,h2,h⟩:=Qe.1 h;obtain ⟨rfl,hd⟩:=Qi9 h2;obtain ⟨l',h3,h⟩:=Qe.1 h;injection h with h; subst h;obtain ⟨i1,i2⟩:=Qup ha (Hp hd) h3;refine ⟨by simp; omega,λp hp=>?_⟩;rcases Qo.1 hp with rfl | hp
  ·exact ha
  ·exact i2 p hp
theorem Qjc (l:List (List Int)) (p:List Int):Sr l++[[pl p]]=Sr (l++[p]):=by simp [Sr]
theorem C6 (l:List (List Int)):(Sr l).length=l.length:=by simp [Sr]
theorem Q36 {p:List Int} {l:List (List Int)} (hp:Pb p) (h:chain p=some l):Ua Tryz.prog 275 [pr p] [.one (.sh [.row (Sr l)]),.one (.int .i64 0)]:=by
 unfold chain at h;obtain ⟨a,h1,h⟩:=Qe.1 h;have ha:=Qeu hp h1
 split at h
 ·cases h
 rename_i h0;obtain ⟨d,h2,h⟩:=Qe.1 h;obtain ⟨rfl,hd⟩:=Qi9 h2;obtain ⟨l',h3,h⟩:=Qe.1 h;injection h with h; subst h;refine Gu Tryz.func275 rfl ?_;refine go tt [.c [] (Qhr hp h1),.f (by simpa using h0),.lo,.c [] (Ef ha.ln ha.bd),.c [] (Q4o hd.t hd.ln' hd.bd)] rfl (by simp [W9]) ?_;obtain ⟨z,hz⟩:=nmE (if (U7 a).length=0 then 0 else Fu (U7 a));rw [<-hz];refine sb [(4,.v (pr a)),(7,.v (pr (Ug (U7 a)))),(5,.v (.one (.ow 1 0)))] [.row false 48 1 [[pl a]],.blk 356 [.orow 0 1 none],.blk 51 (Gh z)] rfl rfl ?_;have hll:=(Qup ha (Hp hd) h3).1;refine lp (S:=Nat×List (List Int)×List Int×List Int) 3 (λL1 s=>(4,.v (pr s.2.2.1))::(7,.v (pr s.2.2.2))::L1) (λs=>[.row false 48 1 (Sr s.2.1),.blk 356 [.orow 0 1 none],.blk 51 (Gh z)]) (λs=>s.1) (λs=>Pb s.2.2.1/\Pb s.2.2.2/\∃ m,chF s.1 s.2.2.1 s.2.2.2=some m/\s.2.1++m=a::l') (66,[a],a,Ug (U7 a)) ⟨ha,Hp hd,l',h3,rfl⟩ rfl (λ_ _=>rfl) rfl λ⟨k,out,A,C⟩ ⟨j1,j2,m,j3,j4⟩=>?_
 dsimp only at j1 j2 j3 j4 ⊢;have hol:out.length<=67:=by have:=congrArg List.length j4; simp at this; omega
 cases k with
 | zero=>cases j3
 |
  succ k =>
  simp only [chF] at j3
  split at j3
  ·rename_i h0;injection j3 with j3; subst j3;rw [Xh] at j4;rw [<-j4];exact en tt [.f (by simpa using h0)] rfl rfl trivial
  ·rename_i h0;obtain ⟨r,hr,j3⟩:=Qe.1 j3;obtain ⟨rfl,hpb⟩:=Ae (Qcz j1 j2 h0).1 hr;obtain ⟨m',j6,j5⟩:=Qe.1 j3;injection j5 with j5; subst j5;refine go tt [.t (by simp; omega),.s (sz:=1) (λc hc=>by rw [Qt.1 hc]; rfl),.c [] (Q34 j1 j2 h0),.c [] (Q30 hpb.ln hpb.bd)] rfl (by simp [W9,C6]; omega) ?_;exact rd (k,out++[C],C,S7 (Gb A C)) (by dsimp only; omega) ⟨j2,Q7l hpb,m',j6,by rw [<-j4]; simp⟩ (by rw [Qjc]; rfl)
structure Tb (t:Tm):Prop where
 p:Pb t.p
 lo:Qb t.lo
 hi:Qb t.hi
theorem Qx5 (x y:Int):-1<=Mr x y/\Mr x y<=1:=by unfold Mr; split <;> (try split) <;> omega
theorem Af (a b:Rat):-1<=Fb a b/\Fb a b<=1:=Qx5 _ _
theorem Na (p:List Int) (q:Rat):-1<=U8 p q/\U8 p q<=1:=Qx5 _ _
theorem Qvg (p:List Int) (q:Rat):-1<=low p q/\low p q<=1:=by unfold low; split <;> exact Na _ _
theorem Qb.s31 {q:Rat} (h:Qb q):Qs 2147483647 q:=h.mono (by decide)
theorem Qb.s32 {q:Rat} (h:Qb q):Qs 4294967295 q:=h.mono (by decide)
theorem Qf6 {p:List Int} {q:Rat} (hp:Pb p) (hq:Qb q):Ua Tryz.prog 211 [pr p,.agg (rl q)] [.one (.int .i64 (U8 p q))]:=by
 have hm:p.length*(16777216+1)<=64*16777217:=Qw _ hp.l;exact Qxi hp.t hp.ln hp.b hq (by omega)
theorem Zjm {p:List Int} {q:Rat} (hp:Pb p) (hq:Qb q):Ua Tryz.prog 211 [pr (U7 p),.agg (rl q)] [.one (.int .i64 (U8 (U7 p) q))]:=by
 have hl:=Qa (Tl p) (show p.length-1<=64 by have:=hp.l; omega);have hm:(U7 p).length*(16777216+1)<=64*16777217:=Qw _ hl;exact Qxi (Us _ _) (Zy hl (by omega)) (Qgg (t:=6) hp.b hp.l) hq (by omega)
theorem Bw {t:Tm} (ht:Tb t):Ua Tryz.prog 157 [.agg (ta t)] [.one (.bool t.point)] :=
 w tt Tryz.func157 rfl [.c [] (De ht.lo.s31 ht.hi.s31)] rfl rfl trivial
theorem Qgk {t:Tm} (ht:Tb t):Ua Tryz.prog 156 [.agg (ta t)] [.agg (ta t)] :=
 w tt Tryz.func156 rfl [.c [] (Hm ht.p.t ht.p.ln ht.p.bd),.c [] (Ad ht.lo.s32),.c [] (Ad ht.hi.s32)] rfl rfl trivial
theorem Q41 {t:Tm} (ht:Tb t):Ua Tryz.prog 151 [.agg (ta t)] [.agg (ta t)]:=w tt Tryz.func151 rfl [.c [] (Qgk ht)] rfl rfl trivial
theorem Q4k {p:List Int} {q:Rat} (hp:Pb p) (hq:Qb q):Ua Tryz.prog 212 [pr p,.agg (rl q)] [.one (.int .i64 (low p q))]:=by
 unfold low;by_cases h:U8 p q=0
 ·rw [if_neg (by simpa using h)];exact w tt Tryz.func212 rfl [.c [] (Qf6 hp hq),.f (by simpa using h),.c [] (Ef hp.ln hp.bd),.c [] (Zjm hp hq)] rfl rfl trivial
 ·rw [if_pos h];exact w tt Tryz.func212 rfl [.c [] (Qf6 hp hq),.t (by simpa using h)] rfl rfl trivial
theorem Q4h {p:List Int} {lo hi:Rat} (hp:Pb p) (hl:Qb lo) (hh:Qb hi):Ua Tryz.prog 162 [pr p,.agg (rl lo),.agg (rl hi)] [.one (.bool (Qcf p lo hi))]:=by
 by_cases h:U8 p hi=0
 ·exact w tt Tryz.func162 rfl [.c [] (Qf6 hp hh),.t (by simpa using h)] rfl (by simp [Qcf,h]) trivial
 ·exact w tt Tryz.func162 rfl [.c [] (Qf6 hp hh),.f (by simpa using h),.c [] (Q4k hp hl)] rfl (by simp [Qcf,h]) trivial
theorem Qhm {t:Tm} {q:Rat} (ht:Tb t) (hq:Qb q):Ua Tryz.prog 158 [.agg (ta t),.agg (rl q)] [.one (.int .i64 (Uq t q))]:=by
 have cp:=Bw ht;unfold Uq;by_cases h1:t.point=true
 ·rw [if_pos h1];exact w tt Tryz.func158 rfl [.c [] cp,.t h1,.c [] (De ht.lo.s31 hq.s31)] rfl rfl trivial
 rw [if_neg h1];have h1:t.point=false:=by simpa using h1
 have c1:=De hq.s31 ht.lo.s31;have c2:=De hq.s31 ht.hi.s31;by_cases h2:Fb q t.lo<=0
 ·rw [if_pos h2];exact w tt Tryz.func158 rfl [.c [] cp,.f h1,.c [] c1,.t (by simpa using h2)] rfl rfl trivial
 rw [if_neg h2];by_cases h3:0<Fb q t.hi
 ·rw [if_pos h3];exact w tt Tryz.func158 rfl [.c [] cp,.f h1,.c [] c1,.f (by simpa using h2),.c [] c2,.t (by simpa using h3)] rfl rfl trivial
 rw [if_neg h3];by_cases h4:U8 t.p q=0
 ·rw [if_pos h4];exact w tt Tryz.func158 rfl [.c [] cp,.f h1,.c [] c1,.f (by simpa using h2),.c [] c2,.f (by simpa using h3),.c [] (Qf6 ht.p hq),.t (by simpa using h4)] rfl rfl trivial
 rw [if_neg h4];by_cases h5:U8 t.p q=low t.p t.lo
 ·rw [if_pos h5];exact w tt Tryz.func158 rfl [.c [] cp,.f h1,.c [] c1,.f (by simpa using h2),.c [] c2,.f (by simpa using h3),.c [] (Qf6 ht.p hq),.f (by simpa using h4),.c [] (Q4k ht.p ht.lo),.t (by simpa using h5)] rfl rfl trivial
 ·rw [if_neg h5];exact w tt Tryz.func158 rfl [.c [] cp,.f h1,.c [] c1,.f (by simpa using h2),.c [] c2,.f (by simpa using h3),.c [] (Qf6 ht.p hq),.f (by simpa using h4),.c [] (Q4k ht.p ht.lo),.f (by simpa using h5)] rfl rfl trivial
theorem Zbs (t:Tm) (q:Rat):-1<=Uq t q/\Uq t q<=1:=by
 unfold Uq;have:=Af t.lo q
 repeat' split
 all_goals omega
theorem Zb0 (q:Rat):0<(q.den:Int):=by have:=q.den_pos; omega
theorem Zez {a b:Rat} (ha:Qb a) (hb:Qb b):Ua Tryz.prog 273 [.agg (rl a),.agg (rl b)] [.agg (rl (Ib a b))]:=by
 have h1:Uj (a.num*(b.den:Int))<=33554432:=Qa (Uw _ _) (by have:=ha.1; have:=hb.2; omega);have h2:Uj (b.num*(a.den:Int))<=33554432:=Qa (Uw _ _) (by have:=hb.1; have:=ha.2; omega);have h3:Uj ((a.den:Int)*(b.den:Int))<=33554432:=Qa (Uw _ _) (by have:=ha.2; have:=hb.2; omega);have h4:Uj (2:Int)<=2:=by decide
 have h5:Uj (a.num*(b.den:Int)+b.num*(a.den:Int))<=33554433:=Qa (As _ _) (by omega);have h6:Uj ((a.den:Int)*(b.den:Int)*2)<=33554434:=Qa (Uw _ _) (by omega);have h0:(a.den:Int)*(b.den:Int)*2≠0:=by
  have:=W3 (Zb0 a) (Zb0 b); omega
 exact w tt Tryz.func273 rfl [.c [] (Qm5 ha.s31 hb.s31),.c [] (Qa5 (Ub _) (Ub _) (by omega) (by omega)),.c [] (Qt8 (z:=2) (by decide)),.c [] (Mw (Ub _) (Ub _) (by omega) (by omega)),.c [] (Is h0 (by omega) (by omega))] rfl rfl trivial
theorem Qna {a b:Rat} (ha:Qb a) (hb:Qb b):Ua Tryz.prog 217 [.agg (rl a),.agg (rl b)] [.agg (rl (Qjm a b))]:=by
 have h1:Uj (a.num*(b.den:Int))<=33554432:=Qa (Uw _ _) (by have:=ha.1; have:=hb.2; omega);have h2:Uj (b.num*(a.den:Int))<=33554432:=Qa (Uw _ _) (by have:=hb.1; have:=ha.2; omega);have h3:Uj ((a.den:Int)*(b.den:Int))<=33554432:=Qa (Uw _ _) (by have:=ha.2; have:=hb.2; omega);have h5:Uj (a.num*(b.den:Int)-b.num*(a.den:Int))<=33554433:=Qa (Qgu _ _) (by omega);have h0:(a.den:Int)*(b.den:Int)≠0:=by
  have:=W3 (Zb0 a) (Zb0 b); omega
 exact w tt Tryz.func217 rfl [.c [] (Qm5 ha.s31 hb.s31),.c [] (Q4d (Ub _) (Ub _) (by omega) (by omega)),.c [] (Is h0 (by omega) (by omega))] rfl rfl trivial
theorem Qh1 {q r:Rat} (h:chq q=some r):r=q/\Qb q:=by
 unfold chq at h
 split at h
 ·rename_i hc; injection h with h; exact ⟨h.symm,hc⟩
 ·cases h
theorem Quf {t u:Tm} (ht:Tb t) (h:Qnw t=some u):Ua Tryz.prog 218 [.agg (ta t)] [.agg (ta u)]:=by
 have cp:=Bw ht;unfold Qnw at h
 split at h
 ·rename_i h1;injection h with h; subst h;exact w tt Tryz.func218 rfl [.c [] cp,.t h1] rfl rfl trivial
 ·rename_i h1;have h1:t.point=false:=by simpa using h1
  obtain ⟨m,hm0,h⟩:=Qe.1 h;obtain ⟨rfl,hm⟩:=Qh1 hm0;injection h with h;subst h;have cm:=Zez ht.lo ht.hi;have cc:=Qhm ht hm;by_cases h2:Uq t (Ib t.lo t.hi)=0
  ·rw [if_pos h2];exact w tt Tryz.func218 rfl [.c [] cp,.f h1,.c [] cm,.c [] cc,.t (by simpa using h2)] rfl rfl trivial
  rw [if_neg h2];by_cases h3:Uq t (Ib t.lo t.hi)=-1
  ·rw [if_pos h3];exact w tt Tryz.func218 rfl [.c [] cp,.f h1,.c [] cm,.c [] cc,.f (by simpa using h2),.t (by simpa using h3)] rfl rfl trivial
  ·rw [if_neg h3];exact w tt Tryz.func218 rfl [.c [] cp,.f h1,.c [] cm,.c [] cc,.f (by simpa using h2),.f (by simpa using h3)] rfl rfl trivial
theorem Qpd {t u:Tm} (ht:Tb t) (h:Qnw t=some u):Tb u:=by
 unfold Qnw at h
 split at h
 ·injection h with h; subst h; exact ht
 ·obtain ⟨m,hm0,h⟩:=Qe.1 h;obtain ⟨rfl,hm⟩:=Qh1 hm0;injection h with h;subst h
  repeat' split
  ·exact ⟨ht.p,hm,hm⟩
  ·exact ⟨ht.p,ht.lo,hm⟩
  ·exact ⟨ht.p,hm,ht.hi⟩
theorem Aa {z:Int} (h:Uj z<=4294967296):Ua Tryz.prog 270 [.one (mg z)] [.one (.int .i64 (Uj z:Int))]:=by
 have h1:=Qt3 (l:=U3 z.natAbs) (B7 _) (by rw [Fl]; exact h);rw [Fl] at h1; exact h1
theorem Qjh {p:List Int} {i:Nat} {z:Int} (h:p[i]? = some z):Fw (p.take (i+1))=max (Fw (p.take i)) (Uj z):=by
 unfold Fw; rw [List.take_succ,h,Option.toList_some,List.foldl_append]; rfl
theorem S8 {p:List Int} {s:Nat} (h:Bd s p):∀ i,Fw (p.take i)<=s
 | 0=>by simp [Fw]
 |
  i+1=>by
  cases hz:p[i]? with
  |
   none =>
   rw [Qn (by have:=List.getElem?_eq_none_iff.1 hz; omega),<-Qn (l:=p) (i:=i) (by have:=List.getElem?_eq_none_iff.1 hz; omega)];exact S8 h i
  | some z=>rw [Qjh hz]; have:=S8 h i; have:=Q3g h hz; omega
theorem Qnb {p:List Int} (hp:Pb p):Ua Tryz.prog 271 [pr p] [.one (.int .i64 (Fw p:Int))]:=by
 have hl:=hp.l;refine Gu Tryz.func271 rfl ?_;refine go tt [] rfl trivial ?_;refine lp (S:=Nat) 0 (λL1 i=>(8,.v (.one (.int .i64 (i:Int))))::(3,.v (.one (.int .i64 (Fw (p.take i):Int))))::L1) (λ_=>[]) (λi=>p.length-i) (λi=>i<=p.length) 0 (Qi _) rfl (λ_ _=>rfl) rfl λi hi=>?_
 by_cases hlt:i<p.length
 ·have hg:=Hn hlt;have hz:=Um hp.b i;have hs:=Qjh hg;refine go tt [.t (by simp; omega),.x (Sj hg),.c [] (Aa (by omega)),.r 16 (eI (b:=(Fw (p.take (i+1)):Int)) (by rw [hs]; omega))] rfl (by simp [W9]; omega) ?_;exact rd (i+1) (by omega) hlt rfl
 ·obtain rfl:i=p.length:=by omega
  rw [Q8];exact en tt [.f (by simp)] rfl rfl trivial
theorem Zbo {a:Tm} {b:Tm} (ha:Tb a) (hb:Tb b):Ua Tryz.prog 216 [.agg (ta a),.agg (ta b)] [.one (.int .i64 (Sl a b:Nat))]:=by
 have l1:=ha.p.l;have l2:=hb.p.l;have b1:=ha.lo.1;have b2:=ha.hi.1;have b3:=hb.lo.1;have b4:=hb.hi.1;have s1:Fw a.p<=16777216:=by have:=S8 ha.p.b a.p.length; rwa [Q8] at this
 have s2:Fw b.p<=16777216:=by have:=S8 hb.p.b b.p.length; rwa [Q8] at this
 obtain ⟨N,hN⟩:=nmE (4*(a.p.length+b.p.length));obtain ⟨S,hS⟩:=nmE (Fw a.p+Fw b.p+(a.p.length+b.p.length)+8);have hNS:N*S<=512*33554568:=Zi (by omega) (by omega);have h0:(N:Int)*(S:Int)=((N*S:Nat):Int):=(Y0 _ _).symm;have hst:Sl a b=64+2*(Uj a.lo.num+Uj a.hi.num+Uj b.lo.num+Uj b.hi.num)+N*S:=by rw [hN,hS]; rfl
 rw [hst];exact w tt Tryz.func216 rfl [.c [] (Aa (z:=a.lo.num) (by omega)),.c [] (Aa (z:=a.hi.num) (by omega)),.c [] (Aa (z:=b.lo.num) (by omega)),.c [] (Aa (z:=b.hi.num) (by omega)),.r 41 (eI (b:=(N:Int)) (by rw [hN]; simp)),.c [] (Qnb ha.p),.c [] (Qnb hb.p),.r 51 (eI (b:=(S:Int)) (by rw [hS]; simp)),.r 52 (eI (b:=((N*S:Nat):Int)) h0)] rfl (by simp) (by rw [h0]; simp [W9]; omega)
def Qws (p:List Int) (a:Tm):Nat:=64+2*(Uj a.lo.num+Uj a.hi.num)+4*(a.p.length+p.length)*(Fw a.p+Fw p+(a.p.length+p.length)+8)
theorem Qxe:Ua Tryz.prog 270 [lr []] [.one (.int .i64 0)]:=Qt3 (l:=[]) (by simp [Sm]) (by decide)
theorem Q40 {a:Tm} {p:List Int} (ha:Tb a) (hp:Pb p):Ua Tryz.prog 216 [.agg (ta a),.agg ([pl p,.bool false,.row [],.bool false,.row [],.bool false,.row [],.bool false,.row []])] [.one (.int .i64 (Qws p a:Nat))]:=by
 have l1:=ha.p.l;have l2:=hp.l;have b1:=ha.lo.1;have b2:=ha.hi.1;have s1:Fw a.p<=16777216:=by have:=S8 ha.p.b a.p.length; rwa [Q8] at this
 have s2:Fw p<=16777216:=by have:=S8 hp.b p.length; rwa [Q8] at this
 obtain ⟨N,hN⟩:=nmE (4*(a.p.length+p.length));obtain ⟨S,hS⟩:=nmE (Fw a.p+Fw p+(a.p.length+p.length)+8);have hNS:N*S<=512*33554568:=Zi (by omega) (by omega);have h0:(N:Int)*(S:Int)=((N*S:Nat):Int):=(Y0 _ _).symm;have hst:Qws p a=64+2*(Uj a.lo.num+Uj a.hi.num)+N*S:=by rw [hN,hS]; rfl
 rw [hst];exact w tt Tryz.func216 rfl [.c [] (Aa (z:=a.lo.num) (by omega)),.c [] (Aa (z:=a.hi.num) (by omega)),.c [] Qxe,.c [] Qxe,.r 41 (eI (b:=(N:Int)) (by rw [hN]; simp)),.c [] (Qnb ha.p),.c [] (Qnb hp),.r 51 (eI (b:=(S:Int)) (by rw [hS]; simp)),.r 52 (eI (b:=((N*S:Nat):Int)) h0)] rfl (by simp) (by rw [h0]; simp [W9]; omega)
def Dc (sg:List Int->Int) (l:List (List Int)) (i:Nat):Nat×Int:=(l.take i).foldl (Hx sg) (0,0)
theorem Qjx {sg:List Int->Int} (hs:∀ p,-1<=sg p/\sg p<=1) (l:List (List Int)):∀ i,(Dc sg l i).1<=i/\-1<=(Dc sg l i).2/\(Dc sg l i).2<=1
 | 0=>⟨Qk _,show (-1:Int)<=0 by decide,show (0:Int)<=1 by decide⟩
 |
  i+1=>by
  obtain ⟨h1,h2,h3⟩:=Qjx hs l i;cases h:l[i]? with
  |
   none =>
   have:Dc sg l (i+1)=Dc sg l i:=by unfold Dc; rw [List.take_of_length_le (by have:=List.getElem?_eq_none_iff.1 h; omega),List.take_of_length_le (List.getElem?_eq_none_iff.1 h)]
   rw [this]; omega
  |
   some p =>
   have:Dc sg l (i+1)=Hx sg (Dc sg l i) p:=P9 _ _ _ h;rw [this];have:=hs p;unfold Hx
   split
   ·omega
   ·dsimp only; split <;> omega
theorem Zbp {l:List (List Int)} {fid:Nat} {l1:List LV} {sg:List Int->Int} (hl:l.length≤1000) (hs:∀ p,-1≤sg p/\sg p≤1) (h:∀ p∈l,Ua Tryz.prog fid [pr p,.one (.sh l1)] [.one (.int .i64 (sg p))]):Ua Tryz.prog 334 [.one (.sh [.row (Sr l)]),.one (.fn fid [] [.sh l1])] [.one (.int .i64 (P6 sg l:Nat))]:=by
 have hpl:=C6 l;refine Gu Tryz.func334 rfl ?_;refine go tt [] rfl trivial ?_;refine lp (S:=Nat) 0 (λL1 i=>(15,.v (.one (.int .i64 (i:Int))))::(5,.v (.one (.int .i64 ((Dc sg l i).1:Int))))::(6,.v (.one (.int .i64 (Dc sg l i).2)))::L1) (λ_=>[]) (λi=>l.length-i) (λi=>i<=l.length) 0 (Qi _) rfl (λ_ _=>rfl) rfl λi hi=>?_
 by_cases hlt:i<l.length
 ·obtain ⟨p,hp⟩:=gxE (l:=l) (i:=i) hlt;have hst:Dc sg l (i+1)=Hx sg (Dc sg l i) p:=P9 _ _ _ hp;obtain ⟨b1,b2,b3⟩:=Qjx hs l i;have b4:=hs p;by_cases h0:sg p=0
  ·refine go tt [.t (by simp [hpl]; omega),.x (Rj hp),.c [] (h p (Qc hp)),.t (by simpa using h0)] rfl (by simp [W9]; omega) ?_;exact rd (i+1) (by omega) hlt (by rw [hst,show Hx sg (Dc sg l i) p=Dc sg l i from by unfold Hx; rw [if_pos h0]]; rfl)
  ·by_cases h1:(Dc sg l i).2=-(sg p)
   ·refine go tt [.t (by simp [hpl]; omega),.x (Rj hp),.c [] (h p (Qc hp)),.f (by simpa using h0),.t (by simpa using h1)] rfl (by simp [W9]; omega) ?_;exact rd (i+1) (by omega) hlt (by rw [hst,show Hx sg (Dc sg l i) p=((Dc sg l i).1+1,sg p) from by unfold Hx; rw [if_neg h0,if_pos h1]]; rfl)
   ·refine go tt [.t (by simp [hpl]; omega),.x (Rj hp),.c [] (h p (Qc hp)),.f (by simpa using h0),.f (by simpa using h1)] rfl (by simp [W9]; omega) ?_;exact rd (i+1) (by omega) hlt (by rw [hst,show Hx sg (Dc sg l i) p=((Dc sg l i).1,sg p) from by unfold Hx; rw [if_neg h0,if_neg h1]]; rfl)
 ·obtain rfl:i=l.length:=by omega
  refine en tt [.f (by simp [hpl])] rfl ?_ trivial;unfold Dc P6; rw [List.take_length]
theorem Q4b {p:List Int} {q:Rat} (hp:Pb p) (hq:Qb q):Ua Tryz.prog 335 [pr p,.one (.sh (rl q))] [.one (.int .i64 (U8 p q))]:=w tt Tryz.func335 rfl [.c [] (Qf6 hp hq)] rfl rfl trivial
theorem Qxn {l:List (List Int)} {q:Rat} (hl:l.length≤1000) (hp:∀ p∈l,Pb p) (hq:Qb q):Ua Tryz.prog 311 [.one (.sh [.row (Sr l)]),.agg (rl q)] [.one (.int .i64 (Su l q:Nat))] :=
 w tt Tryz.func311 rfl [.c [] (Zbp (fid:=335) (l1:=rl q) (sg:=λp=>U8 p q) hl (λp=>Na p q) λp h=>Q4b (hp p h) hq)] rfl rfl trivial
theorem P7 {sg:List Int->Int} (hs:∀ p,-1<=sg p/\sg p<=1) (l:List (List Int)):P6 sg l<=l.length:=by
 have:=(Qjx hs l l.length).1;unfold Dc at this; rwa [List.take_length] at this
theorem Qkk {l:List (List Int)} {lo hi:Rat} (hl:l.length≤1000) (hp:∀ p∈l,Pb p) (ql:Qb lo) (qh:Qb hi):Ua Tryz.prog 276 [.one (.sh [.row (Sr l)]),.agg (rl lo),.agg (rl hi)] [.one (.int .i64 (G7 l lo hi))]:=by
 have b1:Su l lo<=l.length:=P7 (λp=>Na p lo) l;have b2:Su l hi<=l.length:=P7 (λp=>Na p hi) l;have c1:=De qh.s31 ql.s31;unfold G7;by_cases h:Fb hi lo<0
 ·rw [if_pos h];exact w tt Tryz.func276 rfl [.c [] c1,.t (by simpa using h)] rfl rfl trivial
 ·rw [if_neg h];exact w tt Tryz.func276 rfl [.c [] c1,.f (by simpa using h),.c [] (Qxn hl hp ql),.c [] (Qxn hl hp qh)] rfl rfl (by simp [W9]; omega)
def zTm:List LV:=[.nils,.bool false,.nils,.bool false,.nils,.bool false,.nils,.bool false,.nils]
theorem Q2l {a b:Tm} (ha:Tb a) (hb:Tb b):Sl a b<=17179938816+200000000:=by
 have l1:=ha.p.l;have l2:=hb.p.l;have b1:=ha.lo.1;have b2:=ha.hi.1;have b3:=hb.lo.1;have b4:=hb.hi.1;have s1:Fw a.p<=16777216:=by have:=S8 ha.p.b a.p.length; rwa [Q8] at this
 have s2:Fw b.p<=16777216:=by have:=S8 hb.p.b b.p.length; rwa [Q8] at this
 have:4*(a.p.length+b.p.length)*(Fw a.p+Fw b.p+(a.p.length+b.p.length)+8)<=512*33554568:=Zi (by omega) (by omega);unfold Sl; omega
theorem Zdo {a b:Rat} (ha:Qb a) (hb:Qb b):Qs 2147483647 (Qjm a b):=by
 have h1:Uj (a.num*(b.den:Int))<=33554432:=Qa (Uw _ _) (by have:=ha.1; have:=hb.2; omega);have h2:Uj (b.num*(a.den:Int))<=33554432:=Qa (Uw _ _) (by have:=hb.1; have:=ha.2; omega);have h3:Uj ((a.den:Int)*(b.den:Int))<=33554432:=Qa (Uw _ _) (by have:=ha.2; have:=hb.2; omega);have h5:Uj (a.num*(b.den:Int)-b.num*(a.den:Int))<=33554433:=Qa (Qgu _ _) (by omega);exact (Qs.divInt (s:=33554433) h5 (by omega) (by omega)).mono (by omega)
theorem Qm3 {a b:Tm} {r:Tm×Tm×Int} (ha:Tb a) (hb:Tb b) (h:apF (Sl a b) a b=some r):Ua Tryz.prog 163 [.agg (ta a),.agg (ta b)] [.agg (ta r.1),.agg (ta r.2.1),.one (.int .i64 r.2.2)]:=by
 have hsb:=Q2l ha hb;refine Gu Tryz.func163 rfl ?_;refine go tt [.c [] (Zbo ha hb)] rfl trivial ?_;obtain ⟨n,hn⟩:=nmE (Sl a b);rw [<-hn] at h hsb ⊢;refine sb [(10,.v (.one (.int .i64 0))),(9,.v (.one (.int .i64 (n:Int)))),(5,.v (.one (.ow 3 0))),(4,.v (.one (.ow 2 0))),(3,.v (.one (.ow 1 0))),(2,.v (.one (.ow 0 0)))] [.blk 74 (ta a),.blk 74 (ta b),.blk 74 zTm,.blk 74 zTm] rfl rfl ?_;refine lp (S:=Nat×Tm×Tm) 4 (λL1 s=>(10,.v (.one (.int .i64 (s.1:Int))))::L1) (λs=>[.blk 74 (ta s.2.1),.blk 74 (ta s.2.2),.blk 74 zTm,.blk 74 zTm]) (λs=>n-s.1) (λs=>s.1<=n/\Tb s.2.1/\Tb s.2.2/\apF (n-s.1) s.2.1 s.2.2=some r) (0,a,b) ⟨Qi _,ha,hb,h⟩ rfl (λ_ _=>rfl) rfl λ⟨i,u,v⟩ ⟨j1,j2,j3,j4⟩=>?_
 dsimp only at j1 j2 j3 j4 ⊢;by_cases hi:i<n
 ·obtain ⟨k,hk⟩:∃ k,n-i=k+1:=⟨n-i-1,by omega⟩;have hk':n-(i+1)=k:=by omega
  rw [hk] at j4;have c1:=De j2.hi.s31 j3.lo.s31;have c2:=De j3.hi.s31 j2.lo.s31;have pu:=Bw j2;have pv:=Bw j3;have hlt:decide ((i:Int)<(n:Int))=true:=by simp; omega
  simp only [apF] at j4;refine go tt [.t hlt] rfl trivial ?_;refine ct 3 (S:=Unit) (λ_=>[(10,.v (.one (.int .i64 (i:Int)))),(9,.v (.one (.int .i64 (n:Int)))),(5,.v (.one (.ow 3 0))),(4,.v (.one (.ow 2 0))),(3,.v (.one (.ow 1 0))),(2,.v (.one (.ow 0 0)))]) (λ_=>[.blk 74 (ta u),.blk 74 (ta v),.blk 74 zTm,.blk 74 zTm]) (λ_=>¬Bu u v=true/\¬Bu v u=true) rfl ?_ ?_
  ·have bA:Bu u v=(decide (Fb u.hi v.lo<=0) && !(u.point && v.point && decide (Fb u.hi v.lo=0))):=by
    unfold Bu; cases u.point <;> cases v.point <;> simp
   have bB:Bu v u=(decide (Fb v.hi u.lo<=0) && !(u.point && v.point && decide (Fb v.hi u.lo=0))):=by
    unfold Bu; cases u.point <;> cases v.point <;> simp
   obtain ⟨a0,A'⟩:∃ b,decide (Fb u.hi v.lo<=0)=b:=⟨_,rfl⟩;obtain ⟨b0,B'⟩:∃ b,decide (Fb v.hi u.lo<=0)=b:=⟨_,rfl⟩;obtain ⟨p0,P'⟩:∃ b,u.point=b:=⟨_,rfl⟩;obtain ⟨q0,Q'⟩:∃ b,v.point=b:=⟨_,rfl⟩;obtain ⟨x0,X'⟩:∃ b,decide (Fb u.hi v.lo=0)=b:=⟨_,rfl⟩;obtain ⟨y0,Y'⟩:∃ b,decide (Fb v.hi u.lo=0)=b:=⟨_,rfl⟩;rw [A',P',Q',X'] at bA;rw [B',P',Q',Y'] at bB;have r1:Bu u v=true->(u,v,-1)=r:=λh=>by rw [if_pos h] at j4; injection j4
   have r2:¬Bu u v=true->Bu v u=true->(u,v,1)=r:=λh h'=>by rw [if_neg h,if_pos h'] at j4; injection j4
   clear j4;cases a0
   ·cases b0
    ·exact go tt [.c [] c1,.g 19 false A',.f rfl,.c [] c2,.g 45 false B',.f rfl] rfl trivial (rc () ⟨by rw [bA]; simp,by rw [bB]; simp⟩ rfl)
    ·cases p0
     ·obtain rfl:=r2 (by rw [bA]; simp) (by rw [bB]; rfl);exact en tt [.c [] c1,.g 19 false A',.f rfl,.c [] c2,.g 45 true B',.c [] pu,.g 48 false P',.g 52 false rfl,.t rfl] rfl rfl trivial
     ·cases q0
      ·obtain rfl:=r2 (by rw [bA]; simp) (by rw [bB]; rfl);exact en tt [.c [] c1,.g 19 false A',.f rfl,.c [] c2,.g 45 true B',.c [] pu,.g 48 true P',.c [] pv,.g 52 false Q',.t rfl] rfl rfl trivial
      ·cases y0
       ·obtain rfl:=r2 (by rw [bA]; simp) (by rw [bB]; rfl);exact en tt [.c [] c1,.g 19 false A',.f rfl,.c [] c2,.g 45 true B',.c [] pu,.g 48 true P',.c [] pv,.g 52 true Q',.c [] c2,.t (by simpa using Y')] rfl rfl trivial
       ·exact go tt [.c [] c1,.g 19 false A',.f rfl,.c [] c2,.g 45 true B',.c [] pu,.g 48 true P',.c [] pv,.g 52 true Q',.c [] c2,.f (by simpa using Y')] rfl trivial (rc () ⟨by rw [bA]; simp,by rw [bB]; simp⟩ rfl)
   ·cases p0
    ·obtain rfl:=r1 (by rw [bA]; rfl);exact en tt [.c [] c1,.g 19 true A',.c [] pu,.g 22 false P',.g 26 false rfl,.t rfl] rfl rfl trivial
    ·cases q0
     ·obtain rfl:=r1 (by rw [bA]; rfl);exact en tt [.c [] c1,.g 19 true A',.c [] pu,.g 22 true P',.c [] pv,.g 26 false Q',.t rfl] rfl rfl trivial
     ·cases x0
      ·obtain rfl:=r1 (by rw [bA]; rfl);exact en tt [.c [] c1,.g 19 true A',.c [] pu,.g 22 true P',.c [] pv,.g 26 true Q',.c [] c1,.t (by simpa using X')] rfl rfl trivial
      ·cases b0
       ·exact go tt [.c [] c1,.g 19 true A',.c [] pu,.g 22 true P',.c [] pv,.g 26 true Q',.c [] c1,.f (by simpa using X'),.c [] c2,.g 45 false B',.f rfl] rfl trivial (rc () ⟨by rw [bA]; simp,by rw [bB]; simp⟩ rfl)
       ·cases y0
        ·obtain rfl:=r2 (by rw [bA]; simp) (by rw [bB]; rfl);exact en tt [.c [] c1,.g 19 true A',.c [] pu,.g 22 true P',.c [] pv,.g 26 true Q',.c [] c1,.f (by simpa using X'),.c [] c2,.g 45 true B',.c [] pu,.g 48 true P',.c [] pv,.g 52 true Q',.c [] c2,.t (by simpa using Y')] rfl rfl trivial
        ·exact go tt [.c [] c1,.g 19 true A',.c [] pu,.g 22 true P',.c [] pv,.g 26 true Q',.c [] c1,.f (by simpa using X'),.c [] c2,.g 45 true B',.c [] pu,.g 48 true P',.c [] pv,.g 52 true Q',.c [] c2,.f (by simpa using Y')] rfl trivial (rc () ⟨by rw [bA]; simp,by rw [bB]; simp⟩ rfl)
  ·rintro _ ⟨n1,n2⟩
   rw [if_neg n1,if_neg n2] at j4;have qr:∀ {x y:Rat},Qb x->Qb y->Qs 2147483647 (Qjm x y):=λh1 h2=>Zdo h1 h2
   have cc:=De (qr j2.hi j2.lo) (qr j3.hi j3.lo);by_cases D:0<=Fb (Qjm u.hi u.lo) (Qjm v.hi v.lo)
   ·rw [if_pos D] at j4;obtain ⟨x,x1,x2⟩:=Qe.1 j4;refine go tt [.c [] (Qna j2.hi j2.lo),.c [] (Qna j3.hi j3.lo),.c [] cc,.t (by simpa using D),.c [] (Quf j2 x1)] rfl (by simp [W9]; omega) ?_;exact rd (i+1,x,v) (by dsimp only; omega) ⟨hi,Qpd j2 x1,j3,by dsimp only; rw [hk']; exact x2⟩ rfl
   ·rw [if_neg D] at j4;obtain ⟨x,x1,x2⟩:=Qe.1 j4;refine go tt [.c [] (Qna j2.hi j2.lo),.c [] (Qna j3.hi j3.lo),.c [] cc,.f (by simpa using D),.c [] (Quf j3 x1)] rfl (by simp [W9]; omega) ?_;exact rd (i+1,u,x) (by dsimp only; omega) ⟨hi,j2,Qpd j3 x1,by dsimp only; rw [hk']; exact x2⟩ rfl
 ·obtain rfl:i=n:=by omega
  rw [Ye] at j4;simp only [apF] at j4;injection j4 with j4; subst j4;exact en tt [.f (by simp)] rfl rfl trivial
theorem Zbl {a b:Rat} (ha:Qb a) (hb:Qb b):Ua Tryz.prog 98 [.agg (rl a),.one (.row [rl b])] [.agg (rl (if 0<Fb b a then b else a))]:=by
 have ca:=Qgj (Ub a.num) (Ub (a.den:Int)) ha.s32.1 ha.s32.2;have cb:=Qgj (Ub b.num) (Ub (b.den:Int)) hb.s32.1 hb.s32.2;rw [Az] at ca cb;have cc:=De hb.s31 ha.s31;refine Gu Tryz.func98 rfl ?_;refine go tt [.c [] ca] rfl trivial ?_;refine lp (S:=Nat) 3 (λL1 i=>(12,.v (.one (.int .i64 (i:Int))))::L1) (λi=>[.blk 72 (rl a),.blk 72 [.bool false,.nils,.bool false,.nils],.blk 72 (rl (if i=0 then a else if 0<Fb b a then b else a))]) (λi=>1-i) (λi=>i<=1) 0 (Qi _) rfl (λ_ _=>rfl) rfl λi hi=>?_
 rcases (show i=0\/i=1 by omega) with rfl | rfl
 ·by_cases h:0<Fb b a
  ·refine go tt [.t rfl,.x (i:=0) (xs:=rl b) rfl,.c [] cc,.t (by simpa using h),.c [] cb] rfl (by simp [W9]) ?_;exact rd 1 (by omega) (by omega) (by rw [if_pos h]; rfl)
  ·refine go tt [.t rfl,.x (i:=0) (xs:=rl b) rfl,.c [] cc,.f (by simpa using h)] rfl (by simp [W9]) ?_;exact rd 1 (by omega) (by omega) (by rw [if_neg h]; rfl)
 ·exact en tt [.f rfl] rfl rfl trivial
theorem Qhl {a b:Tm} {c:Int} (ha:Tb a) (hb:Tb b) (h:Qf7 a b=some c):Ua Tryz.prog 92 [.agg (ta a),.agg (ta b)] [.one (.int .i64 c)]:=by
 have ca:=Qgk ha;have cb:=Qgk hb;have pa:=Bw ha;have pb:=Bw hb;unfold Qf7 at h;by_cases h1:a.point=true
 ·rw [if_pos h1] at h;injection h with h; subst h;have:=Zbs b a.lo;exact w tt Tryz.func92 rfl [.c [] ca,.c [] cb,.c [] pa,.t h1,.c [] (Qhm hb ha.lo)] rfl rfl (by simp [W9]; omega)
 rw [if_neg h1] at h;have h1:a.point=false:=by simpa using h1
 by_cases h2:b.point=true
 ·rw [if_pos h2] at h;injection h with h; subst h;exact w tt Tryz.func92 rfl [.c [] ca,.c [] cb,.c [] pa,.f h1,.c [] pb,.t h2,.c [] (Qhm ha hb.lo)] rfl rfl trivial
 rw [if_neg h2] at h;have h2:b.point=false:=by simpa using h2
 obtain ⟨lo,hlo⟩:=nmE (if 0<Fb b.lo a.lo then b.lo else a.lo);obtain ⟨hi,hhi⟩:=nmE (if Fb b.hi a.hi<0 then b.hi else a.hi);have h:(if Fb lo hi<0 then (Qoo a.p b.p).bind λg=>if 1<g.length/\Qcf g lo hi=true then some 0 else (apF (Sl a b) a b).bind λr=>some r.2.2 else (apF (Sl a b) a b).bind λr=>some r.2.2)=some c:=by rw [hlo,hhi]; exact h
 have qlo:Qb lo:=by rw [hlo]; split; exact hb.lo; exact ha.lo
 have qhi:Qb hi:=by rw [hhi]; split; exact hb.hi; exact ha.hi
 have cm:=Zbl ha.lo hb.lo;rw [<-hlo] at cm;have cc1:=De hb.hi.s31 ha.hi.s31;have cc2:=De qlo.s31 qhi.s31;refine Gu Tryz.func92 rfl ?_;refine go tt [.c [] ca,.c [] cb,.c [] pa,.f h1,.c [] pb,.f h2,.c [] cm] rfl trivial ?_;refine ct 2 (S:=Unit) (λ_=>[(6,.v (.one (.ow 3 0))),(5,.v (.one (.ow 2 0))),(4,.v (.one (.int .i64 0))),(3,.v (.one (.ow 1 0))),(2,.v (.one (.ow 0 0)))]) (λ_=>[.blk 74 (ta a),.blk 74 (ta b),.blk 72 (rl lo),.blk 72 (rl hi)]) (λ_=>True) rfl ?_ ?_
 ·by_cases D:Fb b.hi a.hi<0
  ·rw [if_pos D] at hhi; subst hhi;exact go tt [.c [] cc1,.t (by simpa using D)] rfl trivial (rc () trivial rfl)
  ·rw [if_neg D] at hhi; subst hhi;exact go tt [.c [] cc1,.f (by simpa using D)] rfl trivial (rc () trivial rfl)
 ·rintro _ _
  by_cases D:Fb lo hi<0
  ·rw [if_pos D] at h;obtain ⟨g,g1,h⟩:=Qe.1 h;have cg:=Q3z ha.p hb.p g1;have pg:=Q7k ha.p hb.p g1;have ch:=Q4h pg qlo qhi;by_cases G:1<g.length
   ·by_cases R:Qcf g lo hi=true
    ·rw [if_pos ⟨G,R⟩] at h;injection h with h; subst h;exact en tt [.c [] cc2,.t (by simpa using D),.c [] cg,.c [] (Mj g),.g 58 true (by simp; omega),.c [] ch,.t R] rfl rfl trivial
    ·rw [if_neg λh=>R h.2] at h;obtain ⟨r,r1,h⟩:=Qe.1 h;injection h with h; subst h;exact en tt [.c [] cc2,.t (by simpa using D),.c [] cg,.c [] (Mj g),.g 58 true (by simp; omega),.c [] ch,.f (by simpa using R),.c [] (Qm3 ha hb r1)] rfl rfl trivial
   ·rw [if_neg λh=>G h.1] at h;obtain ⟨r,r1,h⟩:=Qe.1 h;injection h with h; subst h;exact en tt [.c [] cc2,.t (by simpa using D),.c [] cg,.c [] (Mj g),.g 58 false (by simp; omega),.f rfl,.c [] (Qm3 ha hb r1)] rfl rfl trivial
  ·rw [if_neg D] at h;obtain ⟨r,r1,h⟩:=Qe.1 h;injection h with h; subst h;exact en tt [.c [] cc2,.f (by simpa using D),.c [] (Qm3 ha hb r1)] rfl rfl trivial
theorem Zaq {p:List Int} {a:Tm} {s:Int} (hp:Pb p) (ha:Tb a) (h:Qjp p a=some s):Ua Tryz.prog 228 [pr p,.agg (ta a)] [.one (.int .i64 s)]:=by
 have ca:=Qgk ha;have pa:=Bw ha;have cn:=Hm hp.t hp.ln hp.bd;unfold Qjp at h;by_cases h0:p.length=0
 ·rw [if_pos h0] at h;injection h with h; subst h;exact w tt Tryz.func228 rfl [.c [] cn,.c [] ca,.t (by simp; exact Qh h0)] rfl rfl trivial
 rw [if_neg h0] at h;have h0:p≠[]:=λe=>h0 (by rw [e]; rfl)
 by_cases h1:a.point=true
 ·rw [if_pos h1] at h;injection h with h; subst h;exact w tt Tryz.func228 rfl [.c [] cn,.c [] ca,.f (by simpa using h0),.c [] pa,.t h1,.c [] (Qf6 hp ha.lo)] rfl rfl trivial
 rw [if_neg h1] at h;have h1:a.point=false:=by simpa using h1
 obtain ⟨g,g1,h⟩:=Qe.1 h;have cg:=Q3z hp ha.p g1;have pg:=Q7k hp ha.p g1;have ch:=Q4h pg ha.lo ha.hi;by_cases G:1<g.length/\Qcf g a.lo a.hi=true
 ·rw [if_pos G] at h;injection h with h; subst h;exact w tt Tryz.func228 rfl [.c [] cn,.c [] ca,.f (by simpa using h0),.c [] pa,.f h1,.c [] cg,.c [] (Mj g),.g 29 true (by simp; omega),.c [] ch,.t G.2] rfl rfl trivial
 rw [if_neg G] at h;obtain ⟨c,c1,h⟩:=Qe.1 h;obtain ⟨u,u1,h⟩:=Qe.1 h;injection h with h; subst h;obtain ⟨cl,call⟩:=chain_ok hp c1;obtain ⟨n,hn⟩:=nmE (64+2*(Uj a.lo.num+Uj a.hi.num)+4*(a.p.length+p.length)*(Fw a.p+Fw p+(a.p.length+p.length)+8));have cst:=Q40 ha hp;rw [show Qws p a=n from hn.symm] at cst;rw [<-hn] at u1;have hnb:n<=17179938816+200000000:=by
  have l1:=ha.p.l;have l2:=hp.l;have b1:=ha.lo.1;have b2:=ha.hi.1;have s1:Fw a.p<=16777216:=by have:=S8 ha.p.b a.p.length; rwa [Q8] at this
  have s2:Fw p<=16777216:=by have:=S8 hp.b p.length; rwa [Q8] at this
  have:4*(a.p.length+p.length)*(Fw a.p+Fw p+(a.p.length+p.length)+8)<=512*33554568:=Zi (by omega) (by omega);omega
 refine Gu Tryz.func228 rfl ?_;refine go tt [.c [] cn,.c [] ca,.f (by simpa using h0),.c [] pa,.f h1,.c [] cg] rfl trivial ?_;refine ct 2 (S:=Unit) (λ_=>[(3,.v (.one (.ow 0 0))),(0,.v (pr p))]) (λ_=>[.blk 74 (ta a)]) (λ_=>True) rfl ?_ ?_
 ·by_cases G1:1<g.length
  ·exact go tt [.c [] (Mj g),.g 29 true (by simp; omega),.c [] ch,.f (by simpa using λh=>G ⟨G1,h⟩)] rfl trivial (rc () trivial rfl)
  ·exact go tt [.c [] (Mj g),.g 29 false (by simp; omega),.f rfl] rfl trivial (rc () trivial rfl)
 rintro _ _
 refine go tt [.c [] (Q36 hp c1),.c [] cst] rfl trivial ?_;refine lp (S:=Nat×Tm) 1 (λL1 s=>(46,.v (.one (.int .i64 (s.1:Int))))::L1) (λs=>[.blk 74 (ta s.2)]) (λs=>n-s.1) (λs=>s.1<=n/\Tb s.2/\sgF c (n-s.1) s.2=some u) (0,a) ⟨Qi _,ha,u1⟩ rfl (λ_ _=>rfl) rfl λ⟨i,x⟩ ⟨j1,j2,j3⟩=>?_
 dsimp only at j1 j2 j3 ⊢;by_cases hi:i<n
 ·obtain ⟨k,hk⟩:∃ k,n-i=k+1:=⟨n-i-1,by omega⟩;have hk':n-(i+1)=k:=by omega
  rw [hk] at j3;simp only [sgF] at j3;have px:=Bw j2;have cb:=Qkk (by omega) call j2.lo j2.hi;have hlt:decide ((i:Int)<(n:Int))=true:=by simp; omega
  by_cases X:x.point=true
  ·rw [if_pos (.inl X)] at j3;injection j3 with j3; subst j3;exact en tt [.t hlt,.c [] px,.g 50 true X,.t rfl,.c [] (Qf6 hp j2.hi)] rfl rfl trivial
  ·have X':x.point=false:=by simpa using X
   by_cases Z:G7 c x.lo x.hi=0
   ·rw [if_pos (.inr Z)] at j3;injection j3 with j3; subst j3;exact en tt [.t hlt,.c [] px,.g 50 false X',.c [] cb,.t (by simpa using Z),.c [] (Qf6 hp j2.hi)] rfl rfl trivial
   ·rw [if_neg (by rintro (h | h); exact X h; exact Z h)] at j3;obtain ⟨v,v1,v2⟩:=Qe.1 j3;refine go tt [.t hlt,.c [] px,.g 50 false X',.c [] cb,.f (by simpa using Z),.c [] (Quf j2 v1)] rfl (by simp [W9]; omega) ?_;exact rd (i+1,v) (by dsimp only; omega) ⟨hi,Qpd j2 v1,by dsimp only; rw [hk']; exact v2⟩ rfl
 ·obtain rfl:i=n:=by omega
  rw [Ye] at j3;simp only [sgF] at j3;injection j3 with j3; subst j3;exact en tt [.f (by simp),.c [] (Qf6 hp j2.hi)] rfl rfl trivial
abbrev tas (l:List Tm):LV:=.row (l.map λt=>ta t)
theorem Qhc {l:List Tm} {i:Nat} {t:Tm} (h:l[i]? = some t):(l.map λt=>ta t)[i]? = some (ta t):=G9 h
def zTr:List LV:=[.row [],.bool false,.row [],.bool false,.row [],.bool false,.row [],.bool false,.row []]
theorem Q3s:Ua Tryz.prog 85 [.one (.row [])] [.agg zTr,.one (.bool false)]:=w tt Tryz.func85 rfl [.t rfl] rfl rfl trivial
theorem Ee {b:Tm} {l:List Tm} {m:Tm} (hb:Tb b) (hl:∀ t∈l,Tb t) (hn:l.length≤1000000) (h:Au b l=some m):Ua Tryz.prog 85 [.one (tas (b::l))] [.agg (ta m),.one (.bool true)]:=by
 refine Gu Tryz.func85 rfl ?_;refine go tt [.f (by simp; omega),.x (i:=0) (xs:=ta b) rfl,.i 1] rfl (by simp [W9]; exact ⟨rfl,λ_ _=>rfl⟩) ?_;refine lp (S:=Nat×Tm) 2 (λL1 s=>(17,.v (.one (.int .i64 (s.1:Int))))::L1) (λs=>[.blk 74 zTm,.blk 74 (ta s.2)]) (λs=>l.length-s.1) (λs=>s.1<=l.length/\Tb s.2/\Au s.2 (l.drop s.1)=some m) (0,b) ⟨Qi _,hb,h⟩ rfl (λ_ _=>rfl) rfl λ⟨i,x⟩ ⟨j1,j2,j3⟩=>?_
 dsimp only at j1 j2 j3 ⊢;by_cases hi:i<l.length
 ·obtain ⟨a,ha⟩:=gxE (l:=l) (i:=i) hi;have hdr:l.drop i=a::l.drop (i+1):=by
   rw [Zr hi]; congr 1;have:=Qd hi; rw [ha] at this; injection this with this; exact this.symm
  rw [hdr] at j3;simp only [Au] at j3;obtain ⟨c,c1,j3⟩:=Qe.1 j3;have ta':=hl a (Qc ha);by_cases hc:c<0
  ·rw [if_pos hc] at j3;refine go tt [.t (by simp; omega),.x (Qhc ha),.c [] (Qhl ta' j2 c1),.t (by simpa using hc)] rfl (by simp [W9]; omega) ?_;exact rd (i+1,a) (by dsimp only; omega) ⟨hi,ta',j3⟩ rfl
  ·rw [if_neg hc] at j3;refine go tt [.t (by simp; omega),.x (Qhc ha),.c [] (Qhl ta' j2 c1),.f (by simpa using hc)] rfl (by simp [W9]; omega) ?_;exact rd (i+1,x) (by dsimp only; omega) ⟨hi,j2,j3⟩ rfl
 ·obtain rfl:i=l.length:=by omega
  rw [Vq] at j3;simp only [Au] at j3;injection j3 with j3; subst j3;exact en tt [.f (by simp),.c [] (Q41 j2)] rfl rfl trivial
end Orr
