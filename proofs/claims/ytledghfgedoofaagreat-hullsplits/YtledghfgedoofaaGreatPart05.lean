/- R4 RefPL CrvL CrowdL PredL CertL Y1 Y2 Q1 C1 C2 D1 E1 AlgL F1 F2 F3 F4 -/
import Derived.Test.YtledghfgedoofaaGreatPart04
import Derived.Test.YtledghfgedoofaaGreatPart00
set_option linter.all false
namespace Orr
open Go Go.Proofs
set_option maxRecDepth 10000
theorem Zgm {a b:Int} (h:(decide (a<0) == decide (b<0))=true):U0 (decide (a<0)) (a.natAbs+b.natAbs)=a+b:=by
 unfold U0;by_cases h1:a<0 <;> by_cases h2:b<0 <;> simp [h1,h2] at h ⊢ <;> omega
theorem Zgp {a b:Int} (h:¬(decide (a<0) == decide (b<0))=true) (hl:b.natAbs<=a.natAbs):U0 (decide (a<0)) (a.natAbs-b.natAbs)=a+b:=by
 unfold U0;by_cases h1:a<0 <;> by_cases h2:b<0 <;> simp [h1,h2] at h ⊢ <;> omega
theorem Zbs {a b:Int} (h:¬(decide (a<0) == decide (b<0))=true) (hl:¬b.natAbs<=a.natAbs):U0 (decide (b<0)) (b.natAbs-a.natAbs)=a+b:=by
 unfold U0;by_cases h1:a<0 <;> by_cases h2:b<0 <;> simp [h1,h2] at h ⊢ <;> omega
theorem Qb6 (a:Int):(∃ m:Nat,a=(m:Int))\/∃ m:Nat,a=-(m:Int)/\0<m:=by
 rcases We a 0 with h | h
 ·exact .inr ⟨a.natAbs,by omega,by omega⟩
 ·exact .inl ⟨a.natAbs,by omega⟩
theorem Zgo (a b:Int):U0 (!(decide (a<0) == decide (b<0))) (a.natAbs*b.natAbs)=a*b:=by
 rcases Qb6 a with ⟨m,rfl⟩ | ⟨m,rfl,hm⟩ <;> rcases Qb6 b with ⟨n,rfl⟩ | ⟨n,rfl,hn⟩
 ·simp [U0,show ¬((m:Int)<0) by omega,show ¬((n:Int)<0) by omega]
 ·simp [U0,show ¬((m:Int)<0) by omega,show (-(n:Int)<0) by omega,hn,Kw]
 ·simp [U0,show (-(m:Int)<0) by omega,show ¬((n:Int)<0) by omega,hm,Kh]
 ·simp [U0,show (-(m:Int)<0) by omega,show (-(n:Int)<0) by omega,hm,hn,Uk]
theorem Zgn {a b:Int} (h:a % b=0):U0 (!(decide (a<0) == decide (b<0))) (a.natAbs / b.natAbs)=a / b:=by
 by_cases hb:b=0
 ·subst hb; simp [U0]
 obtain ⟨c,rfl⟩:=Ym h;rw [Xl _ hb,Jr,Nat.mul_div_cancel_left _ (by omega)];rcases Qb6 b with ⟨n,rfl⟩ | ⟨n,rfl,hn⟩ <;> rcases Qb6 c with ⟨m,rfl⟩ | ⟨m,rfl,hm⟩
 ·have:¬((n:Int)*(m:Int)<0):=by rw [<-Vj]; omega
  simp [U0,this,show ¬((n:Int)<0) by omega]
 ·have h1:0<n*m:=J7 (by omega) hm;have:((n:Int)*-(m:Int)<0):=by rw [Kw,<-Vj]; omega
  simp only [this,show ¬((n:Int)<0) by omega];simp [U0]
 ·by_cases h0:m=0
  ·subst h0; simp [U0]
  ·have h1:0<n*m:=J7 hn (by omega);have:(-(n:Int)*(m:Int)<0):=by rw [Kh,<-Vj]; omega
   simp only [this,show (-(n:Int)<0) by omega];simp [U0]
 ·have:¬(-(n:Int)*-(m:Int)<0):=by rw [Uk,<-Vj]; omega
  simp only [this,show (-(n:Int)<0) by omega];simp [U0]
theorem Zby (a b:Int):Int.sign (a-b)=Nn a b:=by
 unfold Nn;rcases Jz a b with h | h | h
 ·rw [if_pos h,Xu (by omega)]
 ·rw [if_neg (by omega),if_neg (by omega),h,Int.sub_self]; rfl
 ·rw [if_neg (by omega),if_pos h,X5 (by omega)]
theorem Q0n {x y:Nat}:0<=Oy x y↔y<=x:=by
 unfold Oy;constructor
 ·intro h; split at h
  ·omega
  ·omega
 ·intro h; split
  ·omega
  ·split <;> omega
theorem Qkb {x e:Nat} (h:(Fi x).length=1) (he:(Fi x)[0]? = some e):x=e:=by
 rcases hd:Fi x with _ | ⟨u,l⟩
 ·rw [hd] at h; cases h
 ·rcases l with _ | ⟨w,l⟩
  ·rw [hd] at he; simp at he;have:=Hx x;rw [hd] at this; simp [Rv] at this; omega
  ·rw [hd] at h; simp at h
theorem Qxf {a b:Int} (hb:0<b):ri (a / ((Int.gcd a b:Nat):Int))++ri (b / ((Int.gcd a b:Nat):Int))=fr (Rat.divInt a b):=by
 obtain ⟨h1,h2⟩:=Qqq (n:=a) hb;rw [Nu,Int.gcd_comm] at h1 h2;rw [h1,h2]
theorem Qxg (a:Int):ri a++ri 1=fr (Rat.divInt a 1):=by
 have h:=Qxf (a:=a) (b:=1) (by decide);rw [show ((Int.gcd a 1:Nat):Int)=1 by simp] at h;simpa using h
theorem Qnu {a b:Int} (hb:b≠0) (ha2:U6 a<=90000000) (hb2:U6 b<=90000000):U6 ((Int.gcd a b:Nat):Int)<=90000000/\((Int.gcd a b:Nat):Int)≠0/\a % ((Int.gcd a b:Nat):Int)=0/\b % ((Int.gcd a b:Nat):Int)=0:=by
 have h1:=Q1d (n:=a) hb hb2;have h2:=Qtp (n:=a) hb;have h3:=Qky a b;have h4:=Qkz a b;rw [Nu,Int.gcd_comm] at h1 h2 h3 h4;exact ⟨h1,by omega,h3,h4⟩
theorem Qok {a b:Int} (h:b<0):Gt a b=Rat.divInt (-a) (-b):=by
 unfold Gt; rw [if_neg (by omega)];exact (Rat.neg_divInt_neg a b).symm
theorem Qol {a b:Int} (h:0<b):Gt a b=Rat.divInt a b:=by
 unfold Gt; rw [if_neg (by omega)]
theorem Q3c (a b:Rat):Gt (a.num*(b.den:Int)+b.num*(a.den:Int)) ((a.den:Int)*(b.den:Int))=a+b:=by
 unfold Gt;rw [if_neg (Jh (Cc a) (Cc b)),<-Rat.divInt_add_divInt _ _ (Cc a) (Cc b),Z2,Z2]
theorem Qn5 (a b:Rat):Gt (a.num*b.num) ((a.den:Int)*(b.den:Int))=a*b:=by
 unfold Gt;rw [if_neg (Jh (Cc a) (Cc b)),<-K8,Z2,Z2]
theorem Qoh {a b:Rat} (h:b≠0):Gt (a.num*(b.den:Int)) ((a.den:Int)*b.num)=a / b:=by
 have hn:b.num≠0:=λe=>h (Rat.num_eq_zero.1 e)
 unfold Gt;rw [if_neg (Jh (Cc a) hn),<-K8,Z2,Jq];congr 1
 conv=>rhs; rw [<-Z2 b,Rat.inv_divInt]
theorem Qpj {z:Int} (hz:U6 z<=100000000):Ut Tryz.prog 28 [.agg (Gw z)] [.agg (ri z)]:=by
 have hl:(Fg z.natAbs).length<=1099511627776:=by have h2:32*(Fg z.natAbs).length<=100000000+31:=Rm hz; omega
 have h:=Zdl (l:=Fg z.natAbs) (λu hu=>(Cg _).1 u hu) hl (by rw [Ge]; exact hz);rw [Ge] at h;have hm:=En (decide (z<0)) z.natAbs;have e:U0 (decide (z<0)) z.natAbs=z:=by unfold U0; by_cases h:z<0 <;> simp [h] <;> omega
 rw [e] at hm;exact w tt Tryz.func28 rfl [.c [] h,.c [] hm] rfl rfl trivial
theorem Qz4 {z:Int}:Ut Tryz.prog 93 [.agg (ri z)] [.one (.int .i64 (Int.sign z))]:=by
 have hn:=Qd4 (x:=z.natAbs);have hl:=Qc3 z.natAbs;rcases Jz z 0 with h | h | h
 ·rw [Xu h];exact w tt Tryz.func93 rfl [.f (by simp only [Rf]; exact decide_eq_false (by omega)),.t (decide_eq_true h)] rfl rfl trivial
 ·subst h;exact w tt Tryz.func93 rfl [.t (by simp only [Rf]; show decide (((Fi 0).length:Int)=0)=true; rw [G6]; rfl)] rfl rfl trivial
 ·rw [X5 h];exact w tt Tryz.func93 rfl [.f (by simp only [Rf]; exact decide_eq_false (by omega)),.f (decide_eq_false (by omega))] rfl rfl trivial
theorem Qwp {a b:Int} (ha:U6 a<=200000000) (hb:U6 b<=200000000):Ut Tryz.prog 140 [.agg (ri a),.agg (ri b)] [.agg (ri (a+b))]:=by
 by_cases hs:(decide (a<0) == decide (b<0))=true
 ·have cm:=En (decide (a<0)) (a.natAbs+b.natAbs);rw [Zgm hs] at cm;exact w tt Tryz.func140 rfl [.t hs,.c [] (Zi0 ha hb),.c [] cm] rfl rfl trivial
 ·have hs':(decide (a<0) == decide (b<0))=false:=by simpa using hs
  by_cases hl:b.natAbs<=a.natAbs
  ·have cm:=En (decide (a<0)) (a.natAbs-b.natAbs);rw [Zgp hs hl] at cm;exact w tt Tryz.func140 rfl [.f hs',.c [] (Qwe ha hb),.t (decide_eq_true (Q0n.2 hl)),.c [] (Qwo ha hb hl),.c [] cm] rfl rfl trivial
  ·have cm:=En (decide (b<0)) (b.natAbs-a.natAbs);rw [Zbs hs hl] at cm;exact w tt Tryz.func140 rfl [.f hs',.c [] (Qwe ha hb),.f (decide_eq_false λh=>hl (Q0n.1 h)),.c [] (Qwo hb ha (by omega)),.c [] cm] rfl rfl trivial
theorem Q7b {a b:Int} (ha:U6 a<=200000000) (hb:U6 b<=200000000):Ut Tryz.prog 94 [.agg (ri a),.agg (ri b)] [.agg (ri (a-b))]:=by
 have ca:=Qwp (a:=a) (b:=-b) ha (by rw [Hg]; exact hb);rw [show a+-b=a-b from by omega] at ca;exact w tt Tryz.func94 rfl [.c [] (Iz (z:=b)),.c [] ca] rfl rfl trivial
theorem Pm {a b:Int} (ha:U6 a<=200000000) (hb:U6 b<=200000000):Ut Tryz.prog 27 [.agg (ri a),.agg (ri b)] [.agg (ri (a*b))]:=by
 have cm:=En (!(decide (a<0) == decide (b<0))) (a.natAbs*b.natAbs);rw [Zgo] at cm;exact w tt Tryz.func27 rfl [.c [] (Zi5 ha hb),.c [] cm] rfl rfl trivial
theorem Zja {a b:Int} (ha:U6 a<=200000000) (hb:U6 b<=200000000):Ut Tryz.prog 48 [.agg (ri a),.agg (ri b)] [.one (.int .i64 (Nn a b))]:=by
 have h:=Qz4 (z:=a-b);rw [Zby] at h;exact w tt Tryz.func48 rfl [.c [] (Q7b ha hb),.c [] h] rfl rfl trivial
theorem Qfz {a b:Int} (ha:U6 a<=90000000) (hb:U6 b<=90000000) (h0:b≠0) (hd:a % b=0):Ut Tryz.prog 86 [.agg (ri a),.agg (ri b)] [.agg (ri (a / b))]:=by
 have cm:=En (!(decide (a<0) == decide (b<0))) (a.natAbs / b.natAbs);rw [Zgn hd] at cm;exact w tt Tryz.func86 rfl [.c [] (Q6d ha hb (by omega)),.c [] cm] rfl rfl trivial
theorem Zkn (x:Nat):ri ((x:Nat):Int)=[nd x,.bool false]:=by
 unfold ri sg;rw [Z9,decide_eq_false (by omega)]
theorem Qjv {a b:Int} (ha:U6 a<=90000000) (hb:U6 b<=90000000):Ut Tryz.prog 85 [.agg (ri a),.agg (ri b)] [.agg (ri ((Int.gcd a b:Nat):Int))]:=by
 rw [Zkn];refine Gv Tryz.func85 rfl ?_;refine go tt [] rfl trivial ?_;refine lp (S:=Nat×Nat) 3 (λL1 s=>(5,.v (.one (nd s.1)))::(6,.v (.one (nd s.2)))::L1) (λ_=>[.blk 50 (ri a),.blk 50 (ri b),.blk 50 [.nils,.bool false]]) (λs=>s.2) (λs=>Nat.gcd s.1 s.2=Int.gcd a b/\sz s.1<=90000000/\sz s.2<=90000000) (a.natAbs,b.natAbs) ⟨rfl,ha,hb⟩ rfl (λ_ _=>rfl) rfl λs hs=>?_
 obtain ⟨x,y⟩:=s;obtain ⟨hp0,hp1,hp2⟩:=hs;dsimp only at hp0 hp1 hp2 ⊢;have hyn:=Qd4 (x:=y);have hyl:=Qc3 y;by_cases h1:y=0
 ·have e:Int.gcd a b=x:=by rw [<-hp0,h1,Nat.gcd_zero_right]
  rw [e];exact en tt [.f (by simp only [Rf]; exact decide_eq_false (by omega))] rfl rfl trivial
 ·have hlt:=Z4 x (show 0<y by omega);refine go tt [.t (by simp only [Rf]; exact decide_eq_true (by omega)),.c [] (Q6d hp1 hp2 (by omega))] rfl trivial ?_;exact rd (y,x % y) (by dsimp only; omega) ⟨by dsimp only; rw [<-hp0,Nat.gcd_comm x y,Nat.gcd_rec y x,Nat.gcd_comm],hp2,Nat.le_trans (Rp (by dsimp only; omega)) hp2⟩ rfl
theorem Qdx {a b:Int} (ha:U6 a<=90000000) (hb:U6 b<=90000000):Ut Tryz.prog 43 [.agg (ri a),.agg (ri b)] [.agg (fr (Gt a b))]:=by
 rcases Jz b 0 with hs | hs | hs
 ·skip
  by_cases h1:-b=1
  ·have h0:(Na (Fi (-b).natAbs))[0]? = some [LV.int .i64 1]:=by rw [h1,show (1:Int).natAbs=1 from rfl,Ew]; rfl
   have hl1:decide (((Na (Fi (-b).natAbs)).length:Int)=1)=true:=by rw [h1,show (1:Int).natAbs=1 from rfl,Ew]; rfl
   have e:fr (Gt a b)=ri (-a)++ri (-b):=by rw [Qok hs,h1]; exact (Qxg _).symm
   rw [e];exact w tt Tryz.func43 rfl [.c [] (Mq (z:=b)),.f (decide_eq_false (by omega)),.t (decide_eq_true hs),.c [] (Iz (z:=a)),.c [] (Iz (z:=b)),.g 19 true hl1,.x h0,.t rfl] rfl rfl trivial
  ·have hgf:=Qnu (a:=-a) (b:=-b) (by omega) (by first | exact ha | (rw [Hg]; exact ha)) (by first | exact hb | (rw [Hg]; exact hb));have cg:=Qjv (a:=-a) (b:=-b) (by first | exact ha | (rw [Hg]; exact ha)) (by first | exact hb | (rw [Hg]; exact hb));have q1:=Qfz (a:=-a) (b:=((Int.gcd (-a) (-b):Nat):Int)) (by first | exact ha | (rw [Hg]; exact ha)) hgf.1 hgf.2.1 hgf.2.2.1;have q2:=Qfz (a:=-b) (b:=((Int.gcd (-a) (-b):Nat):Int)) (by first | exact hb | (rw [Hg]; exact hb)) hgf.1 hgf.2.1 hgf.2.2.2;have e:fr (Gt a b)=ri ((-a) / ((Int.gcd (-a) (-b):Nat):Int))++ri ((-b) / ((Int.gcd (-a) (-b):Nat):Int)):=by rw [Qok hs]; exact (Qxf (by omega)).symm
   rw [e];have hl:=Qc3 (-b).natAbs;by_cases hl1:(Fi (-b).natAbs).length=1
   ·obtain ⟨u,hu⟩:=gxE (l:=(Fi (-b).natAbs)) (i:=0) (by omega);have hue:=Qkb hl1 hu;exact w tt Tryz.func43 rfl [.c [] (Mq (z:=b)),.f (decide_eq_false (by omega)),.t (decide_eq_true hs),.c [] (Iz (z:=a)),.c [] (Iz (z:=b)),.g 19 true (by simp only [Rf]; exact decide_eq_true (by omega)),.x (Gf hu),.f (decide_eq_false (by omega)),.c [] cg,.c [] q1,.c [] q2] rfl rfl trivial
   ·exact w tt Tryz.func43 rfl [.c [] (Mq (z:=b)),.f (decide_eq_false (by omega)),.t (decide_eq_true hs),.c [] (Iz (z:=a)),.c [] (Iz (z:=b)),.g 19 false (by simp only [Rf]; exact decide_eq_false (by omega)),.f rfl,.c [] cg,.c [] q1,.c [] q2] rfl rfl trivial
 ·subst hs;have h0:(Na (Fi (1:Int).natAbs))[0]? = some [LV.int .i64 1]:=by rw [show (1:Int).natAbs=1 from rfl,Ew]; rfl
  have h1:decide (((Na (Fi (1:Int).natAbs)).length:Int)=1)=true:=by rw [show (1:Int).natAbs=1 from rfl,Ew]; rfl
  have e:fr (Gt a 0)=ri a++ri 1:=(Qxg a).symm;rw [e];exact w tt Tryz.func43 rfl [.c [] (Mq (z:=0)),.t rfl,.c [] (Dt (n:=1) (by decide)),.f rfl,.g 19 true h1,.x h0,.t rfl] rfl rfl trivial
 ·skip
  by_cases h1:b=1
  ·have h0:(Na (Fi (b).natAbs))[0]? = some [LV.int .i64 1]:=by rw [h1,show (1:Int).natAbs=1 from rfl,Ew]; rfl
   have hl1:decide (((Na (Fi (b).natAbs)).length:Int)=1)=true:=by rw [h1,show (1:Int).natAbs=1 from rfl,Ew]; rfl
   have e:fr (Gt a b)=ri (a)++ri (b):=by rw [Qol hs,h1]; exact (Qxg _).symm
   rw [e];exact w tt Tryz.func43 rfl [.c [] (Mq (z:=b)),.f (decide_eq_false (by omega)),.f (decide_eq_false (by omega)),.g 19 true hl1,.x h0,.t rfl] rfl rfl trivial
  ·have hgf:=Qnu (a:=a) (b:=b) (by omega) (by first | exact ha | (rw [Hg]; exact ha)) (by first | exact hb | (rw [Hg]; exact hb));have cg:=Qjv (a:=a) (b:=b) (by first | exact ha | (rw [Hg]; exact ha)) (by first | exact hb | (rw [Hg]; exact hb));have q1:=Qfz (a:=a) (b:=((Int.gcd (a) (b):Nat):Int)) (by first | exact ha | (rw [Hg]; exact ha)) hgf.1 hgf.2.1 hgf.2.2.1;have q2:=Qfz (a:=b) (b:=((Int.gcd (a) (b):Nat):Int)) (by first | exact hb | (rw [Hg]; exact hb)) hgf.1 hgf.2.1 hgf.2.2.2;have e:fr (Gt a b)=ri ((a) / ((Int.gcd (a) (b):Nat):Int))++ri ((b) / ((Int.gcd (a) (b):Nat):Int)):=by rw [Qol hs]; exact (Qxf (by omega)).symm
   rw [e];have hl:=Qc3 (b).natAbs;by_cases hl1:(Fi (b).natAbs).length=1
   ·obtain ⟨u,hu⟩:=gxE (l:=(Fi (b).natAbs)) (i:=0) (by omega);have hue:=Qkb hl1 hu;exact w tt Tryz.func43 rfl [.c [] (Mq (z:=b)),.f (decide_eq_false (by omega)),.f (decide_eq_false (by omega)),.g 19 true (by simp only [Rf]; exact decide_eq_true (by omega)),.x (Gf hu),.f (decide_eq_false (by omega)),.c [] cg,.c [] q1,.c [] q2] rfl rfl trivial
   ·exact w tt Tryz.func43 rfl [.c [] (Mq (z:=b)),.f (decide_eq_false (by omega)),.f (decide_eq_false (by omega)),.g 19 false (by simp only [Rf]; exact decide_eq_false (by omega)),.f rfl,.c [] cg,.c [] q1,.c [] q2] rfl rfl trivial
theorem Zl6 {n d:Int} (hn:-1000000000<=n/\n<=1000000000) (hd:-1000000000<=d/\d<=1000000000):Ut Tryz.prog 15 [.one (.int .i64 n),.one (.int .i64 d)] [.agg (fr (Gt n d))]:=by
 have b1:U6 n<=90000000:=Qc (Tz.2 (show n.natAbs<2^40 by omega)) (by decide);have b2:U6 d<=90000000:=Qc (Tz.2 (show d.natAbs<2^40 by omega)) (by decide);exact w tt Tryz.func15 rfl [.c [] (Dt (by omega)),.c [] (Dt (by omega)),.c [] (Qdx b1 b2)] rfl rfl trivial
theorem Zi7 {a:Rat}:Ut Tryz.prog 136 [.agg (fr a)] [.agg (fr (-a))]:=by
 have e:fr (-a)=ri (-a.num)++ri (a.den:Int):=rfl;rw [e];exact w tt Tryz.func136 rfl [.c [] (Iz (z:=a.num))] rfl rfl trivial
theorem Q59 {a b:Rat} (ha:Qs 20000000 a) (hb:Qs 20000000 b):Ut Tryz.prog 223 [.agg (fr a),.agg (fr b)] [.agg (fr (a+b))]:=by
 have k1:=Fl a.num (b.den:Int);have k2:=Fl b.num (a.den:Int);have k3:=Fl (a.den:Int) (b.den:Int);have k4:=Qbu (a.num*(b.den:Int)) (b.num*(a.den:Int));have h1:=ha.1; have h2:=ha.2; have h3:=hb.1; have h4:=hb.2;have cm:=Qdx (a:=a.num*(b.den:Int)+b.num*(a.den:Int)) (b:=(a.den:Int)*(b.den:Int)) (by omega) (by omega);rw [Q3c] at cm;exact w tt Tryz.func223 rfl [.c [] (Pm (a:=a.num) (b:=(b.den:Int)) (by omega) (by omega)),.c [] (Pm (a:=b.num) (b:=(a.den:Int)) (by omega) (by omega)),.c [] (Qwp (by omega) (by omega)),.c [] (Pm (a:=(a.den:Int)) (b:=(b.den:Int)) (by omega) (by omega)),.c [] cm] rfl rfl trivial
theorem Q6l {a b:Rat} (ha:Qs 40000000 a) (hb:Qs 40000000 b):Ut Tryz.prog 217 [.agg (fr a),.agg (fr b)] [.agg (fr (a*b))]:=by
 have k1:=Fl a.num b.num;have k3:=Fl (a.den:Int) (b.den:Int);have h1:=ha.1; have h2:=ha.2; have h3:=hb.1; have h4:=hb.2;have cm:=Qdx (a:=a.num*b.num) (b:=(a.den:Int)*(b.den:Int)) (by omega) (by omega);rw [Qn5] at cm;exact w tt Tryz.func217 rfl [.c [] (Pm (a:=a.num) (b:=b.num) (by omega) (by omega)),.c [] (Pm (a:=(a.den:Int)) (b:=(b.den:Int)) (by omega) (by omega)),.c [] cm] rfl rfl trivial
theorem Qwl {a b:Rat} (ha:Qs 40000000 a) (hb:Qs 40000000 b) (h0:b≠0):Ut Tryz.prog 247 [.agg (fr a),.agg (fr b)] [.agg (fr (a / b))]:=by
 have k1:=Fl a.num (b.den:Int);have k3:=Fl (a.den:Int) b.num;have h1:=ha.1; have h2:=ha.2; have h3:=hb.1; have h4:=hb.2;have cm:=Qdx (a:=a.num*(b.den:Int)) (b:=(a.den:Int)*b.num) (by omega) (by omega);rw [Qoh h0] at cm;exact w tt Tryz.func247 rfl [.c [] (Pm (a:=a.num) (b:=(b.den:Int)) (by omega) (by omega)),.c [] (Pm (a:=(a.den:Int)) (b:=b.num) (by omega) (by omega)),.c [] cm] rfl rfl trivial
theorem Qpt {a b:Rat} (ha:Qs 40000000 a) (hb:Qs 40000000 b):Ut Tryz.prog 21 [.agg (fr a),.agg (fr b)] [.one (.int .i64 (Gq a b))]:=by
 have k1:=Fl a.num (b.den:Int);have k2:=Fl b.num (a.den:Int);have h1:=ha.1; have h2:=ha.2; have h3:=hb.1; have h4:=hb.2;exact w tt Tryz.func21 rfl [.c [] (Pm (a:=a.num) (b:=(b.den:Int)) (by omega) (by omega)),.c [] (Pm (a:=b.num) (b:=(a.den:Int)) (by omega) (by omega)),.c [] (Zja (a:=a.num*(b.den:Int)) (b:=b.num*(a.den:Int)) (by omega) (by omega))] rfl rfl trivial
end Orr
namespace Orr
def B5:List Rat->List Rat
 | []=>[]
 |
  x::l=>match B5 l with
  | []=>if x=0 then [] else [x]
  | y::k=>x::y::k
theorem Qbd:∀ {l:List Rat},(∀ x∈l,x=0)->B5 l=[]
 | [],_=>rfl
 |
  x::l,h=>by
  have ih:=Qbd (l:=l) (λy hy=>h y (Qj _ hy));simp [B5,ih,h x (Qx ..)]
theorem Ql6:∀ {l:List Rat} {m:Nat} {y:Rat},(∀ j x,m<j->l[j]? = some x->x=0)->l[m]? = some y->y≠0->B5 l=l.take (m+1)
 | [],m,y,_,h,_=>by simp at h
 |
  x::l,0,y,h1,h2,h3=>by
  have h0:B5 l=[]:=Qbd λz hz=>by
   obtain ⟨j,hj⟩:=Zd.1 hz;exact h1 (j+1) z (by omega) (by simpa using hj)
  simp at h2;subst h2;simp [B5,h0,h3]
 |
  x::l,m+1,y,h1,h2,h3=>by
  have ih:=Ql6 (l:=l) (m:=m) (y:=y) (λj z hj hz=>h1 (j+1) z (by omega) (by simpa using hz)) (by simpa using h2) h3;cases hl:l with
  | nil=>subst hl; simp at h2
  |
   cons u k =>
   subst hl;rw [J6] at ih;simp only [B5] at ih ⊢;rw [ih];simp
theorem Qg5 {l:List Rat} {m:Nat} (hm:m<=l.length) (h1:∀ j x,m<=j->l[j]? = some x->x=0) (h2:0<m->∃ y,l[m-1]? = some y/\y≠0):B5 l=l.take m:=by
 rcases Qz m with h0 | h0
 ·subst h0;rw [Qbd λz hz=>?_]; rfl;obtain ⟨j,hj⟩:=Zd.1 hz;exact h1 j z (by omega) hj
 ·obtain ⟨y,hy,hy0⟩:=h2 h0;have:=Ql6 (l:=l) (m:=m-1) (y:=y) (λj x hj hx=>h1 j x (by omega) hx) hy hy0;rwa [show m-1+1=m from by omega] at this
theorem Qou:∀ (l:List Rat),∀ z∈B5 l,z∈l
 | [],z,h=>h
 |
  x::l,z,h=>by
  simp only [B5] at h;have ih:=Qou l
  split at h
  ·split at h
   ·cases h
   ·simp at h; simp [h]
  ·rename_i y k e;rw [e] at ih;rcases Qo.1 h with h | h
   ·simp [h]
   ·exact Qj _ (ih z h)
theorem Qot:∀ (l:List Rat),(B5 l).length<=l.length
 | []=>Ql _
 |
  x::l=>by
  have ih:=Qot l;simp only [B5]
  split
  ·split <;> simp
  ·rename_i y k e;rw [e] at ih;simp at ih ⊢; omega
def zp (p:List Int):List Rat:=p.map λ(z:Int)=>(z:Rat)
theorem Bs:∀ (p:List Int),B5 (zp p)=zp (trim p)
 | []=>rfl
 |
  x::l=>by
  have ih:=Bs l;unfold zp at ih ⊢;simp only [Z0,B5,trim,ih];cases h:trim l with
  |
   nil =>
   simp only [Jf];by_cases hx:x=0
   ·subst hx; simp
   ·have:(x:Rat)≠0:=λe=>hx (by exact_mod_cast e)
    simp [hx,this]
  | cons y k=>simp
theorem Sk (p:List Int):(zp p).length=p.length:=Q6 _
theorem Zcy {p:List Int} {i:Nat} {z:Int} (h:p[i]? = some z):(zp p)[i]? = some (z:Rat):=by simp [zp,h]
theorem Qfo (p:List Int) (i:Nat):(zp p).getD i 0=((p.getD i 0:Int):Rat):=by
 simp only [Qg,zp,Q9];cases p[i]? <;> rfl
def Rb (s:Nat) (p:List Rat):Prop:=∀ q∈p,Qs s q
theorem Rb.mono {s t:Nat} {p:List Rat} (h:Rb s p) (ht:s<=t):Rb t p:=λq hq=>(h q hq).mono ht
theorem Rb.get {s:Nat} {p:List Rat} (h:Rb s p) {i:Nat} {q:Rat} (hq:p[i]? = some q):Qs s q:=h q (Qa hq)
theorem Do {s:Nat} {z:Int} (h:U6 z<=s) (h1:1<=s):Qs s (z:Rat):=⟨by simpa using h,Qc (show U6 ((1:Nat):Int)<=1 by decide) h1⟩
theorem Ox {s:Nat} {p:List Int} (h:Bd s p) (h1:1<=s):Rb s (zp p):=λq hq=>by
 obtain ⟨z,hz,rfl⟩:=Zr.1 hq;exact Do (h z hz) h1
theorem Zf9 {s:Nat} (h1:1<=s):Qs s 0:=Do (z:=0) (by simp [Mk]) h1
theorem Rb.getD {s:Nat} {p:List Rat} (h:Rb s p) (h1:1<=s) (i:Nat):Qs s (p.getD i 0):=by
 rw [Qg];cases e:p[i]? with
 | none=>exact Zf9 h1
 | some q=>exact h.get e
theorem Rb.trim {s:Nat} {p:List Rat} (h:Rb s p):Rb s (B5 p):=λq hq=>h q (Qou p q hq)
def O1 (f:Nat->Rat) (n:Nat):List Rat:=(List.range n).map f
theorem Qfb (f:Nat->Rat) (n:Nat):(O1 f n).length=n:=by simp [O1]
theorem Qo2 (f:Nat->Rat) (n:Nat):O1 f (n+1)=O1 f n++[f n]:=by simp [O1,Wi]
theorem Zgx {s n:Nat} {f:Nat->Rat} (h:∀ i,i<n->Qs s (f i)):Rb s (O1 f n):=λq hq=>by
 obtain ⟨i,hi,rfl⟩:=Zr.1 hq;exact h i (Ku.1 hi)
theorem Qjf {f:Nat->Rat} {g:Nat->Int} (n:Nat) (h:∀ i,i<n->f i=(g i:Rat)):O1 f n=zp ((List.range n).map g):=by
 simp only [O1,zp,List.map_map];exact Ve λi hi=>h i (Ku.1 hi)
def Q48 (p q:List Rat):List Rat:=B5 (O1 (λi=>p.getD i 0+q.getD i 0) (max p.length q.length))
def Mh (p:List Rat) (c:Rat):List Rat:=B5 (O1 (λi=>p.getD i 0*c) p.length)
def Qrj (p:List Rat):List Rat:=Mh p (-1)
def Ql5 (p q:List Rat):List Rat:=Q48 p (Qrj q)
theorem Q2j (p q:List Int):Q48 (zp p) (zp q)=zp (Ak p q):=by
 unfold Q48 Ak Mf;rw [Qjf (g:=λk=>p.getD k 0+q.getD k 0) _ λi _=>by rw [Qfo,Qfo,Ko],Bs,Sk,Sk]
theorem Qoq (p:List Int) (c:Int):Mh (zp p) (c:Rat)=zp (Ff p c):=by
 unfold Mh Ff Mf;rw [Qjf (g:=λk=>p.getD k 0*c) _ λi _=>by rw [Qfo,Xj],Bs,Sk]
theorem Qya (p:List Int):Ff p (-1)=Pd p:=by
 unfold Ff Pd Mf;congr 2;funext k;omega
theorem Q2m (p:List Int):Qrj (zp p)=zp (Pd p):=by
 rw [<-Qya,<-Qoq]; rfl
theorem Qak {p q:List Int} (hp:Uz p) (hq:Uz q) (h:∀ k,p.getD k 0=q.getD k 0):p=q:=by
 have key:∀ {p q:List Int},Uz q->(∀ k,p.getD k 0=q.getD k 0)->q.length<=p.length:=by
  intro p q hq h;rcases Za p.length q.length with h1 | h1
  ·have h2:=Ho hq (by omega);rw [<-h,Qg,Qt (by omega)] at h2;exact (h2 rfl).elim
  ·exact h1
 exact Qko (Kn (key hp λk=>(h k).symm) (key hq h)) λj _=>h j
theorem Qxb {n m:Nat} {f g:Nat->Int} (hn:n<=m) (h:∀ k,k<n->f k=g k) (h0:∀ k,n<=k->k<m->g k=0):Mf n f=Mf m g:=by
 refine Qak (Ft _ _) (Ft _ _) λk=>?_
 rw [To,To];by_cases h1:k<n
 ·rw [if_pos h1,if_pos (by omega),h k h1]
 ·rw [if_neg h1];by_cases h2:k<m
  ·rw [if_pos h2,h0 k (by omega) h2]
  ·rw [if_neg h2]
theorem Q2q (p q:List Int):Ql5 (zp p) (zp q)=zp (Pw p q):=by
 unfold Ql5;rw [Q2m,Q2j];congr 1;have hl:=L6 q;unfold Ak Pw;refine Qxb (by omega) (λk _=>?_) λk h1 h2=>?_
 ·unfold Pd;rw [To]
  split
  ·omega
  ·rename_i h;have:q.getD k 0=0:=by rw [Qg,Qt (by omega)]; rfl
   omega
 ·have h3:p.getD k 0=0:=by rw [Qg,Qt (by omega)]; rfl
  have h4:(Pd q).getD k 0=0:=by rw [Qg,Qt (by omega)]; rfl
  unfold Pd at h4;rw [To] at h4
  split at h4
  ·omega
  ·have:q.getD k 0=0:=by rw [Qg,Qt (by omega)]; rfl
   omega
structure Crv where
 x:List Int
 y:List Int
 d:Int
abbrev cl (k:Crv):List LV:=[pl k.x,pl k.y,sg k.d,mg k.d]
def Crv.d' (k:Crv):Int:=if k.d=0 then 1 else k.d
def Crv.g (k:Crv):Int:=if k.d'<0 then -((Hd (k.d'::(trim k.x++trim k.y)):Nat):Int) else (Hd (k.d'::(trim k.x++trim k.y)):Nat)
def Crv.norm (k:Crv):Crv:=⟨trim ((trim k.x).map (· / k.g)),trim ((trim k.y).map (· / k.g)),k.d' / k.g⟩
theorem Qao {l:List Int}:∀ z∈l,((Hd l:Nat):Int)∣z:=by
 have key:∀ (l:List Int) (g:Nat),(l.foldl (λg z=>Nat.gcd g z.natAbs) g∣g)/\∀ z∈l,l.foldl (λg z=>Nat.gcd g z.natAbs) g∣z.natAbs:=by
  intro l
  induction l with
  | nil=>intro g; exact ⟨Nat.dvd_refl _,by simp⟩
  |
   cons u l ih =>
   intro g;obtain ⟨h1,h2⟩:=ih (Nat.gcd g u.natAbs);refine ⟨Nat.dvd_trans h1 (K0 _ _),λz hz=>?_⟩;rcases Qo.1 hz with rfl | hz
   ·exact Nat.dvd_trans h1 (Ua _ _)
   ·exact h2 z hz
 intro z hz;have:=(key l 0).2 z hz;exact Wy.2 this
theorem Crv.d'_ne (k:Crv):k.d'≠0:=by unfold Crv.d'; split <;> omega
theorem Crv.gcd_ne (k:Crv):Hd (k.d'::(trim k.x++trim k.y))≠0:=by
 intro e;have h:=Qao (l:=k.d'::(trim k.x++trim k.y)) k.d' (Qx ..);rw [e] at h;exact k.d'_ne (by simpa using h)
theorem Crv.g_ne (k:Crv):k.g≠0:=by
 have h0:=k.gcd_ne;unfold Crv.g
 split <;> omega
theorem Crv.g_dvd (k:Crv):∀ z∈k.d'::(trim k.x++trim k.y),z % k.g=0:=by
 intro z hz;have h:=Qao z hz;refine Jt ?_;unfold Crv.g
 split
 ·exact Up.2 h
 ·exact h
theorem Crv.isz_g (k:Crv) {s:Nat} (h:U6 k.d'<=s):U6 k.g<=s:=by
 have hd:=Qao (l:=k.d'::(trim k.x++trim k.y)) k.d' (Qx ..);have hle:Hd (k.d'::(trim k.x++trim k.y))<=k.d'.natAbs:=Kg (by have:=k.d'_ne; omega) (Wy.1 hd);refine Qc (Rp ?_) h;unfold Crv.g
 split <;> simp <;> exact hle
structure Cs (s n:Nat) (k:Crv):Prop where
 x:Bd s k.x
 y:Bd s k.y
 d:U6 k.d<=s
 lx:k.x.length<=n
 ly:k.y.length<=n
theorem Qqj {k:Crv} {s:Nat} (h:U6 k.d<=s) (h1:1<=s):U6 k.d'<=s:=by unfold Crv.d'; split <;> first | exact h1 | exact h
theorem Qfu {s:Nat} {p:List Int} (h:Bd s p) (g:Int):Bd s (p.map (· / g)):=λz hz=>by
 obtain ⟨u,hu,rfl⟩:=Zr.1 hz;exact Qc (Qas u g) (h u hu)
theorem Cs.norm {s n:Nat} {k:Crv} (h:Cs s n k) (h1:1<=s):Cs s n k.norm:=by
 refine ⟨Tj (Qfu (Tj h.x) _),Tj (Qfu (Tj h.y) _),Qc (Qas _ _) (Qqj h.d h1),?_,?_⟩
 ·refine Qc (Ht _) ?_; rw [Q6]; exact Qc (Ht _) h.lx
 ·refine Qc (Ht _) ?_; rw [Q6]; exact Qc (Ht _) h.ly
theorem Cs.mono {s n t m:Nat} {k:Crv} (h:Cs s n k) (hs:s<=t) (hn:n<=m):Cs t m k:=⟨Us h.x hs,Us h.y hs,Qc h.d hs,Qc h.lx hn,Qc h.ly hn⟩
def Nml (k:Crv):Prop:=Uz k.x/\Uz k.y/\0<k.d/\Hd (k.d::(k.x++k.y))=1
theorem Crv.norm_of {k:Crv} (h:Nml k):k.norm=k:=by
 obtain ⟨h1,h2,h3,h4⟩:=h;have hd:k.d'=k.d:=by unfold Crv.d'; rw [if_neg (by omega)]
 have hx:trim k.x=k.x:=h1;have hy:trim k.y=k.y:=h2;have hg:k.g=1:=by unfold Crv.g; rw [hd,hx,hy,h4,if_neg (by omega)]; rfl
 unfold Crv.norm;rw [hg,hd,hx,hy];simp [hx,hy]
theorem Qqd {l:List Int} {g:Int} (hg:g≠0) (hga:g.natAbs=Hd l):Hd (l.map (· / g))=1:=by
 have key:∀ (l:List Int) (a:Nat),(∀ z∈l,g∣z)->l.foldl (λa z=>Nat.gcd a z.natAbs) (a*g.natAbs)=((l.map (· / g)).foldl (λa z=>Nat.gcd a z.natAbs) a)*g.natAbs:=by
  intro l
  induction l with
  | nil=>intro a _; rfl
  |
   cons z l ih =>
   intro a h;simp only [Z0,Z5];have hz:z.natAbs=(z / g).natAbs*g.natAbs:=by
    obtain ⟨q,rfl⟩:=h z (Qx ..);rw [Xl _ hg,Jr,Zh]
   rw [hz,Ub];exact ih _ λu hu=>h u (Qj _ hu)
 have h:=key l 0 λz hz=>Xo.1 (by rw [hga]; exact Xo.2 (Qao z hz))
 rw [J8] at h;have h':Hd l=Hd (l.map (· / g))*g.natAbs:=h;rw [<-hga] at h';have hp:0<g.natAbs:=by omega
 exact Nat.eq_of_mul_eq_mul_right hp (by rw [Ki]; exact h'.symm)
theorem Ej {l:List Int} {g:Int} (ht:Uz l) (hg:g≠0) (hd:∀ z∈l,g∣z):Uz (l.map (· / g)):=by
 induction l with
 | nil=>rfl
 |
  cons x l ih =>
  have hne:∀ z∈x::l,z≠0->z / g≠0:=λz hz h0 h1=>by
   obtain ⟨q,rfl⟩:=hd z hz;rw [Xl _ hg] at h1;rw [h1] at h0; simp at h0
  unfold Uz at ht ih ⊢;cases hl:trim l with
  |
   nil =>
   simp only [trim,hl] at ht
   split at ht
   ·cases ht
   ·rename_i hx;injection ht with _ h2;subst h2;simp [trim,hne x (Qx ..) hx]
  |
   cons y k =>
   simp only [trim,hl] at ht;injection ht with _ h2;have hll:trim l=l:=by rw [hl]; exact h2
   have ih:=ih hll λz hz=>hd z (Qj _ hz)
   rw [Z0];have hne2:l.map (· / g)≠[]:=by rw [<-hll,hl]; simp
   cases hm:l.map (· / g) with
   | nil=>exact absurd hm hne2
   |
    cons u w =>
    rw [hm] at ih;have e:trim (x / g::u::w)=match trim (u::w) with | []=>if x / g=0 then [] else [x / g] | y::k=>x / g::y::k:=rfl
    rw [e,ih]
theorem Crv.nml (k:Crv):Nml k.norm:=by
 have hg:=k.g_ne;have hdv:∀ z∈k.d'::(trim k.x++trim k.y),k.g∣z:=λz hz=>Ym (k.g_dvd z hz)
 have hx:=Ej (g:=k.g) (Ra k.x) hg λz hz=>hdv z (by simp [hz])
 have hy:=Ej (g:=k.g) (Ra k.y) hg λz hz=>hdv z (by simp [hz])
 refine ⟨Ra _,Ra _,?_,?_⟩
 ·show 0<k.d' / k.g;obtain ⟨q,hq⟩:=hdv k.d' (Qx ..);have h0:=k.d'_ne;have hgc:=k.gcd_ne;have e:k.d' / k.g=q:=by rw [hq,Xl _ hg]
  rw [e];unfold Crv.g at hq hg;have hq0:q≠0:=λe=>by rw [e,Kr] at hq; exact h0 hq
  split at hq
  ·rename_i hneg;rcases Wx hq0 with h | h
   ·have:=Kk (a:=-((Hd (k.d'::(trim k.x++trim k.y)):Nat):Int)) (b:=q) (by omega) h;omega
   ·exact h
  ·rename_i hneg;rcases Wx hq0 with h | h
   ·have:=Kj (a:=((Hd (k.d'::(trim k.x++trim k.y)):Nat):Int)) (b:=q) (by omega) h;omega
   ·exact h
 ·show Hd (k.d' / k.g::(trim ((trim k.x).map (· / k.g))++trim ((trim k.y).map (· / k.g))))=1;rw [show trim ((trim k.x).map (· / k.g))=(trim k.x).map (· / k.g) from hx,show trim ((trim k.y).map (· / k.g))=(trim k.y).map (· / k.g) from hy,<-J1,<-Z0 (f:=(· / k.g))];refine Qqd hg ?_;unfold Crv.g
  split <;> omega
structure Pt where
 c:Crv
 id:Int
def Hb (p:Pt):List LV:=[pl p.c.x,pl p.c.y,sg p.c.d,mg p.c.d,.int .i64 p.id]
def pts (l:List Pt):LV:=.row (l.map Hb)
def pos:List Pt->Int->Nat
 | [],_=>0
 | p::l,id=>if p.id<id then pos l id+1 else 0
def has (l:List Pt) (id:Int):Bool:=match l[pos l id]? with
 | some p=>decide (p.id=id)
 | none=>false
theorem Zao (l:List Pt) (id:Int):pos l id<=l.length:=by
 induction l with
 | nil=>exact Ql _
 | cons p l ih=>simp only [pos]; split <;> simp <;> omega
theorem Qx8:∀ {l:List Pt} {id:Int} {k:Nat},(∀ j p,j<k->l[j]? = some p->p.id<id)->(k=l.length\/∃ p,l[k]? = some p/\¬p.id<id)->pos l id=k
 |
  [],id,k,_,h=>by
  rcases h with h | ⟨p,h,_⟩
  ·subst h; rfl
  ·simp at h
 |
  q::l,id,0,_,h=>by
  rcases h with h | ⟨p,h,h2⟩
  ·simp at h
  ·simp at h; subst h; simp [pos,h2]
 |
  q::l,id,k+1,h1,h=>by
  have hq:=h1 0 q (by omega) rfl;simp only [pos,hq,if_true];rw [Qx8 (k:=k) (λj p hj hp=>h1 (j+1) p (by omega) (by simpa using hp))];rcases h with h | ⟨p,h,h2⟩
  ·left; simpa using h
  ·right; exact ⟨p,by simpa using h,h2⟩
def put (l:List Pt) (q:Pt):List Pt:=l.take (pos l q.id)++q::l.drop (pos l q.id)
def Qa9 (l:List Pt) (q:Pt):Int:=if has l q.id=true then 6 else if 6<=l.length then 9 else 0
def Qv1 (s n:Nat) (p:Pt):Prop:=Nml p.c/\Cs s n p.c
theorem Q2f (l:List Pt) (q:Pt):(put l q).length=l.length+1:=by
 have:=Zao l q.id;simp [put]; omega
theorem Q2g {l:List Pt} {q p:Pt} (h:p∈put l q):p=q\/p∈l:=by
 unfold put at h;rcases Qu.1 h with h | h
 ·exact .inr (Qm h)
 ·rcases Qo.1 h with h | h
  ·exact .inl h
  ·exact .inr (Zc h)
def T0:List Pt->List Pt->List Pt×Int
 | acc,[]=>(acc,0)
 | acc,q::qs=>if Qa9 acc q=0 then T0 (put acc q) qs else ([],Qa9 acc q)
def Eu (a b:Crv):Bool:=decide (a.x=b.x/\a.y=b.y/\a.d=b.d)
def Nm (out:List Pt) (p:Pt):List Pt:=if out.any (λq=>Eu p.c q.c)=true then out else out++[p]
def Mc (l:List Pt):List Pt:=l.foldl Nm []
theorem Q5p {out:List Pt} {p q:Pt} (h:q∈Nm out p):q∈out\/q=p:=by
 unfold Nm at h
 split at h
 ·exact .inl h
 ·rcases Qu.1 h with h | h
  ·exact .inl h
  ·exact .inr (by simpa using h)
theorem Q5o (out:List Pt) (p:Pt):(Nm out p).length<=out.length+1:=by
 unfold Nm; split <;> simp
theorem Rr {α β:Type} (f:β->α->β) (b:β) (l:List α) {i:Nat} {x:α} (h:l[i]? = some x):(l.take (i+1)).foldl f b=f ((l.take i).foldl f b) x:=by
 rw [Y3,h]; simp [Vw]
theorem Qcv (l:List Pt) (i:Nat):∀ q∈(l.take i).foldl Nm [],q∈l:=by
 induction i with
 | zero=>simp
 |
  succ i ih =>
  intro q hq;cases hi:l[i]? with
  |
   none =>
   rw [Qn (by have:=Ji.1 hi; omega)] at hq;rw [Qn (Ji.1 hi)] at ih;exact ih q hq
  |
   some x =>
   rw [Rr _ _ _ hi] at hq;rcases Q5p hq with h | h
   ·exact ih q h
   ·subst h; exact Qa hi
theorem Qcu (l:List Pt) (i:Nat):((l.take i).foldl Nm []).length<=i:=by
 induction i with
 | zero=>simp
 |
  succ i ih =>
  cases hi:l[i]? with
  |
   none =>
   rw [Qn (by have:=Ji.1 hi; omega)];rw [Qn (Ji.1 hi)] at ih;omega
  |
   some x =>
   rw [Rr _ _ _ hi];have:=Q5o ((l.take i).foldl Nm []) x;omega
theorem Mp {l:List Pt} {q:Pt} (h:q∈Mc l):q∈l:=by
 have:=Qcv l l.length q;rw [Qy] at this;exact this h
theorem Qmg (l:List Pt):(Mc l).length<=l.length:=by
 have:=Qcu l l.length;rwa [Qy] at this
def IsPt (s n:Nat) (z:List LV) (q:Pt):Prop:=∃ lx ly b l px py d,z=[.row lx,.row ly,.bool b,Zk9 l,.int .i64 q.id]/\IsInts lx px/\IsInts ly py/\Rk (.bool b) (Zk9 l) d/\Cs s n ⟨px,py,d⟩/\q.c=Crv.norm ⟨px,py,d⟩
theorem Zj3 {s n:Nat} {p:Pt} (h:Qv1 s n p):IsPt s n (Hb p) p:=by
 obtain ⟨b,l,h1,h2,h3,h4⟩:=Uu p.c.d;refine ⟨_,_,decide (p.c.d<0),Fg p.c.d.natAbs,_,_,p.c.d,rfl,He _,He _,Uu _,h.2,(Crv.norm_of h.1).symm⟩
def IsPts (s n:Nat):List (List LV)->List Pt->Prop
 | [],[]=>True
 | z::zs,q::qs=>IsPt s n z q/\IsPts s n zs qs
 | _,_=>False
theorem IsPts.len {s n:Nat}:∀ {zs:List (List LV)} {qs:List Pt},IsPts s n zs qs->zs.length=qs.length
 | [],[],_=>rfl
 | _::_,_::_,h=>by simp [h.2.len]
 | [],_::_,h=>h.elim
 | _::_,[],h=>h.elim
theorem IsPts.get {s n:Nat}:∀ {zs:List (List LV)} {qs:List Pt},IsPts s n zs qs->∀ {i:Nat} {q:Pt},qs[i]? = some q->∃ z,zs[i]? = some z/\IsPt s n z q
 | [],[],_,i,q,h=>by simp at h
 | z::zs,q::qs,h,0,r,hr=>by simp at hr; subst hr; exact ⟨z,rfl,h.1⟩
 | z::zs,q::qs,h,i+1,r,hr=>by simpa using h.2.get (i:=i) (by simpa using hr)
 | [],_::_,h,_,_,_=>h.elim
 | _::_,[],h,_,_,_=>h.elim
theorem Q1c {s n:Nat}:∀ {l:List Pt},(∀ p∈l,Qv1 s n p)->IsPts s n (l.map Hb) l
 | [],_=>trivial
 | p::l,h=>⟨Zj3 (h p (Qx ..)),Q1c λq hq=>h q (Qj _ hq)⟩
theorem IsPt.ok {s n:Nat} {z:List LV} {q:Pt} (h:IsPt s n z q) (h1:1<=s):Qv1 s n q:=by
 obtain ⟨lx,ly,b,l,px,py,d,_,_,_,_,hc,e⟩:=h;unfold Qv1;rw [e];exact ⟨Crv.nml _,hc.norm h1⟩
theorem Q4w (acc qs:List Pt) {i:Nat} {q:Pt} (hi:qs[i]? = some q) (h:T0 acc (qs.take i)=((T0 acc (qs.take i)).1,0)):T0 acc (qs.take (i+1))=if Qa9 (T0 acc (qs.take i)).1 q=0 then (put (T0 acc (qs.take i)).1 q,0) else ([],Qa9 (T0 acc (qs.take i)).1 q):=by
 induction qs generalizing acc i with
 | nil=>simp at hi
 |
  cons x qs ih =>
  cases i with
  | zero=>simp at hi; subst hi; simp [T0]
  |
   succ i =>
   simp only [J6,T0] at h ⊢;by_cases h0:Qa9 acc x=0
   ·simp only [h0,if_true] at h ⊢;exact ih (put acc x) (by simpa using hi) h
   ·simp only [h0,if_false] at h;injection h with _ h;exact absurd h h0
theorem Q92 (acc qs:List Pt) {i:Nat} {e:Int} (he:e≠0) (h:T0 acc (qs.take i)=([],e)):T0 acc qs=([],e):=by
 induction qs generalizing acc i with
 | nil=>simp [T0] at h; exact absurd h.2.symm he
 |
  cons x qs ih =>
  cases i with
  | zero=>simp [T0] at h; exact absurd h.2.symm he
  |
   succ i =>
   simp only [J6,T0] at h ⊢;by_cases h0:Qa9 acc x=0
   ·simp only [h0,if_true] at h ⊢; exact ih _ h
   ·simp only [h0,if_false] at h ⊢; exact h
def Gz (p:List Int) (q:Rat):Int:=Nn (Zf5 p q.num q.den) 0
abbrev qa (q:Rat):List LV:=pl [-q.num,(q.den:Int)]::(rl q++rl q)
def Su (sgn:List Int->Int):Nat->List Int->Int
 | 0,_=>0
 | k+1,p=>if p.length=0 then 0 else if sgn p=0 then Su sgn k (Gj p) else sgn p
theorem Qap (sgn:List Int->Int):∀ (k:Nat) (p:List Int),p.length<=k->Su sgn k p=Su sgn p.length p
 |
  0,p,h=>by
  have:p.length=0:=by omega
  rw [this]
 |
  k+1,p,h=>by
  cases hp:p.length with
  | zero=>simp [Su,hp]
  |
   succ m =>
   simp only [Su];have h1:=Pn p;rw [Qap sgn k (Gj p) (by omega),Qap sgn m (Gj p) (by omega)]
theorem Qhp (sgn:List Int->Int) {p:List Int} (h:p.length=0):Su sgn p.length p=0:=by rw [h]; rfl
theorem Qhn (sgn:List Int->Int) {p:List Int} (h:0<p.length) (hs:sgn p≠0):Su sgn p.length p=sgn p:=by
 obtain ⟨m,hm⟩:∃ m,p.length=m+1:=⟨p.length-1,by omega⟩;rw [hm]; simp only [Su]; rw [if_neg (by omega),if_neg hs]
theorem Qho (sgn:List Int->Int) {p:List Int} (h:0<p.length) (hs:sgn p=0):Su sgn p.length p=Su sgn (Gj p).length (Gj p):=by
 obtain ⟨m,hm⟩:∃ m,p.length=m+1:=⟨p.length-1,by omega⟩;rw [hm]; simp only [Su]; rw [if_neg (by omega),if_pos hs];exact Qap sgn m _ (by have:=Pn p; omega)
structure Tm where
 p:List Int
 lo:Rat
 hi:Rat
abbrev ta (t:Tm):List LV:=pl t.p::(rl t.lo++rl t.hi)
abbrev tq (q:Rat):Tm:=⟨[-q.num,(q.den:Int)],q,q⟩
def Tf (sg:List Int->Int) (p:List Int):Int:=Su sg p.length p
def Mx (p:List Int) (q:Rat):Int:=Tf (λp=>Gz p q) p
structure Pb (p:List Int):Prop where
 t:Uz p
 l:p.length<=64
 b:Bd 16777216 p
abbrev Qb (q:Rat):Prop:=Qs 16777216 q
abbrev Cb (k:Crv):Prop:=Cs 1048576 16 k
def Hf (a b:Crv):List Int:=Pw (Ff b.x a.d) (Ff a.x b.d)
def Hp (a b:Crv):List Int:=Pw (Ff b.y a.d) (Ff a.y b.d)
def Oj (sg:List Int->Int) (a b:Pt):List (List Int)->Bool
 | []=>decide (a.id<b.id)
 | p::l=>if 0<p.length then decide (0<Tf sg p) else Oj sg a b l
def Td (sg:List Int->Int) (a b:Pt):Bool:=Oj sg a b [Hf a.c b.c,Hp a.c b.c]
end Orr
namespace Orr
open Go
structure Ct where
 kind:Int
 i0:Int
 i1:Int
 i2:Int
 i3:Int
 p:List Int
 want:Int
abbrev Qcj (c:Ct):List LV:=[.int .i64 c.kind,.int .i64 c.i0,.int .i64 c.i1,.int .i64 c.i2,.int .i64 c.i3,pl c.p,.int .i64 c.want]
def Qaj (p q:List Int):List Int:=if 0<p.length then p else q
def Rl:List Int->List Int->Bool
 | x::l,y::m=>if x=y then Rl l m else decide (x<y)
 | _,_=>false
def Tg (a b:Ct):Bool:=Rl [a.kind,a.i0,a.i1,a.i2,a.i3] [b.kind,b.i0,b.i1,b.i2,b.i3]
def Qa5 (out:List Ct) (c:Ct):Nat->Nat
 | 0=>0
 |
  k+1=>match out[k]? with
  | some x=>if Tg c x=true then Qa5 out c k else k+1
  | none=>k+1
theorem Q18 (out:List Ct) (c:Ct):∀ k,Qa5 out c k<=k
 | 0=>Ql _
 |
  k+1=>by
  simp only [Qa5]
  split
  ·split
   ·exact Nat.le_succ_of_le (Q18 out c k)
   ·exact Ql _
  ·exact Ql _
theorem Zfw {out:List Ct} {c x:Ct} {k:Nat} (hx:out[k]? = some x) (h:Tg c x=true):Qa5 out c (k+1)=Qa5 out c k:=by
 simp only [Qa5,hx,h,if_true]
theorem Zan {out:List Ct} {c x:Ct} {k:Nat} (hx:out[k]? = some x) (h:Tg c x=false):Qa5 out c (k+1)=k+1:=by
 simp [Qa5,hx,h]
def Qc7 (out:List Ct) (c:Ct):List Ct:=out.take (Qa5 out c out.length)++c::out.drop (Qa5 out c out.length)
theorem Q9g (out:List Ct) (c:Ct):(Qc7 out c).length=out.length+1:=by
 have:=Q18 out c out.length;simp [Qc7]; omega
theorem Q9h {out:List Ct} {c x:Ct} (h:x∈Qc7 out c):x=c\/x∈out:=by
 simp only [Qc7,Qu,Qo] at h;rcases h with h | h | h
 ·exact .inr (Qm h)
 ·exact .inl h
 ·exact .inr (Zc h)
def Hi (l:List Ct):List Ct:=l.foldl Qc7 []
theorem Qyz (l:List Ct) (c:Ct):Hi (l++[c])=Qc7 (Hi l) c:=by simp [Hi,Vw]
theorem Qy0 {l:List Ct} {i:Nat} {c:Ct} (h:l[i]? = some c):Hi (l.take (i+1))=Qc7 (Hi (l.take i)) c:=by
 rw [Zs,h]; exact Qyz _ _
theorem Qno:∀ (l acc:List Ct),(l.foldl Qc7 acc).length=acc.length+l.length
 | [],acc=>by simp
 | c::l,acc=>by simp only [Z5]; rw [Qno l (Qc7 acc c),Q9g]; simp; omega
theorem Ll (l:List Ct):(Hi l).length=l.length:=by unfold Hi; rw [Qno]; simp
theorem Qnp:∀ (l acc:List Ct) {x:Ct},x∈l.foldl Qc7 acc->x∈l\/x∈acc
 | [],acc,x,h=>.inr h
 |
  c::l,acc,x,h=>by
  simp only [Z5] at h;rcases Qnp l _ h with h | h
  ·exact .inl (Qj _ h)
  ·rcases Q9h h with rfl | h
   ·exact .inl (Qx ..)
   ·exact .inr h
theorem Qb8 {l:List Ct} {x:Ct} (h:x∈Hi l):x∈l:=by
 rcases Qnp l [] h with h | h
 ·exact h
 ·cases h
theorem Qtx {α:Type} (l:List α) (z x:α) {k m':Nat} (hk:k<=l.length) (hm:m'=l.length-k) :
 ((l++[z]).take (k+1)++((l++[z]).drop k).take m'++(l++[z]).drop (k+1+m')).set k x=l.take k++x::l.drop k:=by
 subst hm;have e1:((l++[z]).drop k).take (l.length-k)=l.drop k:=by
  rw [Vu hk,Yl (by simp),Qn (by simp)]
 have e2:(l++[z]).drop (k+1+(l.length-k))=[]:=Yp (by simp; omega);rw [e1,e2,Zo];have e3:(l++[z]).take (k+1)=(l++[z]).take k++[(l++[z])[k]'(by simp; omega)]:=by rw [List.take_succ_eq_append_getElem]
 rw [e3,Yl hk,Zl,List.set_append,if_neg (by simp; omega)];simp [Zt hk]
def Dm (a b:Pt):List Int:=Qaj (Hf a.c b.c) (Hp a.c b.c)
def Nw (sg:List Int->Int) (a b:Pt):Ct:={ kind:=1,i0:=a.id,i1:=b.id,i2:=0,i3:=0,p:=Dm a b,want:=Tf sg (Dm a b) }
end Orr
namespace Orr
open Go Go.Proofs
set_option maxRecDepth 10000
abbrev pr (p:List Int):TV:=.one (pl p)
theorem Sv {p:List Int} {i:Nat} {z:Int} (h:p[i]? = some z):(p.map Gw)[i]? = some (Gw z):=Gx h
theorem Qjw (p:List Int):Ut Tryz.prog 36 [pr p] [pr (trim p)]:=by
 refine Gv Tryz.func36 rfl (ln 0 rfl rfl λhl=>?_);rw [Q6] at hl;refine go tt [] rfl trivial ?_;refine lp (S:=Nat) 0 (λL1 n=>(3,.v (.one (.int .i64 (n:Int))))::L1) (λ_=>[]) id (λn=>n<=p.length/\∀ j x,n<=j->p[j]? = some x->x=0) (p.map Gw).length ⟨by simp,λj x h1 h2=>by
  have:=(Qd.1 h2).1; simp at h1; omega⟩ rfl (λ_ _=>rfl) rfl λn ⟨h1,h2⟩=>?_
 cases n with
 | zero=>exact en tt [.f (by simp),.f rfl,.i 0] rfl (by rw [Qvm h1 h2 (λh=>by omega)]; simp [pl]) (by simp [Ur])
 |
  succ n =>
  obtain ⟨x,hx⟩:=gxE (l:=p) (i:=n) (by omega);by_cases h0:x=0
  ·refine go tt [.t (by simp),.r 11 (v:=.one (.int .i64 (n:Int))) (by simp),.x (Sv hx),.c [] Ad,.t (by simp [h0]),.r 17 (v:=.one (.int .i64 (n:Int))) (by simp)] rfl (by simp [Ur]; omega) ?_;exact rd n (by simp) ⟨by omega,λj y h3 h4=>by
    rcases Vl h3 with rfl | h3
    ·rw [hx] at h4; injection h4 with h4; rw [<-h4,h0]
    ·exact h2 j y h3 h4⟩ rfl
  ·exact en tt [.t (by simp),.r 11 (v:=.one (.int .i64 (n:Int))) (by simp),.x (Sv hx),.c [] Ad,.f (by simp [h0]),.i (n+1)] rfl (by rw [Qvm h1 h2 (λ_=>⟨x,hx,h0⟩)]; simp [pl,Jp]) (by simp [Ur] <;> omega)
theorem Qz8 (p:List Int) (k:Nat):Ut Tryz.prog 204 [pr p,.one (.int .i64 (k:Int))] [.agg (Gw (p.getD k 0))]:=by
 by_cases h:k<p.length
 ·have hx:=Qe h;have e:p.getD k 0=p[k]:=by simp [List.getD,hx]
  rw [e];exact w tt Tryz.func204 rfl [.t (by simp; omega),.x (Sv hx)] rfl rfl trivial
 ·have e:p.getD k 0=0:=by simp [List.getD,Qt (Vb h)]
  rw [e,Eb];exact w tt Tryz.func204 rfl [.f (by simp; omega)] rfl rfl trivial
def fil (f:Nat->List LV) (z:List LV) (n k:Nat):List (List LV):=(List.range n).map λi=>if i<k then f i else z
theorem E4 (f:Nat->List LV) (z:List LV) (n k:Nat):(fil f z n k).length=n:=by simp [fil]
theorem Lv (f:Nat->List LV) (z:List LV) (n:Nat):List.replicate n z=fil f z n 0:=by
 refine Xf λi=>?_
 simp only [fil,Jw,Q9];by_cases h:i<n
 ·simp [h]
 ·simp [h]
theorem I8 (f:Nat->List LV) (z:List LV) (n:Nat):fil f z n n=(List.range n).map f:=by
 refine Ve λi hi=>?_
 rw [if_pos (Ku.1 hi)]
theorem I9 (f:Nat->List LV) (z:List LV) {n k:Nat} (h:k<n):(fil f z n k).set k (f k)=fil f z n (k+1):=by
 refine Xf λi=>?_
 rw [Y0];simp only [fil,Q9,Q6,List.length_range,h,if_true];by_cases e:k=i
 ·subst e; simp [h]
 ·simp only [e,if_false];by_cases hi:i<n
  ·simp only [Xs hi,Vn];congr 1;by_cases h2:i<k
   ·rw [if_pos h2,if_pos (by omega)]
   ·rw [if_neg h2,if_neg (by omega)]
  ·simp [Qt,hi]
theorem Qps {n fid:Nat} {l1 l2:List LV} {g:Nat->Int} (hn:n<274877906944) (h:∀ k,k<n->Ut Tryz.prog fid [.one (.int .i64 (k:Int)),.one (.sh l1),.one (.sh l2)] [.agg (Gw (g k))]):Ut Tryz.prog 202 [.one (.int .i64 (n:Int)),.one (.fn fid [] [.sh l1,.sh l2])] [pr (Mf n g)]:=by
 refine Gv Tryz.func202 rfl ?_;refine go tt [.i n,.i n,.r 10 (eI (b:=(n:Int)) (by simp))] rfl (by simp [Ur]; omega) ?_;rw [Lv λk=>Gw (g k)];refine lp (S:=Nat) 1 (λL1 k=>(11,.v (.one (.int .i64 (k:Int))))::L1) (λk=>[.row false 27 2 (fil (λk=>Gw (g k)) [.bool false,.nils] n k)]) (λk=>n-k) (λk=>k<=n) 0 (Qh _) rfl (λ_ _=>rfl) rfl λk hk=>?_
 by_cases hlt:k<n
 ·refine go tt [.t (by simp; omega),.c [] (h k hlt),.i k] rfl (by simp [Ur,E4]; omega) ?_;have e:=I9 (λk=>Gw (g k)) [.bool false,.nils] hlt;rw [e];exact rd (k+1) (by omega) hlt rfl
 ·obtain rfl:k=n:=by omega
  have e:fil (λk=>Gw (g k)) [.bool false,.nils] k k=((List.range k).map g).map Gw:=by rw [I8]; simp
  rw [e];exact en tt [.f (by simp),.c [] (Qjw _)] rfl rfl trivial
theorem Qz3 {n fid:Nat} {l1:List LV} {g:Nat->Int} (hn:n<274877906944) (h:∀ k,k<n->Ut Tryz.prog fid [.one (.int .i64 (k:Int)),.one (.sh l1)] [.agg (Gw (g k))]):Ut Tryz.prog 202 [.one (.int .i64 (n:Int)),.one (.fn fid [] [.sh l1])] [pr (Mf n g)]:=by
 refine Gv Tryz.func202 rfl ?_;refine go tt [.i n,.i n,.r 10 (eI (b:=(n:Int)) (by simp))] rfl (by simp [Ur]; omega) ?_;rw [Lv λk=>Gw (g k)];refine lp (S:=Nat) 1 (λL1 k=>(11,.v (.one (.int .i64 (k:Int))))::L1) (λk=>[.row false 27 2 (fil (λk=>Gw (g k)) [.bool false,.nils] n k)]) (λk=>n-k) (λk=>k<=n) 0 (Qh _) rfl (λ_ _=>rfl) rfl λk hk=>?_
 by_cases hlt:k<n
 ·refine go tt [.t (by simp; omega),.c [] (h k hlt),.i k] rfl (by simp [Ur,E4]; omega) ?_;have e:=I9 (λk=>Gw (g k)) [.bool false,.nils] hlt;rw [e];exact rd (k+1) (by omega) hlt rfl
 ·obtain rfl:k=n:=by omega
  have e:fil (λk=>Gw (g k)) [.bool false,.nils] k k=((List.range k).map g).map Gw:=by rw [I8]; simp
  rw [e];exact en tt [.f (by simp),.c [] (Qjw _)] rfl rfl trivial
theorem Ziz {p q:List Int} (k:Nat) (hp:Bd 4294967295 p) (hq:Bd 4294967295 q):Ut Tryz.prog 208 [.one (.int .i64 (k:Int)),.one (.sh [pl p]),.one (.sh [pl q])] [.agg (Gw (p.getD k 0+q.getD k 0))] :=
 w tt Tryz.func208 rfl [.c [] (Qz8 p k),.c [] (Qz8 q k),.c [] (Qcy (Uu _) (Uu _) (U8 hp k) (U8 hq k))] rfl rfl trivial
theorem Zi9 {p q:List Int} (k:Nat) (hp:Bd 4294967295 p) (hq:Bd 4294967295 q):Ut Tryz.prog 203 [.one (.int .i64 (k:Int)),.one (.sh [pl p]),.one (.sh [pl q])] [.agg (Gw (p.getD k 0-q.getD k 0))] :=
 w tt Tryz.func203 rfl [.c [] (Qz8 p k),.c [] (Qz8 q k),.c [] (Q66 (Uu _) (Uu _) (U8 hp k) (U8 hq k))] rfl rfl trivial
theorem Hz {p:List Int} {k:Nat} (h:k<p.length):p[k]? = some (p.getD k 0):=by simp [List.getD,Qe h]
theorem Q60 {p:List Int} {c:Int} {k:Nat} (hk:k<p.length) (hp:Bd 4294967295 p) (hc:U6 c<=4294967295):Ut Tryz.prog 205 [.one (.int .i64 (k:Int)),.one (.sh [pl p]),.one (.sh (Gw c))] [.agg (Gw (p.getD k 0*c))] :=
 w tt Tryz.func205 rfl [.x (Sv (Hz hk)),.c [] (Ac (Uu _) (Uu _) (U8 hp k) hc)] rfl rfl trivial
theorem Zi6 {p:List Int} {k:Nat} (hk:k<p.length) (hp:Bd 4294967295 p):Ut Tryz.prog 256 [.one (.int .i64 (k:Int)),.one (.sh [pl p])] [.agg (Gw (-(p.getD k 0)))] :=
 w tt Tryz.func256 rfl [.x (Sv (Hz hk)),.c [] (Qjr (Uu _) (U8 hp k))] rfl rfl trivial
theorem Q3i {p:List Int} {k:Nat} (hk:k+1<p.length) (hl:p.length<274877906944) (hp:Bd 4294967295 p):Ut Tryz.prog 213 [.one (.int .i64 (k:Int)),.one (.sh [pl p])] [.agg (Gw (p.getD (k+1) 0*((k+1:Nat):Int)))] :=
 w tt Tryz.func213 rfl [.x (Sv (Hz hk)),.r 10 (eI (b:=((k+1:Nat):Int)) (by omega)),.c [] (Qwk (by omega)),.c [] (Ac (Uu _) (Uu _) (U8 hp _) (Q4n (show k+1<274877906944 by omega)))] rfl rfl (by simp [Ur] <;> omega)
theorem Q6o {p q:List Int} (hlp:p.length<274877906944) (hlq:q.length<274877906944) (hp:Bd 4294967295 p) (hq:Bd 4294967295 q):Ut Tryz.prog 163 [pr p,pr q] [pr (Ak p q)] :=
 w tt Tryz.func163 rfl [.r 9 (eI (b:=((max p.length q.length:Nat):Int)) (by simp; omega)),.c [] (Qps (by omega) λk _=>Ziz k hp hq)] rfl rfl trivial
theorem Qjs {p q:List Int} (hlp:p.length<274877906944) (hlq:q.length<274877906944) (hp:Bd 4294967295 p) (hq:Bd 4294967295 q):Ut Tryz.prog 157 [pr p,pr q] [pr (Pw p q)] :=
 w tt Tryz.func157 rfl [.r 9 (eI (b:=((max p.length q.length:Nat):Int)) (by simp; omega)),.c [] (Qps (by omega) λk _=>Zi9 k hp hq)] rfl rfl trivial
theorem Q6s {p:List Int} (hlp:p.length<274877906944) (hp:Bd 4294967295 p):Ut Tryz.prog 235 [pr p] [pr (Pd p)] :=
 w tt Tryz.func235 rfl [.r 4 (eI (b:=(p.length:Int)) (by simp)),.c [] (Qz3 hlp λk hk=>Zi6 hk hp)] rfl rfl trivial
theorem Au {p:List Int} {c:Int} (hlp:p.length<274877906944) (hp:Bd 4294967295 p) (hc:U6 c<=4294967295):Ut Tryz.prog 158 [pr p,.agg (Gw c)] [pr (Ff p c)] :=
 w tt Tryz.func158 rfl [.r 6 (eI (b:=(p.length:Int)) (by simp)),.c [] (Qps hlp λk hk=>Q60 hk hp hc)] rfl rfl trivial
theorem As {p:List Int} (hlp:p.length<274877906944) (hp:Bd 4294967295 p):Ut Tryz.prog 172 [pr p] [pr (Gj p)] :=
 w tt Tryz.func172 rfl [.r 6 (eI (b:=((p.length-1:Nat):Int)) (by simp; omega)),.c [] (Qz3 (by omega) λk hk=>Q3i (by omega) hlp hp)] rfl rfl (by simp [Ur]; omega)
theorem D2 {ls:List (List LV)} {p:List Int} (hi:IsInts ls p) (hl:p.length<274877906944) (hs:Bd 4294967295 p):Ut Tryz.prog 60 [.one (.row ls)] [pr (trim p)]:=by
 refine Gv Tryz.func60 rfl ?_;have hlen:=hi.len;refine go tt [.i ls.length,.i ls.length] rfl (by simp [Ur]; omega) ?_;rw [Lv λk=>Gw (p.getD k 0)];refine lp (S:=Nat) 1 (λL1 k=>(11,.v (.one (.int .i64 (k:Int))))::L1) (λk=>[.row false 27 2 (fil (λk=>Gw (p.getD k 0)) [.bool false,.nils] ls.length k)]) (λk=>ls.length-k) (λk=>k<=ls.length) 0 (Qh _) rfl (λ_ _=>rfl) rfl λk hk=>?_
 by_cases hlt:k<ls.length
 ·obtain ⟨x,y,hx,hxy⟩:=hi.get (Hz (p:=p) (k:=k) (by omega));have cn:=D3 hxy (U8 hs k);obtain ⟨b,l,rfl,rfl,_⟩:=hxy;refine go tt [.t (by simp; omega),.x hx,.c [] cn,.i k] rfl (by simp [Ur,E4]; omega) ?_;have e:=I9 (λk=>Gw (p.getD k 0)) [.bool false,.nils] hlt;rw [e];exact rd (k+1) (by omega) hlt rfl
 ·obtain rfl:k=ls.length:=by omega
  have e:fil (λk=>Gw (p.getD k 0)) [.bool false,.nils] ls.length ls.length=p.map Gw:=by
   rw [I8,hlen];refine Xf λi=>?_
   by_cases hi:i<p.length
   ·simp [Xs hi,List.getD,Qe hi]
   ·simp [Qt,hi]
  rw [e];exact en tt [.f (by simp),.c [] (Qjw _)] rfl rfl trivial
theorem Hm {p:List Int} (ht:Uz p) (hl:p.length<274877906944) (hs:Bd 4294967295 p):Ut Tryz.prog 60 [pr p] [pr p]:=by
 have:=D2 (He p) hl hs;rw [ht] at this; exact this
theorem Ze0 {p:List Int} {i:Nat} {z:Int} (h:p[i]? = some z):(p.map λ(x:Int)=>[LV.int .i64 x])[i]? = some [.int .i64 z]:=Gx h
theorem Qzu {p:List Int} (hl:p.length<274877906944) (hr:∀ z∈p,-9223372036854775808≤z/\z≤9223372036854775807):Ut Tryz.prog 8 [.one (ids p)] [pr (trim p)]:=by
 refine Gv Tryz.func8 rfl ?_;refine go tt [.r 7 (eI (b:=(p.length:Int)) (by simp)),.i p.length,.i p.length,.r 10 (eI (b:=(p.length:Int)) (by simp))] rfl (by simp [Ur]; omega) ?_;rw [Lv λk=>Gw (p.getD k 0)];refine lp (S:=Nat) 1 (λL1 k=>(11,.v (.one (.int .i64 (k:Int))))::L1) (λk=>[.row false 27 2 (fil (λk=>Gw (p.getD k 0)) [.bool false,.nils] p.length k)]) (λk=>p.length-k) (λk=>k<=p.length) 0 (Qh _) rfl (λ_ _=>rfl) rfl λk hk=>?_
 by_cases hlt:k<p.length
 ·have hg:=Hz hlt;refine go tt [.t (by simp; omega),.x (Ze0 hg),.c [] (Qwk (hr _ (Qa hg))),.i k] rfl (by simp [Ur,E4]; omega) ?_;have e:=I9 (λk=>Gw (p.getD k 0)) [.bool false,.nils] hlt;rw [e];exact rd (k+1) (by omega) hlt rfl
 ·obtain rfl:k=p.length:=by omega
  have e:fil (λk=>Gw (p.getD k 0)) [.bool false,.nils] p.length p.length=p.map Gw:=by
   rw [I8];refine Xf λi=>?_
   by_cases hi:i<p.length
   ·simp [Xs hi,List.getD,Qe hi]
   ·simp [Qt,hi]
  rw [e];exact en tt [.f (by simp),.c [] (Qjw _)] rfl rfl trivial
theorem Qx4 (l:List Int) (i:Nat) (z:Int):(l.map Gw).set i (Gw z)=(l.set i z).map Gw:=by rw [V1]
theorem Qi7 (m:Nat):((List.replicate m [LV.bool false,LV.nils]).map λc=>c.map Qid)=(List.replicate m (0:Int)).map Gw:=by
 simp [Eb,Qid]
theorem Qpl {p0 q:List Int} {s t:Nat} (tq:Uz q) (hlp:p0.length<137438953472) (hlq:q.length<137438953472) (hp:Bd s p0) (hq:Bd t q) (hst:s+t<=4294967000):Ut Tryz.prog 164 [pr p0,pr q] [pr (Fw (trim p0) q)]:=by
 have cp:=D2 (He p0) (by omega) (Us hp (show s<=4294967295 by omega));have hp:=Tj hp;have hlp:=Zv (Ht p0) hlp;obtain ⟨p,ep⟩:=nmE (trim p0);rw [<-ep] at cp hp hlp ⊢;have cq:=Hm tq (by omega) (Us hq (show t<=4294967295 by omega));by_cases h0:p.length=0
 ·have e:Fw p q=[]:=by unfold Fw; rw [if_pos (.inl h0)]
  rw [e];exact w tt Tryz.func164 rfl [.c [] cp,.c [] cq,.t (by simp; exact Qi h0),.t rfl] rfl rfl trivial
 by_cases h1:q.length=0
 ·have e:Fw p q=[]:=by unfold Fw; rw [if_pos (.inr h1)]
  rw [e];exact w tt Tryz.func164 rfl [.c [] cp,.c [] cq,.f (by simp; intro h; subst h; simp at h0),.t (by simp; exact Qi h1)] rfl rfl trivial
 refine Gv Tryz.func164 rfl ?_;have e:Fw p q=trim (Ny p q (List.replicate (p.length+q.length-1) 0) p.length):=by unfold Fw; rw [if_neg (by omega)]
 rw [e];obtain ⟨N,hN⟩:=nmE (p.length+q.length-1);rw [<-hN];obtain ⟨o,ho⟩:=nmE (List.replicate N (0:Int));rw [<-ho];have hol:o.length=N:=by rw [ho]; simp
 have ho0:∀ m,o.getD m 0=0:=λm=>by rw [ho]; exact Ty N m
 refine go tt [.c [] cp,.c [] cq,.f (by simp; intro h; subst h; simp at h0),.f (by simp; intro h; subst h; simp at h1),.r 27 (eI (b:=(N:Int)) (by simp; omega)),.i N,.i N] rfl (by simp [Ur]; omega) ?_;refine nl 0 rfl rfl rfl ?_;rw [Qi7,<-ho];refine lp (S:=Nat) 1 (λL1 i=>(31,.v (.one (.int .i64 (i:Int))))::L1) (λi=>[.row false 27 2 ((Ny p q o i).map Gw)]) (λi=>p.length-i) (λi=>i<=p.length) 0 (Qh _) rfl (λ_ _=>rfl) rfl λi hi=>?_
 by_cases hlt:i<p.length
 ·refine go tt [.t (by simp; omega),.x (Sv (Hz hlt))] rfl trivial ?_;refine lp (S:=Nat) 2 (λL1 k=>(38,.v (.one (.int .i64 (k:Int))))::L1) (λk=>[.row false 27 2 ((A9 (p.getD i 0) q i (Ny p q o i) k).map Gw),.blk 27 (Gw (p.getD i 0))]) (λk=>q.length-k) (λk=>k<=q.length) 0 (Qh _) rfl (λ_ _=>rfl) rfl λk hk=>?_
  by_cases hk2:k<q.length
  ·have hm1:U6 ((A9 (p.getD i 0) q i (Ny p q o i) k).getD (i+k) 0)<=4294967295:=Qc (Ai (t:=39) (Qqv (by rw [Nz]; omega) (Qqu (λj hj=>by omega) ho0 (λi j=>Ml (U8 hp i) (U8 hq j))) (λj=>Ml (U8 hp i) (U8 hq j)) (i+k)) (Kt (show i+1<549755813888 by omega) (by decide))) (by omega);have hm2:U6 (p.getD i 0*q.getD k 0)<=4294967295:=Qc (Fl _ _) (by have:=U8 hp i; have:=U8 hq k; omega);have hg:(A9 (p.getD i 0) q i (Ny p q o i) k)[i+k]? = some ((A9 (p.getD i 0) q i (Ny p q o i) k).getD (i+k) 0):=Hz (by rw [Ia,Nz]; omega);refine go tt [.t (by simp; omega),.x (Sv (Hz hk2)),.i (i+k),.x (Sv hg),.c [] (Ac (Uu _) (Uu _) (Qc (U8 hp i) (by omega)) (Qc (U8 hq k) (by omega))),.c [] (Qcy (Uu _) (Uu _) hm1 hm2),.i (i+k)] rfl (by simp [Ur,Ia,Nz] <;> omega) ?_;rw [Qx4];exact rd (k+1) (by omega) hk2 rfl
  ·obtain rfl:k=q.length:=by omega
   exact go tt [.f (by simp)] rfl (by simp [Ur]; omega) (rd (i+1) (by omega) hlt rfl)
 ·obtain rfl:i=p.length:=by omega
  exact en tt [.f (by simp),.c [] (Qjw _)] rfl rfl trivial
theorem Q6r {p q:List Int} {s t:Nat} (tp:Uz p) (tq:Uz q) (hlp:p.length<137438953472) (hlq:q.length<137438953472) (hp:Bd s p) (hq:Bd t q) (hst:s+t<=4294967000):Ut Tryz.prog 164 [pr p,pr q] [pr (Fw p q)]:=by
 have h:=Qpl tq hlp hlq hp hq hst;rw [show trim p=p from tp] at h;exact h
theorem Qpm {p q:List Int} (hlp:p.length<274877906944) (hlq:q.length<274877906944) (hp:Bd 4294967295 p) (hq:Bd 4294967295 q):Ut Tryz.prog 150 [pr p,pr q] [.one (.bool (decide (trim p=trim q)))]:=by
 refine Gv Tryz.func150 rfl ?_;have cp:=D2 (He p) hlp hp;have cq:=D2 (He q) hlq hq;have bp:=Tj hp;have bq:=Tj hq;have l1:=Ht p;have l2:=Ht q;obtain ⟨a,ha⟩:=nmE (trim p);obtain ⟨b,hb⟩:=nmE (trim q);rw [<-ha] at cp bp l1 ⊢;rw [<-hb] at cq bq l2 ⊢;by_cases hl:a.length=b.length
 ·refine go tt [.c [] cp,.c [] cq,.f (by simp; omega)] rfl trivial ?_;refine lp (S:=Nat) 0 (λL1 i=>(18,.v (.one (.int .i64 (i:Int))))::L1) (λ_=>[]) (λi=>a.length-i) (λi=>i<=a.length/\a.take i=b.take i) 0 ⟨Qh _,rfl⟩ rfl (λ_ _=>rfl) rfl λi ⟨hi,he⟩=>?_
  by_cases hlt:i<a.length
  ·have ga:=Hz hlt;have gb:=Hz (p:=b) (k:=i) (by omega);have cc:=Qfy (Uu (a.getD i 0)) (Uu (b.getD i 0)) (U8 bp i) (U8 bq i);by_cases hz:a.getD i 0=b.getD i 0
   ·refine go tt [.t (by simp; omega),.x (Sv ga),.x (Sv gb),.c [] cc,.f (by simpa using Qpz.2 hz)] rfl (by simp [Ur]; omega) ?_;exact rd (i+1) (by omega) ⟨hlt,by rw [Y3,Y3,he,ga,gb,hz]⟩ rfl
   ·exact en tt [.t (by simp; omega),.x (Sv ga),.x (Sv gb),.c [] cc,.t (by have:=mt Qpz.1 hz; simpa using this)] rfl (by rw [decide_eq_false]; intro h; exact hz (by rw [h])) trivial
  ·obtain rfl:i=a.length:=by omega
   rw [Qy,hl,Qy] at he;exact en tt [.f (by simp)] rfl (by rw [decide_eq_true he]) trivial
 ·exact en tt [.c [] cp,.c [] cq,.t (by simp; omega)] rfl (by rw [decide_eq_false]; intro h; exact hl (by rw [h])) trivial
theorem Q6u {p:List Int} {n d:Int} {s t:Nat} (hl:p.length<274877906944) (hp:Bd s p) (hn:U6 n<=t) (hd:U6 d<=t) (hst:s+p.length*(t+1)+2*t+10<=4294967295):Ut Tryz.prog 171 [pr p,.agg (Gw n),.agg (Gw d)] [.agg (Gw (Zf5 p n d))]:=by
 refine Gv Tryz.func171 rfl ?_;refine go tt [.c [] (Qwk (z:=1) (by decide)),.r 13 (eI (b:=(p.length:Int)-1-((0:Nat):Int)) (by simp))] rfl (by simp [Ur]; omega) ?_;refine nlb 3 rfl rfl rfl ?_;have e0:[LV.bool false,LV.nils].map Qid=Gw (Mb p n d 0).1:=by simp [Qid,Mb,Eb]
 rw [e0];refine lp (S:=Nat) 5 (λL1 j=>(9,.v (.one (.int .i64 ((p.length:Int)-1-(j:Int)))))::L1) (λj=>[.blk 27 (Gw n),.blk 27 (Gw d),.blk 27 [.bool false,.nils],.blk 27 (Gw (Mb p n d j).1),.blk 27 (Gw (Mb p n d j).2)]) (λj=>p.length-j) (λj=>j<=p.length) 0 (Qh _) rfl (λ_ _=>rfl) rfl λj hj=>?_
 have hv:=Qr4 (k:=j) hp hn hd;have hjl:j*(t+1)<=p.length*(t+1):=Q0 _ (by omega);have hjl2:j*t<=j*(t+1):=Zq _ (by omega);by_cases hlt:j<p.length
 ·have hc:=U8 hp (p.length-1-j);have hm1:U6 ((Mb p n d j).1*n)<=4294967295:=Qc (Fl _ _) (by omega);have hm2:U6 (p.getD (p.length-1-j) 0*(Mb p n d j).2)<=4294967295:=Qc (Fl _ _) (by omega);refine go tt [.t (by simp; omega),.c [] (Ac (Uu _) (Uu _) (by omega) (by omega)),.r 22 (eI (b:=((p.length-1-j:Nat):Int)) (by omega)),.x (Sv (Hz (p:=p) (k:=p.length-1-j) (by omega))),.c [] (Ac (Uu _) (Uu _) (by omega) (by omega)),.c [] (Qcy (Uu _) (Uu _) hm1 hm2),.c [] (Ac (Uu _) (Uu _) (by omega) (by omega)),.r 17 (eI (b:=(p.length:Int)-1-((j+1:Nat):Int)) (by omega))] rfl (by simp [Ur] <;> omega) ?_;exact rd (j+1) (by omega) hlt rfl
 ·obtain rfl:j=p.length:=by omega
  exact en tt [.f (by simp; omega)] rfl rfl trivial
theorem Co {p:List Int} (tp:Uz p) (hl:p.length<274877906944) (hp:Bd 4294967295 p):Ut Tryz.prog 234 [pr p] [.agg (Gw (p.getD (p.length-1) 0))]:=by
 have cn:=Hm tp hl hp;by_cases h0:p=[]
 ·subst h0;exact w tt Tryz.func234 rfl [.c [] cn,.t (by simp)] rfl (by simp [Eb]) trivial
 ·have By:0<p.length:=J4.2 h0;exact w tt Tryz.func234 rfl [.c [] cn,.f (by simpa using h0),.r 12 (eI (b:=((p.length-1:Nat):Int)) (by simp; omega)),.x (Sv (Hz (by omega)))] rfl rfl (by simp [Ur]; omega)
theorem Zic {a b:Int} {q:Rat} (h1:a=q.num) (h2:b=(q.den:Int)):[sg a,mg a,sg b,mg b]=rl q:=by rw [h1,h2]
theorem O8 {n d:Int} (h0:d≠0) (hn:U6 n<=4294967295) (hd:U6 d<=4294967295):Ut Tryz.prog 128 [.agg (Gw n),.agg (Gw d)] [.agg (rl (Rat.divInt n d))]:=by
 have cg:=Q6h (He [n,d]) (λz hz=>by simp at hz; rcases hz with rfl | rfl <;> assumption);have gp:=Qtp (n:=n) h0;have gs:=Q1d (n:=n) h0 hd;have m1:=Qky n d;have m2:=Qkz n d;obtain ⟨g,hg⟩:=nmE (((Hd [n,d]:Nat):Int));rw [<-hg] at cg gp gs m1 m2;by_cases hneg:d<0
 ·obtain ⟨e1,e2⟩:=Zfd (n:=n) hneg;rw [<-hg] at e1 e2;rw [<-Zic e1 e2];exact w tt Tryz.func128 rfl [.c [] cg,.t (by simpa using hneg),.c [] (Qjr (Uu n) hn),.c [] (Qjr (Uu d) hd),.c [] (Em (Uu _) (Uu _) (by rw [Hg]; exact hn) gs (by omega) (Q1x m1)),.c [] (Em (Uu _) (Uu _) (by rw [Hg]; exact hd) gs (by omega) (Q1x m2))] rfl rfl trivial
 ·obtain ⟨e1,e2⟩:=Qqq (n:=n) (d:=d) (by omega);rw [<-hg] at e1 e2;rw [<-Zic e1 e2];exact w tt Tryz.func128 rfl [.c [] cg,.f (by simpa using hneg),.c [] (Em (Uu _) (Uu _) hn gs (by omega) m1),.c [] (Em (Uu _) (Uu _) hd gs (by omega) m2)] rfl rfl trivial
theorem Qio {x y x' y':LV} {n d:Int} (h1:Rk x y n) (h2:Rk x' y' d) (hn:U6 n<=4294967295) (hd:U6 d<=4294967295):Ut Tryz.prog 81 [.agg [x,y,x',y']] [.agg (rl (Gt n d))]:=by
 have c1:=D3 h1 hn;have c2:=D3 h2 hd;obtain ⟨b,l,rfl,rfl,_⟩:=h1;obtain ⟨b',l',rfl,rfl,_⟩:=h2;by_cases h0:d=0
 ·have e:Gt n d=Rat.divInt n 1:=by unfold Gt; rw [if_pos h0]
  rw [e];exact w tt Tryz.func81 rfl [.c [] c2,.c [] Ad,.t (by simpa using h0),.c [] (Qwk (z:=1) (by decide)),.c [] c1,.c [] (O8 (by decide) hn (by decide))] rfl rfl trivial
 ·have e:Gt n d=Rat.divInt n d:=by unfold Gt; rw [if_neg h0]
  rw [e];exact w tt Tryz.func81 rfl [.c [] c2,.c [] Ad,.f (by simpa using h0),.c [] c1,.c [] (O8 h0 hn hd)] rfl rfl trivial
theorem Qjz {q:Rat} (hq:Qs 4294967295 q):Ut Tryz.prog 81 [.agg (rl q)] [.agg (rl q)]:=by
 have:=Qio (Uu q.num) (Uu (q.den:Int)) hq.1 hq.2;rwa [Ol] at this
theorem Qpr {a b:Rat} (ha:Qs 2147483647 a) (hb:Qs 2147483647 b):Ut Tryz.prog 129 [.agg (rl a),.agg (rl b)] [.agg (Gw (a.num*(b.den:Int))),.agg (Gw (b.num*(a.den:Int))),.agg (Gw ((a.den:Int)*(b.den:Int)))] :=
 w tt Tryz.func129 rfl [.c [] (Qjz (ha.mono (by decide))),.c [] (Qjz (hb.mono (by decide))),.c [] (Ac (Uu _) (Uu _) (Qc ha.1 (by decide)) (Qc hb.2 (by decide))),.c [] (Ac (Uu _) (Uu _) (Qc hb.1 (by decide)) (Qc ha.2 (by decide))),.c [] (Ac (Uu _) (Uu _) (Qc ha.2 (by decide)) (Qc hb.2 (by decide)))] rfl rfl trivial
theorem Lo {a b:Rat} (ha:Qs 2147483647 a) (hb:Qs 2147483647 b):Ut Tryz.prog 82 [.agg (rl a),.agg (rl b)] [.one (.int .i64 (Gq a b))] :=
 w tt Tryz.func82 rfl [.c [] (Qpr ha hb),.c [] (Qfy (Uu _) (Uu _) (Qc (Fl _ _) (by have:=ha.1; have:=hb.2; omega)) (Qc (Fl _ _) (by have:=hb.1; have:=ha.2; omega)))] rfl rfl trivial
theorem Q7s {x y x' y':LV} {n d:Int} (h1:Rk x y n) (h2:Rk x' y' d) (hn:U6 n<=4294967295) (hd:U6 d<=4294967295):Ut Tryz.prog 42 [.agg [x,y,x',y'],.one (.row [])] [.agg (rl (Gt n d))]:=by
 have c1:=Qio h1 h2 hn hd;obtain ⟨b,l,rfl,rfl,_⟩:=h1;obtain ⟨b',l',rfl,rfl,_⟩:=h2;refine Gv Tryz.func42 rfl ?_;refine go tt [.c [] c1] rfl trivial ?_;refine lp (S:=Unit) 3 (λL1 _=>(12,.v (.one (.int .i64 0)))::L1) (λ_=>[.blk 40 [.bool b,.row (lm l),.bool b',.row (lm l')],.blk 40 [.bool false,.nils,.bool false,.nils],.blk 40 (rl (Gt n d))]) (λ_=>0) (λ_=>True) () trivial rfl (λ_ _=>rfl) rfl λ_ _=>?_
 exact en tt [.f (by simp)] rfl rfl trivial
theorem Ep {q:Rat} (hq:Qs 4294967295 q):Ut Tryz.prog 42 [.agg (rl q),.one (.row [])] [.agg (rl q)]:=by
 have:=Q7s (Uu q.num) (Uu (q.den:Int)) hq.1 hq.2;rwa [Ol] at this
theorem Zd5 {q:Rat} (hq:Qs 4294967295 q):Ut Tryz.prog 170 [.agg (rl q)] [.agg (rl q)]:=w tt Tryz.func170 rfl [.c [] (Ep hq)] rfl rfl trivial
theorem Qzv {p:List Int} {q:Rat} {s t:Nat} (tp:Uz p) (hl:p.length<274877906944) (hp:Bd s p) (hq:Qs t q) (hst:s+p.length*(t+1)+2*t+10<=4294967295):Ut Tryz.prog 123 [pr p,.agg (rl q)] [.one (.int .i64 (Gz p q))]:=by
 have cc:=Qfy (Uu (Zf5 p q.num q.den)) Ce (Qc (Qr4 hp hq.1 hq.2).1 (by omega)) (by decide);exact w tt Tryz.func123 rfl [.c [] (Zd5 (hq.mono (by omega))),.c [] (Hm tp hl (Us hp (by omega))),.c [] (Q6u hl hp hq.1 hq.2 hst),.c [] cc] rfl rfl trivial
theorem Q7h {p:List Int} {g:Int} (hl:p.length<274877906944) (hp:Bd 4294967295 p) (hg:U6 g≤4294967295) (h0:g≠0) (hd:∀ z∈p,z % g=0):Ut Tryz.prog 66 [pr p,.agg (Gw g)] [pr (trim (p.map (· / g)))]:=by
 refine Gv Tryz.func66 rfl ?_;refine go tt [.r 9 (eI (b:=(p.length:Int)) (by simp)),.i p.length,.i p.length,.r 12 (eI (b:=(p.length:Int)) (by simp))] rfl (by simp [Ur]; omega) ?_;rw [Lv λk=>Gw (p.getD k 0 / g)];refine lp (S:=Nat) 2 (λL1 k=>(13,.v (.one (.int .i64 (k:Int))))::L1) (λk=>[.blk 27 (Gw g),.row false 27 2 (fil (λk=>Gw (p.getD k 0 / g)) [.bool false,.nils] p.length k)]) (λk=>p.length-k) (λk=>k<=p.length) 0 (Qh _) rfl (λ_ _=>rfl) rfl λk hk=>?_
 by_cases hlt:k<p.length
 ·have hg2:=Hz hlt;refine go tt [.t (by simp; omega),.x (Sv hg2),.c [] (Em (Uu _) (Uu _) (U8 hp k) hg h0 (hd _ (Qa hg2))),.i k] rfl (by simp [Ur,E4]; omega) ?_;have e:=I9 (λk=>Gw (p.getD k 0 / g)) [.bool false,.nils] hlt;rw [e];exact rd (k+1) (by omega) hlt rfl
 ·obtain rfl:k=p.length:=by omega
  have e:fil (λk=>Gw (p.getD k 0 / g)) [.bool false,.nils] p.length p.length=(p.map (· / g)).map Gw:=by
   rw [I8];refine Xf λi=>?_
   by_cases hi:i<p.length
   ·simp [Xs hi,List.getD,Qe hi]
   ·simp [Qt,hi]
  rw [e];exact en tt [.f (by simp),.c [] (D2 (He (p.map (· / g))) (by simp; exact hl) (Qfu hp g))] rfl rfl trivial
theorem Qlr (p:List Int):∀ c∈p.map Gw,c.length=2:=Zh8 p λ_=>rfl
theorem Qpq {lx ly:List (List LV)} {px py:List Int} {x y:LV} {d:Int} (hx:IsInts lx px) (hy:IsInts ly py) (hd:Rk x y d) (hk:Cs 4294967294 1073741824 (Crv.mk px py d)):Ut Tryz.prog 34 [.agg [.row lx,.row ly,x,y]] [.agg (cl (Crv.norm (Crv.mk px py d)))]:=by
 have hlx:=hk.lx;have hly:=hk.ly;simp only at hlx hly;have htx:=Ht px;have hty:=Ht py;have hd1:U6 (Crv.mk px py d).d'<=4294967295:=Qc (Qqj hk.d (by omega)) (by omega);have hg1:=Crv.isz_g (Crv.mk px py d) hd1;have hg0:=Crv.g_ne (Crv.mk px py d);have hgd:=Crv.g_dvd (Crv.mk px py d);have cx:=D2 hx (by omega) (Us hk.x (by omega));have cy:=D2 hy (by omega) (Us hk.y (by omega));have cd:=D3 hd (Qc hk.d (by omega));have bx:Bd 4294967295 (trim px):=Us (Tj hk.x) (by omega);have by_:Bd 4294967295 (trim py):=Us (Tj hk.y) (by omega);obtain ⟨b,l,rfl,rfl,_⟩:=hd;obtain ⟨e,he⟩:=nmE ((Crv.mk px py d).d');obtain ⟨g,hgg⟩:=nmE ((Crv.mk px py d).g);obtain ⟨X,hX⟩:=nmE (trim px);obtain ⟨Y,hY⟩:=nmE (trim py);have hnorm:(Crv.mk px py d).norm=⟨trim (X.map (· / g)),trim (Y.map (· / g)),e / g⟩:=by rw [he,hgg,hX,hY]; rfl
 rw [hnorm];have hgdef:g=if e<0 then -((Hd (e::(X++Y)):Nat):Int) else (Hd (e::(X++Y)):Nat):=by rw [hgg,he,hX,hY]; rfl
 have hde:e=if d=0 then 1 else d:=by rw [he]; rfl
 simp only [<-he,<-hgg,<-hX,<-hY] at hd1 hg1 hg0 hgd htx hty cx cy bx by_;clear hnorm hgg he hX hY;refine Gv Tryz.func34 rfl ?_;refine go tt [.c [] cx,.c [] cy,.c [] cd,.c [] Ad] rfl trivial ?_;refine ct 1 (S:=Unit) (λ_=>[(2,.v (.one (.ow 1 0))),(3,.v (pr X)),(4,.v (pr Y)),(5,.v (.one (.ow 2 0)))]) (λ_=>[.blk 29 [.row lx,.row ly,.bool b,.row (lm l)],.blk 29 [.nils,.nils,.bool false,.nils],.blk 27 (Gw e)]) (λ_=>True) rfl ?_ ?_
 ·by_cases h0:d=0
  ·rw [hde,if_pos h0];exact go tt [.t (by simpa using h0),.c [] (Qwk (z:=1) (by decide))] rfl trivial (rc () trivial rfl)
  ·rw [hde,if_neg h0];exact go tt [.f (by simpa using h0)] rfl trivial (rc () trivial rfl)
 ·intro _ _;have hgi:IsInts ([Gw e]++X.map Gw++Y.map Gw) (e::(X++Y)):=by
   have:=He (e::(X++Y));simpa using this
  have hgs:∀ z∈e::(X++Y),U6 z≤4294967295:=λz hz=>by
   rcases Qo.1 hz with rfl | hz
   ·exact hd1
   ·rcases Qu.1 hz with hz | hz
    ·exact bx z hz
    ·exact by_ z hz
  have cg:=Q6h hgi hgs;have co1:=Q7h (p:=X) (by omega) bx hg1 hg0 λz hz=>hgd z (Qj _ (Js _ hz))
  have co2:=Q7h (p:=Y) (by omega) by_ hg1 hg0 λz hz=>hgd z (Qj _ (Yb _ hz))
  have ce:=Em (Uu e) (Uu g) hd1 hg1 hg0 (hgd e (Qx ..));have hszg:=Qix hgs;by_cases hneg:e<0
  ·rw [if_pos hneg] at hgdef;have cn:=Qjr (Uu ((Hd (e::(X++Y)):Nat):Int)) hszg;rw [<-hgdef] at cn;exact en tt [.lo,.s (Qlr X),.s (Qlr Y),.c [] cg,.t (by simpa using hneg),.c [] cn,.c [] ce,.c [] co1,.c [] co2] rfl rfl (by simp [Ur]; omega)
  ·rw [if_neg hneg] at hgdef;rw [<-hgdef] at cg;exact en tt [.lo,.s (Qlr X),.s (Qlr Y),.c [] cg,.f (by simpa using hneg),.c [] ce,.c [] co1,.c [] co2] rfl rfl (by simp [Ur]; omega)
theorem Qsr {k:Crv} (hn:Nml k) (hk:Cs 4294967294 1073741824 k):Ut Tryz.prog 34 [.agg (cl k)] [.agg (cl k)]:=by
 have h:=Qpq (He k.x) (He k.y) (Uu k.d) hk;rw [Crv.norm_of hn] at h; exact h
theorem Qpp {lx ly:List (List LV)} {px py:List Int} {x y:LV} {d:Int} (hx:IsInts lx px) (hy:IsInts ly py) (hd:Rk x y d) (hk:Cs 4294967294 1073741824 (Crv.mk px py d)) (h0:d≠0):Ut Tryz.prog 142 [.one (.row lx),.one (.row ly),.agg [x,y]] [.agg (cl (Crv.norm (Crv.mk px py d))),.one (.int .i64 0)]:=by
 have cd:=D3 hd (Qc hk.d (by omega));have cn:=Qpq hx hy hd hk;obtain ⟨b,l,rfl,rfl,_⟩:=hd;exact w tt Tryz.func142 rfl [.c [] cd,.c [] Ad,.f (by simpa using h0),.c [] cn] rfl rfl trivial
theorem Zmd {lx ly:List (List LV)} {px py:List Int} (hx:IsInts lx px) (hy:IsInts ly py) (hk:Cs 4294967294 1073741824 (Crv.mk px py 0)):Ut Tryz.prog 7 [.one (.row lx),.one (.row ly)] [.agg (cl (Crv.norm (Crv.mk px py 0)))] :=
 w tt Tryz.func7 rfl [.c [] (Qpq hx hy Ce hk)] rfl rfl trivial
def E9 (x y:Int):Crv:=Crv.norm ⟨trim [x],trim [y],0⟩
theorem Qs6 {x y:Int} (hx:-9223372036854775808<=x/\x<=9223372036854775807) (hy:-9223372036854775808<=y/\y<=9223372036854775807):Cs 64 1 ⟨trim [x],trim [y],0⟩:=by
 have key:∀ z:Int,-9223372036854775808<=z/\z<=9223372036854775807->U6 z<=64:=λz hz=>by
  rw [Tz];have:(2:Nat)^64=18446744073709551616:=by decide
  omega
 refine ⟨Tj λz hz=>?_,Tj λz hz=>?_,Qh _,Ht [x],Ht [y]⟩
 ·rw [Qk] at hz; rw [hz]; exact key x hx
 ·rw [Qk] at hz; rw [hz]; exact key y hy
theorem Qpn {x y:Int} (hx:-9223372036854775808<=x/\x<=9223372036854775807) (hy:-9223372036854775808<=y/\y<=9223372036854775807):Ut Tryz.prog 44 [.one (.int .i64 x),.one (.int .i64 y)] [.agg (cl (E9 x y))] :=
 w tt Tryz.func44 rfl [.c [] (Qzu (p:=[x]) (show 1<274877906944 by decide) (by intro z hz; rw [Qk] at hz; rw [hz]; exact hx)),.c [] (Qzu (p:=[y]) (show 1<274877906944 by decide) (by intro z hz; rw [Qk] at hz; rw [hz]; exact hy)),.c [] (Zmd (He _) (He _) ((Qs6 hx hy).mono (by omega) (by omega)))] rfl rfl trivial
theorem Zdz {a b:Crv} (ha:Nml a) (hb:Nml b) (ca:Cs 4294967294 1073741824 a) (cb:Cs 4294967294 1073741824 b):Ut Tryz.prog 114 [.agg (cl a),.agg (cl b)] [.one (.bool (Eu a b))]:=by
 have na:=Qsr ha ca;have nb:=Qsr hb cb;have alx:=ca.lx;have aly:=ca.ly;have blx:=cb.lx;have bly:=cb.ly;have sx:=Qpm (p:=a.x) (q:=b.x) (by omega) (by omega) (Us ca.x (by omega)) (Us cb.x (by omega));have sy:=Qpm (p:=a.y) (q:=b.y) (by omega) (by omega) (Us ca.y (by omega)) (Us cb.y (by omega));have sd:=Qfy (Uu a.d) (Uu b.d) (Qc ca.d (by omega)) (Qc cb.d (by omega));rw [ha.1,hb.1] at sx;rw [ha.2.1,hb.2.1] at sy;by_cases h1:a.x=b.x
 ·by_cases h2:a.y=b.y
  ·exact w tt Tryz.func114 rfl [.c [] na,.c [] nb,.c [] sx,.t (by simpa using h1),.c [] sy,.t (by simpa using h2),.c [] sd] rfl (by simp [Eu,h1,h2,Qpz]) trivial
  ·exact w tt Tryz.func114 rfl [.c [] na,.c [] nb,.c [] sx,.t (by simpa using h1),.c [] sy,.f (by simpa using h2)] rfl (by simp [Eu,h1,h2]) trivial
 ·exact w tt Tryz.func114 rfl [.c [] na,.c [] nb,.c [] sx,.f (by simpa using h1),.f rfl] rfl (by simp [Eu,h1]) trivial
theorem Qgy {l:List Pt} {i:Nat} {p:Pt} (h:l[i]? = some p):(l.map Hb)[i]? = some [pl p.c.x,pl p.c.y,sg p.c.d,mg p.c.d,.int .i64 p.id]:=Gx h
theorem Qu4 (l:List Pt):∀ c∈l.map Hb,c.length=5:=Zh8 l λ_=>rfl
theorem Zd2 {lx ly:List (List LV)} {px py:List Int} {x y:LV} {d:Int} (hx:IsInts lx px) (hy:IsInts ly py) (hd:Rk x y d) (hk:Cs 4294967294 1073741824 (Crv.mk px py d)) (id:Int):Ut Tryz.prog 101 [.agg [.row lx,.row ly,x,y,.int .i64 id]] [.agg (Hb ⟨Crv.norm (Crv.mk px py d),id⟩)]:=by
 have cd:=D3 hd (Qc hk.d (by omega));by_cases h0:d=0
 ·subst h0;have ck:Cs 4294967294 1073741824 (Crv.mk px py 1):=⟨hk.x,hk.y,show U6 1<=4294967294 by decide,hk.lx,hk.ly⟩;have cm:=Qpp hx hy (Uu 1) ck (by decide);have e:Crv.norm (Crv.mk px py 1)=Crv.norm (Crv.mk px py 0):=by simp only [Crv.norm,Crv.g,Crv.d']; rfl
  rw [e] at cm;obtain ⟨b,l,rfl,rfl,_⟩:=hd;exact w tt Tryz.func101 rfl [.c [] cd,.c [] Ad,.t (by simp),.c [] (Qwk (z:=1) (by decide)),.c [] cm] rfl rfl trivial
 ·have cm:=Qpp hx hy hd hk h0;obtain ⟨b,l,rfl,rfl,_⟩:=hd;exact w tt Tryz.func101 rfl [.c [] cd,.c [] Ad,.f (by simpa using h0),.c [] cm] rfl rfl trivial
theorem Zme {l:List Pt} (id:Int) (hl:l.length<1073741824):Ut Tryz.prog 100 [.agg [pts l],.one (.int .i64 id)] [.one (.int .i64 (pos l id:Int)),.one (.bool (has l id))]:=by
 refine Gv Tryz.func100 rfl ?_;refine go tt [] rfl trivial ?_;refine ct 2 (S:=Unit) (λ_=>[(1,.v (.one (.int .i64 id))),(2,.v (.one (.ow 0 0))),(6,.v (.one (.int .i64 (pos l id:Int))))]) (λ_=>[.blk 69 [pts l]]) (λ_=>True) rfl ?_ ?_
 ·refine lp (S:=Nat) 1 (λL1 k=>(6,.v (.one (.int .i64 (k:Int))))::L1) (λ_=>[.blk 69 [pts l]]) (λk=>l.length-k) (λk=>k<=l.length/\∀ j p,j<k->l[j]? = some p->p.id<id) 0 ⟨Qh _,λj p h=>by omega⟩ rfl (λ_ _=>rfl) rfl λk ⟨hk,hlt⟩=>?_
  by_cases h:k<l.length
  ·obtain ⟨p,hp⟩:=gxE (l:=l) (i:=k) h;by_cases hid:p.id<id
   ·refine go tt [.t (by simp; omega),.x (Qgy hp),.t (by simpa using hid)] rfl (by simp [Ur]; omega) ?_;exact rd (k+1) (by omega) ⟨h,λj q hj hq=>by
     rcases Za j k with h2 | h2
     ·exact hlt j q h2 hq
     ·have:j=k:=by omega
      subst this; rw [hp] at hq; injection hq with hq; rw [<-hq]; exact hid⟩ rfl
   ·have e:=Qx8 hlt (.inr ⟨p,hp,hid⟩);refine go tt [.t (by simp; omega),.x (Qgy hp),.f (by simpa using hid)] rfl trivial ?_;rw [e];exact rc () trivial rfl
  ·obtain rfl:k=l.length:=by omega
   have e:=Qx8 hlt (.inl rfl);refine go tt [.f (by simp),.f rfl] rfl trivial ?_;rw [e];exact rc () trivial rfl
 ·intro _ _;by_cases h:pos l id<l.length
  ·obtain ⟨p,hp⟩:=gxE (l:=l) (i:=pos l id) h;have e:has l id=decide (p.id=id):=by simp [has,hp]
   rw [e];exact en tt [.g 30 true (by simp; omega),.x (Qgy hp)] rfl rfl trivial
  ·have e:has l id=false:=by simp [has,Qt (Vb h)]
   rw [e];exact en tt [.g 30 false (by simp; omega)] rfl rfl trivial
theorem Qpk {l:List Pt}:Ut Tryz.prog 74 [.agg [pts l]] [.one (pts l)]:=w tt Tryz.func74 rfl [] rfl rfl trivial
theorem Zl8 {lx ly:List (List LV)} {px py:List Int} {x y:LV} {d id:Int} {l:List Pt} (hx:IsInts lx px) (hy:IsInts ly py) (hd:Rk x y d) (hk:Cs 4294967294 1073741824 (Crv.mk px py d)) (hl:l.length<=1000000) :
 Ut Tryz.prog 59 [.agg [pts l],.agg [.row lx,.row ly,x,y,.int .i64 id]] [.agg [pts (if Qa9 l (Pt.mk (Crv.norm (Crv.mk px py d)) id)=0 then put l (Pt.mk (Crv.norm (Crv.mk px py d)) id) else l)],.one (.int .i64 (Qa9 l (Pt.mk (Crv.norm (Crv.mk px py d)) id)))]:=by
 have ca:=Zme (l:=l) id (by omega);have cf:=Zd2 hx hy hd hk id;obtain ⟨b,r,rfl,rfl,_⟩:=hd;obtain ⟨q,hq⟩:=nmE (Pt.mk (Crv.norm (Crv.mk px py d)) id);have hqi:q.id=id:=by rw [hq]
 rw [<-hq] at cf ⊢;have By:=Zao l id;by_cases h1:has l id=true
 ·have e:Qa9 l q=6:=by simp [Qa9,hqi,h1]
  rw [e,if_neg (by decide)];exact w tt Tryz.func59 rfl [.c [] ca,.t h1] rfl rfl trivial
 by_cases h2:6<=l.length
 ·have e:Qa9 l q=9:=by simp [Qa9,hqi,h1,h2]
  rw [e,if_neg (by decide)];exact w tt Tryz.func59 rfl [.c [] ca,.f (by simpa using h1),.t (by simp; omega)] rfl rfl trivial
 have e:Qa9 l q=0:=by simp [Qa9,hqi,h1,h2]
 rw [e,if_pos rfl];have s1:∀ c∈(l.map Hb).take (pos l id),c.length=5:=λc hc=>Qu4 l c (Qm hc)
 have s3:∀ c∈(l.map Hb).drop (pos l id),c.length=5:=λc hc=>Qu4 l c (Zc hc)
 refine w tt Tryz.func59 rfl [.c [] ca,.f (by simpa using h1),.f (by simp; omega),.i (pos l id),.s s1,.c [] cf,.i (pos l id),.s s3] rfl ?_ ?_
 ·simp [put,hqi,pts,Jp,W5,Hb]
 ·simp [Ur];exact ⟨by omega,By,λ_ _=>rfl,by omega,by omega,By⟩
theorem Q93:∀ (qs:List Pt),(T0 [] qs).1.length<=qs.length:=by
 have key:∀ (qs acc:List Pt),(T0 acc qs).1.length<=acc.length+qs.length:=by
  intro qs
  induction qs with
  | nil=>intro acc; simp [T0]
  |
   cons q qs ih =>
   intro acc;simp only [T0]
   split
   ·have:=ih (put acc q); rw [Q2f] at this; simp only [Q7]; omega
   ·simp
 intro qs;have:=key qs [];simpa using this
theorem Zl4 {zs:List (List LV)} {qs:List Pt} (hz:IsPts 4294967294 1073741824 zs qs) (hl:qs.length<=6):Ut Tryz.prog 37 [.one (.row zs)] [.agg [pts (T0 [] qs).1],.one (.int .i64 (T0 [] qs).2)]:=by
 refine Gv Tryz.func37 rfl ?_;have hzl:=hz.len;refine go tt [.f (by simp; omega)] rfl trivial ?_;refine nlb 1 rfl rfl rfl ?_;refine lp (S:=Nat) 2 (λL1 i=>(14,.v (.one (.int .i64 (i:Int))))::L1) (λi=>[.blk 69 [.nils],.blk 69 [pts (T0 [] (qs.take i)).1]]) (λi=>qs.length-i) (λi=>i<=qs.length/\(T0 [] (qs.take i)).2=0) 0 ⟨Qh _,rfl⟩ rfl (λ_ _=>rfl) rfl λi ⟨hi,h0⟩=>?_
 by_cases hlt:i<qs.length
 ·have hqi:qs[i]? = some qs[i]:=Qe hlt;obtain ⟨z,hzi,lx,ly,b,r,px,py,d,rfl,hx,hy,hd,hk,hc⟩:=hz.get hqi;have hq:(Pt.mk (Crv.norm (Crv.mk px py d)) qs[i].id)=qs[i]:=by rw [<-hc]
  have hst:=Q4w [] qs hqi (by rw [<-h0]);have hnl:=Q93 (qs.take i);have cp:=Zl8 (l:=(T0 [] (qs.take i)).1) (id:=qs[i].id) hx hy hd hk (by rw [Qr] at hnl; omega);rw [hq] at cp;by_cases he:Qa9 (T0 [] (qs.take i)).1 qs[i]=0
  ·rw [if_pos he] at hst;rw [he,if_pos rfl] at cp;refine go tt [.t (by simp; omega),.x hzi,.c [] cp,.f rfl] rfl (by simp [Ur]; omega) ?_;exact rd (i+1) (by omega) ⟨hlt,by rw [hst]⟩ (by rw [hst]; rfl)
  ·rw [if_neg he] at hst;have herr:=Q92 [] qs he hst;rw [herr];exact en tt [.t (by simp; omega),.x hzi,.c [] cp,.t (by simpa using he)] rfl rfl trivial
 ·obtain rfl:i=qs.length:=by omega
  rw [Qy] at h0;rw [Qy,h0];exact en tt [.f (by simp; omega)] rfl rfl trivial
theorem Q67 {l:List Pt} (hok:∀ p∈l,Qv1 4294967294 1073741824 p) (hl:l.length<1073741824):Ut Tryz.prog 73 [.agg [pts l]] [.one (pts (Mc l))]:=by
 refine Gv Tryz.func73 rfl ?_;refine go tt [.o 3 33 5] rfl trivial ?_;refine lp (S:=Nat) 2 (λL1 i=>(12,.v (.one (.int .i64 (i:Int))))::(3,.v (.one (.orow 1 5 none)))::L1) (λi=>[.blk 69 [pts l],.row false 33 5 (((l.take i).foldl Nm []).map Hb)]) (λi=>l.length-i) (λi=>i<=l.length) 0 (Qh _) rfl (λ_ _=>rfl) rfl λi hi=>?_
 by_cases hlt:i<l.length
 ·obtain ⟨p,hp⟩:=gxE (l:=l) (i:=i) hlt;obtain ⟨hn,hk⟩:=hok p (Qa hp);have hws:=Rr Nm [] l hp;have hwl:=Qcu l i;have hwm:=Qcv l i;obtain ⟨o,ho⟩:=nmE ((l.take i).foldl Nm []);rw [<-ho] at hws hwl hwm ⊢;refine go tt [.t (by simp; omega),.x (Qgy hp)] rfl trivial ?_;refine lp (S:=Nat) 3 (λL1 k=>(18,.v (.one (.int .i64 (k:Int))))::(6,.v (.one (.bool ((o.take k).any λq=>Eu p.c q.c))))::L1) (λk=>[.blk 69 [pts l],.row false 33 5 (o.map Hb),.blk 33 (Hb p)]) (λk=>o.length-k) (λk=>k<=o.length) 0 (Qh _) rfl (λ_ _=>rfl) rfl λk hk2=>?_
  by_cases hk3:k<o.length
  ·obtain ⟨q,hq⟩:=gxE (l:=o) (i:=k) hk3;obtain ⟨hqn,hqk⟩:=hok q (hwm q (Qa hq));have hany:((o.take (k+1)).any λq=>Eu p.c q.c)=(((o.take k).any λq=>Eu p.c q.c) || Eu p.c q.c):=by rw [Y3,hq,List.any_append]; simp
   cases hb:(o.take k).any λq=>Eu p.c q.c with
   |
    true =>
    rw [hb] at hany;refine go tt [.t (by simp; omega),.i k,.x (Qgy hq),.t rfl,.r 29 (v:=.one (.bool ((o.take (k+1)).any λq=>Eu p.c q.c))) (by rw [hany]; rfl)] rfl (by simp [Ur]; omega) ?_;exact rd (k+1) (by omega) hk3 rfl
   |
    false =>
    rw [hb] at hany;refine go tt [.t (by simp; omega),.i k,.x (Qgy hq),.f rfl,.c [] (Zdz hn hqn hk hqk),.r 29 (v:=.one (.bool ((o.take (k+1)).any λq=>Eu p.c q.c))) (by rw [hany]; rfl)] rfl (by simp [Ur]; omega) ?_;exact rd (k+1) (by omega) hk3 rfl
  ·obtain rfl:k=o.length:=by omega
   rw [Qy];cases hb:o.any λq=>Eu p.c q.c with
   |
    true =>
    have e:Nm o p=o:=by unfold Nm; rw [if_pos hb]
    exact go tt [.f (by simp),.f rfl] rfl (by simp [Ur]; omega) (rd (i+1) (by omega) hlt (by rw [hws,e]; rfl))
   |
    false =>
    have e:Nm o p=o++[p]:=by unfold Nm; rw [if_neg (by rw [hb]; decide)]
    exact go tt [.f (by simp),.t rfl] rfl (by simp [Ur]; omega) (rd (i+1) (by omega) hlt (by rw [hws,e,J1]; rfl))
 ·obtain rfl:i=l.length:=by omega
  exact en tt [.f (by simp)] rfl (by rw [Qy]; rfl) trivial
theorem Q22 (q:Rat):Uz [-q.num,(q.den:Int)]:=by
 have:=q.den_nz;simp [Uz,trim,this]
theorem Zlx {s:Nat} {q:Rat} (h:Qs s q):Bd s [-q.num,(q.den:Int)]:=λz hz=>by
 simp at hz;rcases hz with rfl | rfl
 ·rw [Hg]; exact h.1
 ·exact h.2
theorem Zhn {x y x' y':LV} {n d:Int} (h1:Rk x y n) (h2:Rk x' y' d) (hn:U6 n<=4294967295) (hd:U6 d<=4294967295) (hq:Qs 4294967295 (Gt n d)):Ut Tryz.prog 38 [.agg [x,y,x',y']] [.agg (qa (Gt n d))]:=by
 have c1:=Q7s h1 h2 hn hd;obtain ⟨b,l,rfl,rfl,_⟩:=h1;obtain ⟨b',l',rfl,rfl,_⟩:=h2;exact w tt Tryz.func38 rfl [.c [] c1,.c [] (Qjr (Uu _) hq.1),.c [] (Ep hq)] rfl rfl trivial
theorem Qd0 {k:Crv} (hn:Nml k) (hk:Cs 4294967294 1073741824 k):Ut Tryz.prog 156 [.agg (cl k)] [.agg (cl k)]:=by
 have h0:k.d≠0:=by have:=hn.2.2.1; omega
 have cm:=Qpp (He k.x) (He k.y) (Uu k.d) hk h0;rw [show Crv.mk k.x k.y k.d=k from rfl,Crv.norm_of hn] at cm;exact w tt Tryz.func156 rfl [.c [] (D3 (Uu k.d) (Qc hk.d (by omega))),.c [] Ad,.f (by simpa using h0),.c [] cm] rfl rfl trivial
theorem Qzx {a b:Crv} (ha:Nml a) (hb:Nml b) (ca:Cb a) (cb:Cb b):Ut Tryz.prog 117 [.agg (cl a),.agg (cl b)] [pr (Hf a b)]:=by
 have l1:=ca.lx;have l2:=cb.lx;have l3:=Fz b.x a.d;have l4:=Fz a.x b.d;exact w tt Tryz.func117 rfl [.c [] (Qd0 ha (ca.mono (by omega) (by omega))),.c [] (Qd0 hb (cb.mono (by omega) (by omega))),.c [] (Au (by omega) (Us cb.x (by omega)) (Qc ca.d (by omega))),.c [] (Au (by omega) (Us ca.x (by omega)) (Qc cb.d (by omega))),.c [] (Qjs (by omega) (by omega) (Us (Gl cb.x ca.d) (by omega)) (Us (Gl ca.x cb.d) (by omega)))] rfl rfl trivial
theorem Qzp {a b:Crv} (ha:Nml a) (hb:Nml b) (ca:Cb a) (cb:Cb b):Ut Tryz.prog 118 [.agg (cl a),.agg (cl b)] [pr (Hp a b)]:=by
 have l1:=ca.ly;have l2:=cb.ly;have l3:=Fz b.y a.d;have l4:=Fz a.y b.d;exact w tt Tryz.func118 rfl [.c [] (Qd0 ha (ca.mono (by omega) (by omega))),.c [] (Qd0 hb (cb.mono (by omega) (by omega))),.c [] (Au (by omega) (Us cb.y (by omega)) (Qc ca.d (by omega))),.c [] (Au (by omega) (Us ca.y (by omega)) (Qc cb.d (by omega))),.c [] (Qjs (by omega) (by omega) (Us (Gl cb.y ca.d) (by omega)) (Us (Gl ca.y cb.d) (by omega)))] rfl rfl trivial
def Sf (ps:List (List Int)):List (List LV):=ps.map λp=>[pl p]
theorem H8 {ps:List (List Int)} {i:Nat} {p:List Int} (h:ps[i]? = some p):(Sf ps)[i]? = some [pl p]:=Gx h
theorem Q69 {p q:List Int}:Ut Tryz.prog 116 [pr p,pr q] [pr (Qaj p q)]:=by
 by_cases h:0<p.length
 ·exact w tt Tryz.func116 rfl [.t (by simp; omega)] rfl (by simp only [Qaj]; rw [if_pos h]) trivial
 ·exact w tt Tryz.func116 rfl [.f (by simp; exact Qi (by omega))] rfl (by simp only [Qaj]; rw [if_neg h]) trivial
theorem Q3s:Ut Tryz.prog 115 [.one (.int .i64 1)] [.one (.int .i64 2)]:=w tt Tryz.func115 rfl [.t rfl,.t rfl] rfl rfl trivial
theorem Q3t:Ut Tryz.prog 115 [.one (.int .i64 3)] [.one (.int .i64 3)]:=w tt Tryz.func115 rfl [.f rfl,.f rfl,.t rfl] rfl rfl trivial
theorem Q6j {k i0 i1 i2 i3 l j0 j1 j2 j3:Int}:Ut Tryz.prog 96 [.agg [.int .i64 k,.int .i64 i0,.int .i64 i1,.int .i64 i2,.int .i64 i3],.agg [.int .i64 l,.int .i64 j0,.int .i64 j1,.int .i64 j2,.int .i64 j3]] [.one (.bool (Rl [k,i0,i1,i2,i3] [l,j0,j1,j2,j3]))]:=by
 by_cases hk:k=l
 ·subst hk;rw [show Rl [k,i0,i1,i2,i3] [k,j0,j1,j2,j3]=Rl [i0,i1,i2,i3] [j0,j1,j2,j3] from by simp [Rl]];refine Gv Tryz.func96 rfl ?_;refine go tt [.f (by simp)] rfl trivial ?_;refine lp (S:=Nat) 2 (λL1 i=>(19,.v (.one (.int .i64 (i:Int))))::L1) (λ_=>[.blk 120 [.int .i64 k,.int .i64 i0,.int .i64 i1,.int .i64 i2,.int .i64 i3],.blk 120 [.int .i64 k,.int .i64 j0,.int .i64 j1,.int .i64 j2,.int .i64 j3]]) (λi=>4-i) (λi=>i<=4/\Rl ([i0,i1,i2,i3].drop i) ([j0,j1,j2,j3].drop i)=Rl [i0,i1,i2,i3] [j0,j1,j2,j3]) 0 ⟨by omega,rfl⟩ rfl (λ_ _=>rfl) rfl λi ⟨hi,he⟩=>?_
  rw [<-he];rcases (show i=0\/i=1\/i=2\/i=3\/i=4 by omega) with rfl | rfl | rfl | rfl | rfl
  ·by_cases h:i0=j0
   ·exact go tt [.t rfl,.i 0,.i 0,.f (by simpa using h)] rfl (by simp [Ur]) (rd 1 (by omega) ⟨by omega,by simp [Rl,h]⟩ rfl)
   ·exact en tt [.t rfl,.i 0,.i 0,.t (by simpa using h),.i 0] rfl (by simp [Rl,h]) trivial
  ·by_cases h:i1=j1
   ·exact go tt [.t rfl,.i 1,.i 1,.f (by simpa using h)] rfl (by simp [Ur]) (rd 2 (by omega) ⟨by omega,by simp [Rl,h]⟩ rfl)
   ·exact en tt [.t rfl,.i 1,.i 1,.t (by simpa using h),.i 1] rfl (by simp [Rl,h]) trivial
  ·by_cases h:i2=j2
   ·exact go tt [.t rfl,.i 2,.i 2,.f (by simpa using h)] rfl (by simp [Ur]) (rd 3 (by omega) ⟨by omega,by simp [Rl,h]⟩ rfl)
   ·exact en tt [.t rfl,.i 2,.i 2,.t (by simpa using h),.i 2] rfl (by simp [Rl,h]) trivial
  ·by_cases h:i3=j3
   ·exact go tt [.t rfl,.i 3,.i 3,.f (by simpa using h)] rfl (by simp [Ur]) (rd 4 (by omega) ⟨by omega,by simp [Rl,h]⟩ rfl)
   ·exact en tt [.t rfl,.i 3,.i 3,.t (by simpa using h),.i 3] rfl (by simp [Rl,h]) trivial
  ·exact en tt [.f rfl] rfl (by simp [Rl]) trivial
 ·exact w tt Tryz.func96 rfl [.t (by simpa using hk)] rfl (by simp [Rl,hk]) trivial
abbrev zCt:List LV:=[.int .i64 0,.int .i64 0,.int .i64 0,.int .i64 0,.int .i64 0,.nils,.int .i64 0]
def Fj (l:List Ct):List (List LV):=l.map Qcj
theorem Qf3 {l:List Ct} {i:Nat} {c:Ct} (h:l[i]? = some c):(Fj l)[i]? = some (Qcj c):=Gx h
theorem Ca (l:List Ct):(Fj l).length=l.length:=by simp [Fj]
theorem Q78 (l:List Ct):∀ c∈Fj l,c.length=7:=λc hc=>by
 obtain ⟨x,_,rfl⟩:=Zr.1 hc; rfl
theorem Q9j {O:List Ct} {z:List LV} {c:Ct} {k m:Nat} {l2:List (List LV)} (hk:k<=O.length) (hp:Qa5 O c O.length=k) (hm:m=O.length-k) (h2:l2.take m=((Fj O++[z]).drop k).take m) :
 ((Fj O++[z]).take (k+1)++(l2.take m++(Fj O++[z]).drop (k+1+m))).set k (Qcj c)=Fj (Qc7 O c):=by
 rw [h2,<-Zl,Qtx (Fj O) z (Qcj c) (by rw [Ca]; omega) (by rw [Ca]; omega)];simp [Qc7,hp,Fj,Jp,W5]
theorem Qwn {l:List Ct} (hl:∀ c∈l,Pb c.p) (hn:l.length≤1000000):Ut Tryz.prog 50 [.one (.row (Fj l))] [.one (.row (Fj (Hi l)))]:=by
 have hcl:=Ca l;refine Gv Tryz.func50 rfl ?_;refine go tt [.o 3 122 7] rfl trivial ?_;refine lp (S:=Nat) 1 (λL1 i=>(9,.v (.one (.int .i64 (i:Int))))::(3,.v (.one (.orow 0 7 none)))::L1) (λi=>[.row false 122 7 (Fj (Hi (l.take i)))]) (λi=>l.length-i) (λi=>i<=l.length) 0 (Qh _) rfl (λ_ _=>rfl) rfl λi hi=>?_
 by_cases hlt:i<l.length
 ·obtain ⟨c,hc⟩:=gxE (l:=l) (i:=i) hlt;have hst:=Qy0 hc;have hcp:=hl c (Qa hc);obtain ⟨O,hO⟩:=nmE (Hi (l.take i));have hOl:O.length=i:=by rw [hO,Ll,Qr]; omega
  rw [<-hO] at hst ⊢;refine go tt [.t (by simp [hcl]; omega),.x (Qf3 hc)] rfl trivial ?_;refine lp (S:=Nat) 2 (λL1 k=>(6,.v (.one (.int .i64 (k:Int))))::L1) (λk=>[.row false 122 7 (Fj O),.blk 122 (Qcj c)]) id (λk=>k<=O.length/\Qa5 O c k=Qa5 O c O.length) (Fj O).length ⟨by rw [Ca]; exact Ql _,by rw [Ca]⟩ rfl (λ_ _=>rfl) rfl λk ⟨hk,hp⟩=>?_
  have hz:∀ y∈[zCt],y.length=7:=λy hy=>by rw [Qk.1 hy]; rfl
  have h77:∀ y∈Fj O++[zCt],y.length=7:=λy hy=>by
   rcases Qu.1 hy with hy | hy
   ·exact Q78 O y hy
   ·exact hz y hy
  cases k with
  |
   zero =>
   have hp:Qa5 O c O.length=0:=by rw [<-hp]; rfl
   refine go tt [.g 17 false (by simp),.f rfl,.s (sz:=7) hz,.r 36 (eI (b:=((0+1:Nat):Int)) (by simp)),.i (0+1),.i (0),.s (sz:=7) (λy hy=>h77 y (Qm hy)),.i (O.length),.c [] (Hm hcp.t (by have:=hcp.l; omega) (Us hcp.b (by omega))),.i (0)] rfl (by simp [Ur,Ca]; omega) ?_;exact rd (i+1) (by omega) hlt (by rw [hst,<-Q9j (z:=zCt) (l2:=(Fj O++[zCt]).take ((Fj O++[zCt]).length-0)) (k:=0) (m:=O.length) (by omega) hp (by omega) (by congr 1; exact Qn (by simp))]; rfl)
  |
   succ k =>
   obtain ⟨x,hx⟩:=gxE (l:=O) (i:=k) (by omega);by_cases hlc:Tg c x=true
   ·refine go tt [.g 17 true (by simp),.r 22 (eI (b:=(k:Int)) (by simp)),.i k,.x (Qf3 hx),.c [] Q6j,.t hlc,.r 29 (eI (b:=(k:Int)) (by simp))] rfl (by simp [Ur,Ca]; omega) ?_;exact rd k (by simp) ⟨by omega,by rw [<-hp,Zfw hx hlc]⟩ rfl
   ·have hlc:Tg c x=false:=by simpa using hlc
    have hp:Qa5 O c O.length=k+1:=by rw [<-hp,Zan hx hlc]
    refine go tt [.g 17 true (by simp),.r 22 (eI (b:=(k:Int)) (by simp)),.i k,.x (Qf3 hx),.c [] Q6j,.f hlc,.s (sz:=7) hz,.r 36 (eI (b:=((k+1+1:Nat):Int)) (by simp)),.i (k+1+1),.i (k+1),.s (sz:=7) (λy hy=>h77 y (Zc (Qm hy))),.i (O.length-(k+1)),.c [] (Hm hcp.t (by have:=hcp.l; omega) (Us hcp.b (by omega))),.i (k+1)] rfl (by simp [Ur,Ca]; omega) ?_;exact rd (i+1) (by omega) hlt (by rw [hst,<-Q9j (z:=zCt) (l2:=((Fj O++[zCt]).drop (k+1)).take ((Fj O++[zCt]).length-(k+1))) (k:=k+1) (m:=O.length-(k+1)) (by omega) hp (by omega) (by congr 1; exact Qn (by simp))]; rfl)
 ·obtain rfl:i=l.length:=by omega
  rw [Qy];exact en tt [.f (by simp [hcl])] rfl rfl trivial
end Orr
namespace Orr
def U9 (p:List Int):Int:=p.getD (p.length-1) 0
def chk (p:List Int):Option (List Int):=if p.length<=64/\(p.all λz=>Nat.ble (U6 z) 16777216)=true then some p else none
def chq (q:Rat):Option Rat:=if U6 q.num<=16777216/\U6 (q.den:Int)<=16777216 then some q else none
def So (p:List Int):Int:=(Hd p:Nat)
def Bz (p:List Int) (c:Int):List Int:=trim (p.map (· / c))
def G7 (p:List Int):Int:=if U9 p<0 then -So p else So p
def U7 (p:List Int):List Int:=if p.length=0 then [] else Bz p (G7 p)
def mono (i:Nat) (x:Int):List Int:=List.replicate i 0++[x]
def psd (b:List Int) (c:Int):Nat->List Int×List Int->List Int×List Int
 | 0,s=>s
 |
  i+1,(q,r) =>
  psd b c i (Ak (Ff q c) (mono i (if r.length=b.length+i then U9 r else 0)),Pw (Ff r c) (Fw (trim (mono i (if r.length=b.length+i then U9 r else 0))) b))
def Pi (a b:List Int):List Int:=(psd b (U9 b) (a.length+1-b.length) ([],a)).2
def Nh (a b r:List Int):List Int:=if (a.length+1-b.length) % 2=1/\U9 b<0 then Pd r else r
def Qcp (r:List Int):List Int:=if r.length=0 then [] else Bz r (So r)
def Ro (a b:List Int):List Int:=Qcp (Nh a b (Pi a b))
def Qq6 (b:List Int):Nat->List Int->List Int->Option (List Int)
 | 0,a,q=>if a.length=0 then some q else none
 | i+1,a,q=>if a.length<b.length+i then Qq6 b i a q else if U9 a % U9 b=0 then Qq6 b i (Pw a (Fw (trim (mono i (U9 a / U9 b))) b)) (q.set i (U9 a / U9 b)) else none
def Qa6 (a b:List Int):Option (List Int):=if b.length=0 then none else (Qq6 b (a.length+1-b.length) a (List.replicate (a.length+1-b.length) 0)).bind λq=>chk (trim q)
def Qg7:Nat->List Int->List Int->Option (List Int)
 | 0,_,_=>none
 | k+1,a,b=>if b.length=0 then some a else (chk (Ro a b)).bind λr=>Qg7 k b r
def Qa8 (a b:List Int):Option (List Int):=(Qg7 66 (U7 a) (U7 b)).map U7
def Qq8 (a b:List Int):Option (List Int):=(Qa8 [] a).bind λg=>Qa8 g b
def P9 (a:List Int):Option (List Int):=if (U7 a).length<2 then some (U7 a) else (chk (Gj (U7 a))).bind λd=>(Qa8 (U7 a) d).bind λg=>Qa6 (U7 a) g
def Qgm:Nat->List Int->Option (List (List Int))
 | 0,_=>none
 | k+1,g=>if g.length<2 then some [] else (chk (Gj g)).bind λd=>(Qa8 g d).bind λh=>(Qa6 g h).bind λw=>(Qgm k h).bind λl=>some (w::l)
def Qmo:List (List Int)->Option (List (List Int))
 | []=>some []
 | [w]=>some [w]
 | w::v::l=>(Qa6 w v).bind λf=>(Qmo (v::l)).bind λr=>some (f::r)
def Qes:Nat->List Int->List (List Int)->Option (List Int)
 | _,p,[]=>some p
 | i,p,f::l=>if i % 2=0 then (chk (Fw p f)).bind λq=>Qes (i+1) q l else Qes (i+1) p l
def Qx6 (a:List Int):Option (List Int):=if (U7 a).length=0 then some [] else (Qgm 66 (U7 a)).bind λl=>(Qmo l).bind λfs=>Qes 0 [1] fs
def chF:Nat->List Int->List Int->Option (List (List Int))
 | 0,_,_=>none
 | k+1,a,b=>if b.length=0 then some [] else (chk (Ro a b)).bind λr=>(chF k b (Pd r)).bind λl=>some (b::l)
def Ay (p:List Int):Option (List (List Int)):=(P9 p).bind λa=>if a.length=0 then none else (chk (Gj a)).bind λd=>(chF 66 a (U7 d)).bind λl=>some (a::l)
def S0 (sg:List Int->Int) (s:Nat×Int) (p:List Int):Nat×Int:=if sg p=0 then s else (if s.2=-(sg p) then s.1+1 else s.1,sg p)
def Bn (sg:List Int->Int) (l:List (List Int)):Nat:=(l.foldl (S0 sg) (0,0)).1
def Bp (l:List (List Int)) (q:Rat):Nat:=Bn (λp=>Gz p q) l
def Ry (l:List (List Int)) (lo hi:Rat):Int:=if Gq hi lo<0 then 0 else (Bp l lo:Int)-(Bp l hi:Int)
def Qd7 (p:List Int):Int:=Int.sign (U9 p)
def Oz (p:List Int):Int:=if p.length % 2=0 then -Int.sign (U9 p) else Int.sign (U9 p)
def Qba (l:List (List Int)):Int:=(Bn Oz l:Int)-(Bn Qd7 l:Int)
def most:List Int->Nat:=λl=>l.foldl (λm z=>if m<z.natAbs then z.natAbs else m) 0
def Gy (p:List Int):Rat:=Rat.divInt (((U9 p).natAbs:Int)+(most (p.take (p.length-1)):Int)) ((U9 p).natAbs:Int)
def mid (a b:Rat):Rat:=Rat.divInt (a.num*(b.den:Int)+b.num*(a.den:Int)) ((a.den:Int)*(b.den:Int)*2)
def Ed (p:List Int) (c:List (List Int)):Nat->Rat->Rat->Int->Option (List Tm)
 | 0,_,_,_=>none
 | k+1,lo,hi,n=>if n=0 then some [] else if n=1 then some [⟨p,lo,hi⟩] else (chq (mid lo hi)).bind λm=>(Ed p c k lo m (Ry c lo m)).bind λl=>(Ed p c k m hi (n-Ry c lo m)).bind λr=>some (l++r)
def Qon (p:List Int):Option (List Tm):=(Ay p).bind λc=>(P9 p).bind λq=>(chq (Gy q)).bind λb=>Ed q c 100000 (-b) b (Qba c)
def Tm.point (a:Tm):Bool:=decide (0<=Gq a.lo a.hi)
def low (p:List Int) (q:Rat):Int:=if Gz p q≠0 then Gz p q else Gz (Gj p) q
def Qec (p:List Int) (lo hi:Rat):Bool:=decide (Gz p hi=0\/Gz p hi≠low p lo)
def Fe (a:Tm) (t:Rat):Int :=
 if a.point=true then Gq a.lo t else if Gq t a.lo<=0 then 1 else if 0<Gq t a.hi then -1 else if Gz a.p t=0 then 0 else if Gz a.p t=low a.p a.lo then 1 else -1
def Qqf (a:Tm):Option Tm:=if a.point=true then some a else (chq (mid a.lo a.hi)).bind λm =>
 some (if Fe a m=0 then ⟨a.p,m,m⟩ else if Fe a m=-1 then ⟨a.p,a.lo,m⟩ else ⟨a.p,m,a.hi⟩)
def Gm (p:List Int):Nat:=p.foldl (λn z=>max n (U6 z)) 0
def Pe (a b:Tm):Nat:=64+2*(U6 a.lo.num+U6 a.hi.num+U6 b.lo.num+U6 b.hi.num)+4*(a.p.length+b.p.length)*(Gm a.p+Gm b.p+(a.p.length+b.p.length)+8)
def Ql4 (a b:Rat):Rat:=Rat.divInt (a.num*(b.den:Int)-b.num*(a.den:Int)) ((a.den:Int)*(b.den:Int))
def C5 (a b:Tm):Bool:=decide (Gq a.hi b.lo<=0/\¬((a.point=true/\b.point=true)/\Gq a.hi b.lo=0))
def apF:Nat->Tm->Tm->Option (Tm×Tm×Int)
 | 0,a,b=>some (a,b,0)
 |
  k+1,a,b=>if C5 a b=true then some (a,b,-1) else if C5 b a=true then some (a,b,1) else
  if 0<=Gq (Ql4 a.hi a.lo) (Ql4 b.hi b.lo) then (Qqf a).bind λx=>apF k x b else (Qqf b).bind λx=>apF k a x
def Qj5 (a b:Tm):Option Int:=if a.point=true then some (-Fe b a.lo) else if b.point=true then some (Fe a b.lo) else
 let lo:=if 0<Gq b.lo a.lo then b.lo else a.lo
 let hi:=if Gq b.hi a.hi<0 then b.hi else a.hi
 if Gq lo hi<0 then (Qq8 a.p b.p).bind λg=>if 1<g.length/\Qec g lo hi=true then some 0 else (apF (Pe a b) a b).bind λr=>some r.2.2
 else (apF (Pe a b) a b).bind λr=>some r.2.2
def sgF (c:List (List Int)):Nat->Tm->Option Tm
 | 0,a=>some a
 | k+1,a=>if a.point=true\/Ry c a.lo a.hi=0 then some a else (Qqf a).bind λx=>sgF c k x
def Qoy (p:List Int) (a:Tm):Option Int:=if p.length=0 then some 0 else if a.point=true then some (Gz p a.lo) else
 (Qq8 p a.p).bind λg=>if 1<g.length/\Qec g a.lo a.hi=true then some 0 else (Ay p).bind λc=>(sgF c (64+2*(U6 a.lo.num+U6 a.hi.num)+4*(a.p.length+p.length)*(Gm a.p+Gm p+(a.p.length+p.length)+8)) a).bind λx=>some (Gz p x.hi)
def Oe:Tm->List Tm->Option Tm
 | b,[]=>some b
 | b,a::l=>(Qj5 a b).bind λc=>Oe (if c<0 then a else b) l
def Qco (a:Tm):List Tm->Option (Option Tm)
 | []=>some none
 | r::l=>(Qj5 r a).bind λc=>if 0<c then some (some r) else Qco a l
def Qdm (p:List Int):Option (List Tm):=(Qx6 p).bind λq=>if q.length=0 then some [] else Qon q
def Qhw (p:List Int) (a:Tm):Option (Option Tm):=(Qdm p).bind λl=>Qco a l
end Orr
namespace Orr
open Go Go.Proofs
set_option maxRecDepth 10000
theorem D5 {p:List Int} (tp:Uz p) (h:p.length≠0):U9 p≠0:=Ho tp (by omega)
theorem Qld {p:List Int} (h:p.length≠0):U9 p∈p:=Qa (Hz (by omega))
theorem Mj {s:Nat} {p:List Int} (h:Bd s p):U6 (U9 p)<=s:=U8 h _
theorem Lh {p:List Int}:∀ z∈p,So p∣z:=Qao
theorem Qa3 {p:List Int} (tp:Uz p) (h:p.length≠0):So p≠0:=λh0=>D5 tp h (Int.zero_dvd.1 (h0 ▸ Lh _ (Qld h)))
theorem Qbv {p:List Int} (h:Bd 4294967295 p):U6 (So p)<=4294967295:=Qix h
theorem Q17 {p:List Int} (tp:Uz p) (h:p.length≠0):G7 p≠0:=by
 have:=Qa3 tp h;unfold G7; split <;> omega
theorem Qev {p:List Int}:∀ z∈p,G7 p∣z:=λz hz=>by
 unfold G7; split
 ·exact Up.2 (Lh z hz)
 ·exact Lh z hz
theorem Q9l {p:List Int} (h:Bd 4294967295 p):U6 (G7 p)<=4294967295:=by
 unfold G7; split
 ·rw [Hg]; exact Qbv h
 ·exact Qbv h
theorem Qjn {s:Nat} {p:List Int} (h:Bd s p) (c:Int):Bd s (Bz p c):=Tj (Qfu h c)
theorem Qn1 (p:List Int) (c:Int):(Bz p c).length<=p.length:=Qc (Ht _) (by simp)
theorem Om (p:List Int) (c:Int):Uz (Bz p c):=Ra _
theorem Zah {p:List Int} (h:Pb p) (c:Int):Pb (Bz p c):=⟨Om _ _,Qc (Qn1 _ _) h.l,Qjn h.b c⟩
theorem Qgv:Pb []:=⟨rfl,by simp,O6⟩
theorem Ri {p:List Int} (h:Pb p):Pb (U7 p):=by
 unfold U7; split
 ·exact Qgv
 ·exact Zah h _
theorem Pb.bd {p:List Int} (h:Pb p):Bd 4294967295 p:=Us h.b (by omega)
theorem Pb.ln {p:List Int} (h:Pb p):p.length<274877906944:=Zv h.l (by omega)
theorem Pb.ln' {p:List Int} (h:Pb p):p.length<8589934592:=Zv h.l (by omega)
theorem I3 {p q:List Int} (tp:Uz p) (h:chk p=some q):q=p/\Pb p:=by
 unfold chk at h
 split at h
 ·rename_i hc;injection h with h;refine ⟨h.symm,tp,hc.1,λz hz=>?_⟩;have:=J9.1 hc.2 z hz;exact Xi this
 ·cases h
theorem Qz2 {p:List Int} {g:Int} (hl:p.length<274877906944) (hp:Bd 4294967295 p) (hg:U6 g≤4294967295) (h0:g≠0) (hd:∀ z∈p,g∣z):Ut Tryz.prog 236 [pr p,.agg (Gw g)] [pr (Bz p g)]:=by
 refine Gv Tryz.func236 rfl ?_;refine go tt [.r 9 (eI (b:=(p.length:Int)) (by simp)),.i p.length,.i p.length,.r 12 (eI (b:=(p.length:Int)) (by simp))] rfl (by simp [Ur]; omega) ?_;rw [Lv λk=>Gw (p.getD k 0 / g)];refine lp (S:=Nat) 2 (λL1 k=>(13,.v (.one (.int .i64 (k:Int))))::L1) (λk=>[.blk 27 (Gw g),.row false 27 2 (fil (λk=>Gw (p.getD k 0 / g)) [.bool false,.nils] p.length k)]) (λk=>p.length-k) (λk=>k<=p.length) 0 (Qh _) rfl (λ_ _=>rfl) rfl λk hk=>?_
 by_cases hlt:k<p.length
 ·have hg2:=Hz hlt;refine go tt [.t (by simp; omega),.x (Sv hg2),.c [] (Em (Uu _) (Uu _) (U8 hp k) hg h0 (Jt (hd _ (Qa hg2)))),.i k] rfl (by simp [Ur,E4]; omega) ?_;have e:=I9 (λk=>Gw (p.getD k 0 / g)) [.bool false,.nils] hlt;rw [e];exact rd (k+1) (by omega) hlt rfl
 ·obtain rfl:k=p.length:=by omega
  have e:fil (λk=>Gw (p.getD k 0 / g)) [.bool false,.nils] p.length p.length=(p.map (· / g)).map Gw:=by
   rw [I8];refine Xf λi=>?_
   by_cases hi:i<p.length
   ·simp [Xs hi,List.getD,Qe hi]
   ·simp [Qt,hi]
  rw [e];exact en tt [.f (by simp),.c [] (D2 (He (p.map (· / g))) (by simp; exact hl) (Qfu hp g))] rfl rfl trivial
theorem Qfx {p:List Int} (hl:p.length<8589934592) (hp:Bd 4294967295 p):Ut Tryz.prog 237 [.one (.row [[pl p]])] [.agg (Gw (So p))]:=by
 refine Gv Tryz.func237 rfl ?_;refine go tt [.o 3 27 2] rfl trivial ?_;refine lp (S:=Nat) 2 (λL1 i=>(8,.v (.one (.int .i64 (i:Int))))::(3,.v (.one (.orow 1 2 none)))::L1) (λi=>[.blk 27 [.bool false,.nils],.row false 27 2 (if i=0 then [] else p.map Gw)]) (λi=>1-i) (λi=>i<=1) 0 (Qh _) rfl (λ_ _=>rfl) rfl λi hi=>?_
 rcases (show i=0\/i=1 by omega) with rfl | rfl
 ·refine go tt [.t rfl,.x (i:=0) (xs:=[pl p]) rfl,.s (Qlr p)] rfl (by simp [Ur]; omega) ?_;exact rd 1 (by omega) (by omega) rfl
 ·exact en tt [.f rfl,.c [] (Q6h (He p) hp)] rfl rfl trivial
theorem Q7j {p:List Int} (tp:Uz p) (hl':p.length<8589934592) (hp:Bd 4294967295 p):Ut Tryz.prog 232 [pr p] [.agg (Gw (if p.length=0 then 0 else G7 p)),pr (U7 p)]:=by
 have hl:p.length<274877906944:=by omega
 have cn:=Hm tp hl hp;by_cases h0:p.length=0
 ·have e:p=[]:=Qi h0;subst e;exact w tt Tryz.func232 rfl [.c [] cn,.t rfl] rfl (by simp [Eb,U7]; rfl) trivial
 ·have hpf:U7 p=Bz p (G7 p):=by unfold U7; rw [if_neg h0]
  rw [if_neg h0,hpf];have co:=Qz2 hl hp (Q9l hp) (Q17 tp h0) Qev;by_cases hneg:U9 p<0
  ·have e:G7 p=-So p:=by unfold G7; rw [if_pos hneg]
   rw [e] at co ⊢;exact w tt Tryz.func232 rfl [.c [] cn,.f (by simpa using h0),.c [] (Qfx hl' hp),.c [] (Co tp hl hp),.t (by simpa [U9] using hneg),.c [] (Qjr (Uu _) (Qbv hp)),.c [] co] rfl rfl trivial
  ·have e:G7 p=So p:=by unfold G7; rw [if_neg hneg]
   rw [e] at co ⊢;exact w tt Tryz.func232 rfl [.c [] cn,.f (by simpa using h0),.c [] (Qfx hl' hp),.c [] (Co tp hl hp),.f (by simpa [U9] using hneg),.c [] co] rfl rfl trivial
theorem Eo {p:List Int} (hp:Pb p):Ut Tryz.prog 196 [pr p] [pr (U7 p)] :=
 w tt Tryz.func196 rfl [.c [] (Q7j hp.t hp.ln' hp.bd)] rfl rfl trivial
theorem M9 (p:List Int):Ut Tryz.prog 109 [pr p] [.one (.int .i64 ((p.length:Int)-1))]:=by
 have h:Ut Tryz.prog 109 [pr p] [.one (.int .i64 (((p.map Gw).length:Int)-1))]:=Gv Tryz.func109 rfl (ln 0 rfl rfl λhl=>en tt [] rfl rfl (by simp [Ur] at hl ⊢; omega));rw [Q6] at h; exact h
theorem A8 (i:Nat) (x:Int):(mono i x).length=i+1:=by simp [mono]
theorem Qjl {s i:Nat} {x:Int} (h:U6 x<=s):Bd s (mono i x):=λz hz=>by
 simp only [mono,Qu,Qk] at hz;rcases hz with hz | rfl
 ·rw [(List.mem_replicate.1 hz).2,Mk]; exact Qh _
 ·exact h
def stq (c:Int) (i:Nat) (x:Int) (q:List Int):List Int:=Ak (Ff q c) (mono i x)
def str (b:List Int) (c:Int) (i:Nat) (x:Int) (r:List Int):List Int:=Pw (Ff r c) (Fw (trim (mono i x)) b)
theorem Ziv {u t i:Nat} {c x:Int} {q:List Int} (hq:Bd u q) (hc:U6 c<=t) (hx:U6 x<=u):Bd (u+t+8) (stq c i x q) :=
 Us (Qph (Gl hq hc) (Qjl hx)) (by omega)
theorem Zfa {c x:Int} {i:Nat} {q:List Int}:(stq c i x q).length<=max q.length (i+1):=by
 have h:=Qlf (Ff q c) (mono i x);have h1:=Fz q c;rw [A8] at h;unfold stq; omega
theorem Qqm {i:Nat} {x:Int} {b:List Int}:(Fw (trim (mono i x)) b).length<=i+b.length:=by
 have h:=Qau (trim (mono i x)) b;have h1:=Ht (mono i x);rw [A8] at h1; omega
theorem Qzo {u t i:Nat} {x:Int} {b:List Int} (hb:Bd t b) (hx:U6 x<=u) (hi:i<=64):Bd (u+t+7) (Fw (trim (mono i x)) b) :=
 Qdu (Tj (Qjl hx)) hb (Zv (Ht _) (by rw [A8]; omega))
theorem Qv8 {u t i:Nat} {c x:Int} {b r:List Int} (hr:Bd u r) (hb:Bd t b) (hc:U6 c<=t) (hx:U6 x<=u) (hi:i<=64):Bd (u+t+8) (str b c i x r) :=
 Us (Iv (Gl hr hc) (Qzo hb hx hi)) (by omega)
theorem Qqn {c x:Int} {i:Nat} {b r:List Int}:(str b c i x r).length<=max r.length (i+b.length):=by
 have h:=L8 (Ff r c) (Fw (trim (mono i x)) b);have h1:=Fz r c;have h2:=Qqm (i:=i) (x:=x) (b:=b);unfold str; omega
theorem Qud (i:Nat) (x:Int):((List.replicate (i+1) (0:Int)).map Gw).set i (Gw x)=(mono i x).map Gw:=by
 rw [Qx4,mono];congr 1;refine Xf λj=>?_
 simp only [Y0,List.getElem?_append,Jw,X1];by_cases h:j=i
 ·subst h; simp
 ·rw [if_neg (by omega)];by_cases h2:j<i
  ·simp [h2]; omega
  ·rw [if_neg (by omega),if_neg h2];cases hj:j-i with
   | zero=>omega
   | succ m=>simp
theorem Q1u (i:Nat) {x:Int} {y:List LV} (h:y.map Qid=Gw x):(((List.replicate (i+1) [LV.bool false,LV.nils]).set i y).map λc=>c.map Qid)=(mono i x).map Gw:=by
 rw [V1,Qi7,h]; exact Qud i x
theorem Qa7 {b:List Int} {c:Int} {i:Nat} {q r:List Int} {x:Int} (hx:x=if r.length=b.length+i then U9 r else 0):psd b c (i+1) (q,r)=psd b c i (stq c i x q,str b c i x r):=by
 subst hx; rfl
theorem Q6t {a b:List Int} (ha:Pb a) (hb:Pb b) (h0:b.length≠0):Ut Tryz.prog 233 [pr a,pr b] [pr (psd b (U9 b) (a.length+1-b.length) ([],a)).1,pr (Pi a b),.one (.int .i64 ((a.length+1-b.length:Nat):Int)),.one (.int .i64 0)]:=by
 have hal:=ha.l;have hbl:=hb.l;have hlb:U6 (U9 b)<=16777216:=Mj hb.b;obtain ⟨c,hc⟩:=nmE (U9 b);have cl:=Co hb.t hb.ln hb.bd;rw [show b.getD (b.length-1) 0=c from hc.symm] at cl;obtain ⟨k,hk⟩:=nmE (a.length+1-b.length);unfold Pi;rw [<-hc,<-hk];rw [<-hc] at hlb;refine Gv Tryz.func233 rfl ?_;refine go tt [.z 4,.c [] (Hm ha.t ha.ln ha.bd),.c [] (Hm hb.t hb.ln hb.bd),.f (by simpa using h0),.c [] cl,.c [] (M9 a),.c [] (M9 b),.r 27 (eI (b:=(k:Int)) (by omega))] rfl (by simp [Ur]; omega) ?_;refine lp (S:=Nat×List Int×List Int) 1 (λL1 s=>(4,.v (pr s.2.1))::(5,.v (pr s.2.2))::(9,.v (.one (.int .i64 ((s.1:Int)-1))))::L1) (λ_=>[.blk 27 (Gw c)]) (λs=>s.1) (λs=>s.1<=k/\Uz s.2.2/\s.2.1.length<=66/\s.2.2.length<=a.length/\Bd (16777216+(k-s.1)*16777224) s.2.1/\Bd (16777216+(k-s.1)*16777224) s.2.2/\psd b c s.1 s.2=psd b c k ([],a)) (k,[],a) ⟨Ql _,ha.t,by simp,Ql _,O6,by simpa using ha.b,rfl⟩ rfl (λ_ _=>rfl) rfl λ⟨i,q,r⟩ ⟨j1,j2,j3,j4,j5,j6,j7⟩=>?_
 dsimp only at j1 j2 j3 j4 j5 j6 j7 ⊢;rw [<-j7];cases i with
 | zero=>exact en tt [.f (by simp)] rfl rfl trivial
 |
  succ i =>
  obtain ⟨x,hx⟩:=nmE (if r.length=b.length+i then U9 r else 0);obtain ⟨u,hu⟩:=nmE (16777216+(k-(i+1))*16777224);rw [<-hu] at j5 j6;have hub:u<=1107296256:=by
   have:(k-(i+1))*16777224<=64*16777224:=Q0 _ (by omega);omega
  have hxs:U6 x<=u:=by
   rw [hx]; split
   ·exact Mj j6
   ·rw [Mk]; exact Qh _
  have cs:=Au (p:=q) (c:=c) (by omega) (Us j5 (by omega)) (by omega);have cs2:=Au (p:=r) (c:=c) (by omega) (Us j6 (by omega)) (by omega);have l1:=Fz q c;have l2:=Fz r c;have ca:=Q6o (p:=Ff q c) (q:=mono i x) (by omega) (by rw [A8]; omega) (Us (Gl j5 hlb) (by omega)) (Us (Qjl hxs) (by omega));have cm:=Qpl (p0:=mono i x) hb.t (by rw [A8]; omega) (by omega) (Qjl hxs) hb.b (by omega);have l3:=Qqm (i:=i) (x:=x) (b:=b);have cb:=Qjs (p:=Ff r c) (q:=Fw (trim (mono i x)) b) (by omega) (by omega) (Us (Gl j6 hlb) (by omega)) (Us (Qzo hb.b hxs (by omega)) (by omega));have hst:=Qa7 (b:=b) (c:=c) (q:=q) hx;have hI:i<=k/\Uz (str b c i x r)/\(stq c i x q).length<=66/\(str b c i x r).length<=a.length/\Bd (16777216+(k-i)*16777224) (stq c i x q)/\Bd (16777216+(k-i)*16777224) (str b c i x r):=by
   have l5:=Zfa (c:=c) (x:=x) (i:=i) (q:=q);have l6:=Qqn (c:=c) (x:=x) (i:=i) (b:=b) (r:=r);have hku:u+16777216+8=16777216+(k-i)*16777224:=by
    rw [hu,show k-i=(k-(i+1))+1 from by omega,X8]; omega
   refine ⟨by omega,Ft _ _,by omega,by omega,?_,?_⟩
   ·rw [<-hku]; exact Ziv j5 hlb hxs
   ·rw [<-hku]; exact Qv8 j6 hb.b hlb hxs (by omega)
  rw [hst];by_cases h:r.length=b.length+i
  ·refine go tt [.t (by simp <;> omega),.c [] (M9 r),.c [] (M9 b),.t (by simp; omega),.c [] (Co j2 (by omega) (Us j6 (by omega))),.r 44 (eI (b:=((i+1:Nat):Int)) (by omega)),.i (i+1),.i (i+1),.r 47 (eI (b:=(i:Int)) (by omega)),.i i] rfl (by simp [Ur]; omega) ?_;refine nl 2 rfl rfl rfl ?_;rw [Q1u i (x:=x) (by rw [hx,if_pos h]; rfl)];refine go tt [.c [] cs,.c [] ca,.c [] cs2,.c [] cm,.c [] cb,.r 33 (eI (b:=(i:Int)-1) (by omega))] rfl (by simp [Ur]; omega) ?_;exact rd (i,stq c i x q,str b c i x r) (by dsimp only; omega) ⟨hI.1,hI.2.1,hI.2.2.1,hI.2.2.2.1,hI.2.2.2.2.1,hI.2.2.2.2.2,rfl⟩ rfl
  ·refine go tt [.t (by simp <;> omega),.c [] (M9 r),.c [] (M9 b),.f (by simp; omega),.r 44 (eI (b:=((i+1:Nat):Int)) (by omega)),.i (i+1),.i (i+1),.r 47 (eI (b:=(i:Int)) (by omega)),.i i] rfl (by simp [Ur]; omega) ?_;refine nl 2 rfl rfl rfl ?_;rw [Q1u i (x:=x) (by rw [hx,if_neg h,Eb]; rfl)];refine go tt [.c [] cs,.c [] ca,.c [] cs2,.c [] cm,.c [] cb,.r 33 (eI (b:=(i:Int)-1) (by omega))] rfl (by simp [Ur]; omega) ?_;exact rd (i,stq c i x q,str b c i x r) (by dsimp only; omega) ⟨hI.1,hI.2.1,hI.2.2.1,hI.2.2.2.1,hI.2.2.2.2.1,hI.2.2.2.2.2,rfl⟩ rfl
theorem Zas {b:List Int} {c:Int} (hb:Bd 16777216 b) (hc:U6 c<=16777216) {n:Nat}:∀ (i u:Nat) (q r:List Int),i<=64->i+b.length<=n+1->Uz r->r.length<=n->Bd u r->Uz (psd b c i (q,r)).2/\(psd b c i (q,r)).2.length<=n/\Bd (u+i*16777224) (psd b c i (q,r)).2
 | 0,u,q,r,_,_,h1,h2,h3=>⟨h1,h2,by simpa [psd] using h3⟩
 |
  i+1,u,q,r,hi,hn,h1,h2,h3=>by
  rw [Qa7 rfl];have hx:U6 (if r.length=b.length+i then U9 r else 0)<=u:=by
   split
   ·exact Mj h3
   ·rw [Mk]; exact Qh _
  have l6:=Qqn (c:=c) (x:=if r.length=b.length+i then U9 r else 0) (i:=i) (b:=b) (r:=r);have:=Zas hb hc (n:=n) i (u+16777216+8) (stq c i (if r.length=b.length+i then U9 r else 0) q) (str b c i (if r.length=b.length+i then U9 r else 0) r) (by omega) (by omega) (Ft _ _) (by omega) (Qv8 h3 hb hc hx (by omega));exact ⟨this.1,this.2.1,Us this.2.2 (by omega)⟩
theorem Q2a {a b:List Int} (ha:Pb a) (hb:Pb b) (h0:b.length≠0):Uz (Pi a b)/\(Pi a b).length<=a.length/\Bd 1107296256 (Pi a b):=by
 have hal:=ha.l;by_cases h:b.length<=a.length+1
 ·obtain ⟨h1,h2,h3⟩:=Zas hb.b (Mj hb.b) (n:=a.length) (a.length+1-b.length) 16777216 [] a (by omega) (by omega) ha.t (Ql _) ha.b;refine ⟨h1,h2,Us h3 ?_⟩;have:(a.length+1-b.length)*16777224<=64*16777224:=Q0 _ (by omega);omega
 ·have e:Pi a b=a:=by unfold Pi; rw [show a.length+1-b.length=0 from by omega]; rfl
  rw [e];exact ⟨ha.t,Ql _,Us ha.b (by omega)⟩
theorem Qez {a b r:List Int} {s n:Nat} (h1:Uz r) (h2:r.length<=n) (h3:Bd s r):Uz (Nh a b r)/\(Nh a b r).length<=n/\Bd s (Nh a b r):=by
 unfold Nh; split
 ·exact ⟨Ft _ _,Qc (L6 r) h2,Qbn h3⟩
 ·exact ⟨h1,h2,h3⟩
theorem Qlt {r:List Int} {s n:Nat} (h2:r.length<=n) (h3:Bd s r):Uz (Qcp r)/\(Qcp r).length<=n/\Bd s (Qcp r):=by
 unfold Qcp; split
 ·exact ⟨rfl,by simp,O6⟩
 ·exact ⟨Om _ _,Qc (Qn1 _ _) h2,Qjn h3 _⟩
theorem Qew {a b:List Int} (ha:Pb a) (hb:Pb b) (h0:b.length≠0):Uz (Ro a b)/\(Ro a b).length<=a.length/\Bd 1107296256 (Ro a b):=by
 obtain ⟨h1,h2,h3⟩:=Q2a ha hb h0;obtain ⟨h4,h5,h6⟩:=Qez (a:=a) (b:=b) h1 h2 h3;exact Qlt h5 h6
theorem Q6v {a b:List Int} (ha:Pb a) (hb:Pb b) (h0:b.length≠0):Ut Tryz.prog 197 [pr a,pr b] [pr (Ro a b),.one (.int .i64 0)]:=by
 obtain ⟨h1,h2,h3⟩:=Q2a ha hb h0;obtain ⟨h4,h5,h6⟩:=Qez (a:=a) (b:=b) h1 h2 h3;have hal:=ha.l;have cp:=Q6t ha hb h0;have cl:=Co hb.t hb.ln hb.bd;have cn:=Q6s (p:=Pi a b) (by omega) (Us h3 (by omega));unfold Ro;obtain ⟨r,hr⟩:=nmE (Nh a b (Pi a b));have cc:=Qfx (p:=r) (by rw [hr]; omega) (by rw [hr]; exact Us h6 (by omega));rw [<-hr] at h4 h5 h6 ⊢;obtain ⟨k,hk⟩:=nmE (a.length+1-b.length);rw [<-hk] at cp;have em:((k:Int).tmod 2)=((k % 2:Nat):Int):=by rw [Yy (by omega)]; omega
 have key:Qcp r=if r.length=0 then [] else Bz r (So r):=rfl
 by_cases hz:r.length=0
 ·rw [key,if_pos hz];by_cases hodd:k % 2=1
  ·by_cases hneg:U9 b<0
   ·have e:r=Pd (Pi a b):=by rw [hr]; unfold Nh; rw [if_pos ⟨by rw [<-hk]; exact hodd,hneg⟩]
    rw [e] at hz;exact w tt Tryz.func197 rfl [.c [] cp,.f (by simp),.r 22 (eI em),.t (by simp; omega),.c [] cl,.t (by simpa [U9] using hneg),.c [] cn,.t (by simpa using hz)] rfl rfl (by simp [Ur])
   ·have e:r=Pi a b:=by rw [hr]; unfold Nh; rw [if_neg (λh=>hneg h.2)]
    rw [e] at hz;exact w tt Tryz.func197 rfl [.c [] cp,.f (by simp),.r 22 (eI em),.t (by simp; omega),.c [] cl,.f (by simpa [U9] using hneg),.t (by simpa using hz)] rfl rfl (by simp [Ur])
  ·have e:r=Pi a b:=by rw [hr]; unfold Nh; rw [if_neg (λh=>hodd (by rw [hk]; exact h.1))]
   rw [e] at hz;exact w tt Tryz.func197 rfl [.c [] cp,.f (by simp),.r 22 (eI em),.f (by simp; omega),.f rfl,.t (by simpa using hz)] rfl rfl (by simp [Ur])
 ·rw [key,if_neg hz];have cd:=Qz2 (p:=r) (g:=So r) (by omega) (Us h6 (by omega)) (Qbv (Us h6 (by omega))) (Qa3 h4 hz) Lh;by_cases hodd:k % 2=1
  ·by_cases hneg:U9 b<0
   ·have e:r=Pd (Pi a b):=by rw [hr]; unfold Nh; rw [if_pos ⟨by rw [<-hk]; exact hodd,hneg⟩]
    rw [e] at hz cc cd ⊢;exact w tt Tryz.func197 rfl [.c [] cp,.f (by simp),.r 22 (eI em),.t (by simp; omega),.c [] cl,.t (by simpa [U9] using hneg),.c [] cn,.f (by simpa using hz),.c [] cc,.c [] cd] rfl rfl (by simp [Ur])
   ·have e:r=Pi a b:=by rw [hr]; unfold Nh; rw [if_neg (λh=>hneg h.2)]
    rw [e] at hz cc cd ⊢;exact w tt Tryz.func197 rfl [.c [] cp,.f (by simp),.r 22 (eI em),.t (by simp; omega),.c [] cl,.f (by simpa [U9] using hneg),.f (by simpa using hz),.c [] cc,.c [] cd] rfl rfl (by simp [Ur])
  ·have e:r=Pi a b:=by rw [hr]; unfold Nh; rw [if_neg (λh=>hodd (by rw [hk]; exact h.1))]
   rw [e] at hz cc cd ⊢;exact w tt Tryz.func197 rfl [.c [] cp,.f (by simp),.r 22 (eI em),.f (by simp; omega),.f rfl,.f (by simpa using hz),.c [] cc,.c [] cd] rfl rfl (by simp [Ur])
theorem Ze4 {s:Nat} {x:Int} (h:U6 x<=s) (g:Int):U6 (x / g)<=s:=Qfu (p:=[x]) (λz hz=>by rw [Qk.1 hz]; exact h) g _ (by simp)
def sta (b:List Int) (i:Nat) (x:Int) (a:List Int):List Int:=Pw a (Fw (trim (mono i x)) b)
theorem Ziu {u t i:Nat} {x:Int} {b a:List Int} (ha:Bd u a) (hb:Bd t b) (hx:U6 x<=u) (hi:i<=64):Bd (u+t+8) (sta b i x a) :=
 Us (Iv ha (Qzo hb hx hi)) (by omega)
theorem Q1k {x:Int} {i:Nat} {b a:List Int}:(sta b i x a).length<=max a.length (i+b.length):=by
 have h:=L8 a (Fw (trim (mono i x)) b);have h2:=Qqm (i:=i) (x:=x) (b:=b);unfold sta; omega
theorem Zdh (s n:Nat):Bd s (List.replicate n 0):=λz hz=>by rw [(List.mem_replicate.1 hz).2,Mk]; exact Qh _
theorem Zit {s i:Nat} {l:List Int} {x:Int} (h:Bd s l) (hx:U6 x<=s):Bd s (l.set i x):=λz hz=>by
 rcases Yc hz with hz | rfl
 ·exact h z hz
 ·exact hx
theorem Q6p {a b q:List Int} (ha:Pb a) (hb:Pb b) (h:Qa6 a b=some q):Ut Tryz.prog 272 [pr a,pr b] [pr q,.one (.int .i64 0)]:=by
 unfold Qa6 at h
 split at h
 ·cases h
 rename_i h0;obtain ⟨k,hk⟩:=nmE (a.length+1-b.length);rw [<-hk] at h;obtain ⟨q',hq,hq2⟩:=Qf.1 h;obtain ⟨rfl,hpb⟩:=I3 (Ra _) hq2;have hal:=ha.l;have hbl:=hb.l;refine Gv Tryz.func272 rfl ?_;refine go tt [.c [] (Hm ha.t ha.ln ha.bd),.c [] (Hm hb.t hb.ln hb.bd),.f (by simpa using h0),.r 24 (eI (b:=(k:Int)) (by simp; omega)),.i k,.i k,.r 27 (eI (b:=(k:Int)) (by simp))] rfl (by simp [Ur]; omega) ?_;refine nl 0 rfl rfl rfl ?_;rw [Qi7];refine lp (S:=Nat×List Int×List Int) 1 (λL1 s=>(0,.v (pr s.2.1))::(7,.v (.one (.int .i64 ((s.1:Int)-1))))::L1) (λs=>[.row false 27 2 (s.2.2.map Gw)]) (λs=>s.1) (λs=>s.1<=k/\Uz s.2.1/\s.2.1.length<=a.length/\Bd (16777216+(k-s.1)*16777224) s.2.1/\s.2.2.length=k/\Bd 1107296256 s.2.2/\Qq6 b s.1 s.2.1 s.2.2=some q') (k,a,List.replicate k 0) ⟨Ql _,ha.t,Ql _,by simpa using ha.b,by simp,Zdh _ _,hq⟩ rfl (λ_ _=>rfl) rfl λ⟨i,A,Q⟩ ⟨j1,j2,j3,j4,j5,j7,j6⟩=>?_
 dsimp only at j1 j2 j3 j4 j5 j6 j7 ⊢;cases i with
 |
  zero =>
  simp only [Qq6] at j6
  split at j6
  ·rename_i hA;injection j6 with j6; subst j6;exact en tt [.f (by simp),.f (by simpa using hA),.c [] (D2 (He Q) (by omega) (Us j7 (by omega)))] rfl rfl trivial
  ·cases j6
 |
  succ i =>
  obtain ⟨u,hu⟩:=nmE (16777216+(k-(i+1))*16777224);rw [<-hu] at j4;have hub:u<=1107296256:=by
   have:(k-(i+1))*16777224<=64*16777224:=Q0 _ (by omega);omega
  have hku:u+16777216+8=16777216+(k-i)*16777224:=by
   rw [hu,show k-i=(k-(i+1))+1 from by omega,X8]; omega
  simp only [Qq6] at j6;by_cases hlt:A.length<b.length+i
  ·rw [if_pos hlt] at j6;refine go tt [.t (by simp <;> omega),.c [] (M9 A),.c [] (M9 b),.t (by simp; omega),.r 32 (eI (b:=(i:Int)-1) (by omega))] rfl (by simp [Ur]; omega) ?_;exact rd (i,A,Q) (by dsimp only; omega) ⟨by dsimp only; omega,j2,j3,Us j4 (by dsimp only; omega),j5,j7,j6⟩ rfl
  ·rw [if_neg hlt] at j6
   split at j6
   ·rename_i hdv;obtain ⟨x,hx⟩:=nmE (U9 A / U9 b);rw [<-hx] at j6;have hxs:U6 x<=u:=by rw [hx]; exact Ze4 (Mj j4) _
    have ce:=Em (Uu (U9 A)) (Uu (U9 b)) (Qc (Mj j4) (by omega)) (Qc (Mj hb.b) (by omega)) (D5 hb.t h0) hdv;rw [<-hx] at ce;have cm:Ut Tryz.prog 164 [.one (.row ((mono i x).map Gw)),pr b] [pr (Fw (trim (mono i x)) b)]:=Qpl (p0:=mono i x) hb.t (by rw [A8]; omega) (by omega) (Qjl hxs) hb.b (by omega);have l3:=Qqm (i:=i) (x:=x) (b:=b);have l4:=Q1k (i:=i) (x:=x) (b:=b) (a:=A);have cb:=Qjs (p:=A) (q:=Fw (trim (mono i x)) b) (by omega) (by omega) (Us j4 (by omega)) (Us (Qzo hb.b hxs (by omega)) (by omega));refine go tt [.t (by simp <;> omega),.c [] (M9 A),.c [] (M9 b),.f (by simp; omega),.c [] (Co j2 (by omega) (Us j4 (by omega))),.c [] (Co hb.t hb.ln hb.bd),.c [] ce,.f rfl,.r 51 (eI (b:=(i:Int)) (by omega)),.i i,.r 55 (eI (b:=((i+1:Nat):Int)) (by omega)),.i (i+1),.i (i+1),.r 58 (eI (b:=(i:Int)) (by omega))] rfl (by simp [Ur]; omega) ?_;refine nl 2 rfl rfl rfl ?_;rw [Qi7,Qx4];rw [<-Qud i x] at cm;refine go tt [.i i,.c [] cm,.c [] cb,.r 32 (eI (b:=(i:Int)-1) (by omega))] rfl (by simp [Ur]; omega) ?_;exact rd (i,sta b i x A,Q.set i x) (by dsimp only; omega) ⟨by dsimp only; omega,Ft _ _,by dsimp only; omega,by dsimp only; rw [<-hku]; exact Ziu j4 hb.b hxs (by omega),by simpa using j5,Zit j7 (Nat.le_trans hxs hub),j6⟩ rfl
   ·cases j6
theorem Qx2 {a b q:List Int} (h:Qa6 a b=some q):Pb q:=by
 unfold Qa6 at h
 split at h
 ·cases h
 ·obtain ⟨q',_,hq2⟩:=Qf.1 h;obtain ⟨rfl,hpb⟩:=I3 (Ra _) hq2;exact hpb
theorem Q7m {a b q:List Int} (ha:Pb a) (hb:Pb b) (h:Qa6 a b=some q):Ut Tryz.prog 257 [pr a,pr b] [pr q] :=
 w tt Tryz.func257 rfl [.c [] (Q6p ha hb h)] rfl rfl trivial
theorem Qr1:∀ {k:Nat} {a b g:List Int},Pb a->Pb b->Qg7 k a b=some g->Pb g
 | 0,_,_,_,_,_,h=>by cases h
 |
  k+1,a,b,g,ha,hb,h=>by
  simp only [Qg7] at h
  split at h
  ·injection h with h; subst h; exact ha
  ·rename_i h0;obtain ⟨r,hr,h⟩:=Qf.1 h;obtain ⟨rfl,hpb⟩:=I3 (Qew ha hb h0).1 hr;exact Qr1 hb hpb h
theorem Q0h {a b g:List Int} (ha:Pb a) (hb:Pb b) (h:Qa8 a b=some g):Ut Tryz.prog 151 [pr a,pr b] [pr g]:=by
 unfold Qa8 at h;obtain ⟨g',h2,rfl⟩:=Vr.1 h;have hg:=Qr1 (Ri ha) (Ri hb) h2;refine Gv Tryz.func151 rfl ?_;refine go tt [.c [] (Eo ha),.c [] (Eo hb)] rfl trivial ?_;refine lp (S:=Nat×List Int×List Int) 0 (λL1 s=>(0,.v (pr s.2.1))::(1,.v (pr s.2.2))::L1) (λ_=>[]) (λs=>s.1) (λs=>Pb s.2.1/\Pb s.2.2/\Qg7 s.1 s.2.1 s.2.2=some g') (66,U7 a,U7 b) ⟨Ri ha,Ri hb,h2⟩ rfl (λ_ _=>rfl) rfl λ⟨k,A,C⟩ ⟨j1,j2,j3⟩=>?_
 dsimp only at j1 j2 j3 ⊢;cases k with
 | zero=>cases j3
 |
  succ k =>
  simp only [Qg7] at j3
  split at j3
  ·rename_i h0;injection j3 with j3; subst j3;exact en tt [.f (by simpa using h0),.c [] (Eo j1)] rfl rfl trivial
  ·rename_i h0;obtain ⟨r,hr,j3⟩:=Qf.1 j3;obtain ⟨rfl,hpb⟩:=I3 (Qew j1 j2 h0).1 hr;refine go tt [.t (by simp; omega),.c [] (Q6v j1 j2 h0)] rfl trivial ?_;exact rd (k,C,Ro A C) (by dsimp only; omega) ⟨j2,hpb,j3⟩ rfl
theorem Qgx {a b g:List Int} (ha:Pb a) (hb:Pb b) (h:Qa8 a b=some g):Pb g:=by
 unfold Qa8 at h;obtain ⟨g',h2,rfl⟩:=Vr.1 h;exact Ri (Qr1 (Ri ha) (Ri hb) h2)
theorem Q6q {a b g:List Int} (ha:Pb a) (hb:Pb b) (h:Qq8 a b=some g):Ut Tryz.prog 108 [.one (.row (Sf [a,b]))] [pr g]:=by
 unfold Qq8 at h;obtain ⟨g1,h1,h2⟩:=Qf.1 h;have hg1:=Qgx Qgv ha h1;refine Gv Tryz.func108 rfl ?_;refine go tt [.z 3] rfl trivial ?_;refine lp (S:=Nat) 0 (λL1 i=>(8,.v (.one (.int .i64 (i:Int))))::(3,.v (pr (if i=0 then [] else if i=1 then g1 else g)))::L1) (λ_=>[]) (λi=>2-i) (λi=>i<=2) 0 (Qh _) rfl (λ_ _=>rfl) rfl λi hi=>?_
 rcases (show i=0\/i=1\/i=2 by omega) with rfl | rfl | rfl
 ·refine go tt [.t rfl,.x (H8 (i:=0) (p:=a) rfl),.c [] (Q0h Qgv ha h1)] rfl (by simp [Ur]) ?_;exact rd 1 (by omega) (by omega) rfl
 ·refine go tt [.t rfl,.x (H8 (i:=1) (p:=b) rfl),.c [] (Q0h hg1 hb h2)] rfl (by simp [Ur]) ?_;exact rd 2 (by omega) (by omega) rfl
 ·exact en tt [.f rfl] rfl rfl trivial
theorem Zae {a b g:List Int} (ha:Pb a) (hb:Pb b) (h:Qq8 a b=some g):Pb g:=by
 unfold Qq8 at h;obtain ⟨g1,h1,h2⟩:=Qf.1 h;exact Qgx (Qgx Qgv ha h1) hb h2
theorem Qlo {p d:List Int} (h:chk (Gj p)=some d):d=Gj p/\Pb (Gj p):=I3 (Ft _ _) h
theorem Qjt {a g:List Int} (ha:Pb a) (h:P9 a=some g):Ut Tryz.prog 239 [pr a] [pr g]:=by
 have hp:=Ri ha;unfold P9 at h
 split at h
 ·rename_i h0;injection h with h; subst h;exact w tt Tryz.func239 rfl [.c [] (Eo ha),.c [] (M9 _),.t (by simp; omega)] rfl rfl trivial
 ·rename_i h0;obtain ⟨d,h1,h⟩:=Qf.1 h;obtain ⟨rfl,hd⟩:=Qlo h1;obtain ⟨g1,h1,h⟩:=Qf.1 h;exact w tt Tryz.func239 rfl [.c [] (Eo ha),.c [] (M9 _),.f (by simp; omega),.c [] (As hp.ln hp.bd),.c [] (Q0h hp hd h1),.c [] (Q7m hp (Qgx hp hd h1) h)] rfl rfl trivial
theorem Qgw {a g:List Int} (ha:Pb a) (h:P9 a=some g):Pb g:=by
 unfold P9 at h
 split at h
 ·injection h with h; subst h; exact Ri ha
 ·obtain ⟨d,h1,h⟩:=Qf.1 h;obtain ⟨g1,h1,h⟩:=Qf.1 h;exact Qx2 h
theorem Zaf {p:List Int} (h:Pb p):Pb (Pd p):=⟨Ft _ _,Qc (L6 p) h.l,Qbn h.b⟩
theorem Qw4:∀ {k:Nat} {a b:List Int} {l:List (List Int)},Pb a->Pb b->chF k a b=some l->l.length≤k/\∀ p∈l,Pb p
 | 0,_,_,_,_,_,h=>by cases h
 |
  k+1,a,b,l,ha,hb,h=>by
  simp only [chF] at h
  split at h
  ·injection h with h; subst h; exact ⟨by simp,λp hp=>by cases hp⟩
  ·rename_i h0;obtain ⟨r,hr,h⟩:=Qf.1 h;obtain ⟨rfl,hpb⟩:=I3 (Qew ha hb h0).1 hr;obtain ⟨l',h1,h⟩:=Qf.1 h;injection h with h; subst h;obtain ⟨i1,i2⟩:=Qw4 hb (Zaf hpb) h1;refine ⟨by simp; exact i1,λp hp=>?_⟩;rcases Qo.1 hp with rfl | hp
   ·exact hb
   ·exact i2 p hp
theorem chain_ok {p:List Int} {l:List (List Int)} (hp:Pb p) (h:Ay p=some l):l.length≤67/\∀ q∈l,Pb q:=by
 unfold Ay at h;obtain ⟨a,h1,h⟩:=Qf.1 h;have ha:=Qgw hp h1
 split at h
 ·cases h
 ·obtain ⟨d,h2,h⟩:=Qf.1 h;obtain ⟨rfl,hd⟩:=Qlo h2;obtain ⟨l',h3,h⟩:=Qf.1 h;injection h with h; subst h;obtain ⟨i1,i2⟩:=Qw4 ha (Ri hd) h3;refine ⟨by simp; omega,λp hp=>?_⟩;rcases Qo.1 hp with rfl | hp
  ·exact ha
  ·exact i2 p hp
theorem Qls (l:List (List Int)) (p:List Int):Sf l++[[pl p]]=Sf (l++[p]):=by simp [Sf]
theorem Li (l:List (List Int)):(Sf l).length=l.length:=by simp [Sf]
theorem Q6x {p:List Int} {l:List (List Int)} (hp:Pb p) (h:Ay p=some l):Ut Tryz.prog 211 [pr p] [.one (.sh [.row (Sf l)]),.one (.int .i64 0)]:=by
 unfold Ay at h;obtain ⟨a,h1,h⟩:=Qf.1 h;have ha:=Qgw hp h1
 split at h
 ·cases h
 rename_i h0;obtain ⟨d,h2,h⟩:=Qf.1 h;obtain ⟨rfl,hd⟩:=Qlo h2;obtain ⟨l',h3,h⟩:=Qf.1 h;injection h with h; subst h;refine Gv Tryz.func211 rfl ?_;refine go tt [.c [] (Qjt hp h1),.f (by simpa using h0),.lo,.c [] (As ha.ln ha.bd),.c [] (Q7j hd.t hd.ln' hd.bd)] rfl (by simp [Ur]) ?_;obtain ⟨z,hz⟩:=nmE (if (Gj a).length=0 then 0 else G7 (Gj a));rw [<-hz];refine sb [(4,.v (pr a)),(7,.v (pr (U7 (Gj a)))),(5,.v (.one (.ow 1 0)))] [.row false 24 1 [[pl a]],.blk 282 [.orow 0 1 none],.blk 27 (Gw z)] rfl rfl ?_;have hll:=(Qw4 ha (Ri hd) h3).1;refine lp (S:=Nat×List (List Int)×List Int×List Int) 3 (λL1 s=>(4,.v (pr s.2.2.1))::(7,.v (pr s.2.2.2))::L1) (λs=>[.row false 24 1 (Sf s.2.1),.blk 282 [.orow 0 1 none],.blk 27 (Gw z)]) (λs=>s.1) (λs=>Pb s.2.2.1/\Pb s.2.2.2/\∃ m,chF s.1 s.2.2.1 s.2.2.2=some m/\s.2.1++m=a::l') (66,[a],a,U7 (Gj a)) ⟨ha,Ri hd,l',h3,rfl⟩ rfl (λ_ _=>rfl) rfl λ⟨k,out,A,C⟩ ⟨j1,j2,m,j3,j4⟩=>?_
 dsimp only at j1 j2 j3 j4 ⊢;have hol:out.length<=67:=by have:=congrArg List.length j4; simp at this; omega
 cases k with
 | zero=>cases j3
 |
  succ k =>
  simp only [chF] at j3
  split at j3
  ·rename_i h0;injection j3 with j3; subst j3;rw [Zo] at j4;rw [<-j4];exact en tt [.f (by simpa using h0)] rfl rfl trivial
  ·rename_i h0;obtain ⟨r,hr,j3⟩:=Qf.1 j3;obtain ⟨rfl,hpb⟩:=I3 (Qew j1 j2 h0).1 hr;obtain ⟨m',j6,j5⟩:=Qf.1 j3;injection j5 with j5; subst j5;refine go tt [.t (by simp; omega),.s (sz:=1) (λc hc=>by rw [Qk.1 hc]; rfl),.c [] (Q6v j1 j2 h0),.c [] (Q6s hpb.ln hpb.bd)] rfl (by simp [Ur,Li]; omega) ?_;exact rd (k,out++[C],C,Pd (Ro A C)) (by dsimp only; omega) ⟨j2,Zaf hpb,m',j6,by rw [<-j4]; simp⟩ (by rw [Qls]; rfl)
structure Tb (t:Tm):Prop where
 p:Pb t.p
 lo:Qb t.lo
 hi:Qb t.hi
theorem Q0q (x y:Int):-1<=Nn x y/\Nn x y<=1:=by unfold Nn; split <;> (try split) <;> omega
theorem I4 (a b:Rat):-1<=Gq a b/\Gq a b<=1:=Q0q _ _
theorem Ik (p:List Int) (q:Rat):-1<=Gz p q/\Gz p q<=1:=Q0q _ _
theorem Qxu (p:List Int) (q:Rat):-1<=low p q/\low p q<=1:=by unfold low; split <;> exact Ik _ _
theorem Qb.s31 {q:Rat} (h:Qb q):Qs 2147483647 q:=h.mono (by decide)
theorem Qb.s32 {q:Rat} (h:Qb q):Qs 4294967295 q:=h.mono (by decide)
theorem Qia {p:List Int} {q:Rat} (hp:Pb p) (hq:Qb q):Ut Tryz.prog 123 [pr p,.agg (rl q)] [.one (.int .i64 (Gz p q))]:=by
 have hm:p.length*(16777216+1)<=64*16777217:=Q0 _ hp.l;exact Qzv hp.t hp.ln hp.b hq (by omega)
theorem Zl7 {p:List Int} {q:Rat} (hp:Pb p) (hq:Qb q):Ut Tryz.prog 123 [pr (Gj p),.agg (rl q)] [.one (.int .i64 (Gz (Gj p) q))]:=by
 have hl:=Qc (Pn p) (show p.length-1<=64 by have:=hp.l; omega);have hm:(Gj p).length*(16777216+1)<=64*16777217:=Q0 _ hl;exact Qzv (Ft _ _) (Zv hl (by omega)) (Qin (t:=6) hp.b hp.l) hq (by omega)
theorem C6 {t:Tm} (ht:Tb t):Ut Tryz.prog 107 [.agg (ta t)] [.one (.bool t.point)] :=
 w tt Tryz.func107 rfl [.c [] (Lo ht.lo.s31 ht.hi.s31)] rfl rfl trivial
theorem Qip {t:Tm} (ht:Tb t):Ut Tryz.prog 106 [.agg (ta t)] [.agg (ta t)] :=
 w tt Tryz.func106 rfl [.c [] (Hm ht.p.t ht.p.ln ht.p.bd),.c [] (Ep ht.lo.s32),.c [] (Ep ht.hi.s32)] rfl rfl trivial
theorem Q7x {t:Tm} (ht:Tb t):Ut Tryz.prog 127 [.agg (ta t)] [.agg (ta t)]:=w tt Tryz.func127 rfl [.c [] (Qip ht)] rfl rfl trivial
theorem Q7f {p:List Int} {q:Rat} (hp:Pb p) (hq:Qb q):Ut Tryz.prog 124 [pr p,.agg (rl q)] [.one (.int .i64 (low p q))]:=by
 unfold low;by_cases h:Gz p q=0
 ·rw [if_neg (by simpa using h)];exact w tt Tryz.func124 rfl [.c [] (Qia hp hq),.f (by simpa using h),.c [] (As hp.ln hp.bd),.c [] (Zl7 hp hq)] rfl rfl trivial
 ·rw [if_pos h];exact w tt Tryz.func124 rfl [.c [] (Qia hp hq),.t (by simpa using h)] rfl rfl trivial
theorem Q7c {p:List Int} {lo hi:Rat} (hp:Pb p) (hl:Qb lo) (hh:Qb hi):Ut Tryz.prog 110 [pr p,.agg (rl lo),.agg (rl hi)] [.one (.bool (Qec p lo hi))]:=by
 by_cases h:Gz p hi=0
 ·exact w tt Tryz.func110 rfl [.c [] (Qia hp hh),.t (by simpa using h)] rfl (by simp [Qec,h]) trivial
 ·exact w tt Tryz.func110 rfl [.c [] (Qia hp hh),.f (by simpa using h),.c [] (Q7f hp hl)] rfl (by simp [Qec,h]) trivial
theorem Qfw {t:Tm} {q:Rat} (ht:Tb t) (hq:Qb q):Ut Tryz.prog 77 [.agg (ta t),.agg (rl q)] [.one (.int .i64 (Fe t q))]:=by
 have cp:=C6 ht;unfold Fe;by_cases h1:t.point=true
 ·rw [if_pos h1];exact w tt Tryz.func77 rfl [.c [] cp,.t h1,.c [] (Lo ht.lo.s31 hq.s31)] rfl rfl trivial
 rw [if_neg h1];have h1:t.point=false:=by simpa using h1
 have c1:=Lo hq.s31 ht.lo.s31;have c2:=Lo hq.s31 ht.hi.s31;by_cases h2:Gq q t.lo<=0
 ·rw [if_pos h2];exact w tt Tryz.func77 rfl [.c [] cp,.f h1,.c [] c1,.t (by simpa using h2)] rfl rfl trivial
 rw [if_neg h2];by_cases h3:0<Gq q t.hi
 ·rw [if_pos h3];exact w tt Tryz.func77 rfl [.c [] cp,.f h1,.c [] c1,.f (by simpa using h2),.c [] c2,.t (by simpa using h3)] rfl rfl trivial
 rw [if_neg h3];by_cases h4:Gz t.p q=0
 ·rw [if_pos h4];exact w tt Tryz.func77 rfl [.c [] cp,.f h1,.c [] c1,.f (by simpa using h2),.c [] c2,.f (by simpa using h3),.c [] (Qia ht.p hq),.t (by simpa using h4)] rfl rfl trivial
 rw [if_neg h4];by_cases h5:Gz t.p q=low t.p t.lo
 ·rw [if_pos h5];exact w tt Tryz.func77 rfl [.c [] cp,.f h1,.c [] c1,.f (by simpa using h2),.c [] c2,.f (by simpa using h3),.c [] (Qia ht.p hq),.f (by simpa using h4),.c [] (Q7f ht.p ht.lo),.t (by simpa using h5)] rfl rfl trivial
 ·rw [if_neg h5];exact w tt Tryz.func77 rfl [.c [] cp,.f h1,.c [] c1,.f (by simpa using h2),.c [] c2,.f (by simpa using h3),.c [] (Qia ht.p hq),.f (by simpa using h4),.c [] (Q7f ht.p ht.lo),.f (by simpa using h5)] rfl rfl trivial
theorem Zek (t:Tm) (q:Rat):-1<=Fe t q/\Fe t q<=1:=by
 unfold Fe;have:=I4 t.lo q
 repeat' split
 all_goals omega
theorem Zes (q:Rat):0<(q.den:Int):=by have:=q.den_pos; omega
theorem Zhk {a b:Rat} (ha:Qb a) (hb:Qb b):Ut Tryz.prog 201 [.agg (rl a),.agg (rl b)] [.agg (rl (mid a b))]:=by
 have h1:U6 (a.num*(b.den:Int))<=33554432:=Qc (Fl _ _) (by have:=ha.1; have:=hb.2; omega);have h2:U6 (b.num*(a.den:Int))<=33554432:=Qc (Fl _ _) (by have:=hb.1; have:=ha.2; omega);have h3:U6 ((a.den:Int)*(b.den:Int))<=33554432:=Qc (Fl _ _) (by have:=ha.2; have:=hb.2; omega);have h4:U6 (2:Int)<=2:=by decide
 have h5:U6 (a.num*(b.den:Int)+b.num*(a.den:Int))<=33554433:=Qc (Qbu _ _) (by omega);have h6:U6 ((a.den:Int)*(b.den:Int)*2)<=33554434:=Qc (Fl _ _) (by omega);have h0:(a.den:Int)*(b.den:Int)*2≠0:=by
  have:=Int.mul_pos (Zes a) (Zes b); omega
 exact w tt Tryz.func201 rfl [.c [] (Qpr ha.s31 hb.s31),.c [] (Qcy (Uu _) (Uu _) (by omega) (by omega)),.c [] (Qwk (z:=2) (by decide)),.c [] (Ac (Uu _) (Uu _) (by omega) (by omega)),.c [] (O8 h0 (by omega) (by omega))] rfl rfl trivial
theorem Qpw {a b:Rat} (ha:Qb a) (hb:Qb b):Ut Tryz.prog 153 [.agg (rl a),.agg (rl b)] [.agg (rl (Ql4 a b))]:=by
 have h1:U6 (a.num*(b.den:Int))<=33554432:=Qc (Fl _ _) (by have:=ha.1; have:=hb.2; omega);have h2:U6 (b.num*(a.den:Int))<=33554432:=Qc (Fl _ _) (by have:=hb.1; have:=ha.2; omega);have h3:U6 ((a.den:Int)*(b.den:Int))<=33554432:=Qc (Fl _ _) (by have:=ha.2; have:=hb.2; omega);have h5:U6 (a.num*(b.den:Int)-b.num*(a.den:Int))<=33554433:=Qc (Qql _ _) (by omega);have h0:(a.den:Int)*(b.den:Int)≠0:=by
  have:=Int.mul_pos (Zes a) (Zes b); omega
 exact w tt Tryz.func153 rfl [.c [] (Qpr ha.s31 hb.s31),.c [] (Q66 (Uu _) (Uu _) (by omega) (by omega)),.c [] (O8 h0 (by omega) (by omega))] rfl rfl trivial
theorem Qj3 {q r:Rat} (h:chq q=some r):r=q/\Qb q:=by
 unfold chq at h
 split at h
 ·rename_i hc; injection h with h; exact ⟨h.symm,hc⟩
 ·cases h
theorem Qwq {t u:Tm} (ht:Tb t) (h:Qqf t=some u):Ut Tryz.prog 154 [.agg (ta t)] [.agg (ta u)]:=by
 have cp:=C6 ht;unfold Qqf at h
 split at h
 ·rename_i h1;injection h with h; subst h;exact w tt Tryz.func154 rfl [.c [] cp,.t h1] rfl rfl trivial
 ·rename_i h1;have h1:t.point=false:=by simpa using h1
  obtain ⟨m,hm0,h⟩:=Qf.1 h;obtain ⟨rfl,hm⟩:=Qj3 hm0;injection h with h;subst h;have cm:=Zhk ht.lo ht.hi;have cc:=Qfw ht hm;by_cases h2:Fe t (mid t.lo t.hi)=0
  ·rw [if_pos h2];exact w tt Tryz.func154 rfl [.c [] cp,.f h1,.c [] cm,.c [] cc,.t (by simpa using h2)] rfl rfl trivial
  rw [if_neg h2];by_cases h3:Fe t (mid t.lo t.hi)=-1
  ·rw [if_pos h3];exact w tt Tryz.func154 rfl [.c [] cp,.f h1,.c [] cm,.c [] cc,.f (by simpa using h2),.t (by simpa using h3)] rfl rfl trivial
  ·rw [if_neg h3];exact w tt Tryz.func154 rfl [.c [] cp,.f h1,.c [] cm,.c [] cc,.f (by simpa using h2),.f (by simpa using h3)] rfl rfl trivial
theorem Qru {t u:Tm} (ht:Tb t) (h:Qqf t=some u):Tb u:=by
 unfold Qqf at h
 split at h
 ·injection h with h; subst h; exact ht
 ·obtain ⟨m,hm0,h⟩:=Qf.1 h;obtain ⟨rfl,hm⟩:=Qj3 hm0;injection h with h;subst h
  repeat' split
  ·exact ⟨ht.p,hm,hm⟩
  ·exact ⟨ht.p,ht.lo,hm⟩
  ·exact ⟨ht.p,hm,ht.hi⟩
theorem Iy {z:Int} (h:U6 z<=4294967296):Ut Tryz.prog 198 [.one (mg z)] [.one (.int .i64 (U6 z:Int))]:=by
 have h1:=Qwd (l:=Fg z.natAbs) (De _) (by rw [Ge]; exact h);rw [Ge] at h1; exact h1
theorem Qly {p:List Int} {i:Nat} {z:Int} (h:p[i]? = some z):Gm (p.take (i+1))=max (Gm (p.take i)) (U6 z):=by
 unfold Gm; rw [List.take_succ,h,Option.toList_some,List.foldl_append]; rfl
theorem Pv {p:List Int} {s:Nat} (h:Bd s p):∀ i,Gm (p.take i)<=s
 | 0=>by simp [Gm]
 |
  i+1=>by
  cases hz:p[i]? with
  |
   none =>
   rw [Qn (by have:=Ji.1 hz; omega),<-Qn (l:=p) (i:=i) (by have:=Ji.1 hz; omega)];exact Pv h i
  | some z=>rw [Qly hz]; have:=Pv h i; have:=Q58 h hz; omega
theorem Qpy {p:List Int} (hp:Pb p):Ut Tryz.prog 199 [pr p] [.one (.int .i64 (Gm p:Int))]:=by
 have hl:=hp.l;refine Gv Tryz.func199 rfl ?_;refine go tt [] rfl trivial ?_;refine lp (S:=Nat) 0 (λL1 i=>(8,.v (.one (.int .i64 (i:Int))))::(3,.v (.one (.int .i64 (Gm (p.take i):Int))))::L1) (λ_=>[]) (λi=>p.length-i) (λi=>i<=p.length) 0 (Qh _) rfl (λ_ _=>rfl) rfl λi hi=>?_
 by_cases hlt:i<p.length
 ·have hg:=Hz hlt;have hz:=U8 hp.b i;have hs:=Qly hg;refine go tt [.t (by simp; omega),.x (Sv hg),.c [] (Iy (by omega)),.r 16 (eI (b:=(Gm (p.take (i+1)):Int)) (by rw [hs]; omega))] rfl (by simp [Ur]; omega) ?_;exact rd (i+1) (by omega) hlt rfl
 ·obtain rfl:i=p.length:=by omega
  rw [Qy];exact en tt [.f (by simp)] rfl rfl trivial
theorem Zeg {a:Tm} {b:Tm} (ha:Tb a) (hb:Tb b):Ut Tryz.prog 152 [.agg (ta a),.agg (ta b)] [.one (.int .i64 (Pe a b:Nat))]:=by
 have l1:=ha.p.l;have l2:=hb.p.l;have b1:=ha.lo.1;have b2:=ha.hi.1;have b3:=hb.lo.1;have b4:=hb.hi.1;have s1:Gm a.p<=16777216:=by have:=Pv ha.p.b a.p.length; rwa [Qy] at this
 have s2:Gm b.p<=16777216:=by have:=Pv hb.p.b b.p.length; rwa [Qy] at this
 obtain ⟨N,hN⟩:=nmE (4*(a.p.length+b.p.length));obtain ⟨S,hS⟩:=nmE (Gm a.p+Gm b.p+(a.p.length+b.p.length)+8);have hNS:N*S<=512*33554568:=Zf (by omega) (by omega);have h0:(N:Int)*(S:Int)=((N*S:Nat):Int):=(Vj _ _).symm;have hst:Pe a b=64+2*(U6 a.lo.num+U6 a.hi.num+U6 b.lo.num+U6 b.hi.num)+N*S:=by rw [hN,hS]; rfl
 rw [hst];exact w tt Tryz.func152 rfl [.c [] (Iy (z:=a.lo.num) (by omega)),.c [] (Iy (z:=a.hi.num) (by omega)),.c [] (Iy (z:=b.lo.num) (by omega)),.c [] (Iy (z:=b.hi.num) (by omega)),.r 41 (eI (b:=(N:Int)) (by rw [hN]; simp)),.c [] (Qpy ha.p),.c [] (Qpy hb.p),.r 51 (eI (b:=(S:Int)) (by rw [hS]; simp)),.r 52 (eI (b:=((N*S:Nat):Int)) h0)] rfl (by simp) (by rw [h0]; simp [Ur]; omega)
def Qy3 (p:List Int) (a:Tm):Nat:=64+2*(U6 a.lo.num+U6 a.hi.num)+4*(a.p.length+p.length)*(Gm a.p+Gm p+(a.p.length+p.length)+8)
theorem Qzq:Ut Tryz.prog 198 [lr []] [.one (.int .i64 0)]:=Qwd (l:=[]) (by simp [Sm]) (by decide)
theorem Q7w {a:Tm} {p:List Int} (ha:Tb a) (hp:Pb p):Ut Tryz.prog 152 [.agg (ta a),.agg ([pl p,.bool false,.row [],.bool false,.row [],.bool false,.row [],.bool false,.row []])] [.one (.int .i64 (Qy3 p a:Nat))]:=by
 have l1:=ha.p.l;have l2:=hp.l;have b1:=ha.lo.1;have b2:=ha.hi.1;have s1:Gm a.p<=16777216:=by have:=Pv ha.p.b a.p.length; rwa [Qy] at this
 have s2:Gm p<=16777216:=by have:=Pv hp.b p.length; rwa [Qy] at this
 obtain ⟨N,hN⟩:=nmE (4*(a.p.length+p.length));obtain ⟨S,hS⟩:=nmE (Gm a.p+Gm p+(a.p.length+p.length)+8);have hNS:N*S<=512*33554568:=Zf (by omega) (by omega);have h0:(N:Int)*(S:Int)=((N*S:Nat):Int):=(Vj _ _).symm;have hst:Qy3 p a=64+2*(U6 a.lo.num+U6 a.hi.num)+N*S:=by rw [hN,hS]; rfl
 rw [hst];exact w tt Tryz.func152 rfl [.c [] (Iy (z:=a.lo.num) (by omega)),.c [] (Iy (z:=a.hi.num) (by omega)),.c [] Qzq,.c [] Qzq,.r 41 (eI (b:=(N:Int)) (by rw [hN]; simp)),.c [] (Qpy ha.p),.c [] (Qpy hp),.r 51 (eI (b:=(S:Int)) (by rw [hS]; simp)),.r 52 (eI (b:=((N*S:Nat):Int)) h0)] rfl (by simp) (by rw [h0]; simp [Ur]; omega)
def tst (sg:List Int->Int) (l:List (List Int)) (i:Nat):Nat×Int:=(l.take i).foldl (S0 sg) (0,0)
theorem Qry {sg:List Int->Int} (hs:∀ p,-1<=sg p/\sg p<=1) (l:List (List Int)):∀ i,(tst sg l i).1<=i/\-1<=(tst sg l i).2/\(tst sg l i).2<=1
 | 0=>⟨Ql _,show (-1:Int)<=0 by decide,show (0:Int)<=1 by decide⟩
 |
  i+1=>by
  obtain ⟨h1,h2,h3⟩:=Qry hs l i;cases h:l[i]? with
  |
   none =>
   have:tst sg l (i+1)=tst sg l i:=by unfold tst; rw [List.take_of_length_le (by have:=List.getElem?_eq_none_iff.1 h; omega),List.take_of_length_le (List.getElem?_eq_none_iff.1 h)]
   rw [this]; omega
  |
   some p =>
   have:tst sg l (i+1)=S0 sg (tst sg l i) p:=Rr _ _ _ h;rw [this];have:=hs p;unfold S0
   split
   ·omega
   ·dsimp only; split <;> omega
theorem Zeh {l:List (List Int)} {fid:Nat} {l1:List LV} {sg:List Int->Int} (hl:l.length≤1000) (hs:∀ p,-1≤sg p/\sg p≤1) (h:∀ p∈l,Ut Tryz.prog fid [pr p,.one (.sh l1)] [.one (.int .i64 (sg p))]):Ut Tryz.prog 258 [.one (.sh [.row (Sf l)]),.one (.fn fid [] [.sh l1])] [.one (.int .i64 (Bn sg l:Nat))]:=by
 have By:=Li l;refine Gv Tryz.func258 rfl ?_;refine go tt [] rfl trivial ?_;refine lp (S:=Nat) 0 (λL1 i=>(15,.v (.one (.int .i64 (i:Int))))::(5,.v (.one (.int .i64 ((tst sg l i).1:Int))))::(6,.v (.one (.int .i64 (tst sg l i).2)))::L1) (λ_=>[]) (λi=>l.length-i) (λi=>i<=l.length) 0 (Qh _) rfl (λ_ _=>rfl) rfl λi hi=>?_
 by_cases hlt:i<l.length
 ·obtain ⟨p,hp⟩:=gxE (l:=l) (i:=i) hlt;have hst:tst sg l (i+1)=S0 sg (tst sg l i) p:=Rr _ _ _ hp;obtain ⟨b1,b2,b3⟩:=Qry hs l i;have b4:=hs p;by_cases h0:sg p=0
  ·refine go tt [.t (by simp [By]; omega),.x (H8 hp),.c [] (h p (Qa hp)),.t (by simpa using h0)] rfl (by simp [Ur]; omega) ?_;exact rd (i+1) (by omega) hlt (by rw [hst,show S0 sg (tst sg l i) p=tst sg l i from by unfold S0; rw [if_pos h0]]; rfl)
  ·by_cases h1:(tst sg l i).2=-(sg p)
   ·refine go tt [.t (by simp [By]; omega),.x (H8 hp),.c [] (h p (Qa hp)),.f (by simpa using h0),.t (by simpa using h1)] rfl (by simp [Ur]; omega) ?_;exact rd (i+1) (by omega) hlt (by rw [hst,show S0 sg (tst sg l i) p=((tst sg l i).1+1,sg p) from by unfold S0; rw [if_neg h0,if_pos h1]]; rfl)
   ·refine go tt [.t (by simp [By]; omega),.x (H8 hp),.c [] (h p (Qa hp)),.f (by simpa using h0),.f (by simpa using h1)] rfl (by simp [Ur]; omega) ?_;exact rd (i+1) (by omega) hlt (by rw [hst,show S0 sg (tst sg l i) p=((tst sg l i).1,sg p) from by unfold S0; rw [if_neg h0,if_neg h1]]; rfl)
 ·obtain rfl:i=l.length:=by omega
  refine en tt [.f (by simp [By])] rfl ?_ trivial;unfold tst Bn; rw [List.take_length]
theorem Q64 {p:List Int} {q:Rat} (hp:Pb p) (hq:Qb q):Ut Tryz.prog 259 [pr p,.one (.sh (rl q))] [.one (.int .i64 (Gz p q))]:=w tt Tryz.func259 rfl [.c [] (Qia hp hq)] rfl rfl trivial
theorem Qz0 {l:List (List Int)} {q:Rat} (hl:l.length≤1000) (hp:∀ p∈l,Pb p) (hq:Qb q):Ut Tryz.prog 240 [.one (.sh [.row (Sf l)]),.agg (rl q)] [.one (.int .i64 (Bp l q:Nat))] :=
 w tt Tryz.func240 rfl [.c [] (Zeh (fid:=259) (l1:=rl q) (sg:=λp=>Gz p q) hl (λp=>Ik p q) λp h=>Q64 (hp p h) hq)] rfl rfl trivial
theorem Df {sg:List Int->Int} (hs:∀ p,-1<=sg p/\sg p<=1) (l:List (List Int)):Bn sg l<=l.length:=by
 have:=(Qry hs l l.length).1;unfold tst at this; rwa [List.take_length] at this
theorem Qmy {l:List (List Int)} {lo hi:Rat} (hl:l.length≤1000) (hp:∀ p∈l,Pb p) (ql:Qb lo) (qh:Qb hi):Ut Tryz.prog 212 [.one (.sh [.row (Sf l)]),.agg (rl lo),.agg (rl hi)] [.one (.int .i64 (Ry l lo hi))]:=by
 have b1:Bp l lo<=l.length:=Df (λp=>Ik p lo) l;have b2:Bp l hi<=l.length:=Df (λp=>Ik p hi) l;have c1:=Lo qh.s31 ql.s31;unfold Ry;by_cases h:Gq hi lo<0
 ·rw [if_pos h];exact w tt Tryz.func212 rfl [.c [] c1,.t (by simpa using h)] rfl rfl trivial
 ·rw [if_neg h];exact w tt Tryz.func212 rfl [.c [] c1,.f (by simpa using h),.c [] (Qz0 hl hp ql),.c [] (Qz0 hl hp qh)] rfl rfl (by simp [Ur]; omega)
def zTm:List LV:=[.nils,.bool false,.nils,.bool false,.nils,.bool false,.nils,.bool false,.nils]
theorem Q5d {a b:Tm} (ha:Tb a) (hb:Tb b):Pe a b<=17179938816+200000000:=by
 have l1:=ha.p.l;have l2:=hb.p.l;have b1:=ha.lo.1;have b2:=ha.hi.1;have b3:=hb.lo.1;have b4:=hb.hi.1;have s1:Gm a.p<=16777216:=by have:=Pv ha.p.b a.p.length; rwa [Qy] at this
 have s2:Gm b.p<=16777216:=by have:=Pv hb.p.b b.p.length; rwa [Qy] at this
 have:4*(a.p.length+b.p.length)*(Gm a.p+Gm b.p+(a.p.length+b.p.length)+8)<=512*33554568:=Zf (by omega) (by omega);unfold Pe; omega
theorem Zf8 {a b:Rat} (ha:Qb a) (hb:Qb b):Qs 2147483647 (Ql4 a b):=by
 have h1:U6 (a.num*(b.den:Int))<=33554432:=Qc (Fl _ _) (by have:=ha.1; have:=hb.2; omega);have h2:U6 (b.num*(a.den:Int))<=33554432:=Qc (Fl _ _) (by have:=hb.1; have:=ha.2; omega);have h3:U6 ((a.den:Int)*(b.den:Int))<=33554432:=Qc (Fl _ _) (by have:=ha.2; have:=hb.2; omega);have h5:U6 (a.num*(b.den:Int)-b.num*(a.den:Int))<=33554433:=Qc (Qql _ _) (by omega);exact (Qs.divInt (s:=33554433) h5 (by omega) (by omega)).mono (by omega)
theorem Qpo {a b:Tm} {r:Tm×Tm×Int} (ha:Tb a) (hb:Tb b) (h:apF (Pe a b) a b=some r):Ut Tryz.prog 111 [.agg (ta a),.agg (ta b)] [.agg (ta r.1),.agg (ta r.2.1),.one (.int .i64 r.2.2)]:=by
 have hsb:=Q5d ha hb;refine Gv Tryz.func111 rfl ?_;refine go tt [.c [] (Zeg ha hb)] rfl trivial ?_;obtain ⟨n,hn⟩:=nmE (Pe a b);rw [<-hn] at h hsb ⊢;refine sb [(10,.v (.one (.int .i64 0))),(9,.v (.one (.int .i64 (n:Int)))),(5,.v (.one (.ow 3 0))),(4,.v (.one (.ow 2 0))),(3,.v (.one (.ow 1 0))),(2,.v (.one (.ow 0 0)))] [.blk 64 (ta a),.blk 64 (ta b),.blk 64 zTm,.blk 64 zTm] rfl rfl ?_;refine lp (S:=Nat×Tm×Tm) 4 (λL1 s=>(10,.v (.one (.int .i64 (s.1:Int))))::L1) (λs=>[.blk 64 (ta s.2.1),.blk 64 (ta s.2.2),.blk 64 zTm,.blk 64 zTm]) (λs=>n-s.1) (λs=>s.1<=n/\Tb s.2.1/\Tb s.2.2/\apF (n-s.1) s.2.1 s.2.2=some r) (0,a,b) ⟨Qh _,ha,hb,h⟩ rfl (λ_ _=>rfl) rfl λ⟨i,u,v⟩ ⟨j1,j2,j3,j4⟩=>?_
 dsimp only at j1 j2 j3 j4 ⊢;by_cases hi:i<n
 ·obtain ⟨k,hk⟩:∃ k,n-i=k+1:=⟨n-i-1,by omega⟩;have hk':n-(i+1)=k:=by omega
  rw [hk] at j4;have c1:=Lo j2.hi.s31 j3.lo.s31;have c2:=Lo j3.hi.s31 j2.lo.s31;have pu:=C6 j2;have pv:=C6 j3;have hlt:decide ((i:Int)<(n:Int))=true:=by simp; omega
  simp only [apF] at j4;refine go tt [.t hlt] rfl trivial ?_;refine ct 3 (S:=Unit) (λ_=>[(10,.v (.one (.int .i64 (i:Int)))),(9,.v (.one (.int .i64 (n:Int)))),(5,.v (.one (.ow 3 0))),(4,.v (.one (.ow 2 0))),(3,.v (.one (.ow 1 0))),(2,.v (.one (.ow 0 0)))]) (λ_=>[.blk 64 (ta u),.blk 64 (ta v),.blk 64 zTm,.blk 64 zTm]) (λ_=>¬C5 u v=true/\¬C5 v u=true) rfl ?_ ?_
  ·have bA:C5 u v=(decide (Gq u.hi v.lo<=0) && !(u.point && v.point && decide (Gq u.hi v.lo=0))):=by
    unfold C5; cases u.point <;> cases v.point <;> simp
   have bB:C5 v u=(decide (Gq v.hi u.lo<=0) && !(u.point && v.point && decide (Gq v.hi u.lo=0))):=by
    unfold C5; cases u.point <;> cases v.point <;> simp
   obtain ⟨a0,A'⟩:∃ b,decide (Gq u.hi v.lo<=0)=b:=⟨_,rfl⟩;obtain ⟨b0,B'⟩:∃ b,decide (Gq v.hi u.lo<=0)=b:=⟨_,rfl⟩;obtain ⟨p0,P'⟩:∃ b,u.point=b:=⟨_,rfl⟩;obtain ⟨q0,Q'⟩:∃ b,v.point=b:=⟨_,rfl⟩;obtain ⟨x0,X'⟩:∃ b,decide (Gq u.hi v.lo=0)=b:=⟨_,rfl⟩;obtain ⟨y0,Y'⟩:∃ b,decide (Gq v.hi u.lo=0)=b:=⟨_,rfl⟩;rw [A',P',Q',X'] at bA;rw [B',P',Q',Y'] at bB;have r1:C5 u v=true->(u,v,-1)=r:=λh=>by rw [if_pos h] at j4; injection j4
   have r2:¬C5 u v=true->C5 v u=true->(u,v,1)=r:=λh h'=>by rw [if_neg h,if_pos h'] at j4; injection j4
   clear j4;cases a0
   ·cases b0
    ·exact go tt [.c [] c1,.g 19 false A',.f rfl,.c [] c2,.g 45 false B',.f rfl] rfl trivial (rc () ⟨by rw [bA]; simp,by rw [bB]; simp⟩ rfl)
    ·cases p0
     ·obtain rfl:=r2 (by rw [bA]; simp) (by rw [bB]; rfl);exact en tt [.c [] c1,.g 19 false A',.f rfl,.c [] c2,.g 45 true B',.c [] pu,.g 48 false P',.g 52 false rfl,.t rfl] rfl rfl trivial
     ·cases q0
      ·obtain rfl:=r2 (by rw [bA]; simp) (by rw [bB]; rfl);exact en tt [.c [] c1,.g 19 false A',.f rfl,.c [] c2,.g 45 true B',.c [] pu,.g 48 true P',.c [] pv,.g 52 false Q',.t rfl] rfl rfl trivial
      ·cases y0
       ·obtain rfl:=r2 (by rw [bA]; simp) (by rw [bB]; rfl);exact en tt [.c [] c1,.g 19 false A',.f rfl,.c [] c2,.g 45 true B',.c [] pu,.g 48 true P',.c [] pv,.g 52 true Q',.c [] c2,.t (by simpa using Y')] rfl rfl trivial
       ·exact go tt [.c [] c1,.g 19 false A',.f rfl,.c [] c2,.g 45 true B',.c [] pu,.g 48 true P',.c [] pv,.g 52 true Q',.c [] c2,.f (by simpa using Y')] rfl trivial (rc () ⟨by rw [bA]; simp,by rw [bB]; simp⟩ rfl)
   ·cases p0
    ·obtain rfl:=r1 (by rw [bA]; rfl);exact en tt [.c [] c1,.g 19 true A',.c [] pu,.g 22 false P',.g 26 false rfl,.t rfl] rfl rfl trivial
    ·cases q0
     ·obtain rfl:=r1 (by rw [bA]; rfl);exact en tt [.c [] c1,.g 19 true A',.c [] pu,.g 22 true P',.c [] pv,.g 26 false Q',.t rfl] rfl rfl trivial
     ·cases x0
      ·obtain rfl:=r1 (by rw [bA]; rfl);exact en tt [.c [] c1,.g 19 true A',.c [] pu,.g 22 true P',.c [] pv,.g 26 true Q',.c [] c1,.t (by simpa using X')] rfl rfl trivial
      ·cases b0
       ·exact go tt [.c [] c1,.g 19 true A',.c [] pu,.g 22 true P',.c [] pv,.g 26 true Q',.c [] c1,.f (by simpa using X'),.c [] c2,.g 45 false B',.f rfl] rfl trivial (rc () ⟨by rw [bA]; simp,by rw [bB]; simp⟩ rfl)
       ·cases y0
        ·obtain rfl:=r2 (by rw [bA]; simp) (by rw [bB]; rfl);exact en tt [.c [] c1,.g 19 true A',.c [] pu,.g 22 true P',.c [] pv,.g 26 true Q',.c [] c1,.f (by simpa using X'),.c [] c2,.g 45 true B',.c [] pu,.g 48 true P',.c [] pv,.g 52 true Q',.c [] c2,.t (by simpa using Y')] rfl rfl trivial
        ·exact go tt [.c [] c1,.g 19 true A',.c [] pu,.g 22 true P',.c [] pv,.g 26 true Q',.c [] c1,.f (by simpa using X'),.c [] c2,.g 45 true B',.c [] pu,.g 48 true P',.c [] pv,.g 52 true Q',.c [] c2,.f (by simpa using Y')] rfl trivial (rc () ⟨by rw [bA]; simp,by rw [bB]; simp⟩ rfl)
  ·rintro _ ⟨n1,n2⟩
   rw [if_neg n1,if_neg n2] at j4;have qr:∀ {x y:Rat},Qb x->Qb y->Qs 2147483647 (Ql4 x y):=λh1 h2=>Zf8 h1 h2
   have cc:=Lo (qr j2.hi j2.lo) (qr j3.hi j3.lo);by_cases D:0<=Gq (Ql4 u.hi u.lo) (Ql4 v.hi v.lo)
   ·rw [if_pos D] at j4;obtain ⟨x,x1,x2⟩:=Qf.1 j4;refine go tt [.c [] (Qpw j2.hi j2.lo),.c [] (Qpw j3.hi j3.lo),.c [] cc,.t (by simpa using D),.c [] (Qwq j2 x1)] rfl (by simp [Ur]; omega) ?_;exact rd (i+1,x,v) (by dsimp only; omega) ⟨hi,Qru j2 x1,j3,by dsimp only; rw [hk']; exact x2⟩ rfl
   ·rw [if_neg D] at j4;obtain ⟨x,x1,x2⟩:=Qf.1 j4;refine go tt [.c [] (Qpw j2.hi j2.lo),.c [] (Qpw j3.hi j3.lo),.c [] cc,.f (by simpa using D),.c [] (Qwq j3 x1)] rfl (by simp [Ur]; omega) ?_;exact rd (i+1,u,x) (by dsimp only; omega) ⟨hi,j2,Qru j3 x1,by dsimp only; rw [hk']; exact x2⟩ rfl
 ·obtain rfl:i=n:=by omega
  rw [Jo] at j4;simp only [apF] at j4;injection j4 with j4; subst j4;exact en tt [.f (by simp)] rfl rfl trivial
end Orr
