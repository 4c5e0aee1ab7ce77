/- R4 RefPL CrvL CrowdL PredL CertL Y1 Y2 Q1 C1 C2 D1 E1 AlgL F1 F2 F3 F4 F5 T1 T2 -/
import Derived.Test.YthgaepodbpcjdaaGreatPart04
import Derived.Test.YthgaepodbpcjdaaGreatPart00
set_option linter.all false
namespace Orr
open Go Go.Proofs Tryz
set_option maxRecDepth 10000
theorem Qqp {a b:Int} (h:(decide (a<0) == decide (b<0))=true):Fb (decide (a<0)) (a.natAbs+b.natAbs)=a+b:=by
 unfold Fb;by_cases h1:a<0 <;> by_cases h2:b<0 <;> simp [h1,h2] at h ⊢ <;> omega
theorem Qqs {a b:Int} (h:¬(decide (a<0) == decide (b<0))=true) (hl:b.natAbs<=a.natAbs):Fb (decide (a<0)) (a.natAbs-b.natAbs)=a+b:=by
 unfold Fb;by_cases h1:a<0 <;> by_cases h2:b<0 <;> simp [h1,h2] at h ⊢ <;> omega
theorem Qkt {a b:Int} (h:¬(decide (a<0) == decide (b<0))=true) (hl:¬b.natAbs<=a.natAbs):Fb (decide (b<0)) (b.natAbs-a.natAbs)=a+b:=by
 unfold Fb;by_cases h1:a<0 <;> by_cases h2:b<0 <;> simp [h1,h2] at h ⊢ <;> omega
theorem VY (a:Int):(∃ m:Nat,a=(m:Int))\/∃ m:Nat,a=-(m:Int)/\0<m:=by
 rcases Kd a 0 with h | h
 ·exact .inr ⟨a.natAbs,by omega,by omega⟩
 ·exact .inl ⟨a.natAbs,by omega⟩
theorem Qqr (a b:Int):Fb (!(decide (a<0) == decide (b<0))) (a.natAbs*b.natAbs)=a*b:=by
 rcases VY a with ⟨m,rfl⟩ | ⟨m,rfl,hm⟩ <;> rcases VY b with ⟨n,rfl⟩ | ⟨n,rfl,hn⟩
 ·simp [Fb,show ¬((m:Int)<0) by omega,show ¬((n:Int)<0) by omega]
 ·simp [Fb,show ¬((m:Int)<0) by omega,show (-(n:Int)<0) by omega,hn,V7]
 ·simp [Fb,show (-(m:Int)<0) by omega,show ¬((n:Int)<0) by omega,hm,Ko]
 ·simp [Fb,show (-(m:Int)<0) by omega,show (-(n:Int)<0) by omega,hm,hn,W8]
theorem Qqq {a b:Int} (h:a % b=0):Fb (!(decide (a<0) == decide (b<0))) (a.natAbs / b.natAbs)=a / b:=by
 by_cases hb:b=0
 ·subst hb; simp [Fb]
 obtain ⟨c,rfl⟩:=Vf h;rw [Jc _ hb,J9,Nat.mul_div_cancel_left _ (by omega)];rcases VY b with ⟨n,rfl⟩ | ⟨n,rfl,hn⟩ <;> rcases VY c with ⟨m,rfl⟩ | ⟨m,rfl,hm⟩
 ·have:¬((n:Int)*(m:Int)<0):=by rw [<-Vi]; omega
  simp [Fb,this,show ¬((n:Int)<0) by omega]
 ·have h1:0<n*m:=J5 (by omega) hm;have:((n:Int)*-(m:Int)<0):=by rw [V7,<-Vi]; omega
  simp only [this,show ¬((n:Int)<0) by omega];simp [Fb]
 ·by_cases h0:m=0
  ·subst h0; simp [Fb]
  ·have h1:0<n*m:=J5 hn (by omega);have:(-(n:Int)*(m:Int)<0):=by rw [Ko,<-Vi]; omega
   simp only [this,show (-(n:Int)<0) by omega];simp [Fb]
 ·have:¬(-(n:Int)*-(m:Int)<0):=by rw [W8,<-Vi]; omega
  simp only [this,show (-(n:Int)<0) by omega];simp [Fb]
theorem eW {x y:Nat}:0<=ZS x y↔y<=x:=by
 unfold ZS;constructor
 ·intro h; split at h
  ·omega
  ·omega
 ·intro h; split
  ·omega
  ·split <;> omega
theorem CS {x e:Nat} (h:(Gi x).length=1) (he:(Gi x)[0]? = some e):x=e:=by
 rcases hd:Gi x with _ | ⟨u,l⟩
 ·rw [hd] at h; cases h
 ·rcases l with _ | ⟨w,l⟩
  ·rw [hd] at he; simp at he;have:=Re x;rw [hd] at this; simp [Ti] at this; omega
  ·rw [hd] at h; simp at h
theorem nX {a b:Int} (hb:0<b):ri (a / ((Int.gcd a b:Nat):Int))++ri (b / ((Int.gcd a b:Nat):Int))=fr (Rat.divInt a b):=by
 obtain ⟨h1,h2⟩:=iY (n:=a) hb;rw [Ld,Int.gcd_comm] at h1 h2;rw [h1,h2]
theorem nJ (a:Int):ri a++ri 1=fr (Rat.divInt a 1):=by
 have h:=nX (a:=a) (b:=1) (by decide);rw [show ((Int.gcd a 1:Nat):Int)=1 by simp] at h;simpa using h
theorem OI {a b:Int} (hb:b≠0) (ha2:Fe a<=90000000) (hb2:Fe b<=90000000):Fe ((Int.gcd a b:Nat):Int)<=90000000/\((Int.gcd a b:Nat):Int)≠0/\a % ((Int.gcd a b:Nat):Int)=0/\b % ((Int.gcd a b:Nat):Int)=0:=by
 have h1:=aN (n:=a) hb hb2;have h2:=fV (n:=a) hb;have h3:=DL a b;have h4:=DI a b;rw [Ld,Int.gcd_comm] at h1 h2 h3 h4;exact ⟨h1,by omega,h3,h4⟩
theorem zV {a b:Int} (h:b<0):Gh a b=Rat.divInt (-a) (-b):=by
 unfold Gh; rw [if_neg (by omega)];exact (Rat.neg_divInt_neg a b).symm
theorem zK {a b:Int} (h:0<b):Gh a b=Rat.divInt a b:=by
 unfold Gh; rw [if_neg (by omega)]
theorem IF (a b:Rat):Gh (a.num*(b.den:Int)+b.num*(a.den:Int)) ((a.den:Int)*(b.den:Int))=a+b:=by
 unfold Gh;rw [if_neg (Jf (Dm a) (Dm b)),<-Rat.divInt_add_divInt _ _ (Dm a) (Dm b),Z5,Z5]
theorem qR (a b:Rat):Gh (a.num*b.num) ((a.den:Int)*(b.den:Int))=a*b:=by
 unfold Gh;rw [if_neg (Jf (Dm a) (Dm b)),<-Rat.divInt_mul_divInt,Z5,Z5]
theorem zY {a b:Rat} (h:b≠0):Gh (a.num*(b.den:Int)) ((a.den:Int)*b.num)=a / b:=by
 have hn:b.num≠0:=λe=>h (Rat.num_eq_zero.1 e)
 unfold Gh;rw [if_neg (Jf (Dm a) hn),<-Rat.divInt_mul_divInt,Z5,J6];congr 1
 conv=>rhs; rw [<-Z5 b,Rat.inv_divInt]
theorem Qv0 {s:Nat} {a b:Rat} (ha:Qs s a) (hb:Qs s b):Qs (2*s+1) (a+b):=by
 rw [<-IF];unfold Gh;rw [if_neg (Jf (Dm a) (Dm b))];refine Qs.divInt (Qa (QD _ _) ?_) (Qa (Ga _ _) (by have:=ha.2; have:=hb.2; omega)) (by omega);have h1:=Ga a.num (b.den:Int);have h2:=Ga b.num (a.den:Int);have:=ha.1; have:=ha.2; have:=hb.1; have:=hb.2;omega
theorem mV {a b:Int} (ha:Fe a<=200000000) (hb:Fe b<=200000000):Uj 90 [.agg (ri a),.agg (ri b)] [.agg (ri (a+b))]:=by
 by_cases hs:(decide (a<0) == decide (b<0))=true
 ·have cm:=Nw (decide (a<0)) (a.natAbs+b.natAbs);rw [Qqp hs] at cm;exact Ug func90 rfl [.t hs,.k (Qtg ha hb),.k cm] rfl
 ·have hs':(decide (a<0) == decide (b<0))=false:=by simpa using hs
  by_cases hl:b.natAbs<=a.natAbs
  ·have cm:=Nw (decide (a<0)) (a.natAbs-b.natAbs);rw [Qqs hs hl] at cm;exact Ug func90 rfl [.f hs',.k (pE ha hb),.t (decide_eq_true (eW.2 hl)),.k (mX ha hb hl),.k cm] rfl
  ·have cm:=Nw (decide (b<0)) (b.natAbs-a.natAbs);rw [Qkt hs hl] at cm;exact Ug func90 rfl [.f hs',.k (pE ha hb),.f (decide_eq_false λh=>hl (eW.1 h)),.k (mX hb ha (by omega)),.k cm] rfl
theorem Qfx {a b:Int} (ha:Fe a<=200000000) (hb:Fe b<=200000000):Uj 158 [.agg (ri a),.agg (ri b)] [.agg (ri (a-b))]:=by
 have ca:=mV (a:=a) (b:=-b) ha (by rw [Hm]; exact hb);rw [show a+-b=a-b from by omega] at ca;exact Ug func158 rfl [.k (QU (z:=b)),.k ca] rfl
theorem Af {a b:Int} (ha:Fe a<=200000000) (hb:Fe b<=200000000):Uj 91 [.agg (ri a),.agg (ri b)] [.agg (ri (a*b))]:=by
 have cm:=Nw (!(decide (a<0) == decide (b<0))) (a.natAbs*b.natAbs);rw [Qqr] at cm;exact Ug func91 rfl [.k (Qtr ha hb),.k cm] rfl
theorem BL {a b:Int} (ha:Fe a<=90000000) (hb:Fe b<=90000000) (h0:b≠0) (hd:a % b=0):Uj 131 [.agg (ri a),.agg (ri b)] [.agg (ri (a / b))]:=by
 have cm:=Nw (!(decide (a<0) == decide (b<0))) (a.natAbs / b.natAbs);rw [Qqq hd] at cm;exact Ug func131 rfl [.k (pO ha hb (by omega)),.k cm] rfl
theorem Qv5 (x:Nat):ri ((x:Nat):Int)=[nd x,.bool false]:=by
 unfold ri sg;rw [Xh,decide_eq_false (by omega)]
theorem xO {a b:Int} (ha:Fe a<=90000000) (hb:Fe b<=90000000):Uj 130 [.agg (ri a),.agg (ri b)] [.agg (ri ((Int.gcd a b:Nat):Int))]:=by
 rw [Qv5];refine Fv func130 rfl ?_;refine Ud [] rfl ?_;refine Ui (S:=Nat×Nat) 3 (λL1 s=>(5,.v (.one (nd s.1)))::(6,.v (.one (nd s.2)))::L1) (λ_=>[.blk 97 (ri a),.blk 97 (ri b),.blk 97 [.nils,.bool false]]) (λs=>s.2) (λs=>Nat.gcd s.1 s.2=Int.gcd a b/\sz s.1<=90000000/\sz s.2<=90000000) (a.natAbs,b.natAbs) ⟨rfl,ha,hb⟩ rfl rfl λs hs=>?_
 obtain ⟨x,y⟩:=s;obtain ⟨hp0,hp1,hp2⟩:=hs;dsimp only at hp0 hp1 hp2 ⊢;have hyn:=MP (x:=y);have hyl:=UC y;by_cases h1:y=0
 ·have e:Int.gcd a b=x:=by rw [<-hp0,h1,Nat.gcd_zero_right]
  rw [e];exact Uf [.f (by simp only [Tx]; exact decide_eq_false (by omega))] rfl
 ·have hlt:=Z4 x (show 0<y by omega);refine Ud [.t (by simp only [Tx]; exact decide_eq_true (by omega)),.k (pO hp1 hp2 (by omega))] rfl ?_;exact rd (y,x % y) (by dsimp only; omega) ⟨by dsimp only; rw [<-hp0,Nat.gcd_comm x y,Nat.gcd_rec y x,Nat.gcd_comm],hp2,Nat.le_trans (Rh (by dsimp only; omega)) hp2⟩ rfl
theorem YF {a b:Int} (ha:Fe a<=90000000) (hb:Fe b<=90000000):Uj 80 [.agg (ri a),.agg (ri b)] [.agg (fr (Gh a b))]:=by
 rcases Km b 0 with hs | hs | hs
 ·skip
  by_cases h1:-b=1
  ·have h0:(By (Gi (-b).natAbs))[0]? = some [LV.int .i64 1]:=by rw [h1,show (1:Int).natAbs=1 from rfl,Ih]; rfl
   have hl1:decide (((By (Gi (-b).natAbs)).length:Int)=1)=true:=by rw [h1,show (1:Int).natAbs=1 from rfl,Ih]; rfl
   have e:fr (Gh a b)=ri (-a)++ri (-b):=by rw [zV hs,h1]; exact (nJ _).symm
   rw [e];exact Ug func80 rfl [.k (Dw (z:=b)),.F,.t (decide_eq_true hs),.k (QU (z:=a)),.k (QU (z:=b)),.g 19 true hl1,.x h0,.t rfl] rfl
  ·have hgf:=OI (a:=-a) (b:=-b) (by omega) (by first | exact ha | (rw [Hm]; exact ha)) (by first | exact hb | (rw [Hm]; exact hb));have cg:=xO (a:=-a) (b:=-b) (by first | exact ha | (rw [Hm]; exact ha)) (by first | exact hb | (rw [Hm]; exact hb));have q1:=BL (a:=-a) (b:=((Int.gcd (-a) (-b):Nat):Int)) (by first | exact ha | (rw [Hm]; exact ha)) hgf.1 hgf.2.1 hgf.2.2.1;have q2:=BL (a:=-b) (b:=((Int.gcd (-a) (-b):Nat):Int)) (by first | exact hb | (rw [Hm]; exact hb)) hgf.1 hgf.2.1 hgf.2.2.2;have e:fr (Gh a b)=ri ((-a) / ((Int.gcd (-a) (-b):Nat):Int))++ri ((-b) / ((Int.gcd (-a) (-b):Nat):Int)):=by rw [zV hs]; exact (nX (by omega)).symm
   rw [e];have hl:=UC (-b).natAbs;by_cases hl1:(Gi (-b).natAbs).length=1
   ·obtain ⟨u,hu⟩:=gxE (l:=(Gi (-b).natAbs)) (i:=0) (by omega);have hue:=CS hl1 hu;exact Ug func80 rfl [.k (Dw (z:=b)),.F,.t (decide_eq_true hs),.k (QU (z:=a)),.k (QU (z:=b)),.g 19 true (by simp only [Tx]; exact decide_eq_true (by omega)),.x (Gy hu),.F,.k cg,.k q1,.k q2] rfl
   ·exact Ug func80 rfl [.k (Dw (z:=b)),.F,.t (decide_eq_true hs),.k (QU (z:=a)),.k (QU (z:=b)),.g 19 false (by simp only [Tx]; exact decide_eq_false (by omega)),.f rfl,.k cg,.k q1,.k q2] rfl
 ·subst hs;have h0:(By (Gi (1:Int).natAbs))[0]? = some [LV.int .i64 1]:=by rw [show (1:Int).natAbs=1 from rfl,Ih]; rfl
  have h1:decide (((By (Gi (1:Int).natAbs)).length:Int)=1)=true:=by rw [show (1:Int).natAbs=1 from rfl,Ih]; rfl
  have e:fr (Gh a 0)=ri a++ri 1:=(nJ a).symm;rw [e];exact Ug func80 rfl [.k (Dw (z:=0)),.t rfl,.k (XQ (n:=1) (by decide)),.f rfl,.g 19 true h1,.x h0,.t rfl] rfl
 ·skip
  by_cases h1:b=1
  ·have h0:(By (Gi (b).natAbs))[0]? = some [LV.int .i64 1]:=by rw [h1,show (1:Int).natAbs=1 from rfl,Ih]; rfl
   have hl1:decide (((By (Gi (b).natAbs)).length:Int)=1)=true:=by rw [h1,show (1:Int).natAbs=1 from rfl,Ih]; rfl
   have e:fr (Gh a b)=ri (a)++ri (b):=by rw [zK hs,h1]; exact (nJ _).symm
   rw [e];exact Ug func80 rfl [.k (Dw (z:=b)),.F,.F,.g 19 true hl1,.x h0,.t rfl] rfl
  ·have hgf:=OI (a:=a) (b:=b) (by omega) (by first | exact ha | (rw [Hm]; exact ha)) (by first | exact hb | (rw [Hm]; exact hb));have cg:=xO (a:=a) (b:=b) (by first | exact ha | (rw [Hm]; exact ha)) (by first | exact hb | (rw [Hm]; exact hb));have q1:=BL (a:=a) (b:=((Int.gcd (a) (b):Nat):Int)) (by first | exact ha | (rw [Hm]; exact ha)) hgf.1 hgf.2.1 hgf.2.2.1;have q2:=BL (a:=b) (b:=((Int.gcd (a) (b):Nat):Int)) (by first | exact hb | (rw [Hm]; exact hb)) hgf.1 hgf.2.1 hgf.2.2.2;have e:fr (Gh a b)=ri ((a) / ((Int.gcd (a) (b):Nat):Int))++ri ((b) / ((Int.gcd (a) (b):Nat):Int)):=by rw [zK hs]; exact (nX (by omega)).symm
   rw [e];have hl:=UC (b).natAbs;by_cases hl1:(Gi (b).natAbs).length=1
   ·obtain ⟨u,hu⟩:=gxE (l:=(Gi (b).natAbs)) (i:=0) (by omega);have hue:=CS hl1 hu;exact Ug func80 rfl [.k (Dw (z:=b)),.F,.F,.g 19 true (by simp only [Tx]; exact decide_eq_true (by omega)),.x (Gy hu),.F,.k cg,.k q1,.k q2] rfl
   ·exact Ug func80 rfl [.k (Dw (z:=b)),.F,.F,.g 19 false (by simp only [Tx]; exact decide_eq_false (by omega)),.f rfl,.k cg,.k q1,.k q2] rfl
theorem Qxu {n d:Int} (hn:-1000000000<=n/\n<=1000000000) (hd:-1000000000<=d/\d<=1000000000):Uj 33 [.oi n,.oi d] [.agg (fr (Gh n d))]:=by
 have b1:Fe n<=90000000:=Qa (Sw.2 (show n.natAbs<2^40 by omega)) (by decide);have b2:Fe d<=90000000:=Qa (Sw.2 (show d.natAbs<2^40 by omega)) (by decide);exact Ug func33 rfl [.k (XQ (by omega)),.k (XQ (by omega)),.k (YF b1 b2)] rfl
theorem Qtt {a:Rat}:Uj 195 [.agg (fr a)] [.agg (fr (-a))]:=by
 have e:fr (-a)=ri (-a.num)++ri (a.den:Int):=rfl;rw [e];exact Ug func195 rfl [.k (QU (z:=a.num))] rfl
theorem pD {a b:Rat} (ha:Qs 20000000 a) (hb:Qs 20000000 b):Uj 47 [.agg (fr a),.agg (fr b)] [.agg (fr (a+b))]:=by
 have k1:=Ga a.num (b.den:Int);have k2:=Ga b.num (a.den:Int);have k3:=Ga (a.den:Int) (b.den:Int);have k4:=QD (a.num*(b.den:Int)) (b.num*(a.den:Int));have h1:=ha.1; have h2:=ha.2; have h3:=hb.1; have h4:=hb.2;have cm:=YF (a:=a.num*(b.den:Int)+b.num*(a.den:Int)) (b:=(a.den:Int)*(b.den:Int)) (by omega) (by omega);rw [IF] at cm;exact Ug func47 rfl [.k (Af (a:=a.num) (b:=(b.den:Int)) (by omega) (by omega)),.k (Af (a:=b.num) (b:=(a.den:Int)) (by omega) (by omega)),.k (mV (by omega) (by omega)),.k (Af (a:=(a.den:Int)) (b:=(b.den:Int)) (by omega) (by omega)),.k cm] rfl
theorem Qex {a b:Rat} (ha:Qs 40000000 a) (hb:Qs 40000000 b):Uj 262 [.agg (fr a),.agg (fr b)] [.agg (fr (a*b))]:=by
 have k1:=Ga a.num b.num;have k3:=Ga (a.den:Int) (b.den:Int);have h1:=ha.1; have h2:=ha.2; have h3:=hb.1; have h4:=hb.2;have cm:=YF (a:=a.num*b.num) (b:=(a.den:Int)*(b.den:Int)) (by omega) (by omega);rw [qR] at cm;exact Ug func262 rfl [.k (Af (a:=a.num) (b:=b.num) (by omega) (by omega)),.k (Af (a:=(a.den:Int)) (b:=(b.den:Int)) (by omega) (by omega)),.k cm] rfl
theorem mQ {a b:Rat} (ha:Qs 40000000 a) (hb:Qs 40000000 b) (h0:b≠0):Uj 283 [.agg (fr a),.agg (fr b)] [.agg (fr (a / b))]:=by
 have k1:=Ga a.num (b.den:Int);have k3:=Ga (a.den:Int) b.num;have h1:=ha.1; have h2:=ha.2; have h3:=hb.1; have h4:=hb.2;have cm:=YF (a:=a.num*(b.den:Int)) (b:=(a.den:Int)*b.num) (by omega) (by omega);rw [zY h0] at cm;exact Ug func283 rfl [.k (Af (a:=a.num) (b:=(b.den:Int)) (by omega) (by omega)),.k (Af (a:=(a.den:Int)) (b:=b.num) (by omega) (by omega)),.k cm] rfl
end Orr
namespace Orr
def Df:Up->Up
 | []=>[]
 |
  x::l=>match Df l with
  | []=>if x=0 then [] else [x]
  | y::k=>x::y::k
theorem JD:∀ {l:Up},(∀ x∈l,x=0)->Df l=[]
 | [],_=>rfl
 |
  x::l,h=>by
  have ih:=JD (l:=l) (λy hy=>h y (Qg _ hy));simp [Df,ih,h x (Qy ..)]
theorem EC:∀ {l:Up} {m:Nat} {y:Rat},(∀ j x,m<j->l[j]? = some x->x=0)->l[m]? = some y->y≠0->Df l=l.take (m+1)
 | [],m,y,_,h,_=>by simp at h
 |
  x::l,0,y,h1,h2,h3=>by
  have h0:Df l=[]:=JD λz hz=>by
   obtain ⟨j,hj⟩:=Zk.1 hz;exact h1 (j+1) z (by omega) (by simpa using hj)
  simp at h2;subst h2;simp [Df,h0,h3]
 |
  x::l,m+1,y,h1,h2,h3=>by
  have ih:=EC (l:=l) (m:=m) (y:=y) (λj z hj hz=>h1 (j+1) z (by omega) (by simpa using hz)) (by simpa using h2) h3;cases hl:l with
  | nil=>subst hl; simp at h2
  |
   cons u k =>
   subst hl;rw [Ve] at ih;simp only [Df] at ih ⊢;rw [ih];simp
theorem zP {l:Up} {m:Nat} (hm:m<=l.length) (h1:∀ j x,m<=j->l[j]? = some x->x=0) (h2:0<m->∃ y,l[m-1]? = some y/\y≠0):Df l=l.take m:=by
 rcases Q3 m with h0 | h0
 ·subst h0;rw [JD λz hz=>?_]; rfl;obtain ⟨j,hj⟩:=Zk.1 hz;exact h1 j z (by omega) hj
 ·obtain ⟨y,hy,hy0⟩:=h2 h0;have:=EC (l:=l) (m:=m-1) (y:=y) (λj x hj hx=>h1 j x (by omega) hx) hy hy0;rwa [show m-1+1=m from by omega] at this
theorem zN:∀ (l:Up),∀ z∈Df l,z∈l
 | [],z,h=>h
 |
  x::l,z,h=>by
  simp only [Df] at h;have ih:=zN l
  split at h
  ·split at h
   ·cases h
   ·simp at h; simp [h]
  ·rename_i y k e;rw [e] at ih;rcases Qm.1 h with h | h
   ·simp [h]
   ·exact Qg _ (ih z h)
theorem zM:∀ (l:Up),(Df l).length<=l.length
 | []=>Ql _
 |
  x::l=>by
  have ih:=zM l;simp only [Df]
  split
  ·split <;> simp
  ·rename_i y k e;rw [e] at ih;simp at ih ⊢; omega
def zp (p:Um):Up:=p.map λ(z:Int)=>(z:Rat)
theorem Ez:∀ (p:Um),Df (zp p)=zp (trim p)
 | []=>rfl
 |
  x::l=>by
  have ih:=Ez l;unfold zp at ih ⊢;simp only [Z0,Df,trim,ih];cases h:trim l with
  |
   nil =>
   simp only [X7];by_cases hx:x=0
   ·subst hx; simp
   ·have:(x:Rat)≠0:=λe=>hx (by exact_mod_cast e)
    simp [hx,this]
  | cons y k=>simp
theorem A5 (p:Um):(zp p).length=p.length:=Q9 _
theorem Qw6 {p:Um} {i:Nat} {z:Int} (h:p[i]? = some z):(zp p)[i]? = some (z:Rat):=by simp [zp,h]
theorem NN (p:Um) (i:Nat):(zp p).getD i 0=((p.getD i 0:Int):Rat):=by
 simp only [Qi,zp,Q8];cases p[i]? <;> rfl
def Rb (s:Nat) (p:Up):Prop:=∀ q∈p,Qs s q
theorem Rb.mono {s t:Nat} {p:Up} (h:Rb s p) (ht:s<=t):Rb t p:=λq hq=>(h q hq).mono ht
theorem Rb.get {s:Nat} {p:Up} (h:Rb s p) {i:Nat} {q:Rat} (hq:p[i]? = some q):Qs s q:=h q (Qc hq)
theorem Aw {s:Nat} {z:Int} (h:Fe z<=s) (h1:1<=s):Qs s (z:Rat):=⟨by simpa using h,Qa (show Fe ((1:Nat):Int)<=1 by decide) h1⟩
theorem zW {s:Nat} {p:Um} (h:Bd s p) (h1:1<=s):Rb s (zp p):=λq hq=>by
 obtain ⟨z,hz,rfl⟩:=Za.1 hq;exact Aw (h z hz) h1
theorem Qp7 {s:Nat} (h1:1<=s):Qs s 0:=Aw (z:=0) (by simp [Nf]) h1
theorem Rb.getD {s:Nat} {p:Up} (h:Rb s p) (h1:1<=s) (i:Nat):Qs s (p.getD i 0):=by
 rw [Qi];cases e:p[i]? with
 | none=>exact Qp7 h1
 | some q=>exact h.get e
theorem Rb.trim {s:Nat} {p:Up} (h:Rb s p):Rb s (Df p):=λq hq=>h q (zN p q hq)
def VD (f:Nat->Rat) (n:Nat):Up:=(List.range n).map f
theorem AZ (f:Nat->Rat) (n:Nat):(VD f n).length=n:=by simp [VD]
theorem zA (f:Nat->Rat) (n:Nat):VD f (n+1)=VD f n++[f n]:=by simp [VD,Wb]
theorem Qq1 {s n:Nat} {f:Nat->Rat} (h:∀ i,i<n->Qs s (f i)):Rb s (VD f n):=λq hq=>by
 obtain ⟨i,hi,rfl⟩:=Za.1 hq;exact h i (Kj.1 hi)
theorem vP {f:Nat->Rat} {g:Nat->Int} (n:Nat) (h:∀ i,i<n->f i=(g i:Rat)):VD f n=zp ((List.range n).map g):=by
 simp only [VD,zp,List.map_map];exact Xq λi hi=>h i (Kj.1 hi)
def Qc8 (p q:Up):Up:=Df (VD (λi=>p.getD i 0+q.getD i 0) (max p.length q.length))
def ZZ (p:Up) (c:Rat):Up:=Df (VD (λi=>p.getD i 0*c) p.length)
def vU (p:Up):Up:=ZZ p (-1)
def Qss (p q:Up):Up:=Qc8 p (vU q)
theorem Qp9 (p q:Um):Qc8 (zp p) (zp q)=zp (A7 p q):=by
 unfold Qc8 A7 A6;rw [vP (g:=λk=>p.getD k 0+q.getD k 0) _ λi _=>by rw [NN,NN,Kc],Ez,A5,A5]
theorem zH (p:Um) (c:Int):ZZ (zp p) (c:Rat)=zp (Fw p c):=by
 unfold ZZ Fw A6;rw [vP (g:=λk=>p.getD k 0*c) _ λi _=>by rw [NN,X1],Ez,A5]
theorem bE (p:Um):Fw p (-1)=Ms p:=by
 unfold Fw Ms A6;congr 2;funext k;omega
theorem oI (p:Um):vU (zp p)=zp (Ms p):=by
 rw [<-bE,<-zH]; rfl
theorem uE {p q:Um} (hp:Ff p) (hq:Ff q) (h:∀ k,p.getD k 0=q.getD k 0):p=q:=by
 have key:∀ {p q:Um},Ff q->(∀ k,p.getD k 0=q.getD k 0)->q.length<=p.length:=by
  intro p q hq h;rcases Zb p.length q.length with h1 | h1
  ·have h2:=H8 hq (by omega);rw [<-h,Qi,Qw (by omega)] at h2;exact (h2 rfl).elim
  ·exact h1
 exact DY (Kb (key hp λk=>(h k).symm) (key hq h)) λj _=>h j
theorem mA {n m:Nat} {f g:Nat->Int} (hn:n<=m) (h:∀ k,k<n->f k=g k) (h0:∀ k,n<=k->k<m->g k=0):A6 n f=A6 m g:=by
 refine uE (Fy _ _) (Fy _ _) λk=>?_
 rw [Pa,Pa];by_cases h1:k<n
 ·rw [if_pos h1,if_pos (by omega),h k h1]
 ·rw [if_neg h1];by_cases h2:k<m
  ·rw [if_pos h2,h0 k (by omega) h2]
  ·rw [if_neg h2]
theorem Qqh (p q:Um):Qss (zp p) (zp q)=zp (M7 p q):=by
 unfold Qss;rw [oI,Qp9];congr 1;have hl:=XA q;unfold A7 M7;refine mA (by omega) (λk _=>?_) λk h1 h2=>?_
 ·unfold Ms;rw [Pa]
  split
  ·omega
  ·rename_i h;have:q.getD k 0=0:=by rw [Qi,Qw (by omega)]; rfl
   omega
 ·have h3:p.getD k 0=0:=by rw [Qi,Qw (by omega)]; rfl
  have h4:(Ms q).getD k 0=0:=by rw [Qi,Qw (by omega)]; rfl
  unfold Ms at h4;rw [Pa] at h4
  split at h4
  ·omega
  ·have:q.getD k 0=0:=by rw [Qi,Qw (by omega)]; rfl
   omega
structure Crv where
 x:List Int
 y:List Int
 d:Int
abbrev cl (k:Crv):Ur:=[pl k.x,pl k.y,sg k.d,mg k.d]
def Crv.d' (k:Crv):Int:=if k.d=0 then 1 else k.d
def Crv.g (k:Crv):Int:=if k.d'<0 then -((Rz (k.d'::(trim k.x++trim k.y)):Nat):Int) else (Rz (k.d'::(trim k.x++trim k.y)):Nat)
def Crv.norm (k:Crv):Crv:=⟨trim ((trim k.x).map (· / k.g)),trim ((trim k.y).map (· / k.g)),k.d' / k.g⟩
theorem XR {l:Um}:∀ z∈l,((Rz l:Nat):Int)∣z:=by
 have key:∀ (l:Um) (g:Nat),(l.foldl (λg z=>Nat.gcd g z.natAbs) g∣g)/\∀ z∈l,l.foldl (λg z=>Nat.gcd g z.natAbs) g∣z.natAbs:=by
  intro l
  induction l with
  | nil=>intro g; exact ⟨Nat.dvd_refl _,by simp⟩
  |
   cons u l ih =>
   intro g;obtain ⟨h1,h2⟩:=ih (Nat.gcd g u.natAbs);refine ⟨Nat.dvd_trans h1 (W0 _ _),λz hz=>?_⟩;rcases Qm.1 hz with rfl | hz
   ·exact Nat.dvd_trans h1 (Nat.gcd_dvd_right _ _)
   ·exact h2 z hz
 intro z hz;have:=(key l 0).2 z hz;exact Wp.2 this
theorem Crv.d'_ne (k:Crv):k.d'≠0:=by unfold Crv.d'; split <;> omega
theorem Crv.gcd_ne (k:Crv):Rz (k.d'::(trim k.x++trim k.y))≠0:=by
 intro e;have h:=XR (l:=k.d'::(trim k.x++trim k.y)) k.d' (Qy ..);rw [e] at h;exact k.d'_ne (by simpa using h)
theorem Crv.g_ne (k:Crv):k.g≠0:=by
 have h0:=k.gcd_ne;unfold Crv.g
 split <;> omega
theorem Crv.g_dvd (k:Crv):∀ z∈k.d'::(trim k.x++trim k.y),z % k.g=0:=by
 intro z hz;have h:=XR z hz;refine Jx ?_;unfold Crv.g
 split
 ·exact Uc.2 h
 ·exact h
theorem Crv.isz_g (k:Crv) {s:Nat} (h:Fe k.d'<=s):Fe k.g<=s:=by
 have hd:=XR (l:=k.d'::(trim k.x++trim k.y)) k.d' (Qy ..);have hle:Rz (k.d'::(trim k.x++trim k.y))<=k.d'.natAbs:=Kv (by have:=k.d'_ne; omega) (Wp.1 hd);refine Qa (Rh ?_) h;unfold Crv.g
 split <;> simp <;> exact hle
structure Cs (s n:Nat) (k:Crv):Prop where
 x:Bd s k.x
 y:Bd s k.y
 d:Fe k.d<=s
 lx:k.x.length<=n
 ly:k.y.length<=n
theorem Qij {k:Crv} {s:Nat} (h:Fe k.d<=s) (h1:1<=s):Fe k.d'<=s:=by unfold Crv.d'; split <;> first | exact h1 | exact h
theorem HF {s:Nat} {p:Um} (h:Bd s p) (g:Int):Bd s (p.map (· / g)):=λz hz=>by
 obtain ⟨u,hu,rfl⟩:=Za.1 hz;exact Qa (XC u g) (h u hu)
theorem Cs.norm {s n:Nat} {k:Crv} (h:Cs s n k) (h1:1<=s):Cs s n k.norm:=by
 refine ⟨Tw (HF (Tw h.x) _),Tw (HF (Tw h.y) _),Qa (XC _ _) (Qij h.d h1),?_,?_⟩
 ·refine Qa (H7 _) ?_; rw [Q9]; exact Qa (H7 _) h.lx
 ·refine Qa (H7 _) ?_; rw [Q9]; exact Qa (H7 _) h.ly
theorem Cs.mono {s n t m:Nat} {k:Crv} (h:Cs s n k) (hs:s<=t) (hn:n<=m):Cs t m k:=⟨U5 h.x hs,U5 h.y hs,Qa h.d hs,Qa h.lx hn,Qa h.ly hn⟩
def ZA (k:Crv):Prop:=Ff k.x/\Ff k.y/\0<k.d/\Rz (k.d::(k.x++k.y))=1
theorem Crv.norm_of {k:Crv} (h:ZA k):k.norm=k:=by
 obtain ⟨h1,h2,h3,h4⟩:=h;have hd:k.d'=k.d:=by unfold Crv.d'; rw [if_neg (by omega)]
 have hx:trim k.x=k.x:=h1;have hy:trim k.y=k.y:=h2;have hg:k.g=1:=by unfold Crv.g; rw [hd,hx,hy,h4,if_neg (by omega)]; rfl
 unfold Crv.norm;rw [hg,hd,hx,hy];simp [hx,hy]
theorem jN {l:Um} {g:Int} (hg:g≠0) (hga:g.natAbs=Rz l):Rz (l.map (· / g))=1:=by
 have key:∀ (l:Um) (a:Nat),(∀ z∈l,g∣z)->l.foldl (λa z=>Nat.gcd a z.natAbs) (a*g.natAbs)=((l.map (· / g)).foldl (λa z=>Nat.gcd a z.natAbs) a)*g.natAbs:=by
  intro l
  induction l with
  | nil=>intro a _; rfl
  |
   cons z l ih =>
   intro a h;simp only [Z0,Z9];have hz:z.natAbs=(z / g).natAbs*g.natAbs:=by
    obtain ⟨q,rfl⟩:=h z (Qy ..);rw [Jc _ hg,J9,Zq]
   rw [hz,Nat.gcd_mul_right];exact ih _ λu hu=>h u (Qg _ hu)
 have h:=key l 0 λz hz=>X3.1 (by rw [hga]; exact X3.2 (XR z hz))
 rw [Yl] at h;have h':Rz l=Rz (l.map (· / g))*g.natAbs:=h;rw [<-hga] at h';have hp:0<g.natAbs:=by omega
 exact Nat.eq_of_mul_eq_mul_right hp (by rw [Wn]; exact h'.symm)
theorem JI {l:Um} {g:Int} (ht:Ff l) (hg:g≠0) (hd:∀ z∈l,g∣z):Ff (l.map (· / g)):=by
 induction l with
 | nil=>rfl
 |
  cons x l ih =>
  have hne:∀ z∈x::l,z≠0->z / g≠0:=λz hz h0 h1=>by
   obtain ⟨q,rfl⟩:=hd z hz;rw [Jc _ hg] at h1;rw [h1] at h0; simp at h0
  unfold Ff at ht ih ⊢;cases hl:trim l with
  |
   nil =>
   simp only [trim,hl] at ht
   split at ht
   ·cases ht
   ·rename_i hx;injection ht with _ h2;subst h2;simp [trim,hne x (Qy ..) hx]
  |
   cons y k =>
   simp only [trim,hl] at ht;injection ht with _ h2;have hll:trim l=l:=by rw [hl]; exact h2
   have ih:=ih hll λz hz=>hd z (Qg _ hz)
   rw [Z0];have hne2:l.map (· / g)≠[]:=by rw [<-hll,hl]; simp
   cases hm:l.map (· / g) with
   | nil=>exact absurd hm hne2
   |
    cons u w =>
    rw [hm] at ih;have e:trim (x / g::u::w)=match trim (u::w) with | []=>if x / g=0 then [] else [x / g] | y::k=>x / g::y::k:=rfl
    rw [e,ih]
theorem Crv.nml (k:Crv):ZA k.norm:=by
 have hg:=k.g_ne;have hdv:∀ z∈k.d'::(trim k.x++trim k.y),k.g∣z:=λz hz=>Vf (k.g_dvd z hz)
 have hx:=JI (g:=k.g) (Rq k.x) hg λz hz=>hdv z (by simp [hz])
 have hy:=JI (g:=k.g) (Rq k.y) hg λz hz=>hdv z (by simp [hz])
 refine ⟨Rq _,Rq _,?_,?_⟩
 ·show 0<k.d' / k.g;obtain ⟨q,hq⟩:=hdv k.d' (Qy ..);have h0:=k.d'_ne;have hgc:=k.gcd_ne;have e:k.d' / k.g=q:=by rw [hq,Jc _ hg]
  rw [e];unfold Crv.g at hq hg;have hq0:q≠0:=λe=>by rw [e,Wa] at hq; exact h0 hq
  split at hq
  ·rename_i hneg;rcases Wo hq0 with h | h
   ·have:=V9 (a:=-((Rz (k.d'::(trim k.x++trim k.y)):Nat):Int)) (b:=q) (by omega) h;omega
   ·exact h
  ·rename_i hneg;rcases Wo hq0 with h | h
   ·have:=V8 (a:=((Rz (k.d'::(trim k.x++trim k.y)):Nat):Int)) (b:=q) (by omega) h;omega
   ·exact h
 ·show Rz (k.d' / k.g::(trim ((trim k.x).map (· / k.g))++trim ((trim k.y).map (· / k.g))))=1;rw [show trim ((trim k.x).map (· / k.g))=(trim k.x).map (· / k.g) from hx,show trim ((trim k.y).map (· / k.g))=(trim k.y).map (· / k.g) from hy,<-Yh,<-Z0 (f:=(· / k.g))];refine jN hg ?_;unfold Crv.g
  split <;> omega
structure Pt where
 c:Crv
 id:Int
def Fc (p:Pt):Ur:=[pl p.c.x,pl p.c.y,sg p.c.d,mg p.c.d,.int .i64 p.id]
def pts (l:List Pt):LV:=.row (l.map Fc)
def Rw:List Pt->Int->Nat
 | [],_=>0
 | p::l,id=>if p.id<id then Rw l id+1 else 0
def has (l:List Pt) (id:Int):Bool:=match l[Rw l id]? with
 | some p=>decide (p.id=id)
 | none=>false
theorem yO (l:List Pt) (id:Int):Rw l id<=l.length:=by
 induction l with
 | nil=>exact Ql _
 | cons p l ih=>simp only [Rw]; split <;> simp <;> omega
theorem EU:∀ {l:List Pt} {id:Int} {k:Nat},(∀ j p,j<k->l[j]? = some p->p.id<id)->(k=l.length\/∃ p,l[k]? = some p/\¬p.id<id)->Rw l id=k
 |
  [],id,k,_,h=>by
  rcases h with h | ⟨p,h,_⟩
  ·subst h; rfl
  ·simp at h
 |
  q::l,id,0,_,h=>by
  rcases h with h | ⟨p,h,h2⟩
  ·simp at h
  ·simp at h; subst h; simp [Rw,h2]
 |
  q::l,id,k+1,h1,h=>by
  have hq:=h1 0 q (by omega) rfl;simp only [Rw,hq,if_true];rw [EU (k:=k) (λj p hj hp=>h1 (j+1) p (by omega) (by simpa using hp))];rcases h with h | ⟨p,h,h2⟩
  ·left; simpa using h
  ·right; exact ⟨p,by simpa using h,h2⟩
def put (l:List Pt) (q:Pt):List Pt:=l.take (Rw l q.id)++q::l.drop (Rw l q.id)
def WR (l:List Pt) (q:Pt):Int:=if has l q.id=true then 6 else if 6<=l.length then 9 else 0
def Qav (s n:Nat) (p:Pt):Prop:=ZA p.c/\Cs s n p.c
theorem oP (l:List Pt) (q:Pt):(put l q).length=l.length+1:=by
 have:=yO l q.id;simp [put]; omega
theorem NY {l:List Pt} {q p:Pt} (h:p∈put l q):p=q\/p∈l:=by
 unfold put at h;rcases Qr.1 h with h | h
 ·exact .inr (Qo h)
 ·rcases Qm.1 h with h | h
  ·exact .inl h
  ·exact .inr (Qz h)
def Ef (a b:Crv):Bool:=decide (a.x=b.x/\a.y=b.y/\a.d=b.d)
def Ca (out:List Pt) (p:Pt):List Pt:=if out.any (λq=>Ef p.c q.c)=true then out else out++[p]
def To (l:List Pt):List Pt:=l.foldl Ca []
theorem Qdr {out:List Pt} {p q:Pt} (h:q∈Ca out p):q∈out\/q=p:=by
 unfold Ca at h
 split at h
 ·exact .inl h
 ·rcases Qr.1 h with h | h
  ·exact .inl h
  ·exact .inr (by simpa using h)
theorem Qdq (out:List Pt) (p:Pt):(Ca out p).length<=out.length+1:=by
 unfold Ca; split <;> simp
theorem Sf {α β:Type} (f:β->α->β) (b:β) (l:List α) {i:Nat} {x:α} (h:l[i]? = some x):(l.take (i+1)).foldl f b=f ((l.take i).foldl f b) x:=by
 rw [Y7,h]; simp [Vq]
theorem KF (l:List Pt) (i:Nat):∀ q∈(l.take i).foldl Ca [],q∈l:=by
 induction i with
 | zero=>simp
 |
  succ i ih =>
  intro q hq;cases hi:l[i]? with
  |
   none =>
   rw [Qn (by have:=Jo.1 hi; omega)] at hq;rw [Qn (Jo.1 hi)] at ih;exact ih q hq
  |
   some x =>
   rw [Sf _ _ _ hi] at hq;rcases Qdr hq with h | h
   ·exact ih q h
   ·subst h; exact Qc hi
theorem KU (l:List Pt) (i:Nat):((l.take i).foldl Ca []).length<=i:=by
 induction i with
 | zero=>simp
 |
  succ i ih =>
  cases hi:l[i]? with
  |
   none =>
   rw [Qn (by have:=Jo.1 hi; omega)];rw [Qn (Jo.1 hi)] at ih;omega
  |
   some x =>
   rw [Sf _ _ _ hi];have:=Qdq ((l.take i).foldl Ca []) x;omega
theorem Nt {l:List Pt} {q:Pt} (h:q∈To l):q∈l:=by
 have:=KF l l.length q;rw [Q6] at this;exact this h
theorem QZ (l:List Pt):(To l).length<=l.length:=by
 have:=KU l l.length;rwa [Q6] at this
def Ra (p:Um) (q:Rat):Int:=Lb (Qvy p q.num q.den) 0
abbrev qa (q:Rat):Ur:=pl [-q.num,(q.den:Int)]::(rl q++rl q)
def Tu (sgn:Um->Int):Nat->Um->Int
 | 0,_=>0
 | k+1,p=>if p.length=0 then 0 else if sgn p=0 then Tu sgn k (Gx p) else sgn p
theorem XP (sgn:Um->Int):∀ (k:Nat) (p:Um),p.length<=k->Tu sgn k p=Tu sgn p.length p
 |
  0,p,h=>by
  have:p.length=0:=by omega
  rw [this]
 |
  k+1,p,h=>by
  cases hp:p.length with
  | zero=>simp [Tu,hp]
  |
   succ m =>
   simp only [Tu];have h1:=Ng p;rw [XP sgn k (Gx p) (by omega),XP sgn m (Gx p) (by omega)]
theorem fF (sgn:Um->Int) {p:Um} (h:p.length=0):Tu sgn p.length p=0:=by rw [h]; rfl
theorem fW (sgn:Um->Int) {p:Um} (h:0<p.length) (hs:sgn p≠0):Tu sgn p.length p=sgn p:=by
 obtain ⟨m,hm⟩:∃ m,p.length=m+1:=⟨p.length-1,by omega⟩;rw [hm]; simp only [Tu]; rw [if_neg (by omega),if_neg hs]
theorem fU (sgn:Um->Int) {p:Um} (h:0<p.length) (hs:sgn p=0):Tu sgn p.length p=Tu sgn (Gx p).length (Gx p):=by
 obtain ⟨m,hm⟩:∃ m,p.length=m+1:=⟨p.length-1,by omega⟩;rw [hm]; simp only [Tu]; rw [if_neg (by omega),if_pos hs];exact XP sgn m _ (by have:=Ng p; omega)
structure Tm where
 p:List Int
 lo:Rat
 hi:Rat
abbrev ta (t:Tm):Ur:=pl t.p::(rl t.lo++rl t.hi)
abbrev tq (q:Rat):Tm:=⟨[-q.num,(q.den:Int)],q,q⟩
def Hj (sg:Um->Int) (p:Um):Int:=Tu sg p.length p
structure Pb (p:List Int):Prop where
 t:Ff p
 l:p.length<=64
 b:Bd 16777216 p
abbrev Qb (q:Rat):Prop:=Qs 16777216 q
abbrev Cb (k:Crv):Prop:=Cs 1048576 16 k
def Gm (a b:Crv):Um:=M7 (Fw b.x a.d) (Fw a.x b.d)
def Gl (a b:Crv):Um:=M7 (Fw b.y a.d) (Fw a.y b.d)
theorem rK {a b:Crv} (ha:Cb a) (hb:Cb b):Pb (Gm a b)/\(Gm a b).length<=16/\Bd 2097153 (Gm a b):=by
 have h1:Bd 2097153 (Gm a b):=U5 (Du (Ge hb.x ha.d) (Ge ha.x hb.d)) (by omega);have h2:(Gm a b).length<=16:=by
  refine Qa (Nh _ _) ?_;have:=Fx b.x a.d; have:=Fx a.x b.d; have:=ha.lx; have:=hb.lx;omega
 exact ⟨⟨Fy _ _,by omega,U5 h1 (by omega)⟩,h2,h1⟩
theorem rY {a b:Crv} (ha:Cb a) (hb:Cb b):Pb (Gl a b)/\(Gl a b).length<=16/\Bd 2097153 (Gl a b):=by
 have h1:Bd 2097153 (Gl a b):=U5 (Du (Ge hb.y ha.d) (Ge ha.y hb.d)) (by omega);have h2:(Gl a b).length<=16:=by
  refine Qa (Nh _ _) ?_;have:=Fx b.y a.d; have:=Fx a.y b.d; have:=ha.ly; have:=hb.ly;omega
 exact ⟨⟨Fy _ _,by omega,U5 h1 (by omega)⟩,h2,h1⟩
def L8 (sg:Um->Int) (a b:Pt):Un->Bool
 | []=>decide (a.id<b.id)
 | p::l=>if 0<p.length then decide (0<Hj sg p) else L8 sg a b l
def Cg (sg:Um->Int) (a b:Pt):Bool:=L8 sg a b [Gl b.c a.c,Gm b.c a.c]
def Ts (sg:Um->Int) (a b:Pt):Bool:=L8 sg a b [Gm a.c b.c,Gl a.c b.c]
end Orr
namespace Orr
open Go
structure Ct where
 kind:Int
 i0:Int
 i1:Int
 i2:Int
 i3:Int
 p:List Int
 want:Int
abbrev Dq (c:Ct):Ur:=[.int .i64 c.kind,.int .i64 c.i0,.int .i64 c.i1,.int .i64 c.i2,.int .i64 c.i3,pl c.p,.int .i64 c.want]
def Lx (p q:Um):Um:=if 0<p.length then p else q
def Dd:Um->Um->Bool
 | x::l,y::m=>if x=y then Dd l m else decide (x<y)
 | _,_=>false
def fD (a b:Ct):Bool:=Dd [a.kind,a.i0,a.i1,a.i2,a.i3] [b.kind,b.i0,b.i1,b.i2,b.i3]
def JR (out:List Ct) (c:Ct):Nat->Nat
 | 0=>0
 |
  k+1=>match out[k]? with
  | some x=>if fD c x=true then JR out c k else k+1
  | none=>k+1
theorem oY (out:List Ct) (c:Ct):∀ k,JR out c k<=k
 | 0=>Ql _
 |
  k+1=>by
  simp only [JR]
  split
  ·split
   ·exact Nat.le_succ_of_le (oY out c k)
   ·exact Ql _
  ·exact Ql _
theorem Qpu {out:List Ct} {c x:Ct} {k:Nat} (hx:out[k]? = some x) (h:fD c x=true):JR out c (k+1)=JR out c k:=by
 simp only [JR,hx,h,if_true]
theorem Qjw {out:List Ct} {c x:Ct} {k:Nat} (hx:out[k]? = some x) (h:fD c x=false):JR out c (k+1)=k+1:=by
 simp [JR,hx,h]
def WQ (out:List Ct) (c:Ct):List Ct:=out.take (JR out c out.length)++c::out.drop (JR out c out.length)
theorem Qic (out:List Ct) (c:Ct):(WQ out c).length=out.length+1:=by
 have:=oY out c out.length;simp [WQ]; omega
theorem Qid {out:List Ct} {c x:Ct} (h:x∈WQ out c):x=c\/x∈out:=by
 simp only [WQ,Qr,Qm] at h;rcases h with h | h | h
 ·exact .inr (Qo h)
 ·exact .inl h
 ·exact .inr (Qz h)
def Fo (l:List Ct):List Ct:=l.foldl WQ []
theorem cA (l:List Ct) (c:Ct):Fo (l++[c])=WQ (Fo l) c:=by simp [Fo,Vq]
theorem cI {l:List Ct} {i:Nat} {c:Ct} (h:l[i]? = some c):Fo (l.take (i+1))=WQ (Fo (l.take i)) c:=by
 rw [Zv,h]; exact cA _ _
theorem ON:∀ (l acc:List Ct),(l.foldl WQ acc).length=acc.length+l.length
 | [],acc=>by simp
 | c::l,acc=>by simp only [Z9]; rw [ON l (WQ acc c),Qic]; simp; omega
theorem Mx (l:List Ct):(Fo l).length=l.length:=by unfold Fo; rw [ON]; simp
theorem OC:∀ (l acc:List Ct) {x:Ct},x∈l.foldl WQ acc->x∈l\/x∈acc
 | [],acc,x,h=>.inr h
 |
  c::l,acc,x,h=>by
  simp only [Z9] at h;rcases OC l _ h with h | h
  ·exact .inl (Qg _ h)
  ·rcases Qid h with rfl | h
   ·exact .inl (Qy ..)
   ·exact .inr h
theorem Tc {l:List Ct} {x:Ct} (h:x∈Fo l):x∈l:=by
 rcases OC l [] h with h | h
 ·exact h
 ·cases h
theorem fS {α:Type} (l:List α) (z x:α) {k m':Nat} (hk:k<=l.length) (hm:m'=l.length-k) :
 ((l++[z]).take (k+1)++((l++[z]).drop k).take m'++(l++[z]).drop (k+1+m')).set k x=l.take k++x::l.drop k:=by
 subst hm;have e1:((l++[z]).drop k).take (l.length-k)=l.drop k:=by
  rw [Wg hk,Vp (by simp),Qn (by simp)]
 have e2:(l++[z]).drop (k+1+(l.length-k))=[]:=Yv (by simp; omega);rw [e1,e2,Zw];have e3:(l++[z]).take (k+1)=(l++[z]).take k++[(l++[z])[k]'(by simp; omega)]:=by rw [List.take_succ_eq_append_getElem]
 rw [e3,Vp hk,Zd,List.set_append,if_neg (by simp; omega)];simp [Zy hk]
def Av (a b:Pt):Um:=Lx (Gm a.c b.c) (Gl a.c b.c)
def Ar (a b:Pt):Um:=Lx (Gl b.c a.c) (Gm b.c a.c)
def QO (sg:Um->Int) (a b:Pt):Ct:={ kind:=1,i0:=a.id,i1:=b.id,i2:=0,i3:=0,p:=Av a b,want:=Hj sg (Av a b) }
def D3 (sg:Um->Int) (a b:Pt):Ct:={ kind:=2,i0:=a.id,i1:=b.id,i2:=0,i3:=0,p:=Ar a b,want:=Hj sg (Ar a b) }
end Orr
namespace Orr
open Go Go.Proofs Tryz
set_option maxRecDepth 10000
abbrev pr (p:Um):TV:=.one (pl p)
theorem Pf {p:Um} {i:Nat} {z:Int} (h:p[i]? = some z):(p.map G8)[i]? = some (G8 z):=G5 h
theorem BE (p:Um):Uj 126 [pr p] [pr (trim p)]:=by
 refine Fv func126 rfl (ln 0 rfl rfl λhl=>?_);rw [Q9] at hl;refine Ud [] rfl ?_;refine lp (S:=Nat) 0 (λL1 n=>(3,.v (.oi n))::L1) (λ_=>[]) id (λn=>n<=p.length/\∀ j x,n<=j->p[j]? = some x->x=0) (p.map G8).length ⟨by simp,λj x h1 h2=>by
  have:=(Qf.1 h2).1; simp at h1; omega⟩ rfl (λ_ _=>rfl) rfl λn ⟨h1,h2⟩=>?_
 cases n with
 | zero=>exact Uf [.f (by simp),.f rfl,.i 0] rfl (by rw [sK h1 h2 (λh=>by omega)]; simp [pl]) (by simp [U3])
 |
  succ n =>
  obtain ⟨x,hx⟩:=gxE (l:=p) (i:=n) (by omega);by_cases h0:x=0
  ·refine Ue [.t (by simp),.r 11 (v:=.oi n) (by simp),.x (Pf hx),.k Dl,.t (by simp [h0]),.r 17 (v:=.oi n) (by simp)] rfl ?_;exact rd n (by simp) ⟨by omega,λj y h3 h4=>by
    rcases Vk h3 with rfl | h3
    ·rw [hx] at h4; injection h4 with h4; rw [<-h4,h0]
    ·exact h2 j y h3 h4⟩ rfl
  ·exact Uf [.t (by simp),.r 11 (v:=.oi n) (by simp),.x (Pf hx),.k Dl,.f (by simp [h0]),.i (n+1)] rfl (by rw [sK h1 h2 (λ_=>⟨x,hx,h0⟩)]; simp [pl,Jv]) (by simp [U3] <;> omega)
theorem lN (p:Um) (k:Nat):Uj 218 [pr p,.oi k] [.agg (G8 (p.getD k 0))]:=by
 by_cases h:k<p.length
 ·have hx:=Qe h;have e:p.getD k 0=p[k]:=by simp [List.getD,hx]
  rw [e];exact Ug func218 rfl [.t (by simp; omega),.x (Pf hx)] rfl
 ·have e:p.getD k 0=0:=by simp [List.getD,Qw (J8 h)]
  rw [e,Lm];exact Ug func218 rfl [.f (by simp; omega)] rfl
def AS (f:Nat->Ur) (z:Ur) (n k:Nat):Us:=(List.range n).map λi=>if i<k then f i else z
theorem Ik (f:Nat->Ur) (z:Ur) (n k:Nat):(AS f z n k).length=n:=by simp [AS]
theorem Ak (f:Nat->Ur) (z:Ur) (n:Nat):List.replicate n z=AS f z n 0:=by
 refine Xl λi=>?_
 simp only [AS,Jz,Q8];by_cases h:i<n
 ·simp [h]
 ·simp [h]
theorem QM (f:Nat->Ur) (z:Ur) (n:Nat):AS f z n n=(List.range n).map f:=by
 refine Xq λi hi=>?_
 rw [if_pos (Kj.1 hi)]
theorem QN (f:Nat->Ur) (z:Ur) {n k:Nat} (h:k<n):(AS f z n k).set k (f k)=AS f z n (k+1):=by
 refine Xl λi=>?_
 rw [Yn];simp only [AS,Q8,Q9,List.length_range,h,if_true];by_cases e:k=i
 ·subst e; simp [h]
 ·simp only [e,if_false];by_cases hi:i<n
  ·simp only [X2 hi,Ym];congr 1;by_cases h2:i<k
   ·rw [if_pos h2,if_pos (by omega)]
   ·rw [if_neg h2,if_neg (by omega)]
  ·simp [Qw,hi]
theorem xI {n fid:Nat} {l1 l2:Ur} {g:Nat->Int} (hn:n<274877906944) (h:∀ k,k<n->AM prog fid [.oi k,.one (.sh l1),.one (.sh l2)] [.agg (G8 (g k))]):Uj 203 [.oi n,.one (.fn fid [] [.sh l1,.sh l2])] [pr (A6 n g)]:=by
 refine Fv func203 rfl ?_;refine Ue [.i n,.i n,.r 10 (eI (b:=(n:Int)) (by simp))] rfl ?_;rw [Ak λk=>G8 (g k)];refine Ui (S:=Nat) 1 (λL1 k=>(11,.v (.oi k))::L1) (λk=>[.row false 36 2 (AS (λk=>G8 (g k)) [.bool false,.nils] n k)]) (λk=>n-k) (λk=>k<=n) 0 (Qh _) rfl rfl λk hk=>?_
 by_cases hlt:k<n
 ·refine go tt [.t (by simp; omega),.k (h k hlt),.i k] rfl (by simp [U3,Ik]; omega) ?_;have e:=QN (λk=>G8 (g k)) [.bool false,.nils] hlt;rw [e];exact rd (k+1) (by omega) hlt rfl
 ·obtain rfl:k=n:=by omega
  have e:AS (λk=>G8 (g k)) [.bool false,.nils] k k=((List.range k).map g).map G8:=by rw [QM]; simp
  rw [e];exact Uf [.f (by simp),.k (BE _)] rfl
theorem lP {n fid:Nat} {l1:Ur} {g:Nat->Int} (hn:n<274877906944) (h:∀ k,k<n->AM prog fid [.oi k,.one (.sh l1)] [.agg (G8 (g k))]):Uj 203 [.oi n,.one (.fn fid [] [.sh l1])] [pr (A6 n g)]:=by
 refine Fv func203 rfl ?_;refine Ue [.i n,.i n,.r 10 (eI (b:=(n:Int)) (by simp))] rfl ?_;rw [Ak λk=>G8 (g k)];refine Ui (S:=Nat) 1 (λL1 k=>(11,.v (.oi k))::L1) (λk=>[.row false 36 2 (AS (λk=>G8 (g k)) [.bool false,.nils] n k)]) (λk=>n-k) (λk=>k<=n) 0 (Qh _) rfl rfl λk hk=>?_
 by_cases hlt:k<n
 ·refine go tt [.t (by simp; omega),.k (h k hlt),.i k] rfl (by simp [U3,Ik]; omega) ?_;have e:=QN (λk=>G8 (g k)) [.bool false,.nils] hlt;rw [e];exact rd (k+1) (by omega) hlt rfl
 ·obtain rfl:k=n:=by omega
  have e:AS (λk=>G8 (g k)) [.bool false,.nils] k k=((List.range k).map g).map G8:=by rw [QM]; simp
  rw [e];exact Uf [.f (by simp),.k (BE _)] rfl
theorem Qtf {p q:Um} (k:Nat) (hp:Bd 4294967295 p) (hq:Bd 4294967295 q):Uj 243 [.oi k,.one (.sh [pl p]),.one (.sh [pl q])] [.agg (G8 (p.getD k 0+q.getD k 0))] :=
 Ug func243 rfl [.k (lN p k),.k (lN q k),.k (KN (U4 _) (U4 _) (Ft hp k) (Ft hq k))] rfl
theorem Qtz {p q:Um} (k:Nat) (hp:Bd 4294967295 p) (hq:Bd 4294967295 q):Uj 216 [.oi k,.one (.sh [pl p]),.one (.sh [pl q])] [.agg (G8 (p.getD k 0-q.getD k 0))] :=
 Ug func216 rfl [.k (lN p k),.k (lN q k),.k (Qfr (U4 _) (U4 _) (Ft hp k) (Ft hq k))] rfl
theorem Ri {p:Um} {k:Nat} (h:k<p.length):p[k]? = some (p.getD k 0):=by simp [List.getD,Qe h]
theorem Qfi {p:Um} {c:Int} {k:Nat} (hk:k<p.length) (hp:Bd 4294967295 p) (hc:Fe c<=4294967295):Uj 204 [.oi k,.one (.sh [pl p]),.one (.sh (G8 c))] [.agg (G8 (p.getD k 0*c))] :=
 Ug func204 rfl [.x (Pf (Ri hk)),.k (P0 (U4 _) (U4 _) (Ft hp k) hc)] rfl
theorem Qts {p:Um} {k:Nat} (hk:k<p.length) (hp:Bd 4294967295 p):Uj 276 [.oi k,.one (.sh [pl p])] [.agg (G8 (-(p.getD k 0)))] :=
 Ug func276 rfl [.x (Pf (Ri hk)),.k (BG (U4 _) (Ft hp k))] rfl
theorem Qa9 {p:Um} {k:Nat} (hk:k+1<p.length) (hl:p.length<274877906944) (hp:Bd 4294967295 p):Uj 248 [.oi k,.one (.sh [pl p])] [.agg (G8 (p.getD (k+1) 0*((k+1:Nat):Int)))] :=
 Ug func248 rfl [.x (Pf (Ri hk)),.r 10 (eI (b:=((k+1:Nat):Int)) (by omega)),.k (BH (by omega)),.k (P0 (U4 _) (U4 _) (Ft hp _) (Qcn (show k+1<274877906944 by omega)))] rfl rfl (by simp [U3] <;> omega)
theorem BR {p q:Um} (hlp:p.length<274877906944) (hlq:q.length<274877906944) (hp:Bd 4294967295 p) (hq:Bd 4294967295 q):Uj 201 [pr p,pr q] [pr (A7 p q)] :=
 Ug func201 rfl [.r 9 (eI (b:=((max p.length q.length:Nat):Int)) (by simp; omega)),.k (xI (by omega) λk _=>Qtf k hp hq)] rfl
theorem HT {p q:Um} (hlp:p.length<274877906944) (hlq:q.length<274877906944) (hp:Bd 4294967295 p) (hq:Bd 4294967295 q):Uj 182 [pr p,pr q] [pr (M7 p q)] :=
 Ug func182 rfl [.r 9 (eI (b:=((max p.length q.length:Nat):Int)) (by simp; omega)),.k (xI (by omega) λk _=>Qtz k hp hq)] rfl
theorem Qe3 {p:Um} (hlp:p.length<274877906944) (hp:Bd 4294967295 p):Uj 251 [pr p] [pr (Ms p)] :=
 Ug func251 rfl [.r 4 (eI (b:=(p.length:Int)) (by simp)),.k (lP hlp λk hk=>Qts hk hp)] rfl
theorem Pq {p:Um} {c:Int} (hlp:p.length<274877906944) (hp:Bd 4294967295 p) (hc:Fe c<=4294967295):Uj 155 [pr p,.agg (G8 c)] [pr (Fw p c)] :=
 Ug func155 rfl [.r 6 (eI (b:=(p.length:Int)) (by simp)),.k (xI hlp λk hk=>Qfi hk hp hc)] rfl
theorem I4 {p:Um} (hlp:p.length<274877906944) (hp:Bd 4294967295 p):Uj 213 [pr p] [pr (Gx p)] :=
 Ug func213 rfl [.r 6 (eI (b:=((p.length-1:Nat):Int)) (by simp; omega)),.k (lP (by omega) λk hk=>Qa9 (by omega) hlp hp)] rfl rfl (by simp [U3]; omega)
theorem Ch {ls:Us} {p:Um} (hi:IsInts ls p) (hl:p.length<274877906944) (hs:Bd 4294967295 p):Uj 122 [.one (.row ls)] [pr (trim p)]:=by
 refine Fv func122 rfl ?_;have hlen:=hi.len;refine Ue [.i ls.length,.i ls.length] rfl ?_;rw [Ak λk=>G8 (p.getD k 0)];refine Ui (S:=Nat) 1 (λL1 k=>(11,.v (.oi k))::L1) (λk=>[.row false 36 2 (AS (λk=>G8 (p.getD k 0)) [.bool false,.nils] ls.length k)]) (λk=>ls.length-k) (λk=>k<=ls.length) 0 (Qh _) rfl rfl λk hk=>?_
 by_cases hlt:k<ls.length
 ·obtain ⟨x,y,hx,hxy⟩:=hi.get (Ri (p:=p) (k:=k) (by omega));have cn:=Mm hxy (Ft hs k);obtain ⟨b,l,rfl,rfl,_⟩:=hxy;refine go tt [.t (by simp; omega),.x hx,.k cn,.i k] rfl (by simp [U3,Ik]; omega) ?_;have e:=QN (λk=>G8 (p.getD k 0)) [.bool false,.nils] hlt;rw [e];exact rd (k+1) (by omega) hlt rfl
 ·obtain rfl:k=ls.length:=by omega
  have e:AS (λk=>G8 (p.getD k 0)) [.bool false,.nils] ls.length ls.length=p.map G8:=by
   rw [QM,hlen];refine Xl λi=>?_
   by_cases hi:i<p.length
   ·simp [X2 hi,List.getD,Qe hi]
   ·simp [Qw,hi]
  rw [e];exact Uf [.f (by simp),.k (BE _)] rfl
theorem Ht {p:Um} (ht:Ff p) (hl:p.length<274877906944) (hs:Bd 4294967295 p):Uj 122 [pr p] [pr p]:=by
 have:=Ch (Gn p) hl hs;rw [ht] at this; exact this
theorem Qoz {p:Um} {i:Nat} {z:Int} (h:p[i]? = some z):(p.map λ(x:Int)=>[LV.int .i64 x])[i]? = some [.int .i64 z]:=G5 h
theorem lK {p:Um} (hl:p.length<274877906944) (hr:∀ z∈p,-9223372036854775808≤z/\z≤9223372036854775807):Uj 78 [.one (ids p)] [pr (trim p)]:=by
 refine Fv func78 rfl ?_;refine Ue [.r 7 (eI (b:=(p.length:Int)) (by simp)),.i p.length,.i p.length,.r 10 (eI (b:=(p.length:Int)) (by simp))] rfl ?_;rw [Ak λk=>G8 (p.getD k 0)];refine Ui (S:=Nat) 1 (λL1 k=>(11,.v (.oi k))::L1) (λk=>[.row false 36 2 (AS (λk=>G8 (p.getD k 0)) [.bool false,.nils] p.length k)]) (λk=>p.length-k) (λk=>k<=p.length) 0 (Qh _) rfl rfl λk hk=>?_
 by_cases hlt:k<p.length
 ·have hg:=Ri hlt;refine go tt [.t (by simp; omega),.x (Qoz hg),.k (BH (hr _ (Qc hg))),.i k] rfl (by simp [U3,Ik]; omega) ?_;have e:=QN (λk=>G8 (p.getD k 0)) [.bool false,.nils] hlt;rw [e];exact rd (k+1) (by omega) hlt rfl
 ·obtain rfl:k=p.length:=by omega
  have e:AS (λk=>G8 (p.getD k 0)) [.bool false,.nils] p.length p.length=p.map G8:=by
   rw [QM];refine Xl λi=>?_
   by_cases hi:i<p.length
   ·simp [X2 hi,List.getD,Qe hi]
   ·simp [Qw,hi]
  rw [e];exact Uf [.f (by simp),.k (BE _)] rfl
theorem bM (l:Um) (i:Nat) (z:Int):(l.map G8).set i (G8 z)=(l.set i z).map G8:=by rw [Vs]
theorem NK (m:Nat):((List.replicate m [LV.bool false,LV.nils]).map λc=>c.map FM)=(List.replicate m (0:Int)).map G8:=by
 simp [Lm,FM]
theorem xN {p0 q:Um} {s t:Nat} (tq:Ff q) (hlp:p0.length<137438953472) (hlq:q.length<137438953472) (hp:Bd s p0) (hq:Bd t q) (hst:s+t<=4294967000):Uj 202 [pr p0,pr q] [pr (Gk (trim p0) q)]:=by
 have cp:=Ch (Gn p0) (by omega) (U5 hp (show s<=4294967295 by omega));have hp:=Tw hp;have hlp:=Z3 (H7 p0) hlp;obtain ⟨p,ep⟩:=nmE (trim p0);rw [<-ep] at cp hp hlp ⊢;have cq:=Ht tq (by omega) (U5 hq (show t<=4294967295 by omega));by_cases h0:p.length=0
 ·have e:Gk p q=[]:=by unfold Gk; rw [if_pos (.inl h0)]
  rw [e];exact Ug func202 rfl [.k cp,.k cq,.t (by simp; exact Qj h0),.t rfl] rfl
 by_cases h1:q.length=0
 ·have e:Gk p q=[]:=by unfold Gk; rw [if_pos (.inr h1)]
  rw [e];exact Ug func202 rfl [.k cp,.k cq,.f (by simp; intro h; subst h; simp at h0),.t (by simp; exact Qj h1)] rfl
 refine Fv func202 rfl ?_;have e:Gk p q=trim (Au p q (List.replicate (p.length+q.length-1) 0) p.length):=by unfold Gk; rw [if_neg (by omega)]
 rw [e];obtain ⟨N,hN⟩:=nmE (p.length+q.length-1);rw [<-hN];obtain ⟨o,ho⟩:=nmE (List.replicate N (0:Int));rw [<-ho];have hol:o.length=N:=by rw [ho]; simp
 have ho0:∀ m,o.getD m 0=0:=λm=>by rw [ho]; exact Cn N m
 refine Ue [.k cp,.k cq,.f (by simp; intro h; subst h; simp at h0),.f (by simp; intro h; subst h; simp at h1),.r 27 (eI (b:=(N:Int)) (by simp; omega)),.i N,.i N] rfl ?_;refine nl 0 rfl rfl rfl ?_;rw [NK,<-ho];refine Ui (S:=Nat) 1 (λL1 i=>(31,.v (.oi i))::L1) (λi=>[.row false 36 2 ((Au p q o i).map G8)]) (λi=>p.length-i) (λi=>i<=p.length) 0 (Qh _) rfl rfl λi hi=>?_
 by_cases hlt:i<p.length
 ·refine Ud [.t (by simp; omega),.x (Pf (Ri hlt))] rfl ?_;refine Ui (S:=Nat) 2 (λL1 k=>(38,.v (.oi k))::L1) (λk=>[.row false 36 2 ((Ol (p.getD i 0) q i (Au p q o i) k).map G8),.blk 36 (G8 (p.getD i 0))]) (λk=>q.length-k) (λk=>k<=q.length) 0 (Qh _) rfl rfl λk hk=>?_
  by_cases hk2:k<q.length
  ·have hm1:Fe ((Ol (p.getD i 0) q i (Au p q o i) k).getD (i+k) 0)<=4294967295:=Qa (Iw (t:=39) (yF (by rw [Lj]; omega) (yU (λj hj=>by omega) ho0 (λi j=>Ni (Ft hp i) (Ft hq j))) (λj=>Ni (Ft hp i) (Ft hq j)) (i+k)) (Kh (show i+1<549755813888 by omega) (by decide))) (by omega);have hm2:Fe (p.getD i 0*q.getD k 0)<=4294967295:=Qa (Ga _ _) (by have:=Ft hp i; have:=Ft hq k; omega);have hg:(Ol (p.getD i 0) q i (Au p q o i) k)[i+k]? = some ((Ol (p.getD i 0) q i (Au p q o i) k).getD (i+k) 0):=Ri (by rw [Om,Lj]; omega);refine go tt [.t (by simp; omega),.x (Pf (Ri hk2)),.i (i+k),.x (Pf hg),.k (P0 (U4 _) (U4 _) (Qa (Ft hp i) (by omega)) (Qa (Ft hq k) (by omega))),.k (KN (U4 _) (U4 _) hm1 hm2),.i (i+k)] rfl (by simp [U3,Om,Lj] <;> omega) ?_;rw [bM];exact rd (k+1) (by omega) hk2 rfl
  ·obtain rfl:k=q.length:=by omega
   exact go tt [.f (by simp)] rfl (by simp [U3]; omega) (rd (i+1) (by omega) hlt rfl)
 ·obtain rfl:i=p.length:=by omega
  exact Uf [.f (by simp),.k (BE _)] rfl
theorem KP {p q:Um} {s t:Nat} (tp:Ff p) (tq:Ff q) (hlp:p.length<137438953472) (hlq:q.length<137438953472) (hp:Bd s p) (hq:Bd t q) (hst:s+t<=4294967000):Uj 202 [pr p,pr q] [pr (Gk p q)]:=by
 have h:=xN tq hlp hlq hp hq hst;rw [show trim p=p from tp] at h;exact h
theorem MV {p q:Um} (hlp:p.length<274877906944) (hlq:q.length<274877906944) (hp:Bd 4294967295 p) (hq:Bd 4294967295 q):Uj 100 [pr p,pr q] [.one (.bool (decide (trim p=trim q)))]:=by
 refine Fv func100 rfl ?_;have cp:=Ch (Gn p) hlp hp;have cq:=Ch (Gn q) hlq hq;have bp:=Tw hp;have bq:=Tw hq;have l1:=H7 p;have l2:=H7 q;obtain ⟨a,ha⟩:=nmE (trim p);obtain ⟨b,hb⟩:=nmE (trim q);rw [<-ha] at cp bp l1 ⊢;rw [<-hb] at cq bq l2 ⊢;by_cases hl:a.length=b.length
 ·refine Ud [.k cp,.k cq,.f (by simp; omega)] rfl ?_;refine Ui (S:=Nat) 0 (λL1 i=>(18,.v (.oi i))::L1) (λ_=>[]) (λi=>a.length-i) (λi=>i<=a.length/\a.take i=b.take i) 0 ⟨Qh _,rfl⟩ rfl rfl λi ⟨hi,he⟩=>?_
  by_cases hlt:i<a.length
  ·have ga:=Ri hlt;have gb:=Ri (p:=b) (k:=i) (by omega);have cc:=HN (U4 (a.getD i 0)) (U4 (b.getD i 0)) (Ft bp i) (Ft bq i);by_cases hz:a.getD i 0=b.getD i 0
   ·refine Ue [.t (by simp; omega),.x (Pf ga),.x (Pf gb),.k cc,.f (by simpa using jJ.2 hz)] rfl ?_;exact rd (i+1) (by omega) ⟨hlt,by rw [Y7,Y7,he,ga,gb,hz]⟩ rfl
   ·exact Uf [.t (by simp; omega),.x (Pf ga),.x (Pf gb),.k cc,.t (by have:=mt jJ.1 hz; simpa using this)] rfl (by rw [decide_eq_false]; intro h; exact hz (by rw [h])) trivial
  ·obtain rfl:i=a.length:=by omega
   rw [Q6,hl,Q6] at he;exact Uf [.f (by simp)] rfl (by rw [decide_eq_true he]) trivial
 ·exact Uf [.k cp,.k cq,.t (by simp; omega)] rfl (by rw [decide_eq_false]; intro h; exact hl (by rw [h])) trivial
theorem Qe8 {p:Um} {n d:Int} {s t:Nat} (hl:p.length<274877906944) (hp:Bd s p) (hn:Fe n<=t) (hd:Fe d<=t) (hst:s+p.length*(t+1)+2*t+10<=4294967295):Uj 227 [pr p,.agg (G8 n),.agg (G8 d)] [.agg (G8 (Qvy p n d))]:=by
 refine Fv func227 rfl ?_;refine Ue [.k (BH (z:=1) (by decide)),.r 13 (eI (b:=(p.length:Int)-1-((0:Nat):Int)) (by simp))] rfl ?_;refine nlb 3 rfl rfl rfl ?_;have e0:[LV.bool false,LV.nils].map FM=G8 (Ed p n d 0).1:=by simp [FM,Ed,Lm]
 rw [e0];refine Ui (S:=Nat) 5 (λL1 j=>(9,.v (.oi ((p.length:Int)-1-(j:Int))))::L1) (λj=>[.blk 36 (G8 n),.blk 36 (G8 d),.blk 36 [.bool false,.nils],.blk 36 (G8 (Ed p n d j).1),.blk 36 (G8 (Ed p n d j).2)]) (λj=>p.length-j) (λj=>j<=p.length) 0 (Qh _) rfl rfl λj hj=>?_
 have hv:=Qap (k:=j) hp hn hd;have hjl:j*(t+1)<=p.length*(t+1):=Q0 _ (by omega);have hjl2:j*t<=j*(t+1):=Zu _ (by omega);by_cases hlt:j<p.length
 ·have hc:=Ft hp (p.length-1-j);have hm1:Fe ((Ed p n d j).1*n)<=4294967295:=Qa (Ga _ _) (by omega);have hm2:Fe (p.getD (p.length-1-j) 0*(Ed p n d j).2)<=4294967295:=Qa (Ga _ _) (by omega);refine go tt [.t (by simp; omega),.k (P0 (U4 _) (U4 _) (by omega) (by omega)),.r 22 (eI (b:=((p.length-1-j:Nat):Int)) (by omega)),.x (Pf (Ri (p:=p) (k:=p.length-1-j) (by omega))),.k (P0 (U4 _) (U4 _) (by omega) (by omega)),.k (KN (U4 _) (U4 _) hm1 hm2),.k (P0 (U4 _) (U4 _) (by omega) (by omega)),.r 17 (eI (b:=(p.length:Int)-1-((j+1:Nat):Int)) (by omega))] rfl (by simp [U3] <;> omega) ?_;exact rd (j+1) (by omega) hlt rfl
 ·obtain rfl:j=p.length:=by omega
  exact Uf [.f (by simp; omega)] rfl
theorem Dv {p:Um} (tp:Ff p) (hl:p.length<274877906944) (hp:Bd 4294967295 p):Uj 255 [pr p] [.agg (G8 (p.getD (p.length-1) 0))]:=by
 have cn:=Ht tp hl hp;by_cases h0:p=[]
 ·subst h0;exact Ug func255 rfl [.k cn,.t (by simp)] rfl (by simp [Lm]) trivial
 ·have hpl:0<p.length:=J3.2 h0;exact Ug func255 rfl [.k cn,.f (by simpa using h0),.r 12 (eI (b:=((p.length-1:Nat):Int)) (by simp; omega)),.x (Pf (Ri (by omega)))] rfl rfl (by simp [U3]; omega)
theorem Qsp {a b:Int} {q:Rat} (h1:a=q.num) (h2:b=(q.den:Int)):[sg a,mg a,sg b,mg b]=rl q:=by rw [h1,h2]
theorem XZ {n d:Int} (h0:d≠0) (hn:Fe n<=4294967295) (hd:Fe d<=4294967295):Uj 141 [.agg (G8 n),.agg (G8 d)] [.agg (rl (Rat.divInt n d))]:=by
 have cg:=Qep (Gn [n,d]) (λz hz=>by simp at hz; rcases hz with rfl | rfl <;> assumption);have gp:=fV (n:=n) h0;have gs:=aN (n:=n) h0 hd;have m1:=DL n d;have m2:=DI n d;obtain ⟨g,hg⟩:=nmE (((Rz [n,d]:Nat):Int));rw [<-hg] at cg gp gs m1 m2;by_cases hneg:d<0
 ·obtain ⟨e1,e2⟩:=Qo9 (n:=n) hneg;rw [<-hg] at e1 e2;rw [<-Qsp e1 e2];exact Ug func141 rfl [.k cg,.t (by simpa using hneg),.k (BG (U4 n) hn),.k (BG (U4 d) hd),.k (Ia (U4 _) (U4 _) (by rw [Hm]; exact hn) gs (by omega) (iR m1)),.k (Ia (U4 _) (U4 _) (by rw [Hm]; exact hd) gs (by omega) (iR m2))] rfl
 ·obtain ⟨e1,e2⟩:=iY (n:=n) (d:=d) (by omega);rw [<-hg] at e1 e2;rw [<-Qsp e1 e2];exact Ug func141 rfl [.k cg,.f (by simpa using hneg),.k (Ia (U4 _) (U4 _) hn gs (by omega) m1),.k (Ia (U4 _) (U4 _) hd gs (by omega) m2)] rfl
theorem MU {x y x' y':LV} {n d:Int} (h1:Gd x y n) (h2:Gd x' y' d) (hn:Fe n<=4294967295) (hd:Fe d<=4294967295):Uj 84 [.agg [x,y,x',y']] [.agg (rl (Gh n d))]:=by
 have c1:=Mm h1 hn;have c2:=Mm h2 hd;obtain ⟨b,l,rfl,rfl,_⟩:=h1;obtain ⟨b',l',rfl,rfl,_⟩:=h2;by_cases h0:d=0
 ·have e:Gh n d=Rat.divInt n 1:=by unfold Gh; rw [if_pos h0]
  rw [e];exact Ug func84 rfl [.k c2,.k Dl,.t (by simpa using h0),.k (BH (z:=1) (by decide)),.k c1,.k (XZ (by decide) hn (by decide))] rfl
 ·have e:Gh n d=Rat.divInt n d:=by unfold Gh; rw [if_neg h0]
  rw [e];exact Ug func84 rfl [.k c2,.k Dl,.f (by simpa using h0),.k c1,.k (XZ h0 hn hd)] rfl
theorem CQ {q:Rat} (hq:Qs 4294967295 q):Uj 84 [.agg (rl q)] [.agg (rl q)]:=by
 have:=MU (U4 q.num) (U4 (q.den:Int)) hq.1 hq.2;rwa [Su] at this
theorem Qua {n:Int} (hn:Fe n<=4294967295):Uj 22 [.agg (G8 n)] [.agg (rl (n:Rat))] :=
 Ug func22 rfl [.k (Mm (U4 n) hn),.k (BH (z:=1) (by decide))] rfl (by simp [rl]) trivial
theorem xE {a b:Rat} (ha:Qs 2147483647 a) (hb:Qs 2147483647 b):Uj 98 [.agg (rl a),.agg (rl b)] [.agg (G8 (a.num*(b.den:Int))),.agg (G8 (b.num*(a.den:Int))),.agg (G8 ((a.den:Int)*(b.den:Int)))] :=
 Ug func98 rfl [.k (CQ (ha.mono (by decide))),.k (CQ (hb.mono (by decide))),.k (P0 (U4 _) (U4 _) (Qa ha.1 (by decide)) (Qa hb.2 (by decide))),.k (P0 (U4 _) (U4 _) (Qa hb.1 (by decide)) (Qa ha.2 (by decide))),.k (P0 (U4 _) (U4 _) (Qa ha.2 (by decide)) (Qa hb.2 (by decide)))] rfl
theorem Ci {a b:Rat} (ha:Qs 2147483647 a) (hb:Qs 2147483647 b):Uj 61 [.agg (rl a),.agg (rl b)] [.oi (He a b)] :=
 Ug func61 rfl [.k (xE ha hb),.k (HN (U4 _) (U4 _) (Qa (Ga _ _) (by have:=ha.1; have:=hb.2; omega)) (Qa (Ga _ _) (by have:=hb.1; have:=ha.2; omega)))] rfl
theorem BO {x y x' y':LV} {n d:Int} (h1:Gd x y n) (h2:Gd x' y' d) (hn:Fe n<=4294967295) (hd:Fe d<=4294967295):Uj 42 [.agg [x,y,x',y'],.one (.row [])] [.agg (rl (Gh n d))]:=by
 have c1:=MU h1 h2 hn hd;obtain ⟨b,l,rfl,rfl,_⟩:=h1;obtain ⟨b',l',rfl,rfl,_⟩:=h2;refine Fv func42 rfl ?_;refine Ud [.k c1] rfl ?_;refine Ui (S:=Unit) 3 (λL1 _=>(12,.v (.oi 0))::L1) (λ_=>[.blk 38 [.bool b,.row (lm l),.bool b',.row (lm l')],.blk 38 [.bool false,.nils,.bool false,.nils],.blk 38 (rl (Gh n d))]) (λ_=>0) (λ_=>True) () trivial rfl rfl λ_ _=>?_
 exact Uf [.f (by simp)] rfl
theorem Nx {q:Rat} (hq:Qs 4294967295 q):Uj 42 [.agg (rl q),.one (.row [])] [.agg (rl q)]:=by
 have:=BO (U4 q.num) (U4 (q.den:Int)) hq.1 hq.2;rwa [Su] at this
theorem Qn2 {q:Rat} (hq:Qs 4294967295 q):Uj 226 [.agg (rl q)] [.agg (rl q)]:=Ug func226 rfl [.k (Nx hq)] rfl
theorem lW {p:Um} {q:Rat} {s t:Nat} (tp:Ff p) (hl:p.length<274877906944) (hp:Bd s p) (hq:Qs t q) (hst:s+p.length*(t+1)+2*t+10<=4294967295):Uj 189 [pr p,.agg (rl q)] [.oi (Ra p q)]:=by
 have cc:=HN (U4 (Qvy p q.num q.den)) QB (Qa (Qap hp hq.1 hq.2).1 (by omega)) (by decide);exact Ug func189 rfl [.k (Qn2 (hq.mono (by omega))),.k (Ht tp hl (U5 hp (by omega))),.k (Qe8 hl hp hq.1 hq.2 hst),.k cc] rfl
theorem Qf2 {p:Um} {g:Int} (hl:p.length<274877906944) (hp:Bd 4294967295 p) (hg:Fe g≤4294967295) (h0:g≠0) (hd:∀ z∈p,z % g=0):Uj 125 [pr p,.agg (G8 g)] [pr (trim (p.map (· / g)))]:=by
 refine Fv func125 rfl ?_;refine Ue [.r 9 (eI (b:=(p.length:Int)) (by simp)),.i p.length,.i p.length,.r 12 (eI (b:=(p.length:Int)) (by simp))] rfl ?_;rw [Ak λk=>G8 (p.getD k 0 / g)];refine Ui (S:=Nat) 2 (λL1 k=>(13,.v (.oi k))::L1) (λk=>[.blk 36 (G8 g),.row false 36 2 (AS (λk=>G8 (p.getD k 0 / g)) [.bool false,.nils] p.length k)]) (λk=>p.length-k) (λk=>k<=p.length) 0 (Qh _) rfl rfl λk hk=>?_
 by_cases hlt:k<p.length
 ·have hg2:=Ri hlt;refine go tt [.t (by simp; omega),.x (Pf hg2),.k (Ia (U4 _) (U4 _) (Ft hp k) hg h0 (hd _ (Qc hg2))),.i k] rfl (by simp [U3,Ik]; omega) ?_;have e:=QN (λk=>G8 (p.getD k 0 / g)) [.bool false,.nils] hlt;rw [e];exact rd (k+1) (by omega) hlt rfl
 ·obtain rfl:k=p.length:=by omega
  have e:AS (λk=>G8 (p.getD k 0 / g)) [.bool false,.nils] p.length p.length=(p.map (· / g)).map G8:=by
   rw [QM];refine Xl λi=>?_
   by_cases hi:i<p.length
   ·simp [X2 hi,List.getD,Qe hi]
   ·simp [Qw,hi]
  rw [e];exact Uf [.f (by simp),.k (Ch (Gn (p.map (· / g))) (by simp; exact hl) (HF hp g))] rfl
theorem EJ (p:Um):∀ c∈p.map G8,c.length=2:=Qsj p λ_=>rfl
theorem MK {lx ly:Us} {px py:Um} {x y:LV} {d:Int} (hx:IsInts lx px) (hy:IsInts ly py) (hd:Gd x y d) (hk:Cs 4294967294 1073741824 (Crv.mk px py d)):Uj 77 [.agg [.row lx,.row ly,x,y]] [.agg (cl (Crv.norm (Crv.mk px py d)))]:=by
 have hlx:=hk.lx;have hly:=hk.ly;simp only at hlx hly;have htx:=H7 px;have hty:=H7 py;have hd1:Fe (Crv.mk px py d).d'<=4294967295:=Qa (Qij hk.d (by omega)) (by omega);have hg1:=Crv.isz_g (Crv.mk px py d) hd1;have hg0:=Crv.g_ne (Crv.mk px py d);have hgd:=Crv.g_dvd (Crv.mk px py d);have cx:=Ch hx (by omega) (U5 hk.x (by omega));have cy:=Ch hy (by omega) (U5 hk.y (by omega));have cd:=Mm hd (Qa hk.d (by omega));have bx:Bd 4294967295 (trim px):=U5 (Tw hk.x) (by omega);have by_:Bd 4294967295 (trim py):=U5 (Tw hk.y) (by omega);obtain ⟨b,l,rfl,rfl,_⟩:=hd;obtain ⟨e,he⟩:=nmE ((Crv.mk px py d).d');obtain ⟨g,hgg⟩:=nmE ((Crv.mk px py d).g);obtain ⟨X,hX⟩:=nmE (trim px);obtain ⟨Y,hY⟩:=nmE (trim py);have hnorm:(Crv.mk px py d).norm=⟨trim (X.map (· / g)),trim (Y.map (· / g)),e / g⟩:=by rw [he,hgg,hX,hY]; rfl
 rw [hnorm];have hgdef:g=if e<0 then -((Rz (e::(X++Y)):Nat):Int) else (Rz (e::(X++Y)):Nat):=by rw [hgg,he,hX,hY]; rfl
 have hde:e=if d=0 then 1 else d:=by rw [he]; rfl
 simp only [<-he,<-hgg,<-hX,<-hY] at hd1 hg1 hg0 hgd htx hty cx cy bx by_;clear hnorm hgg he hX hY;refine Fv func77 rfl ?_;refine Ud [.k cx,.k cy,.k cd,.k Dl] rfl ?_;refine ct 1 (S:=Unit) (λ_=>[(2,.v (.one (.ow 1 0))),(3,.v (pr X)),(4,.v (pr Y)),(5,.v (.one (.ow 2 0)))]) (λ_=>[.blk 60 [.row lx,.row ly,.bool b,.row (lm l)],.blk 60 [.nils,.nils,.bool false,.nils],.blk 36 (G8 e)]) (λ_=>True) rfl ?_ ?_
 ·by_cases h0:d=0
  ·rw [hde,if_pos h0];exact go tt [.t (by simpa using h0),.k (BH (z:=1) (by decide))] rfl trivial (rc () trivial rfl)
  ·rw [hde,if_neg h0];exact go tt [.f (by simpa using h0)] rfl trivial (rc () trivial rfl)
 ·intro _ _;have hgi:IsInts ([G8 e]++X.map G8++Y.map G8) (e::(X++Y)):=by
   have:=Gn (e::(X++Y));simpa using this
  have hgs:∀ z∈e::(X++Y),Fe z≤4294967295:=λz hz=>by
   rcases Qm.1 hz with rfl | hz
   ·exact hd1
   ·rcases Qr.1 hz with hz | hz
    ·exact bx z hz
    ·exact by_ z hz
  have cg:=Qep hgi hgs;have co1:=Qf2 (p:=X) (by omega) bx hg1 hg0 λz hz=>hgd z (Qg _ (X8 _ hz))
  have co2:=Qf2 (p:=Y) (by omega) by_ hg1 hg0 λz hz=>hgd z (Qg _ (Je _ hz))
  have ce:=Ia (U4 e) (U4 g) hd1 hg1 hg0 (hgd e (Qy ..));have hszg:=MC hgs;by_cases hneg:e<0
  ·rw [if_pos hneg] at hgdef;have cn:=BG (U4 ((Rz (e::(X++Y)):Nat):Int)) hszg;rw [<-hgdef] at cn;exact Uf [.lo,.s (EJ X),.s (EJ Y),.k cg,.t (by simpa using hneg),.k cn,.k ce,.k co1,.k co2] rfl rfl (by simp [U3]; omega)
  ·rw [if_neg hneg] at hgdef;rw [<-hgdef] at cg;exact Uf [.lo,.s (EJ X),.s (EJ Y),.k cg,.f (by simpa using hneg),.k ce,.k co1,.k co2] rfl rfl (by simp [U3]; omega)
theorem BD {k:Crv} (hn:ZA k) (hk:Cs 4294967294 1073741824 k):Uj 77 [.agg (cl k)] [.agg (cl k)]:=by
 have h:=MK (Gn k.x) (Gn k.y) (U4 k.d) hk;rw [Crv.norm_of hn] at h; exact h
theorem UF {lx ly:Us} {px py:Um} {x y:LV} {d:Int} (hx:IsInts lx px) (hy:IsInts ly py) (hd:Gd x y d) (hk:Cs 4294967294 1073741824 (Crv.mk px py d)) (h0:d≠0):Uj 159 [.one (.row lx),.one (.row ly),.agg [x,y]] [.agg (cl (Crv.norm (Crv.mk px py d))),.oi 0]:=by
 have cd:=Mm hd (Qa hk.d (by omega));have cn:=MK hx hy hd hk;obtain ⟨b,l,rfl,rfl,_⟩:=hd;exact Ug func159 rfl [.k cd,.k Dl,.f (by simpa using h0),.k cn] rfl
theorem Qrx {lx ly:Us} {px py:Um} (hx:IsInts lx px) (hy:IsInts ly py) (hk:Cs 4294967294 1073741824 (Crv.mk px py 0)):Uj 29 [.one (.row lx),.one (.row ly)] [.agg (cl (Crv.norm (Crv.mk px py 0)))] :=
 Ug func29 rfl [.k (MK hx hy QB hk)] rfl
def O8 (x y:Int):Crv:=Crv.norm ⟨trim [x],trim [y],0⟩
theorem uJ {x y:Int} (hx:-9223372036854775808<=x/\x<=9223372036854775807) (hy:-9223372036854775808<=y/\y<=9223372036854775807):Cs 64 1 ⟨trim [x],trim [y],0⟩:=by
 have key:∀ z:Int,-9223372036854775808<=z/\z<=9223372036854775807->Fe z<=64:=λz hz=>by
  rw [Sw];have:(2:Nat)^64=18446744073709551616:=by decide
  omega
 refine ⟨Tw λz hz=>?_,Tw λz hz=>?_,Qh _,H7 [x],H7 [y]⟩
 ·rw [Qk] at hz; rw [hz]; exact key x hx
 ·rw [Qk] at hz; rw [hz]; exact key y hy
theorem Qnk {x y:Int} (hx:-9223372036854775808<=x/\x<=9223372036854775807) (hy:-9223372036854775808<=y/\y<=9223372036854775807):Uj 30 [.oi x,.oi y] [.agg (cl (O8 x y))] :=
 Ug func30 rfl [.k (lK (p:=[x]) (show 1<274877906944 by decide) (by intro z hz; rw [Qk] at hz; rw [hz]; exact hx)),.k (lK (p:=[y]) (show 1<274877906944 by decide) (by intro z hz; rw [Qk] at hz; rw [hz]; exact hy)),.k (Qrx (Gn _) (Gn _) ((uJ hx hy).mono (by omega) (by omega)))] rfl
theorem lR {a b:Crv} (ha:ZA a) (hb:ZA b) (ca:Cs 4294967294 1073741824 a) (cb:Cs 4294967294 1073741824 b):Uj 62 [.agg (cl a),.agg (cl b)] [.one (.bool (Ef a b))]:=by
 have na:=BD ha ca;have nb:=BD hb cb;have alx:=ca.lx;have aly:=ca.ly;have blx:=cb.lx;have bly:=cb.ly;have sx:=MV (p:=a.x) (q:=b.x) (by omega) (by omega) (U5 ca.x (by omega)) (U5 cb.x (by omega));have sy:=MV (p:=a.y) (q:=b.y) (by omega) (by omega) (U5 ca.y (by omega)) (U5 cb.y (by omega));have sd:=HN (U4 a.d) (U4 b.d) (Qa ca.d (by omega)) (Qa cb.d (by omega));rw [ha.1,hb.1] at sx;rw [ha.2.1,hb.2.1] at sy;by_cases h1:a.x=b.x
 ·by_cases h2:a.y=b.y
  ·exact Ug func62 rfl [.k na,.k nb,.k sx,.t (by simpa using h1),.k sy,.t (by simpa using h2),.k sd] rfl (by simp [Ef,h1,h2,jJ]) trivial
  ·exact Ug func62 rfl [.k na,.k nb,.k sx,.t (by simpa using h1),.k sy,.f (by simpa using h2)] rfl (by simp [Ef,h1,h2]) trivial
 ·exact Ug func62 rfl [.k na,.k nb,.k sx,.f (by simpa using h1),.f rfl] rfl (by simp [Ef,h1]) trivial
theorem Tg {l:List Pt} {i:Nat} {p:Pt} (h:l[i]? = some p):(l.map Fc)[i]? = some [pl p.c.x,pl p.c.y,sg p.c.d,mg p.c.d,.int .i64 p.id]:=G5 h
theorem Sp (l:List Pt):∀ c∈l.map Fc,c.length=5:=Qsj l λ_=>rfl
theorem lM {lx ly:Us} {px py:Um} {x y:LV} {d:Int} (hx:IsInts lx px) (hy:IsInts ly py) (hd:Gd x y d) (hk:Cs 4294967294 1073741824 (Crv.mk px py d)) (id:Int):Uj 166 [.agg [.row lx,.row ly,x,y,.int .i64 id]] [.agg (Fc ⟨Crv.norm (Crv.mk px py d),id⟩)]:=by
 have cd:=Mm hd (Qa hk.d (by omega));by_cases h0:d=0
 ·subst h0;have ck:Cs 4294967294 1073741824 (Crv.mk px py 1):=⟨hk.x,hk.y,show Fe 1<=4294967294 by decide,hk.lx,hk.ly⟩;have cm:=UF hx hy (U4 1) ck (by decide);have e:Crv.norm (Crv.mk px py 1)=Crv.norm (Crv.mk px py 0):=by simp only [Crv.norm,Crv.g,Crv.d']; rfl
  rw [e] at cm;obtain ⟨b,l,rfl,rfl,_⟩:=hd;exact Ug func166 rfl [.k cd,.k Dl,.t (by simp),.k (BH (z:=1) (by decide)),.k cm] rfl
 ·have cm:=UF hx hy hd hk h0;obtain ⟨b,l,rfl,rfl,_⟩:=hd;exact Ug func166 rfl [.k cd,.k Dl,.f (by simpa using h0),.k cm] rfl
theorem Qft {l:List Pt} (id:Int) (hl:l.length<1073741824):Uj 165 [.agg [pts l],.oi id] [.oi (Rw l id:Int),.one (.bool (has l id))]:=by
 refine Fv func165 rfl ?_;refine Ud [] rfl ?_;refine ct 2 (S:=Unit) (λ_=>[(1,.v (.oi id)),(2,.v (.one (.ow 0 0))),(6,.v (.oi (Rw l id:Int)))]) (λ_=>[.blk 149 [pts l]]) (λ_=>True) rfl ?_ ?_
 ·refine Ui (S:=Nat) 1 (λL1 k=>(6,.v (.oi k))::L1) (λ_=>[.blk 149 [pts l]]) (λk=>l.length-k) (λk=>k<=l.length/\∀ j p,j<k->l[j]? = some p->p.id<id) 0 ⟨Qh _,λj p h=>by omega⟩ rfl rfl λk ⟨hk,hlt⟩=>?_
  by_cases h:k<l.length
  ·obtain ⟨p,hp⟩:=gxE (l:=l) (i:=k) h;by_cases hid:p.id<id
   ·refine Ue [.t (by simp; omega),.x (Tg hp),.t (by simpa using hid)] rfl ?_;exact rd (k+1) (by omega) ⟨h,λj q hj hq=>by
     rcases Zb j k with h2 | h2
     ·exact hlt j q h2 hq
     ·have:j=k:=by omega
      subst this; rw [hp] at hq; injection hq with hq; rw [<-hq]; exact hid⟩ rfl
   ·have e:=EU hlt (.inr ⟨p,hp,hid⟩);refine Ud [.t (by simp; omega),.x (Tg hp),.f (by simpa using hid)] rfl ?_;rw [e];exact rc () trivial rfl
  ·obtain rfl:k=l.length:=by omega
   have e:=EU hlt (.inl rfl);refine Ud [.f (by simp),.f rfl] rfl ?_;rw [e];exact rc () trivial rfl
 ·intro _ _;by_cases h:Rw l id<l.length
  ·obtain ⟨p,hp⟩:=gxE (l:=l) (i:=Rw l id) h;have e:has l id=decide (p.id=id):=by simp [has,hp]
   rw [e];exact Uf [.g 30 true (by simp; omega),.x (Tg hp)] rfl
  ·have e:has l id=false:=by simp [has,Qw (J8 h)]
   rw [e];exact Uf [.g 30 false (by simp; omega)] rfl
theorem Ir {l:List Pt}:Uj 108 [.agg [pts l]] [.one (pts l)]:=Ug func108 rfl [] rfl
theorem wG {lx ly:Us} {px py:Um} {x y:LV} {d id:Int} {l:List Pt} (hx:IsInts lx px) (hy:IsInts ly py) (hd:Gd x y d) (hk:Cs 4294967294 1073741824 (Crv.mk px py d)) (hl:l.length<=1000000) :
 Uj 104 [.agg [pts l],.agg [.row lx,.row ly,x,y,.int .i64 id]] [.agg [pts (if WR l (Pt.mk (Crv.norm (Crv.mk px py d)) id)=0 then put l (Pt.mk (Crv.norm (Crv.mk px py d)) id) else l)],.oi (WR l (Pt.mk (Crv.norm (Crv.mk px py d)) id))]:=by
 have ca:=Qft (l:=l) id (by omega);have cf:=lM hx hy hd hk id;obtain ⟨b,r,rfl,rfl,_⟩:=hd;obtain ⟨q,hq⟩:=nmE (Pt.mk (Crv.norm (Crv.mk px py d)) id);have hqi:q.id=id:=by rw [hq]
 rw [<-hq] at cf ⊢;have hpl:=yO l id;by_cases h1:has l id=true
 ·have e:WR l q=6:=by simp [WR,hqi,h1]
  rw [e,if_neg (by decide)];exact Ug func104 rfl [.k ca,.t h1] rfl
 by_cases h2:6<=l.length
 ·have e:WR l q=9:=by simp [WR,hqi,h1,h2]
  rw [e,if_neg (by decide)];exact Ug func104 rfl [.k ca,.f (by simpa using h1),.t (by simp; omega)] rfl
 have e:WR l q=0:=by simp [WR,hqi,h1,h2]
 rw [e,if_pos rfl];have s1:∀ c∈(l.map Fc).take (Rw l id),c.length=5:=λc hc=>Sp l c (Qo hc)
 have s3:∀ c∈(l.map Fc).drop (Rw l id),c.length=5:=λc hc=>Sp l c (Qz hc)
 refine Ug func104 rfl [.k ca,.f (by simpa using h1),.f (by simp; omega),.i (Rw l id),.s s1,.k cf,.i (Rw l id),.s s3] rfl ?_ ?_
 ·simp [put,hqi,pts,Jv,Vh,Fc]
 ·simp [U3];exact ⟨by omega,hpl,λ_ _=>rfl,by omega,by omega,hpl⟩
theorem mY {l:List Pt} (hok:∀ p∈l,Qav 4294967294 1073741824 p) (hl:l.length<1073741824):Uj 113 [.agg [pts l]] [.one (pts (To l))]:=by
 refine Fv func113 rfl ?_;refine Ud [.o 3 62 5] rfl ?_;refine Ui (S:=Nat) 2 (λL1 i=>(12,.v (.oi i))::(3,.v (.one (.orow 1 5 none)))::L1) (λi=>[.blk 149 [pts l],.row false 62 5 (((l.take i).foldl Ca []).map Fc)]) (λi=>l.length-i) (λi=>i<=l.length) 0 (Qh _) rfl rfl λi hi=>?_
 by_cases hlt:i<l.length
 ·obtain ⟨p,hp⟩:=gxE (l:=l) (i:=i) hlt;obtain ⟨hn,hk⟩:=hok p (Qc hp);have hws:=Sf Ca [] l hp;have hwl:=KU l i;have hwm:=KF l i;obtain ⟨o,ho⟩:=nmE ((l.take i).foldl Ca []);rw [<-ho] at hws hwl hwm ⊢;refine Ud [.t (by simp; omega),.x (Tg hp)] rfl ?_;refine Ui (S:=Nat) 3 (λL1 k=>(18,.v (.oi k))::(6,.v (.one (.bool ((o.take k).any λq=>Ef p.c q.c))))::L1) (λk=>[.blk 149 [pts l],.row false 62 5 (o.map Fc),.blk 62 (Fc p)]) (λk=>o.length-k) (λk=>k<=o.length) 0 (Qh _) rfl rfl λk hk2=>?_
  by_cases hk3:k<o.length
  ·obtain ⟨q,hq⟩:=gxE (l:=o) (i:=k) hk3;obtain ⟨hqn,hqk⟩:=hok q (hwm q (Qc hq));have hany:((o.take (k+1)).any λq=>Ef p.c q.c)=(((o.take k).any λq=>Ef p.c q.c) || Ef p.c q.c):=by rw [Y7,hq,List.any_append]; simp
   cases hb:(o.take k).any λq=>Ef p.c q.c with
   |
    true =>
    rw [hb] at hany;refine Ue [.t (by simp; omega),.i k,.x (Tg hq),.t rfl,.r 29 (v:=.one (.bool ((o.take (k+1)).any λq=>Ef p.c q.c))) (by rw [hany]; rfl)] rfl ?_;exact rd (k+1) (by omega) hk3 rfl
   |
    false =>
    rw [hb] at hany;refine Ue [.t (by simp; omega),.i k,.x (Tg hq),.f rfl,.k (lR hn hqn hk hqk),.r 29 (v:=.one (.bool ((o.take (k+1)).any λq=>Ef p.c q.c))) (by rw [hany]; rfl)] rfl ?_;exact rd (k+1) (by omega) hk3 rfl
  ·obtain rfl:k=o.length:=by omega
   rw [Q6];cases hb:o.any λq=>Ef p.c q.c with
   |
    true =>
    have e:Ca o p=o:=by unfold Ca; rw [if_pos hb]
    exact go tt [.f (by simp),.f rfl] rfl (by simp [U3]; omega) (rd (i+1) (by omega) hlt (by rw [hws,e]; rfl))
   |
    false =>
    have e:Ca o p=o++[p]:=by unfold Ca; rw [if_neg (by rw [hb]; decide)]
    exact go tt [.f (by simp),.t rfl] rfl (by simp [U3]; omega) (rd (i+1) (by omega) hlt (by rw [hws,e,Yh]; rfl))
 ·obtain rfl:i=l.length:=by omega
  exact Uf [.f (by simp)] rfl (by rw [Q6]; rfl) trivial
theorem Qal (q:Rat):Ff [-q.num,(q.den:Int)]:=by
 have:=q.den_nz;simp [Ff,trim,this]
theorem Qxh {s:Nat} {q:Rat} (h:Qs s q):Bd s [-q.num,(q.den:Int)]:=λz hz=>by
 simp at hz;rcases hz with rfl | rfl
 ·rw [Hm]; exact h.1
 ·exact h.2
theorem VI {x y x' y':LV} {n d:Int} (h1:Gd x y n) (h2:Gd x' y' d) (hn:Fe n<=4294967295) (hd:Fe d<=4294967295) (hq:Qs 4294967295 (Gh n d)):Uj 69 [.agg [x,y,x',y']] [.agg (qa (Gh n d))]:=by
 have c1:=BO h1 h2 hn hd;obtain ⟨b,l,rfl,rfl,_⟩:=h1;obtain ⟨b',l',rfl,rfl,_⟩:=h2;exact Ug func69 rfl [.k c1,.k (BG (U4 _) hq.1),.k (Nx hq)] rfl
theorem Dx {k:Crv} (hn:ZA k) (hk:Cs 4294967294 1073741824 k):Uj 181 [.agg (cl k)] [.agg (cl k)]:=by
 have h0:k.d≠0:=by have:=hn.2.2.1; omega
 have cm:=UF (Gn k.x) (Gn k.y) (U4 k.d) hk h0;rw [show Crv.mk k.x k.y k.d=k from rfl,Crv.norm_of hn] at cm;exact Ug func181 rfl [.k (Mm (U4 k.d) (Qa hk.d (by omega))),.k Dl,.f (by simpa using h0),.k cm] rfl
theorem UW {a b:Crv} (ha:ZA a) (hb:ZA b) (ca:Cb a) (cb:Cb b):Uj 173 [.agg (cl a),.agg (cl b)] [pr (Gm a b)]:=by
 have l1:=ca.lx;have l2:=cb.lx;have l3:=Fx b.x a.d;have l4:=Fx a.x b.d;exact Ug func173 rfl [.k (Dx ha (ca.mono (by omega) (by omega))),.k (Dx hb (cb.mono (by omega) (by omega))),.k (Pq (by omega) (U5 cb.x (by omega)) (Qa ca.d (by omega))),.k (Pq (by omega) (U5 ca.x (by omega)) (Qa cb.d (by omega))),.k (HT (by omega) (by omega) (U5 (Ge cb.x ca.d) (by omega)) (U5 (Ge ca.x cb.d) (by omega)))] rfl
theorem UY {a b:Crv} (ha:ZA a) (hb:ZA b) (ca:Cb a) (cb:Cb b):Uj 174 [.agg (cl a),.agg (cl b)] [pr (Gl a b)]:=by
 have l1:=ca.ly;have l2:=cb.ly;have l3:=Fx b.y a.d;have l4:=Fx a.y b.d;exact Ug func174 rfl [.k (Dx ha (ca.mono (by omega) (by omega))),.k (Dx hb (cb.mono (by omega) (by omega))),.k (Pq (by omega) (U5 cb.y (by omega)) (Qa ca.d (by omega))),.k (Pq (by omega) (U5 ca.y (by omega)) (Qa cb.d (by omega))),.k (HT (by omega) (by omega) (U5 (Ge cb.y ca.d) (by omega)) (U5 (Ge ca.y cb.d) (by omega)))] rfl
def Pg (ps:Un):Us:=ps.map λp=>[pl p]
theorem Rp {ps:Un} {i:Nat} {p:Um} (h:ps[i]? = some p):(Pg ps)[i]? = some [pl p]:=G5 h
theorem wT {p q:Um}:Uj 172 [pr p,pr q] [pr (Lx p q)]:=by
 by_cases h:0<p.length
 ·exact Ug func172 rfl [.t (by simp; omega)] rfl (by simp only [Lx]; rw [if_pos h]) trivial
 ·exact Ug func172 rfl [.f (by simp; exact Qj (by omega))] rfl (by simp only [Lx]; rw [if_neg h]) trivial
theorem Qbp:Uj 171 [.oi 1] [.oi 2]:=Ug func171 rfl [.t rfl,.t rfl] rfl
theorem Qbq:Uj 171 [.oi 2] [.oi 2]:=Ug func171 rfl [.f rfl,.t rfl] rfl
theorem Qbr:Uj 171 [.oi 3] [.oi 3]:=Ug func171 rfl [.f rfl,.f rfl,.t rfl] rfl
theorem Qbs:Uj 171 [.oi 4] [.oi 4]:=Ug func171 rfl [.f rfl,.f rfl,.f rfl,.t rfl,.t rfl] rfl
theorem Qbt:Uj 171 [.oi 5] [.oi 4]:=Ug func171 rfl [.f rfl,.f rfl,.f rfl,.f rfl,.t rfl] rfl
theorem Qeu {k i0 i1 i2 i3 l j0 j1 j2 j3:Int}:Uj 207 [.agg [.int .i64 k,.int .i64 i0,.int .i64 i1,.int .i64 i2,.int .i64 i3],.agg [.int .i64 l,.int .i64 j0,.int .i64 j1,.int .i64 j2,.int .i64 j3]] [.one (.bool (Dd [k,i0,i1,i2,i3] [l,j0,j1,j2,j3]))]:=by
 by_cases hk:k=l
 ·subst hk;rw [show Dd [k,i0,i1,i2,i3] [k,j0,j1,j2,j3]=Dd [i0,i1,i2,i3] [j0,j1,j2,j3] from by simp [Dd]];refine Fv func207 rfl ?_;refine Ud [.f (by simp)] rfl ?_;refine Ui (S:=Nat) 2 (λL1 i=>(19,.v (.oi i))::L1) (λ_=>[.blk 142 [.int .i64 k,.int .i64 i0,.int .i64 i1,.int .i64 i2,.int .i64 i3],.blk 142 [.int .i64 k,.int .i64 j0,.int .i64 j1,.int .i64 j2,.int .i64 j3]]) (λi=>4-i) (λi=>i<=4/\Dd ([i0,i1,i2,i3].drop i) ([j0,j1,j2,j3].drop i)=Dd [i0,i1,i2,i3] [j0,j1,j2,j3]) 0 ⟨by omega,rfl⟩ rfl rfl λi ⟨hi,he⟩=>?_
  rw [<-he];rcases (show i=0\/i=1\/i=2\/i=3\/i=4 by omega) with rfl | rfl | rfl | rfl | rfl
  ·by_cases h:i0=j0
   ·exact go tt [.t rfl,.i 0,.i 0,.f (by simpa using h)] rfl (by simp [U3]) (rd 1 (by omega) ⟨by omega,by simp [Dd,h]⟩ rfl)
   ·exact Uf [.t rfl,.i 0,.i 0,.t (by simpa using h),.i 0] rfl (by simp [Dd,h]) trivial
  ·by_cases h:i1=j1
   ·exact go tt [.t rfl,.i 1,.i 1,.f (by simpa using h)] rfl (by simp [U3]) (rd 2 (by omega) ⟨by omega,by simp [Dd,h]⟩ rfl)
   ·exact Uf [.t rfl,.i 1,.i 1,.t (by simpa using h),.i 1] rfl (by simp [Dd,h]) trivial
  ·by_cases h:i2=j2
   ·exact go tt [.t rfl,.i 2,.i 2,.f (by simpa using h)] rfl (by simp [U3]) (rd 3 (by omega) ⟨by omega,by simp [Dd,h]⟩ rfl)
   ·exact Uf [.t rfl,.i 2,.i 2,.t (by simpa using h),.i 2] rfl (by simp [Dd,h]) trivial
  ·by_cases h:i3=j3
   ·exact go tt [.t rfl,.i 3,.i 3,.f (by simpa using h)] rfl (by simp [U3]) (rd 4 (by omega) ⟨by omega,by simp [Dd,h]⟩ rfl)
   ·exact Uf [.t rfl,.i 3,.i 3,.t (by simpa using h),.i 3] rfl (by simp [Dd,h]) trivial
  ·exact Uf [.f rfl] rfl (by simp [Dd]) trivial
 ·exact Ug func207 rfl [.t (by simpa using hk)] rfl (by simp [Dd,hk]) trivial
abbrev zCt:Ur:=[.int .i64 0,.int .i64 0,.int .i64 0,.int .i64 0,.int .i64 0,.nils,.int .i64 0]
def U8 (l:List Ct):Us:=l.map Dq
theorem XJ {l:List Ct} {i:Nat} {c:Ct} (h:l[i]? = some c):(U8 l)[i]? = some (Dq c):=G5 h
theorem Pn (l:List Ct):(U8 l).length=l.length:=by simp [U8]
theorem I8 (l:List Ct):∀ c∈U8 l,c.length=7:=λc hc=>by
 obtain ⟨x,_,rfl⟩:=Za.1 hc; rfl
theorem Qif {O:List Ct} {z:Ur} {c:Ct} {k m:Nat} {l2:Us} (hk:k<=O.length) (hp:JR O c O.length=k) (hm:m=O.length-k) (h2:l2.take m=((U8 O++[z]).drop k).take m) :
 ((U8 O++[z]).take (k+1)++(l2.take m++(U8 O++[z]).drop (k+1+m))).set k (Dq c)=U8 (WQ O c):=by
 rw [h2,<-Zd,fS (U8 O) z (Dq c) (by rw [Pn]; omega) (by rw [Pn]; omega)];simp [WQ,hp,U8,Jv,Vh]
theorem HM {l:List Ct} (hl:∀ c∈l,Pb c.p) (hn:l.length≤1000000):Uj 167 [.one (.row (U8 l))] [.one (.row (U8 (Fo l)))]:=by
 have hcl:=Pn l;refine Fv func167 rfl ?_;refine Ud [.o 3 144 7] rfl ?_;refine Ui (S:=Nat) 1 (λL1 i=>(9,.v (.oi i))::(3,.v (.one (.orow 0 7 none)))::L1) (λi=>[.row false 144 7 (U8 (Fo (l.take i)))]) (λi=>l.length-i) (λi=>i<=l.length) 0 (Qh _) rfl rfl λi hi=>?_
 by_cases hlt:i<l.length
 ·obtain ⟨c,hc⟩:=gxE (l:=l) (i:=i) hlt;have hst:=cI hc;have hcp:=hl c (Qc hc);obtain ⟨O,hO⟩:=nmE (Fo (l.take i));have hOl:O.length=i:=by rw [hO,Mx,Qq]; omega
  rw [<-hO] at hst ⊢;refine Ud [.t (by simp [hcl]; omega),.x (XJ hc)] rfl ?_;refine Ui (S:=Nat) 2 (λL1 k=>(6,.v (.oi k))::L1) (λk=>[.row false 144 7 (U8 O),.blk 144 (Dq c)]) id (λk=>k<=O.length/\JR O c k=JR O c O.length) (U8 O).length ⟨by rw [Pn]; exact Ql _,by rw [Pn]⟩ rfl rfl λk ⟨hk,hp⟩=>?_
  have hz:∀ y∈[zCt],y.length=7:=λy hy=>by rw [Qk.1 hy]; rfl
  have h77:∀ y∈U8 O++[zCt],y.length=7:=λy hy=>by
   rcases Qr.1 hy with hy | hy
   ·exact I8 O y hy
   ·exact hz y hy
  cases k with
  |
   zero =>
   have hp:JR O c O.length=0:=by rw [<-hp]; rfl
   refine go tt [.g 17 false (by simp),.f rfl,.s (sz:=7) hz,.r 36 (eI (b:=((0+1:Nat):Int)) (by simp)),.i (0+1),.i (0),.s (sz:=7) (λy hy=>h77 y (Qo hy)),.i (O.length),.k (Ht hcp.t (by have:=hcp.l; omega) (U5 hcp.b (by omega))),.i (0)] rfl (by simp [U3,Pn]; omega) ?_;exact rd (i+1) (by omega) hlt (by rw [hst,<-Qif (z:=zCt) (l2:=(U8 O++[zCt]).take ((U8 O++[zCt]).length-0)) (k:=0) (m:=O.length) (by omega) hp (by omega) (by congr 1; exact Qn (by simp))]; rfl)
  |
   succ k =>
   obtain ⟨x,hx⟩:=gxE (l:=O) (i:=k) (by omega);by_cases hlc:fD c x=true
   ·refine go tt [.g 17 true (by simp),.r 22 (eI (b:=(k:Int)) (by simp)),.i k,.x (XJ hx),.k Qeu,.t hlc,.r 29 (eI (b:=(k:Int)) (by simp))] rfl (by simp [U3,Pn]; omega) ?_;exact rd k (by simp) ⟨by omega,by rw [<-hp,Qpu hx hlc]⟩ rfl
   ·have hlc:fD c x=false:=by simpa using hlc
    have hp:JR O c O.length=k+1:=by rw [<-hp,Qjw hx hlc]
    refine go tt [.g 17 true (by simp),.r 22 (eI (b:=(k:Int)) (by simp)),.i k,.x (XJ hx),.k Qeu,.f hlc,.s (sz:=7) hz,.r 36 (eI (b:=((k+1+1:Nat):Int)) (by simp)),.i (k+1+1),.i (k+1),.s (sz:=7) (λy hy=>h77 y (Qz (Qo hy))),.i (O.length-(k+1)),.k (Ht hcp.t (by have:=hcp.l; omega) (U5 hcp.b (by omega))),.i (k+1)] rfl (by simp [U3,Pn]; omega) ?_;exact rd (i+1) (by omega) hlt (by rw [hst,<-Qif (z:=zCt) (l2:=((U8 O++[zCt]).drop (k+1)).take ((U8 O++[zCt]).length-(k+1))) (k:=k+1) (m:=O.length-(k+1)) (by omega) hp (by omega) (by congr 1; exact Qn (by simp))]; rfl)
 ·obtain rfl:i=l.length:=by omega
  rw [Q6];exact Uf [.f (by simp [hcl])] rfl
end Orr
namespace Orr
def Fq (p:Um):Int:=p.getD (p.length-1) 0
def IE (p:Um):Option Um:=if p.length<=64/\(p.all λz=>Nat.ble (Fe z) 16777216)=true then some p else none
def chq (q:Rat):Option Rat:=if Fe q.num<=16777216/\Fe (q.den:Int)<=16777216 then some q else none
def Pj (p:Um):Int:=(Rz p:Nat)
def De (p:Um) (c:Int):Um:=trim (p.map (· / c))
def Ho (p:Um):Int:=if Fq p<0 then -Pj p else Pj p
def Fi (p:Um):Um:=if p.length=0 then [] else De p (Ho p)
def mono (i:Nat) (x:Int):Um:=List.replicate i 0++[x]
def rC (b:Um) (c:Int):Nat->Um×Um->Um×Um
 | 0,s=>s
 |
  i+1,(q,r) =>
  rC b c i (A7 (Fw q c) (mono i (if r.length=b.length+i then Fq r else 0)),M7 (Fw r c) (Gk (trim (mono i (if r.length=b.length+i then Fq r else 0))) b))
def Md (a b:Um):Um:=(rC b (Fq b) (a.length+1-b.length) ([],a)).2
def B6 (a b r:Um):Um:=if (a.length+1-b.length) % 2=1/\Fq b<0 then Ms r else r
def KJ (r:Um):Um:=if r.length=0 then [] else De r (Pj r)
def Ta (a b:Um):Um:=KJ (B6 a b (Md a b))
def yL (b:Um):Nat->Um->Um->Option Um
 | 0,a,q=>if a.length=0 then some q else none
 | i+1,a,q=>if a.length<b.length+i then yL b i a q else if Fq a % Fq b=0 then yL b i (M7 a (Gk (trim (mono i (Fq a / Fq b))) b)) (q.set i (Fq a / Fq b)) else none
def JS (a b:Um):Option Um:=if b.length=0 then none else (yL b (a.length+1-b.length) a (List.replicate (a.length+1-b.length) 0)).bind λq=>IE (trim q)
def TB:Nat->Um->Um->Option Um
 | 0,_,_=>none
 | k+1,a,b=>if b.length=0 then some a else (IE (Ta a b)).bind λr=>TB k b r
def JM (a b:Um):Option Um:=(TB 66 (Fi a) (Fi b)).map Fi
def yA (a b:Um):Option Um:=(JM [] a).bind λg=>JM g b
def Pp (a:Um):Option Um:=if (Fi a).length<2 then some (Fi a) else (IE (Gx (Fi a))).bind λd=>(JM (Fi a) d).bind λg=>JS (Fi a) g
def RN:Nat->Um->Option Un
 | 0,_=>none
 | k+1,g=>if g.length<2 then some [] else (IE (Gx g)).bind λd=>(JM g d).bind λh=>(JS g h).bind λw=>(RN k h).bind λl=>some (w::l)
def AA:Un->Option Un
 | []=>some []
 | [w]=>some [w]
 | w::v::l=>(JS w v).bind λf=>(AA (v::l)).bind λr=>some (f::r)
def FD:Nat->Um->Un->Option Um
 | _,p,[]=>some p
 | i,p,f::l=>if i % 2=0 then (IE (Gk p f)).bind λq=>FD (i+1) q l else FD (i+1) p l
def bN (a:Um):Option Um:=if (Fi a).length=0 then some [] else (RN 66 (Fi a)).bind λl=>(AA l).bind λfs=>FD 0 [1] fs
def sE:Nat->Um->Um->Option Un
 | 0,_,_=>none
 | k+1,a,b=>if b.length=0 then some [] else (IE (Ta a b)).bind λr=>(sE k b (Ms r)).bind λl=>some (b::l)
def Ee (p:Um):Option Un:=(Pp p).bind λa=>if a.length=0 then none else (IE (Gx a)).bind λd=>(sE 66 a (Fi d)).bind λl=>some (a::l)
def Pw (sg:Um->Int) (s:Nat×Int) (p:Um):Nat×Int:=if sg p=0 then s else (if s.2=-(sg p) then s.1+1 else s.1,sg p)
def C7 (sg:Um->Int) (l:Un):Nat:=(l.foldl (Pw sg) (0,0)).1
def C9 (l:Un) (q:Rat):Nat:=C7 (λp=>Ra p q) l
def Tq (l:Un) (lo hi:Rat):Int:=if He hi lo<0 then 0 else (C9 l lo:Int)-(C9 l hi:Int)
def UI (p:Um):Int:=Int.sign (Fq p)
def ZP (p:Um):Int:=if p.length % 2=0 then -Int.sign (Fq p) else Int.sign (Fq p)
def JC (l:Un):Int:=(C7 ZP l:Int)-(C7 UI l:Int)
def most:Um->Nat:=λl=>l.foldl (λm z=>if m<z.natAbs then z.natAbs else m) 0
def Gw (p:Um):Rat:=Rat.divInt (((Fq p).natAbs:Int)+(most (p.take (p.length-1)):Int)) ((Fq p).natAbs:Int)
def mid (a b:Rat):Rat:=Rat.divInt (a.num*(b.den:Int)+b.num*(a.den:Int)) ((a.den:Int)*(b.den:Int)*2)
def Ax (p:Um) (c:Un):Nat->Rat->Rat->Int->Option (List Tm)
 | 0,_,_,_=>none
 | k+1,lo,hi,n=>if n=0 then some [] else if n=1 then some [⟨p,lo,hi⟩] else (chq (mid lo hi)).bind λm=>(Ax p c k lo m (Tq c lo m)).bind λl=>(Ax p c k m hi (n-Tq c lo m)).bind λr=>some (l++r)
def PX (p:Um):Option (List Tm):=(Ee p).bind λc=>(Pp p).bind λq=>(chq (Gw q)).bind λb=>Ax q c 100000 (-b) b (JC c)
def Tm.point (a:Tm):Bool:=decide (0<=He a.lo a.hi)
def low (p:Um) (q:Rat):Int:=if Ra p q≠0 then Ra p q else Ra (Gx p) q
def FY (p:Um) (lo hi:Rat):Bool:=decide (Ra p hi=0\/Ra p hi≠low p lo)
def Fp (a:Tm) (t:Rat):Int :=
 if a.point=true then He a.lo t else if He t a.lo<=0 then 1 else if 0<He t a.hi then -1 else if Ra a.p t=0 then 0 else if Ra a.p t=low a.p a.lo then 1 else -1
def jC (a:Tm):Option Tm:=if a.point=true then some a else (chq (mid a.lo a.hi)).bind λm =>
 some (if Fp a m=0 then ⟨a.p,m,m⟩ else if Fp a m=-1 then ⟨a.p,a.lo,m⟩ else ⟨a.p,m,a.hi⟩)
def Ha (p:Um):Nat:=p.foldl (λn z=>max n (Fe z)) 0
def P8 (a b:Tm):Nat:=64+2*(Fe a.lo.num+Fe a.hi.num+Fe b.lo.num+Fe b.hi.num)+4*(a.p.length+b.p.length)*(Ha a.p+Ha b.p+(a.p.length+b.p.length)+8)
def EN (a b:Rat):Rat:=Rat.divInt (a.num*(b.den:Int)-b.num*(a.den:Int)) ((a.den:Int)*(b.den:Int))
def D8 (a b:Tm):Bool:=decide (He a.hi b.lo<=0/\¬((a.point=true/\b.point=true)/\He a.hi b.lo=0))
def AB:Nat->Tm->Tm->Option (Tm×Tm×Int)
 | 0,a,b=>some (a,b,0)
 |
  k+1,a,b=>if D8 a b=true then some (a,b,-1) else if D8 b a=true then some (a,b,1) else
  if 0<=He (EN a.hi a.lo) (EN b.hi b.lo) then (jC a).bind λx=>AB k x b else (jC b).bind λx=>AB k a x
def US (a b:Tm):Option Int:=if a.point=true then some (-Fp b a.lo) else if b.point=true then some (Fp a b.lo) else
 let lo:=if 0<He b.lo a.lo then b.lo else a.lo
 let hi:=if He b.hi a.hi<0 then b.hi else a.hi
 if He lo hi<0 then (yA a.p b.p).bind λg=>if 1<g.length/\FY g lo hi=true then some 0 else (AB (P8 a b) a b).bind λr=>some r.2.2
 else (AB (P8 a b) a b).bind λr=>some r.2.2
def sgF (c:Un):Nat->Tm->Option Tm
 | 0,a=>some a
 | k+1,a=>if a.point=true\/Tq c a.lo a.hi=0 then some a else (jC a).bind λx=>sgF c k x
def GT (p:Um) (a:Tm):Option Int:=if p.length=0 then some 0 else if a.point=true then some (Ra p a.lo) else
 (yA p a.p).bind λg=>if 1<g.length/\FY g a.lo a.hi=true then some 0 else (Ee p).bind λc=>(sgF c (64+2*(Fe a.lo.num+Fe a.hi.num)+4*(a.p.length+p.length)*(Ha a.p+Ha p+(a.p.length+p.length)+8)) a).bind λx=>some (Ra p x.hi)
def QL:Tm->List Tm->Option Tm
 | b,[]=>some b
 | b,a::l=>(US a b).bind λc=>QL (if c<0 then a else b) l
def KZ (a:Tm):List Tm->Option (Option Tm)
 | []=>some none
 | r::l=>(US r a).bind λc=>if 0<c then some (some r) else KZ a l
def WL (p:Um):Option (List Tm):=(bN p).bind λq=>if q.length=0 then some [] else PX q
def SE (p:Um) (a:Tm):Option (Option Tm):=(WL p).bind λl=>KZ a l
end Orr
namespace Orr
open Go Go.Proofs Tryz
set_option maxRecDepth 10000
theorem Er {p:Um} (tp:Ff p) (h:p.length≠0):Fq p≠0:=H8 tp (by omega)
theorem LK {p:Um} (h:p.length≠0):Fq p∈p:=Qc (Ri (by omega))
theorem Nc {s:Nat} {p:Um} (h:Bd s p):Fe (Fq p)<=s:=Ft h _
theorem E9 {p:Um}:∀ z∈p,Pj p∣z:=XR
theorem JF {p:Um} (tp:Ff p) (h:p.length≠0):Pj p≠0:=λh0=>Er tp h (Int.zero_dvd.1 (h0 ▸ E9 _ (LK h)))
theorem YL {p:Um} (h:Bd 4294967295 p):Fe (Pj p)<=4294967295:=MC h
theorem oJ {p:Um} (tp:Ff p) (h:p.length≠0):Ho p≠0:=by
 have:=JF tp h;unfold Ho; split <;> omega
theorem GQ {p:Um}:∀ z∈p,Ho p∣z:=λz hz=>by
 unfold Ho; split
 ·exact Uc.2 (E9 z hz)
 ·exact E9 z hz
theorem Qik {p:Um} (h:Bd 4294967295 p):Fe (Ho p)<=4294967295:=by
 unfold Ho; split
 ·rw [Hm]; exact YL h
 ·exact YL h
theorem BX {s:Nat} {p:Um} (h:Bd s p) (c:Int):Bd s (De p c):=Tw (HF h c)
theorem qV (p:Um) (c:Int):(De p c).length<=p.length:=Qa (H7 _) (by simp)
theorem ZY (p:Um) (c:Int):Ff (De p c):=Rq _
theorem Qjq {p:Um} (h:Pb p) (c:Int):Pb (De p c):=⟨ZY _ _,Qa (qV _ _) h.l,BX h.b c⟩
theorem TZ:Pb []:=⟨rfl,by simp,ZO⟩
theorem Ry {p:Um} (h:Pb p):Pb (Fi p):=by
 unfold Fi; split
 ·exact TZ
 ·exact Qjq h _
theorem Pb.bd {p:Um} (h:Pb p):Bd 4294967295 p:=U5 h.b (by omega)
theorem Pb.ln {p:Um} (h:Pb p):p.length<274877906944:=Z3 h.l (by omega)
theorem Pb.ln' {p:Um} (h:Pb p):p.length<8589934592:=Z3 h.l (by omega)
theorem QR {p q:Um} (tp:Ff p) (h:IE p=some q):q=p/\Pb p:=by
 unfold IE at h
 split at h
 ·rename_i hc;injection h with h;refine ⟨h.symm,tp,hc.1,λz hz=>?_⟩;have:=Jt.1 hc.2 z hz;exact Zf this
 ·cases h
theorem lS {p:Um} {g:Int} (hl:p.length<274877906944) (hp:Bd 4294967295 p) (hg:Fe g≤4294967295) (h0:g≠0) (hd:∀ z∈p,g∣z):Uj 256 [pr p,.agg (G8 g)] [pr (De p g)]:=by
 refine Fv func256 rfl ?_;refine Ue [.r 9 (eI (b:=(p.length:Int)) (by simp)),.i p.length,.i p.length,.r 12 (eI (b:=(p.length:Int)) (by simp))] rfl ?_;rw [Ak λk=>G8 (p.getD k 0 / g)];refine Ui (S:=Nat) 2 (λL1 k=>(13,.v (.oi k))::L1) (λk=>[.blk 36 (G8 g),.row false 36 2 (AS (λk=>G8 (p.getD k 0 / g)) [.bool false,.nils] p.length k)]) (λk=>p.length-k) (λk=>k<=p.length) 0 (Qh _) rfl rfl λk hk=>?_
 by_cases hlt:k<p.length
 ·have hg2:=Ri hlt;refine go tt [.t (by simp; omega),.x (Pf hg2),.k (Ia (U4 _) (U4 _) (Ft hp k) hg h0 (Jx (hd _ (Qc hg2)))),.i k] rfl (by simp [U3,Ik]; omega) ?_;have e:=QN (λk=>G8 (p.getD k 0 / g)) [.bool false,.nils] hlt;rw [e];exact rd (k+1) (by omega) hlt rfl
 ·obtain rfl:k=p.length:=by omega
  have e:AS (λk=>G8 (p.getD k 0 / g)) [.bool false,.nils] p.length p.length=(p.map (· / g)).map G8:=by
   rw [QM];refine Xl λi=>?_
   by_cases hi:i<p.length
   ·simp [X2 hi,List.getD,Qe hi]
   ·simp [Qw,hi]
  rw [e];exact Uf [.f (by simp),.k (Ch (Gn (p.map (· / g))) (by simp; exact hl) (HF hp g))] rfl
theorem HH {p:Um} (hl:p.length<8589934592) (hp:Bd 4294967295 p):Uj 257 [.one (.row [[pl p]])] [.agg (G8 (Pj p))]:=by
 refine Fv func257 rfl ?_;refine Ud [.o 3 36 2] rfl ?_;refine Ui (S:=Nat) 2 (λL1 i=>(8,.v (.oi i))::(3,.v (.one (.orow 1 2 none)))::L1) (λi=>[.blk 36 [.bool false,.nils],.row false 36 2 (if i=0 then [] else p.map G8)]) (λi=>1-i) (λi=>i<=1) 0 (Qh _) rfl rfl λi hi=>?_
 rcases (show i=0\/i=1 by omega) with rfl | rfl
 ·refine Ue [.t rfl,.x (i:=0) (xs:=[pl p]) rfl,.s (EJ p)] rfl ?_;exact rd 1 (by omega) (by omega) rfl
 ·exact Uf [.f rfl,.k (Qep (Gn p) hp)] rfl
theorem Qf6 {p:Um} (tp:Ff p) (hl':p.length<8589934592) (hp:Bd 4294967295 p):Uj 250 [pr p] [.agg (G8 (if p.length=0 then 0 else Ho p)),pr (Fi p)]:=by
 have hl:p.length<274877906944:=by omega
 have cn:=Ht tp hl hp;by_cases h0:p.length=0
 ·have e:p=[]:=Qj h0;subst e;exact Ug func250 rfl [.k cn,.t rfl] rfl (by simp [Lm,Fi]; rfl) trivial
 ·have hpf:Fi p=De p (Ho p):=by unfold Fi; rw [if_neg h0]
  rw [if_neg h0,hpf];have co:=lS hl hp (Qik hp) (oJ tp h0) GQ;by_cases hneg:Fq p<0
  ·have e:Ho p=-Pj p:=by unfold Ho; rw [if_pos hneg]
   rw [e] at co ⊢;exact Ug func250 rfl [.k cn,.f (by simpa using h0),.k (HH hl' hp),.k (Dv tp hl hp),.t (by simpa [Fq] using hneg),.k (BG (U4 _) (YL hp)),.k co] rfl
  ·have e:Ho p=Pj p:=by unfold Ho; rw [if_neg hneg]
   rw [e] at co ⊢;exact Ug func250 rfl [.k cn,.f (by simpa using h0),.k (HH hl' hp),.k (Dv tp hl hp),.f (by simpa [Fq] using hneg),.k co] rfl
theorem Ib {p:Um} (hp:Pb p):Uj 228 [pr p] [pr (Fi p)] :=
 Ug func228 rfl [.k (Qf6 hp.t hp.ln' hp.bd)] rfl
theorem Ma (p:Um):Uj 138 [pr p] [.oi ((p.length:Int)-1)]:=by
 have h:Uj 138 [pr p] [.oi (((p.map G8).length:Int)-1)]:=Fv func138 rfl (ln 0 rfl rfl λhl=>Uf [] rfl rfl (by simp [U3] at hl ⊢; omega));rw [Q9] at h; exact h
theorem Oi (i:Nat) (x:Int):(mono i x).length=i+1:=by simp [mono]
theorem BQ {s i:Nat} {x:Int} (h:Fe x<=s):Bd s (mono i x):=λz hz=>by
 simp only [mono,Qr,Qk] at hz;rcases hz with hz | rfl
 ·rw [(List.mem_replicate.1 hz).2,Nf]; exact Qh _
 ·exact h
def stq (c:Int) (i:Nat) (x:Int) (q:Um):Um:=A7 (Fw q c) (mono i x)
def str (b:Um) (c:Int) (i:Nat) (x:Int) (r:Um):Um:=M7 (Fw r c) (Gk (trim (mono i x)) b)
theorem Qtd {u t i:Nat} {c x:Int} {q:Um} (hq:Bd u q) (hc:Fe c<=t) (hx:Fe x<=u):Bd (u+t+8) (stq c i x q) :=
 U5 (YV (Ge hq hc) (BQ hx)) (by omega)
theorem Qo4 {c x:Int} {i:Nat} {q:Um}:(stq c i x q).length<=max q.length (i+1):=by
 have h:=Og (Fw q c) (mono i x);have h1:=Fx q c;rw [Oi] at h;unfold stq; omega
theorem jO {i:Nat} {x:Int} {b:Um}:(Gk (trim (mono i x)) b).length<=i+b.length:=by
 have h:=Tv (trim (mono i x)) b;have h1:=H7 (mono i x);rw [Oi] at h1; omega
theorem dI {u t i:Nat} {x:Int} {b:Um} (hb:Bd t b) (hx:Fe x<=u) (hi:i<=64):Bd (u+t+7) (Gk (trim (mono i x)) b) :=
 Pk (Tw (BQ hx)) hb (Z3 (H7 _) (by rw [Oi]; omega))
theorem pH {u t i:Nat} {c x:Int} {b r:Um} (hr:Bd u r) (hb:Bd t b) (hc:Fe c<=t) (hx:Fe x<=u) (hi:i<=64):Bd (u+t+8) (str b c i x r) :=
 U5 (Du (Ge hr hc) (dI hb hx hi)) (by omega)
theorem yQ {c x:Int} {i:Nat} {b r:Um}:(str b c i x r).length<=max r.length (i+b.length):=by
 have h:=Nh (Fw r c) (Gk (trim (mono i x)) b);have h1:=Fx r c;have h2:=jO (i:=i) (x:=x) (b:=b);unfold str; omega
theorem gV (i:Nat) (x:Int):((List.replicate (i+1) (0:Int)).map G8).set i (G8 x)=(mono i x).map G8:=by
 rw [bM,mono];congr 1;refine Xl λj=>?_
 simp only [Yn,List.getElem?_append,Jz,Jd];by_cases h:j=i
 ·subst h; simp
 ·rw [if_neg (by omega)];by_cases h2:j<i
  ·simp [h2]; omega
  ·rw [if_neg (by omega),if_neg h2];cases hj:j-i with
   | zero=>omega
   | succ m=>simp
theorem iU (i:Nat) {x:Int} {y:Ur} (h:y.map FM=G8 x):(((List.replicate (i+1) [LV.bool false,LV.nils]).set i y).map λc=>c.map FM)=(mono i x).map G8:=by
 rw [Vs,NK,h]; exact gV i x
theorem JP {b:Um} {c:Int} {i:Nat} {q r:Um} {x:Int} (hx:x=if r.length=b.length+i then Fq r else 0):rC b c (i+1) (q,r)=rC b c i (stq c i x q,str b c i x r):=by
 subst hx; rfl
theorem Qe7 {a b:Um} (ha:Pb a) (hb:Pb b) (h0:b.length≠0):Uj 254 [pr a,pr b] [pr (rC b (Fq b) (a.length+1-b.length) ([],a)).1,pr (Md a b),.oi ((a.length+1-b.length:Nat):Int),.oi 0]:=by
 have hal:=ha.l;have hbl:=hb.l;have hlb:Fe (Fq b)<=16777216:=Nc hb.b;obtain ⟨c,hc⟩:=nmE (Fq b);have cl:=Dv hb.t hb.ln hb.bd;rw [show b.getD (b.length-1) 0=c from hc.symm] at cl;obtain ⟨k,hk⟩:=nmE (a.length+1-b.length);unfold Md;rw [<-hc,<-hk];rw [<-hc] at hlb;refine Fv func254 rfl ?_;refine Ue [.z 4,.k (Ht ha.t ha.ln ha.bd),.k (Ht hb.t hb.ln hb.bd),.f (by simpa using h0),.k cl,.k (Ma a),.k (Ma b),.r 27 (eI (b:=(k:Int)) (by omega))] rfl ?_;refine Ui (S:=Nat×Um×Um) 1 (λL1 s=>(4,.v (pr s.2.1))::(5,.v (pr s.2.2))::(9,.v (.oi ((s.1:Int)-1)))::L1) (λ_=>[.blk 36 (G8 c)]) (λs=>s.1) (λs=>s.1<=k/\Ff s.2.2/\s.2.1.length<=66/\s.2.2.length<=a.length/\Bd (16777216+(k-s.1)*16777224) s.2.1/\Bd (16777216+(k-s.1)*16777224) s.2.2/\rC b c s.1 s.2=rC b c k ([],a)) (k,[],a) ⟨Ql _,ha.t,by simp,Ql _,ZO,by simpa using ha.b,rfl⟩ rfl rfl λ⟨i,q,r⟩ ⟨j1,j2,j3,j4,j5,j6,j7⟩=>?_
 dsimp only at j1 j2 j3 j4 j5 j6 j7 ⊢;rw [<-j7];cases i with
 | zero=>exact Uf [.f (by simp)] rfl
 |
  succ i =>
  obtain ⟨x,hx⟩:=nmE (if r.length=b.length+i then Fq r else 0);obtain ⟨u,hu⟩:=nmE (16777216+(k-(i+1))*16777224);rw [<-hu] at j5 j6;have hub:u<=1107296256:=by
   have:(k-(i+1))*16777224<=64*16777224:=Q0 _ (by omega);omega
  have hxs:Fe x<=u:=by
   rw [hx]; split
   ·exact Nc j6
   ·rw [Nf]; exact Qh _
  have cs:=Pq (p:=q) (c:=c) (by omega) (U5 j5 (by omega)) (by omega);have cs2:=Pq (p:=r) (c:=c) (by omega) (U5 j6 (by omega)) (by omega);have l1:=Fx q c;have l2:=Fx r c;have ca:=BR (p:=Fw q c) (q:=mono i x) (by omega) (by rw [Oi]; omega) (U5 (Ge j5 hlb) (by omega)) (U5 (BQ hxs) (by omega));have cm:=xN (p0:=mono i x) hb.t (by rw [Oi]; omega) (by omega) (BQ hxs) hb.b (by omega);have l3:=jO (i:=i) (x:=x) (b:=b);have cb:=HT (p:=Fw r c) (q:=Gk (trim (mono i x)) b) (by omega) (by omega) (U5 (Ge j6 hlb) (by omega)) (U5 (dI hb.b hxs (by omega)) (by omega));have hst:=JP (b:=b) (c:=c) (q:=q) hx;have hI:i<=k/\Ff (str b c i x r)/\(stq c i x q).length<=66/\(str b c i x r).length<=a.length/\Bd (16777216+(k-i)*16777224) (stq c i x q)/\Bd (16777216+(k-i)*16777224) (str b c i x r):=by
   have l5:=Qo4 (c:=c) (x:=x) (i:=i) (q:=q);have l6:=yQ (c:=c) (x:=x) (i:=i) (b:=b) (r:=r);have hku:u+16777216+8=16777216+(k-i)*16777224:=by
    rw [hu,show k-i=(k-(i+1))+1 from by omega,X4]; omega
   refine ⟨by omega,Fy _ _,by omega,by omega,?_,?_⟩
   ·rw [<-hku]; exact Qtd j5 hlb hxs
   ·rw [<-hku]; exact pH j6 hb.b hlb hxs (by omega)
  rw [hst];by_cases h:r.length=b.length+i
  ·refine Ue [.t (by simp <;> omega),.k (Ma r),.k (Ma b),.t (by simp; omega),.k (Dv j2 (by omega) (U5 j6 (by omega))),.r 44 (eI (b:=((i+1:Nat):Int)) (by omega)),.i (i+1),.i (i+1),.r 47 (eI (b:=(i:Int)) (by omega)),.i i] rfl ?_;refine nl 2 rfl rfl rfl ?_;rw [iU i (x:=x) (by rw [hx,if_pos h]; rfl)];refine Ue [.k cs,.k ca,.k cs2,.k cm,.k cb,.r 33 (eI (b:=(i:Int)-1) (by omega))] rfl ?_;exact rd (i,stq c i x q,str b c i x r) (by dsimp only; omega) ⟨hI.1,hI.2.1,hI.2.2.1,hI.2.2.2.1,hI.2.2.2.2.1,hI.2.2.2.2.2,rfl⟩ rfl
  ·refine Ue [.t (by simp <;> omega),.k (Ma r),.k (Ma b),.f (by simp; omega),.r 44 (eI (b:=((i+1:Nat):Int)) (by omega)),.i (i+1),.i (i+1),.r 47 (eI (b:=(i:Int)) (by omega)),.i i] rfl ?_;refine nl 2 rfl rfl rfl ?_;rw [iU i (x:=x) (by rw [hx,if_neg h,Lm]; rfl)];refine Ue [.k cs,.k ca,.k cs2,.k cm,.k cb,.r 33 (eI (b:=(i:Int)-1) (by omega))] rfl ?_;exact rd (i,stq c i x q,str b c i x r) (by dsimp only; omega) ⟨hI.1,hI.2.1,hI.2.2.1,hI.2.2.2.1,hI.2.2.2.2.1,hI.2.2.2.2.2,rfl⟩ rfl
theorem Qjz {b:Um} {c:Int} (hb:Bd 16777216 b) (hc:Fe c<=16777216) {n:Nat}:∀ (i u:Nat) (q r:Um),i<=64->i+b.length<=n+1->Ff r->r.length<=n->Bd u r->Ff (rC b c i (q,r)).2/\(rC b c i (q,r)).2.length<=n/\Bd (u+i*16777224) (rC b c i (q,r)).2
 | 0,u,q,r,_,_,h1,h2,h3=>⟨h1,h2,by simpa [rC] using h3⟩
 |
  i+1,u,q,r,hi,hn,h1,h2,h3=>by
  rw [JP rfl];have hx:Fe (if r.length=b.length+i then Fq r else 0)<=u:=by
   split
   ·exact Nc h3
   ·rw [Nf]; exact Qh _
  have l6:=yQ (c:=c) (x:=if r.length=b.length+i then Fq r else 0) (i:=i) (b:=b) (r:=r);have:=Qjz hb hc (n:=n) i (u+16777216+8) (stq c i (if r.length=b.length+i then Fq r else 0) q) (str b c i (if r.length=b.length+i then Fq r else 0) r) (by omega) (by omega) (Fy _ _) (by omega) (pH h3 hb hc hx (by omega));exact ⟨this.1,this.2.1,U5 this.2.2 (by omega)⟩
theorem oW {a b:Um} (ha:Pb a) (hb:Pb b) (h0:b.length≠0):Ff (Md a b)/\(Md a b).length<=a.length/\Bd 1107296256 (Md a b):=by
 have hal:=ha.l;by_cases h:b.length<=a.length+1
 ·obtain ⟨h1,h2,h3⟩:=Qjz hb.b (Nc hb.b) (n:=a.length) (a.length+1-b.length) 16777216 [] a (by omega) (by omega) ha.t (Ql _) ha.b;refine ⟨h1,h2,U5 h3 ?_⟩;have:(a.length+1-b.length)*16777224<=64*16777224:=Q0 _ (by omega);omega
 ·have e:Md a b=a:=by unfold Md; rw [show a.length+1-b.length=0 from by omega]; rfl
  rw [e];exact ⟨ha.t,Ql _,U5 ha.b (by omega)⟩
theorem GV {a b r:Um} {s n:Nat} (h1:Ff r) (h2:r.length<=n) (h3:Bd s r):Ff (B6 a b r)/\(B6 a b r).length<=n/\Bd s (B6 a b r):=by
 unfold B6; split
 ·exact ⟨Fy _ _,Qa (XA r) h2,MJ h3⟩
 ·exact ⟨h1,h2,h3⟩
theorem EV {r:Um} {s n:Nat} (h2:r.length<=n) (h3:Bd s r):Ff (KJ r)/\(KJ r).length<=n/\Bd s (KJ r):=by
 unfold KJ; split
 ·exact ⟨rfl,by simp,ZO⟩
 ·exact ⟨ZY _ _,Qa (qV _ _) h2,BX h3 _⟩
theorem GX {a b:Um} (ha:Pb a) (hb:Pb b) (h0:b.length≠0):Ff (Ta a b)/\(Ta a b).length<=a.length/\Bd 1107296256 (Ta a b):=by
 obtain ⟨h1,h2,h3⟩:=oW ha hb h0;obtain ⟨h4,h5,h6⟩:=GV (a:=a) (b:=b) h1 h2 h3;exact EV h5 h6
theorem Qfc {a b:Um} (ha:Pb a) (hb:Pb b) (h0:b.length≠0):Uj 229 [pr a,pr b] [pr (Ta a b),.oi 0]:=by
 obtain ⟨h1,h2,h3⟩:=oW ha hb h0;obtain ⟨h4,h5,h6⟩:=GV (a:=a) (b:=b) h1 h2 h3;have hal:=ha.l;have cp:=Qe7 ha hb h0;have cl:=Dv hb.t hb.ln hb.bd;have cn:=Qe3 (p:=Md a b) (by omega) (U5 h3 (by omega));unfold Ta;obtain ⟨r,hr⟩:=nmE (B6 a b (Md a b));have cc:=HH (p:=r) (by rw [hr]; omega) (by rw [hr]; exact U5 h6 (by omega));rw [<-hr] at h4 h5 h6 ⊢;obtain ⟨k,hk⟩:=nmE (a.length+1-b.length);rw [<-hk] at cp;have em:((k:Int).tmod 2)=((k % 2:Nat):Int):=by rw [Y5 (by omega)]; omega
 have key:KJ r=if r.length=0 then [] else De r (Pj r):=rfl
 by_cases hz:r.length=0
 ·rw [key,if_pos hz];by_cases hodd:k % 2=1
  ·by_cases hneg:Fq b<0
   ·have e:r=Ms (Md a b):=by rw [hr]; unfold B6; rw [if_pos ⟨by rw [<-hk]; exact hodd,hneg⟩]
    rw [e] at hz;exact Ug func229 rfl [.k cp,.f (by simp),.r 22 (eI em),.t (by simp; omega),.k cl,.t (by simpa [Fq] using hneg),.k cn,.t (by simpa using hz)] rfl rfl (by simp [U3])
   ·have e:r=Md a b:=by rw [hr]; unfold B6; rw [if_neg (λh=>hneg h.2)]
    rw [e] at hz;exact Ug func229 rfl [.k cp,.f (by simp),.r 22 (eI em),.t (by simp; omega),.k cl,.f (by simpa [Fq] using hneg),.t (by simpa using hz)] rfl rfl (by simp [U3])
  ·have e:r=Md a b:=by rw [hr]; unfold B6; rw [if_neg (λh=>hodd (by rw [hk]; exact h.1))]
   rw [e] at hz;exact Ug func229 rfl [.k cp,.f (by simp),.r 22 (eI em),.f (by simp; omega),.f rfl,.t (by simpa using hz)] rfl rfl (by simp [U3])
 ·rw [key,if_neg hz];have cd:=lS (p:=r) (g:=Pj r) (by omega) (U5 h6 (by omega)) (YL (U5 h6 (by omega))) (JF h4 hz) E9;by_cases hodd:k % 2=1
  ·by_cases hneg:Fq b<0
   ·have e:r=Ms (Md a b):=by rw [hr]; unfold B6; rw [if_pos ⟨by rw [<-hk]; exact hodd,hneg⟩]
    rw [e] at hz cc cd ⊢;exact Ug func229 rfl [.k cp,.f (by simp),.r 22 (eI em),.t (by simp; omega),.k cl,.t (by simpa [Fq] using hneg),.k cn,.f (by simpa using hz),.k cc,.k cd] rfl rfl (by simp [U3])
   ·have e:r=Md a b:=by rw [hr]; unfold B6; rw [if_neg (λh=>hneg h.2)]
    rw [e] at hz cc cd ⊢;exact Ug func229 rfl [.k cp,.f (by simp),.r 22 (eI em),.t (by simp; omega),.k cl,.f (by simpa [Fq] using hneg),.f (by simpa using hz),.k cc,.k cd] rfl rfl (by simp [U3])
  ·have e:r=Md a b:=by rw [hr]; unfold B6; rw [if_neg (λh=>hodd (by rw [hk]; exact h.1))]
   rw [e] at hz cc cd ⊢;exact Ug func229 rfl [.k cp,.f (by simp),.r 22 (eI em),.f (by simp; omega),.f rfl,.f (by simpa using hz),.k cc,.k cd] rfl rfl (by simp [U3])
theorem Qo2 {s:Nat} {x:Int} (h:Fe x<=s) (g:Int):Fe (x / g)<=s:=HF (p:=[x]) (λz hz=>by rw [Qk.1 hz]; exact h) g _ (by simp)
def sta (b:Um) (i:Nat) (x:Int) (a:Um):Um:=M7 a (Gk (trim (mono i x)) b)
theorem Qtc {u t i:Nat} {x:Int} {b a:Um} (ha:Bd u a) (hb:Bd t b) (hx:Fe x<=u) (hi:i<=64):Bd (u+t+8) (sta b i x a) :=
 U5 (Du ha (dI hb hx hi)) (by omega)
theorem aO {x:Int} {i:Nat} {b a:Um}:(sta b i x a).length<=max a.length (i+b.length):=by
 have h:=Nh a (Gk (trim (mono i x)) b);have h2:=jO (i:=i) (x:=x) (b:=b);unfold sta; omega
theorem Qmq (s n:Nat):Bd s (List.replicate n 0):=λz hz=>by rw [(List.mem_replicate.1 hz).2,Nf]; exact Qh _
theorem Qtb {s i:Nat} {l:Um} {x:Int} (h:Bd s l) (hx:Fe x<=s):Bd s (l.set i x):=λz hz=>by
 rcases Jp hz with hz | rfl
 ·exact h z hz
 ·exact hx
theorem Qe1 {a b q:Um} (ha:Pb a) (hb:Pb b) (h:JS a b=some q):Uj 292 [pr a,pr b] [pr q,.oi 0]:=by
 unfold JS at h
 split at h
 ·cases h
 rename_i h0;obtain ⟨k,hk⟩:=nmE (a.length+1-b.length);rw [<-hk] at h;obtain ⟨q',hq,hq2⟩:=Qd.1 h;obtain ⟨rfl,hpb⟩:=QR (Rq _) hq2;have hal:=ha.l;have hbl:=hb.l;refine Fv func292 rfl ?_;refine Ue [.k (Ht ha.t ha.ln ha.bd),.k (Ht hb.t hb.ln hb.bd),.f (by simpa using h0),.r 24 (eI (b:=(k:Int)) (by simp; omega)),.i k,.i k,.r 27 (eI (b:=(k:Int)) (by simp))] rfl ?_;refine nl 0 rfl rfl rfl ?_;rw [NK];refine Ui (S:=Nat×Um×Um) 1 (λL1 s=>(0,.v (pr s.2.1))::(7,.v (.oi ((s.1:Int)-1)))::L1) (λs=>[.row false 36 2 (s.2.2.map G8)]) (λs=>s.1) (λs=>s.1<=k/\Ff s.2.1/\s.2.1.length<=a.length/\Bd (16777216+(k-s.1)*16777224) s.2.1/\s.2.2.length=k/\Bd 1107296256 s.2.2/\yL b s.1 s.2.1 s.2.2=some q') (k,a,List.replicate k 0) ⟨Ql _,ha.t,Ql _,by simpa using ha.b,by simp,Qmq _ _,hq⟩ rfl rfl λ⟨i,A,Q⟩ ⟨j1,j2,j3,j4,j5,j7,j6⟩=>?_
 dsimp only at j1 j2 j3 j4 j5 j6 j7 ⊢;cases i with
 |
  zero =>
  simp only [yL] at j6
  split at j6
  ·rename_i hA;injection j6 with j6; subst j6;exact Uf [.f (by simp),.f (by simpa using hA),.k (Ch (Gn Q) (by omega) (U5 j7 (by omega)))] rfl
  ·cases j6
 |
  succ i =>
  obtain ⟨u,hu⟩:=nmE (16777216+(k-(i+1))*16777224);rw [<-hu] at j4;have hub:u<=1107296256:=by
   have:(k-(i+1))*16777224<=64*16777224:=Q0 _ (by omega);omega
  have hku:u+16777216+8=16777216+(k-i)*16777224:=by
   rw [hu,show k-i=(k-(i+1))+1 from by omega,X4]; omega
  simp only [yL] at j6;by_cases hlt:A.length<b.length+i
  ·rw [if_pos hlt] at j6;refine Ue [.t (by simp <;> omega),.k (Ma A),.k (Ma b),.t (by simp; omega),.r 32 (eI (b:=(i:Int)-1) (by omega))] rfl ?_;exact rd (i,A,Q) (by dsimp only; omega) ⟨by dsimp only; omega,j2,j3,U5 j4 (by dsimp only; omega),j5,j7,j6⟩ rfl
  ·rw [if_neg hlt] at j6
   split at j6
   ·rename_i hdv;obtain ⟨x,hx⟩:=nmE (Fq A / Fq b);rw [<-hx] at j6;have hxs:Fe x<=u:=by rw [hx]; exact Qo2 (Nc j4) _
    have ce:=Ia (U4 (Fq A)) (U4 (Fq b)) (Qa (Nc j4) (by omega)) (Qa (Nc hb.b) (by omega)) (Er hb.t h0) hdv;rw [<-hx] at ce;have cm:Uj 202 [.one (.row ((mono i x).map G8)),pr b] [pr (Gk (trim (mono i x)) b)]:=xN (p0:=mono i x) hb.t (by rw [Oi]; omega) (by omega) (BQ hxs) hb.b (by omega);have l3:=jO (i:=i) (x:=x) (b:=b);have l4:=aO (i:=i) (x:=x) (b:=b) (a:=A);have cb:=HT (p:=A) (q:=Gk (trim (mono i x)) b) (by omega) (by omega) (U5 j4 (by omega)) (U5 (dI hb.b hxs (by omega)) (by omega));refine Ue [.t (by simp <;> omega),.k (Ma A),.k (Ma b),.f (by simp; omega),.k (Dv j2 (by omega) (U5 j4 (by omega))),.k (Dv hb.t hb.ln hb.bd),.k ce,.f rfl,.r 51 (eI (b:=(i:Int)) (by omega)),.i i,.r 55 (eI (b:=((i+1:Nat):Int)) (by omega)),.i (i+1),.i (i+1),.r 58 (eI (b:=(i:Int)) (by omega))] rfl ?_;refine nl 2 rfl rfl rfl ?_;rw [NK,bM];rw [<-gV i x] at cm;refine Ue [.i i,.k cm,.k cb,.r 32 (eI (b:=(i:Int)-1) (by omega))] rfl ?_;exact rd (i,sta b i x A,Q.set i x) (by dsimp only; omega) ⟨by dsimp only; omega,Fy _ _,by dsimp only; omega,by dsimp only; rw [<-hku]; exact Qtc j4 hb.b hxs (by omega),by simpa using j5,Qtb j7 (Nat.le_trans hxs hub),j6⟩ rfl
   ·cases j6
theorem bG {a b q:Um} (h:JS a b=some q):Pb q:=by
 unfold JS at h
 split at h
 ·cases h
 ·obtain ⟨q',_,hq2⟩:=Qd.1 h;obtain ⟨rfl,hpb⟩:=QR (Rq _) hq2;exact hpb
theorem Qgb {a b q:Um} (ha:Pb a) (hb:Pb b) (h:JS a b=some q):Uj 275 [pr a,pr b] [pr q] :=
 Ug func275 rfl [.k (Qe1 ha hb h)] rfl
theorem vA:∀ {k:Nat} {a b g:Um},Pb a->Pb b->TB k a b=some g->Pb g
 | 0,_,_,_,_,_,h=>by cases h
 |
  k+1,a,b,g,ha,hb,h=>by
  simp only [TB] at h
  split at h
  ·injection h with h; subst h; exact ha
  ·rename_i h0;obtain ⟨r,hr,h⟩:=Qd.1 h;obtain ⟨rfl,hpb⟩:=QR (GX ha hb h0).1 hr;exact vA hb hpb h
theorem lI {a b g:Um} (ha:Pb a) (hb:Pb b) (h:JM a b=some g):Uj 191 [pr a,pr b] [pr g]:=by
 unfold JM at h;obtain ⟨g',h2,rfl⟩:=Yx.1 h;have hg:=vA (Ry ha) (Ry hb) h2;refine Fv func191 rfl ?_;refine Ud [.k (Ib ha),.k (Ib hb)] rfl ?_;refine Ui (S:=Nat×Um×Um) 0 (λL1 s=>(0,.v (pr s.2.1))::(1,.v (pr s.2.2))::L1) (λ_=>[]) (λs=>s.1) (λs=>Pb s.2.1/\Pb s.2.2/\TB s.1 s.2.1 s.2.2=some g') (66,Fi a,Fi b) ⟨Ry ha,Ry hb,h2⟩ rfl rfl λ⟨k,A,C⟩ ⟨j1,j2,j3⟩=>?_
 dsimp only at j1 j2 j3 ⊢;cases k with
 | zero=>cases j3
 |
  succ k =>
  simp only [TB] at j3
  split at j3
  ·rename_i h0;injection j3 with j3; subst j3;exact Uf [.f (by simpa using h0),.k (Ib j1)] rfl
  ·rename_i h0;obtain ⟨r,hr,j3⟩:=Qd.1 j3;obtain ⟨rfl,hpb⟩:=QR (GX j1 j2 h0).1 hr;refine Ud [.t (by simp; omega),.k (Qfc j1 j2 h0)] rfl ?_;exact rd (k,C,Ta A C) (by dsimp only; omega) ⟨j2,hpb,j3⟩ rfl
theorem TJ {a b g:Um} (ha:Pb a) (hb:Pb b) (h:JM a b=some g):Pb g:=by
 unfold JM at h;obtain ⟨g',h2,rfl⟩:=Yx.1 h;exact Ry (vA (Ry ha) (Ry hb) h2)
theorem Qe2 {a b g:Um} (ha:Pb a) (hb:Pb b) (h:yA a b=some g):Uj 137 [.one (.row (Pg [a,b]))] [pr g]:=by
 unfold yA at h;obtain ⟨g1,h1,h2⟩:=Qd.1 h;have hg1:=TJ TZ ha h1;refine Fv func137 rfl ?_;refine Ud [.z 3] rfl ?_;refine Ui (S:=Nat) 0 (λL1 i=>(8,.v (.oi i))::(3,.v (pr (if i=0 then [] else if i=1 then g1 else g)))::L1) (λ_=>[]) (λi=>2-i) (λi=>i<=2) 0 (Qh _) rfl rfl λi hi=>?_
 rcases (show i=0\/i=1\/i=2 by omega) with rfl | rfl | rfl
 ·refine Ud [.t rfl,.x (Rp (i:=0) (p:=a) rfl),.k (lI TZ ha h1)] rfl ?_ (by simp [U3]);exact rd 1 (by omega) (by omega) rfl
 ·refine Ud [.t rfl,.x (Rp (i:=1) (p:=b) rfl),.k (lI hg1 hb h2)] rfl ?_ (by simp [U3]);exact rd 2 (by omega) (by omega) rfl
 ·exact Uf [.f rfl] rfl
theorem Qjn {a b g:Um} (ha:Pb a) (hb:Pb b) (h:yA a b=some g):Pb g:=by
 unfold yA at h;obtain ⟨g1,h1,h2⟩:=Qd.1 h;exact TJ (TJ TZ ha h1) hb h2
theorem LO {p d:Um} (h:IE (Gx p)=some d):d=Gx p/\Pb (Gx p):=QR (Fy _ _) h
theorem BM {a g:Um} (ha:Pb a) (h:Pp a=some g):Uj 249 [pr a] [pr g]:=by
 have hp:=Ry ha;unfold Pp at h
 split at h
 ·rename_i h0;injection h with h; subst h;exact Ug func249 rfl [.k (Ib ha),.k (Ma _),.t (by simp; omega)] rfl
 ·rename_i h0;obtain ⟨d,h1,h⟩:=Qd.1 h;obtain ⟨rfl,hd⟩:=LO h1;obtain ⟨g1,h1,h⟩:=Qd.1 h;exact Ug func249 rfl [.k (Ib ha),.k (Ma _),.f (by simp; omega),.k (I4 hp.ln hp.bd),.k (lI hp hd h1),.k (Qgb hp (TJ hp hd h1) h)] rfl
theorem TX {a g:Um} (ha:Pb a) (h:Pp a=some g):Pb g:=by
 unfold Pp at h
 split at h
 ·injection h with h; subst h; exact Ry ha
 ·obtain ⟨d,h1,h⟩:=Qd.1 h;obtain ⟨g1,h1,h⟩:=Qd.1 h;exact bG h
theorem Qjo {p:Um} (h:Pb p):Pb (Ms p):=⟨Fy _ _,Qa (XA p) h.l,MJ h.b⟩
theorem mT:∀ {k:Nat} {a b:Um} {l:Un},Pb a->Pb b->sE k a b=some l->l.length≤k/\∀ p∈l,Pb p
 | 0,_,_,_,_,_,h=>by cases h
 |
  k+1,a,b,l,ha,hb,h=>by
  simp only [sE] at h
  split at h
  ·injection h with h; subst h; exact ⟨by simp,λp hp=>by cases hp⟩
  ·rename_i h0;obtain ⟨r,hr,h⟩:=Qd.1 h;obtain ⟨rfl,hpb⟩:=QR (GX ha hb h0).1 hr;obtain ⟨l',h1,h⟩:=Qd.1 h;injection h with h; subst h;obtain ⟨i1,i2⟩:=mT hb (Qjo hpb) h1;refine ⟨by simp; exact i1,λp hp=>?_⟩;rcases Qm.1 hp with rfl | hp
   ·exact hb
   ·exact i2 p hp
theorem chain_ok {p:Um} {l:Un} (hp:Pb p) (h:Ee p=some l):l.length≤67/\∀ q∈l,Pb q:=by
 unfold Ee at h;obtain ⟨a,h1,h⟩:=Qd.1 h;have ha:=TX hp h1
 split at h
 ·cases h
 ·obtain ⟨d,h2,h⟩:=Qd.1 h;obtain ⟨rfl,hd⟩:=LO h2;obtain ⟨l',h3,h⟩:=Qd.1 h;injection h with h; subst h;obtain ⟨i1,i2⟩:=mT ha (Ry hd) h3;refine ⟨by simp; omega,λp hp=>?_⟩;rcases Qm.1 hp with rfl | hp
  ·exact ha
  ·exact i2 p hp
theorem EY (l:Un) (p:Um):Pg l++[[pl p]]=Pg (l++[p]):=by simp [Pg]
theorem Aa (l:Un):(Pg l).length=l.length:=by simp [Pg]
theorem Qff {p:Um} {l:Un} (hp:Pb p) (h:Ee p=some l):Uj 214 [pr p] [.one (.sh [.row (Pg l)]),.oi 0]:=by
 unfold Ee at h;obtain ⟨a,h1,h⟩:=Qd.1 h;have ha:=TX hp h1
 split at h
 ·cases h
 rename_i h0;obtain ⟨d,h2,h⟩:=Qd.1 h;obtain ⟨rfl,hd⟩:=LO h2;obtain ⟨l',h3,h⟩:=Qd.1 h;injection h with h; subst h;refine Fv func214 rfl ?_;refine Ud [.k (BM hp h1),.f (by simpa using h0),.lo,.k (I4 ha.ln ha.bd),.k (Qf6 hd.t hd.ln' hd.bd)] rfl ?_ (by simp [U3]);obtain ⟨z,hz⟩:=nmE (if (Gx a).length=0 then 0 else Ho (Gx a));rw [<-hz];refine sb [(4,.v (pr a)),(7,.v (pr (Fi (Gx a)))),(5,.v (.one (.ow 1 0)))] [.row false 33 1 [[pl a]],.blk 321 [.orow 0 1 none],.blk 36 (G8 z)] rfl rfl ?_;have hll:=(mT ha (Ry hd) h3).1;refine Ui (S:=Nat×Un×Um×Um) 3 (λL1 s=>(4,.v (pr s.2.2.1))::(7,.v (pr s.2.2.2))::L1) (λs=>[.row false 33 1 (Pg s.2.1),.blk 321 [.orow 0 1 none],.blk 36 (G8 z)]) (λs=>s.1) (λs=>Pb s.2.2.1/\Pb s.2.2.2/\∃ m,sE s.1 s.2.2.1 s.2.2.2=some m/\s.2.1++m=a::l') (66,[a],a,Fi (Gx a)) ⟨ha,Ry hd,l',h3,rfl⟩ rfl rfl λ⟨k,out,A,C⟩ ⟨j1,j2,m,j3,j4⟩=>?_
 dsimp only at j1 j2 j3 j4 ⊢;have hol:out.length<=67:=by have:=congrArg List.length j4; simp at this; omega
 cases k with
 | zero=>cases j3
 |
  succ k =>
  simp only [sE] at j3
  split at j3
  ·rename_i h0;injection j3 with j3; subst j3;rw [Zw] at j4;rw [<-j4];exact Uf [.f (by simpa using h0)] rfl
  ·rename_i h0;obtain ⟨r,hr,j3⟩:=Qd.1 j3;obtain ⟨rfl,hpb⟩:=QR (GX j1 j2 h0).1 hr;obtain ⟨m',j6,j5⟩:=Qd.1 j3;injection j5 with j5; subst j5;refine go tt [.t (by simp; omega),.s (sz:=1) (λc hc=>by rw [Qk.1 hc]; rfl),.k (Qfc j1 j2 h0),.k (Qe3 hpb.ln hpb.bd)] rfl (by simp [U3,Aa]; omega) ?_;exact rd (k,out++[C],C,Ms (Ta A C)) (by dsimp only; omega) ⟨j2,Qjo hpb,m',j6,by rw [<-j4]; simp⟩ (by rw [EY]; rfl)
structure Tb (t:Tm):Prop where
 p:Pb t.p
 lo:Qb t.lo
 hi:Qb t.hi
theorem eS (x y:Int):-1<=Lb x y/\Lb x y<=1:=by unfold Lb; split <;> (try split) <;> omega
theorem QT (a b:Rat):-1<=He a b/\He a b<=1:=eS _ _
theorem O1 (p:Um) (q:Rat):-1<=Ra p q/\Ra p q<=1:=eS _ _
theorem nL (p:Um) (q:Rat):-1<=low p q/\low p q<=1:=by unfold low; split <;> exact O1 _ _
theorem Qb.s31 {q:Rat} (h:Qb q):Qs 2147483647 q:=h.mono (by decide)
theorem Qb.s32 {q:Rat} (h:Qb q):Qs 4294967295 q:=h.mono (by decide)
theorem PS {p:Um} {q:Rat} (hp:Pb p) (hq:Qb q):Uj 189 [pr p,.agg (rl q)] [.oi (Ra p q)]:=by
 have hm:p.length*(16777216+1)<=64*16777217:=Q0 _ hp.l;exact lW hp.t hp.ln hp.b hq (by omega)
theorem Qxv {p:Um} {q:Rat} (hp:Pb p) (hq:Qb q):Uj 189 [pr (Gx p),.agg (rl q)] [.oi (Ra (Gx p) q)]:=by
 have hl:=Qa (Ng p) (show p.length-1<=64 by have:=hp.l; omega);have hm:(Gx p).length*(16777216+1)<=64*16777217:=Q0 _ hl;exact lW (Fy _ _) (Z3 hl (by omega)) (xR (t:=6) hp.b hp.l) hq (by omega)
theorem La {t:Tm} (ht:Tb t):Uj 135 [.agg (ta t)] [.one (.bool t.point)] :=
 Ug func135 rfl [.k (Ci ht.lo.s31 ht.hi.s31)] rfl
theorem MF {t:Tm} (ht:Tb t):Uj 134 [.agg (ta t)] [.agg (ta t)] :=
 Ug func134 rfl [.k (Ht ht.p.t ht.p.ln ht.p.bd),.k (Nx ht.lo.s32),.k (Nx ht.hi.s32)] rfl
theorem Qgj {t:Tm} (ht:Tb t):Uj 83 [.agg (ta t)] [.agg (ta t)]:=Ug func83 rfl [.k (MF ht)] rfl
theorem Qf0 {p:Um} {q:Rat} (hp:Pb p) (hq:Qb q):Uj 190 [pr p,.agg (rl q)] [.oi (low p q)]:=by
 unfold low;by_cases h:Ra p q=0
 ·rw [if_neg (by simpa using h)];exact Ug func190 rfl [.k (PS hp hq),.f (by simpa using h),.k (I4 hp.ln hp.bd),.k (Qxv hp hq)] rfl
 ·rw [if_pos h];exact Ug func190 rfl [.k (PS hp hq),.t (by simpa using h)] rfl
theorem Qfy {p:Um} {lo hi:Rat} (hp:Pb p) (hl:Qb lo) (hh:Qb hi):Uj 139 [pr p,.agg (rl lo),.agg (rl hi)] [.one (.bool (FY p lo hi))]:=by
 by_cases h:Ra p hi=0
 ·exact Ug func139 rfl [.k (PS hp hh),.t (by simpa using h)] rfl (by simp [FY,h]) trivial
 ·exact Ug func139 rfl [.k (PS hp hh),.f (by simpa using h),.k (Qf0 hp hl)] rfl (by simp [FY,h]) trivial
theorem Dk {t:Tm} {q:Rat} (ht:Tb t) (hq:Qb q):Uj 136 [.agg (ta t),.agg (rl q)] [.oi (Fp t q)]:=by
 have cp:=La ht;unfold Fp;by_cases h1:t.point=true
 ·rw [if_pos h1];exact Ug func136 rfl [.k cp,.t h1,.k (Ci ht.lo.s31 hq.s31)] rfl
 rw [if_neg h1];have h1:t.point=false:=by simpa using h1
 have c1:=Ci hq.s31 ht.lo.s31;have c2:=Ci hq.s31 ht.hi.s31;by_cases h2:He q t.lo<=0
 ·rw [if_pos h2];exact Ug func136 rfl [.k cp,.f h1,.k c1,.t (by simpa using h2)] rfl
 rw [if_neg h2];by_cases h3:0<He q t.hi
 ·rw [if_pos h3];exact Ug func136 rfl [.k cp,.f h1,.k c1,.f (by simpa using h2),.k c2,.t (by simpa using h3)] rfl
 rw [if_neg h3];by_cases h4:Ra t.p q=0
 ·rw [if_pos h4];exact Ug func136 rfl [.k cp,.f h1,.k c1,.f (by simpa using h2),.k c2,.f (by simpa using h3),.k (PS ht.p hq),.t (by simpa using h4)] rfl
 rw [if_neg h4];by_cases h5:Ra t.p q=low t.p t.lo
 ·rw [if_pos h5];exact Ug func136 rfl [.k cp,.f h1,.k c1,.f (by simpa using h2),.k c2,.f (by simpa using h3),.k (PS ht.p hq),.f (by simpa using h4),.k (Qf0 ht.p ht.lo),.t (by simpa using h5)] rfl
 ·rw [if_neg h5];exact Ug func136 rfl [.k cp,.f h1,.k c1,.f (by simpa using h2),.k c2,.f (by simpa using h3),.k (PS ht.p hq),.f (by simpa using h4),.k (Qf0 ht.p ht.lo),.f (by simpa using h5)] rfl
theorem Qod (t:Tm) (q:Rat):-1<=Fp t q/\Fp t q<=1:=by
 unfold Fp;have:=QT t.lo q
 repeat' split
 all_goals omega
theorem Qok (q:Rat):0<(q.den:Int):=by have:=q.den_pos; omega
theorem Qru {a b:Rat} (ha:Qb a) (hb:Qb b):Uj 231 [.agg (rl a),.agg (rl b)] [.agg (rl (mid a b))]:=by
 have h1:Fe (a.num*(b.den:Int))<=33554432:=Qa (Ga _ _) (by have:=ha.1; have:=hb.2; omega);have h2:Fe (b.num*(a.den:Int))<=33554432:=Qa (Ga _ _) (by have:=hb.1; have:=ha.2; omega);have h3:Fe ((a.den:Int)*(b.den:Int))<=33554432:=Qa (Ga _ _) (by have:=ha.2; have:=hb.2; omega);have h4:Fe (2:Int)<=2:=by decide
 have h5:Fe (a.num*(b.den:Int)+b.num*(a.den:Int))<=33554433:=Qa (QD _ _) (by omega);have h6:Fe ((a.den:Int)*(b.den:Int)*2)<=33554434:=Qa (Ga _ _) (by omega);have h0:(a.den:Int)*(b.den:Int)*2≠0:=by
  have:=Int.mul_pos (Qok a) (Qok b); omega
 exact Ug func231 rfl [.k (xE ha.s31 hb.s31),.k (KN (U4 _) (U4 _) (by omega) (by omega)),.k (BH (z:=2) (by decide)),.k (P0 (U4 _) (U4 _) (by omega) (by omega)),.k (XZ h0 (by omega) (by omega))] rfl
theorem jQ {a b:Rat} (ha:Qb a) (hb:Qb b):Uj 193 [.agg (rl a),.agg (rl b)] [.agg (rl (EN a b))]:=by
 have h1:Fe (a.num*(b.den:Int))<=33554432:=Qa (Ga _ _) (by have:=ha.1; have:=hb.2; omega);have h2:Fe (b.num*(a.den:Int))<=33554432:=Qa (Ga _ _) (by have:=hb.1; have:=ha.2; omega);have h3:Fe ((a.den:Int)*(b.den:Int))<=33554432:=Qa (Ga _ _) (by have:=ha.2; have:=hb.2; omega);have h5:Fe (a.num*(b.den:Int)-b.num*(a.den:Int))<=33554433:=Qa (jI _ _) (by omega);have h0:(a.den:Int)*(b.den:Int)≠0:=by
  have:=Int.mul_pos (Qok a) (Qok b); omega
 exact Ug func193 rfl [.k (xE ha.s31 hb.s31),.k (Qfr (U4 _) (U4 _) (by omega) (by omega)),.k (XZ h0 (by omega) (by omega))] rfl
theorem CY {q r:Rat} (h:chq q=some r):r=q/\Qb q:=by
 unfold chq at h
 split at h
 ·rename_i hc; injection h with h; exact ⟨h.symm,hc⟩
 ·cases h
theorem mK {t u:Tm} (ht:Tb t) (h:jC t=some u):Uj 194 [.agg (ta t)] [.agg (ta u)]:=by
 have cp:=La ht;unfold jC at h
 split at h
 ·rename_i h1;injection h with h; subst h;exact Ug func194 rfl [.k cp,.t h1] rfl
 ·rename_i h1;have h1:t.point=false:=by simpa using h1
  obtain ⟨m,hm0,h⟩:=Qd.1 h;obtain ⟨rfl,hm⟩:=CY hm0;injection h with h;subst h;have cm:=Qru ht.lo ht.hi;have cc:=Dk ht hm;by_cases h2:Fp t (mid t.lo t.hi)=0
  ·rw [if_pos h2];exact Ug func194 rfl [.k cp,.f h1,.k cm,.k cc,.t (by simpa using h2)] rfl
  rw [if_neg h2];by_cases h3:Fp t (mid t.lo t.hi)=-1
  ·rw [if_pos h3];exact Ug func194 rfl [.k cp,.f h1,.k cm,.k cc,.f (by simpa using h2),.t (by simpa using h3)] rfl
  ·rw [if_neg h3];exact Ug func194 rfl [.k cp,.f h1,.k cm,.k cc,.f (by simpa using h2),.f (by simpa using h3)] rfl
theorem vM {t u:Tm} (ht:Tb t) (h:jC t=some u):Tb u:=by
 unfold jC at h
 split at h
 ·injection h with h; subst h; exact ht
 ·obtain ⟨m,hm0,h⟩:=Qd.1 h;obtain ⟨rfl,hm⟩:=CY hm0;injection h with h;subst h
  repeat' split
  ·exact ⟨ht.p,hm,hm⟩
  ·exact ⟨ht.p,ht.lo,hm⟩
  ·exact ⟨ht.p,hm,ht.hi⟩
theorem QK {z:Int} (h:Fe z<=4294967296):Uj 206 [.one (mg z)] [.oi (Fe z:Int)]:=by
 have h1:=pL (l:=Gb z.natAbs) (Lt _) (by rw [G9]; exact h);rw [G9] at h1; exact h1
theorem EG {p:Um} {i:Nat} {z:Int} (h:p[i]? = some z):Ha (p.take (i+1))=max (Ha (p.take i)) (Fe z):=by
 unfold Ha; rw [List.take_succ,h,Option.toList_some,List.foldl_append]; rfl
theorem Mh {p:Um} {s:Nat} (h:Bd s p):∀ i,Ha (p.take i)<=s
 | 0=>by simp [Ha]
 |
  i+1=>by
  cases hz:p[i]? with
  |
   none =>
   rw [Qn (by have:=Jo.1 hz; omega),<-Qn (l:=p) (i:=i) (by have:=Jo.1 hz; omega)];exact Mh h i
  | some z=>rw [EG hz]; have:=Mh h i; have:=Qed h hz; omega
theorem jZ {p:Um} (hp:Pb p):Uj 230 [pr p] [.oi (Ha p:Int)]:=by
 have hl:=hp.l;refine Fv func230 rfl ?_;refine Ud [] rfl ?_;refine Ui (S:=Nat) 0 (λL1 i=>(8,.v (.oi i))::(3,.v (.oi (Ha (p.take i):Int)))::L1) (λ_=>[]) (λi=>p.length-i) (λi=>i<=p.length) 0 (Qh _) rfl rfl λi hi=>?_
 by_cases hlt:i<p.length
 ·have hg:=Ri hlt;have hz:=Ft hp.b i;have hs:=EG hg;refine Ue [.t (by simp; omega),.x (Pf hg),.k (QK (by omega)),.r 16 (eI (b:=(Ha (p.take (i+1)):Int)) (by rw [hs]; omega))] rfl ?_;exact rd (i+1) (by omega) hlt rfl
 ·obtain rfl:i=p.length:=by omega
  rw [Q6];exact Uf [.f (by simp)] rfl
theorem Qn7 {a:Tm} {b:Tm} (ha:Tb a) (hb:Tb b):Uj 192 [.agg (ta a),.agg (ta b)] [.oi (P8 a b:Nat)]:=by
 have l1:=ha.p.l;have l2:=hb.p.l;have b1:=ha.lo.1;have b2:=ha.hi.1;have b3:=hb.lo.1;have b4:=hb.hi.1;have s1:Ha a.p<=16777216:=by have:=Mh ha.p.b a.p.length; rwa [Q6] at this
 have s2:Ha b.p<=16777216:=by have:=Mh hb.p.b b.p.length; rwa [Q6] at this
 obtain ⟨N,hN⟩:=nmE (4*(a.p.length+b.p.length));obtain ⟨S,hS⟩:=nmE (Ha a.p+Ha b.p+(a.p.length+b.p.length)+8);have hNS:N*S<=512*33554568:=Zc (by omega) (by omega);have h0:(N:Int)*(S:Int)=((N*S:Nat):Int):=(Vi _ _).symm;have hst:P8 a b=64+2*(Fe a.lo.num+Fe a.hi.num+Fe b.lo.num+Fe b.hi.num)+N*S:=by rw [hN,hS]; rfl
 rw [hst];exact Ug func192 rfl [.k (QK (z:=a.lo.num) (by omega)),.k (QK (z:=a.hi.num) (by omega)),.k (QK (z:=b.lo.num) (by omega)),.k (QK (z:=b.hi.num) (by omega)),.r 41 (eI (b:=(N:Int)) (by rw [hN]; simp)),.k (jZ ha.p),.k (jZ hb.p),.r 51 (eI (b:=(S:Int)) (by rw [hS]; simp)),.r 52 (eI (b:=((N*S:Nat):Int)) h0)] rfl (by simp) (by rw [h0]; simp [U3]; omega)
def dY (p:Um) (a:Tm):Nat:=64+2*(Fe a.lo.num+Fe a.hi.num)+4*(a.p.length+p.length)*(Ha a.p+Ha p+(a.p.length+p.length)+8)
theorem dO:Uj 206 [lr []] [.oi 0]:=pL (l:=[]) (by simp [Sm]) (by decide)
theorem Qgf {a:Tm} {p:Um} (ha:Tb a) (hp:Pb p):Uj 192 [.agg (ta a),.agg ([pl p,.bool false,.row [],.bool false,.row [],.bool false,.row [],.bool false,.row []])] [.oi (dY p a:Nat)]:=by
 have l1:=ha.p.l;have l2:=hp.l;have b1:=ha.lo.1;have b2:=ha.hi.1;have s1:Ha a.p<=16777216:=by have:=Mh ha.p.b a.p.length; rwa [Q6] at this
 have s2:Ha p<=16777216:=by have:=Mh hp.b p.length; rwa [Q6] at this
 obtain ⟨N,hN⟩:=nmE (4*(a.p.length+p.length));obtain ⟨S,hS⟩:=nmE (Ha a.p+Ha p+(a.p.length+p.length)+8);have hNS:N*S<=512*33554568:=Zc (by omega) (by omega);have h0:(N:Int)*(S:Int)=((N*S:Nat):Int):=(Vi _ _).symm;have hst:dY p a=64+2*(Fe a.lo.num+Fe a.hi.num)+N*S:=by rw [hN,hS]; rfl
 rw [hst];exact Ug func192 rfl [.k (QK (z:=a.lo.num) (by omega)),.k (QK (z:=a.hi.num) (by omega)),.k dO,.k dO,.r 41 (eI (b:=(N:Int)) (by rw [hN]; simp)),.k (jZ ha.p),.k (jZ hp),.r 51 (eI (b:=(S:Int)) (by rw [hS]; simp)),.r 52 (eI (b:=((N*S:Nat):Int)) h0)] rfl (by simp) (by rw [h0]; simp [U3]; omega)
def VL (sg:Um->Int) (l:Un) (i:Nat):Nat×Int:=(l.take i).foldl (Pw sg) (0,0)
theorem vD {sg:Um->Int} (hs:∀ p,-1<=sg p/\sg p<=1) (l:Un):∀ i,(VL sg l i).1<=i/\-1<=(VL sg l i).2/\(VL sg l i).2<=1
 | 0=>⟨Ql _,show (-1:Int)<=0 by decide,show (0:Int)<=1 by decide⟩
 |
  i+1=>by
  obtain ⟨h1,h2,h3⟩:=vD hs l i;cases h:l[i]? with
  |
   none =>
   have:VL sg l (i+1)=VL sg l i:=by unfold VL; rw [List.take_of_length_le (by have:=List.getElem?_eq_none_iff.1 h; omega),List.take_of_length_le (List.getElem?_eq_none_iff.1 h)]
   rw [this]; omega
  |
   some p =>
   have:VL sg l (i+1)=Pw sg (VL sg l i) p:=Sf _ _ _ h;rw [this];have:=hs p;unfold Pw
   split
   ·omega
   ·dsimp only; split <;> omega
theorem Qoa {l:Un} {fid:Nat} {l1:Ur} {sg:Um->Int} (hl:l.length≤1000) (hs:∀ p,-1≤sg p/\sg p≤1) (h:∀ p∈l,AM prog fid [pr p,.one (.sh l1)] [.oi (sg p)]):Uj 277 [.one (.sh [.row (Pg l)]),.one (.fn fid [] [.sh l1])] [.oi (C7 sg l:Nat)]:=by
 have hpl:=Aa l;refine Fv func277 rfl ?_;refine Ud [] rfl ?_;refine Ui (S:=Nat) 0 (λL1 i=>(15,.v (.oi i))::(5,.v (.oi ((VL sg l i).1:Int)))::(6,.v (.one (.int .i64 (VL sg l i).2)))::L1) (λ_=>[]) (λi=>l.length-i) (λi=>i<=l.length) 0 (Qh _) rfl rfl λi hi=>?_
 by_cases hlt:i<l.length
 ·obtain ⟨p,hp⟩:=gxE (l:=l) (i:=i) hlt;have hst:VL sg l (i+1)=Pw sg (VL sg l i) p:=Sf _ _ _ hp;obtain ⟨b1,b2,b3⟩:=vD hs l i;have b4:=hs p;by_cases h0:sg p=0
  ·refine Ue [.t (by simp [hpl]; omega),.x (Rp hp),.k (h p (Qc hp)),.t (by simpa using h0)] rfl ?_;exact rd (i+1) (by omega) hlt (by rw [hst,show Pw sg (VL sg l i) p=VL sg l i from by unfold Pw; rw [if_pos h0]]; rfl)
  ·by_cases h1:(VL sg l i).2=-(sg p)
   ·refine Ue [.t (by simp [hpl]; omega),.x (Rp hp),.k (h p (Qc hp)),.f (by simpa using h0),.t (by simpa using h1)] rfl ?_;exact rd (i+1) (by omega) hlt (by rw [hst,show Pw sg (VL sg l i) p=((VL sg l i).1+1,sg p) from by unfold Pw; rw [if_neg h0,if_pos h1]]; rfl)
   ·refine Ue [.t (by simp [hpl]; omega),.x (Rp hp),.k (h p (Qc hp)),.f (by simpa using h0),.f (by simpa using h1)] rfl ?_;exact rd (i+1) (by omega) hlt (by rw [hst,show Pw sg (VL sg l i) p=((VL sg l i).1,sg p) from by unfold Pw; rw [if_neg h0,if_neg h1]]; rfl)
 ·obtain rfl:i=l.length:=by omega
  refine Uf [.f (by simp [hpl])] rfl ?_ trivial;unfold VL C7; rw [List.take_length]
theorem Qfp {p:Um} {q:Rat} (hp:Pb p) (hq:Qb q):Uj 278 [pr p,.one (.sh (rl q))] [.oi (Ra p q)]:=Ug func278 rfl [.k (PS hp hq)] rfl
theorem lH {l:Un} {q:Rat} (hl:l.length≤1000) (hp:∀ p∈l,Pb p) (hq:Qb q):Uj 252 [.one (.sh [.row (Pg l)]),.agg (rl q)] [.oi (C9 l q:Nat)] :=
 Ug func252 rfl [.k (Qoa (fid:=278) (l1:=rl q) (sg:=λp=>Ra p q) hl (λp=>O1 p q) λp h=>Qfp (hp p h) hq)] rfl
theorem Lv {sg:Um->Int} (hs:∀ p,-1<=sg p/\sg p<=1) (l:Un):C7 sg l<=l.length:=by
 have:=(vD hs l l.length).1;unfold VL at this; rwa [List.take_length] at this
theorem IH {l:Un} {lo hi:Rat} (hl:l.length≤1000) (hp:∀ p∈l,Pb p) (ql:Qb lo) (qh:Qb hi):Uj 215 [.one (.sh [.row (Pg l)]),.agg (rl lo),.agg (rl hi)] [.oi (Tq l lo hi)]:=by
 have b1:C9 l lo<=l.length:=Lv (λp=>O1 p lo) l;have b2:C9 l hi<=l.length:=Lv (λp=>O1 p hi) l;have c1:=Ci qh.s31 ql.s31;unfold Tq;by_cases h:He hi lo<0
 ·rw [if_pos h];exact Ug func215 rfl [.k c1,.t (by simpa using h)] rfl
 ·rw [if_neg h];exact Ug func215 rfl [.k c1,.f (by simpa using h),.k (lH hl hp ql),.k (lH hl hp qh)] rfl rfl (by simp [U3]; omega)
def zTm:Ur:=[.nils,.bool false,.nils,.bool false,.nils,.bool false,.nils,.bool false,.nils]
theorem Qdg {a b:Tm} (ha:Tb a) (hb:Tb b):P8 a b<=17179938816+200000000:=by
 have l1:=ha.p.l;have l2:=hb.p.l;have b1:=ha.lo.1;have b2:=ha.hi.1;have b3:=hb.lo.1;have b4:=hb.hi.1;have s1:Ha a.p<=16777216:=by have:=Mh ha.p.b a.p.length; rwa [Q6] at this
 have s2:Ha b.p<=16777216:=by have:=Mh hb.p.b b.p.length; rwa [Q6] at this
 have:4*(a.p.length+b.p.length)*(Ha a.p+Ha b.p+(a.p.length+b.p.length)+8)<=512*33554568:=Zc (by omega) (by omega);unfold P8; omega
theorem Qp6 {a b:Rat} (ha:Qb a) (hb:Qb b):Qs 2147483647 (EN a b):=by
 have h1:Fe (a.num*(b.den:Int))<=33554432:=Qa (Ga _ _) (by have:=ha.1; have:=hb.2; omega);have h2:Fe (b.num*(a.den:Int))<=33554432:=Qa (Ga _ _) (by have:=hb.1; have:=ha.2; omega);have h3:Fe ((a.den:Int)*(b.den:Int))<=33554432:=Qa (Ga _ _) (by have:=ha.2; have:=hb.2; omega);have h5:Fe (a.num*(b.den:Int)-b.num*(a.den:Int))<=33554433:=Qa (jI _ _) (by omega);exact (Qs.divInt (s:=33554433) h5 (by omega) (by omega)).mono (by omega)
theorem xC {a b:Tm} {r:Tm×Tm×Int} (ha:Tb a) (hb:Tb b) (h:AB (P8 a b) a b=some r):Uj 140 [.agg (ta a),.agg (ta b)] [.agg (ta r.1),.agg (ta r.2.1),.oi r.2.2]:=by
 have hsb:=Qdg ha hb;refine Fv func140 rfl ?_;refine Ud [.k (Qn7 ha hb)] rfl ?_;obtain ⟨n,hn⟩:=nmE (P8 a b);rw [<-hn] at h hsb ⊢;refine sb [(10,.v (.oi 0)),(9,.v (.oi n)),(5,.v (.one (.ow 3 0))),(4,.v (.one (.ow 2 0))),(3,.v (.one (.ow 1 0))),(2,.v (.one (.ow 0 0)))] [.blk 40 (ta a),.blk 40 (ta b),.blk 40 zTm,.blk 40 zTm] rfl rfl ?_;refine Ui (S:=Nat×Tm×Tm) 4 (λL1 s=>(10,.v (.oi (s.1:Int)))::L1) (λs=>[.blk 40 (ta s.2.1),.blk 40 (ta s.2.2),.blk 40 zTm,.blk 40 zTm]) (λs=>n-s.1) (λs=>s.1<=n/\Tb s.2.1/\Tb s.2.2/\AB (n-s.1) s.2.1 s.2.2=some r) (0,a,b) ⟨Qh _,ha,hb,h⟩ rfl rfl λ⟨i,u,v⟩ ⟨j1,j2,j3,j4⟩=>?_
 dsimp only at j1 j2 j3 j4 ⊢;by_cases hi:i<n
 ·obtain ⟨k,hk⟩:∃ k,n-i=k+1:=⟨n-i-1,by omega⟩;have hk':n-(i+1)=k:=by omega
  rw [hk] at j4;have c1:=Ci j2.hi.s31 j3.lo.s31;have c2:=Ci j3.hi.s31 j2.lo.s31;have pu:=La j2;have pv:=La j3;have hlt:decide ((i:Int)<(n:Int))=true:=by simp; omega
  simp only [AB] at j4;refine Ud [.t hlt] rfl ?_;refine ct 3 (S:=Unit) (λ_=>[(10,.v (.oi i)),(9,.v (.oi n)),(5,.v (.one (.ow 3 0))),(4,.v (.one (.ow 2 0))),(3,.v (.one (.ow 1 0))),(2,.v (.one (.ow 0 0)))]) (λ_=>[.blk 40 (ta u),.blk 40 (ta v),.blk 40 zTm,.blk 40 zTm]) (λ_=>¬D8 u v=true/\¬D8 v u=true) rfl ?_ ?_
  ·have bA:D8 u v=(decide (He u.hi v.lo<=0) && !(u.point && v.point && decide (He u.hi v.lo=0))):=by
    unfold D8; cases u.point <;> cases v.point <;> simp
   have bB:D8 v u=(decide (He v.hi u.lo<=0) && !(u.point && v.point && decide (He v.hi u.lo=0))):=by
    unfold D8; cases u.point <;> cases v.point <;> simp
   obtain ⟨a0,A'⟩:∃ b,decide (He u.hi v.lo<=0)=b:=⟨_,rfl⟩;obtain ⟨b0,B'⟩:∃ b,decide (He v.hi u.lo<=0)=b:=⟨_,rfl⟩;obtain ⟨p0,P'⟩:∃ b,u.point=b:=⟨_,rfl⟩;obtain ⟨q0,Q'⟩:∃ b,v.point=b:=⟨_,rfl⟩;obtain ⟨x0,X'⟩:∃ b,decide (He u.hi v.lo=0)=b:=⟨_,rfl⟩;obtain ⟨y0,Y'⟩:∃ b,decide (He v.hi u.lo=0)=b:=⟨_,rfl⟩;rw [A',P',Q',X'] at bA;rw [B',P',Q',Y'] at bB;have r1:D8 u v=true->(u,v,-1)=r:=λh=>by rw [if_pos h] at j4; injection j4
   have r2:¬D8 u v=true->D8 v u=true->(u,v,1)=r:=λh h'=>by rw [if_neg h,if_pos h'] at j4; injection j4
   clear j4;cases a0
   ·cases b0
    ·exact go tt [.k c1,.g 19 false A',.f rfl,.k c2,.g 45 false B',.f rfl] rfl trivial (rc () ⟨by rw [bA]; simp,by rw [bB]; simp⟩ rfl)
    ·cases p0
     ·obtain rfl:=r2 (by rw [bA]; simp) (by rw [bB]; rfl);exact Uf [.k c1,.g 19 false A',.f rfl,.k c2,.g 45 true B',.k pu,.g 48 false P',.g 52 false rfl,.t rfl] rfl
     ·cases q0
      ·obtain rfl:=r2 (by rw [bA]; simp) (by rw [bB]; rfl);exact Uf [.k c1,.g 19 false A',.f rfl,.k c2,.g 45 true B',.k pu,.g 48 true P',.k pv,.g 52 false Q',.t rfl] rfl
      ·cases y0
       ·obtain rfl:=r2 (by rw [bA]; simp) (by rw [bB]; rfl);exact Uf [.k c1,.g 19 false A',.f rfl,.k c2,.g 45 true B',.k pu,.g 48 true P',.k pv,.g 52 true Q',.k c2,.t (by simpa using Y')] rfl
       ·exact go tt [.k c1,.g 19 false A',.f rfl,.k c2,.g 45 true B',.k pu,.g 48 true P',.k pv,.g 52 true Q',.k c2,.f (by simpa using Y')] rfl trivial (rc () ⟨by rw [bA]; simp,by rw [bB]; simp⟩ rfl)
   ·cases p0
    ·obtain rfl:=r1 (by rw [bA]; rfl);exact Uf [.k c1,.g 19 true A',.k pu,.g 22 false P',.g 26 false rfl,.t rfl] rfl
    ·cases q0
     ·obtain rfl:=r1 (by rw [bA]; rfl);exact Uf [.k c1,.g 19 true A',.k pu,.g 22 true P',.k pv,.g 26 false Q',.t rfl] rfl
     ·cases x0
      ·obtain rfl:=r1 (by rw [bA]; rfl);exact Uf [.k c1,.g 19 true A',.k pu,.g 22 true P',.k pv,.g 26 true Q',.k c1,.t (by simpa using X')] rfl
      ·cases b0
       ·exact go tt [.k c1,.g 19 true A',.k pu,.g 22 true P',.k pv,.g 26 true Q',.k c1,.f (by simpa using X'),.k c2,.g 45 false B',.f rfl] rfl trivial (rc () ⟨by rw [bA]; simp,by rw [bB]; simp⟩ rfl)
       ·cases y0
        ·obtain rfl:=r2 (by rw [bA]; simp) (by rw [bB]; rfl);exact Uf [.k c1,.g 19 true A',.k pu,.g 22 true P',.k pv,.g 26 true Q',.k c1,.f (by simpa using X'),.k c2,.g 45 true B',.k pu,.g 48 true P',.k pv,.g 52 true Q',.k c2,.t (by simpa using Y')] rfl
        ·exact go tt [.k c1,.g 19 true A',.k pu,.g 22 true P',.k pv,.g 26 true Q',.k c1,.f (by simpa using X'),.k c2,.g 45 true B',.k pu,.g 48 true P',.k pv,.g 52 true Q',.k c2,.f (by simpa using Y')] rfl trivial (rc () ⟨by rw [bA]; simp,by rw [bB]; simp⟩ rfl)
  ·rintro _ ⟨n1,n2⟩
   rw [if_neg n1,if_neg n2] at j4;have qr:∀ {x y:Rat},Qb x->Qb y->Qs 2147483647 (EN x y):=λh1 h2=>Qp6 h1 h2
   have cc:=Ci (qr j2.hi j2.lo) (qr j3.hi j3.lo);by_cases D:0<=He (EN u.hi u.lo) (EN v.hi v.lo)
   ·rw [if_pos D] at j4;obtain ⟨x,x1,x2⟩:=Qd.1 j4;refine Ue [.k (jQ j2.hi j2.lo),.k (jQ j3.hi j3.lo),.k cc,.t (by simpa using D),.k (mK j2 x1)] rfl ?_;exact rd (i+1,x,v) (by dsimp only; omega) ⟨hi,vM j2 x1,j3,by dsimp only; rw [hk']; exact x2⟩ rfl
   ·rw [if_neg D] at j4;obtain ⟨x,x1,x2⟩:=Qd.1 j4;refine Ue [.k (jQ j2.hi j2.lo),.k (jQ j3.hi j3.lo),.k cc,.f (by simpa using D),.k (mK j3 x1)] rfl ?_;exact rd (i+1,u,x) (by dsimp only; omega) ⟨hi,j2,vM j3 x1,by dsimp only; rw [hk']; exact x2⟩ rfl
 ·obtain rfl:i=n:=by omega
  rw [Ki] at j4;simp only [AB] at j4;injection j4 with j4; subst j4;exact Uf [.f (by simp)] rfl
theorem Qn6 {a b:Rat} (ha:Qb a) (hb:Qb b):Uj 42 [.agg (rl a),.one (.row [rl b])] [.agg (rl (if 0<He b a then b else a))]:=by
 have ca:=MU (U4 a.num) (U4 (a.den:Int)) ha.s32.1 ha.s32.2;have cb:=MU (U4 b.num) (U4 (b.den:Int)) hb.s32.1 hb.s32.2;rw [Su] at ca cb;have cc:=Ci hb.s31 ha.s31;refine Fv func42 rfl ?_;refine Ud [.k ca] rfl ?_;refine Ui (S:=Nat) 3 (λL1 i=>(12,.v (.oi i))::L1) (λi=>[.blk 38 (rl a),.blk 38 [.bool false,.nils,.bool false,.nils],.blk 38 (rl (if i=0 then a else if 0<He b a then b else a))]) (λi=>1-i) (λi=>i<=1) 0 (Qh _) rfl rfl λi hi=>?_
 rcases (show i=0\/i=1 by omega) with rfl | rfl
 ·by_cases h:0<He b a
  ·refine Ud [.t rfl,.x (i:=0) (xs:=rl b) rfl,.k cc,.t (by simpa using h),.k cb] rfl ?_ (by simp [U3]);exact rd 1 (by omega) (by omega) (by rw [if_pos h]; rfl)
  ·refine Ud [.t rfl,.x (i:=0) (xs:=rl b) rfl,.k cc,.f (by simpa using h)] rfl ?_ (by simp [U3]);exact rd 1 (by omega) (by omega) (by rw [if_neg h]; rfl)
 ·exact Uf [.f rfl] rfl
theorem KG {a b:Tm} {c:Int} (ha:Tb a) (hb:Tb b) (h:US a b=some c):Uj 82 [.agg (ta a),.agg (ta b)] [.oi c]:=by
 have ca:=MF ha;have cb:=MF hb;have pa:=La ha;have pb:=La hb;unfold US at h;by_cases h1:a.point=true
 ·rw [if_pos h1] at h;injection h with h; subst h;have:=Qod b a.lo;exact Ug func82 rfl [.k ca,.k cb,.k pa,.t h1,.k (Dk hb ha.lo)] rfl rfl (by simp [U3]; omega)
 rw [if_neg h1] at h;have h1:a.point=false:=by simpa using h1
 by_cases h2:b.point=true
 ·rw [if_pos h2] at h;injection h with h; subst h;exact Ug func82 rfl [.k ca,.k cb,.k pa,.f h1,.k pb,.t h2,.k (Dk ha hb.lo)] rfl
 rw [if_neg h2] at h;have h2:b.point=false:=by simpa using h2
 obtain ⟨lo,hlo⟩:=nmE (if 0<He b.lo a.lo then b.lo else a.lo);obtain ⟨hi,hhi⟩:=nmE (if He b.hi a.hi<0 then b.hi else a.hi);have h:(if He lo hi<0 then (yA a.p b.p).bind λg=>if 1<g.length/\FY g lo hi=true then some 0 else (AB (P8 a b) a b).bind λr=>some r.2.2 else (AB (P8 a b) a b).bind λr=>some r.2.2)=some c:=by rw [hlo,hhi]; exact h
 have qlo:Qb lo:=by rw [hlo]; split; exact hb.lo; exact ha.lo
 have qhi:Qb hi:=by rw [hhi]; split; exact hb.hi; exact ha.hi
 have cm:=Qn6 ha.lo hb.lo;rw [<-hlo] at cm;have cc1:=Ci hb.hi.s31 ha.hi.s31;have cc2:=Ci qlo.s31 qhi.s31;refine Fv func82 rfl ?_;refine Ud [.k ca,.k cb,.k pa,.f h1,.k pb,.f h2,.k cm] rfl ?_;refine ct 2 (S:=Unit) (λ_=>[(6,.v (.one (.ow 3 0))),(5,.v (.one (.ow 2 0))),(4,.v (.oi 0)),(3,.v (.one (.ow 1 0))),(2,.v (.one (.ow 0 0)))]) (λ_=>[.blk 40 (ta a),.blk 40 (ta b),.blk 38 (rl lo),.blk 38 (rl hi)]) (λ_=>True) rfl ?_ ?_
 ·by_cases D:He b.hi a.hi<0
  ·rw [if_pos D] at hhi; subst hhi;exact go tt [.k cc1,.t (by simpa using D)] rfl trivial (rc () trivial rfl)
  ·rw [if_neg D] at hhi; subst hhi;exact go tt [.k cc1,.f (by simpa using D)] rfl trivial (rc () trivial rfl)
 ·rintro _ _
  by_cases D:He lo hi<0
  ·rw [if_pos D] at h;obtain ⟨g,g1,h⟩:=Qd.1 h;have cg:=Qe2 ha.p hb.p g1;have pg:=Qjn ha.p hb.p g1;have ch:=Qfy pg qlo qhi;by_cases G:1<g.length
   ·by_cases R:FY g lo hi=true
    ·rw [if_pos ⟨G,R⟩] at h;injection h with h; subst h;exact Uf [.k cc2,.t (by simpa using D),.k cg,.k (Ma g),.g 58 true (by simp; omega),.k ch,.t R] rfl
    ·rw [if_neg λh=>R h.2] at h;obtain ⟨r,r1,h⟩:=Qd.1 h;injection h with h; subst h;exact Uf [.k cc2,.t (by simpa using D),.k cg,.k (Ma g),.g 58 true (by simp; omega),.k ch,.f (by simpa using R),.k (xC ha hb r1)] rfl
   ·rw [if_neg λh=>G h.1] at h;obtain ⟨r,r1,h⟩:=Qd.1 h;injection h with h; subst h;exact Uf [.k cc2,.t (by simpa using D),.k cg,.k (Ma g),.g 58 false (by simp; omega),.f rfl,.k (xC ha hb r1)] rfl
  ·rw [if_neg D] at h;obtain ⟨r,r1,h⟩:=Qd.1 h;injection h with h; subst h;exact Uf [.k cc2,.f (by simpa using D),.k (xC ha hb r1)] rfl
theorem Qmt {p:Um} {a:Tm} {s:Int} (hp:Pb p) (ha:Tb a) (h:GT p a=some s):Uj 180 [pr p,.agg (ta a)] [.oi s]:=by
 have ca:=MF ha;have pa:=La ha;have cn:=Ht hp.t hp.ln hp.bd;unfold GT at h;by_cases h0:p.length=0
 ·rw [if_pos h0] at h;injection h with h; subst h;exact Ug func180 rfl [.k cn,.k ca,.t (by simp; exact Qj h0)] rfl
 rw [if_neg h0] at h;have h0:p≠[]:=λe=>h0 (by rw [e]; rfl)
 by_cases h1:a.point=true
 ·rw [if_pos h1] at h;injection h with h; subst h;exact Ug func180 rfl [.k cn,.k ca,.f (by simpa using h0),.k pa,.t h1,.k (PS hp ha.lo)] rfl
 rw [if_neg h1] at h;have h1:a.point=false:=by simpa using h1
 obtain ⟨g,g1,h⟩:=Qd.1 h;have cg:=Qe2 hp ha.p g1;have pg:=Qjn hp ha.p g1;have ch:=Qfy pg ha.lo ha.hi;by_cases G:1<g.length/\FY g a.lo a.hi=true
 ·rw [if_pos G] at h;injection h with h; subst h;exact Ug func180 rfl [.k cn,.k ca,.f (by simpa using h0),.k pa,.f h1,.k cg,.k (Ma g),.g 29 true (by simp; omega),.k ch,.t G.2] rfl
 rw [if_neg G] at h;obtain ⟨c,c1,h⟩:=Qd.1 h;obtain ⟨u,u1,h⟩:=Qd.1 h;injection h with h; subst h;obtain ⟨cl,call⟩:=chain_ok hp c1;obtain ⟨n,hn⟩:=nmE (64+2*(Fe a.lo.num+Fe a.hi.num)+4*(a.p.length+p.length)*(Ha a.p+Ha p+(a.p.length+p.length)+8));have cst:=Qgf ha hp;rw [show dY p a=n from hn.symm] at cst;rw [<-hn] at u1;have hnb:n<=17179938816+200000000:=by
  have l1:=ha.p.l;have l2:=hp.l;have b1:=ha.lo.1;have b2:=ha.hi.1;have s1:Ha a.p<=16777216:=by have:=Mh ha.p.b a.p.length; rwa [Q6] at this
  have s2:Ha p<=16777216:=by have:=Mh hp.b p.length; rwa [Q6] at this
  have:4*(a.p.length+p.length)*(Ha a.p+Ha p+(a.p.length+p.length)+8)<=512*33554568:=Zc (by omega) (by omega);omega
 refine Fv func180 rfl ?_;refine Ud [.k cn,.k ca,.f (by simpa using h0),.k pa,.f h1,.k cg] rfl ?_;refine ct 2 (S:=Unit) (λ_=>[(3,.v (.one (.ow 0 0))),(0,.v (pr p))]) (λ_=>[.blk 40 (ta a)]) (λ_=>True) rfl ?_ ?_
 ·by_cases G1:1<g.length
  ·exact go tt [.k (Ma g),.g 29 true (by simp; omega),.k ch,.f (by simpa using λh=>G ⟨G1,h⟩)] rfl trivial (rc () trivial rfl)
  ·exact go tt [.k (Ma g),.g 29 false (by simp; omega),.f rfl] rfl trivial (rc () trivial rfl)
 rintro _ _
 refine Ud [.k (Qff hp c1),.k cst] rfl ?_;refine Ui (S:=Nat×Tm) 1 (λL1 s=>(46,.v (.oi (s.1:Int)))::L1) (λs=>[.blk 40 (ta s.2)]) (λs=>n-s.1) (λs=>s.1<=n/\Tb s.2/\sgF c (n-s.1) s.2=some u) (0,a) ⟨Qh _,ha,u1⟩ rfl rfl λ⟨i,x⟩ ⟨j1,j2,j3⟩=>?_
 dsimp only at j1 j2 j3 ⊢;by_cases hi:i<n
 ·obtain ⟨k,hk⟩:∃ k,n-i=k+1:=⟨n-i-1,by omega⟩;have hk':n-(i+1)=k:=by omega
  rw [hk] at j3;simp only [sgF] at j3;have px:=La j2;have cb:=IH (by omega) call j2.lo j2.hi;have hlt:decide ((i:Int)<(n:Int))=true:=by simp; omega
  by_cases X:x.point=true
  ·rw [if_pos (.inl X)] at j3;injection j3 with j3; subst j3;exact Uf [.t hlt,.k px,.g 50 true X,.t rfl,.k (PS hp j2.hi)] rfl
  ·have X':x.point=false:=by simpa using X
   by_cases Z:Tq c x.lo x.hi=0
   ·rw [if_pos (.inr Z)] at j3;injection j3 with j3; subst j3;exact Uf [.t hlt,.k px,.g 50 false X',.k cb,.t (by simpa using Z),.k (PS hp j2.hi)] rfl
   ·rw [if_neg (by rintro (h | h); exact X h; exact Z h)] at j3;obtain ⟨v,v1,v2⟩:=Qd.1 j3;refine Ue [.t hlt,.k px,.g 50 false X',.k cb,.f (by simpa using Z),.k (mK j2 v1)] rfl ?_;exact rd (i+1,v) (by dsimp only; omega) ⟨hi,vM j2 v1,by dsimp only; rw [hk']; exact v2⟩ rfl
 ·obtain rfl:i=n:=by omega
  rw [Ki] at j3;simp only [sgF] at j3;injection j3 with j3; subst j3;exact Uf [.f (by simp),.k (PS hp j2.hi)] rfl
abbrev tas (l:List Tm):LV:=.row (l.map λt=>ta t)
theorem NS {l:List Tm} {i:Nat} {t:Tm} (h:l[i]? = some t):(l.map λt=>ta t)[i]? = some (ta t):=G5 h
def zTr:Ur:=[.row [],.bool false,.row [],.bool false,.row [],.bool false,.row [],.bool false,.row []]
theorem wW:Uj 41 [.one (.row [])] [.agg zTr,.one (.bool false)]:=Ug func41 rfl [.t rfl] rfl
theorem S9 {b:Tm} {l:List Tm} {m:Tm} (hb:Tb b) (hl:∀ t∈l,Tb t) (hn:l.length≤1000000) (h:QL b l=some m):Uj 41 [.one (tas (b::l))] [.agg (ta m),.one (.bool true)]:=by
 refine Fv func41 rfl ?_;refine go tt [.f (by simp; omega),.x (i:=0) (xs:=ta b) rfl,.i 1] rfl (by simp [U3]; exact ⟨rfl,λ_ _=>rfl⟩) ?_;refine Ui (S:=Nat×Tm) 2 (λL1 s=>(17,.v (.oi (s.1:Int)))::L1) (λs=>[.blk 40 zTm,.blk 40 (ta s.2)]) (λs=>l.length-s.1) (λs=>s.1<=l.length/\Tb s.2/\QL s.2 (l.drop s.1)=some m) (0,b) ⟨Qh _,hb,h⟩ rfl rfl λ⟨i,x⟩ ⟨j1,j2,j3⟩=>?_
 dsimp only at j1 j2 j3 ⊢;by_cases hi:i<l.length
 ·obtain ⟨a,ha⟩:=gxE (l:=l) (i:=i) hi;have hdr:l.drop i=a::l.drop (i+1):=by
   rw [Zp hi]; congr 1;have:=Qe hi; rw [ha] at this; injection this with this; exact this.symm
  rw [hdr] at j3;simp only [QL] at j3;obtain ⟨c,c1,j3⟩:=Qd.1 j3;have ta':=hl a (Qc ha);by_cases hc:c<0
  ·rw [if_pos hc] at j3;refine Ue [.t (by simp; omega),.x (NS ha),.k (KG ta' j2 c1),.t (by simpa using hc)] rfl ?_;exact rd (i+1,a) (by dsimp only; omega) ⟨hi,ta',j3⟩ rfl
  ·rw [if_neg hc] at j3;refine Ue [.t (by simp; omega),.x (NS ha),.k (KG ta' j2 c1),.f (by simpa using hc)] rfl ?_;exact rd (i+1,x) (by dsimp only; omega) ⟨hi,j2,j3⟩ rfl
 ·obtain rfl:i=l.length:=by omega
  rw [Yt] at j3;simp only [QL] at j3;injection j3 with j3; subst j3;exact Uf [.f (by simp),.k (Qgj j2)] rfl
end Orr
namespace Orq
def Fj (x:Rat):Rat:=if x<0 then -x else x
theorem Hw (x:Rat):0<=Fj x:=by unfold Fj; split <;> grind
theorem Mi {x b:Rat}:Fj x<=b↔-b<=x/\x<=b:=by unfold Fj; split <;> constructor <;> grind
theorem vY {x b:Rat}:Fj x<b↔-b<x/\x<b:=by unfold Fj; split <;> constructor <;> grind
theorem Sr (x y:Rat):Fj (x+y)<=Fj x+Fj y:=by unfold Fj; split <;> split <;> split <;> grind
theorem oN (x y:Rat):Fj (x-y)=Fj (y-x):=by unfold Fj; split <;> split <;> grind
theorem Ew (x:Rat):Fj (-x)=Fj x:=by unfold Fj; split <;> split <;> grind
theorem Rj:Fj 0=0:=by decide
theorem Cz {x:Rat} (h:x≠0):0<Fj x:=by unfold Fj; split <;> grind
theorem Qp4 {x:Rat} (h:Fj x=0):x=0:=by unfold Fj at h; split at h <;> grind
theorem Bj {x y:Rat} (h1:0<=x) (h2:0<=y):0<=x*y:=Vx h1 h2
theorem Iz {x y:Rat} (h1:0<x) (h2:0<y):0<x*y:=Xs h1 h2
theorem Cu {a b c d:Rat} (h0:0<=a) (h1:a<=b) (h2:0<=c) (h3:c<=d):a*c<=b*d:=by
 have e1:=Ze h1 h2;have e2:=Z1 h3 (Zl h0 h1);exact Zl e1 e2
theorem Im (x y:Rat):Fj (x*y)=Fj x*Fj y:=by
 unfold Fj;by_cases h1:x<0 <;> by_cases h2:y<0
 ·have:=Iz (x:=-x) (y:=-y) (by grind) (by grind); simp only [h1,h2,if_true]; split <;> grind
 ·have:=Bj (x:=-x) (y:=y) (by grind) (by grind); simp only [h1,h2,if_true,if_false]; split <;> grind
 ·have:=Bj (x:=x) (y:=-y) (by grind) (by grind); simp only [h1,h2,if_true,if_false]; split <;> grind
 ·have:=Bj (x:=x) (y:=y) (by grind) (by grind); simp only [h1,h2,if_false]; split <;> grind
theorem Hd {x y a b:Rat} (h1:Fj x<=a) (h2:Fj y<=b):Fj (x*y)<=a*b:=by
 rw [Im]; exact Cu (Hw x) h1 (Hw y) h2
theorem Ai {x y:Rat} (h1:0<x) (h2:0<y):0<x / y:=by rw [J6]; exact Iz h1 (Rat.inv_pos.2 h2)
theorem Hf {x y:Rat} (h2:0<y):x / y*y=x:=Zj (by grind)
theorem Hi {b d:Rat} (hb:0<=b) (hd:0<d):∃ e:Rat,0<e/\e<=1/\e*b<d:=by
 have h1:0<d / (b+1):=Ai hd (by grind);have h2:d / (b+1)*(b+1)=d:=Hf (by grind);rcases Vw (a:=d / (b+1)) (b:=1) with h | h
 ·exact ⟨d / (b+1),h1,h,by
   have:d / (b+1)*(b+1)=d / (b+1)*b+d / (b+1):=by grind
   grind⟩
 ·refine ⟨1,by decide,by decide,?_⟩;have:1*(b+1)<=d / (b+1)*(b+1):=Ze h (by grind);grind
def ev:Up->Rat->Rat
 | [],_=>0
 | a::p,t=>a+t*ev p t
def dv:Up->Rat->Rat
 | [],_=>0
 | _::p,t=>ev p t+t*dv p t
def dq:Up->Rat->Rat->Rat
 | [],_,_=>0
 | _::p,x,y=>ev p x+y*dq p x y
def dd:Up->Rat->Rat->Rat
 | [],_,_=>0
 | _::p,x,y=>dq p x y+y*dd p x y
theorem OK (x y:Rat):∀ p,ev p x-ev p y=(x-y)*dq p x y
 | []=>by simp only [ev,dq]; grind
 | a::p=>by have:=OK x y p; simp only [ev,dq]; grind
theorem jK (y:Rat):∀ p,dq p y y=dv p y
 | []=>rfl
 | a::p=>by simp only [dq,dv,jK y p]
theorem Qr6 (x y:Rat):∀ p,dq p x y-dv p y=(x-y)*dd p x y
 | []=>by simp only [dv,dq,dd]; grind
 |
  a::p=>by
  have h1:=Qr6 x y p;have h2:=OK x y p;simp only [dv,dq,dd]; grind
theorem Qsa (p:Up) (x y:Rat):ev p x-ev p y=(x-y)*dv p y+(x-y)*(x-y)*dd p x y:=by
 have h1:=OK x y p;have h2:=Qr6 x y p;grind
def uA (R:Rat):Up->Rat
 | []=>0
 | a::p=>Fj a+R*uA R p
def AE (R:Rat):Up->Rat
 | []=>0
 | _::p=>uA R p+R*AE R p
def ddB (R:Rat):Up->Rat
 | []=>0
 | _::p=>AE R p+R*ddB R p
theorem XF {R:Rat} (hR:0<=R):∀ p,0<=uA R p
 | []=>by simp only [uA]; grind
 | a::p=>by have:=Bj hR (XF hR p); have:=Hw a; simp only [uA]; grind
theorem M6 {R:Rat} (hR:0<=R):∀ p,0<=AE R p
 | []=>by simp only [AE]; grind
 | a::p=>by have:=Bj hR (M6 hR p); have:=XF hR p; simp only [AE]; grind
theorem CP {R:Rat} (hR:0<=R):∀ p,0<=ddB R p
 | []=>by simp only [ddB]; grind
 | a::p=>by have:=Bj hR (CP hR p); have:=M6 hR p; simp only [ddB]; grind
theorem SU {R x:Rat} (hx:Fj x<=R):∀ p,Fj (ev p x)<=uA R p
 | []=>by simp only [ev,uA,Rj]; grind
 |
  a::p=>by
  have h1:=Sr a (x*ev p x);have h2:=Hd hx (SU hx p);simp only [ev,uA]; grind
theorem uH {R x y:Rat} (hx:Fj x<=R) (hy:Fj y<=R):∀ p,Fj (dq p x y)<=AE R p
 | []=>by simp only [dq,AE,Rj]; grind
 |
  a::p=>by
  have h1:=Sr (ev p x) (y*dq p x y);have h2:=Hd hy (uH hx hy p);have h3:=SU hx p;simp only [dq,AE]; grind
theorem Qg1 {R x y:Rat} (hx:Fj x<=R) (hy:Fj y<=R):∀ p,Fj (dd p x y)<=ddB R p
 | []=>by simp only [dd,ddB,Rj]; grind
 |
  a::p=>by
  have h1:=Sr (dq p x y) (y*dd p x y);have h2:=Hd hy (Qg1 hx hy p);have h3:=uH hx hy p;simp only [dd,ddB]; grind
theorem Quw {R x y:Rat} (hx:Fj x<=R) (hy:Fj y<=R) (p:Up):Fj (ev p x-ev p y)<=Fj (x-y)*AE R p:=by
 rw [OK,Im]; exact Cu (Hw _) Qp (Hw _) (uH hx hy p)
def Ss:Up->Up->Up
 | [],q=>q
 | a::p,[]=>a::p
 | a::p,b::q=>(a+b)::Ss p q
def D6 (c:Rat) (p:Up):Up:=p.map (c * ·)
def G7:Up->Up->Up
 | [],_=>[]
 | a::p,q=>Ss (D6 a q) (0::G7 p q)
def Bp:Up->Up
 | []=>[]
 | _::p=>Ss p (0::Bp p)
theorem Gz (t:Rat):∀ p q,ev (Ss p q) t=ev p t+ev q t
 | [],q=>by simp only [Ss,ev]; grind
 | a::p,[]=>by simp only [Ss,ev]; grind
 | a::p,b::q=>by have:=Gz t p q; simp only [Ss,ev]; grind
theorem Gt (c t:Rat):∀ p,ev (D6 c p) t=c*ev p t
 | []=>by simp only [D6,X7,ev]; grind
 | a::p=>by have:=Gt c t p; simp only [D6,Z0,ev] at *; grind
theorem Fh (t:Rat):∀ p q,ev (G7 p q) t=ev p t*ev q t
 | [],q=>by simp only [G7,ev]; grind
 | a::p,q=>by have:=Fh t p q; simp only [G7,Gz,Gt,ev]; grind
theorem Tr (t:Rat):∀ p,ev (Bp p) t=dv p t
 | []=>rfl
 | a::p=>by have:=Tr t p; simp only [Bp,Gz,ev,dv]; grind
theorem jU (t:Rat):∀ p q,dv (Ss p q) t=dv p t+dv q t
 | [],q=>by simp only [Ss,dv]; grind
 | a::p,[]=>by simp only [Ss,dv]; grind
 | a::p,b::q=>by have:=jU t p q; have:=Gz t p q; simp only [Ss,dv]; grind
theorem RZ (c t:Rat):∀ p,dv (D6 c p) t=c*dv p t
 | []=>by simp only [D6,X7,dv]; grind
 | a::p=>by have:=RZ c t p; have:=Gt c t p; simp only [D6,Z0,dv] at *; grind
theorem jF (t:Rat):∀ p q,dv (G7 p q) t=dv p t*ev q t+ev p t*dv q t
 | [],q=>by simp only [G7,dv,ev]; grind
 | a::p,q=>by have:=jF t p q; have:=Fh t p q; simp only [G7,jU,RZ,dv,ev]; grind
theorem aV:∀ {p:Up},(∀ x∈p,x=0)->∀ t,ev p t=0
 | [],_,t=>rfl
 |
  a::p,h,t=>by
  have h1:=aV (p:=p) (λx hx=>h x (Qg _ hx)) t;have h2:=h a (Qy ..);simp only [ev,h1,h2]; grind
theorem eA:∀ {p:Up},(∀ x∈p,x=0)->∀ t,dv p t=0
 | [],_,t=>rfl
 |
  a::p,h,t=>by
  have h0:=λx hx=>h x (Qg _ hx)
  have h1:=aV (p:=p) h0 t;have h2:=eA (p:=p) h0 t;simp only [dv,h1,h2]; grind
theorem WI:∀ {p:Up},(∀ t,0<t->t<1->ev p t=0)->∀ x∈p,x=0
 | [],_=>λx hx=>by cases hx
 |
  a::p,h=>by
  have ha:a=0:=by
   rcases Classical.em (a=0) with h0 | h0
   ·exact h0
   ·obtain ⟨e,e1,e2,e3⟩:=Hi (XF (R:=1) (by decide) p) (Cz h0);obtain ⟨f,f1,f2,f3⟩:=Hi (b:=1) (d:=e) (by decide) e1;have h1:=h f f1 (by grind);have h2:=SU (R:=1) (x:=f) (by unfold Fj; split <;> grind) p;have h3:=Im f (ev p f);have h4:Fj f=f:=by unfold Fj; split <;> grind
    have h5:a=-(f*ev p f):=by simp only [ev] at h1; grind
    have h6:Fj a=f*Fj (ev p f):=by rw [h5,Ew,h3,h4]
    have h7:f*Fj (ev p f)<=e*uA 1 p:=Cu (Qt f1) (by grind) (Hw _) h2;grind
  intro x hx;rcases Qm.1 hx with rfl | hx
  ·exact ha
  ·refine WI (p:=p) (λt h1 h2=>?_) x hx;have:=h t h1 h2;simp only [ev,ha] at this;have h3:t*ev p t=0:=by grind
   rcases Y3.1 h3 with h4 | h4
   ·grind
   ·exact h4
theorem Qg9 {p q:Up} (h:∀ t,ev p t=ev q t) (t:Rat):dv p t=dv q t:=by
 have h1:=eA (p:=Ss p (D6 (-1) q)) (WI λt _ _=>by rw [Gz,Gt,h t]; grind) t;rw [jU,RZ] at h1; grind
def Fg (x:Rat):Int:=if x<0 then -1 else if 0<x then 1 else 0
theorem Gq {x:Rat}:Fg x=0↔x=0:=by
 unfold Fg; constructor
 ·intro h; split at h <;> (try split at h) <;> grind
 ·intro h; subst h; rfl
theorem Hy {x:Rat}:Fg x=1↔0<x:=by
 unfold Fg; constructor
 ·intro h; split at h <;> (try split at h) <;> grind
 ·intro h; rw [if_neg (by grind),if_pos h]
theorem Ph {x:Rat}:Fg x=-1↔x<0:=by
 unfold Fg; constructor
 ·intro h; split at h <;> (try split at h) <;> grind
 ·intro h; rw [if_pos h]
theorem Fz (x:Rat):Fg x=-1/\x<0\/Fg x=0/\x=0\/Fg x=1/\0<x:=by
 rcases Vw (a:=x) (b:=0) with h | h
 ·rcases Classical.em (x=0) with h0 | h0
  ·exact .inr (.inl ⟨Gq.2 h0,h0⟩)
  ·exact .inl ⟨Ph.2 (by grind),by grind⟩
 ·rcases Classical.em (x=0) with h0 | h0
  ·exact .inr (.inl ⟨Gq.2 h0,h0⟩)
  ·exact .inr (.inr ⟨Hy.2 (by grind),by grind⟩)
theorem Sv (x y:Rat):Fg (x*y)=Fg x*Fg y:=by
 rcases Fz x with ⟨e1,h1⟩ | ⟨e1,h1⟩ | ⟨e1,h1⟩ <;> rcases Fz y with ⟨e2,h2⟩ | ⟨e2,h2⟩ | ⟨e2,h2⟩ <;> rw [e1,e2]
 ·have:=Iz (x:=-x) (y:=-y) (by grind) (by grind); exact Hy.2 (by grind)
 ·subst h2; exact Gq.2 (by grind)
 ·have:=Iz (x:=-x) (y:=y) (by grind) (by grind); exact Ph.2 (by grind)
 ·subst h1; exact Gq.2 (by grind)
 ·subst h1; exact Gq.2 (by grind)
 ·subst h1; exact Gq.2 (by grind)
 ·have:=Iz (x:=x) (y:=-y) (by grind) (by grind); exact Ph.2 (by grind)
 ·subst h2; exact Gq.2 (by grind)
 ·exact Hy.2 (Iz h1 h2)
theorem Pz {a b d:Rat} (h1:d<=Fj a) (h2:Fj (b-a)<d):Fg b=Fg a/\Fg a≠0:=by
 rw [vY] at h2;rcases Fz a with ⟨e,h⟩ | ⟨e,h⟩ | ⟨e,h⟩
 ·rw [e,Ph]; unfold Fj at h1; rw [if_pos h] at h1; exact ⟨by grind,by decide⟩
 ·subst h; rw [Rj] at h1; grind
 ·rw [e,Hy]; unfold Fj at h1; rw [if_neg (by grind)] at h1; exact ⟨by grind,by decide⟩
def tc (x:Rat):Int->Uq->Nat
 | _,[]=>0
 | s,p::l=>if Fg (ev p x)=0 then tc x s l else (if s=-(Fg (ev p x)) then 1 else 0)+tc x (Fg (ev p x)) l
inductive SCl:List Rat->List Rat->List (List Rat)->Prop
 | base {f g:List Rat} {c:Rat} (hc:c≠0) (hg:∀ t,ev g t=c):SCl f g []
 | step {f g h:List Rat} {l:List (List Rat)} {a b:Rat} {q:List Rat} (ha:0<a) (hb:0<b) (he:∀ t,a*ev f t=ev q t*ev g t-b*ev h t) (hl:SCl g h l):SCl f g (h::l)
theorem Qlf {x:Rat} {s:Int} {g h:Up} {l:Uq} (hh:Fg (ev h x)=-s) (hs:s≠0):tc x s (g::h::l)=1+tc x (-s) l:=by
 have h3:Fg (ev h x)≠0:=by omega
 have hv:s=1\/s=-1:=by rcases Fz (ev h x) with ⟨e,_⟩ | ⟨e,_⟩ | ⟨e,_⟩ <;> omega
 simp only [tc,if_neg h3,hh];rcases Fz (ev g x) with ⟨e,_⟩ | ⟨e,_⟩ | ⟨e,_⟩ <;> rw [e] <;> rcases hv with rfl | rfl <;> simp
theorem GB {x:Rat} {s:Int} {p:Up} {l:Uq} (h:Fg (ev p x)≠0):tc x s (p::l)=(if s=-(Fg (ev p x)) then 1 else 0)+tc x (Fg (ev p x)) l:=by rw [tc,if_neg h]
theorem Mf {R x y e d:Rat} {p:Up} (hx:Fj x<=R) (hy:Fj y<=R) (hR:0<=R) (h:Fj (y-x)<=e) (hd:e*AE R p<d):Fj (ev p y-ev p x)<d:=by
 have h1:=Quw hy hx p;have h2:=Ze h (M6 hR p);grind
theorem qW {a x y:Rat} (ha:0<a) (h:a*x<a*y):x<y:=by
 rcases Vw (a:=y) (b:=x) with h' | h'
 ·have:=Z1 h' (Qt ha); grind
 ·rcases Classical.em (x=y) with e | e
  ·subst e; grind
  ·grind
theorem Qwe {a b d d' B f g h q:Rat} (ha:0<a) (hb:0<b) (dp:0<d) (h7:B*d+a*d<b*d') (hq:Fj q<=B) (hg:Fj g<d) (hh:d'<=Fj h) (he:a*f=q*g-b*h) (hd':0<d'):Fg h=-Fg f/\d<=Fj f:=by
 have h4:=Hd hq (Qt hg);rw [Mi] at h4;have had:=Iz ha dp;have h8:=Z1 hh (Qt hb);rcases Fz h with ⟨s,p⟩ | ⟨s,p⟩ | ⟨s,p⟩
 ·have:Fj h=-h:=by unfold Fj; rw [if_pos p]
  rw [this] at h8;have h10:d<f:=qW ha (by grind);rw [s,Hy.2 (show 0<f by grind)];exact ⟨rfl,by unfold Fj; split <;> grind⟩
 ·rw [p,Rj] at hh; grind
 ·have:Fj h=h:=by unfold Fj; rw [if_neg (by grind)]
  rw [this] at h8;have h10:f < -d:=qW ha (by grind);rw [s,Ph.2 (show f<0 by grind)];exact ⟨rfl,by unfold Fj; split <;> grind⟩
theorem min2 {a b:Rat} (ha:0<a) (hb:0<b):∃ e:Rat,0<e/\e<=a/\e<=b:=by
 rcases Vw (a:=a) (b:=b) with h | h
 ·exact ⟨a,ha,Qp,h⟩
 ·exact ⟨b,hb,h,Qp⟩
theorem Gg (a b:Rat):a<=b\/b<a:=by
 rcases Vw (a:=a) (b:=b) with h | h
 ·exact .inl h
 ·rcases Classical.em (a=b) with e | e
  ·exact .inl (by grind)
  ·exact .inr (by grind)
theorem Qvh {R:Rat} (hR:0<=R) {f g:Up} {l:Uq} (hc:SCl f g l):∃ d e:Rat,0<d/\0<e/\∀ x y,Fj x<=R->Fj y<=R->Fj (y-x)<=e ->
 (d<=Fj (ev f x)\/d<=Fj (ev g x))/\(d<=Fj (ev f x)->Fg (ev f y)=Fg (ev f x)/\Fg (ev f x)≠0)/\(d<=Fj (ev g x)->Fg (ev g y)=Fg (ev g x)/\Fg (ev g x)≠0) /\
 (Fg (ev f y)=Fg (ev f x)->Fg (ev f x)≠0->tc x (Fg (ev f x)) (g::l)=tc y (Fg (ev f x)) (g::l)) /\
 (Fg (ev g y)=Fg (ev g x)->Fg (ev g x)≠0->tc x (Fg (ev g x)) l=tc y (Fg (ev g x)) l):=by
 induction hc with
 |
  @base f g c hc hg =>
  have hd:=Cz hc;obtain ⟨e,e1,e2,e3⟩:=Hi (M6 hR f) hd;refine ⟨Fj c,e,hd,e1,λx y hx hy hxy=>⟨.inr (by rw [hg]; exact Qp),λh=>Pz h (Mf hx hy hR hxy e3),λh=>?_,λ_ _=>?_,λ_ _=>rfl⟩⟩
  ·rw [hg,hg]; exact ⟨rfl,λh=>hc (Gq.1 h)⟩
  ·simp only [tc,hg]
 |
  @step f g h l a b q ha hb he hl ih =>
  obtain ⟨d',e',hd',he',ih⟩:=ih;obtain ⟨d1,d1p,_,d1b⟩:=Hi (b:=uA R q+a) (d:=b*d') (by have:=XF hR q; grind) (Iz hb hd');obtain ⟨d,dp,hd1,hdd⟩:=min2 d1p hd';obtain ⟨ef,ef1,_,ef3⟩:=Hi (M6 hR f) dp;obtain ⟨eg,eg1,_,eg3⟩:=Hi (M6 hR g) dp;obtain ⟨e0,e0p,h1,h2⟩:=min2 ef1 eg1;obtain ⟨e,ep,h0,h3⟩:=min2 e0p he';have h1:=Zl h0 h1;have h2:=Zl h0 h2;refine ⟨d,e,dp,ep,λx y hx hy hxy=>?_⟩;obtain ⟨i1,i2,i3,i4,i5⟩:=ih x y hx hy (Zl hxy h3);have hsm:Fj (ev g x)<d->d'<=Fj (ev h x)/\Fg (ev h x)=-Fg (ev f x)/\d<=Fj (ev f x):=λhg=>by
   have hh:d'<=Fj (ev h x):=by
    rcases i1 with i | i
    ·exact absurd (Zl hdd i) (Jr.2 hg)
    ·exact i
   have h6:d*(uA R q+a)<=d1*(uA R q+a):=Ze hd1 (by have:=XF hR q; clear ih i1 i2 i3 i4 i5 he; grind);have h7:uA R q*d+a*d<b*d':=by clear ih i1 i2 i3 i4 i5 he; grind
   exact ⟨hh,Qwe ha hb dp h7 (SU hx q) hg hh (he x) hd'⟩
  have hfs:d<=Fj (ev f x)->Fg (ev f y)=Fg (ev f x)/\Fg (ev f x)≠0:=λh=>Pz h (Mf hx hy hR (Zl hxy h1) ef3)
  have hgs:d<=Fj (ev g x)->Fg (ev g y)=Fg (ev g x)/\Fg (ev g x)≠0:=λh=>Pz h (Mf hx hy hR (Zl hxy h2) eg3)
  refine ⟨?_,hfs,hgs,λs1 s2=>?_,i4⟩
  ·rcases Gg d (Fj (ev g x)) with h | h
   ·exact .inr h
   ·exact .inl (hsm h).2.2
  ·rcases Gg d (Fj (ev g x)) with h | h
   ·obtain ⟨g1,g2⟩:=hgs h;rw [GB (x:=x) (p:=g) g2,GB (x:=y) (p:=g) (by rw [g1]; exact g2),g1,i4 g1 g2]
   ·obtain ⟨h4,h5,_⟩:=hsm h;obtain ⟨h6,h7⟩:=i3 h4;have i5:=i5 h6 h7;rw [Qlf h5 s2,Qlf (h6.trans h5) s2,<-h5,i5]
end Orq
