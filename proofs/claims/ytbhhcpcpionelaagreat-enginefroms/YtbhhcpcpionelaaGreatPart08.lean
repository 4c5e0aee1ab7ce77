/- PairN DetL H1 HullQ HullS HullT PairQ PW1 DigL R1 R2 S2 S3 NewsN PW2 TouL TouQ MeshN EnL KT EnS SD1 -/
import Derived.Test.YtbhhcpcpionelaaGreatPart04
import Derived.Test.YtbhhcpcpionelaaGreatPart00
import Derived.Test.YtbhhcpcpionelaaGreatPart05
import Derived.Test.YtbhhcpcpionelaaGreatPart07
set_option linter.all false
namespace Orr
def Tx (a b:Crv):Ui:=A0 (Ge (Fz a b) (Fz a b)) (Ge (Fy a b) (Fy a b))
def Hf (a b c d:Crv):Ui:=Bz (Fl (Tx c d) ((a.d*b.d)*(a.d*b.d))) (Fl (Tx a b) ((c.d*d.d)*(c.d*d.d)))
theorem vS {a b:Crv} (ha:Cb a) (hb:Cb b):U7 (Tx a b)/\(Tx a b).length<=31/\Bd 4194312 (Tx a b):=by
 obtain ⟨_,l1,b1⟩:=vP ha hb;obtain ⟨_,l2,b2⟩:=vT ha hb;have m1:=Ru (Fz a b) (Fz a b);have m2:=Ru (Fy a b) (Fy a b);have q1:=Se (u:=5) b1 b1 (by omega);have q2:=Se (u:=5) b2 b2 (by omega);refine ⟨Fq _ _,?_,Uv (I6 q1 q2) (by omega)⟩;have:=Ep (Ge (Fz a b) (Fz a b)) (Ge (Fy a b) (Fy a b));unfold Tx;omega
theorem gY {a b:Crv} (ha:Cb a) (hb:Cb b):U5 (a.d*b.d)<=2097152:=by
 have:=Ft a.d b.d; have:=ha.d; have:=hb.d; omega
theorem nY {a b:Crv} (ha:Cb a) (hb:Cb b):U5 ((a.d*b.d)*(a.d*b.d))<=4194304:=by
 have:=Ft (a.d*b.d) (a.d*b.d); have:=gY ha hb; omega
def M3 (sg:Ui->Int) (a b c d:Pt):Ct:=⟨5,a.id,b.id,c.id,d.id,Hf a.c b.c c.c d.c,G8 sg (Hf a.c b.c c.c d.c)⟩
theorem NU (sg:Ui->Int) (a b c d:Pt):(M3 sg a b c d).p=Hf a.c b.c c.c d.c:=by rw [M3]
def Hp:Nat->List Pt->List (Pt×Pt)
 | 0,_=>[]
 | _+1,[]=>[]
 | k+1,x::l=>l.map (λy=>(x,y))++Hp k l
def Gf (l:List Pt):List (Pt×Pt):=Hp l.length l
theorem Dm:∀ (l:List Pt) (i:Nat) (x:Pt),l[i]? = some x->Hp (i+1) l=Hp i l++(l.drop (i+1)).map (λy=>(x,y))
 | [],i,x,h=>by simp at h
 |
  y::l,0,x,h=>by
  simp at h; subst h;simp [Hp]
 |
  y::l,i+1,x,h=>by
  have h:l[i]? = some x:=by simpa using h
  have ih:=Dm l i x h;show l.map (λz=>(y,z))++Hp (i+1) l=(l.map (λz=>(y,z))++Hp i l)++_;rw [ih,Q9];rfl
theorem Tw:∀ (k:Nat) (l:List Pt),∀ m∈Hp k l,m.1∈l/\m.2∈l
 | 0,l,m,h=>by simp [Hp] at h
 | k+1,[],m,h=>by simp [Hp] at h
 |
  k+1,x::l,m,h=>by
  rcases Qr.1 h with h | h
  ·obtain ⟨y,hy,rfl⟩:=Zg.1 h;exact ⟨Qw ..,Qg _ hy⟩
  ·obtain ⟨h1,h2⟩:=Tw k l m h;exact ⟨Qg _ h1,Qg _ h2⟩
theorem YE:∀ (k:Nat) (l:List Pt),(Hp k l).length<=k*l.length
 | 0,l=>by simp [Hp]
 | k+1,[]=>by simp [Hp]
 |
  k+1,x::l=>by
  have:=YE k l;simp only [Hp,Q0,Zl,Q4];have e:(k+1)*(l.length+1)=k*l.length+k+l.length+1:=by rw [X2,Xj]; omega
  omega
def Pe (sg:Ui->Int) (s m:Pt×Pt):Pt×Pt:=if G8 sg (Hf s.1.c s.2.c m.1.c m.2.c)<0 then m else s
def Hb (sg:Ui->Int) (s:Pt×Pt) (ps:List (Pt×Pt)):Pt×Pt:=ps.foldl (Pe sg) s
theorem FD (sg:Ui->Int) (s m:Pt×Pt):Pe sg s m=m\/Pe sg s m=s:=by
 unfold Pe
 split
 ·exact .inl rfl
 ·exact .inr rfl
theorem Ox (sg:Ui->Int) (s m:Pt×Pt) (ps:List (Pt×Pt)):Hb sg s (m::ps)=Hb sg (Pe sg s m) ps:=by unfold Hb; rw [List.foldl_cons]
theorem OS (sg:Ui->Int) (s:Pt×Pt) (ps:List (Pt×Pt)) (m:Pt×Pt):Hb sg s (ps++[m])=Pe sg (Hb sg s ps) m:=by simp [Hb]
theorem Di (sg:Ui->Int) {l:List Pt}:∀ (ps:List (Pt×Pt)) (s:Pt×Pt),s.1∈l/\s.2∈l->(∀ m∈ps,m.1∈l/\m.2∈l)->(Hb sg s ps).1∈l/\(Hb sg s ps).2∈l
 | [],s,hs,_=>hs
 |
  m::ps,s,hs,h=>by
  have hn:(Pe sg s m).1∈l/\(Pe sg s m).2∈l:=by
   rcases FD sg s m with e | e
   ·rw [e]; exact h m (Qw ..)
   ·rw [e]; exact hs
  rw [Ox];exact Di sg ps (Pe sg s m) hn λx hx=>h x (Qg _ hx)
def O6 (s m:Pt×Pt):Bool:=decide (m.1.id≠s.1.id) || decide (m.2.id≠s.2.id)
def Ma (sg:Ui->Int) (s:Pt×Pt) (ps:List (Pt×Pt)):List Ct:=(ps.filter (O6 s)).map λm=>M3 sg s.1 s.2 m.1 m.2
theorem Qif {sg:Ui->Int} {s m:Pt×Pt} {ps:List (Pt×Pt)} (h:O6 s m=true):Ma sg s (ps++[m])=Ma sg s ps++[M3 sg s.1 s.2 m.1 m.2]:=by simp [Ma,Vi,h]
theorem Qie {sg:Ui->Int} {s m:Pt×Pt} {ps:List (Pt×Pt)} (h:O6 s m=false):Ma sg s (ps++[m])=Ma sg s ps:=by simp [Ma,Vi,h]
theorem DC {sg:Ui->Int} {s:Pt×Pt} {ps:List (Pt×Pt)} {c:Ct} (h:c∈Ma sg s ps):∃ x∈ps,M3 sg s.1 s.2 x.1 x.2=c:=by
 unfold Ma at h;obtain ⟨x,hx,e⟩:=Zg.1 h;exact ⟨x,(Ye.1 hx).1,e⟩
theorem DN (sg:Ui->Int) (s:Pt×Pt) (ps:List (Pt×Pt)):(Ma sg s ps).length<=ps.length:=by
 unfold Ma;rw [Zl];exact Y0 _ _
def ZF (sg:Ui->Int):List Pt->List Pt
 | a::b::l=>[(Hb sg (a,b) (Gf (a::b::l))).1,(Hb sg (a,b) (Gf (a::b::l))).2]
 | _=>[]
def Dl (sg:Ui->Int):List Pt->List Ct
 | a::b::l=>Ma sg (Hb sg (a,b) (Gf (a::b::l))) (Gf (a::b::l))
 | _=>[]
theorem aW (sg:Ui->Int) {l:List Pt} (h:l.length<2):ZF sg l=[]/\Dl sg l=[]:=by
 match l,h with
 | [],_=>exact ⟨rfl,rfl⟩
 | [a],_=>exact ⟨rfl,rfl⟩
theorem Qp1 {l:List Pt} (h:¬l.length<2):∃ a b m,l=a::b::m:=by
 match l,h with
 | [],h=>simp at h
 | [a],h=>simp at h
 | a::b::m,_=>exact ⟨a,b,m,rfl⟩
theorem ER (sg:Ui->Int) (l:List Pt):(Dl sg l).length<=l.length*l.length:=by
 match l with
 | []=>simp [Dl]
 | [a]=>simp [Dl]
 | a::b::m=>exact Qc (DN _ _ _) (YE _ _)
def Ao (l:List Uj):Uo:=l.map λr=>[.row (r.map λp=>[pl p])]
abbrev ZN (r:Uj):Uo:=r.map λp=>[pl p]
theorem XN (l:List Uj):(Ao l).length=l.length:=by simp [Ao]
def ZX (i:Nat) (rows:List Uj):Nat->List Uj
 | 0=>[]
 | j+1=>if j=i then ZX i rows j else ZX i rows j++[(rows.getD j []).drop 1]
def JK (rows:List Uj) (i:Nat):List Uj:=ZX i rows rows.length
def Ce (f:Nat->Ui) (rows:List Uj):Nat->Ui
 | 0=>[]
 |
  i+1=>if ((rows.getD i []).getD 0 []).length=0 then Ce f rows i else
  if i % 2=0 then A0 (Ce f rows i) (Ge ((rows.getD i []).getD 0 []) (f i)) else Bz (Ce f rows i) (Ge ((rows.getD i []).getD 0 []) (f i))
def Dn:Nat->List Uj->Ui
 | 0,_=>[1]
 | k+1,rows=>Ce (λi=>Dn k (JK rows i)) rows (k+1)
structure Sq (s:Nat) (ds:List Nat) (k w:Nat) (rows:List (List (List Int))):Prop where
 l:rows.length=k
 w:∀ r∈rows,r.length=w
 t:∀ r∈rows,∀ p∈r,U7 p
 b:∀ r∈rows,∀ p∈r,Bd s p
 n:∀ r∈rows,∀ (j:Nat) (p:List Int),r[j]? = some p->p.length≤ds.getD j 0+1
theorem NW {i:Nat} {rows:List Uj}:∀ {j:Nat} {r:Uj},j≤rows.length->r∈ZX i rows j->∃ q∈rows,r=q.drop 1
 | 0,r,_,h=>by simp [ZX] at h
 |
  j+1,r,hj,h=>by
  simp only [ZX] at h
  split at h
  ·exact NW (by omega) h
  ·rcases Qr.1 h with h | h
   ·exact NW (by omega) h
   ·rw [Qj.1 h];exact ⟨rows.getD j [],Qa (i:=j) (by rw [Qk,Qf (by omega)]; rfl),rfl⟩
theorem NK {i:Nat} {rows:List Uj}:∀ (j:Nat),(ZX i rows j).length=if i<j then j-1 else j
 | 0=>rfl
 |
  j+1=>by
  have ih:=NK (i:=i) (rows:=rows) j;simp only [ZX]
  split
  ·rename_i e; subst e; rw [ih,if_neg (by omega),if_pos (by omega)]; omega
  ·rw [Q0,ih,Kq]
   split <;> split <;> omega
theorem Sq.min {s d k w:Nat} {ds:Uk} {rows:List Uj} (h:Sq s (d::ds) (k+1) (w+1) rows) {i:Nat} (hi:i<k+1):Sq s ds k w (JK rows i):=by
 have hl:=h.l;have hm:∀ {r:Uj},r∈JK rows i->∃ q∈rows,r=q.drop 1:=λh=>NW (Ql _) h
 refine ⟨by unfold JK; rw [NK,hl,if_pos hi]; omega,λr hr=>?_,λr hr p hp=>?_,λr hr p hp=>?_,λr hr j p hp=>?_⟩
 ·obtain ⟨q,hq,rfl⟩:=hm hr;rw [Ze,h.w q hq]; omega
 all_goals obtain ⟨q,hq,rfl⟩:=hm hr
 ·exact h.t q hq p (Qy hp)
 ·exact h.b q hq p (Qy hp)
 ·rw [Xa] at hp;have:=h.n q hq (1+j) p hp;rw [Jr 1 j] at this;exact this
theorem Sq.at {s d k w:Nat} {ds:Uk} {rows:List Uj} (h:Sq s (d::ds) k (w+1) rows) {i:Nat} (hi:i<k):∃ p r,rows[i]? = some (p::r)/\(rows.getD i []).getD 0 []=p/\U7 p/\Bd s p/\p.length<=d+1:=by
 obtain ⟨r,hr⟩:=gxE (l:=rows) (i:=i) (by rw [h.l]; exact hi);have hm:=Qa hr;cases r with
 | nil=>have:=h.w _ hm; simp at this
 |
  cons p r =>
  have e:rows.getD i []=p::r:=by rw [Qk,hr]; rfl
  refine ⟨p,r,hr,by rw [e]; rfl,h.t _ hm p (by simp),h.b _ hm p (by simp),h.n _ hm 0 p rfl⟩
theorem IP {s d k w:Nat} {ds:Uk} {f:Nat->Ui} {rows:List Uj} {B L:Nat} (h:Sq s (d::ds) k (w+1) rows) (hn:d<31) (hf:∀ i,i<k->Bd B (f i)/\(f i).length<=L+1):∀ i,i<=k->U7 (Ce f rows i)/\Bd (s+B+5+i) (Ce f rows i)/\(Ce f rows i).length<=d+L+1
 | 0,_=>⟨rfl,λz hz=>(by cases hz),Qi _⟩
 |
  i+1,hi=>by
  obtain ⟨h1,h2,h3⟩:=IP h hn hf i (by omega);obtain ⟨p,r,_,e,t,b,l⟩:=h.at (i:=i) (by omega);obtain ⟨f1,f2⟩:=hf i (by omega);have hp1:Bd (s+B+5) (Ge p (f i)):=Se b f1 (by omega);have hp2:=Ru p (f i);simp only [Ce];rw [e]
  split
  ·exact ⟨h1,Uv h2 (by omega),h3⟩
  ·split
   ·exact ⟨Fq _ _,Uv (I6 h2 hp1) (by omega),Qc (Ep _ _) (by omega)⟩
   ·exact ⟨Fq _ _,Uv (Cn h2 hp1) (by omega),Qc (Mg _ _) (by omega)⟩
theorem TL {s:Nat}:∀ (k:Nat) (ds:Uk) (rows:List Uj),k<=4->ds.length=k->ds.sum<31->Sq s ds k k rows->U7 (Dn k rows)/\Bd (k*(s+10)+1) (Dn k rows)/\(Dn k rows).length<=ds.sum+1
 | 0,ds,rows,_,_,_,_=>⟨rfl,λz hz=>(by simp [Dn] at hz; subst hz; rw [Yh]; decide),by simp [Dn]⟩
 | k+1,[],rows,_,hl,_,_=>by simp at hl
 |
  k+1,d::ds,rows,hk,hl,hd,h=>by
  rw [Kn] at hd;have ih:=λi (hi:i<k+1)=>TL k ds (JK rows i) (by omega) (by simpa using hl) (by omega) (h.min hi)
  obtain ⟨h1,h2,h3⟩:=IP (f:=λi=>Dn k (JK rows i)) (B:=k*(s+10)+1) (L:=ds.sum) h (by omega) (λi hi=>⟨(ih i hi).2.1,(ih i hi).2.2⟩) (k+1) (Ql _);have e1:(k+1)*(s+10)=k*(s+10)+(s+10):=Z8 ..;rw [Kn];exact ⟨h1,Uv h2 (by omega),h3⟩
def vF (a b c:Crv):List Uj:=[[a.x,a.y,[a.d]],[b.x,b.y,[b.d]],[c.x,c.y,[c.d]]]
def G0 (a b c:Crv):Ui:=Dn 3 (vF a b c)
end Orr
namespace Orr
open Go Go.Proofs Tryz Orq
set_option maxRecDepth 10000
theorem gz {P:Program} [Mo P] {n:Nat} {Q:Exit->Sg->Up->Prop} {L L':Sg} {B B':Up} (i:Nat) {it:List It} (hs:Ri it=true) (h:aR [i] L B=some (L',B')) (k:AK P n Q it L' B'):AK P n Q it L B:=AK.sub (WM h) hs k
theorem BF {r:Uj} {i:Nat} {p:Ui} (h:r[i]? = some p):(ZN r)[i]? = some [pl p]:=H9 h
theorem L6 {l:List Uj} {i:Nat} {r:Uj} (h:l[i]? = some r):(Ao l)[i]? = some [.row (ZN r)]:=H9 h
theorem oV {r:Uj} (ht:∀ p∈r,U7 p) (hb:∀ p∈r,Bd 1000000 p) (hl:∀ p∈r,p.length≤1000000) (hn:r.length≤1000):Uf 249 [.one (.row (ZN r))] [.one (.row (ZN r))]:=by
 have hrl:(ZN r).length=r.length:=by simp
 refine Gb func249 rfl ?_;refine W9 [.o 3 34 1] rfl ?_;refine Ue (S:=Nat) 1 (λL1 i=>(8,.v (.oi i))::(3,.v (.one (.orow 0 1 none)))::L1) (λi=>[.row false 34 1 (ZN (r.take i))]) (λi=>r.length-i) (λi=>i<=r.length) 0 (Qi _) rfl rfl λi hi=>?_
 by_cases h:i<r.length
 ·obtain ⟨p,hp⟩:=gxE (l:=r) (i:=i) h;have hm:=Qa hp;have hs:∀ y∈[[pl p]],y.length=1:=λy hy=>by rw [Qj.1 hy]; rfl
  have e:ZN (r.take (i+1))=ZN (r.take i)++[[pl p]]:=by rw [Z5,hp]; simp
  refine go tt [.T,.x (BF hp),.k (Hd (ht p hm) (by have:=hl p hm; omega) (Uv (hb p hm) (by decide))),.s (sz:=1) hs] rfl (by simp [Uw] <;> omega) ?_;exact rd (i+1) (by omega) h (by rw [e]; rfl)
 ·obtain rfl:i=r.length:=by omega
  rw [Q6];exact Ub [.F] rfl
theorem Qq6 {s k w:Nat} {ds:Uk} {rows:List Uj} (h:Sq s ds k k rows) (_hw:w=k) (hk:k<=4):Uf 278 [.one (.row (Ao rows))] [.one (.bool true)]:=by
 have hrl:=XN rows;have hl:=h.l;refine Gb func278 rfl ?_;refine W9 [] rfl ?_;refine Ue (S:=Nat) 0 (λL1 i=>(7,.v (.oi i))::L1) (λ_=>[]) (λi=>rows.length-i) (λi=>i<=rows.length) 0 (Qi _) rfl rfl λi hi=>?_
 by_cases hlt:i<rows.length
 ·obtain ⟨r,hr⟩:=gxE (l:=rows) (i:=i) hlt;have hw:=h.w r (Qa hr);have hql:(ZN r).length=r.length:=by simp
  refine go tt [.T,.x (L6 hr),.f (decide_eq_false (λh=>h (by omega)))] rfl (by simp [Uw] <;> omega) ?_;exact rd (i+1) (by omega) hlt rfl
 ·exact Ub [.F] rfl (by rw [decide_eq_true (by omega:((Ao rows).length:Int)<=4)]) trivial
theorem Qhz {s k w:Nat} {ds:Uk} {rows:List Uj} (h:Sq s ds k w rows) (hs:s<=1000000) (hk:k<=4) (hw:w<=4) (hd:∀ j,ds.getD j 0<=1000) (i:Nat):Uf 302 [.oi i,.oi 0,.one (.row (Ao rows))] [.one (.row (Ao (JK rows i)))]:=by
 have hrl:=XN rows;have hl:=h.l;have hml:∀ j,j<=rows.length->(Ao (ZX i rows j)).length<=4:=λj hj=>by
  rw [XN,NK]; split <;> omega
 refine Gb func302 rfl ?_;refine W9 [.o 7 322 1] rfl ?_;refine Ue (S:=Nat) 1 (λL1 j=>(15,.v (.oi j))::(7,.v (.one (.orow 0 1 none)))::L1) (λj=>[.row false 322 1 (Ao (ZX i rows j))]) (λj=>rows.length-j) (λj=>j<=rows.length) 0 (Qi _) rfl rfl λj hj=>?_
 have hmlj:=hml j hj;by_cases hlt:j<rows.length
 ·obtain ⟨r,hr⟩:=gxE (l:=rows) (i:=j) hlt;have hm:=Qa hr;have hw:=h.w r hm;have hql:(ZN r).length=r.length:=by simp
  by_cases hij:j=i
  ·have e:ZX i rows (j+1)=ZX i rows j:=by simp only [ZX]; rw [if_pos hij]
   refine go tt [.T,.x (L6 hr),.T] rfl (by simp [Uw] <;> omega) ?_;exact rd (j+1) (by omega) hlt (by rw [e]; rfl)
  ·have e:ZX i rows (j+1)=ZX i rows j++[r.drop 1]:=by
    simp only [ZX]; rw [if_neg hij,Qk,hr]; rfl
   refine W9 [.T,.x (L6 hr),.F,.o 10 34 1] rfl ?_ (by simp [Uw]);refine Ue (S:=Nat) 2 (λL1 c=>(25,.v (.oi c))::(10,.v (.one (.orow 1 1 none)))::L1) (λc=>[.row false 322 1 (Ao (ZX i rows j)),.row false 34 1 (ZN ((r.take c).drop 1))]) (λc=>r.length-c) (λc=>c<=r.length) 0 (Qi _) rfl rfl λc hc=>?_
   by_cases hcl:c<r.length
   ·obtain ⟨p,hp⟩:=gxE (l:=r) (i:=c) hcl;have hpm:=Qa hp;by_cases h0:c=0
    ·subst h0;refine W9 [.T,.x (BF hp),.f (decide_eq_false (by simp))] rfl ?_ (by simp [Uw]);exact rd 1 (by omega) hcl (by rw [Z5,hp]; rfl)
    ·have hs1:∀ y∈[[pl p]],y.length=1:=λy hy=>by rw [Qj.1 hy]; rfl
     have e2:ZN ((r.take (c+1)).drop 1)=ZN ((r.take c).drop 1)++[[pl p]]:=by
      rw [Z5,hp,Wa (by rw [Qu]; omega)]; simp
     refine go tt [.T,.x (BF hp),.T,.k (Hd (h.t r hm p hpm) (by have:=h.n r hm c p hp; have:=hd c; omega) (Uv (h.b r hm p hpm) (by omega))),.s (sz:=1) hs1] rfl (by simp [Uw] <;> omega) ?_;exact rd (c+1) (by omega) hcl (by rw [e2]; rfl)
   ·obtain rfl:c=r.length:=by omega
    rw [Q6];have hs1:∀ y∈[[LV.row (ZN (r.drop 1))]],y.length=1:=λy hy=>by rw [Qj.1 hy]; rfl
    refine W9 [.F] rfl ?_;refine gz 1 rfl rfl ?_;refine go tt [.s (sz:=1) hs1] rfl (by simp [Uw] <;> omega) ?_;exact rd (j+1) (by omega) hlt (by rw [e]; simp [Ao]; rfl)
 ·obtain rfl:j=rows.length:=by omega
  exact Ub [.F] rfl
theorem HU:∀ (ds:Uk) (j:Nat),ds.getD j 0<=ds.sum
 | [],j=>by simp
 | d::ds,0=>by simp
 |
  d::ds,j+1=>by
  have:=HU ds j;rw [Kn];show ds.getD j 0<=_;omega
theorem Qlj {s:Nat} (hs:s<=100000):∀ (k:Nat) (ds:Uk) (rows:List Uj),k<=4->ds.length=k->ds.sum<31->Sq s ds k k rows->Uf 279 [.one (.row (Ao rows))] [pr (Dn k rows)]
 |
  0,ds,rows,_,_,_,h=>by
  have e:=Qh h.l;subst e;have co:=DY (p:=[1]) (by decide) (by decide);exact Uc func279 rfl [.t rfl,.k co] rfl
 | k+1,[],_,_,hl,_,_=>by simp at hl
 |
  k+1,d::ds,rows,hk,hl,hd,h=>by
  rw [Kn] at hd;have hl':ds.length=k:=by simpa using hl
  have hrl:=XN rows;have hrn:=h.l;have hmin:=λi (hi:i<k+1)=>h.min hi
  have ih:=λi (hi:i<k+1)=>Qlj hs k ds (JK rows i) (by omega) hl' (by omega) (hmin i hi)
  have hok:=λi (hi:i<k+1)=>TL k ds (JK rows i) (by omega) hl' (by omega) (hmin i hi)
  have hb:k*(s+10)+1<=500000:=by
   have:k*(s+10)<=4*(100010):=Q7 (by omega) (by omega);omega
  have hds:=IP (f:=λi=>Dn k (JK rows i)) (B:=k*(s+10)+1) (L:=ds.sum) h (by omega) (λi hi=>⟨(hok i hi).2.1,(hok i hi).2.2⟩);have cm:=Qhz h (by omega) hk hk (λj=>by have:=HU (d::ds) j; rw [Kn] at this; omega);show Uf 279 [.one (.row (Ao rows))] [pr (Ce (λi=>Dn k (JK rows i)) rows (k+1))];obtain ⟨f,hf⟩:=nmE (λi=>Dn k (JK rows i));rw [<-hf] at hds ⊢;have hfi:∀ i,f i=Dn k (JK rows i):=λi=>by rw [hf]
  refine Gb func279 rfl ?_;refine W9 [.F,.z 3] rfl ?_;refine Ue (S:=Nat) 0 (λL1 i=>(14,.v (.oi i))::(3,.v (pr (Ce f rows i)))::L1) (λ_=>[]) (λi=>k+1-i) (λi=>i<=k+1) 0 (Qi _) rfl rfl λi hi=>?_
  obtain ⟨d1,d2,d3⟩:=hds i hi;by_cases hlt:i<k+1
  ·obtain ⟨p,r,hr,e,t,b,l⟩:=h.at hlt;have hx0:(ZN (p::r))[0]? = some [pl p]:=rfl;have hpl:(p.map G6).length=p.length:=by simp
   have cn:=Hd t (by omega) (Uv b (by omega));by_cases h0:p.length=0
   ·have es:Ce f rows (i+1)=Ce f rows i:=by simp only [Ce]; rw [e,if_pos h0]
    refine go tt [.T,.x (L6 hr),.x hx0,.k cn,.T] rfl (by simp [Uw] <;> omega) ?_;exact rd (i+1) (by omega) hlt (by rw [es]; rfl)
   ·obtain ⟨k1,k2,k3⟩:=hok i hlt;have ci:=ih i hlt;have cp:=YJ (p:=p) (q:=f i) t (by rw [hfi]; exact k1) (by omega) (by rw [hfi]; omega) b (by rw [hfi]; exact k2) (by omega);have hmb:Bd (s+(k*(s+10)+1)+5) (Ge p (f i)):=Se b (by rw [hfi]; exact k2) (by omega);have hml:=Ru p (f i);have hfl:(f i).length<=ds.sum+1:=by rw [hfi]; exact k3
    rw [<-hfi] at ci;by_cases h2:i % 2=0
    ·have es:Ce f rows (i+1)=A0 (Ce f rows i) (Ge p (f i)):=by simp only [Ce]; rw [e,if_neg h0,if_pos h2]
     refine go tt [.T,.x (L6 hr),.x hx0,.k cn,.F,.x hx0,.k (cm i),.k ci,.k cp,.r 34 (eI (b:=((i % 2:Nat):Int)) rfl),.T,.k (PY (p:=Ce f rows i) (q:=Ge p (f i)) (by omega) (by omega) (Uv d2 (by omega)) (Uv hmb (by omega)))] rfl (by simp [Uw] <;> omega) ?_;exact rd (i+1) (by omega) hlt (by rw [es]; rfl)
    ·have es:Ce f rows (i+1)=Bz (Ce f rows i) (Ge p (f i)):=by simp only [Ce]; rw [e,if_neg h0,if_neg h2]
     refine go tt [.T,.x (L6 hr),.x hx0,.k cn,.F,.x hx0,.k (cm i),.k ci,.k cp,.r 34 (eI (b:=((i % 2:Nat):Int)) rfl),.F,.k (UN (p:=Ce f rows i) (q:=Ge p (f i)) (by omega) (by omega) (Uv d2 (by omega)) (Uv hmb (by omega)))] rfl (by simp [Uw] <;> omega) ?_;exact rd (i+1) (by omega) hlt (by rw [es]; rfl)
  ·obtain rfl:i=k+1:=by omega
   exact Ub [.F] rfl
theorem Qlb {s:Nat} (hs:s<=100000) {k:Nat} {ds:Uk} {rows:List Uj} (hk:k<=4) (hl:ds.length=k) (hd:ds.sum<31) (h:Sq s ds k k rows):Uf 250 [.one (.row (Ao rows))] [pr (Dn k rows),.oi 0] :=
 Uc func250 rfl [.k (Qq6 h rfl hk),.f rfl,.k (Qlj hs k ds rows hk hl hd h)] rfl
theorem fX {k:Crv} (hk:Sc k):Uf 248 [.agg (cl k)] [.one (.row (ZN [k.x,k.y,[k.d]]))]:=by
 have h0:k.d≠0:=by have:=hk.n.2.2.1; omega
 have td:U7 [k.d]:=by unfold U7; simp [trim,h0]
 have cd:=oV (r:=[k.x,k.y,[k.d]]) (λp hp=>by
  rcases Qm.1 hp with rfl | hp
  ·exact hk.n.1
  rcases Qm.1 hp with rfl | hp
  ·exact hk.n.2.1
  ·rw [Qj.1 hp]; exact td) (λp hp=>by
  rcases Qm.1 hp with rfl | hp
  ·exact Uv hk.c.x (by decide)
  rcases Qm.1 hp with rfl | hp
  ·exact Uv hk.c.y (by decide)
  ·rw [Qj.1 hp];intro z hz; rw [Qj.1 hz]; exact Qc hk.c.d (by decide)) (λp hp=>by
  rcases Qm.1 hp with rfl | hp
  ·have:=hk.c.lx; omega
  rcases Qm.1 hp with rfl | hp
  ·have:=hk.c.ly; omega
  ·rw [Qj.1 hp]; show 1<=1000000; decide) (by show 3<=1000; decide)
 exact Uc func248 rfl [.k (Cq hk.n (hk.c.mono (by decide) (by decide))),.k cd] rfl
theorem wX {a b c:Crv} (ha:Sc a) (hb:Sc b) (hc:Sc c):Sq 128 [2,2,0] 3 3 (vF a b c):=by
 have key:∀ k:Crv,Sc k->(∀ p∈[k.x,k.y,[k.d]],U7 p/\Bd 128 p)/\∀ (j:Nat) (p:Ui),[k.x,k.y,[k.d]][j]? = some p->p.length≤[2,2,0].getD j 0+1:=λk hk=>by
  have h0:k.d≠0:=by have:=hk.n.2.2.1; omega
  have td:U7 [k.d]:=by unfold U7; simp [trim,h0]
  refine ⟨λp hp=>?_,λj p hp=>?_⟩
  ·rcases Qm.1 hp with rfl | hp
   ·exact ⟨hk.n.1,hk.c.x⟩
   rcases Qm.1 hp with rfl | hp
   ·exact ⟨hk.n.2.1,hk.c.y⟩
   ·rw [Qj.1 hp];exact ⟨td,λz hz=>by rw [Qj.1 hz]; exact hk.c.d⟩
  ·match j,hp with
   | 0,hp=>injection hp with hp; subst hp; exact hk.c.lx
   | 1,hp=>injection hp with hp; subst hp; exact hk.c.ly
   | 2,hp=>injection hp with hp; subst hp; exact Ql _
   | j+3,hp=>simp at hp
 have hr:∀ r∈vF a b c,∃ k:Crv,Sc k/\r=[k.x,k.y,[k.d]]:=λr hr=>by
  rcases Qm.1 hr with rfl | hr
  ·exact ⟨a,ha,rfl⟩
  rcases Qm.1 hr with rfl | hr
  ·exact ⟨b,hb,rfl⟩
  ·rw [Qj.1 hr]; exact ⟨c,hc,rfl⟩
 refine ⟨rfl,λr h=>?_,λr h p hp=>?_,λr h p hp=>?_,λr h j p hp=>?_⟩
 all_goals obtain ⟨k,hk,rfl⟩:=hr r h
 ·rfl
 ·exact ((key k hk).1 p hp).1
 ·exact ((key k hk).1 p hp).2
 ·exact (key k hk).2 j p hp
theorem XV {a b c:Crv} (ha:Sc a) (hb:Sc b) (hc:Sc c):Cp (G0 a b c):=by
 obtain ⟨h1,h2,h3⟩:=TL 3 [2,2,0] (vF a b c) (by decide) rfl (by decide) (wX ha hb hc);exact ⟨h1,Qc h3 (by decide),Uv h2 (by decide)⟩
theorem xF {a b c:Crv} (ha:Sc a) (hb:Sc b) (hc:Sc c):Uf 209 [.agg (cl a),.agg (cl b),.agg (cl c)] [pr (G0 a b c)]:=by
 have cd:=Qlb (by decide) (k:=3) (ds:=[2,2,0]) (by decide) rfl (by decide) (wX ha hb hc);exact Uc func209 rfl [.k (fX ha),.k (fX hb),.k (fX hc),.k cd] rfl
end Orr
namespace Orq
open Orr Go
theorem wF {p q:Ui} (tp:U7 p) (tq:U7 q) (h:∀ i,p.getD i 0=q.getD i 0):p=q:=by
 have hl:∀ {p q:Ui},U7 p->(∀ i,p.getD i 0=q.getD i 0)->p.length<=q.length:=λ{p q} tp h=>by
  refine Nat.not_lt.1 λhn=>?_
  have h1:=Rm tp (by omega);rw [h,Qk,Qz (by omega)] at h1;exact h1 rfl
 have e:=K7 (hl tp h) (hl tq λi=>(h i).symm);refine List.ext_getElem e λi h1 h2=>?_
 have:=h i;rw [Qk,Qk,Qf h1,Qf h2] at this;exact this
theorem jO {p:Ui} (h:p=[]) (i:Nat):p.getD i 0=0:=by rw [h]; simp
theorem Lo (p:Ui) (c:Int) (i:Nat):(Fl p c).getD i 0=p.getD i 0*c:=by
 unfold Fl;rw [Cf]
 split
 ·rfl
 ·rename_i h;rw [Qk,Qz (by omega)]; simp
theorem BV (p q:Ui) (i:Nat):(Bz p q).getD i 0=p.getD i 0-q.getD i 0:=by
 unfold Bz;rw [Cf]
 split
 ·rfl
 ·rename_i h;rw [Qk,Qk,Qz (by omega),Qz (by omega)]; simp
theorem Qjb {x y:Crv} (hx:QK x) (hy:QK y) (h1:Fz x y=[]) (h2:Fy x y=[]):x=y:=by
 have e1:∀ i,y.x.getD i 0*x.d=x.x.getD i 0*y.d:=λi=>by
  have:=jO h1 i;unfold Fz at this;rw [BV,Lo,Lo] at this;omega
 have e2:∀ i,y.y.getD i 0*x.d=x.y.getD i 0*y.d:=λi=>by
  have:=jO h2 i;unfold Fy at this;rw [BV,Lo,Lo] at this;omega
 have key:∀ {x y:Crv},QK x->QK y->(∀ i,y.x.getD i 0*x.d=x.x.getD i 0*y.d)->(∀ i,y.y.getD i 0*x.d=x.y.getD i 0*y.d)->x.d∣y.d:=λ{x y} hx hy e1 e2=>by
  have hd:=jT (d:=x.d) (l:=(x.d::(x.x++x.y)).map (· * y.d)) λz hz=>by
   obtain ⟨w,hw,rfl⟩:=Zg.1 hz;rcases Qm.1 hw with rfl | hw
   ·exact Int.dvd_mul_right _ _
   ·rcases Qr.1 hw with hw | hw
    ·obtain ⟨i,hi,rfl⟩:=Vu.1 hw;have:=e1 i;rw [show x.x.getD i 0=x.x[i] from by rw [Qk,Qf hi]; rfl] at this;rw [<-this]; exact Y9 _ _
    ·obtain ⟨i,hi,rfl⟩:=Vu.1 hw;have:=e2 i;rw [show x.y.getD i 0=x.y[i] from by rw [Qk,Qf hi]; rfl] at this;rw [<-this]; exact Y9 _ _
  rw [Qcm,hx.2.2.2,Wh] at hd;exact Kl hd (Int.natAbs_dvd.2 (Kv _))
 have hd:x.d=y.d:=Int.dvd_antisymm (Int.le_of_lt hx.2.2.1) (Int.le_of_lt hy.2.2.1) (key hx hy e1 e2) (key hy hx (λi=>(e1 i).symm) λi=>(e2 i).symm);have hd0:y.d≠0:=by have:=hy.2.2.1; omega
 rw [hd] at e1 e2;have ex:x.x=y.x:=wF hx.1 hy.1 λi=>(Y4 hd0 (e1 i)).symm
 have ey:x.y=y.y:=wF hx.2.1 hy.2.1 λi=>(Y4 hd0 (e2 i)).symm
 cases x; cases y;simp only at hd ex ey;rw [hd,ex,ey]
theorem Qkn (l:List Pt):(Rw l).Pairwise λx y=>x.c≠y.c:=by
 have key:∀ (l out:List Pt),out.Pairwise (λx y=>x.c≠y.c)->(l.foldl Nm out).Pairwise λx y=>x.c≠y.c:=by
  intro l
  induction l with
  | nil=>intro out h; exact h
  |
   cons p l ih =>
   intro out h;refine ih _ ?_;unfold Nm
   split
   ·exact h
   ·rename_i hn;refine Jj.2 ⟨h,Kf _ _,λa ha b hb e=>hn ?_⟩;rw [Qj.1 hb] at e;rw [List.any_eq_true];exact ⟨a,ha,by rw [<-e]; simp [Ai]⟩
 exact key l [] .nil
theorem Qf3 (l:List Pt):(Rw l).Sublist l:=by
 have key:∀ (l out o:List Pt),out.Sublist o->(l.foldl Nm out).Sublist (o++l):=by
  intro l
  induction l with
  | nil=>intro out o h; rw [Zy]; exact h
  |
   cons p l ih =>
   intro out o h;have:(Nm out p).Sublist (o++[p]):=by
    unfold Nm
    split
    ·exact h.trans (List.sublist_append_left _ _)
    ·exact h.append (List.Sublist.refl _)
   have:=ih _ _ this;rwa [Q9] at this
 exact key l [] [] (List.Sublist.refl _)
theorem Io (f:Nat->Ui) (rows:List Uj) (q:Rat) (i:Nat):Uy (Ce f rows (i+1)) q=Uy (Ce f rows i) q+(if i % 2=0 then 1 else -1)*(Uy ((rows.getD i []).getD 0 []) q*Uy (f i) q):=by
 simp only [Ce]
 split
 ·rename_i h;have:Uy ((rows.getD i []).getD 0 []) q=0:=by rw [Qh h]; rfl
  rw [this]; grind
 ·split
  ·rw [WF,Fw]; grind
  ·rw [Mi,Fw]; grind
theorem bN (z:Int) (q:Rat):Uy [z] q=(z:Rat):=by simp [Uy,Rat.add_zero]
theorem vM (p:Ui) (q:Rat):Uy (Dn 1 [[p]]) q=Uy p q:=by
 show Uy (Ce (λi=>Dn 0 (JK [[p]] i)) [[p]] (0+1)) q=_;rw [Io];show (0:Rat)+1*(Uy p q*Uy [1] q)=_;rw [bN];have:((1:Int):Rat)=1:=rfl;grind
theorem NC (p r s t:Ui) (q:Rat):Uy (Dn 2 [[p,r],[s,t]]) q=Uy p q*Uy t q-Uy s q*Uy r q:=by
 show Uy (Ce (λi=>Dn 1 (JK [[p,r],[s,t]] i)) [[p,r],[s,t]] (0+1+1)) q=_;rw [Io,Io];show (0:Rat)+1*(Uy p q*Uy (Dn 1 [[t]]) q)+(-1)*(Uy s q*Uy (Dn 1 [[r]]) q)=_;rw [vM,vM]; grind
theorem Qed (a1 a2 a3 b1 b2 b3 c1 c2 c3:Ui) (q:Rat):Uy (Dn 3 [[a1,a2,a3],[b1,b2,b3],[c1,c2,c3]]) q=Uy a1 q*(Uy b2 q*Uy c3 q-Uy c2 q*Uy b3 q)-Uy b1 q*(Uy a2 q*Uy c3 q-Uy c2 q*Uy a3 q)+Uy c1 q*(Uy a2 q*Uy b3 q-Uy b2 q*Uy a3 q):=by
 show Uy (Ce (λi=>Dn 2 (JK [[a1,a2,a3],[b1,b2,b3],[c1,c2,c3]] i)) [[a1,a2,a3],[b1,b2,b3],[c1,c2,c3]] (0+1+1+1)) q=_;rw [Io,Io,Io];show (0:Rat)+1*(Uy a1 q*Uy (Dn 2 [[b2,b3],[c2,c3]]) q)+(-1)*(Uy b1 q*Uy (Dn 2 [[a2,a3],[c2,c3]]) q)+1*(Uy c1 q*Uy (Dn 2 [[a2,a3],[b2,b3]]) q)=_;rw [NC,NC,NC]; grind
theorem tU {a b c:Pt} (ha:Sc a.c) (hb:Sc b.c) (hc:Sc c.c) (q:Rat):U4 (Uy (G0 a.c b.c c.c) q)=U4 (M5 (px · q) (py · q) a b c):=by
 have P6:∀ {k:Crv},Sc k->(0:Rat)<(k.d:Rat):=λh=>by exact_mod_cast h.n.2.2.1
 have pa:=P6 ha;have pb:=P6 hb;have pc:=P6 hc;have xx:∀ {p:Pt},0<(p.c.d:Rat)->Uy p.c.x q=px p q*(p.c.d:Rat)/\Uy p.c.y q=py p q*(p.c.d:Rat):=λ{p} h=>by
  unfold px py;exact ⟨(Zc (by grind)).symm,(Zc (by grind)).symm⟩
 obtain ⟨xa,ya⟩:=xx pa;obtain ⟨xb,yb⟩:=xx pb;obtain ⟨xc,yc⟩:=xx pc;have e:Uy (G0 a.c b.c c.c) q=((a.c.d:Rat)*(b.c.d:Rat)*(c.c.d:Rat))*M5 (px · q) (py · q) a b c:=by
  unfold G0 vF M5;rw [Qed,bN,bN,bN,xa,xb,xc,ya,yb,yc];grind
 rw [e,Bq (Xp (Xp pa pb) pc)]
def KE (sg:Ui->Int) (a b c:Pt):Bool:=decide (0<G8 sg (G0 a.c b.c c.c))
def Sr (sg:Ui->Int) (row:List Pt):List Pt:=(Pd (KE sg) [] row).reverse
def D8 (sg:Ui->Int) (row:List Pt):List Pt:=if row.length<3 then row else (Sr sg row).dropLast++(Sr sg row.reverse).dropLast
def S0 (l:List Pt) (a:Tm):List Pt:=D8 (Fg a) (Tq a (Rw l))
def H8 (C:List Pt):List (Pt×Pt):=C.zip (C.drop 1++C.take 1)
def Dh (sg:Ui->Int) (a b c:Pt):Ct:=⟨3,a.id,b.id,c.id,0,G0 a.c b.c c.c,G8 sg (G0 a.c b.c c.c)⟩
def JU (e:Pt×Pt) (c:Pt):Bool:=decide (c.id≠e.1.id) && decide (c.id≠e.2.id)
def Ef (sg:Ui->Int) (l:List Pt) (e:Pt×Pt):List Ct:=(l.filter (JU e)).map λc=>Dh sg e.1 e.2 c
def Mz (sg:Ui->Int) (l C:List Pt):List Ct:=if C.length<2 then [] else (H8 C).flatMap (Ef sg l)
def CE (l:List Pt) (a:Tm):List Ct:=JV l a++Mz (Fg a) l (S0 l a)
abbrev oQ (l:List Pt) (a:Tm):Uo:=Ut (S0 l a)
def SN (l:List Pt):Uj:=l.flatMap λx=>l.flatMap λy=>l.map λz=>G0 x.c y.c z.c
theorem zE {l:List Pt} {x y z:Pt} (hx:x∈l) (hy:y∈l) (hz:z∈l):G0 x.c y.c z.c∈SN l :=
 Zk.2 ⟨x,hx,Zk.2 ⟨y,hy,Zg.2 ⟨z,hz,rfl⟩⟩⟩
theorem Qgy {l:List Pt} (hl:∀ p∈l,Sc p.c):∀ p∈SN l,Cp p:=λp hp=>by
 obtain ⟨x,hx,hp⟩:=Zk.1 hp;obtain ⟨y,hy,hp⟩:=Zk.1 hp;obtain ⟨z,hz,rfl⟩:=Zg.1 hp;exact XV (hl x hx) (hl y hy) (hl z hz)
theorem BQ {α:Type} (s:α->α->α->Bool) (c:α):∀ st:List α,(Dq s c st).Sublist st
 | []=>List.Sublist.refl _
 | [_]=>List.Sublist.refl _
 |
  b::a::r=>by
  simp only [Dq]
  split
  ·exact List.Sublist.refl _
  ·exact (BQ s c (a::r)).trans (List.sublist_cons_self _ _)
theorem YK {α:Type} {s:α->α->α->Bool}:∀ {l acc:List α} {x:α},x∈Pd s acc l->x∈acc\/x∈l
 | [],acc,x,h=>.inl h
 |
  c::l,acc,x,h=>by
  rcases YK (l:=l) h with h | h
  ·rcases Qm.1 h with rfl | h
   ·exact .inr (by simp)
   ·exact .inl ((BQ s c acc).subset h)
  ·exact .inr (Qg _ h)
theorem YV {α:Type} (s:α->α->α->Bool):∀ (l acc:List α),(Pd s acc l).length<=acc.length+l.length
 | [],acc=>by simp [Pd]
 |
  c::l,acc=>by
  have h1:=YV s l (c::Dq s c acc);have h2:=(BQ s c acc).length_le;simp only [Pd,Q4] at h1 ⊢;omega
theorem PR {sg:Ui->Int} {row:List Pt} {x:Pt} (h:x∈Sr sg row):x∈row:=by
 unfold Sr at h;rcases YK (Ji.1 h) with h | h
 ·cases h
 ·exact h
theorem Oc (sg:Ui->Int) (row:List Pt):(Sr sg row).length<=row.length:=by
 have:=YV (KE sg) row [];unfold Sr; rw [List.length_reverse]; simpa using this
theorem tZ {sg:Ui->Int} {row:List Pt} {x:Pt} (h:x∈D8 sg row):x∈row:=by
 unfold D8 at h
 split at h
 ·exact h
 ·rcases Qr.1 h with h | h
  ·exact PR ((List.dropLast_sublist _).subset h)
  ·exact Ji.1 (PR ((List.dropLast_sublist _).subset h))
theorem tQ (sg:Ui->Int) (row:List Pt):(D8 sg row).length<=2*row.length:=by
 unfold D8
 split
 ·omega
 ·have h1:=Oc sg row;have h2:=Oc sg row.reverse;rw [Xo] at h2;rw [Q0,List.length_dropLast,List.length_dropLast]; omega
theorem Ia {l:List Pt} {a:Tm} {x:Pt} (h:x∈S0 l a):x∈l:=Mn (Hh.1 (tZ h))
theorem UI (l:List Pt) (a:Tm):(S0 l a).length<=2*l.length:=by
 have h1:=tQ (Fg a) (Tq a (Rw l));rw [Bn] at h1;have:=I2 l;unfold S0; omega
theorem HV {C:List Pt} {e:Pt×Pt} (h:e∈H8 C):e.1∈C/\e.2∈C:=by
 unfold H8 at h;have h1:=List.of_mem_zip (show (e.1,e.2)∈_ from h);refine ⟨h1.1,?_⟩;rcases Qr.1 h1.2 with h | h
 ·exact Qy h
 ·exact Qn h
theorem gX {sg:Ui->Int} {l C:List Pt} {x:Ct} (h:x∈Mz sg l C):∃ e∈H8 C,∃ c∈l,JU e c=true/\x=Dh sg e.1 e.2 c:=by
 unfold Mz at h
 split at h
 ·cases h
 ·obtain ⟨e,he,h⟩:=Zk.1 h;obtain ⟨c,hc,rfl⟩:=Zg.1 h;obtain ⟨h1,h2⟩:=Ye.1 hc;exact ⟨e,he,c,h1,h2,rfl⟩
theorem AE {l:List Pt} {a:Tm}:∀ x∈CE l a,x.p∈Lh l++SN l:=λx hx=>by
 rcases Qr.1 hx with hx | hx
 ·exact Xu _ (sC x hx)
 ·obtain ⟨e,he,c,hc,_,rfl⟩:=gX hx;obtain ⟨h1,h2⟩:=HV he;exact X1 _ (zE (Ia h1) (Ia h2) hc)
theorem RB {l:List Pt} (hl:∀ p∈l,Sc p.c):∀ p∈Lh l++SN l,Cp p:=λp hp=>by
 rcases Qr.1 hp with h | h
 ·exact I4 hl p h
 ·exact Qgy hl p h
theorem YR {α β:Type} (f:α->List β) (n:Nat):∀ (m:List α),(∀ x∈m,(f x).length≤n)->(m.flatMap f).length≤m.length*n
 | [],_=>by simp
 |
  x::m,h=>by
  have:=YR f n m λy hy=>h y (Qg _ hy)
  have:=h x (by simp);rw [Jx,Q0,Q4,Z8]; omega
theorem gZ (sg:Ui->Int) (l C:List Pt):(Mz sg l C).length<=C.length*l.length:=by
 unfold Mz
 split
 ·simp
 ·refine Qc (YR _ l.length _ λe _=>?_) (Qx _ ?_)
  ·unfold Ef; rw [List.length_map]; exact List.length_filter_le _ _
  ·unfold H8; rw [List.length_zip]; exact Nat.min_le_left _ _
theorem uU {l:List Pt} (hl:∀ p∈l,Sc p.c) (hn:l.length≤10):BuildOk (CE l) :=
 ⟨λ_ _ x hx=>RB hl _ (AE x hx),λa _=>by
  have h1:=gZ (Fg a) l (S0 l a);have h2:=UI l a;have h3:(S0 l a).length*l.length<=20*10:=Q7 (by omega) hn;show (JV l a++Mz (Fg a) l (S0 l a)).length<=1000;have h4:(JV l a).length<=l.length:=by unfold JV; rw [Ni,Bn]; omega
  rw [Q0]; omega⟩
def Ah {α:Type} (l:List α):List (α×α):=l.zip (l.drop 1)
theorem IB {α:Type} {Q:α->α->Prop}:∀ {l:List α},Edg Q l↔∀ e∈Ah l,Q e.1 e.2
 | []=>by simp [Edg,Ah]
 | [_]=>by simp [Edg,Ah]
 |
  a::b::l=>by
  have ih:=IB (Q:=Q) (l:=b::l);have e:Ah (a::b::l)=(a,b)::Ah (b::l):=rfl;rw [e];constructor
  ·rintro ⟨h1,h2⟩ x hx
   rcases Qm.1 hx with rfl | hx
   ·exact h1
   ·exact ih.1 h2 x hx
  ·intro h;exact ⟨h (a,b) (by simp),ih.2 λx hx=>h x (Qg _ hx)⟩
theorem PN {α:Type} (f z:α) (A:List α):Ah (f::A++[z])=(f::A).zip (A++[z]):=by
 unfold Ah;rw [Z9,List.drop_succ_cons,Xw];have:f::(A++[z])=(f::A)++[z]:=rfl;rw [this];have h:A++[z]=(A++[z])++[]:=(Zy _).symm
 conv=>lhs; rw [h]
 rw [List.zip_append (by simp)];simp
theorem jM {f z:Pt} {A B:List Pt}:H8 ((f::A++[z]).dropLast++(z::B++[f]).dropLast)=Ah (f::A++[z])++Ah (z::B++[f]):=by
 rw [Vs,Vs,PN,PN,<-List.zip_append (by simp)];unfold H8;congr 1;simp
theorem Edg.rev {α:Type} {Q:α->α->Prop}:∀ {l:List α},Edg Q l->Edg (λa b=>Q b a) l.reverse:=by
 have app:∀ {Q:α->α->Prop} {l:List α} {b a:α},Edg Q (l++[b])->Q b a->Edg Q (l++[b]++[a]):=by
  intro Q l
  induction l with
  | nil=>intro b a _ h; exact ⟨h,trivial⟩
  |
   cons x l ih =>
   intro b a h h2;cases l with
   | nil=>exact ⟨h.1,ih h.2 h2⟩
   | cons y l=>exact ⟨h.1,ih h.2 h2⟩
 intro l
 induction l with
 | nil=>intro _; trivial
 |
  cons a l ih =>
  intro h;cases l with
  | nil=>trivial
  |
   cons b l =>
   have:=ih h.2;rw [Yk] at this ⊢;rw [Yk];exact app this h.1
theorem Cnv.rev {α:Type} {R:α->α->α->Prop}:∀ {l:List α},Cnv R l->Cnv (λa b c=>R c b a) l.reverse:=by
 have app:∀ {R:α->α->α->Prop} {l:List α} {c b a:α},Cnv R (l++[c,b])->R c b a->Cnv R (l++[c,b,a]):=by
  intro R l
  induction l with
  | nil=>intro c b a _ h; exact ⟨h,trivial⟩
  |
   cons x l ih =>
   intro c b a h h2;cases l with
   | nil=>exact ⟨h.1,ih h.2 h2⟩
   |
    cons y l =>
    cases l with
    | nil=>exact ⟨h.1,ih h.2 h2⟩
    | cons w l=>exact ⟨h.1,ih h.2 h2⟩
 intro l
 induction l with
 | nil=>intro _; trivial
 |
  cons a l ih =>
  intro h
  match l,h with
  | [],_=>trivial
  | [_],_=>trivial
  |
   b::c::l,h =>
   have:=ih h.2;rw [Yk,Yk,Q9] at this;rw [Yk,Yk,Yk,Q9,Q9];exact app this h.1
section
variable {α:Type} {lt lt':α->α->Bool}
theorem BZ {out:List α} {x:α} (h:∀ y∈out,lt x y=lt' x y):∀ k,D6 lt out x k=D6 lt' out x k
 | 0=>rfl
 |
  k+1=>by
  simp only [D6];cases hy:out[k]? with
  | none=>rfl
  | some y=>simp only [h y (Qa hy),BZ h k]
theorem HW {l:List α} (h:∀ u∈l,∀ v∈l,lt u v=lt' u v):∀ (m out:List α),(∀ x∈m,x∈l)->(∀ x∈out,x∈l)->m.foldl (Dy lt) out=m.foldl (Dy lt') out
 | [],_,_,_=>rfl
 |
  x::m,out,h1,h2=>by
  have e:Dy lt out x=Dy lt' out x:=by
   unfold Dy; rw [BZ λy hy=>h x (h1 x (by simp)) y (h2 y hy)]
  simp only [Z7];rw [e];exact HW h m _ (λy hy=>h1 y (Qg _ hy)) λy hy=>by
   rcases KD.1 hy with rfl | hy
   ·exact h1 _ (by simp)
   ·exact h2 y hy
end
theorem tX {a:Tm} {l:List Pt} {q:Rat} (hb:∀ u∈l,∀ v∈l,(Rz (Fg a) u v=true↔By q u v)) (hd:l.Pairwise λx y=>x.id≠y.id):(Tq a l).Pairwise (By q) :=
 MM (S:=λx=>x∈l) (D:=λx y=>x.id≠y.id) (XT q) (λu v hu hv h=>(hb u hu v hv).1 h) (λu v hu hv hne h=>yT (λe=>hne e.symm) λh'=>by
  rw [(hb u hu v hv).2 h'] at h; cases h) l [] .nil (λx hx=>by cases hx) (λx hx=>hx) hd (λx hx=>by cases hx)
theorem Qog {a:Tm} (ha:Va a) {u v:Pt} (hu:Sc u.c) (hv:Sc v.c) {q:Rat} (h1:G8 (Fg a) (Fz u.c v.c)=U4 (Uy (Fz u.c v.c) q)) (h2:G8 (Fg a) (Fy u.c v.c)=U4 (Uy (Fy u.c v.c) q)) (hne:u.c≠v.c) (h:By q u v):lx (px · q) (py · q) u v:=by
 rcases h with h | ⟨h,h3⟩
 ·exact .inl h
 rcases h3 with h3 | ⟨h3,_⟩
 ·exact .inr ⟨h,h3⟩
 ·exfalso;rw [GP hu hv] at h1;rw [GT hu hv] at h2;have z1:U4 (px v q-px u q)=0:=Gd.2 (by grind);have z2:U4 (py v q-py u q)=0:=Gd.2 (by grind);rw [z1] at h1;rw [z2] at h2;have e1:(Fz u.c v.c).length=0:=Decidable.byContradiction λe=>(Lk ha (Me hu hv).dp e).2 h1
  have e2:(Fy u.c v.c).length=0:=Decidable.byContradiction λe=>(Lk ha (Md hu hv).dp e).2 h2
  exact hne (Qjb hu.n hv.n (Qh e1) (Qh e2))
structure LowC (X Y:Pt->Rat) (R L:List Pt):Prop where
 hd:L.head? = R.head?
 la:L.getLast? = R.getLast?
 srt:L.Pairwise (lx X Y)
 mem:∀ p∈L,p∈R
 edg:Edg (λa b=>∀ p∈R,0≤M5 X Y a b p) L
 cnv:Cnv (λa b c=>0<M5 X Y a b c) L
theorem DU {X Y:Pt->Rat} {sg:Ui->Int} {R:List Pt} (hs:∀ a∈R,∀ b∈R,∀ c∈R,(KE sg a b c=true↔0<M5 X Y a b c)) (hR:R.Pairwise (lx X Y)) (h0:R≠[]):LowC X Y R (Sr sg R):=by
 cases R with
 | nil=>exact absurd rfl h0
 |
  cons f R =>
  obtain ⟨t,st,g1,g2,g3,g4⟩:=DF hs hR R [f] f [] rfl ⟨Kf _ _,λp hp=>by rw [Qj.1 hp]; simp,trivial,trivial⟩ rfl rfl;have e:Sr sg (f::R)=(t::st).reverse:=by
   unfold Sr;rw [<-g1]; rfl
  rw [e];exact ⟨by rw [List.head?_reverse,g4],by rw [List.getLast?_reverse]; exact g3.symm,Kr.2 g2.srt,λp hp=>g2.mem p (Ji.1 hp),g2.edg.rev,g2.cnv.rev⟩
theorem Qo6 {X Y:Pt->Rat} {R:List Pt} (hR:R.Pairwise (lx X Y)):∀ p∈R,∀ q∈R,p=q\/lx X Y p q\/lx X Y q p:=λp hp q hq=>by
 by_cases e:p=q
 ·exact .inl e
 ·exact .inr (ED hR hp hq e)
theorem Qdf {X Y:Pt->Rat} {R L L':List Pt} (hR:R.Pairwise (lx X Y)) (h:LowC X Y R L) (h':LowC X Y R L'):L=L':=by
 have hh:=h.hd.trans h'.hd.symm;have hl:=h.la.trans h'.la.symm;cases L with
 |
  nil=>cases L' with
  | nil=>rfl
  | cons _ _=>simp at hh
 |
  cons f M=>cases L' with
  | nil=>simp at hh
  |
   cons f' M' =>
   simp at hh;subst hh;obtain ⟨z,hz⟩:∃ z,(f::M).getLast? = some z:=⟨_,Ym (by simp)⟩;rw [Qbj (Qo6 hR) M M' f h.srt h'.srt h.mem h'.mem h.edg h'.edg h.cnv h'.cnv hz (hl ▸ hz)]
theorem kL {x y:Rat} (h:U4 x=U4 y):(0<=x->0<=y)/\(0<x->0<y):=by
 have h1:=Fi x;have h2:=Fi y;grind
theorem jZ {X Y X' Y':Pt->Rat} {R:List Pt}:∀ {L:List Pt},(∀ p∈L,p∈R)->(∀ e∈Ah L,∀ p∈R,U4 (M5 X Y e.1 e.2 p)=U4 (M5 X' Y' e.1 e.2 p))->Cnv (λa b c=>0<M5 X Y a b c) L->Cnv (λa b c=>0<M5 X' Y' a b c) L
 | [],_,_,_=>trivial
 | [_],_,_,_=>trivial
 | [_,_],_,_,_=>trivial
 | a::b::c::l,hm,he,h=>⟨(kL (he (a,b) (by simp [Ah]) c (hm c (by simp)))).2 h.1,jZ (λp hp=>hm p (Qg _ hp)) (λe hx=>he e (Qg _ hx)) h.2⟩
theorem yS {X Y X' Y':Pt->Rat} {R L:List Pt} (h:LowC X Y R L) (hl:∀ u∈R,∀ v∈R,lx X Y u v->lx X' Y' u v) (he:∀ e∈Ah L,∀ p∈R,U4 (M5 X Y e.1 e.2 p)=U4 (M5 X' Y' e.1 e.2 p)):LowC X' Y' R L :=
 ⟨h.hd,h.la,h.srt.imp_of_mem λhu hv h'=>hl _ (h.mem _ hu) _ (h.mem _ hv) h',h.mem,IB.2 λe hx p hp=>(kL (he e hx p hp)).1 (IB.1 h.edg e hx p hp),jZ h.mem he h.cnv⟩
theorem OD (X Y:Pt->Rat) (a b c:Pt):M5 (λp=>-X p) (λp=>-Y p) a b c=M5 X Y a b c:=by unfold M5; grind
theorem OG {X Y:Pt->Rat} {a b:Pt}:lx (λp=>-X p) (λp=>-Y p) a b↔lx X Y b a:=by unfold lx; grind
theorem Qme {L:List Pt} {f z:Pt} (h1:L.head? = some f) (h2:L.getLast? = some z) (hne:f≠z):∃ A,L=f::A++[z]:=by
 cases L with
 | nil=>cases h1
 |
  cons g M =>
  simp at h1;subst h1;cases M with
  | nil=>simp at h2; exact absurd h2 hne
  |
   cons x M =>
   rw [Jw] at h2;obtain ⟨A,hA⟩:=Y7.1 h2;exact ⟨A,by rw [hA]; rfl⟩
theorem MS {α β:Type} {f g:α->List β}:∀ {m:List α},(∀ x∈m,f x=g x)->m.flatMap f=m.flatMap g
 | [],_=>rfl
 | x::m,h=>by rw [Jx,Jx,h x (by simp),MS λy hy=>h y (Qg _ hy)]
theorem yY {sa sb:Ui->Int} {l C:List Pt} (h:∀ x∈Mz sa l C,G8 sb x.p=G8 sa x.p):Mz sb l C=Mz sa l C:=by
 by_cases h2:C.length<2
 ·unfold Mz; rw [if_pos h2,if_pos h2]
 ·have e:∀ s,Mz s l C=(H8 C).flatMap (Ef s l):=λs=>if_neg h2
  rw [e] at h ⊢;rw [e];refine MS λx hx=>Xz λc hc=>?_
  have:=h (Dh sa x.1 x.2 c) (Zk.2 ⟨x,hx,Wb hc⟩);show (⟨3,x.1.id,x.2.id,c.id,0,G0 x.1.c x.2.c c.c,G8 sb (G0 x.1.c x.2.c c.c)⟩:Ct)=⟨3,x.1.id,x.2.id,c.id,0,G0 x.1.c x.2.c c.c,G8 sa (G0 x.1.c x.2.c c.c)⟩;have this:G8 sb (G0 x.1.c x.2.c c.c)=G8 sa (G0 x.1.c x.2.c c.c):=this;rw [this]
theorem cA {l:List Pt} (hd:l.Pairwise λx y=>x.id≠y.id) {u v:Pt} (hu:u∈l) (hv:v∈l) (h:u.id=v.id):u=v:=by
 refine Classical.byContradiction λe=>?_
 rcases ED hd hu hv e with h' | h'
 ·exact h' h
 ·exact h' h.symm
structure Soon (l:List Pt) (a:Tm) (q:Rat):Prop where
 g:∀ p∈Lh l++SN l,G8 (Fg a) p=U4 (Uy p q)
 b:∀ u∈l,∀ v∈l,(Rz (Fg a) u v=true↔By q u v)
 o:∀ u∈l,∀ v∈l,∀ w∈l,G8 (Fg a) (G0 u.c v.c w.c)=U4 (M5 (px · q) (py · q) u v w)
 t:∀ u∈l,∀ v∈l,∀ w∈l,(KE (Fg a) u v w=true↔0<M5 (px · q) (py · q) u v w)
 r:(Tq a (Rw l)).Pairwise (lx (px · q) (py · q))
theorem Qfk {l:List Pt} (hl:∀ p∈l,Sc p.c) (hd:l.Pairwise λx y=>x.id≠y.id) {a:Tm} (ha:Va a):∃ y,Fe a y=-1/\∀ q,Fe a q=-1->q≤y->Soon l a q:=by
 obtain ⟨y,y1,y2⟩:=QB ha (Lh l++SN l) λp hp=>(RB hl p hp).dp
 refine ⟨y,y1,λq q1 q2=>?_⟩;have g:=y2 q q1 q2;have gP:=λp hp=>g p (Xu _ hp)
 have b:∀ u∈l,∀ v∈l,(Rz (Fg a) u v=true↔By q u v):=λu hu v hv=>SI ha (hl u hu) (hl v hv) (gP _ (Tk hu hv).1) (gP _ (Tk hu hv).2)
 have o:∀ u∈l,∀ v∈l,∀ w∈l,G8 (Fg a) (G0 u.c v.c w.c)=U4 (M5 (px · q) (py · q) u v w):=λu hu v hv w hw=>by
  rw [g _ (X1 _ (zE hu hv hw)),tU (hl u hu) (hl v hv) (hl w hw)]
 refine ⟨g,b,o,λu hu v hv w hw=>?_,?_⟩
 ·unfold KE;rw [o u hu v hv w hw,decide_eq_true_eq];have:=Fi (M5 (px · q) (py · q) u v w);grind
 ·have hw:∀ u∈Rw l,u∈l:=λu hu=>Mn hu
  have h1:=tX (a:=a) (l:=Rw l) (q:=q) (λu hu v hv=>b u (hw u hu) v (hw v hv)) (List.Pairwise.sublist (Qf3 l) hd);have h2:(Tq a (Rw l)).Pairwise λx y=>x.c≠y.c:=(List.Perm.pairwise_iff (λ{x y} h e=>h e.symm) (tM (lt:=Rz (Fg a)) (Rw l))).2 (Qkn l)
  refine (h1.and h2).imp_of_mem λ{u v} hu hv h=>?_
  have hu:=hw u (Hh.1 hu);have hv:=hw v (Hh.1 hv);exact Qog ha (hl u hu) (hl v hv) (gP _ (Tk hu hv).1) (gP _ (Tk hu hv).2) h.2 h.1
theorem cO {l:List Pt} (hl:∀ p∈l,Sc p.c) (hd:l.Pairwise λx y=>x.id≠y.id) {a:Tm} (ha:Va a):∃ q,Soon l a q :=
 let ⟨y,h1,h2⟩:=Qfk hl hd ha
 ⟨y,h2 y h1 Qp⟩
theorem PC {l:List Pt} {a:Tm} {q:Rat} (S:Soon l a q) (h3:3<=(Tq a (Rw l)).length):∃ f z A B,Sr (Fg a) (Tq a (Rw l))=f::A++[z]/\Sr (Fg a) (Tq a (Rw l)).reverse=z::B++[f]/\LowC (px · q) (py · q) (Tq a (Rw l)) (f::A++[z])/\LowC (λp=>-px p q) (λp=>-py p q) (Tq a (Rw l)).reverse (z::B++[f])/\H8 (S0 l a)=Ah (f::A++[z])++Ah (z::B++[f])/\2<=(S0 l a).length:=by
 obtain ⟨R,hR⟩:=nmE (Tq a (Rw l));have hm:∀ x∈R,x∈l:=λx hx=>by rw [hR] at hx; exact Mn (Hh.1 hx)
 have r:=S.r;rw [<-hR] at r h3 ⊢;have h0:R≠[]:=λe=>by rw [e] at h3; simp at h3
 have c1:=DU (sg:=Fg a) (λu hu v hv w hw=>S.t u (hm u hu) v (hm v hv) w (hm w hw)) r h0;have r2:R.reverse.Pairwise (lx (λp=>-px p q) (λp=>-py p q)):=Kr.2 (r.imp λh=>OG.2 h);have c2:=DU (sg:=Fg a) (R:=R.reverse) (X:=λp=>-px p q) (Y:=λp=>-py p q) (λu hu v hv w hw=>by
  rw [OD (px · q) (py · q)];exact S.t u (hm u (Ji.1 hu)) v (hm v (Ji.1 hv)) w (hm w (Ji.1 hw))) r2 (by simpa using h0)
 obtain ⟨f,hf⟩:∃ f,R.head? = some f:=by cases R with
  | nil=>exact absurd rfl h0
  | cons f _=>exact ⟨f,rfl⟩
 obtain ⟨z,hz⟩:∃ z,R.getLast? = some z:=⟨_,Ym h0⟩;have hne:f≠z:=λe=>by
  subst e;cases R with
  | nil=>exact absurd rfl h0
  |
   cons g M =>
   simp at hf; subst hf;cases M with
   | nil=>simp at h3
   |
    cons x M =>
    rw [Jw] at hz;exact Dz _ ((Zb.1 r).1 g (Vv hz))
 obtain ⟨A,hA⟩:=Qme (c1.hd.trans hf) (c1.la.trans hz) hne;obtain ⟨B,hB⟩:=Qme (c2.hd.trans (by rw [List.head?_reverse]; exact hz)) (c2.la.trans (by rw [List.getLast?_reverse]; exact hf)) (Ne.symm hne);have hc:S0 l a=(f::A++[z]).dropLast++(z::B++[f]).dropLast:=by
  unfold S0 D8;rw [<-hR,if_neg (by omega),hA,hB]
 rw [hA] at c1;rw [hB] at c2;refine ⟨f,z,A,B,hA,hB,c1,c2,by rw [hc]; exact jM,?_⟩;rw [hc,Vs,Vs];simp; omega
theorem eG {l:List Pt} (hl:∀ p∈l,Sc p.c) (hd:l.Pairwise λx y=>x.id≠y.id) {a b:Tm} (ha:Va a) (hb:Va b) (h:∀ x∈CE l a,G8 (Fg b) x.p=G8 (Fg a) x.p):S0 l b=S0 l a/\CE l b=CE l a:=by
 obtain ⟨q,Sa⟩:=cO hl hd ha;obtain ⟨r,Sb⟩:=cO hl hd hb;obtain ⟨k1,k2⟩:=kB hl hd ha hb λx hx=>h x (Xu _ hx)
 have pa:=tX Sa.b hd;have pb:=tX Sb.b hd;rw [k1] at pb;have pab:=pa.and pb;have lexs:∀ u∈l,∀ v∈l,(By q u v↔By r u v):=λu hu v hv=>by
  by_cases e:u=v
  ·subst e; exact ⟨λh=>absurd h (QO _ _),λh=>absurd h (QO _ _)⟩
  ·rcases ED pab (Hh.2 hu) (Hh.2 hv) e with h' | h'
   ·exact ⟨λ_=>h'.2,λ_=>h'.1⟩
   ·exact ⟨λh=>absurd (XT _ _ _ _ h h'.1) (QO _ _),λh=>absurd (XT _ _ _ _ h h'.2) (QO _ _)⟩
 have bef:∀ u∈l,∀ v∈l,Rz (Fg b) u v=Rz (Fg a) u v:=λu hu v hv=>by
  have h1:=Sa.b u hu v hv;have h2:=Sb.b u hu v hv;have h3:=lexs u hu v hv;cases e1:Rz (Fg a) u v <;> cases e2:Rz (Fg b) u v <;> rw [e1] at h1 <;> rw [e2] at h2 <;> simp_all
 have eR:Tq b (Rw l)=Tq a (Rw l):=HW (l:=Rw l) (λu hu v hv=>bef u (Mn hu) v (Mn hv)) (Rw l) [] (λx hx=>hx) λx hx=>by cases hx
 have hm:∀ x∈Tq a (Rw l),x∈l:=λx hx=>Mn (Hh.1 hx)
 have rb:=Sb.r;rw [eR] at rb;have hc:S0 l b=S0 l a:=by
  by_cases h3:(Tq a (Rw l)).length<3
  ·unfold S0 D8;rw [eR,if_pos h3,if_pos h3]
  ·obtain ⟨f,z,A,B,hA,hB,c1,c2,hE,hC2⟩:=PC Sa (by omega);obtain ⟨f',z',A',B',hA',hB',c1',c2',hE',_⟩:=PC Sb (by rw [eR]; omega);rw [eR] at hA' hB' c1' c2';have sgs:∀ e∈H8 (S0 l a),∀ p∈Tq a (Rw l),U4 (M5 (px · q) (py · q) e.1 e.2 p)=U4 (M5 (px · r) (py · r) e.1 e.2 p):=λe he p hp=>by
    obtain ⟨m1,m2⟩:=HV he;have m1:=Ia m1;have m2:=Ia m2;have m3:=hm p hp;by_cases ho:JU e p=true
    ·have hx:Dh (Fg a) e.1 e.2 p∈CE l a:=by
      refine X1 _ ?_;unfold Mz;rw [if_neg (by omega)];exact Zk.2 ⟨e,he,Wb (Ye.2 ⟨m3,ho⟩)⟩
     have hg:G8 (Fg b) (G0 e.1.c e.2.c p.c)=G8 (Fg a) (G0 e.1.c e.2.c p.c):=h _ hx;rw [<-Sa.o _ m1 _ m2 _ m3,<-Sb.o _ m1 _ m2 _ m3,hg]
    ·have hz:∀ X Y:Pt->Rat,M5 X Y e.1 e.2 p=0:=λX Y=>by
      by_cases e1:p.id=e.1.id
      ·rw [cA hd m3 m1 e1]; exact (WW _ _).1
      ·by_cases e2:p.id=e.2.id
       ·rw [cA hd m3 m2 e2]; exact (WW _ _).2
       ·exact absurd (by simp [JU,e1,e2]) ho
     rw [hz,hz]
   have hlx:∀ u∈Tq a (Rw l),∀ v∈Tq a (Rw l),lx (px · q) (py · q) u v->lx (px · r) (py · r) u v:=λu hu v hv huv=>by
    have ra:=Sa.r;by_cases e:u=v
    ·subst e; exact absurd huv (Dz _)
    ·rcases ED (ra.and rb) hu hv e with h' | h'
     ·exact h'.2
     ·exact absurd (yN huv h'.1) (Dz _)
   have e1:=Qdf rb (yS c1 hlx λe he=>sgs e (by rw [hE]; exact Xu _ he)) c1';have rb2:(Tq a (Rw l)).reverse.Pairwise (lx (λp=>-px p r) (λp=>-py p r)):=Kr.2 (rb.imp λh=>OG.2 h);have e2:=Qdf rb2 (yS c2 (λu hu v hv huv=>OG.2 (hlx v (Ji.1 hv) u (Ji.1 hu) (OG.1 huv))) λe he p hp=>by
    rw [OD (px · q) (py · q),OD (px · r) (py · r)];exact sgs e (by rw [hE]; exact X1 _ he) p (Ji.1 hp)) c2'
   unfold S0 D8;rw [eR,if_neg h3,if_neg h3,hA,hB,hA',hB',e1,e2]
 refine ⟨hc,?_⟩;unfold CE;rw [hc,k2,yY λx hx=>h x (X1 _ hx)]
theorem Qr8 {l:List Pt} (hl:∀ p∈l,Sc p.c) (hn:l.length≤10) (hd:l.Pairwise λx y=>x.id≠y.id):Stab (CE l) (oQ l):=by
 refine ⟨uU hl hn,⟨Lh l++SN l,RB hl,λa _ x hx=>AE x hx⟩,λa b ha hb h=>?_⟩;obtain ⟨e1,e2⟩:=eG hl hd ha hb h;exact ⟨e2,by show Ut _=Ut _; rw [e1]⟩
end Orq
namespace Orq
open Orr Go
theorem YU {a b c d:Crv} (ha:Sc a) (hb:Sc b) (hc:Sc c) (hd:Sc d):Cp (Hf a b c d):=by
 have lr:∀ {a b:Crv},Sc a->Sc b->(Fz a b).length<=3/\(Fy a b).length<=3:=λ{a b} ha hb=>by
  have:=Mg (Fl b.x a.d) (Fl a.x b.d); have:=Fh b.x a.d; have:=Fh a.x b.d;have:=Mg (Fl b.y a.d) (Fl a.y b.d); have:=Fh b.y a.d; have:=Fh a.y b.d;have:=ha.c.lx; have:=hb.c.lx; have:=ha.c.ly; have:=hb.c.ly;unfold Fz Fy; omega
 have ap:∀ {a b:Crv},Sc a->Sc b->(Tx a b).length<=5/\Bd 517 (Tx a b):=λ{a b} ha hb=>by
  obtain ⟨l1,l2⟩:=lr ha hb;have b1:Bd 257 (Fz a b):=Cn (Fp hb.c.x ha.c.d) (Fp ha.c.x hb.c.d);have b2:Bd 257 (Fy a b):=Cn (Fp hb.c.y ha.c.d) (Fp ha.c.y hb.c.d);have q1:=Se (u:=2) b1 b1 (by omega);have q2:=Se (u:=2) b2 b2 (by omega);refine ⟨?_,Uv (I6 q1 q2) (by omega)⟩;have:=Ep (Ge (Fz a b) (Fz a b)) (Ge (Fy a b) (Fy a b));have:=Ru (Fz a b) (Fz a b); have:=Ru (Fy a b) (Fy a b);unfold Tx; omega
 have dd:∀ {a b:Crv},Sc a->Sc b->U5 ((a.d*b.d)*(a.d*b.d))<=512:=λ{a b} ha hb=>by
  have:=Ft a.d b.d; have:=Ft (a.d*b.d) (a.d*b.d); have:=ha.c.d; have:=hb.c.d; omega
 obtain ⟨l1,b1⟩:=ap hc hd;obtain ⟨l2,b2⟩:=ap ha hb;refine ⟨Fq _ _,?_,Uv (Cn (Fp b1 (dd ha hb)) (Fp b2 (dd hc hd))) (by omega)⟩;have:=Mg (Fl (Tx c d) ((a.d*b.d)*(a.d*b.d))) (Fl (Tx a b) ((c.d*d.d)*(c.d*d.d)));have:=Fh (Tx c d) ((a.d*b.d)*(a.d*b.d)); have:=Fh (Tx a b) ((c.d*d.d)*(c.d*d.d));unfold Hf; omega
def uQ (m:Pt×Pt) (q:Rat):Rat:=(px m.2 q-px m.1 q)*(px m.2 q-px m.1 q)+(py m.2 q-py m.1 q)*(py m.2 q-py m.1 q)
theorem Qil {a b c d:Pt} (ha:Sc a.c) (hb:Sc b.c) (hc:Sc c.c) (hd:Sc d.c) (q:Rat):U4 (Uy (Hf a.c b.c c.c d.c) q)=U4 (uQ (c,d) q-uQ (a,b) q):=by
 have P6:∀ {z:Int},0<z->(0:Rat)<(z:Rat):=λ{z} h=>by exact_mod_cast h
 have pa:=P6 ha.n.2.2.1;have pb:=P6 hb.n.2.2.1;have pc:=P6 hc.n.2.2.1;have pd:=P6 hd.n.2.2.1;have xx:∀ {p:Pt},0<(p.c.d:Rat)->Uy p.c.x q=px p q*(p.c.d:Rat)/\Uy p.c.y q=py p q*(p.c.d:Rat):=λ{p} h=>by
  unfold px py;exact ⟨(Zc (by grind)).symm,(Zc (by grind)).symm⟩
 obtain ⟨xa,ya⟩:=xx pa;obtain ⟨xb,yb⟩:=xx pb;obtain ⟨xc,yc⟩:=xx pc;obtain ⟨xd,yd⟩:=xx pd;have e:Uy (Hf a.c b.c c.c d.c) q=(((a.c.d:Rat)*b.c.d)*((a.c.d:Rat)*b.c.d))*(((c.c.d:Rat)*d.c.d)*((c.c.d:Rat)*d.c.d))*(uQ (c,d) q-uQ (a,b) q):=by
  unfold Hf Tx Fz Fy uQ;simp only [Mi,Hq,WF,Fw,Xg];rw [xa,xb,xc,xd,ya,yb,yc,yd];grind
 rw [e,Bq];have h1:=Xp pa pb;have h2:=Xp pc pd;exact Xp (Xp h1 h1) (Xp h2 h2)
def BO (l:List Pt):Uj:=l.flatMap λa=>l.flatMap λb=>l.flatMap λc=>l.map λd=>Hf a.c b.c c.c d.c
theorem SS {l:List Pt} {a b c d:Pt} (ha:a∈l) (hb:b∈l) (hc:c∈l) (hd:d∈l):Hf a.c b.c c.c d.c∈BO l :=
 Zk.2 ⟨a,ha,Zk.2 ⟨b,hb,Zk.2 ⟨c,hc,Zg.2 ⟨d,hd,rfl⟩⟩⟩⟩
theorem VN {l:List Pt} (hl:∀ p∈l,Sc p.c):∀ p∈BO l,Cp p:=λp hp=>by
 obtain ⟨a,ha,hp⟩:=Zk.1 hp;obtain ⟨b,hb,hp⟩:=Zk.1 hp;obtain ⟨c,hc,hp⟩:=Zk.1 hp;obtain ⟨d,hd,rfl⟩:=Zg.1 hp;exact YU (hl a ha) (hl b hb) (hl c hc) (hl d hd)
theorem mD {l:List Pt} (hl:∀ p∈l,Sc p.c) {a:Tm} (ha:Va a):∃ y,Fe a y=-1/\∀ q,Fe a q=-1->q≤y->∀ s m:Pt×Pt,s.1∈l->s.2∈l->m.1∈l->m.2∈l->G8 (Fg a) (Hf s.1.c s.2.c m.1.c m.2.c)=U4 (uQ m q-uQ s q):=by
 obtain ⟨y,y1,y2⟩:=QB ha (BO l) λp hp=>(VN hl p hp).dp
 refine ⟨y,y1,λq q1 q2 s m h1 h2 h3 h4=>?_⟩;rw [y2 q q1 q2 _ (SS h1 h2 h3 h4),Qil (hl _ h1) (hl _ h2) (hl _ h3) (hl _ h4)]
def C5 (f:Pt×Pt->Rat) (P:List (Pt×Pt)) (r:Pt×Pt):Prop:=∃ P1 P2,P=P1++r::P2/\(∀ m∈P1,f r<f m)/\∀ m∈P2,f r≤f m
theorem LG {f:Pt×Pt->Rat}:∀ {P:List (Pt×Pt)} {r r':Pt×Pt},C5 f P r->C5 f P r'->r=r'
 | [],r,r',⟨P1,P2,h,_⟩,_=>by simp at h
 |
  x::P,r,r',⟨P1,P2,h,h1,h2⟩,⟨Q1,Q2,h',h1',h2'⟩=>by
  cases P1 with
  |
   nil =>
   simp at h;cases Q1 with
   | nil=>simp at h'; exact h.1.symm.trans h'.1
   |
    cons y Q1 =>
    simp at h';exfalso;obtain ⟨rfl,rfl⟩:=h;obtain ⟨rfl,rfl⟩:=h';have a1:=h1' x (by simp);have a2:=h2 r' (by simp);grind
  |
   cons y P1 =>
   simp at h;cases Q1 with
   |
    nil =>
    simp at h';exfalso;obtain ⟨rfl,rfl⟩:=h;obtain ⟨rfl,rfl⟩:=h';have a1:=h1 x (by simp);have a2:=h2' r (by simp);grind
   |
    cons z Q1 =>
    simp at h h';exact LG (P:=P) ⟨P1,P2,h.2,λm hm=>h1 m (by simp [hm]),h2⟩ ⟨Q1,Q2,h'.2,λm hm=>h1' m (by simp [hm]),h2'⟩
theorem Qim {f:Pt×Pt->Rat} {P:List (Pt×Pt)} {r m:Pt×Pt} (h:C5 f P r):C5 f (P++[m]) (if f m<f r then m else r):=by
 obtain ⟨P1,P2,rfl,h1,h2⟩:=h;by_cases e:f m<f r
 ·rw [if_pos e];refine ⟨P1++r::P2,[],rfl,λx hx=>?_,λx hx=>by cases hx⟩;rcases Qr.1 hx with hx | hx
  ·have:=h1 x hx; grind
  ·rcases Qm.1 hx with rfl | hx
   ·exact e
   ·have:=h2 x hx; grind
 ·rw [if_neg e];refine ⟨P1,P2++[m],by simp,h1,λx hx=>?_⟩;rcases Qr.1 hx with hx | hx
  ·exact h2 x hx
  ·rw [Qj.1 hx]; grind
theorem mA {f:Pt×Pt->Rat} {sg:Ui->Int} {l:List Pt} (hg:∀ s m:Pt×Pt,s.1∈l->s.2∈l->m.1∈l->m.2∈l->G8 sg (Hf s.1.c s.2.c m.1.c m.2.c)=U4 (f m-f s)):∀ (ps P:List (Pt×Pt)) (s:Pt×Pt),s.1∈l/\s.2∈l->(∀ m∈ps,m.1∈l/\m.2∈l)->C5 f P s->C5 f (P++ps) (Hb sg s ps)
 | [],P,s,_,_,h=>by rw [Zy]; exact h
 |
  m::ps,P,s,hs,hp,h=>by
  rw [Ox];have hm:=hp m (by simp);have e:Pe sg s m=if f m<f s then m else s:=by
   unfold Pe;rw [hg s m hs.1 hs.2 hm.1 hm.2];have:=Fi (f m-f s);by_cases h:f m<f s
   ·rw [if_pos h,if_pos (by grind)]
   ·rw [if_neg h,if_neg (by grind)]
  have hn:(Pe sg s m).1∈l/\(Pe sg s m).2∈l:=by
   rcases FD sg s m with e | e <;> rw [e] <;> assumption
  have:=mA hg ps (P++[m]) (Pe sg s m) hn (λx hx=>hp x (Qg _ hx)) (by rw [e]; exact Qim h);rwa [Q9] at this
theorem rF (a b:Pt) (l:List Pt):∃ P,Gf (a::b::l)=(a,b)::P:=⟨_,rfl⟩
theorem bY {f:Pt×Pt->Rat} {sg:Ui->Int} {a b:Pt} {l:List Pt} (hg:∀ s m:Pt×Pt,s.1∈a::b::l->s.2∈a::b::l->m.1∈a::b::l->m.2∈a::b::l->G8 sg (Hf s.1.c s.2.c m.1.c m.2.c)=U4 (f m-f s)):C5 f (Gf (a::b::l)) (Hb sg (a,b) (Gf (a::b::l))):=by
 obtain ⟨P,hP⟩:=rF a b l;have hm:=Tw (a::b::l).length (a::b::l);have hm:∀ m∈Gf (a::b::l),m.1∈a::b::l/\m.2∈a::b::l:=hm;rw [hP] at hm ⊢;have h:=mA hg P [(a,b)] (a,b) (hm (a,b) (by simp)) (λm h=>hm m (by simp [h])) ⟨[],[],rfl,λm h=>(by cases h),λm h=>(by cases h)⟩;rw [Ox];have e:Pe sg (a,b) (a,b)=(a,b):=by rcases FD sg (a,b) (a,b) with e | e <;> exact e
 rw [e]; exact h
theorem cI {l:List Pt} (hd:l.Pairwise λx y=>x.id≠y.id) {u v:Pt} (hu:u∈l) (hv:v∈l) (h:u.id=v.id):u=v:=by
 by_cases e:u=v
 ·exact e
 ·rcases ED hd hu hv e with h' | h'
  ·exact absurd h h'
  ·exact absurd h.symm h'
theorem aU {l:List Pt} (hl:∀ p∈l,Sc p.c) (hd:l.Pairwise λx y=>x.id≠y.id) {a b:Tm} (ha:Va a) (hb:Va b) (h:∀ x∈Dl (Fg a) l,G8 (Fg b) x.p=G8 (Fg a) x.p):ZF (Fg b) l=ZF (Fg a) l/\Dl (Fg b) l=Dl (Fg a) l:=by
 match l,hl,hd,h with
 | [],_,_,_=>exact ⟨rfl,rfl⟩
 | [x],_,_,_=>exact ⟨rfl,rfl⟩
 |
  u::v::l',hl,hd,h =>
  obtain ⟨y,y1,y2⟩:=mD hl ha;obtain ⟨z,z1,z2⟩:=mD hl hb;have ga:=y2 y y1 Qp;have gb:=z2 z z1 Qp;have fa:=bY (f:=λm=>uQ m y) ga;have fb:=bY (f:=λm=>uQ m z) gb;simp only [ZF,Dl] at h ⊢;have hm:∀ m∈Gf (u::v::l'),m.1∈u::v::l'/\m.2∈u::v::l':=Tw _ _;generalize u::v::l'=l at *;obtain ⟨r,hr⟩:=nmE (Hb (Fg a) (u,v) (Gf l));rw [<-hr] at fa h ⊢;obtain ⟨P1,P2,hP,h1,h2⟩:=fa;have hrm:r∈Gf l:=by rw [hP]; simp
  have hrl:=hm r hrm;have key:∀ m∈Gf l,m=r\/G8 (Fg b) (Hf r.1.c r.2.c m.1.c m.2.c)=G8 (Fg a) (Hf r.1.c r.2.c m.1.c m.2.c):=λm hmm=>by
   have hml:=hm m hmm;by_cases e:O6 r m=true
   ·right;have h0:=h (M3 (Fg a) r.1 r.2 m.1 m.2) (by unfold Ma; exact List.mem_map.2 ⟨m,List.mem_filter.2 ⟨hmm,e⟩,rfl⟩);rw [NU] at h0; exact h0
   ·left;unfold O6 at e;simp at e;have e1:=cI hd hml.1 hrl.1 e.1;have e2:=cI hd hml.2 hrl.2 e.2;exact Prod.ext e1 e2
  have fb':C5 (λm=>uQ m z) (Gf l) r:=by
   refine ⟨P1,P2,hP,λm hmm=>?_,λm hmm=>?_⟩
   ·have hmp:m∈Gf l:=by rw [hP]; simp [hmm]
    have hlt:=h1 m hmm;have hml:=hm m hmp;rcases key m hmp with e | e
    ·exfalso; rw [e] at hlt; dsimp only at hlt; grind
    ·rw [ga r m hrl.1 hrl.2 hml.1 hml.2,gb r m hrl.1 hrl.2 hml.1 hml.2] at e;dsimp only at hlt ⊢;rw [Hl.2 (by grind:0<uQ m y-uQ r y)] at e;have:=Hl.1 e; grind
   ·have hmp:m∈Gf l:=by rw [hP]; simp [hmm]
    have hlt:=h2 m hmm;have hml:=hm m hmp;rcases key m hmp with e | e
    ·rw [e]; exact Qp
    ·rw [ga r m hrl.1 hrl.2 hml.1 hml.2,gb r m hrl.1 hrl.2 hml.1 hml.2] at e;dsimp only at hlt ⊢;have t1:=Fi (uQ m y-uQ r y);have t2:=Fi (uQ m z-uQ r z);grind
  have er:=LG fb fb';rw [er];refine ⟨rfl,?_⟩;unfold Ma;refine Xz λm hmm=>?_
  have hmp:=(Ye.1 hmm).1;rcases key m hmp with e | e
  ·exfalso;have:=(Ye.1 hmm).2;rw [e] at this; unfold O6 at this; simp at this
  ·unfold M3; rw [e]
theorem Qr9 {l:List Pt} (hl:∀ p∈l,Sc p.c) (hn:l.length≤10) (hd:l.Pairwise λx y=>x.id≠y.id):Stab (λa=>Dl (Fg a) l) (λa=>Ut (ZF (Fg a) l)):=by
 have hcp:∀ a,∀ x∈Dl (Fg a) l,x.p∈BO l:=λa x hx=>by
  match l,hx with
  |
   u::v::l',hx =>
   simp only [Dl] at hx;obtain ⟨h3,h4⟩:=Di (Fg a) (l:=u::v::l') (Gf (u::v::l')) (u,v) ⟨by simp,by simp⟩ (Tw _ _);obtain ⟨m,hm,rfl⟩:=DC hx;obtain ⟨h1,h2⟩:=Tw _ _ m hm;rw [NU];exact SS h3 h4 h1 h2
 refine ⟨⟨λa _ x hx=>VN hl _ (hcp a x hx),λa _=>?_⟩,⟨BO l,VN hl,λa _=>hcp a⟩,λa b ha hb h=>?_⟩
 ·have:=ER (Fg a) l;have:l.length*l.length<=10*10:=Q7 hn hn;show (Dl (Fg a) l).length<=1000;omega
 ·obtain ⟨h1,h2⟩:=aU hl hd ha hb h;exact ⟨h2,by show Ut _=Ut _; rw [h1]⟩
end Orq
namespace Orr
open Go Go.Proofs Tryz Orq
set_option maxRecDepth 10000
def ZV:Nat->Un->Un
 | _,[]=>[]
 | 0,x::l=>FA x::l
 | k+1,x::l=>x::ZV k l
theorem EU:∀ (k:Nat) (l:Un),(ZV k l).length=l.length
 | _,[]=>by cases ‹Nat› <;> rfl
 | 0,x::l=>rfl
 | k+1,x::l=>by simp only [ZV,Q4,EU k l]
theorem EW:∀ (k:Nat) (l:Un) {j:Nat} {y:LV},(ZV k l)[j]? = some y->∃ x,l[j]? = some x/\(y=x\/y=FA x)
 | 0,[],_,_,h=>by simp [ZV] at h
 | _+1,[],_,_,h=>by simp [ZV] at h
 | 0,x::l,0,y,h=>by simp [ZV] at h; exact ⟨x,rfl,.inr h.symm⟩
 | 0,x::l,j+1,y,h=>by simp [ZV] at h; exact ⟨y,by simpa using h,.inl rfl⟩
 | k+1,x::l,0,y,h=>by simp [ZV] at h; exact ⟨x,rfl,.inl h.symm⟩
 |
  k+1,x::l,j+1,y,h=>by
  simp only [ZV,Jg] at h;obtain ⟨z,h1,h2⟩:=EW k l h;exact ⟨z,by simpa using h1,h2⟩
theorem nlc {P:Program} [Mo P] {n:Nat} {Q:Exit->Sg->Up->Prop} {L:Sg} {B B':Up} (i d:Nat) {T:TypeId} {xs:Un} {it:List It} (hs:Ri it=true) (hb:Aa B i=some (.blk T xs)) (hB:Ez B i (.blk T (ZV d xs))=some B') (k:AK P n Q it L B'):AK P n Q it L B:=by
 obtain ⟨rfl,hl⟩:=Ms hB;have hbi:B[i]? = some (.blk T xs):=Si ▸ hb;refine AK.sub (λF E M a w h=>⟨E,M,?_,h.size,h.defers,h.slots⟩) hs k;rw [YC,ZU hbi];refine h.hs.re (λj=>?_) (λj=>?_) (λj=>?_) λj hj=>?_
 ·by_cases e:j=i
  ·subst e;rw [Fb];obtain ⟨g,c,m,h1,cs,h2,h3⟩:=h.blk hb;refine ⟨g,c,m,h1,cs,h2,F2.of (by rw [EU]; exact h3.len) λk v x hv hx=>?_⟩;obtain ⟨y,hy,hyx⟩:=EW _ _ hx;rcases hyx with rfl | rfl
   ·exact h3.get' hv hy
   ·exact bW (h3.get' hv hy)
  ·rw [Fu _ _ e]; exact h.hs.blk j
 ·by_cases e:j=i
  ·subst e; rw [Fb,Rf hbi]; rfl
  ·rw [Fu _ _ e]
 ·by_cases e:j=i
  ·subst e; rw [Fb,Rf hbi]; rfl
  ·rw [Fu _ _ e]
 ·by_cases e:j=i
  ·subst e; rw [Rf hbi] at hj; cases hj
  ·rw [Fu _ _ e]; exact hj
theorem KW {l m:Uo} (h:l=m):TV.one (LV.row l)=.one (.row m):=h ▸ rfl
theorem xE {a b:Crv} (ha:QK a) (hb:QK b) (ca:Cb a) (cb:Cb b):Uf 217 [.agg (cl a),.agg (cl b)] [pr (Tx a b)]:=by
 obtain ⟨p1,l1,b1⟩:=vP ca cb;obtain ⟨p2,l2,b2⟩:=vT ca cb;have m1:=Ru (Fz a b) (Fz a b);have m2:=Ru (Fy a b) (Fy a b);have q1:=Se (u:=5) b1 b1 (by omega);have q2:=Se (u:=5) b2 b2 (by omega);exact Uc func217 rfl [.k (VA ha hb ca cb),.k (VL ha hb ca cb),.k (YJ p1.t p1.t (by omega) (by omega) b1 b1 (by omega)),.k (YJ p2.t p2.t (by omega) (by omega) b2 b2 (by omega)),.k (PY (by omega) (by omega) (Uv q1 (by omega)) (Uv q2 (by omega)))] rfl
theorem dI {a b c d:Crv} (ha:QK a) (hb:QK b) (hc:QK c) (hd:QK d) (ca:Cb a) (cb:Cb b) (cc:Cb c) (cd:Cb d):Uf 173 [.agg (cl a),.agg (cl b),.agg (cl c),.agg (cl d)] [pr (Hf a b c d)]:=by
 have na:=Cq ha (ca.mono (by omega) (by omega));have nb:=Cq hb (cb.mono (by omega) (by omega));have nc:=Cq hc (cc.mono (by omega) (by omega));have nd:=Cq hd (cd.mono (by omega) (by omega));have s1:=gY ca cb;have s2:=gY cc cd;have s3:=nY ca cb;have s4:=nY cc cd;have da:=ca.d;have db:=cb.d;have dc:=cc.d;have dd:=cd.d;obtain ⟨t1,l1,b1⟩:=vS cc cd;obtain ⟨t2,l2,b2⟩:=vS ca cb;have k1:=Fh (Tx c d) ((a.d*b.d)*(a.d*b.d));have k2:=Fh (Tx a b) ((c.d*d.d)*(c.d*d.d));have w1:=Sk (Uu a.d) (Uu b.d) (by omega) (by omega);have w2:=Sk (Uu c.d) (Uu d.d) (by omega) (by omega);have w3:=Sk (Uu (a.d*b.d)) (Uu (a.d*b.d)) (by omega) (by omega);have w4:=Sk (Uu (c.d*d.d)) (Uu (c.d*d.d)) (by omega) (by omega);have p1:=Sy (p:=Tx c d) (c:=(a.d*b.d)*(a.d*b.d)) (by omega) (Uv b1 (by omega)) (by omega);have p2:=Sy (p:=Tx a b) (c:=(c.d*d.d)*(c.d*d.d)) (by omega) (Uv b2 (by omega)) (by omega);have p3:=UN (p:=Fl (Tx c d) ((a.d*b.d)*(a.d*b.d))) (q:=Fl (Tx a b) ((c.d*d.d)*(c.d*d.d))) (by omega) (by omega) (Uv (Fp b1 s3) (by omega)) (Uv (Fp b2 s4) (by omega));exact Uc func173 rfl [.k na,.k nb,.k w1,.k nc,.k nd,.k w2,.k (xE hc hd cc cd),.k w3,.k p1,.k (xE ha hb ca cb),.k w4,.k p2,.k p3] rfl
theorem PZ {a b c d:Pt} (ha:Sc a.c) (hb:Sc b.c) (hc:Sc c.c) (hd:Sc d.c):Uf 173 [.agg (cl a.c),.agg (cl b.c),.agg (cl c.c),.agg (cl d.c)] [pr (Hf a.c b.c c.c d.c)]:=dI ha.n hb.n hc.n hd.n ha.cb hb.cb hc.cb hd.cb
set_option maxHeartbeats 1000000 in
theorem Qhh {a b c d:Pt} {t:Tm} (ha:Sc a.c) (hb:Sc b.c) (hc:Sc c.c) (hd:Sc d.c) (ht:Va t):Uf 167 [.oi 5,.agg (ta t),.one (.row [U3 a,U3 b,U3 c,U3 d])] [.agg (D3 (M3 (Fg t) a b c d)),.oi 0]:=by
 have hp:=(YU ha hb hc hd).dp;have e:D3 (M3 (Fg t) a b c d)=[.int .i64 5,.int .i64 a.id,.int .i64 b.id,.int .i64 c.id,.int .i64 d.id,pl (Hf a.c b.c c.c d.c),.int .i64 (G8 (Fg t) (Hf a.c b.c c.c d.c))]:=by rw [M3]
 rw [e];have cg:=HJ hp ht;have cf:=PZ ha hb hc hd;generalize Hf a.c b.c c.c d.c=F at *;refine Gb func167 rfl ?_;refine W9 [.k lR,.f rfl] rfl ?_;refine Ue (S:=Nat) 3 (λL1 i=>(22,.v (.oi i))::L1) (λi=>[.blk 189 (ta t),.blk 126 iK,.blk 126 [.int .i64 5,.int .i64 (if 1<=i then a.id else 0),.int .i64 (if 2<=i then b.id else 0),.int .i64 (if 3<=i then c.id else 0),.int .i64 (if 4<=i then d.id else 0),.nils,.int .i64 0]]) (λi=>4-i) (λi=>i<=4) 0 (Qi _) rfl rfl λi hi=>?_
 rcases (show i=0\/i=1\/i=2\/i=3\/i=4 by omega) with rfl | rfl | rfl | rfl | rfl
 ·refine W9 [.t rfl,.x (i:=0) (xs:=U3 a) rfl,.i 0] rfl ?_ (by simp [Uw]);exact rd 1 (by omega) (by omega) rfl
 ·refine W9 [.t rfl,.x (i:=1) (xs:=U3 b) rfl,.i 1] rfl ?_ (by simp [Uw]);exact rd 2 (by omega) (by omega) rfl
 ·refine W9 [.t rfl,.x (i:=2) (xs:=U3 c) rfl,.i 2] rfl ?_ (by simp [Uw]);exact rd 3 (by omega) (by omega) rfl
 ·refine W9 [.t rfl,.x (i:=3) (xs:=U3 d) rfl,.i 3] rfl ?_ (by simp [Uw]);exact rd 4 (by omega) (by omega) rfl
 ·exact Ub [.f rfl,.f rfl,.f rfl,.f rfl,.f rfl,.x (i:=0) (xs:=U3 a) rfl,.x (i:=1) (xs:=U3 b) rfl,.x (i:=2) (xs:=U3 c) rfl,.x (i:=3) (xs:=U3 d) rfl,.k cf,.k cg] rfl
theorem Qnl {s m:Pt×Pt} {t:Tm} (h1:Sc s.1.c) (h2:Sc s.2.c) (h3:Sc m.1.c) (h4:Sc m.2.c) (ht:Va t):Uz prog 171 [.agg (U3 m.1),.agg (U3 m.2),.one (.ow 0 0),.one (.ow 1 0),.one (.ow 2 0)] [.blk 41 (U3 s.1),.blk 41 (U3 s.2),.blk 189 (ta t)] [] [.blk 41 (U3 (Pe (Fg t) s m).1),.blk 41 (U3 (Pe (Fg t) s m).2),.blk 189 (ta t)]:=by
 have cf:=PZ h1 h2 h3 h4;have cg:=HJ (YU h1 h2 h3 h4).dp ht;unfold Pe;refine Gb func171 rfl ?_;by_cases h:G8 (Fg t) (Hf s.1.c s.2.c m.1.c m.2.c)<0
 ·rw [if_pos h];exact Ud [] [0,1,2] [.k cf,.k cg,.t (decide_eq_true h)] rfl
 ·rw [if_neg h];exact Ud [] [0,1,2] [.k cf,.k cg,.f (decide_eq_false h)] rfl
theorem Qnh {s m:Pt×Pt} {t:Tm} {L:List Ct} (h1:Sc s.1.c) (h2:Sc s.2.c) (h3:Sc m.1.c) (h4:Sc m.2.c) (ht:Va t) (hL:L.length<=1000000):Uz prog 174 [.agg (U3 m.1),.agg (U3 m.2),.one (.ow 0 0),.one (.ow 1 0),.one (.ow 2 0),.one (.ow 3 0)] [.blk 41 (U3 s.1),.blk 41 (U3 s.2),.blk 189 (ta t),.blk 52 [.orow 4 7 none],.row false 126 7 (Fc L)] [] [.blk 41 (U3 s.1),.blk 41 (U3 s.2),.blk 189 (ta t),.blk 52 [.orow 4 7 none],.row false 126 7 (Fc (if O6 s m=true then L++[M3 (Fg t) s.1 s.2 m.1 m.2] else L))]:=by
 have cm:=Qhh h1 h2 h3 h4 ht;have hq:∀ y∈[D3 (M3 (Fg t) s.1 s.2 m.1 m.2)],y.length=7:=λy hy=>by rw [Qj.1 hy]; rfl
 have hcl:=Mw L;have hsn:Fc (L++[M3 (Fg t) s.1 s.2 m.1 m.2])=Fc L++[D3 (M3 (Fg t) s.1 s.2 m.1 m.2)]:=by simp [Fc]
 refine Gb func174 rfl ?_;by_cases e1:m.1.id=s.1.id
 ·by_cases e2:m.2.id=s.2.id
  ·rw [if_neg (by simp [O6,e1,e2])];exact Ud [] [0,1,2,3,4] [.g 15 false (by simp [e1]),.f (by simp [e2])] rfl
  ·rw [if_pos (by simp [O6,e2]),hsn];exact Ud [] [0,1,2,3,4] [.g 15 false (by simp [e1]),.t (by simp [e2]),.k cm,.s (sz:=7) hq] rfl (by simp [Uw,hcl]; omega)
 ·rw [if_pos (by simp [O6,e1]),hsn];exact Ud [] [0,1,2,3,4] [.g 15 true (by simp [e1]),.t rfl,.k cm,.s (sz:=7) hq] rfl (by simp [Uw,hcl]; omega)
theorem HN (M:List Pt):Hp 0 M=[]:=by cases M <;> rfl
def qV (M:List Pt) (x:Pt) (i j:Nat):List (Pt×Pt):=Hp i M++((M.drop (i+1)).take j).map (λy=>(x,y))
theorem kX (M:List Pt) (x:Pt) (i:Nat):qV M x i 0=Hp i M:=by rw [qV,Vo,Jc,Zy]
theorem kZ {M:List Pt} {i j:Nat} {x y:Pt} (hy:(M.drop (i+1))[j]? = some y):qV M x i (j+1)=qV M x i j++[(x,y)]:=by
 unfold qV;rw [Z5,hy,Option.toList_some,Yd,Q9]; rfl
theorem cV {M:List Pt} {i j:Nat} {x:Pt} (hx:M[i]? = some x) (hj:(M.drop (i+1)).length<=j):qV M x i j=Hp (i+1) M:=by
 unfold qV;rw [Qo hj,Dm M i x hx]
theorem Qjl {M:List Pt} {i j:Nat} {x:Pt} (hx:M[i]? = some x):∀ m∈qV M x i j,m.1∈M/\m.2∈M:=λm hm=>by
 rcases Qr.1 hm with h | h
 ·exact Tw _ _ m h
 ·obtain ⟨y,hy,rfl⟩:=Zg.1 h;exact ⟨Qa hx,Qy (Qn hy)⟩
theorem Qa1 {l:List Pt} {t:Tm} {s0:Pt×Pt} (hl:∀ p∈l,Sc p.c) (hs:s0.1∈l/\s0.2∈l) (hn:l.length≤1000) (ht:Va t):Uz prog 170 [.one (pts l),.one (.ofn 171 [] [.ow 0 0,.ow 1 0,.ow 2 0])] [.blk 41 (U3 s0.1),.blk 41 (U3 s0.2),.blk 189 (ta t)] [] [.blk 41 (U3 (Hb (Fg t) s0 (Gf l)).1),.blk 41 (U3 (Hb (Fg t) s0 (Gf l)).2),.blk 189 (ta t)]:=by
 have hcl:=Gs l;have hsc:∀ ps:List (Pt×Pt),(∀ m∈ps,m.1∈l/\m.2∈l)->Sc (Hb (Fg t) s0 ps).1.c/\Sc (Hb (Fg t) s0 ps).2.c:=λps h=>by
  obtain ⟨h1,h2⟩:=Di (Fg t) ps s0 hs h;exact ⟨hl _ h1,hl _ h2⟩
 show Uz prog 170 [.one (.row (Ut l)),.one (.ofn 171 [] [.ow 0 0,.ow 1 0,.ow 2 0])] _ _ _;refine Gb func170 rfl ?_;refine W9 [] rfl ?_;refine lp (S:=Nat) 3 (λL1 i=>(10,.v (.oi i))::L1) (λi=>[.blk 41 (U3 (Hb (Fg t) s0 (Hp i l)).1),.blk 41 (U3 (Hb (Fg t) s0 (Hp i l)).2),.blk 189 (ta t)]) (λi=>l.length-i) (λi=>i<=l.length) 0 (Qi _) rfl (λ_ _=>rfl) (by rw [HN]; rfl) λi hi=>?_
 by_cases hlt:i<l.length
 ·obtain ⟨x,hx⟩:=gxE (l:=l) (i:=i) hlt;have ed1:(Ut l).drop (i+1)=Ut (l.drop (i+1)):=by simp [Ut,Vg]
  have hdl:=Gs (l.drop (i+1));have hdl2:(l.drop (i+1)).length<=1000:=by rw [Ze]; omega
  rw [<-kX l x i];refine go tt [.t (by simp [hcl]; omega),.x (Tg hx),.r 17 (eI (b:=((i+1:Nat):Int)) (by simp)),.i (i+1),.r 18 (KW ed1)] rfl (by simp [Uw,Gs,eq_true (p:=∀ z,z∈Ut l->z.length=ti41.sz) (XC l)]; omega) ?_;refine Ue (S:=Nat) 4 (λL1 j=>(20,.v (.oi j))::L1) (λj=>[.blk 41 (U3 (Hb (Fg t) s0 (qV l x i j)).1),.blk 41 (U3 (Hb (Fg t) s0 (qV l x i j)).2),.blk 189 (ta t),.blk 41 (U3 x)]) (λj=>(l.drop (i+1)).length-j) (λj=>j<=(l.drop (i+1)).length) 0 (Qi _) rfl rfl λj hj=>?_
  by_cases hltj:j<(l.drop (i+1)).length
  ·obtain ⟨y,hy⟩:=gxE (l:=(l.drop (i+1))) (i:=j) hltj;obtain ⟨s1,s2⟩:=hsc (qV l x i j) (Qjl hx);have cn:=Qnl (s:=Hb (Fg t) s0 (qV l x i j)) (m:=(x,y)) s1 s2 (hl x (Qa hx)) (hl y (Qy (Qa hy))) ht;rw [<-OS,<-kZ hy] at cn;refine go tt [.T,.x (Tg hy),.c [0,1,2] cn] rfl (by simp [Uw,-List.length_drop]; omega) ?_;exact rd (j+1) (by omega) hltj rfl
  ·have e:=cV hx (J5 hltj);rw [e];refine go tt [.F] rfl (by simp [Uw,-List.length_drop]; omega) ?_;exact rd (i+1) (by omega) hlt rfl
 ·obtain rfl:i=l.length:=by omega
  exact Ud [] [0,1,2] [.f (by simp [hcl])] rfl
theorem Qa2 {l:List Pt} {t:Tm} {s:Pt×Pt} (hl:∀ p∈l,Sc p.c) (hs:s.1∈l/\s.2∈l) (hn:l.length≤10) (ht:Va t):Uz prog 170 [.one (pts l),.one (.ofn 174 [] [.ow 0 0,.ow 1 0,.ow 2 0,.ow 3 0])] [.blk 41 (U3 s.1),.blk 41 (U3 s.2),.blk 189 (ta t),.blk 52 [.orow 4 7 none],.row false 126 7 []] [] [.blk 41 (U3 s.1),.blk 41 (U3 s.2),.blk 189 (ta t),.blk 52 [.orow 4 7 none],.row false 126 7 (Fc (Ma (Fg t) s (Gf l)))]:=by
 have hcl:=Gs l;have hpk:∀ i,i<=l.length->(Hp i l).length<=100:=λi hi=>by
  have:=YE i l;have:i*l.length<=10*10:=Q7 (by omega) hn;omega
 show Uz prog 170 [.one (.row (Ut l)),.one (.ofn 174 [] [.ow 0 0,.ow 1 0,.ow 2 0,.ow 3 0])] _ _ _;refine Gb func170 rfl ?_;refine W9 [] rfl ?_;refine lp (S:=Nat) 5 (λL1 i=>(10,.v (.oi i))::L1) (λi=>[.blk 41 (U3 s.1),.blk 41 (U3 s.2),.blk 189 (ta t),.blk 52 [.orow 4 7 none],.row false 126 7 (Fc (Ma (Fg t) s (Hp i l)))]) (λi=>l.length-i) (λi=>i<=l.length) 0 (Qi _) rfl (λ_ _=>rfl) (by rw [HN]; rfl) λi hi=>?_
 by_cases hlt:i<l.length
 ·obtain ⟨x,hx⟩:=gxE (l:=l) (i:=i) hlt;have ed1:(Ut l).drop (i+1)=Ut (l.drop (i+1)):=by simp [Ut,Vg]
  have hdl:=Gs (l.drop (i+1));have hdl2:(l.drop (i+1)).length<=10:=by rw [Ze]; omega
  rw [<-kX l x i];refine go tt [.t (by simp [hcl]; omega),.x (Tg hx),.r 17 (eI (b:=((i+1:Nat):Int)) (by simp)),.i (i+1),.r 18 (KW ed1)] rfl (by simp [Uw,Gs,eq_true (p:=∀ z,z∈Ut l->z.length=ti41.sz) (XC l)]; omega) ?_;refine Ue (S:=Nat) 6 (λL1 j=>(20,.v (.oi j))::L1) (λj=>[.blk 41 (U3 s.1),.blk 41 (U3 s.2),.blk 189 (ta t),.blk 52 [.orow 4 7 none],.row false 126 7 (Fc (Ma (Fg t) s (qV l x i j))),.blk 41 (U3 x)]) (λj=>(l.drop (i+1)).length-j) (λj=>j<=(l.drop (i+1)).length) 0 (Qi _) rfl rfl λj hj=>?_
  by_cases hltj:j<(l.drop (i+1)).length
  ·obtain ⟨y,hy⟩:=gxE (l:=(l.drop (i+1))) (i:=j) hltj;have hdn:(Ma (Fg t) s (qV l x i j)).length<=1000000:=by
    refine Qc (DN _ _ _) ?_;unfold qV;rw [Q0,Zl,Qu];have:=hpk i hi; omega
   have cn:=Qnh (s:=s) (m:=(x,y)) (L:=Ma (Fg t) s (qV l x i j)) (hl _ hs.1) (hl _ hs.2) (hl x (Qa hx)) (hl y (Qy (Qa hy))) ht hdn;have en1:(if O6 s (x,y)=true then Ma (Fg t) s (qV l x i j)++[M3 (Fg t) s.1 s.2 x y] else Ma (Fg t) s (qV l x i j))=Ma (Fg t) s (qV l x i (j+1)):=by
    rw [kZ hy];cases h:O6 s (x,y) with
    | true=>rw [if_pos rfl,Qif h]
    | false=>rw [if_neg (by decide),Qie h]
   dsimp only at cn;rw [en1] at cn;refine go tt [.T,.x (Tg hy),.c [0,1,2,3,4] cn] rfl (by simp [Uw,-List.length_drop]; omega) ?_;exact rd (j+1) (by omega) hltj rfl
  ·have e:=cV hx (J5 hltj);rw [e];refine go tt [.F] rfl (by simp [Uw,-List.length_drop]; omega) ?_;exact rd (i+1) (by omega) hlt rfl
 ·obtain rfl:i=l.length:=by omega
  exact Ud [] [0,1,2,3,4] [.f (by simp [hcl])] rfl
theorem DJ {l:List Pt} {a:Tm} {c:Cr} {r1:Uo} (hl:∀ p∈l,Sc p.c) (hn:l.length≤10) (ha:Va a):Uz prog 125 [.one (.ow 0 0),.agg (ta a)] [.blk 203 (Ho c (Ut l) r1)] [.one (.row (Fc (Dl (Fg a) l)))] [.blk 203 (Ho c (Ut l) (Ut (ZF (Fg a) l)))]:=by
 have hcl:=Gs l;refine Gb func125 rfl ?_;by_cases h2:l.length<2
 ·obtain ⟨e1,e2⟩:=aW (Fg a) h2;rw [e1,e2];refine W9 [.k As] rfl ?_;refine nlc 0 13 rfl rfl rfl ?_;have hml:(l.map U3).length=l.length:=Zl _;exact Ud [] [0] [.T] rfl
 ·obtain ⟨x,y,l',rfl⟩:=Qp1 h2;obtain ⟨l,hle⟩:=nmE (x::y::l');have hx0:(Ut l)[0]? = some (U3 x):=by rw [hle]; rfl
  have hy0:(Ut l)[1]? = some (U3 y):=by rw [hle]; rfl
  have hxl:x∈l:=by rw [hle]; simp
  have hyl:y∈l:=by rw [hle]; simp
  have eB:ZF (Fg a) (x::y::l')=[(Hb (Fg a) (x,y) (Gf l)).1,(Hb (Fg a) (x,y) (Gf l)).2]:=by rw [hle]; rfl
  have eC:Dl (Fg a) (x::y::l')=Ma (Fg a) (Hb (Fg a) (x,y) (Gf l)) (Gf l):=by rw [hle]; rfl
  rw [eB,eC];rw [<-hle] at hl hn h2 hcl ⊢;have c1:=Qa1 (t:=a) (s0:=(x,y)) hl ⟨hxl,hyl⟩ (by omega) ha;obtain ⟨n1,n2⟩:=Di (Fg a) (l:=l) (Gf l) (x,y) ⟨hxl,hyl⟩ (Tw _ _);generalize Hb (Fg a) (x,y) (Gf l)=s at *;have c2:=Qa2 (t:=a) (s:=s) hl ⟨n1,n2⟩ hn ha;have hml:(l.map U3).length=l.length:=Zl _;exact Ud [5] [0] [.k As,.F,.x hx0,.x hy0,.c [2,3,1] c1,.oc 8 0 126 7,.c [2,3,1,4,5] c2] rfl
theorem Qm6 {T:Nat} {t:Rat} {Bc:Tm->List Ct} {Br:Tm->Uo} {r0:Uo} (ht:Qs 1640000 t) (hB:BuildOk Bc)
 (hb:∀ a c r1,Va a->CrOk c->Uz prog 125 [.one (.ow 0 0),.agg (ta a)] [.blk T (Ho c r0 r1)] [.one (.row (Fc (Bc a)))] [.blk T (Ho c r0 (Br a))])
 {K:Nat} {c c':Cr} {r1 r1':Uo} {n:Int} (hc:CrOk c) (hev:0<=c.ev/\c.ev+K<=1000000000000000000) (h:Fe c.now t<=0) (hg:VP Bc Br t K c r1 0=some (c',r1',n)) :
 Uz prog 372 [.one (.ow 0 0),.agg (rl t),.one (.ofn 125 [.ow 0 0] [])] [.blk T (Ho c r0 r1)] [.oi n,.oi 0] [.blk T (Ho c' r0 r1')]:=by
 have qt:Qb t:=ht.mono (by decide);have c1:=Cc hc.n.tb qt;refine Gb func372 rfl ?_;refine W9 [.c [0] (Oa hc.n),.k c1,.f (by simpa using h)] rfl ?_;refine Ue (S:=Nat×Cr×Uo×Int) 2 (λL1 s=>(8,.v (.oi s.2.2.2))::L1) (λs=>[.blk T (Ho s.2.1 r0 s.2.2.1),.blk 43 (rl t)]) (λs=>s.1) (λs=>CrOk s.2.1/\(0<=s.2.1.ev/\s.2.1.ev+s.1<=1000000000000000000)/\(0<=s.2.2.2/\s.2.2.2+s.1<=1000000000000000000)/\VP Bc Br t s.1 s.2.1 s.2.2.1 s.2.2.2=some (c',r1',n)) (K,c,r1,0) ⟨hc,hev,⟨Int.le_refl 0,by dsimp only; omega⟩,hg⟩ rfl rfl λ⟨k,x,r,m⟩ ⟨j1,j2,j3,j4⟩=>?_
 dsimp only at j1 j2 j3 j4 ⊢;cases k with
 | zero=>cases j4
 |
  succ k =>
  simp only [VP] at j4;obtain ⟨ws,w1,j4⟩:=Qd.1 j4;obtain ⟨o,o1,j4⟩:=Qd.1 j4;have cn:=RE (T:=T) (r0:=r0) (r1:=r) j1 w1 o1;have ca:=JS (Uu t.num) (Uu (t.den:Int)) (Qc ht.1 (by decide)) (Qc ht.2 (by decide)) (by rw [Sw]; exact ht.mono (by decide));rw [Sw] at ca;cases o with
  |
   none =>
   injection j4 with j4; injection j4 with e1 j4; injection j4 with e2 e3;subst e1; subst e2; subst e3;exact Ud [] [0] [.c [0] cn,.g 25 true rfl,.t rfl,.k ca] rfl
  |
   some a =>
   have ha:=NR j1 w1 o1;dsimp only at j4;have cc:=Cc ha.tb qt;by_cases h0:0<Fe a t
   ·rw [if_pos h0] at j4;injection j4 with j4; injection j4 with e1 j4; injection j4 with e2 e3;subst e1; subst e2; subst e3;exact Ud [] [0] [.c [0] cn,.g 25 false rfl,.k cc,.t (by simpa using h0),.k ca] rfl
   ·rw [if_neg h0] at j4;obtain ⟨w2,l1,j4⟩:=Qd.1 j4;have j1':=Lm j1 w1;have cl:=Sj (b:=a) (l:=[]) ha.tb (λt ht=>by cases ht) (by decide) rfl;have cb:=hb a { x with l:=ws } r ha j1';have cy:=VE (T:=T) (r0:=r0) (r1:=Br a) j1' ha (hB.p a ha) (hB.n a ha) l1;have hf:decide (0<Fe a t)=false:=by simpa using h0
    refine Ua [.c [0] cn,.g 25 false rfl,.k cc,.f hf,.k cl,.c [0] cb,.c [0] cy] rfl ?_;exact rd (k,⟨a,w2,x.ev+1⟩,Br a,m+1) (by dsimp only; omega) ⟨lay_ok _ j1' ha (hB.p a ha) (hB.n a ha) l1,by dsimp only; omega,by dsimp only; omega,j4⟩ rfl
end Orr
namespace Orr
open Go
def Rq:Uk->Nat
 | []=>0
 | x::l=>x+10000*Rq l
def Dg (l:Uk):Prop:=∀ x∈l,x<10000
def Fx (x:Nat):Uk:=if h:x=0 then [] else (x % 10000)::Fx (x / 10000)
termination_by x
decreasing_by omega
theorem Hx:Fx 0=[]:=by unfold Fx; simp
theorem XW {x:Nat} (h:x≠0):Fx x=(x % 10000)::Fx (x / 10000):=by rw [Fx]; simp [h]
theorem Ht (x:Nat):Rq (Fx x)=x:=by
 induction x using Nat.strongRecOn with
 |
  _ x ih =>
  rcases Q5 x with h | h
  ·subst h; rw [Hx]; rfl
  ·rw [XW (by omega)];simp only [Rq];rw [ih _ (by omega)]; omega
theorem Nz (x:Nat):Dg (Fx x):=by
 induction x using Nat.strongRecOn with
 |
  _ x ih =>
  rcases Q5 x with h | h
  ·subst h; rw [Hx]; intro y hy; cases hy
  ·rw [XW (by omega)];intro y hy;rcases Qm.1 hy with rfl | hy
   ·omega
   ·exact ih _ (by omega) y hy
theorem TW {x:Nat}:(Fx x).length=0↔x=0:=by
 constructor
 ·intro h;have h0:=Qh h;have:=Ht x;rw [h0] at this;exact this.symm
 ·rintro rfl; rw [Hx]; rfl
theorem Aj {x:Nat} (h:x≠0):(Fx (x / 10000)).length+1=(Fx x).length:=by rw [XW h]; rfl
theorem lD {x:Nat} (h:x<1000000000000):(Fx x).length<=3:=by
 by_cases h0:x=0
 ·subst h0; rw [Hx]; exact Qi _
 ·have h1:=Aj h0;by_cases h2:x / 10000=0
  ·rw [h2,Hx] at h1; simp at h1; omega
  ·have h3:=Aj h2;by_cases h4:x / 10000 / 10000=0
   ·rw [h4,Hx] at h3; simp at h3; omega
   ·have h5:=Aj h4;have h6:x / 10000 / 10000 / 10000=0:=by omega
    rw [h6,Hx] at h5; simp at h5; omega
theorem Px (x:Nat):(Fx x).length<=sz x:=by
 induction x using Nat.strongRecOn with
 |
  _ x ih =>
  by_cases h0:x=0
  ·subst h0; rw [Hx]; exact Qi _
  ·have h1:=Aj h0;have h2:=ih (x / 10000) (by omega);have h3:sz (x / 10000)+1<=sz x:=by
    have h4:x<2^sz x:=KO x;rcases hs:sz x with _ | k
    ·rw [hs] at h4; simp at h4; omega
    ·rw [hs] at h4;have:sz (x / 10000)<=k:=Nj.2 (by rw [Zo] at h4; omega);omega
   omega
theorem Ss (a b:Uk):Rq (a++b)=Rq a+10000^a.length*Rq b:=by
 induction a with
 | nil=>simp [Rq]
 |
  cons x a ih =>
  simp only [Z9,Rq,ih,Q4,Zo];rw [Xj,<-Xx,Zn 10000 (10000^a.length)]; omega
theorem Ta {l:Uk} {i x:Nat} (h:l[i]? = some x):Rq (l.take (i+1))=Rq (l.take i)+10000^i*x:=by
 have hi:=(Qe.1 h).1;rw [show l.take (i+1)=l.take i++[x] by rw [Z5,h]; rfl,Ss,Qu,Z1 (by omega)];simp [Rq]
theorem MY:∀ {l:Uk},Dg l->Rq l<10000^l.length
 | [],_=>by simp [Rq]
 |
  x::l,h=>by
  have h1:=h x (Qw ..);have h2:=MY (l:=l) λy hy=>h y (Qg _ hy)
  simp only [Rq,Q4,Zo]; omega
theorem MV:∀ {l:Uk},(∀ x∈l,x=0)->Rq l=0
 | [],_=>rfl
 |
  x::l,h=>by
  have h1:=h x (Qw ..);have h2:=MV (l:=l) λy hy=>h y (Qg _ hy)
  simp [Rq,h1,h2]
theorem Dg.take {l:Uk} (h:Dg l) (k:Nat):Dg (l.take k):=λx hx=>h x (Qn hx)
theorem Dg.snoc {l:Uk} (h:Dg l) {x:Nat} (hx:x<10000):Dg (l++[x]):=by
 intro y hy;rcases Qr.1 hy with hy | hy
 ·exact h y hy
 ·rw [Qj.1 hy]; exact hx
theorem Dg.nil:Dg []:=λx h=>by cases h
theorem fH:∀ {l:Uk},Dg l->(∀ x,l[l.length-1]? = some x->x≠0)->l=Fx (Rq l)
 | [],_,_=>by rw [Rq,Hx]
 |
  x::l,h,hl=>by
  have h1:=h x (Qw ..);have h2:l=Fx (Rq l):=fH (λy hy=>h y (Qg _ hy)) λy hy=>hl y (by
   rcases l with _ | ⟨z,t⟩
   ·simp at hy
   ·simpa using hy)
  have h3:x+10000*Rq l≠0:=by
   intro e;have hx:x=0:=by omega
   have hd:Rq l=0:=by omega
   rw [hd,Hx] at h2;subst h2;exact hl x rfl hx
  simp only [Rq];rw [XW h3,show (x+10000*Rq l) % 10000=x by omega,show (x+10000*Rq l) / 10000=Rq l by omega,<-h2]
theorem jU {l:Uk} {m:Nat} (hd:Dg l) (hm:m<=l.length) (h1:∀ j x,m<=j->l[j]? = some x->x=0) (h2:0<m->∃ y,l[m-1]? = some y/\y≠0):l.take m=Fx (Rq l):=by
 have e:Rq l=Rq (l.take m):=by
  conv=>lhs; rw [<-Zf m l,Ss]
  rw [MV (l:=l.drop m) λx hx=>?_]
  ·omega
  ·obtain ⟨j,hj⟩:=Zm.1 hx;rw [Xa] at hj;exact h1 (m+j) x (by omega) hj
 rw [e];refine fH (hd.take m) λx hx=>?_
 have hl:(l.take m).length=m:=by rw [Qu]; omega
 rw [hl] at hx;rcases Q5 m with h0 | h0
 ·subst h0; simp at hx
 ·obtain ⟨y,hy,hy0⟩:=h2 h0;rw [V9 (by omega),hy] at hx;injection hx with hx; rw [<-hx]; exact hy0
theorem DD {o c i d m P V:Nat} (hP:P=10000^i) (h:o+c*P=V):o+P*((c+d*m) % 10000)+(c+d*m) / 10000*(P*10000)=V+P*d*m:=by
 have e:=Xb (c+d*m) 10000;generalize (c+d*m) / 10000=q at *;generalize (c+d*m) % 10000=r at *;have e2:P*(c+d*m)=P*(10000*q+r):=by rw [e]
 grind
theorem QF {x y:Nat} (h:x<=y):(Fx x).length<=(Fx y).length:=by
 induction y using Nat.strongRecOn generalizing x with
 |
  _ y ih =>
  by_cases h0:x=0
  ·subst h0; rw [Hx]; exact Qi _
  ·have h1:=Aj h0;have h2:=Aj (x:=y) (by omega);have:=ih (y / 10000) (by omega) (x:=x / 10000) (Nat.div_le_div_right h);omega
theorem lC {n x:Nat} (h:10000^n<=x):n+1<=(Fx x).length:=by
 have h1:=MY (Nz x);rw [Ht] at h1;have h2:n<(Fx x).length:=(Nat.pow_lt_pow_iff_right (by decide)).1 (Z3 h h1);omega
theorem jK {x y:Nat} (h:(Fx x).length<(Fx y).length):x<y:=by
 rcases Zd x y with h1 | h1
 ·exact h1
 ·have:=QF h1; omega
theorem lL {k y:Nat} (h:y<10000^k):(Fx y).length<=k:=by
 induction k generalizing y with
 |
  zero =>
  have:y=0:=by simpa using h
  subst this; rw [Hx]; exact Ql _
 |
  succ k ih =>
  by_cases hy0:y=0
  ·subst hy0; rw [Hx]; exact Qi _
  ·have h8:=Aj hy0;have:=ih (y:=y / 10000) (by rw [Zo] at h; omega);omega
theorem Qbs {o:Uk} (h:Dg o) (hl:o.length<=(Fx (Rq o)).length):o=Fx (Rq o):=by
 refine fH h λx hx h0=>?_
 subst h0;have hne:0<o.length:=by
  rcases o with _ | ⟨a,o⟩
  ·simp at hx
  ·simp
 have h1:Rq o=Rq (o.take (o.length-1)):=by
  have:=Ta hx;rw [show o.length-1+1=o.length by omega,Q6] at this;omega
 have h2:=MY (h.take (o.length-1));rw [<-h1,Qu,Z1 (by omega)] at h2;have:=lL h2;omega
theorem QR {l:Uk} {j d:Nat} (h:l[j]? = some d):Rq (l.drop j)=d+10000*Rq (l.drop (j+1)):=by
 obtain ⟨hj,he⟩:=Qe.1 h;rw [Zp hj,he]; rfl
theorem FQ {l:Uk} {j y:Nat} (h:j<l.length):(l.set j y).drop j=y::l.drop (j+1):=by
 rw [Zp (by simpa using h)];simp only [List.getElem_set_self];rw [List.drop_set_of_lt (by omega)]
theorem Dg.set {l:Uk} (h:Dg l) {j y:Nat} (hy:y<10000):Dg (l.set j y):=by
 intro x hx;rcases Jn hx with hx | rfl
 ·exact h x hx
 ·exact hy
theorem Dg.zeros (n:Nat):Dg (List.replicate n 0):=by
 intro x hx; rw [Z0 hx]; decide
theorem jG {V kd d:Nat} (hk:0<kd):(d+10000*V) / kd=(V % kd*10000+d) / kd+10000*(V / kd)/\(d+10000*V) % kd=(V % kd*10000+d) % kd/\(d<10000->(V % kd*10000+d) / kd<10000):=by
 have e:=Xb V kd;have e2:d+10000*V=(V % kd*10000+d)+kd*(10000*(V / kd)):=by
  conv=>lhs; rw [<-e]
  grind
 refine ⟨?_,?_,λhd=>?_⟩
 ·rw [e2,K6 _ _ hk]
 ·rw [e2,V3]
 ·have:=Z6 V hk;exact (Vp hk).2 (by grind)
theorem TF (l:Uk) (j:Nat) (h:j<=l.length):Rq l=Rq (l.take j)+10000^j*Rq (l.drop j):=by
 conv=>lhs; rw [<-Zf j l,Ss]
 rw [Qu,Z1 h]
theorem PO {a b:Uk} {j d e:Nat} (ha:Dg a) (hd:a[j]? = some d) (he:b[j]? = some e) (hs:a.drop (j+1)=b.drop (j+1)) (h:d<e):Rq a<Rq b:=by
 have h1:=(Qe.1 hd).1;have h2:=(Qe.1 he).1;rw [TF a j (by omega),TF b j (by omega),QR hd,QR he,hs];have h3:=MY (ha.take j);rw [Qu,Z1 (by omega)] at h3;generalize 10000^j=P at *;have h4:P*(d+10000*Rq (b.drop (j+1)))+P<=P*(e+10000*Rq (b.drop (j+1))):=by
  rw [<-Wx]; exact Zs _ (by omega)
 omega
def dl (l:Uk):LV:=.row (l.map λ(x:Nat)=>[.int .i64 (x:Int)])
theorem Td (l:Uk):(l.map λ(x:Nat)=>[LV.int .i64 (x:Int)]).length=l.length:=by simp
theorem Gn {l:Uk} {i x:Nat} (h:l[i]? = some x):(l.map λ(x:Nat)=>[LV.int .i64 (x:Int)])[i]? = some [.int .i64 (x:Int)]:=by rw [Zw,h]; rfl
abbrev nd (x:Nat):LV:=dl (Fx x)
end Orr
namespace Orr
open Go Go.Proofs Tryz
set_option maxRecDepth 10000
abbrev No (l:Uk):Uo:=l.map λ(x:Nat)=>[.int .i64 (x:Int)]
theorem Qnw (l:Uk):∀ c∈No l,c.length=1:=λc hc=>by obtain ⟨x,_,rfl⟩:=Zg.1 hc; rfl
theorem UD {l:Uk} (hd:Dg l):Uf 159 [.one (.row (No l))] [.one (nd (Rq l))]:=by
 refine Gb func159 rfl (ln 0 rfl rfl λhl=>?_);rw [Zl] at hl;refine W9 [] rfl ?_;refine lp (S:=Nat) 0 (λL1 n=>(3,.v (.oi n))::L1) (λ_=>[]) id (λn=>n<=l.length/\∀ j x,n<=j->l[j]? = some x->x=0) (No l).length ⟨by simp,λj x h1 h2=>by
  have:=(Qe.1 h2).1; simp at h1; omega⟩ rfl (λ_ _=>rfl) rfl λn ⟨h1,h2⟩=>?_
 cases n with
 | zero=>exact Ub [.g 8 false (by simp),.f rfl,.i 0] rfl (by have:=jU hd h1 h2 (λh=>by omega); unfold nd; rw [<-this]; simp [dl]) (by simp [Uw])
 |
  succ n =>
  obtain ⟨x,hx⟩:=gxE (l:=l) (i:=n) (by omega);by_cases h0:x=0
  ·refine Ua [.g 8 true (by simp),.r 11 (v:=.oi n) (by simp),.x (Gn hx),.t (by simp [h0]),.r 17 (v:=.oi n) (by simp)] rfl ?_;exact rd n (by simp) ⟨by omega,λj y h3 h4=>by
    rcases Kc h3 with rfl | h3
    ·rw [hx] at h4; injection h4 with h4; rw [<-h4,h0]
    ·exact h2 j y h3 h4⟩ rfl
  ·exact Ub [.g 8 true (by simp),.r 11 (v:=.oi n) (by simp),.x (Gn hx),.f (by simp [h0]),.i (n+1)] rfl (by have:=jU hd h1 h2 (λ_=>⟨x,hx,h0⟩); unfold nd; rw [<-this]; simp [dl,List.map_take]) (by simp [Uw] <;> omega)
theorem pL {x kd:Nat} (hxs:sz x<=100000000) (hk:0<kd/\kd<=65536):Uf 157 [.one (nd x),.oi kd] [.one (nd (x / kd)),.oi ((x % kd:Nat):Int)]:=by
 have hln:=Qc (Px x) hxs;obtain ⟨l,hl⟩:=nmE (Fx x);have hx:Rq l=x:=by rw [hl,Ht]
 have hd:Dg l:=by rw [hl]; exact Nz x
 show Uf 157 [.one (.row (No (Fx x))),.oi kd] _;rw [<-hl] at hln ⊢;rw [<-hx];have hll:=Td l;refine Gb func157 rfl ?_;refine Ua [.i (No l).length,.i (No l).length] rfl ?_;rw [hll,show List.replicate l.length [LV.int .i64 0]=No (List.replicate l.length 0) from by simp [No]];refine Ue (S:=Nat×Uk×Nat) 1 (λL1 s=>(8,.v (.oi ((s.1:Int)-1)))::(7,.v (.oi (s.2.2:Int)))::L1) (λs=>[.row false 3 1 (No s.2.1)]) (λs=>s.1) (λs=>s.1<=l.length/\s.2.1.length=l.length/\Dg s.2.1/\Rq (s.2.1.drop s.1)=Rq (l.drop s.1) / kd/\s.2.2=Rq (l.drop s.1) % kd) (l.length,List.replicate l.length 0,0) ⟨Ql _,by simp,Dg.zeros _,by simp [Rq],by simp [Rq]⟩ rfl rfl λ⟨k,o,R⟩ ⟨j1,j2,j3,j4,hR⟩=>?_
 dsimp only at j1 j2 j3 j4 hR ⊢;cases k with
 |
  zero =>
  have cc:=UD j3;rw [Xw,Xw] at j4;rw [j4] at cc;exact Ub [.f (by simp),.k cc] rfl (by rw [hR,Xw]) trivial
 |
  succ k =>
  obtain ⟨d,hdk⟩:=gxE (l:=l) (i:=k) (by omega);have hd0:=hd d (Qa hdk);have hdd:=QR hdk;obtain ⟨s1,s2,s3⟩:=jG (V:=Rq (l.drop (k+1))) (kd:=kd) (d:=d) hk.1;rw [<-hdd] at s1 s2;have hr:=Z6 (Rq (l.drop (k+1))) hk.1;rw [<-hR] at s1 s2 s3 hr;have e:((k+1:Nat):Int)-1=(k:Int):=by omega
  have htd:((R:Int)*10000+(d:Int)).tdiv (kd:Int)=(((R*10000+d) / kd:Nat):Int):=rfl;have hle:=Jz (R*10000+d) kd;have htb:0<=((R:Int)*10000+(d:Int)).tdiv (kd:Int)/\((R:Int)*10000+(d:Int)).tdiv (kd:Int)<=655369999:=by
   rw [htd]; revert hle; generalize (R*10000+d) / kd=Q; intro hle; omega
  rw [e];refine Ua [.t (by simp),.x (Gn hdk),.r 26 (eI (b:=((R*10000+d:Nat):Int)) (by omega)),.r 31 (eI (b:=(((R*10000+d) / kd:Nat):Int)) (by rfl)),.i k,.r 35 (eI (b:=(((R*10000+d) % kd:Nat):Int)) (by rfl))] rfl ?_;exact rd (k,o.set k ((R*10000+d) / kd),(R*10000+d) % kd) (by dsimp only; omega) ⟨by dsimp only; omega,by simp [j2],j3.set (s3 hd0),by dsimp only; rw [FQ (by omega)]; simp only [Rq]; rw [j4,s1],by dsimp only; exact s2.symm⟩ (by simp [No,List.map_set]; rfl)
theorem Qpx (x k:Nat):sz (x / k)<=sz x:=Sf (Jz _ _)
theorem gU {x y:Nat} {o:Uk} (h:Fo x=o++Fo y) (h0:y≠0):Fo x=(o++[y % 4294967296])++Fo (y / 4294967296):=by
 rw [h,Lv h0]; simp
theorem Qix (o:Uk) (z:Nat):lm (o++[z])=lm o++[[.int .u32 (z:Int)]]:=by simp [lm]
theorem Qlg {x:Nat} (hx:sz x<=100000000):Uf 103 [.one (nd x)] [lr (Fo x)]:=by
 have hlx:=Rk hx;refine Gb func103 rfl ?_;refine W9 [.o 3 111 1] rfl ?_;refine Ue (S:=Nat×Uk) 1 (λL1 s=>(0,.v (.one (nd s.1)))::(3,.v (.one (.orow 0 1 none)))::L1) (λs=>[.row false 111 1 (lm s.2)]) (λs=>s.1) (λs=>Fo x=s.2++Fo s.1/\s.1<=x) (x,[]) ⟨rfl,Ql _⟩ rfl rfl λ⟨y,o⟩ ⟨j1,j2⟩=>?_
 dsimp only at j1 j2 ⊢;by_cases h0:y=0
 ·subst h0;rw [Gw,Zy] at j1;rw [j1];exact Ub [.f (by simp [Hx])] rfl
 ·have hs:=gU j1 h0;have hsy:sz y<=100000000:=Qc (Sf j2) hx;have c1:=pL (x:=y) (kd:=65536) hsy (by decide);have c2:=pL (x:=y / 65536) (kd:=65536) (Qc (Qpx _ _) hsy) (by decide);have hl:(Fx y).length≠0:=λh=>h0 (TW.1 h)
  have ol:o.length<=(Fo x).length:=by rw [j1]; simp
  have e:y / 65536 % 65536*65536+y % 65536=y % 4294967296:=by omega
  have e2:y / 65536 / 65536=y / 4294967296:=by omega
  refine go tt [.t (by simp; omega),.k c1,.k c2,.r 26 (Ee (b:=((y % 4294967296:Nat):Int)) (by omega)),.s (sz:=1) (l:=[[.int .u32 ((y % 4294967296:Nat):Int)]]) (λc hc=>by rw [Qj.1 hc]; rfl)] rfl (by simp [Uw,Ux]; omega) ?_;rw [<-e2] at hs;exact rd (y / 65536 / 65536,o++[y % 4294967296]) (by dsimp only; omega) ⟨hs,by dsimp only; omega⟩ (by rw [Qix]; rfl)
abbrev ri (z:Int):Un:=[nd z.natAbs,sg z]
theorem Qrz (b:Bool) (m:Nat):[nd m,LV.bool (b && decide (0<m))]=ri (U6 b m):=by
 simp only [ri,sg,Ra,NT]
theorem Qox (x:Nat):(0<(Fx x).length)↔0<x:=by
 have:=TW (x:=x); omega
theorem Ob (b:Bool) (m:Nat):Uf 108 [.one (nd m),.one (.bool b)] [.agg (ri (U6 b m))]:=by
 rw [<-Qrz];have e:=Qox m;cases b with
 | false=>exact Uc func108 rfl [.g 7 false rfl] rfl
 | true=>exact Uc func108 rfl [.g 7 true rfl] rfl (by simp [e]) trivial
theorem Ad {z:Int}:Uf 104 [.agg (ri z)] [.one (.bool (decide (z=0)))] :=
 Uc func104 rfl [] rfl (by have h:=TW (x:=z.natAbs); simp only [Td]; congr 3; rw [decide_eq_decide]; omega) trivial
theorem UC {z:Int}:Uf 105 [.agg (ri z)] [.agg (ri (-z))]:=by
 have h:=Ob (!decide (z<0)) z.natAbs;have e:U6 (!decide (z<0)) z.natAbs=-z:=by unfold U6; by_cases h:z<0 <;> simp [h] <;> omega
 rw [e] at h;exact Uc func105 rfl [.k h] rfl
theorem Qq5 {z:Int} (hz:U5 z<=100000000):Uf 61 [.agg (ri z)] [.agg (G6 z)] :=
 Uc func61 rfl [.k (Qlg hz)] rfl
theorem eBo {a b:Bool} (h:a=b):TV.one (LV.bool a)=.one (.bool b):=h ▸ rfl
theorem Al (l:Uk) (x:Nat):No (l++[x])=No l++[[.int .i64 (x:Int)]]:=by simp [No]
theorem jW {x y:Nat} {o:Uk} (h:Fx x=o++Fx y) (h0:y≠0):Fx x=(o++[y % 10000])++Fx (y / 10000):=by
 rw [h,XW h0]; simp
theorem Qnj {b:Bool} {x:Nat} (hx:x<=4000000000000000000) (hb:b=true->0<x):Uf 63 [.oi (U6 b x)] [.agg (ri (U6 b x))]:=by
 have hl:(Fx x).length<=100:=by
  have:=Px x;have h2:sz x<=64:=Nj.2 (by omega);omega
 have hm:=Ob b x;refine Gb func63 rfl ?_;cases b with
 |
  false =>
  show AK prog _ _ _ (JR 0 [.oi x]) [];refine W9 [.f (by simp <;> omega),.r 3 (eBo (b:=false) (by simp)),.f rfl,.o 4 3 1] rfl ?_;refine Ue (S:=Nat×Uk) 2 (λL1 s=>(0,.v (.oi (s.1:Int)))::(4,.v (.one (.orow 1 1 none)))::L1) (λs=>[.blk 59 [.nils,.bool false],.row false 3 1 (No s.2)]) (λs=>s.1) (λs=>Fx x=s.2++Fx s.1/\s.1<=x) (x,[]) ⟨rfl,Ql _⟩ rfl rfl λ⟨y,o⟩ ⟨j1,j2⟩=>?_
  dsimp only at j1 j2 ⊢;by_cases h0:y=0
  ·subst h0;rw [Hx,Zy] at j1;rw [<-j1];exact Ub [.f (by simp),.k hm] rfl
  ·have hs:=jW j1 h0;have ol:o.length<=(Fx x).length:=by rw [j1]; simp
   refine go tt [.t (by simp; omega),.r 18 (eI (b:=((y % 10000:Nat):Int)) (by rfl)),.s (sz:=1) (l:=[[.int .i64 ((y % 10000:Nat):Int)]]) (λc hc=>by rw [Qj.1 hc]; rfl),.r 22 (eI (b:=((y / 10000:Nat):Int)) (by rfl))] rfl (by simp [Uw,Td]; omega) ?_;exact rd (y / 10000,o++[y % 10000]) (by dsimp only; omega) ⟨hs,by dsimp only; omega⟩ (by rw [Al]; rfl)
 |
  true =>
  show AK prog _ _ _ (JR 0 [.oi (-(x:Int))]) [];refine Ua [.f (by simp <;> omega),.r 3 (eBo (b:=true) (by simpa using hb rfl)),.t rfl,.r 0 (eI (b:=(x:Int)) (by omega)),.o 4 3 1] rfl ?_;refine Ue (S:=Nat×Uk) 2 (λL1 s=>(0,.v (.oi (s.1:Int)))::(4,.v (.one (.orow 1 1 none)))::L1) (λs=>[.blk 59 [.nils,.bool false],.row false 3 1 (No s.2)]) (λs=>s.1) (λs=>Fx x=s.2++Fx s.1/\s.1<=x) (x,[]) ⟨rfl,Ql _⟩ rfl rfl λ⟨y,o⟩ ⟨j1,j2⟩=>?_
  dsimp only at j1 j2 ⊢;by_cases h0:y=0
  ·subst h0;rw [Hx,Zy] at j1;rw [<-j1];exact Ub [.f (by simp),.k hm] rfl
  ·have hs:=jW j1 h0;have ol:o.length<=(Fx x).length:=by rw [j1]; simp
   refine go tt [.t (by simp; omega),.r 18 (eI (b:=((y % 10000:Nat):Int)) (by rfl)),.s (sz:=1) (l:=[[.int .i64 ((y % 10000:Nat):Int)]]) (λc hc=>by rw [Qj.1 hc]; rfl),.r 22 (eI (b:=((y / 10000:Nat):Int)) (by rfl))] rfl (by simp [Uw,Td]; omega) ?_;exact rd (y / 10000,o++[y % 10000]) (by dsimp only; omega) ⟨hs,by dsimp only; omega⟩ (by rw [Al]; rfl)
theorem xB {n:Int} (hn:-4000000000000000000<=n/\n<=4000000000000000000):Uf 63 [.oi n] [.agg (ri n)]:=by
 have e:U6 (decide (n<0)) n.natAbs=n:=by unfold U6; by_cases h:n<0 <;> simp [h] <;> omega
 have h:=Qnj (b:=decide (n<0)) (x:=n.natAbs) (by omega) (λh=>by have:=of_decide_eq_true h; omega);rwa [e] at h
abbrev fr (q:Rat):Un:=ri q.num++ri (q.den:Int)
theorem Ak:Fx 1=[1]:=by rw [XW (by decide)]; rw [Hx]
theorem Qav {n:Int}:Uf 62 [.agg (ri n),.agg (ri 1)] [.agg (fr (n:Rat))]:=by
 have h0:(No (Fx (1:Int).natAbs))[0]? = some [LV.int .i64 1]:=by rw [show (1:Int).natAbs=1 from rfl,Ak]; rfl
 have h1:decide (((No (Fx (1:Int).natAbs)).length:Int)=1)=true:=by rw [show (1:Int).natAbs=1 from rfl,Ak]; rfl
 exact Uc func62 rfl [.k (Ad (z:=1)),.f rfl,.f rfl,.g 19 true h1,.x h0,.t rfl] rfl
theorem AO {n:Int} (hn:-4000000000000000000<=n/\n<=4000000000000000000):Uf 20 [.oi n,.oi 1] [.agg (fr (n:Rat))] :=
 Uc func20 rfl [.k (xB hn),.k (xB (n:=1) (by decide)),.k Qav] rfl
theorem Qam {q:Rat} (hq:Qs 100000000 q):Uf 19 [.agg (fr q)] [.agg (rl q)] :=
 Uc func19 rfl [.k (Qq5 hq.1),.k (Qq5 hq.2)] rfl
end Orr
namespace Orr
open Go Go.Proofs Tryz Orq
set_option maxRecDepth 10000
theorem A9 {a:Tm} (ha:Va a):KZ a a=some 0:=by
 obtain ⟨c,c1,c2⟩:=KX ha ha;rcases c2 with ⟨_,h⟩ | ⟨e,_⟩ | ⟨_,h⟩
 ·exact absurd h λh=>Aw ha.cut ha.cut h h
 ·rw [c1,e]
 ·exact absurd h λh=>Aw ha.cut ha.cut h h
theorem pK {c:Cr} {l l':List Pt} {r1:Uo} {ws:List Wt} (hc:CrOk c) (hl:∀ p∈l',Sc p.c) (hn:l'.length≤1000) (h:Tz c.l c.now (Fj (JV l' c.now))=some ws) :
 Uz prog 373 [.one (.ow 0 0),.agg [pts l'],.oi 0] [.blk 196 (Ho c (Ut l) r1)] [.oi 0] [.blk 196 (Ho ⟨c.now,ws,c.ev⟩ (Ut l') (zS l' c.now))]:=by
 have hB:=uF hl hn;have cn:=Oa (T:=196) (c:=c) (r0:=Ut l') (r1:=r1) hc.n;have cb:=DV (c:=c) (r1:=r1) hl hn hc.n;have cg:=XX (T:=196) (r0:=Ut l') (r1:=zS l' c.now) hc hc.n (A9 hc.n) (Ya 0) (hB.p _ hc.n) (hB.n _ hc.n) h;refine Gb func373 rfl ?_;exact Ud [] [0] [.f rfl,.c [0] cn,.c [0] cb,.c [0] cg] rfl
theorem Qne {c:Cr} {l s:List Pt} (hs:s.length<=1000000):Uz prog 88 [.one (.ow 0 0)] [.blk 196 (Ho c (Ut l) (Ut s))] [.one (ids (s.map (·.id)))] [.blk 196 (Ho c (Ut l) (Ut s))]:=by
 have hcl:=Gs s;refine Gb func88 rfl ?_;refine W9 [.o 3 3 1] rfl ?_;refine Ue (S:=Nat) 2 (λL1 i=>(11,.v (.oi i))::(3,.v (.one (.orow 1 1 none)))::L1) (λi=>[.blk 196 (Ho c (Ut l) (Ut s)),.row false 3 1 (((s.take i).map (·.id)).map λ(z:Int)=>[LV.int .i64 z])]) (λi=>s.length-i) (λi=>i<=s.length) 0 (Qi _) rfl rfl λi hi=>?_
 by_cases hlt:i<s.length
 ·obtain ⟨p,hp⟩:=gxE (l:=s) (i:=i) hlt;have hg:(((s.take (i+1)).map (·.id)).map λ(z:Int)=>[LV.int .i64 z])=(((s.take i).map (·.id)).map λ(z:Int)=>[LV.int .i64 z])++[[.int .i64 p.id]]:=by
   rw [Z5,hp]; simp
  refine Ua [.t (by simp [hcl]; omega),.x (Tg hp),.s (sz:=1) (l:=[[.int .i64 p.id]]) (λc hc=>by rw [Qj.1 hc]; rfl)] rfl ?_;exact rd (i+1) (by omega) hlt (by rw [hg]; rfl)
 ·obtain rfl:i=s.length:=by omega
  rw [Q6];exact Ud [1] [0] [.f (by simp [hcl])] rfl
theorem Qnf {lx ly:Uo} {px py:Ui} {x y:LV} {d id:Int} {c:Cr} {l:List Pt} {r1:Uo} {ws:List Wt} (hx:IsInts lx px) (hy:IsInts ly py) (hd:Gk x y d) (hk:Cs 4294967294 1073741824 (Crv.mk px py d)) (hll:l.length<=900)
 (he:VQ l ⟨Crv.norm (Crv.mk px py d),id⟩=0) (hc:CrOk c) (hl:∀ p∈put l ⟨Crv.norm (Crv.mk px py d),id⟩,Sc p.c) (hn:(put l ⟨Crv.norm (Crv.mk px py d),id⟩).length≤1000) (h:Tz c.l c.now (Fj (JV (put l ⟨Crv.norm (Crv.mk px py d),id⟩) c.now))=some ws) :
 Uz prog 369 [.one (.ow 0 0),.agg [.row lx,.row ly,x,y,.int .i64 id]] [.blk 196 (Ho c (Ut l) r1)] [.oi 0] [.blk 196 (Ho ⟨c.now,ws,c.ev⟩ (Ut (put l ⟨Crv.norm (Crv.mk px py d),id⟩)) (zS (put l ⟨Crv.norm (Crv.mk px py d),id⟩) c.now))]:=by
 have cp:=xR (l:=l) (id:=id) hx hy hd hk (by omega);rw [if_pos he,he] at cp;have cw:=pK (l:=l) (r1:=r1) hc hl hn h;refine Gb func369 rfl ?_;obtain ⟨b,l',rfl,rfl,_⟩:=hd;exact Ud [] [0] [.k cp,.c [0] cw] rfl
theorem Qnd {t:Rat} {l:List Pt} {K:Nat} {c c':Cr} {r1 r1':Uo} {n:Int} (ht:Qs 1640000 t) (hl:∀ p∈l,Sc p.c) (hn:l.length≤1000) (hc:CrOk c) (hev:0≤c.ev/\c.ev+K≤1000000000000000000) (h:Fe c.now t≤0) (hg:VP (JV l) (zS l) t K c r1 0=some (c',r1',n)) :
 Uz prog 365 [.one (.ow 0 0),.agg (rl t)] [.blk 196 (Ho c (Ut l) r1)] [.oi n,.oi 0] [.blk 196 (Ho c' (Ut l) r1')]:=by
 have cg:=Qqw (T:=196) (r0:=Ut l) ht (uF hl hn) (λa c r1 ha _=>DV (c:=c) (r1:=r1) hl hn ha) hc hev h hg;refine Gb func365 rfl ?_;exact Ud [] [0] [.k (Nw (ht.mono (by decide))),.c [0] cg] rfl
abbrev idl (l:Ui):Uo:=l.map λ(z:Int)=>[.int .i64 z]
theorem TP {l:Ui} {i:Nat} {z:Int} (h:l[i]? = some z):(idl l)[i]? = some [.int .i64 z]:=H9 h
theorem Qah {a b:Ui} (ha:a.length<=1000000) (hb:b.length<=1000000):Uf 49 [.one (ids a),.one (ids b)] [.one (.bool (decide (a=b)))]:=by
 show Uf 49 [.one (.row (idl a)),.one (.row (idl b))] _;have la:(idl a).length=a.length:=by simp
 have lb:(idl b).length=b.length:=by simp
 refine Gb func49 rfl ?_;by_cases hl:a.length=b.length
 ·refine W9 [.f (by simp; omega)] rfl ?_;refine Ue (S:=Nat) 0 (λL1 i=>(5,.v (.oi i))::L1) (λ_=>[]) (λi=>a.length-i) (λi=>i<=a.length/\a.take i=b.take i) 0 ⟨Qi _,rfl⟩ rfl rfl λi ⟨hi,he⟩=>?_
  by_cases hlt:i<a.length
  ·obtain ⟨x,hx⟩:=gxE (l:=a) (i:=i) hlt;obtain ⟨y,hy⟩:=gxE (l:=b) (i:=i) (by omega);by_cases e:x=y
   ·refine Ua [.t (by simp; omega),.x (TP hx),.x (TP hy),.f (by simpa using e)] rfl ?_;exact rd (i+1) (by omega) ⟨hlt,by rw [Z5,Z5,hx,hy,he,e]⟩ rfl
   ·have hne:a≠b:=λh=>by rw [h,hy] at hx; injection hx with hx; exact e hx.symm
    exact Ub [.t (by simp; omega),.x (TP hx),.x (TP hy),.t (by simpa using e)] rfl (by simp [hne]) trivial
  ·obtain rfl:i=a.length:=by omega
   have hab:a=b:=by rw [Q6] at he; rw [he,hl,Q6]
   exact Ub [.f (by simp)] rfl (by simp [hab]) trivial
 ·have hne:a≠b:=λh=>hl (by rw [h])
  exact Ub [.t (by simp; omega)] rfl (by simp [hne]) trivial
def VT (v n:Int):Int:=if n<1 then 0 else v.emod n
theorem aI {v n:Int} (h:0<n):(if v.tmod n<0 then v.tmod n+n else v.tmod n)=v % n:=by
 have h3:=Kw v (show n≠0 by omega);have h4:=V7 v h;have h1:=Int.tmod_eq_emod (a:=v) (b:=n);have hn:((n.natAbs:Nat):Int)=n:=by omega
 split at h1
 ·rw [h1]; simp; omega
 ·rename_i hc;rw [h1,hn];have:v % n≠0:=λe=>hc (.inr (Jt e))
  rw [if_pos (by omega)]; omega
theorem Ea {v n:Int} (hv:-9223372036854775808<=v/\v<=9223372036854775807) (hn:n<=1000000000):Uf 13 [.oi v,.oi n] [.oi (VT v n)]:=by
 unfold VT;by_cases h:n<1
 ·rw [if_pos h];exact Uc func13 rfl [.t (by simpa using h)] rfl
 ·rw [if_neg h];have e:=aI (v:=v) (n:=n) (by omega);have h3:=Kw v (show n≠0 by omega);have h4:=V7 v (show 0<n by omega);show Uf 13 [.oi v,.oi n] [.oi (v % n)];by_cases h0:v.tmod n<0
  ·rw [if_pos h0] at e;have b:-n<=v.tmod n:=by omega
   exact Uc func13 rfl [.f (by simpa using h),.t (by simpa using h0)] rfl (by rw [e]) (by simp [Uw]; omega)
  ·rw [if_neg h0] at e;exact Uc func13 rfl [.f (by simpa using h),.f (by simpa using h0)] rfl (by rw [e]) (by simp [Uw]; omega)
end Orr
namespace Orr
open Go Go.Proofs Tryz Orq
theorem BH {x y:Int} (hx:-9223372036854775808<=x/\x<=9223372036854775807) (hy:-9223372036854775808<=y/\y<=9223372036854775807):Sc (Bt x y):=⟨Crv.nml _,((PD hx hy).norm (by decide)).mono (by decide) (by decide)⟩
theorem Sc.pt {p:Pt} (h:Sc p.c):Qmn 4294967294 1073741824 p:=⟨h.n,h.c.mono (by decide) (by decide)⟩
end Orr
namespace Orr
open Go Go.Proofs Tryz Orq
set_option maxRecDepth 10000
def dS (l:List Pt) (a:Tm):List Ct:=Dl (Fg a) l
abbrev brP (l:List Pt) (a:Tm):Uo:=Ut (ZF (Fg a) l)
theorem sB {l:List Pt} {a:Tm}:∀ x∈dS l a,x.p∈BO l:=λx hx=>by
 match l,hx with
 |
  u::v::l',hx =>
  unfold dS at hx;simp only [Dl] at hx;obtain ⟨h3,h4⟩:=Di (Fg a) (l:=u::v::l') (Gf (u::v::l')) (u,v) ⟨by simp,by simp⟩ (Tw _ _);obtain ⟨m,hm,rfl⟩:=DC hx;obtain ⟨h1,h2⟩:=Tw _ _ m hm;rw [NU];exact SS h3 h4 h1 h2
theorem iL {l:List Pt} (hl:∀ p∈l,Sc p.c) (hn:l.length≤10):BuildOk (dS l) :=
 ⟨λ_ _ x hx=>VN hl _ (sB x hx),λa _=>by
  have:=ER (Fg a) l;have:l.length*l.length<=10*10:=Q7 hn hn;show (Dl (Fg a) l).length<=1000;omega⟩
def Qqq (l:List Pt) (a:Tm):Cr:=⟨a,(Fj (dS l a)).map fresh,0⟩
theorem Qhj {t:Rat} {l:List Pt} {K:Nat} {c c':Cr} {r1 r1':Uo} {n:Int} (ht:Qs 1640000 t) (hl:∀ p∈l,Sc p.c) (hn:l.length≤10) (hc:CrOk c) (hev:0≤c.ev/\c.ev+K≤1000000000000000000) (h:Fe c.now t≤0) (hg:VP (dS l) (brP l) t K c r1 0=some (c',r1',n)) :
 Uz prog 403 [.one (.ow 0 0),.agg (rl t)] [.blk 203 (Ho c (Ut l) r1)] [.oi n,.oi 0] [.blk 203 (Ho c' (Ut l) r1')]:=by
 have cg:=Qm6 (T:=203) (r0:=Ut l) ht (iL hl hn) (λa c r1 ha _=>DJ (c:=c) (r1:=r1) hl hn ha) hc hev h hg;refine Gb func403 rfl ?_;exact Ud [] [0] [.k (Nw (ht.mono (by decide))),.c [0] cg] rfl
theorem pJ {c:Cr} {r0:Uo} {a b:Pt}:Uz prog 92 [.one (.ow 0 0)] [.blk 203 (Ho c r0 (Ut [a,b]))] [.oi a.id,.oi b.id,.one (.bool true)] [.blk 203 (Ho c r0 (Ut [a,b]))]:=by
 refine Gb func92 rfl ?_;exact Ud [] [0] [.f rfl,.x (l:=Ut [a,b]) (i:=0) (xs:=U3 a) rfl,.x (l:=Ut [a,b]) (i:=1) (xs:=U3 b) rfl] rfl
theorem xG {c:Cr} {r0:Uo}:Uz prog 92 [.one (.ow 0 0)] [.blk 203 (Ho c r0 [])] [.oi 0,.oi 0,.one (.bool false)] [.blk 203 (Ho c r0 [])]:=by
 refine Gb func92 rfl ?_;exact Ud [] [0] [.t rfl] rfl
end Orr
namespace Orr
open Go
def RU (q:Ui->Int) (a b:Pt):Pt×Pt:=if Nt q a b=true then (a,b) else (b,a)
def Ir (q:Ui->Int):Nat->List Pt->List Pt×List (Pt×Pt)
 | 0,l=>(l,[])
 |
  k+1,l=>if l.length<2 then (l,[]) else
  match (Ir q k (l.take ((l.length+1) / 2))).1,(Ir q k (l.drop ((l.length+1) / 2))).1 with
  | a::_,b::_=>([(RU q a b).1],(Ir q k (l.take ((l.length+1) / 2))).2++(Ir q k (l.drop ((l.length+1) / 2))).2++[RU q a b])
  | _,_=>([],[])
theorem Ch (q:Ui->Int):∀ (k:Nat) (l:List Pt),l.length<=k->Ir q k l=Ir q l.length l
 | 0,l,h=>by rw [show l.length=0 by omega]
 |
  k+1,l,h=>by
  cases hl:l.length with
  | zero=>simp [Ir,hl]
  |
   succ m =>
   simp only [Ir];by_cases h2:l.length<2
   ·rw [if_pos h2,if_pos h2]
   ·rw [if_neg h2,if_neg h2];have h3:(l.take ((l.length+1) / 2)).length<=m:=by rw [Qu]; omega
    have h4:(l.drop ((l.length+1) / 2)).length<=m:=by rw [Ze]; omega
    rw [Ch q k (l.take ((l.length+1) / 2)) (by omega),Ch q k (l.drop ((l.length+1) / 2)) (by omega),Ch q m (l.take ((l.length+1) / 2)) h3,Ch q m (l.drop ((l.length+1) / 2)) h4]
termination_by k=>k
def Np (q:Ui->Int) (l:List Pt):List Pt×List (Pt×Pt):=Ir q l.length l
theorem Bh (q:Ui->Int) {l:List Pt} (h:l.length<2):Np q l=(l,[]):=by
 unfold Np;cases hl:l.length with
 | zero=>rfl
 | succ m=>simp only [Ir]; rw [if_pos h]
theorem Is (q:Ui->Int) {l:List Pt} (h:¬l.length<2) {a b:Pt} (ha:(Np q (l.take ((l.length+1) / 2))).1=[a]) (hb:(Np q (l.drop ((l.length+1) / 2))).1=[b]) :
 Np q l=([(RU q a b).1],(Np q (l.take ((l.length+1) / 2))).2++(Np q (l.drop ((l.length+1) / 2))).2++[RU q a b]):=by
 unfold Np at ha hb ⊢;obtain ⟨m,hm⟩:∃ m,l.length=m+1:=⟨l.length-1,by omega⟩;have h3:(l.take ((l.length+1) / 2)).length<=m:=by rw [Qu]; omega
 have h4:(l.drop ((l.length+1) / 2)).length<=m:=by rw [Ze]; omega
 rw [<-Ch q m _ h3] at ha ⊢;rw [<-Ch q m _ h4] at hb ⊢;rw [show Ir q l.length l=Ir q (m+1) l by rw [hm]];simp only [Ir];rw [if_neg h,ha,hb]
theorem Mj (q:Ui->Int):∀ (k:Nat) (l:List Pt),l.length≤k->0<l.length->∃ a,(Np q l).1=[a]/\a∈l/\∀ m∈(Np q l).2,m.1∈l/\m.2∈l
 | 0,l,h,h0=>by omega
 |
  k+1,l,h,h0=>by
  by_cases h2:l.length<2
  ·rw [Bh q h2]
   match l,h0,h2 with
   | [a],_,_=>exact ⟨a,rfl,by simp,by simp⟩
  ·obtain ⟨a,ha,hal,ham⟩:=Mj q k (l.take ((l.length+1) / 2)) (by rw [Qu]; omega) (by rw [Qu]; omega);obtain ⟨b,hb,hbl,hbm⟩:=Mj q k (l.drop ((l.length+1) / 2)) (by rw [Ze]; omega) (by rw [Ze]; omega);rw [Is q h2 ha hb];have hd:(RU q a b).1∈l/\(RU q a b).2∈l:=by
    unfold RU; split
    ·exact ⟨Qn hal,Qy hbl⟩
    ·exact ⟨Qy hbl,Qn hal⟩
   refine ⟨_,rfl,hd.1,λm hm=>?_⟩;rcases Qr.1 hm with hm | hm
   ·rcases Qr.1 hm with hm | hm
    ·exact ⟨Qn (ham m hm).1,Qn (ham m hm).2⟩
    ·exact ⟨Qy (hbm m hm).1,Qy (hbm m hm).2⟩
   ·rw [Qj.1 hm]; exact hd
theorem Ci (q:Ui->Int):∀ (k:Nat) (l:List Pt),l.length<=k->(Np q l).2.length<=l.length-1
 | 0,l,h=>by rw [Bh q (by omega)]; simp
 |
  k+1,l,h=>by
  by_cases h2:l.length<2
  ·rw [Bh q h2]; simp
  ·obtain ⟨a,ha,_⟩:=Mj q l.length (l.take ((l.length+1) / 2)) (by rw [Qu]; omega) (by rw [Qu]; omega);obtain ⟨b,hb,_⟩:=Mj q l.length (l.drop ((l.length+1) / 2)) (by rw [Ze]; omega) (by rw [Ze]; omega);rw [Is q h2 ha hb];have h3:=Ci q k (l.take ((l.length+1) / 2)) (by rw [Qu]; omega);have h4:=Ci q k (l.drop ((l.length+1) / 2)) (by rw [Ze]; omega);rw [Qu] at h3;rw [Ze] at h4;simp only [Q0,Kq];omega
abbrev aY (m:Pt×Pt):Un:=[pl m.1.c.x,pl m.1.c.y,sg m.1.c.d,mg m.1.c.d,.int .i64 m.1.id,pl m.2.c.x,pl m.2.c.y,sg m.2.c.d,mg m.2.c.d,.int .i64 m.2.id]
end Orr
namespace Orq
open Orr Go
def KA (q:Rat) (x y:Pt):Prop:=py y q<py x q\/py y q=py x q/\(px y q<px x q\/px y q=px x q/\x.id<y.id)
theorem Qdb (q:Rat) (x:Pt):¬KA q x x:=by unfold KA; grind
theorem Qiw (q:Rat) (x y z:Pt) (h:KA q x y) (h':KA q y z):KA q x z:=by unfold KA at *; grind
theorem Qdc {q:Rat} {x y:Pt} (h:x.id≠y.id) (h':¬KA q x y):KA q y x:=by unfold KA at *; grind
theorem dP {a:Tm} (ha:Va a) {x y:Pt} (hx:Sc x.c) (hy:Sc y.c) {q:Rat} (h1:G8 (Fg a) (Fy y.c x.c)=U4 (Uy (Fy y.c x.c) q)) (h2:G8 (Fg a) (Fz y.c x.c)=U4 (Uy (Fz y.c x.c) q)):Nt (Fg a) x y=true↔KA q x y:=by
 rw [GT hy hx] at h1;rw [GP hy hx] at h2;have d1:=(Md hy hx).dp;have d2:=(Me hy hx).dp;unfold Nt;simp only [D4];have t1:=Fi (py x q-py y q);have t2:=Fi (px x q-px y q);by_cases e1:(Fy y.c x.c).length=0
 ·rw [if_neg (by omega)];rw [Qh e1,QN] at h1;have:py x q=py y q:=by grind
  by_cases e2:(Fz y.c x.c).length=0
  ·rw [if_neg (by omega)];rw [Qh e2,QN] at h2;unfold KA;simp only [decide_eq_true_eq];grind
  ·rw [if_pos (by omega)];have:=(Lk ha d2 e2).2;unfold KA;simp only [decide_eq_true_eq];grind
 ·rw [if_pos (by omega)];have:=(Lk ha d1 e1).2;unfold KA;simp only [decide_eq_true_eq];grind
theorem xZ {l:List Pt} (hl:∀ p∈l,Sc p.c) {a:Tm} (ha:Va a):∃ y,Fe a y=-1/\∀ q,Fe a q=-1->q≤y->∀ u∈l,∀ v∈l,(Nt (Fg a) u v=true↔KA q u v):=by
 obtain ⟨y,y1,y2⟩:=QB ha (Lh l) λp hp=>(I4 hl p hp).dp
 refine ⟨y,y1,λq q1 q2 u hu v hv=>?_⟩;have h:=y2 q q1 q2;exact dP ha (hl u hu) (hl v hv) (h _ (Tk hv hu).2) (h _ (Tk hv hu).1)
theorem gI {a b:Tm} {x y:Pt} (h:G8 (Fg b) (Eu x y)=G8 (Fg a) (Eu x y)):Nt (Fg b) x y=Nt (Fg a) x y:=by
 unfold Eu Dx at h;unfold Nt;simp only [D4];by_cases e1:0<(Fy y.c x.c).length
 ·rw [if_pos e1,if_pos e1]; rw [if_pos e1] at h; rw [h]
 ·rw [if_neg e1,if_neg e1]; rw [if_neg e1] at h; rw [h]
theorem Qcw {l:List Pt} {k:Nat} (h2:¬l.length<2) (hk:l.length<=k+1):(l.take ((l.length+1) / 2)).length<=k/\(l.drop ((l.length+1) / 2)).length<=k/\0<(l.take ((l.length+1) / 2)).length/\0<(l.drop ((l.length+1) / 2)).length:=by
 rw [Qu,Ze]; omega
theorem GY {sa sb:Ui->Int}:∀ (k:Nat) (l:List Pt),l.length≤k->l.Pairwise (λx y=>x.id≠y.id)->(∀ u∈l,∀ v∈l,u.id≠v.id->Nt sa u v=false->Nt sa v u=true)->(∀ u∈l,∀ v∈l,Nt sb v u=true->Nt sb u v=false)->(∀ m∈(Np sa l).2,Nt sb m.1 m.2=Nt sa m.1 m.2)->Np sb l=Np sa l
 | 0,l,hk,_,_,_,_=>by rw [Bh _ (by omega),Bh _ (by omega)]
 |
  k+1,l,hk,hd,h1,h2,hm=>by
  by_cases hs:l.length<2
  ·rw [Bh _ hs,Bh _ hs]
  ·obtain ⟨k1,k2,k3,k4⟩:=Qcw hs hk;obtain ⟨a,ha,hal,_⟩:=Mj sa k (l.take ((l.length+1) / 2)) k1 k3;obtain ⟨b,hb,hbl,_⟩:=Mj sa k (l.drop ((l.length+1) / 2)) k2 k4;have hpl:=Is sa hs ha hb;rw [hpl] at hm;have hd':=hd;rw [<-Zf ((l.length+1) / 2) l] at hd';obtain ⟨d1,d2,d3⟩:=Jj.1 hd';have i1:=GY k _ k1 d1 (λu hu v hv=>h1 u (Qn hu) v (Qn hv)) (λu hu v hv=>h2 u (Qn hu) v (Qn hv)) λm hm'=>hm m (by simp [hm'])
   have i2:=GY k _ k2 d2 (λu hu v hv=>h1 u (Qy hu) v (Qy hv)) (λu hu v hv=>h2 u (Qy hu) v (Qy hv)) λm hm'=>hm m (by simp [hm'])
   have hal':=Qn hal;have hbl':=Qy hbl;have e:RU sb a b=RU sa a b:=by
    have hmem:=hm (RU sa a b) (by simp);unfold RU at hmem ⊢;by_cases h:Nt sa a b=true
    ·rw [if_pos h] at hmem ⊢;rw [if_pos (hmem.trans h)]
    ·rw [if_neg h] at hmem ⊢;have h:Nt sa a b=false:=by simpa using h
     have:=h2 a hal' b hbl' (hmem.trans (h1 a hal' b hbl' (d3 a hal b hbl) h));rw [if_neg (by simp [this])]
   rw [hpl,Is sb hs (by rw [i1]; exact ha) (by rw [i2]; exact hb),i1,i2,e]
end Orq
namespace Orr
open Orq Go
def zR (l:List Pt) (a:Tm):List Ct:=(Np (Fg a) l).2.map λm=>Cx (Fg a) m.1 m.2
def dC (l:List Pt) (a:Tm):Uo×Uo:=((Np (Fg a) l).1.map U3,(Np (Fg a) l).2.map aY)
theorem ZR {sg:Ui->Int} {l:List Pt}:∀ m∈(Np sg l).2,m.1∈l/\m.2∈l:=λm hm=>by
 by_cases h:0<l.length
 ·obtain ⟨_,_,_,h3⟩:=Mj sg l.length l (Ql _) h;exact h3 m hm
 ·rw [Bh _ (by omega)] at hm; cases hm
theorem Qmt {l:List Pt} (hl:∀ p∈l,Sc p.c) {a:Tm}:∀ x∈zR l a,Cp x.p:=λx hx=>by
 obtain ⟨m,hm,rfl⟩:=Zg.1 hx;obtain ⟨h1,h2⟩:=ZR m hm;exact XU (Md (hl _ h2) (hl _ h1)) (Me (hl _ h2) (hl _ h1))
theorem uG {l:List Pt} (hl:∀ p∈l,Sc p.c) (hn:l.length≤1000):BuildOk (zR l) :=
 ⟨λa _=>Qmt hl,λa _=>by
  unfold zR; rw [List.length_map];have:=Ci (Fg a) l.length l (Ql _); omega⟩
theorem Qg2 {l:List Pt} {a:Tm}:∀ x∈zR l a,x.p∈Lh l:=λx hx=>by
 obtain ⟨m,hm,rfl⟩:=Zg.1 hx;obtain ⟨h1,h2⟩:=ZR m hm;show Eu m.1 m.2∈Lh l;unfold Eu Dx; split
 ·exact (Tk h2 h1).2
 ·exact (Tk h2 h1).1
theorem Qsb {l:List Pt} (hl:∀ p∈l,Sc p.c) (hn:l.length≤1000) (hd:l.Pairwise λx y=>x.id≠y.id):Stab (zR l) (dC l):=by
 refine ⟨uG hl hn,⟨Lh l,I4 hl,λa _ x hx=>?_⟩,λa b ha hb h=>?_⟩
 ·obtain ⟨m,hm,rfl⟩:=Zg.1 hx;obtain ⟨h1,h2⟩:=ZR m hm;show Eu m.1 m.2∈Lh l;unfold Eu Dx; split
  ·exact (Tk h2 h1).2
  ·exact (Tk h2 h1).1
 ·obtain ⟨y,y1,y2⟩:=xZ hl ha;obtain ⟨z,z1,z2⟩:=xZ hl hb;have ga:=y2 y y1 Qp;have gb:=z2 z z1 Qp;have e:Np (Fg b) l=Np (Fg a) l:=GY l.length l (Ql _) hd (λu hu v hv hne hf=>(ga v hv u hu).2 (Qdc hne λh=>by
   rw [(ga u hu v hv).2 h] at hf; cases hf)) (λu hu v hv ht=>by
   cases hb':Nt (Fg b) u v
   ·rfl
   ·exact absurd (Qiw z u v u ((gb u hu v hv).1 hb') ((gb v hv u hu).1 ht)) (Qdb z u)) λm hm=>gI (h (Cx (Fg a) m.1 m.2) (Zg.2 ⟨m,hm,rfl⟩))
  refine ⟨?_,by unfold dC; rw [e]⟩;unfold zR;rw [e];refine Xz λm hm=>?_
  have:=h (Cx (Fg a) m.1 m.2) (Zg.2 ⟨m,hm,rfl⟩);unfold Cx;rw [show G8 (Fg b) (Eu m.1 m.2)=G8 (Fg a) (Eu m.1 m.2) from this]
end Orr
namespace Orq
open Orr Go
def O5 (a:Crv):Uj:=[Fl a.x a.d,Fl a.y a.d,A0 (Ge a.x a.x) (Ge a.y a.y),[a.d*a.d]]
def jJ (a b c d:Crv):List Uj:=[O5 a,O5 b,O5 c,O5 d]
def JD (a b c d:Crv):Ui:=Dn 4 (jJ a b c d)
theorem WU {s:Nat} {k:Crv} (hn:QK k) (hc:Cs s 3 k):(∀ p∈O5 k,U7 p/\Bd (s+s+3) p)/\∀ (j:Nat) (p:Ui),(O5 k)[j]? = some p->p.length≤[2,2,4,0].getD j 0+1:=by
 have l1:=Fh k.x k.d;have l2:=Fh k.y k.d;have l3:=Ru k.x k.x;have l4:=Ru k.y k.y;have l5:=Ep (Ge k.x k.x) (Ge k.y k.y);have kx:=hc.lx;have ky:=hc.ly;have bx:Bd (s+s+2) (Ge k.x k.x):=Se hc.x hc.x (by omega);have by_:Bd (s+s+2) (Ge k.y k.y):=Se hc.y hc.y (by omega);have hd:=hn.2.2.1;have hd0:k.d*k.d≠0:=λe=>by rcases Jy.1 e with e | e <;> omega
 have td:U7 [k.d*k.d]:=by unfold U7; simp [trim,hd0]
 refine ⟨λp hp=>?_,λj p hp=>?_⟩
 ·simp only [O5,Qm,Jq,or_false] at hp;rcases hp with rfl | rfl | rfl | rfl
  ·exact ⟨Fq _ _,Uv (Fp hc.x hc.d) (by omega)⟩
  ·exact ⟨Fq _ _,Uv (Fp hc.y hc.d) (by omega)⟩
  ·exact ⟨Fq _ _,Uv (I6 bx by_) (by omega)⟩
  ·refine ⟨td,λz hz=>?_⟩;rw [Qj.1 hz];have:=Ft k.d k.d; have:=hc.d; omega
 ·match j,hp with
  | 0,hp=>injection hp with hp; subst hp; show _<=3; omega
  | 1,hp=>injection hp with hp; subst hp; show _<=3; omega
  | 2,hp=>injection hp with hp; subst hp; show _<=5; omega
  | 3,hp=>injection hp with hp; subst hp; exact Ql _
  | j+4,hp=>simp [O5] at hp
theorem wZ {s:Nat} {a b c d:Crv} (na:QK a) (nb:QK b) (nc:QK c) (nd:QK d) (ca:Cs s 3 a) (cb:Cs s 3 b) (cc:Cs s 3 c) (cd:Cs s 3 d):Sq (s+s+3) [2,2,4,0] 4 4 (jJ a b c d):=by
 have hr:∀ r∈jJ a b c d,∃ k:Crv,QK k/\Cs s 3 k/\r=O5 k:=λr hr=>by
  simp only [jJ,Qm,Jq,or_false] at hr;rcases hr with rfl | rfl | rfl | rfl
  ·exact ⟨a,na,ca,rfl⟩
  ·exact ⟨b,nb,cb,rfl⟩
  ·exact ⟨c,nc,cc,rfl⟩
  ·exact ⟨d,nd,cd,rfl⟩
 refine ⟨rfl,λr h=>?_,λr h p hp=>?_,λr h p hp=>?_,λr h j p hp=>?_⟩
 all_goals obtain ⟨k,kn,kc,rfl⟩:=hr r h
 ·rfl
 ·exact ((WU kn kc).1 p hp).1
 ·exact ((WU kn kc).1 p hp).2
 ·exact (WU kn kc).2 j p hp
theorem mW {a b c d:Crv} (ha:Sc a) (hb:Sc b) (hc:Sc c) (hd:Sc d):Cp (JD a b c d):=by
 obtain ⟨h1,h2,h3⟩:=TL 4 [2,2,4,0] (jJ a b c d) (by decide) rfl (by decide) (wZ ha.n hb.n hc.n hd.n ha.c hb.c hc.c hd.c);exact ⟨h1,Qc h3 (by decide),Uv h2 (by decide)⟩
def EV (sg:Ui->Int) (a b c d:Pt):Ct:=⟨4,a.id,b.id,c.id,d.id,JD a.c b.c c.c d.c,G8 sg (JD a.c b.c c.c d.c)⟩
abbrev P3:=Pt×(Pt×Pt)
abbrev P4:=Pt×P3
def Dv:Nat->List Pt->List P3
 | 0,_=>[]
 | _+1,[]=>[]
 | k+1,x::l=>(Gf l).map (λm=>(x,m))++Dv k l
def Re (l:List Pt):List P3:=Dv l.length l
def Lq:Nat->List Pt->List P4
 | 0,_=>[]
 | _+1,[]=>[]
 | k+1,x::l=>(Re l).map (λm=>(x,m))++Lq k l
def Iy (l:List Pt):List P4:=Lq l.length l
theorem JQ:∀ (l:List Pt) (i:Nat) (x:Pt),l[i]? = some x->Dv (i+1) l=Dv i l++(Gf (l.drop (i+1))).map (λm=>(x,m))
 | [],i,x,h=>by simp at h
 | y::l,0,x,h=>by simp at h; subst h; simp [Dv]
 |
  y::l,i+1,x,h=>by
  have ih:=JQ l i x (by simpa using h);show (Gf l).map _++Dv (i+1) l=((Gf l).map _++Dv i l)++_;rw [ih,Q9]; rfl
theorem GK:∀ (l:List Pt) (i:Nat) (x:Pt),l[i]? = some x->Lq (i+1) l=Lq i l++(Re (l.drop (i+1))).map (λm=>(x,m))
 | [],i,x,h=>by simp at h
 | y::l,0,x,h=>by simp at h; subst h; simp [Lq]
 |
  y::l,i+1,x,h=>by
  have ih:=GK l i x (by simpa using h);show (Re l).map _++Lq (i+1) l=((Re l).map _++Lq i l)++_;rw [ih,Q9]; rfl
theorem BC:∀ (k:Nat) (l:List Pt),∀ m∈Dv k l,m.1∈l/\m.2.1∈l/\m.2.2∈l
 | 0,l,m,h=>by simp [Dv] at h
 | k+1,[],m,h=>by simp [Dv] at h
 |
  k+1,x::l,m,h=>by
  rcases Qr.1 h with h | h
  ·obtain ⟨y,hy,rfl⟩:=Zg.1 h;obtain ⟨h1,h2⟩:=Tw _ _ y hy;exact ⟨Qw ..,Qg _ h1,Qg _ h2⟩
  ·obtain ⟨h1,h2,h3⟩:=BC k l m h;exact ⟨Qg _ h1,Qg _ h2,Qg _ h3⟩
theorem kK:∀ (k:Nat) (l:List Pt),∀ m∈Lq k l,m.1∈l/\m.2.1∈l/\m.2.2.1∈l/\m.2.2.2∈l
 | 0,l,m,h=>by simp [Lq] at h
 | k+1,[],m,h=>by simp [Lq] at h
 |
  k+1,x::l,m,h=>by
  rcases Qr.1 h with h | h
  ·obtain ⟨y,hy,rfl⟩:=Zg.1 h;obtain ⟨h1,h2,h3⟩:=BC _ _ y hy;exact ⟨Qw ..,Qg _ h1,Qg _ h2,Qg _ h3⟩
  ·obtain ⟨h1,h2,h3,h4⟩:=kK k l m h;exact ⟨Qg _ h1,Qg _ h2,Qg _ h3,Qg _ h4⟩
theorem XL {l:List Pt} (h:l.length<=6):(Re l).length<=20/\(Iy l).length<=15:=by
 match l,h with
 | [],_=>exact ⟨Za rfl,Za rfl⟩
 | [_],_=>exact ⟨Za rfl,Za rfl⟩
 | [_,_],_=>exact ⟨Za rfl,Za rfl⟩
 | [_,_,_],_=>exact ⟨Za rfl,Za rfl⟩
 | [_,_,_,_],_=>exact ⟨Za rfl,Za rfl⟩
 | [_,_,_,_,_],_=>exact ⟨Za rfl,Za rfl⟩
 | [_,_,_,_,_,_],_=>exact ⟨Za rfl,Za rfl⟩
 | _::_::_::_::_::_::_::_,h=>simp at h
abbrev Mv:=List (Ui×LV)
def RH (sg:Ui->Int) (m:P3):Ct:=Dh sg m.1 m.2.1 m.2.2
def UE (sg:Ui->Int) (m:P4):Ct:=EV sg m.1 m.2.1 m.2.2.1 m.2.2.2
def gV (m:P3):Ui:=[m.1.id,m.2.1.id,m.2.2.id]
def Qrm (m:P4):Ui:=[m.1.id,m.2.1.id,m.2.2.1.id,m.2.2.2.id]
def E8 (V:List (Ui×Int)):Mv:=V.foldl (λM e=>D7 M e.1 (.int .i64 e.2)) []
def QJ (sg:Ui->Int) (ps:List P3):List (Ui×Int):=ps.map λm=>(gV m,(RH sg m).want)
def JF (sg:Ui->Int) (ps:List P4):List (Ui×Int):=ps.map λm=>(Qrm m,(UE sg m).want)
theorem sY (sg:Ui->Int) (ps:List P3) (m:P3):E8 (QJ sg (ps++[m]))=D7 (E8 (QJ sg ps)) (gV m) (.int .i64 (RH sg m).want):=by simp [E8,QJ]
def Ic (T:Mv) (s:Int) (n:Ui) (F:Mv) (skip:Nat):Mv:=if QZ T (n.eraseIdx skip)*(if (3-skip) % 2=1 then -s else s)>0 then D7 F (n.eraseIdx skip) (.bool true) else F
def LY (T:Mv) (s:Int) (n:Ui) (F:Mv):Mv:=Ic T s n (Ic T s n (Ic T s n (Ic T s n F 0) 1) 2) 3
def Ig (T:Mv) (V:List (Ui×Int)):Mv:=V.foldl (λF e=>LY T e.2 e.1 F) []
theorem fE (sg:Ui->Int) (T:Mv) (ps:List P4) (m:P4):Ig T (JF sg (ps++[m]))=LY T (UE sg m).want (Qrm m) (Ig T (JF sg ps)):=by simp [Ig,JF]
def OY (T F:Mv) (m:P3):Bool:=decide (QZ T (gV m)≠0) && !(SO F (gV m))
theorem Qn4 {T F:Mv} {ps:List P3} {m:P3} (h:OY T F m=true):(ps++[m]).filter (OY T F)=ps.filter (OY T F)++[m]:=by simp [Vi,h]
theorem Qcd {T F:Mv} {ps:List P3} {m:P3} (h:OY T F m=false):(ps++[m]).filter (OY T F)=ps.filter (OY T F):=by simp [Vi,h]
def yL (sg:Ui->Int) (l:List Pt):List Ct:=(Re (Rw l)).map (RH sg)++(Iy (Rw l)).map (UE sg)
def yE (sg:Ui->Int) (l:List Pt):List P3:=(Re (Rw l)).filter (OY (E8 (QJ sg (Re (Rw l)))) (Ig (E8 (QJ sg (Re (Rw l)))) (JF sg (Iy (Rw l)))))
abbrev trL (m:P3):Un:=[.int .i64 m.1.id,.int .i64 m.2.1.id,.int .i64 m.2.2.id]
def VF (l:List P3):Uo:=l.map trL
theorem wH (l:List P3):(VF l).length=l.length:=by simp [VF]
theorem eO (sg:Ui->Int) {l:List Pt} (h:l.length<=6):(yE sg l).length<=20:=by
 have hw:=I2 l;exact Qc (Y0 _ _) (XL (l:=Rw l) (by omega)).1
theorem eA (sg:Ui->Int) {l:List Pt} (h:l.length<=6):(yL sg l).length<=35:=by
 have hw:=I2 l;obtain ⟨h1,h2⟩:=XL (l:=Rw l) (by omega);unfold yL;rw [Q0,Zl,Zl]; omega
def wI (l:List Pt) (a:Tm):List Ct:=yL (Fg a) l
abbrev dB (l:List Pt) (a:Tm):Uo:=VF (yE (Fg a) l)
def dT (l:List Pt):Uj:=(Re (Rw l)).map (λm=>G0 m.1.c m.2.1.c m.2.2.c)++(Iy (Rw l)).map λm=>JD m.1.c m.2.1.c m.2.2.1.c m.2.2.2.c
theorem AB {l:List Pt} (hl:∀ p∈l,Sc p.c):∀ p∈dT l,Cp p:=λp hp=>by
 have hw:=λ(x:Pt) (h:x∈Rw l)=>hl x (Mn h)
 rcases Qr.1 hp with hp | hp
 ·obtain ⟨m,hm,rfl⟩:=Zg.1 hp;obtain ⟨h1,h2,h3⟩:=BC _ _ m hm;exact XV (hw _ h1) (hw _ h2) (hw _ h3)
 ·obtain ⟨m,hm,rfl⟩:=Zg.1 hp;obtain ⟨h1,h2,h3,h4⟩:=kK _ _ m hm;exact mW (hw _ h1) (hw _ h2) (hw _ h3) (hw _ h4)
theorem AL {l:List Pt} {a:Tm}:∀ x∈wI l a,x.p∈dT l:=λx hx=>by
 rcases Qr.1 hx with hx | hx
 ·obtain ⟨m,hm,rfl⟩:=Zg.1 hx;exact Xu _ (Zg.2 ⟨m,hm,rfl⟩)
 ·obtain ⟨m,hm,rfl⟩:=Zg.1 hx;exact X1 _ (Zg.2 ⟨m,hm,rfl⟩)
theorem iP {l:List Pt} (h:l.length<=6):(dT l).length<=1000000:=by
 have hw:=I2 l;obtain ⟨h1,h2⟩:=XL (l:=Rw l) (by omega);unfold dT;rw [Q0,Zl,Zl]; omega
theorem uW {l:List Pt} (hl:∀ p∈l,Sc p.c) (hn:l.length≤6):BuildOk (wI l) :=
 ⟨λ_ _ x hx=>AB hl _ (AL x hx),λa _=>Qc (eA _ hn) (by decide)⟩
theorem Qr7 {l:List Pt} (hl:∀ p∈l,Sc p.c) (hn:l.length≤6):Stab (wI l) (dB l):=by
 refine ⟨uW hl hn,⟨dT l,AB hl,λa _=>AL⟩,λa b _ _ h=>?_⟩;have e1:∀ m∈Re (Rw l),RH (Fg b) m=RH (Fg a) m:=λm hm=>by
  have:=h (RH (Fg a) m) (Xu _ (Zg.2 ⟨m,hm,rfl⟩));have e:G8 (Fg b) (G0 m.1.c m.2.1.c m.2.2.c)=G8 (Fg a) (G0 m.1.c m.2.1.c m.2.2.c):=this;unfold RH Dh; rw [e]
 have e2:∀ m∈Iy (Rw l),UE (Fg b) m=UE (Fg a) m:=λm hm=>by
  have:=h (UE (Fg a) m) (X1 _ (Zg.2 ⟨m,hm,rfl⟩));have e:G8 (Fg b) (JD m.1.c m.2.1.c m.2.2.1.c m.2.2.2.c)=G8 (Fg a) (JD m.1.c m.2.1.c m.2.2.1.c m.2.2.2.c):=this;unfold UE EV; rw [e]
 have t1:QJ (Fg b) (Re (Rw l))=QJ (Fg a) (Re (Rw l)):=Xz λm hm=>by rw [e1 m hm]
 have t2:JF (Fg b) (Iy (Rw l))=JF (Fg a) (Iy (Rw l)):=Xz λm hm=>by rw [e2 m hm]
 constructor
 ·unfold wI yL;rw [Xz e1,Xz e2]
 ·unfold dB yE;rw [t1,t2]
def Qqo (l:List Pt) (a:Tm):Cr:=⟨a,(Fj (wI l a)).map fresh,0⟩
def zN (M:Mv):Prop:=∀ k,(Ej M k).getD (.int .i64 0)=.int .i64 (QZ M k)/\-1<=QZ M k/\QZ M k<=1
def JH (M:Mv):Prop:=∀ k,(Ej M k).getD (.bool false)=.bool (SO M k)
theorem LA (M:Mv) (k:Ui) (x:LV) (k':Ui):Ej (D7 M k x) k'=if k'=k then some x else Ej M k':=by
 induction M with
 | nil=>simp [D7,Ej]
 |
  cons e M ih =>
  simp only [D7];by_cases h:k=e.1
  ·rw [if_pos h];simp only [Ej];by_cases h2:k'=k
   ·rw [if_pos h2,if_pos h2]
   ·rw [if_neg h2,if_neg h2,if_neg (λe2=>h2 (e2.trans h.symm))]
  ·rw [if_neg h];simp only [Ej];by_cases h2:k'=e.1
   ·rw [if_pos h2,if_pos h2,if_neg (λe2=>h (e2.symm.trans h2))]
   ·rw [if_neg h2,if_neg h2,ih]
theorem Qc3:zN []:=λ_=>⟨rfl,show (-1:Int)<=0 by decide,show (0:Int)<=1 by decide⟩
theorem dM:JH []:=λ_=>rfl
theorem Qc4 {M:Mv} (h:zN M) {k:Ui} {n:Int} (hn:-1<=n/\n<=1):zN (D7 M k (.int .i64 n)):=by
 intro k';have h1:=h k';unfold QZ at h1 ⊢;rw [LA];by_cases e:k'=k
 ·rw [if_pos e]; exact ⟨rfl,hn.1,hn.2⟩
 ·rw [if_neg e]; exact h1
theorem dN {M:Mv} (h:JH M) {k:Ui} {b:Bool}:JH (D7 M k (.bool b)):=by
 intro k';have h1:=h k';unfold SO at h1 ⊢;rw [LA];by_cases e:k'=k
 ·rw [if_pos e]; rfl
 ·rw [if_neg e]; exact h1
theorem Ab {T F:Mv} {s:Int} {n:Ui} {k:Nat} (h:JH F):JH (Ic T s n F k):=by
 unfold Ic;generalize (if (3-k) % 2=1 then -s else s)=s'
 split
 ·exact dN h
 ·exact h
theorem uM {T F:Mv} {s:Int} {n:Ui} (h:JH F):JH (LY T s n F):=Ab (Ab (Ab (Ab h)))
theorem aZ {x s:Int} (hx:-1<=x/\x<=1) (hs:-1<=s/\s<=1):-9223372036854775808<=x*s/\x*s<=9223372036854775807:=by
 have h:x=-1\/x=0\/x=1:=by omega
 rcases h with rfl | rfl | rfl <;> omega
structure MOk (M:List Pt):Prop where
 sc:∀ p∈M,Sc p.c
 ln:M.length<=6
 so:Ld M
theorem MOk.df {M:List Pt} (h:MOk M):M.Pairwise λx y=>x.id≠y.id:=h.so.imp λh e=>by omega
structure Knd (β:Type) where
 bc:List Pt->Tm->List Ct
 br:List Pt->Tm->β
 al:List Pt->List (List Int)
structure KndOk {β:Type} (k:Knd β):Prop where
 st:∀ M,MOk M->Stab (k.bc M) (k.br M)
 cp:∀ M,MOk M->∀ p∈k.al M,Cp p
 al:∀ M a,∀ x∈k.bc M a,x.p∈k.al M
 ln:∀ M,MOk M->(k.al M).length<=1000000
abbrev kS:Knd Uo:=⟨JV,zS,Lh⟩
abbrev kT:Knd (Uo×Uo):=⟨zR,dC,Lh⟩
abbrev kH:Knd Uo:=⟨CE,oQ,λl=>Lh l++SN l⟩
abbrev kP:Knd Uo:=⟨dS,brP,BO⟩
abbrev kD:Knd Uo:=⟨wI,dB,dT⟩
theorem SB {l:List Pt} (h:l.length<=6):(Lh l).length<=72:=by
 rw [zA];exact Qc (Q7 h (Q7 h (Ql 2))) (by decide)
theorem KH {α β:Type} {f:α->List β} {n:Nat} (l:List α) (h:∀ x∈l,(f x).length=n):(l.flatMap f).length=l.length*n:=by
 induction l with
 | nil=>simp
 |
  cons x l ih =>
  rw [Jx,Q0,h x (by simp),ih λy hy=>h y (Qg _ hy),Q4,X2]; omega
theorem Qgz (l:List Pt):(SN l).length=l.length*(l.length*l.length):=by
 unfold SN;exact KH l λx _=>KH l λy _=>by simp
theorem Qgx (l:List Pt):(BO l).length=l.length*(l.length*(l.length*l.length)):=by
 unfold BO;exact KH l λx _=>KH l λy _=>KH l λz _=>by simp
theorem okS:KndOk kS:=⟨λM h=>Qsa h.sc (by have:=h.ln; omega) h.df,λM h=>I4 h.sc,λM a=>sC,λM h=>Qc (SB h.ln) (by decide)⟩
theorem okT:KndOk kT:=⟨λM h=>Qsb h.sc (by have:=h.ln; omega) h.df,λM h=>I4 h.sc,λM a=>Qg2,λM h=>Qc (SB h.ln) (by decide)⟩
theorem okH:KndOk kH:=⟨λM h=>Qr8 h.sc (by have:=h.ln; omega) h.df,λM h=>RB h.sc,λM a=>AE,λM h=>by
 have h1:=SB h.ln;have h2:=Qgz M;have h3:M.length*(M.length*M.length)<=6*(6*6):=Q7 h.ln (Q7 h.ln h.ln);show (Lh M++SN M).length<=_;rw [Q0]; omega⟩
theorem okP:KndOk kP:=⟨λM h=>Qr9 h.sc (by have:=h.ln; omega) h.df,λM h=>VN h.sc,λM a=>sB,λM h=>by
 have h3:M.length*(M.length*(M.length*M.length))<=6*(6*(6*6)):=Q7 h.ln (Q7 h.ln (Q7 h.ln h.ln));show (BO M).length<=_;rw [Qgx]; omega⟩
theorem okD:KndOk kD:=⟨λM h=>Qr7 h.sc h.ln,λM h=>AB h.sc,λM a=>AL,λM h=>iP h.ln⟩
open Classical in
noncomputable def cnt (bc:Tm->List Ct) (q t:Rat):Nat:=if h:∃ E,Evs bc t (tq q) E then (Classical.choose h).length else 0
theorem Qbo {β:Type} {Bc:Tm->List Ct} {Br:Tm->β} (S:Stab Bc Br) {q t:Rat} (hq:Va (tq q)) {E:List Tm} (h:Evs Bc t (tq q) E):cnt Bc q t=E.length:=by
 have hx:∃ E,Evs Bc t (tq q) E:=⟨E,h⟩;unfold cnt;rw [dif_pos hx];exact Qn3 S hq (Classical.choose_spec hx) h
structure At {β:Type} (k:Knd β) (M:List Pt) (q:Rat) (c:Cr):Prop where
 now:c.now=tq q
 st:KSt (k.bc M) (k.br M) c (k.br M (tq q))
section
variable {β:Type} {k:Knd β} (ok:KndOk k) {M M':List Pt} {q t:Rat} {c:Cr}
include ok
theorem At.again (h:At k M q c) (hM:MOk M'):∃ ws,Tz c.l c.now (Fj (k.bc M' c.now))=some ws/\At k M' q ⟨tq q,ws,c.ev⟩:=by
 obtain ⟨⟨o,kk⟩,hcs,hr⟩:=h.st;have S:=ok.st M' hM;obtain ⟨ws,l1,l2⟩:=gK o.n o.l (Fj (k.bc M' c.now));have o':=Orr.lay_ok c.ev o o.n (S.ok.p _ o.n) (S.ok.n _ o.n) l1;have hl:=nG o.n o.n (λh=>Aw o.n.cut o.n.cut h h) o.l kk l1;rw [h.now] at o' hl l2;exact ⟨ws,l1,rfl,⟨⟨o',hl⟩,l2,rfl⟩⟩
theorem At.adv (h:At k M q c) (hM:MOk M) (ht:Qs 1640000 t) (hqt:q<=t) :
 ∃ (K:Nat) (c':Cr),K<=67000001/\VP (k.bc M) (k.br M) t K c (k.br M (tq q)) 0=some (c',k.br M (tq t),((cnt (k.bc M) q t:Nat):Int))/\At k M t c'/\c'.ev=c.ev+((cnt (k.bc M) q t:Nat):Int)/\cnt (k.bc M) q t<=67000000/\cnt (k.bc M) q t<=((k.al M).flatMap CN).length:=by
 have S:=ok.st M hM;have hP:=ok.cp M hM;have hm:=qD hP;have hmu:=Ql4 ((k.al M).flatMap CN) c.now;have hl:=ok.ln M hM;have hv:=h.st.inv.ok.n;have hc:Fe c.now t<=0:=by rw [h.now,wW]; rcases Nx q t with ⟨e,e'⟩ | ⟨e,e'⟩ | ⟨e,e'⟩ <;> first | omega | (exfalso; grind)
 obtain ⟨c',r',E,g1,g2,g3,g4,g5,g6⟩:=Qlx S ht hP (λa _=>ok.al M a) (mu ((k.al M).flatMap CN) c.now) c _ 0 (Ql _) h.st λh'=>by
  have:=(UA hv.cut).2 h'; omega
 have hr:r'=k.br M (tq t):=by rw [g3.r,g2]
 rw [hr] at g1 g3;rw [Int.zero_add] at g1;rw [h.now] at g6;have he:=Qbo S (by rw [<-h.now]; exact hv) g6;rw [he];exact ⟨_,c',by omega,g1,⟨g2,g3⟩,g4,by omega,by omega⟩
end
theorem At.begin {β:Type} {k:Knd β} (ok:KndOk k) {M:List Pt} {q:Rat} (hM:MOk M) (hq:Qs 1640000 q):At k M q ⟨tq q,(Fj (k.bc M (tq q))).map fresh,0⟩:=⟨rfl,iO (ok.st M hM) (CB hq)⟩
end Orq
namespace Orr
open Go Go.Proofs Tryz Orq
set_option maxRecDepth 10000
abbrev Tt (c:Cr) (r0:Uo) (r1:Uo×Uo):Un:=.bool true::pl c.now.p::sg c.now.lo.num::mg c.now.lo.num::sg (c.now.lo.den:Int)::mg (c.now.lo.den:Int)::sg c.now.hi.num::mg c.now.hi.num::sg (c.now.hi.den:Int)::mg (c.now.hi.den:Int)::.row (B5 c.l)::.int .i64 c.ev::[.row r0,.row r1.1,.row r1.2]
abbrev Qns (r0:LV) (r1:LV×LV):Un:=[.bool false,.nils,.bool false,.nils,.bool false,.nils,.bool false,.nils,.bool false,.nils,.nils,.int .i64 0,r0,r1.1,r1.2]
theorem uI {T:Nat} {c:Cr} {r0:Uo} {r1:Uo×Uo} (hc:Va c.now):Uz prog 376 [.one (.ow 0 0)] [.blk T (Tt c r0 r1)] [.agg (ta c.now)] [.blk T (Tt c r0 r1)]:=by
 have cl:=Sj (b:=c.now) (l:=[]) hc.tb (λt ht=>by cases ht) (by decide) rfl;refine Gb func376 rfl ?_;exact Ud [] [0] [.f rfl,.k cl] rfl
theorem Qho {T:Nat} {c:Cr} {r0:Uo} {r1:Uo×Uo} {x:Ct} {at_:Tm} {w:Wt} (hc:CrOk c) (hx:Cp x.p) (ha:Va at_) (h:Ba c.l x at_=some w):Uz prog 195 [.one (.ow 0 0),.agg (D3 x),.agg (ta at_)] [.blk T (Tt c r0 r1)] [.agg (wl w)] [.blk T (Tt c r0 r1)]:=by
 have hk:=hc.k;have hw:=Ts c.l;refine Gb func195 rfl ?_;refine W9 [] rfl ?_;refine Ue (S:=Nat) 4 (λL1 i=>(14,.v (.oi i))::L1) (λ_=>[.blk T (Tt c r0 r1),.blk 126 (D3 x),.blk 189 (ta at_),.blk 291 [.int .i64 0,.int .i64 0,.int .i64 0,.int .i64 0,.int .i64 0,.nils,.int .i64 0,.bool false,.bool false,.nils,.bool false,.nils,.bool false,.nils,.bool false,.nils,.bool false,.nils]]) (λi=>c.l.length-i) (λi=>i<=c.l.length/\Ba (c.l.drop i) x at_=some w) 0 ⟨Qi _,h⟩ rfl rfl λi ⟨hi,hf⟩=>?_
 by_cases hlt:i<c.l.length
 ·obtain ⟨v,hv⟩:=gxE (l:=c.l) (i:=i) hlt;have hdr:c.l.drop i=v::c.l.drop (i+1):=by
   rw [Zp hlt]; congr 1;have:=Qf hlt; rw [hv] at this; injection this with this; exact this.symm
  have hvo:=hc.l v (Qa hv);rw [hdr] at hf;simp only [Ba] at hf;have hl:decide ((i:Int)<((B5 c.l).length:Int))=true:=by simp [hw]; omega
  by_cases A:kC v.c x=true
  ·have A':(!decide ([v.c.kind,v.c.i0,v.c.i1,v.c.i2,v.c.i3]=[x.kind,x.i0,x.i1,x.i2,x.i3]))=false:=by
    unfold kC at A; rw [A]; rfl
   by_cases B:v.known=true
   ·have B':(!v.known)=false:=by rw [B]; rfl
    have cs:=RA (p:=v.c.p) (q:=x.p) (Dp.pb hvo.p.dp).ln (Dp.pb hx.dp).ln (Dp.pb hvo.p.dp).bd (Dp.pb hx.dp).bd;rw [hvo.p.t,hx.t] at cs;by_cases C:v.c.p=x.p
    ·have C':(!decide (v.c.p=x.p))=false:=by simp [C]
     rw [if_pos ⟨A,B,C⟩] at hf;obtain ⟨vc,vk,vf⟩:=v;cases vf with
     |
      none =>
      injection hf with hf; subst hf;exact Ud [] [0] [.t hl,.x (Hn hv),.g 24 false A',.g 29 false B',.k cs,.f C',.g 41 true rfl,.t rfl] rfl
     |
      some t =>
      obtain ⟨r,r1',hf⟩:=Qd.1 hf;have cc:=YZ (hvo.f t rfl).tb ha.tb r1';by_cases D:0<r
      ·rw [if_pos D] at hf;injection hf with hf; subst hf;exact Ud [] [0] [.t hl,.x (Hn hv),.g 24 false A',.g 29 false B',.k cs,.f C',.g 41 false rfl,.k cc,.t (by simpa using D)] rfl
      ·rw [if_neg D] at hf;refine Ua [.t hl,.x (Hn hv),.g 24 false A',.g 29 false B',.k cs,.f C',.g 41 false rfl,.k cc,.f (by simpa using D)] rfl ?_;exact rd (i+1) (by omega) ⟨hlt,hf⟩ rfl
    ·rw [if_neg λh=>C h.2.2] at hf;refine Ua [.t hl,.x (Hn hv),.g 24 false A',.g 29 false B',.k cs,.t (by simp [C])] rfl ?_;exact rd (i+1) (by omega) ⟨hlt,hf⟩ rfl
   ·rw [if_neg λh=>B h.2.1] at hf;refine Ua [.t hl,.x (Hn hv),.g 24 false A',.g 29 true (by simpa using B),.t rfl] rfl ?_;exact rd (i+1) (by omega) ⟨hlt,hf⟩ rfl
  ·rw [if_neg λh=>A h.1] at hf;refine Ua [.t hl,.x (Hn hv),.g 24 true (by rw [show decide ([v.c.kind,v.c.i0,v.c.i1,v.c.i2,v.c.i3]=[x.kind,x.i0,x.i1,x.i2,x.i3])=false from Wn.2 A]; rfl),.g 29 true rfl,.t rfl] rfl ?_;exact rd (i+1) (by omega) ⟨hlt,hf⟩ rfl
 ·obtain rfl:i=c.l.length:=by omega
  rw [Ys] at hf;simp only [Ba] at hf;injection hf with hf; subst hf;exact Ud [] [0] [.f (by simp [hw])] rfl
theorem pF {T:Nat} {c:Cr} {r0:Uo} {r1:Uo×Uo} {at_:Tm} {l:List Ct} {ws:List Wt} (hc:CrOk c) (ha:Va at_) (hl:∀ x∈l,Cp x.p) (hn:l.length≤1000) (h:Tz c.l at_ (Fj l)=some ws):Uz prog 161 [.one (.ow 0 0),.agg (ta at_),.one (.bool true),.one (.row (Fc l))] [.blk T (Tt c r0 r1)] [] [.blk T (Tt ⟨at_,ws,c.ev⟩ r0 r1)]:=by
 have cs:=IZ (l:=l) (λx hx=>Dp.pb (hl x hx).dp) (by omega);have cl:=Sj (b:=at_) (l:=[]) ha.tb (λt ht=>by cases ht) (by decide) rfl;obtain ⟨h1,h2⟩:=QE h;have hs:(Fj l).length=l.length:=Ck l;refine Gb func161 rfl ?_;refine W9 [.o 8 291 18,.k cs] rfl ?_;refine Ue (S:=Nat) 3 (λL1 i=>(15,.v (.oi i))::(8,.v (.one (.orow 2 18 none)))::L1) (λi=>[.blk T (Tt c r0 r1),.blk 189 (ta at_),.row false 291 18 (B5 (ws.take i))]) (λi=>ws.length-i) (λi=>i<=ws.length) 0 (Qi _) rfl rfl λi hi=>?_
 by_cases hlt:i<ws.length
 ·obtain ⟨x,hx⟩:=gxE (l:=(Fj l)) (i:=i) (by omega);obtain ⟨w,hw,hw'⟩:=h2 i x hx;have hm:∀ y∈[wl w],y.length=18:=λy hy=>by rw [Qj.1 hy]; rfl
  have hlt':decide ((i:Int)<((Fc (Fj l)).length:Int))=true:=by simp [Fc]; omega
  have ck:=Qho (T:=T) (r0:=r0) (r1:=r1) hc (hl x (XA (Qa hx))) ha hw;have hg:=L9 hw';obtain ⟨wc,wk,wf⟩:=w;cases wf <;> (refine go tt [.t hlt',.x (YF hx),.t rfl,.c [0] ck,.s (sz:=18) hm] rfl (by simp [Uw,Ts]; omega) ?_; exact rd (i+1) (by omega) hlt (by rw [hg]; rfl))
 ·obtain rfl:i=ws.length:=by omega
  rw [Q6];have hge:decide ((ws.length:Int)<((Fc (Fj l)).length:Int))=false:=by simp [Fc]; omega
  exact Ud [] [0] [.f hge,.p 2,.k cl] rfl
theorem Qhp {T:Nat} {r0:Uo} {r1:Uo×Uo} {at_:Tm} {l:List Ct} (ha:Va at_) (hl:∀ x∈l,Cp x.p) (hn:l.length≤1000):Uz prog 161 [.one (.ow 0 0),.agg (ta at_),.one (.bool false),.one (.row (Fc l))] [.blk T (Qns (.row r0) (.row r1.1,.row r1.2))] [] [.blk T (Tt ⟨at_,(Fj l).map fresh,0⟩ r0 r1)]:=by
 have cs:=IZ (l:=l) (λx hx=>Dp.pb (hl x hx).dp) (by omega);have cl:=Sj (b:=at_) (l:=[]) ha.tb (λt ht=>by cases ht) (by decide) rfl;have hs:(Fj l).length=l.length:=Ck l;refine Gb func161 rfl ?_;refine W9 [.o 8 291 18,.k cs] rfl ?_;refine Ue (S:=Nat) 3 (λL1 i=>(15,.v (.oi i))::(8,.v (.one (.orow 2 18 none)))::L1) (λi=>[.blk T (Qns (.row r0) (.row r1.1,.row r1.2)),.blk 189 (ta at_),.row false 291 18 (B5 (((Fj l).map fresh).take i))]) (λi=>l.length-i) (λi=>i<=l.length) 0 (Qi _) rfl rfl λi hi=>?_
 by_cases hlt:i<l.length
 ·obtain ⟨x,hx⟩:=gxE (l:=(Fj l)) (i:=i) (by omega);have hm:∀ y∈[wl (fresh x)],y.length=18:=λy hy=>by rw [Qj.1 hy]; rfl
  have hlt':decide ((i:Int)<((Fc (Fj l)).length:Int))=true:=by simp [Fc]; omega
  have hg:=L9 (l:=(Fj l).map fresh) (i:=i) (w:=fresh x) (by rw [Zw,hx]; rfl);refine go tt [.t hlt',.x (YF hx),.z 20,.f rfl,.s (sz:=18) hm] rfl (by simp [Uw,Ts]; omega) ?_;exact rd (i+1) (by omega) hlt (by rw [hg]; rfl)
 ·obtain rfl:i=l.length:=by omega
  rw [Qo (by simp; omega)];have hge:decide ((l.length:Int)<((Fc (Fj l)).length:Int))=false:=by simp [Fc]; omega
  exact Ud [] [0] [.f hge,.p 2,.k cl] rfl
theorem lJ {T:Nat} {r0:Uo} {r1:Uo×Uo} {at_:Tm} {l:List Ct} (ha:Va at_) (hl:∀ x∈l,Cp x.p) (hn:l.length≤1000):Uz prog 121 [.one (.ow 0 0),.agg (ta at_),.one (.row (Fc l))] [.blk T (Qns (.row r0) (.row r1.1,.row r1.2))] [] [.blk T (Tt ⟨at_,(Fj l).map fresh,0⟩ r0 r1)]:=by
 have cl:=Qhp (T:=T) (r0:=r0) (r1:=r1) ha hl hn;refine Gb func121 rfl ?_;exact Ud [] [0] [.g 12 false rfl,.c [0] cl] rfl
theorem lV {T:Nat} {c:Cr} {r0:Uo} {r1:Uo×Uo} {at_:Tm} {l:List Ct} {ws:List Wt} {k:Int} (hc:CrOk c) (ha:Va at_) (hk:KZ at_ c.now=some k) (h0:0≤k) (hl:∀ x∈l,Cp x.p) (hn:l.length≤1000) (h:Tz c.l at_ (Fj l)=some ws):Uz prog 121 [.one (.ow 0 0),.agg (ta at_),.one (.row (Fc l))] [.blk T (Tt c r0 r1)] [] [.blk T (Tt ⟨at_,ws,c.ev⟩ r0 r1)]:=by
 have cl:=pF (T:=T) (r0:=r0) (r1:=r1) hc ha hl hn h;have cc:=YZ ha.tb hc.n.tb hk;refine Gb func121 rfl ?_;exact Ud [] [0] [.g 12 true rfl,.k cc,.r 20 (eB (show decide (0<=k)=true by simpa using h0)),.c [0] cl] rfl
theorem Qhq {T:Nat} {c:Cr} {r0:Uo} {r1:Uo×Uo} {ws:List Wt} (hc:CrOk c) (h:Ii c.now c.l=some ws):Uz prog 371 [.one (.ow 0 0)] [.blk T (Tt c r0 r1)] [] [.blk T (Tt { c with l:=ws } r0 r1)]:=by
 have hk:=hc.k;have hw:=Ts c.l;obtain ⟨h1,h2⟩:=XS h;refine Gb func371 rfl ?_;refine W9 [.o 2 291 18,.c [0] (uI hc.n)] rfl ?_;refine Ue (S:=Nat) 3 (λL1 i=>(13,.v (.oi i))::(2,.v (.one (.orow 1 18 none)))::L1) (λi=>[.blk T (Tt c r0 r1),.row false 291 18 (B5 (ws.take i)),.blk 189 (ta c.now)]) (λi=>c.l.length-i) (λi=>i<=c.l.length) 0 (Qi _) rfl rfl λi hi=>?_
 by_cases hlt:i<c.l.length
 ·obtain ⟨w,hx⟩:=gxE (l:=c.l) (i:=i) hlt;obtain ⟨v,hv,h3⟩:=h2 i w hx;have hm:∀ y∈[wl v],y.length=18:=λy hy=>by rw [Qj.1 hy]; rfl
  have hg:=L9 hv;have hl:decide ((i:Int)<((B5 c.l).length:Int))=true:=by simp [hw]; omega
  rcases h3 with ⟨k1,rfl⟩ | ⟨k1,r,k2,rfl⟩
  ·obtain ⟨vc,vk,vf⟩:=v;cases vf <;> (refine go tt [.t hl,.x (Hn hx),.f (by rw [show vk=true from k1]; rfl),.s (sz:=18) hm] rfl (by simp [Uw,Ts]; omega) ?_; exact rd (i+1) (by omega) hlt (by rw [hg]; rfl))
  ·have cg:=xK (hc.l w (Qa hx)).p hc.n k2;obtain ⟨wc,wk,wf⟩:=w;cases r <;> cases wf <;> (refine go tt [.t hl,.x (Hn hx),.t (by rw [show wk=false from k1]; rfl),.k cg,.s (sz:=18) hm] rfl (by simp [Uw,Ts]; omega) ?_; exact rd (i+1) (by omega) hlt (by rw [hg]; rfl))
 ·obtain rfl:i=c.l.length:=by omega
  rw [<-h1,Q6];exact Ud [1] [0] [.f (by simp [hw,h1])] rfl
theorem Qhr {T:Nat} {c:Cr} {r0:Uo} {r1:Uo×Uo} {ws:List Wt} {r:Option Tm} (hc:CrOk c) (h:Ii c.now c.l=some ws) (hr:CS ws=some r):Uz prog 377 [.one (.ow 0 0)] [.blk T (Tt c r0 r1)] [.agg (ota r),.one (.bool r.isSome)] [.blk T (Tt { c with l:=ws } r0 r1)]:=by
 have hcl:=Qhq (T:=T) (r0:=r0) (r1:=r1) hc h;have hc':=Lm hc h;have hk:=hc'.k;have hw:=Ts ws;have hvb:∀ t∈ws.filterMap (·.fails),Tb t:=λt ht=>by
  obtain ⟨w,w1,w2⟩:=Jf.1 ht;exact ((hc'.l w w1).f t w2).tb
 refine Gb func377 rfl ?_;refine W9 [.c [0] hcl,.o 4 189 9] rfl ?_;refine Ue (S:=Nat) 3 (λL1 i=>(14,.v (.oi i))::(4,.v (.one (.orow 2 9 none)))::L1) (λi=>[.blk T (Tt { c with l:=ws } r0 r1),.blk 189 zTm,.row false 189 9 (tal ((ws.take i).filterMap (·.fails)))]) (λi=>ws.length-i) (λi=>i<=ws.length) 0 (Qi _) rfl rfl λi hi=>?_
 by_cases hlt:i<ws.length
 ·obtain ⟨w,hx⟩:=gxE (l:=ws) (i:=i) hlt;have hl:decide ((i:Int)<((B5 ws).length:Int))=true:=by simp [hw]; omega
  have hfl:((ws.take i).filterMap (·.fails)).length<=i:=Qc (Vd _ _) (by rw [Qu]; omega);have hg:(ws.take (i+1)).filterMap (·.fails)=(ws.take i).filterMap (·.fails)++(match w.fails with | none=>[] | some t=>[t]):=by
   rw [Z5,hx,List.filterMap_append];show _++List.filterMap (·.fails) [w]=_;cases hwf:w.fails <;> simp [hwf]
  obtain ⟨wc,wk,wf⟩:=w;have hk:ws.length<=1000:=hk;cases wf with
  |
   none =>
   refine Ua [.t hl,.x (Hn hx),.f rfl] rfl ?_;exact rd (i+1) (by omega) hlt (by rw [hg]; simp; rfl)
  |
   some t =>
   refine Ua [.t hl,.x (Hn hx),.t rfl,.s (l:=[ta t]) (sz:=9) (λc hc=>by rw [Qj.1 hc]; rfl)] rfl ?_;exact rd (i+1) (by omega) hlt (by rw [hg]; simp [tal]; rfl)
 ·obtain rfl:i=ws.length:=by omega
  rw [Q6];have hf:decide ((ws.length:Int)<((B5 ws).length:Int))=false:=by simp [hw]
  have hln:(ws.filterMap (·.fails)).length<=1000:=Qc (Vd _ _) hk;unfold CS at hr;cases hfm:ws.filterMap (·.fails) with
  |
   nil =>
   rw [hfm] at hr;injection hr with hr; subst hr;exact Ud [] [0] [.f hf,.p 2,.k xU] rfl
  |
   cons b l =>
   rw [hfm] at hr hvb hln;obtain ⟨m,m1,rfl⟩:=Yw.1 hr;have cl:=Sj (hvb b (Qw ..)) (λt ht=>hvb t (Qg _ ht)) (by simp at hln; omega) m1;exact Ud [] [0] [.f hf,.p 2,.k cl] rfl
theorem Qq4 {T:Nat} {t:Rat} {Bc:Tm->List Ct} {Br:Tm->Uo×Uo} {r0:Uo} (ht:Qs 1640000 t) (hB:BuildOk Bc)
 (hb:∀ a c r1,Va a->CrOk c->Uz prog 123 [.one (.ow 0 0),.agg (ta a)] [.blk T (Tt c r0 r1)] [.one (.row (Fc (Bc a)))] [.blk T (Tt c r0 (Br a))])
 {K:Nat} {c c':Cr} {r1 r1':Uo×Uo} {n:Int} (hc:CrOk c) (hev:0<=c.ev/\c.ev+K<=1000000000000000000) (h:Fe c.now t<=0) (hg:VP Bc Br t K c r1 0=some (c',r1',n)) :
 Uz prog 372 [.one (.ow 0 0),.agg (rl t),.one (.ofn 123 [.ow 0 0] [])] [.blk T (Tt c r0 r1)] [.oi n,.oi 0] [.blk T (Tt c' r0 r1')]:=by
 have qt:Qb t:=ht.mono (by decide);have c1:=Cc hc.n.tb qt;refine Gb func372 rfl ?_;refine W9 [.c [0] (uI hc.n),.k c1,.f (by simpa using h)] rfl ?_;refine Ue (S:=Nat×Cr×(Uo×Uo)×Int) 2 (λL1 s=>(8,.v (.oi s.2.2.2))::L1) (λs=>[.blk T (Tt s.2.1 r0 s.2.2.1),.blk 43 (rl t)]) (λs=>s.1) (λs=>CrOk s.2.1/\(0<=s.2.1.ev/\s.2.1.ev+s.1<=1000000000000000000)/\(0<=s.2.2.2/\s.2.2.2+s.1<=1000000000000000000)/\VP Bc Br t s.1 s.2.1 s.2.2.1 s.2.2.2=some (c',r1',n)) (K,c,r1,0) ⟨hc,hev,⟨Int.le_refl 0,by dsimp only; omega⟩,hg⟩ rfl rfl λ⟨k,x,r,m⟩ ⟨j1,j2,j3,j4⟩=>?_
 dsimp only at j1 j2 j3 j4 ⊢;cases k with
 | zero=>cases j4
 |
  succ k =>
  simp only [VP] at j4;obtain ⟨ws,w1,j4⟩:=Qd.1 j4;obtain ⟨o,o1,j4⟩:=Qd.1 j4;have cn:=Qhr (T:=T) (r0:=r0) (r1:=r) j1 w1 o1;have ca:=JS (Uu t.num) (Uu (t.den:Int)) (Qc ht.1 (by decide)) (Qc ht.2 (by decide)) (by rw [Sw]; exact ht.mono (by decide));rw [Sw] at ca;cases o with
  |
   none =>
   injection j4 with j4; injection j4 with e1 j4; injection j4 with e2 e3;subst e1; subst e2; subst e3;exact Ud [] [0] [.c [0] cn,.g 25 true rfl,.t rfl,.k ca] rfl
  |
   some a =>
   have ha:=NR j1 w1 o1;dsimp only at j4;have cc:=Cc ha.tb qt;by_cases h0:0<Fe a t
   ·rw [if_pos h0] at j4;injection j4 with j4; injection j4 with e1 j4; injection j4 with e2 e3;subst e1; subst e2; subst e3;exact Ud [] [0] [.c [0] cn,.g 25 false rfl,.k cc,.t (by simpa using h0),.k ca] rfl
   ·rw [if_neg h0] at j4;obtain ⟨w2,l1,j4⟩:=Qd.1 j4;have j1':=Lm j1 w1;have cl:=Sj (b:=a) (l:=[]) ha.tb (λt ht=>by cases ht) (by decide) rfl;have cb:=hb a { x with l:=ws } r ha j1';have cy:=pF (T:=T) (r0:=r0) (r1:=Br a) j1' ha (hB.p a ha) (hB.n a ha) l1;have hf:decide (0<Fe a t)=false:=by simpa using h0
    refine Ua [.c [0] cn,.g 25 false rfl,.k cc,.f hf,.k cl,.c [0] cb,.c [0] cy] rfl ?_;exact rd (k,⟨a,w2,x.ev+1⟩,Br a,m+1) (by dsimp only; omega) ⟨lay_ok _ j1' ha (hB.p a ha) (hB.n a ha) l1,by dsimp only; omega,by dsimp only; omega,j4⟩ rfl
theorem lK {T:Nat} {c:Cr} {r0:Uo} {r1:Uo×Uo}:Uz prog 368 [.one (.ow 0 0)] [.blk T (Tt c r0 r1)] [.oi c.ev] [.blk T (Tt c r0 r1)]:=by
 refine Gb func368 rfl ?_;exact Ud [] [0] [] rfl
end Orr
namespace Orr
open Go Go.Proofs Tryz Orq
def Of (k:Crv):Int:=max (max 0 ((k.x.length:Int)-1)) ((k.y.length:Int)-1)
structure Es where
 np:Int
 nd:Int
 M:List Pt
 q:Rat
 s:Cr
 t:Cr
 h:Cr
 p:Cr
 d:Cr
structure Em where
 np:Int
 nd:Int
 M:List Pt
 q:Rat
 s:Int
 t:Int
 h:Int
 p:Int
 d:Int
def Es.m (E:Es):Em:=⟨E.np,E.nd,E.M,E.q,E.s.ev,E.t.ev,E.h.ev,E.p.ev,E.d.ev⟩
structure MEn (np nd:Int) (M:List Pt):Prop where
 m:MOk M
 len:(M.length:Int)<=np
 deg:∀ p∈M,Of p.c≤nd
 id:∀ p∈M,0≤p.id/\p.id≤1048576
structure EOk (b:Int) (E:Es):Prop where
 np:1<=E.np/\E.np<=6
 nd:0<=E.nd/\E.nd<=2
 m:MEn E.np E.nd E.M
 q:Qs 128 E.q
 s:At kS E.M E.q E.s
 t:At kT E.M E.q E.t
 h:At kH E.M E.q E.h
 p:At kP E.M E.q E.p
 d:At kD E.M E.q E.d
 es:0<=E.s.ev/\E.s.ev<=b
 et:0<=E.t.ev/\E.t.ev<=b
 eh:0<=E.h.ev/\E.h.ev<=b
 ep:0<=E.p.ev/\E.p.ev<=b
 ed:0<=E.d.ev/\E.d.ev<=b
theorem EOk.mono {b c:Int} {E:Es} (h:EOk b E) (hb:b<=c):EOk c E:={ h with es:=⟨h.es.1,by have:=h.es.2; omega⟩,et:=⟨h.et.1,by have:=h.et.2; omega⟩,eh:=⟨h.eh.1,by have:=h.eh.2; omega⟩,ep:=⟨h.ep.1,by have:=h.ep.2; omega⟩,ed:=⟨h.ed.1,by have:=h.ed.2; omega⟩ }
abbrev enR (k:Nat) (q:Rat):Un:=[.ow (k+1) 0,sg q.num,mg q.num,sg (q.den:Int),mg (q.den:Int),.ow (k+2) 0,.ow (k+3) 0,.ow (k+4) 0,.ow (k+5) 0,.ow (k+6) 0]
abbrev taR (np nd:Int) (M:List Pt):Un:=[.int .i64 np,.int .i64 nd,pts M]
abbrev bS (c:Cr) (M:List Pt) (q:Rat):OB:=.blk 196 (Ho c (Ut M) (zS M (tq q)))
abbrev bT (c:Cr) (M:List Pt) (q:Rat):OB:=.blk 199 (Tt c (Ut M) (dC M (tq q)))
abbrev bH (c:Cr) (M:List Pt) (q:Rat):OB:=.blk 201 (Ho c (Ut M) (oQ M (tq q)))
abbrev bP (c:Cr) (M:List Pt) (q:Rat):OB:=.blk 203 (Ho c (Ut M) (brP M (tq q)))
abbrev bD (c:Cr) (M:List Pt) (q:Rat):OB:=.blk 205 (Ho c (Ut M) (dB M (tq q)))
abbrev enB (k:Nat) (E:Es):Up:=[.blk 88 (enR k E.q),.blk 158 (taR E.np E.nd E.M),bS E.s E.M E.q,bT E.t E.M E.q,bH E.h E.M E.q,bP E.p E.M E.q,bD E.d E.M E.q]
end Orr
namespace Orr
open Go Go.Proofs Tryz Orq
set_option maxRecDepth 10000
theorem qJ {l:List Pt} {id:Int} (h:has l id=true):P6 l id<l.length:=by
 rcases Zd (P6 l id) l.length with h1 | h1
 ·exact h1
 ·simp [has,Qz h1] at h
theorem VO {lx ly:Uo} {px py:Ui} {x y:LV} {d id:Int} {l:List Pt} (hx:IsInts lx px) (hy:IsInts ly py) (hd:Gk x y d) (hk:Cs 4294967294 1073741824 (Crv.mk px py d)) (hl:l.length<=1000000) (h:has l id=true) :
 Uf 375 [.agg [pts l],.agg [.row lx,.row ly,x,y,.int .i64 id]] [.agg [pts (l.set (P6 l id) (Pt.mk (Crv.norm (Crv.mk px py d)) id))],.oi 0]:=by
 have ca:=Qli (l:=l) id (by omega);have cf:=pN hx hy hd hk id;obtain ⟨b,r,rfl,rfl,_⟩:=hd;obtain ⟨q,hq⟩:=nmE (Pt.mk (Crv.norm (Crv.mk px py d)) id);rw [<-hq] at cf ⊢;have hpl:=qJ h;rw [h] at ca;have e:pts (l.set (P6 l id) q)=.row ((l.map U3).set (P6 l id) (U3 q)):=by unfold pts; rw [List.map_set]
 rw [e];exact Uc func375 rfl [.k ca,.f rfl,.s (Ds l),.k cf,.i (P6 l id)] rfl rfl (by simp [Uw]; omega)
end Orr
