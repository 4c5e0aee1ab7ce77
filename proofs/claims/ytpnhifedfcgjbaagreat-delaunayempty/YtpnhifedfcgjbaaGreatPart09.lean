/- R29 R30 MeshN MeshK MD1 MD2 MD3 NewsN MD4 MD5 SC1 MD6 SD1 W1 W2 WR18 WS18 X22 B22 WK22 Z1 Z2 Z3 Z4 Z5 Z6 Z7 R26 CirL HullT HAroL EmpL WE22 ReadN LastN -/
import Derived.Test.YtpnhifedfcgjbaaGreatPart08
import Derived.Test.YtpnhifedfcgjbaaGreatPart00
import Derived.Test.YtpnhifedfcgjbaaGreatPart07
import Derived.Test.YtpnhifedfcgjbaaGreatPart04
import Derived.Deep.Slices
import Derived.ProofKit
import Derived.OpenShut
import Derived.WideKeyArgs
import Derived.SizedLaws
set_option linter.all false
namespace Orr
open Go Go.Proofs Orq
set_option maxRecDepth 10000
def Qbg (k:Crv):List (List Int):=[Uq k.x [k.d],Uq k.y [k.d],Tf (Uq k.x k.x) (Uq k.y k.y),Uq [k.d] [k.d]]
def Dn (a b c d:Crv):List (List (List Int)):=[Qbg a,Qbg b,Qbg c,Qbg d]
def Qcz (a b c d:Crv):List Int:=M3 4 (Dn a b c d)
theorem Qrp {k:Crv} (hk:Rs k):(∀ p∈Qbg k,Bd 300000 p)/\∀ (j:Nat) (p:List Int),(Qbg k)[j]? = some p->p.length≤[15,15,30,0].getD j 0+1:=by
 have bd1:Bd 100000 [k.d]:=Zhg hk.c.d;have l1:=Hu k.x [k.d];have l2:=Hu k.y [k.d];have l3:=Hu k.x k.x;have l4:=Hu k.y k.y;have l5:=Hu [k.d] [k.d];have l6:=Ob (Uq k.x k.x) (Uq k.y k.y);have hx:=hk.c.lx;have hy:=hk.c.ly;have e1:[k.d].length=1:=rfl;have m1:Bd 200005 (Uq k.x [k.d]):=Rx (u:=5) hk.c.x bd1 (by omega);have m2:Bd 200005 (Uq k.y [k.d]):=Rx (u:=5) hk.c.y bd1 (by omega);have m3:Bd 200005 (Uq k.x k.x):=Rx (u:=5) hk.c.x hk.c.x (by omega);have m4:Bd 200005 (Uq k.y k.y):=Rx (u:=5) hk.c.y hk.c.y (by omega);have m5:Bd 200005 (Uq [k.d] [k.d]):=Rx (u:=5) bd1 bd1 (by omega);refine ⟨λp hp=>?_,λj p hp=>?_⟩
 ·simp only [Qbg,Qo,X8,or_false] at hp;rcases hp with rfl | rfl | rfl | rfl
  ·exact Ug m1 (by decide)
  ·exact Ug m2 (by decide)
  ·exact Ug (Qcp m3 m4) (by decide)
  ·exact Ug m5 (by decide)
 ·match j,hp with
  | 0,hp=>injection hp with hp; subst hp; show _<=16; omega
  | 1,hp=>injection hp with hp; subst hp; show _<=16; omega
  | 2,hp=>injection hp with hp; subst hp; show _<=31; omega
  | 3,hp=>injection hp with hp; subst hp; show _<=1; omega
  | j+4,hp=>simp [Qbg] at hp
theorem Qlp {a b c d:Crv} (ha:Rs a) (hb:Rs b) (hc:Rs c) (hd:Rs d):SqR 300000 [15,15,30,0] (Dn a b c d):=by
 have hr:∀ r∈Dn a b c d,∃ k:Crv,Rs k/\r=Qbg k:=λr hr=>by
  simp only [Dn,Qo,X8,or_false] at hr;rcases hr with rfl | rfl | rfl | rfl
  ·exact ⟨a,ha,rfl⟩
  ·exact ⟨b,hb,rfl⟩
  ·exact ⟨c,hc,rfl⟩
  ·exact ⟨d,hd,rfl⟩
 refine ⟨rfl,λr h=>?_,λr h=>?_,λr h=>?_⟩
 all_goals obtain ⟨k,hk,rfl⟩:=hr r h
 ·rfl
 ·exact (Qrp hk).1
 ·exact (Qrp hk).2
theorem Qrk {a b c d:Crv} (ha:Rs a) (hb:Rs b) (hc:Rs c) (hd:Rs d):Bd 1300000 (Qcz a b c d)/\(Qcz a b c d).length<=61:=by
 rcases Qhi 4 [15,15,30,0] (Dn a b c d) rfl (by decide) (Qlp ha hb hc hd) with h | h
 ·exact ⟨Ug h.1 (by decide),h.2.1⟩
 ·omega
theorem Qy2 {a b c d:Crv} (ha:Rs a) (hb:Rs b) (hc:Rs c) (hd:Rs d):Uh Tryz.prog 13 [.agg (B6 a),.agg (B6 b),.agg (B6 c),.agg (B6 d)] [.one (rp (zp (Qcz a b c d)))]:=by
 have cd:=Qvu (by decide) 4 [15,15,30,0] (Dn a b c d) (by decide) rfl (by decide) (Qlp ha hb hc hd);have x0:[B6 a,B6 b,B6 c,B6 d][0]? = some (B6 a):=rfl;have x1:[B6 a,B6 b,B6 c,B6 d][1]? = some (B6 b):=rfl;have x2:[B6 a,B6 b,B6 c,B6 d][2]? = some (B6 c):=rfl;have x3:[B6 a,B6 b,B6 c,B6 d][3]? = some (B6 d):=rfl;have hs1:∀ k:Crv,∀ y∈[[LV.row (zrw (Qbg k))]],y.length=1:=λk y hy=>by rw [Qn.1 hy]; rfl
 have bd1:∀ {k:Crv},Rs k->Bd 100000 [k.d]:=λhk=>Zhg hk.c.d
 have q1:=λ{k:Crv} (hk:Rs k)=>Qbs (p:=k.x) (q:=k.x) (by have:=hk.c.lx; omega) (by have:=hk.c.lx; omega) hk.c.x hk.c.x (by decide)
 have q2:=λ{k:Crv} (hk:Rs k)=>Qbs (p:=k.y) (q:=k.y) (by have:=hk.c.ly; omega) (by have:=hk.c.ly; omega) hk.c.y hk.c.y (by decide)
 have q3:=λ{k:Crv} (hk:Rs k)=>Qbs (p:=k.x) (q:=[k.d]) (by have:=hk.c.lx; omega) (by show 1<=1000000; decide) hk.c.x (bd1 hk) (by decide)
 have q4:=λ{k:Crv} (hk:Rs k)=>Qbs (p:=k.y) (q:=[k.d]) (by have:=hk.c.ly; omega) (by show 1<=1000000; decide) hk.c.y (bd1 hk) (by decide)
 have q5:=λ{k:Crv} (hk:Rs k)=>Qbs (p:=[k.d]) (q:=[k.d]) (by show 1<=1000000; decide) (by show 1<=1000000; decide) (bd1 hk) (bd1 hk) (by decide)
 have q6:=λ{k:Crv} (hk:Rs k)=>Qob (p:=Uq k.x k.x) (q:=Uq k.y k.y) (Ug (Rx (u:=5) hk.c.x hk.c.x (by have:=hk.c.lx; omega)) (by decide)) (Ug (Rx (u:=5) hk.c.y hk.c.y (by have:=hk.c.ly; omega)) (by decide)) (by have:=Hu k.x k.x; have:=hk.c.lx; omega) (by have:=Hu k.y k.y; have:=hk.c.ly; omega)
 refine Ha Tryz.func13 rfl ?_;refine go tt [.o 9 29 1] rfl trivial ?_;refine lp (S:=Nat) 5 (λL1 i=>(22,.v (.one (.int .i64 (i:Int))))::(9,.v (.one (.orow 4 1 none)))::L1) (λi=>[.blk 59 (B6 a),.blk 59 (B6 b),.blk 59 (B6 c),.blk 59 (B6 d),.row false 29 1 (zmt ((Dn a b c d).take i))]) (λi=>4-i) (λi=>i<=4) 0 (by decide) rfl (λ_ _=>rfl) rfl λi hi=>?_
 rcases (show i=0\/i=1\/i=2\/i=3\/i=4 by omega) with rfl | rfl | rfl | rfl | rfl
 ·exact go tt [.t rfl,.x x0,.c [] (Qbt ha),.c [] (q1 ha),.c [] (q2 ha),.c [] (q6 ha),.c [] (q3 ha),.c [] (q4 ha),.c [] (q5 ha),.s (sz:=1) (hs1 a)] rfl (by simp [Uf,zmt,Dn]) (rd 1 (by omega) (by omega) rfl)
 ·exact go tt [.t rfl,.x x1,.c [] (Qbt hb),.c [] (q1 hb),.c [] (q2 hb),.c [] (q6 hb),.c [] (q3 hb),.c [] (q4 hb),.c [] (q5 hb),.s (sz:=1) (hs1 b)] rfl (by simp [Uf,zmt,Dn]) (rd 2 (by omega) (by omega) rfl)
 ·exact go tt [.t rfl,.x x2,.c [] (Qbt hc),.c [] (q1 hc),.c [] (q2 hc),.c [] (q6 hc),.c [] (q3 hc),.c [] (q4 hc),.c [] (q5 hc),.s (sz:=1) (hs1 c)] rfl (by simp [Uf,zmt,Dn]) (rd 3 (by omega) (by omega) rfl)
 ·exact go tt [.t rfl,.x x3,.c [] (Qbt hd),.c [] (q1 hd),.c [] (q2 hd),.c [] (q6 hd),.c [] (q3 hd),.c [] (q4 hd),.c [] (q5 hd),.s (sz:=1) (hs1 d)] rfl (by simp [Uf,zmt,Dn]) (rd 4 (by omega) (by omega) rfl)
 ·exact en tt [.f rfl,.c [] cd] rfl rfl trivial
def Oh (sg:List Int->Int) (a b c d:Pt):Ct:=⟨4,a.id,b.id,c.id,d.id,Qcz a.c b.c c.c d.c,Nw sg (Qcz a.c b.c c.c d.c)⟩
theorem Q50 {a b u v:Pt} {q:Rat} {c:List (List Int)} (ha:Rs a.c) (hb:Rs b.c) (hu:Rs u.c) (hv:Rs v.c) (hq:Qs 1000000 q):Uh Tryz.prog 265 [.one (.int .i64 4),.agg (aq q c),.one (.row [Bl a,Bl b,Bl u,Bl v])] [.agg (rct (Oh (Ak q) a b u v)),.one (.bool true)]:=by
 have x0:[Bl a,Bl b,Bl u,Bl v][0]? = some (Bl a):=rfl;have x1:[Bl a,Bl b,Bl u,Bl v][1]? = some (Bl b):=rfl;have x2:[Bl a,Bl b,Bl u,Bl v][2]? = some (Bl u):=rfl;have x3:[Bl a,Bl b,Bl u,Bl v][3]? = some (Bl v):=rfl;have cf:=Qy2 ha hb hu hv;have hsz:=Qrk ha hb hu hv;have cg:=Qcy (c:=c) (Ug hsz.1 (by decide)) (Qd hsz.2 (by decide)) hq;have e:rct (Oh (Ak q) a b u v)=[.int .i64 4,.int .i64 a.id,.int .i64 b.id,.int .i64 u.id,.int .i64 v.id,rp (zp (Qcz a.c b.c u.c v.c)),.int .i64 (Fc (Qcz a.c b.c u.c v.c) q),.row [],.bool false]:=by simp only [Oh,rct,Qjf]
 rw [e];generalize Qcz a.c b.c u.c v.c=F at *;refine Ha Tryz.func265 rfl ?_;refine go tt [.g 14 false rfl,.g 18 false rfl,.x (l:=[[.int .i64 0],[.int .i64 2],[.int .i64 2],[.int .i64 3],[.int .i64 4],[.int .i64 4]]) (i:=4) (xs:=[.int .i64 4]) rfl,.f rfl] rfl trivial ?_;refine lp (S:=Nat) 3 (λL1 i=>(33,.v (.one (.int .i64 (i:Int))))::L1) (λi=>[.blk 37 (aq q c),.blk 227 rzc,.blk 227 [.int .i64 4,.int .i64 (if 0<i then a.id else 0),.int .i64 (if 1<i then b.id else 0),.int .i64 (if 2<i then u.id else 0),.int .i64 (if 3<i then v.id else 0),.nils,.int .i64 0,.nils,.bool false]]) (λi=>4-i) (λi=>i<=4) 0 (by decide) rfl (λ_ _=>rfl) rfl λi hi=>?_
 rcases (show i=0\/i=1\/i=2\/i=3\/i=4 by omega) with rfl | rfl | rfl | rfl | rfl
 ·exact go tt [.t rfl,.x x0,.i 0] rfl (by simp [Uf]) (rd 1 (by omega) (by omega) rfl)
 ·exact go tt [.t rfl,.x x1,.i 1] rfl (by simp [Uf]) (rd 2 (by omega) (by omega) rfl)
 ·exact go tt [.t rfl,.x x2,.i 2] rfl (by simp [Uf]) (rd 3 (by omega) (by omega) rfl)
 ·exact go tt [.t rfl,.x x3,.i 3] rfl (by simp [Uf]) (rd 4 (by omega) (by omega) rfl)
 exact en tt [.f rfl,.f rfl,.f rfl,.f rfl,.t rfl,.x x0,.x x1,.x x2,.x x3,.c [] cf,.c [] cg] rfl rfl trivial
theorem Zct {a b u v:Pt} {q:Rat} {c:List (List Int)} (ha:Rs a.c) (hb:Rs b.c) (hu:Rs u.c) (hv:Rs v.c) (hq:Qs 1000000 q):Uh Tryz.prog 232 [.one (.int .i64 4),.agg (aq q c),.one (.row [Bl a,Bl b,Bl u,Bl v])] [.agg (rct (Oh (Ak q) a b u v))] :=
 w tt Tryz.func232 rfl [.c [] (Q50 ha hb hu hv hq)] rfl rfl trivial
variable (sg:List Int->Int)
def cK (W:List Pt) (x y z:Pt) (k n:Nat):List Ct:=Qb3 sg x y z::((W.drop (k+1)).take n).map (Oh sg x y z)
def cJ (W:List Pt) (x y:Pt) (j:Nat):Nat->List Ct
 | 0=>[]
 | n+1=>cJ W x y j n++match W[j+1+n]? with | none=>[] | some z=>cK sg W x y z (j+1+n) (W.length-(j+1+n)-1)
def cI (W:List Pt) (x:Pt) (i:Nat):Nat->List Ct
 | 0=>[]
 | n+1=>cI W x i n++match W[i+1+n]? with | none=>[] | some y=>cJ sg W x y (i+1+n) (W.length-(i+1+n)-1)
def cW (W:List Pt):Nat->List Ct
 | 0=>[]
 | n+1=>cW W n++match W[n]? with | none=>[] | some x=>cI sg W x n (W.length-n-1)
variable {sg:List Int->Int}
theorem Q4t {W:List Pt} {x y z:Pt} {k n:Nat} (h:n<=5):(cK sg W x y z k n).length<=6:=by
 unfold cK;rw [Q7,Zc,Qx]; omega
theorem Zb3 {W:List Pt} {x y z v:Pt} {k n:Nat} (h:W[k+1+n]? = some v):cK sg W x y z k (n+1)=cK sg W x y z k n++[Oh sg x y z v]:=by
 unfold cK;rw [Jv,Xb,h];simp
theorem Zb2 {W:List Pt} {x y z:Pt} {j n:Nat} (h:W[j+1+n]? = some z):cJ sg W x y j (n+1)=cJ sg W x y j n++cK sg W x y z (j+1+n) (W.length-(j+1+n)-1):=by
 show cJ sg W x y j n++(match W[j+1+n]? with | none=>[] | some z=>cK sg W x y z (j+1+n) (W.length-(j+1+n)-1))=_;rw [h]
theorem Zb1 {W:List Pt} {x y:Pt} {i n:Nat} (h:W[i+1+n]? = some y):cI sg W x i (n+1)=cI sg W x i n++cJ sg W x y (i+1+n) (W.length-(i+1+n)-1):=by
 show cI sg W x i n++(match W[i+1+n]? with | none=>[] | some y=>cJ sg W x y (i+1+n) (W.length-(i+1+n)-1))=_;rw [h]
theorem Zb4 {W:List Pt} {x:Pt} {n:Nat} (h:W[n]? = some x):cW sg W (n+1)=cW sg W n++cI sg W x n (W.length-n-1):=by
 show cW sg W n++(match W[n]? with | none=>[] | some x=>cI sg W x n (W.length-n-1))=_;rw [h]
theorem Qu7 {W:List Pt} {x y:Pt} {j:Nat} (hW:W.length<=6):∀ n,(cJ sg W x y j n).length<=n*6
 | 0=>Qm _
 |
  n+1=>by
  have ih:=Qu7 (x:=x) (y:=y) (j:=j) hW n;unfold cJ;rw [Q6];cases h:W[j+1+n]? with
  | none=>show _+0<=_; omega
  |
   some z =>
   have hk:=Q4t (sg:=sg) (W:=W) (x:=x) (y:=y) (z:=z) (k:=j+1+n) (n:=W.length-(j+1+n)-1) (by omega);dsimp only; omega
theorem Qu6 {W:List Pt} {x:Pt} {i:Nat} (hW:W.length<=6):∀ n,(cI sg W x i n).length<=n*36
 | 0=>Qm _
 |
  n+1=>by
  have ih:=Qu6 (x:=x) (i:=i) hW n;unfold cI;rw [Q6];cases h:W[i+1+n]? with
  | none=>show _+0<=_; omega
  |
   some y =>
   have hk:=Qu7 (sg:=sg) (x:=x) (y:=y) (j:=i+1+n) hW (W.length-(i+1+n)-1);dsimp only; omega
theorem Qn1 {W:List Pt} (hW:W.length<=6):∀ n,(cW sg W n).length<=n*216
 | 0=>Qm _
 |
  n+1=>by
  have ih:=Qn1 hW n;unfold cW;rw [Q6];cases h:W[n]? with
  | none=>show _+0<=_; omega
  |
   some x =>
   have hk:=Qu6 (sg:=sg) (x:=x) (i:=n) hW (W.length-n-1);dsimp only; omega
def Qdx (q:Rat) (l:List Pt):List Ct:=H8 Nl (cW (Ak q) (Io l) (Io l).length)
theorem Q3n (q:Rat) {l:List Pt} (hn:l.length<=6):(Qdx q l).length<=1000000:=by
 have hw:=Qnw l;have h:=Qn1 (sg:=Ak q) (W:=Io l) (by omega) (Io l).length;unfold Qdx;rw [Ny]; omega
set_option maxHeartbeats 8000000 in
theorem Qoc {l:List Pt} {q:Rat} {cs:List (List Int)} (hl:∀ p∈l,Rs p.c) (hn:l.length≤6) (hq:Qs 1000000 q):Uh Tryz.prog 195 [.one (.row (U8 l)),.agg (aq q cs)] [.one (.row (Gh (Qdx q l)))]:=by
 have c1:=Qy3 hl (by omega);have hw:=Qnw l;have hW:∀ p∈Io l,Rs p.c:=λp hp=>hl p (Q37 hp)
 unfold Qdx;obtain ⟨W,hWe⟩:=nmE (Io l);rw [<-hWe] at c1 hw hW ⊢;have hW6:W.length<=6:=by omega
 have hwl:=Qn1 (sg:=Ak q) hW6 W.length;have c9:=Zcr (l:=cW (Ak q) W W.length) (by omega);have hrl:=Tk W;refine Ha Tryz.func195 rfl ?_;refine go tt [.c [] c1,.o 6 227 9] rfl trivial ?_;refine lp (S:=Nat) 2 (λL1 i=>(15,.v (.one (.int .i64 (i:Int))))::(6,.v (.one (.orow 1 9 none)))::L1) (λi=>[.blk 37 (aq q cs),.row false 227 9 (Gh (cW (Ak q) W i))]) (λi=>W.length-i) (λi=>i<=W.length) 0 (Qg _) rfl (λ_ _=>rfl) rfl λi hi=>?_
 by_cases hlt:i<W.length
 ·obtain ⟨x,hx⟩:=gxE (l:=W) (i:=i) hlt;have sx:=hW x (Qa hx);have hnx:=Zb4 (sg:=Ak q) hx;have hl1:=Qn1 (sg:=Ak q) hW6 i;obtain ⟨F,hF⟩:=nmE (cW (Ak q) W i);rw [<-hF] at hnx hl1 ⊢;refine go tt [.t (decide_eq_true (by omega)),.r 19 (eI (b:=((i+1+0:Nat):Int)) (by simp))] rfl (by simp [Uf] <;> omega) ?_;rw [show Gh F=Gh (F++cI (Ak q) W x i 0) by simp [cI]];refine lp (S:=Nat) 2 (λL1 n=>(8,.v (.one (.int .i64 ((i+1+n:Nat):Int))))::(6,.v (.one (.orow 1 9 none)))::L1) (λn=>[.blk 37 (aq q cs),.row false 227 9 (Gh (F++cI (Ak q) W x i n))]) (λn=>W.length-i-n) (λn=>n<=W.length-i-1) 0 (Qg _) rfl (λ_ _=>rfl) rfl λn hnn=>?_
  by_cases hlj:i+1+n<W.length
  ·obtain ⟨y,hy⟩:=gxE (l:=W) (i:=i+1+n) hlj;have sy:=hW y (Qa hy);have hnx2:=Zb1 (sg:=Ak q) (x:=x) hy;have hl2:=Qu6 (sg:=Ak q) (x:=x) (i:=i) hW6 n;obtain ⟨G,hG⟩:=nmE (F++cI (Ak q) W x i n);have hGl:G.length<=1296+216:=by rw [hG,Q6]; omega
   have hnx3:F++cI (Ak q) W x i (n+1)=G++cJ (Ak q) W x y (i+1+n) (W.length-(i+1+n)-1):=by rw [hnx2,hG,Ze]
   rw [<-hG];obtain ⟨j,hj⟩:=nmE (i+1+n);rw [<-hj] at hlj hy hnx3 ⊢;refine go tt [.t (decide_eq_true (by omega)),.r 27 (eI (b:=((j+1+0:Nat):Int)) (by simp))] rfl (by simp [Uf] <;> omega) ?_;rw [show Gh G=Gh (G++cJ (Ak q) W x y j 0) by simp [cJ]];refine lp (S:=Nat) 2 (λL1 m=>(9,.v (.one (.int .i64 ((j+1+m:Nat):Int))))::(6,.v (.one (.orow 1 9 none)))::L1) (λm=>[.blk 37 (aq q cs),.row false 227 9 (Gh (G++cJ (Ak q) W x y j m))]) (λm=>W.length-j-m) (λm=>m<=W.length-j-1) 0 (Qg _) rfl (λ_ _=>rfl) rfl λm hm=>?_
   by_cases hlk:j+1+m<W.length
   ·obtain ⟨z,hz⟩:=gxE (l:=W) (i:=j+1+m) hlk;have sz:=hW z (Qa hz);have hnx4:=Zb2 (sg:=Ak q) (x:=x) (y:=y) hz;have hl3:=Qu7 (sg:=Ak q) (x:=x) (y:=y) (j:=j) hW6 m;obtain ⟨H,hH⟩:=nmE (G++cJ (Ak q) W x y j m);have hHl:H.length<=1296+216+36:=by rw [hH,Q6]; omega
    have hnx5:G++cJ (Ak q) W x y j (m+1)=H++cK (Ak q) W x y z (j+1+m) (W.length-(j+1+m)-1):=by rw [hnx4,hH,Ze]
    rw [<-hH];obtain ⟨k,hk⟩:=nmE (j+1+m);rw [<-hk] at hlk hz hnx5 ⊢;have hrH:=D7 H;have h9:∀ v∈[rct (Qb3 (Ak q) x y z)],v.length=9:=λv hv=>by rw [Qn.1 hv]; rfl
    refine go tt [.t (decide_eq_true (by omega)),.x (Fq hx),.x (Fq hy),.x (Fq hz),.c [] (Zcs sx sy sz hq),.s (sz:=9) h9,.r 53 (eI (b:=((k+1+0:Nat):Int)) (by simp))] rfl (by simp [Uf,hrH] <;> omega) ?_;have h0:Gh (H++cK (Ak q) W x y z k 0)=Gh H++[rct (Qb3 (Ak q) x y z)]:=by simp [cK,Gh]
    refine lp (S:=Nat) 2 (λL1 p=>(10,.v (.one (.int .i64 ((k+1+p:Nat):Int))))::(6,.v (.one (.orow 1 9 none)))::L1.filter λe => !Nat.beq e.1 51) (λp=>[.blk 37 (aq q cs),.row false 227 9 (Gh (H++cK (Ak q) W x y z k p))]) (λp=>W.length-k-p) (λp=>p<=W.length-k-1) 0 (Qg _) rfl (λ_ _=>rfl) (by rw [h0]; rfl) λp hp=>?_
    by_cases hlm:k+1+p<W.length
    ·obtain ⟨v,hv⟩:=gxE (l:=W) (i:=k+1+p) hlm;have sv:=hW v (Qa hv);have hnx6:=Zb3 (sg:=Ak q) (x:=x) (y:=y) (z:=z) hv;have hl4:=Q4t (sg:=Ak q) (W:=W) (x:=x) (y:=y) (z:=z) (k:=k) (n:=p) (by omega);have hrK:=D7 (H++cK (Ak q) W x y z k p);rw [Q6] at hrK;have h9v:∀ w∈[rct (Oh (Ak q) x y z v)],w.length=9:=λw hw=>by rw [Qn.1 hw]; rfl
     have e3:Gh (H++cK (Ak q) W x y z k (p+1))=Gh (H++cK (Ak q) W x y z k p)++[rct (Oh (Ak q) x y z v)]:=by rw [hnx6]; simp [Gh]
     refine go tt [.t (decide_eq_true (by omega)),.x (Fq hx),.x (Fq hy),.x (Fq hz),.x (Fq hv),.c [] (Zct sx sy sz sv hq),.s (sz:=9) h9v,.r 59 (eI (b:=((k+1+(p+1):Nat):Int)) (by simp <;> omega))] rfl (by simp [Uf,hrK] <;> omega) ?_;exact rd (p+1) (by omega) (by omega) (by rw [e3]; rfl)
    ·obtain rfl:p=W.length-k-1:=by omega
     rw [<-hnx5];refine go tt [.f (decide_eq_false (by omega)),.r 33 (eI (b:=((j+1+(m+1):Nat):Int)) (by simp <;> omega))] rfl (by simp [Uf] <;> omega) ?_;exact rd (m+1) (by omega) (by omega) rfl
   ·obtain rfl:m=W.length-j-1:=by omega
    rw [<-hnx3];refine go tt [.f (decide_eq_false (by omega)),.r 25 (eI (b:=((i+1+(n+1):Nat):Int)) (by simp <;> omega))] rfl (by simp [Uf] <;> omega) ?_;exact rd (n+1) (by omega) (by omega) rfl
  ·obtain rfl:n=W.length-i-1:=by omega
   rw [<-hnx];refine go tt [.f (decide_eq_false (by omega))] rfl (by simp [Uf] <;> omega) ?_;exact rd (i+1) (by omega) hlt rfl
 ·obtain rfl:i=W.length:=by omega
  exact en tt [.f (decide_eq_false (by omega)),.c [] c9] rfl rfl (by simp [Uf] <;> omega)
theorem Q2c {l:List Pt} {q:Rat} {cs:List (List Int)} (hl:∀ p∈l,Rs p.c) (hn:l.length≤6) (hq:Qs 1000000 q):Uh Tryz.prog 153 [.one (.int .i64 4),.one (.row (U8 l)),.agg (aq q cs)] [.one (.row (Gh (Qdx q l)))] :=
 w tt Tryz.func153 rfl [.f rfl,.f rfl,.f rfl,.f rfl,.c [] (Qoc hl hn hq)] rfl rfl trivial
theorem Qu8 {l:List Pt} {q:Rat} {cs:List (List Int)} (hl:∀ p∈l,Rs p.c) (hn:l.length≤6) (hq:Qs 1000000 q):Uh Tryz.prog 95 [.one (.int .i64 4),.one (.row (U8 l)),.agg (aq q cs)] [.one (.row (Gh (Qdx q l)))] :=
 w tt Tryz.func95 rfl [.c [] (Q2c hl hn hq)] rfl rfl trivial
end Orr
namespace Orq
open Orr Go
def Ik (a:Crv):List (List Int):=[Uz a.x a.d,Uz a.y a.d,Tf (Uq a.x a.x) (Uq a.y a.y),[a.d*a.d]]
def Qrq (a b c d:Crv):List (List (List Int)):=[Ik a,Ik b,Ik c,Ik d]
def Hj (a b c d:Crv):List Int:=Pn 4 (Qrq a b c d)
theorem Qdk {s:Nat} {k:Crv} (hn:Nml k) (hc:Cs s 3 k):(∀ p∈Ik k,Um p/\Bd (s+s+3) p)/\∀ (j:Nat) (p:List Int),(Ik k)[j]? = some p->p.length≤[2,2,4,0].getD j 0+1:=by
 have l1:=Me k.x k.d;have l2:=Me k.y k.d;have l3:=Hu k.x k.x;have l4:=Hu k.y k.y;have l5:=Ob (Uq k.x k.x) (Uq k.y k.y);have kx:=hc.lx;have ky:=hc.ly;have bx:Bd (s+s+2) (Uq k.x k.x):=Rx hc.x hc.x (by omega);have by_:Bd (s+s+2) (Uq k.y k.y):=Rx hc.y hc.y (by omega);have hd:=hn.2.2.1;have hd0:k.d*k.d≠0:=λe=>by rcases J9.1 e with e | e <;> omega
 have td:Um [k.d*k.d]:=by unfold Um; simp [trim,hd0]
 refine ⟨λp hp=>?_,λj p hp=>?_⟩
 ·simp only [Ik,Qo,X8,or_false] at hp;rcases hp with rfl | rfl | rfl | rfl
  ·exact ⟨Uv _ _,Ug (Np hc.x hc.d) (by omega)⟩
  ·exact ⟨Uv _ _,Ug (Np hc.y hc.d) (by omega)⟩
  ·exact ⟨Uv _ _,Ug (Qcp bx by_) (by omega)⟩
  ·refine ⟨td,λz hz=>?_⟩;rw [Qn.1 hz];have:=U6 k.d k.d; have:=hc.d; omega
 ·match j,hp with
  | 0,hp=>injection hp with hp; subst hp; show _<=3; omega
  | 1,hp=>injection hp with hp; subst hp; show _<=3; omega
  | 2,hp=>injection hp with hp; subst hp; show _<=5; omega
  | 3,hp=>injection hp with hp; subst hp; exact Qm _
  | j+4,hp=>simp [Ik] at hp
theorem Qt4 {s:Nat} {a b c d:Crv} (na:Nml a) (nb:Nml b) (nc:Nml c) (nd:Nml d) (ca:Cs s 3 a) (cb:Cs s 3 b) (cc:Cs s 3 c) (cd:Cs s 3 d):Sq (s+s+3) [2,2,4,0] 4 4 (Qrq a b c d):=by
 have hr:∀ r∈Qrq a b c d,∃ k:Crv,Nml k/\Cs s 3 k/\r=Ik k:=λr hr=>by
  simp only [Qrq,Qo,X8,or_false] at hr;rcases hr with rfl | rfl | rfl | rfl
  ·exact ⟨a,na,ca,rfl⟩
  ·exact ⟨b,nb,cb,rfl⟩
  ·exact ⟨c,nc,cc,rfl⟩
  ·exact ⟨d,nd,cd,rfl⟩
 refine ⟨rfl,λr h=>?_,λr h p hp=>?_,λr h p hp=>?_,λr h j p hp=>?_⟩
 all_goals obtain ⟨k,kn,kc,rfl⟩:=hr r h
 ·rfl
 ·exact ((Qdk kn kc).1 p hp).1
 ·exact ((Qdk kn kc).1 p hp).2
 ·exact (Qdk kn kc).2 j p hp
theorem Qze {a b c d:Crv} (ha:Sc a) (hb:Sc b) (hc:Sc c) (hd:Sc d):Cp (Hj a b c d):=by
 obtain ⟨h1,h2,h3⟩:=Qhv 4 [2,2,4,0] (Qrq a b c d) (by decide) rfl (by decide) (Qt4 ha.n hb.n hc.n hd.n ha.c hb.c hc.c hd.c);exact ⟨h1,Qd h3 (by decide),Ug h2 (by decide)⟩
def Qsz (sg:List Int->Int) (a b c d:Pt):Ct:=⟨4,a.id,b.id,c.id,d.id,Hj a.c b.c c.c d.c,Nw sg (Hj a.c b.c c.c d.c)⟩
abbrev P3:=Pt×(Pt×Pt)
abbrev P4:=Pt×P3
def Bz:Nat->List Pt->List P3
 | 0,_=>[]
 | _+1,[]=>[]
 | k+1,x::l=>(Cq l).map (λm=>(x,m))++Bz k l
def Ft (l:List Pt):List P3:=Bz l.length l
def Cx:Nat->List Pt->List P4
 | 0,_=>[]
 | _+1,[]=>[]
 | k+1,x::l=>(Ft l).map (λm=>(x,m))++Cx k l
def Ae (l:List Pt):List P4:=Cx l.length l
theorem Qa3:∀ (l:List Pt) (i:Nat) (x:Pt),l[i]? = some x->Bz (i+1) l=Bz i l++(Cq (l.drop (i+1))).map (λm=>(x,m))
 | [],i,x,h=>by simp at h
 | y::l,0,x,h=>by simp at h; subst h; simp [Bz]
 |
  y::l,i+1,x,h=>by
  have ih:=Qa3 l i x (by simpa using h);show (Cq l).map _++Bz (i+1) l=((Cq l).map _++Bz i l)++_;rw [ih,Ze]; rfl
theorem Qfp:∀ (l:List Pt) (i:Nat) (x:Pt),l[i]? = some x->Cx (i+1) l=Cx i l++(Ft (l.drop (i+1))).map (λm=>(x,m))
 | [],i,x,h=>by simp at h
 | y::l,0,x,h=>by simp at h; subst h; simp [Cx]
 |
  y::l,i+1,x,h=>by
  have ih:=Qfp l i x (by simpa using h);show (Ft l).map _++Cx (i+1) l=((Ft l).map _++Cx i l)++_;rw [ih,Ze]; rfl
theorem O4:∀ (k:Nat) (l:List Pt),∀ m∈Bz k l,m.1∈l/\m.2.1∈l/\m.2.2∈l
 | 0,l,m,h=>by simp [Bz] at h
 | k+1,[],m,h=>by simp [Bz] at h
 |
  k+1,x::l,m,h=>by
  rcases Qw.1 h with h | h
  ·obtain ⟨y,hy,rfl⟩:=Zi.1 h;obtain ⟨h1,h2⟩:=Qj4 _ _ y hy;exact ⟨Qt ..,Qh _ h1,Qh _ h2⟩
  ·obtain ⟨h1,h2,h3⟩:=O4 k l m h;exact ⟨Qh _ h1,Qh _ h2,Qh _ h3⟩
theorem Qtp:∀ (k:Nat) (l:List Pt),∀ m∈Cx k l,m.1∈l/\m.2.1∈l/\m.2.2.1∈l/\m.2.2.2∈l
 | 0,l,m,h=>by simp [Cx] at h
 | k+1,[],m,h=>by simp [Cx] at h
 |
  k+1,x::l,m,h=>by
  rcases Qw.1 h with h | h
  ·obtain ⟨y,hy,rfl⟩:=Zi.1 h;obtain ⟨h1,h2,h3⟩:=O4 _ _ y hy;exact ⟨Qt ..,Qh _ h1,Qh _ h2,Qh _ h3⟩
  ·obtain ⟨h1,h2,h3,h4⟩:=Qtp k l m h;exact ⟨Qh _ h1,Qh _ h2,Qh _ h3,Qh _ h4⟩
theorem Qd5 {l:List Pt} (h:l.length<=6):(Ft l).length<=20/\(Ae l).length<=15:=by
 match l,h with
 | [],_=>exact ⟨Zd rfl,Zd rfl⟩
 | [_],_=>exact ⟨Zd rfl,Zd rfl⟩
 | [_,_],_=>exact ⟨Zd rfl,Zd rfl⟩
 | [_,_,_],_=>exact ⟨Zd rfl,Zd rfl⟩
 | [_,_,_,_],_=>exact ⟨Zd rfl,Zd rfl⟩
 | [_,_,_,_,_],_=>exact ⟨Zd rfl,Zd rfl⟩
 | [_,_,_,_,_,_],_=>exact ⟨Zd rfl,Zd rfl⟩
 | _::_::_::_::_::_::_::_,h=>simp at h
abbrev Tu:=List (List Int×LV)
def Qs9 (sg:List Int->Int) (m:P3):Ct:=Q0k sg m.1 m.2.1 m.2.2
def Qof (sg:List Int->Int) (m:P4):Ct:=Qsz sg m.1 m.2.1 m.2.2.1 m.2.2.2
def Se (m:P3):List Int:=[m.1.id,m.2.1.id,m.2.2.id]
def Q70 (m:P4):List Int:=[m.1.id,m.2.1.id,m.2.2.1.id,m.2.2.2.id]
def Im (V:List (List Int×Int)):Tu:=V.foldl (λM e=>P5 M e.1 (.int .i64 e.2)) []
def Qch (sg:List Int->Int) (ps:List P3):List (List Int×Int):=ps.map λm=>(Se m,(Qs9 sg m).want)
def Qca (sg:List Int->Int) (ps:List P4):List (List Int×Int):=ps.map λm=>(Q70 m,(Qof sg m).want)
theorem Qx4 (sg:List Int->Int) (ps:List P3) (m:P3):Im (Qch sg (ps++[m]))=P5 (Im (Qch sg ps)) (Se m) (.int .i64 (Qs9 sg m).want):=by simp [Im,Qch]
def Ds (T:Tu) (s:Int) (n:List Int) (F:Tu) (skip:Nat):Tu:=if Md T (n.eraseIdx skip)*(if (3-skip) % 2=1 then -s else s)>0 then P5 F (n.eraseIdx skip) (.bool true) else F
def Qgb (T:Tu) (s:Int) (n:List Int) (F:Tu):Tu:=Ds T s n (Ds T s n (Ds T s n (Ds T s n F 0) 1) 2) 3
def Ii (T:Tu) (V:List (List Int×Int)):Tu:=V.foldl (λF e=>Qgb T e.2 e.1 F) []
theorem Qwf (sg:List Int->Int) (T:Tu) (ps:List P4) (m:P4):Ii T (Qca sg (ps++[m]))=Qgb T (Qof sg m).want (Q70 m) (Ii T (Qca sg ps)):=by simp [Ii,Qca]
def isT (T F:Tu) (m:P3):Bool:=decide (Md T (Se m)≠0) && !(Lf F (Se m))
theorem Zii {T F:Tu} {ps:List P3} {m:P3} (h:isT T F m=true):(ps++[m]).filter (isT T F)=ps.filter (isT T F)++[m]:=by simp [List.filter_append,h]
theorem Q68 {T F:Tu} {ps:List P3} {m:P3} (h:isT T F m=false):(ps++[m]).filter (isT T F)=ps.filter (isT T F):=by simp [List.filter_append,h]
def Q0h (sg:List Int->Int) (l:List Pt):List Ct:=(Ft (C0 l)).map (Qs9 sg)++(Ae (C0 l)).map (Qof sg)
def Qdg (sg:List Int->Int) (l:List Pt):List P3:=(Ft (C0 l)).filter (isT (Im (Qch sg (Ft (C0 l)))) (Ii (Im (Qch sg (Ft (C0 l)))) (Qca sg (Ae (C0 l)))))
abbrev trL (m:P3):List LV:=[.int .i64 m.1.id,.int .i64 m.2.1.id,.int .i64 m.2.2.id]
def Nz (l:List P3):List (List LV):=l.map trL
theorem O5 (l:List P3):(Nz l).length=l.length:=by simp [Nz]
theorem Qec {l:List P3} {i:Nat} {m:P3} (h:l[i]? = some m):(Nz l)[i]? = some (trL m):=Gz h
theorem Q28 (sg:List Int->Int) {l:List Pt} (h:l.length<=6):(Qdg sg l).length<=20:=by
 have hw:=Qeh l;exact Qd (Kn _ _) (Qd5 (l:=C0 l) (by omega)).1
theorem Q27 (sg:List Int->Int) {l:List Pt} (h:l.length<=6):(Q0h sg l).length<=35:=by
 have hw:=Qeh l;obtain ⟨h1,h2⟩:=Qd5 (l:=C0 l) (by omega);unfold Q0h;rw [Q6,Zc,Zc]; omega
def bcD (l:List Pt) (a:Tm):List Ct:=Q0h (Ch a) l
abbrev brD (l:List Pt) (a:Tm):List (List LV):=Nz (Qdg (Ch a) l)
def Zkq (l:List Pt):List (List Int):=(Ft (C0 l)).map (λm=>Gn m.1.c m.2.1.c m.2.2.c)++(Ae (C0 l)).map λm=>Hj m.1.c m.2.1.c m.2.2.1.c m.2.2.2.c
theorem Zbu {l:List Pt} (hl:∀ p∈l,Sc p.c):∀ p∈Zkq l,Cp p:=λp hp=>by
 have hw:=λ(x:Pt) (h:x∈C0 l)=>hl x (Qky h)
 rcases Qw.1 hp with hp | hp
 ·obtain ⟨m,hm,rfl⟩:=Zi.1 hp;obtain ⟨h1,h2,h3⟩:=O4 _ _ m hm;exact Qlo (hw _ h1) (hw _ h2) (hw _ h3)
 ·obtain ⟨m,hm,rfl⟩:=Zi.1 hp;obtain ⟨h1,h2,h3,h4⟩:=Qtp _ _ m hm;exact Qze (hw _ h1) (hw _ h2) (hw _ h3) (hw _ h4)
theorem Zby {l:List Pt} {a:Tm}:∀ x∈bcD l a,x.p∈Zkq l:=λx hx=>by
 rcases Qw.1 hx with hx | hx
 ·obtain ⟨m,hm,rfl⟩:=Zi.1 hx;exact List.mem_append_left _ (Zi.2 ⟨m,hm,rfl⟩)
 ·obtain ⟨m,hm,rfl⟩:=Zi.1 hx;exact List.mem_append_right _ (Zi.2 ⟨m,hm,rfl⟩)
theorem Zhf {l:List Pt} (hl:∀ p∈l,Sc p.c) (hn:l.length≤6):BuildOk (bcD l) :=
 ⟨λ_ _ x hx=>Zbu hl _ (Zby x hx),λa _=>Qd (Q27 _ hn) (by decide)⟩
def Q4s (l:List Pt) (a:Tm):Cr:=⟨a,(Tp (bcD l a)).map fresh,0⟩
def Qq5 (M:Tu):Prop:=∀ k,(Du M k).getD (.int .i64 0)=.int .i64 (Md M k)/\-1<=Md M k/\Md M k<=1
def Qbc (M:Tu):Prop:=∀ k,(Du M k).getD (.bool false)=.bool (Lf M k)
theorem Qam (M:Tu) (k:List Int) (x:LV) (k':List Int):Du (P5 M k x) k'=if k'=k then some x else Du M k':=by
 induction M with
 | nil=>simp [P5,Du]
 |
  cons e M ih =>
  simp only [P5];by_cases h:k=e.1
  ·rw [if_pos h];simp only [Du];by_cases h2:k'=k
   ·rw [if_pos h2,if_pos h2]
   ·rw [if_neg h2,if_neg h2,if_neg (λe2=>h2 (e2.trans h.symm))]
  ·rw [if_neg h];simp only [Du];by_cases h2:k'=e.1
   ·rw [if_pos h2,if_pos h2,if_neg (λe2=>h (e2.symm.trans h2))]
   ·rw [if_neg h2,if_neg h2,ih]
theorem Q7w:Qq5 []:=λ_=>⟨rfl,show (-1:Int)<=0 by decide,show (0:Int)<=1 by decide⟩
theorem Q1x:Qbc []:=λ_=>rfl
theorem Q7x {M:Tu} (h:Qq5 M) {k:List Int} {n:Int} (hn:-1<=n/\n<=1):Qq5 (P5 M k (.int .i64 n)):=by
 intro k';have h1:=h k';unfold Md at h1 ⊢;rw [Qam];by_cases e:k'=k
 ·rw [if_pos e]; exact ⟨rfl,hn.1,hn.2⟩
 ·rw [if_neg e]; exact h1
theorem Q1y {M:Tu} (h:Qbc M) {k:List Int} {b:Bool}:Qbc (P5 M k (.bool b)):=by
 intro k';have h1:=h k';unfold Lf at h1 ⊢;rw [Qam];by_cases e:k'=k
 ·rw [if_pos e]; rfl
 ·rw [if_neg e]; exact h1
theorem Rp {T F:Tu} {s:Int} {n:List Int} {k:Nat} (h:Qbc F):Qbc (Ds T s n F k):=by
 unfold Ds;generalize (if (3-k) % 2=1 then -s else s)=s'
 split
 ·exact Q1y h
 ·exact h
theorem Qu2 {T F:Tu} {s:Int} {n:List Int} (h:Qbc F):Qbc (Qgb T s n F):=Rp (Rp (Rp (Rp h)))
theorem Qmn {x s:Int} (hx:-1<=x/\x<=1) (hs:-1<=s/\s<=1):-9223372036854775808<=x*s/\x*s<=9223372036854775807:=by
 have h:x=-1\/x=0\/x=1:=by omega
 rcases h with rfl | rfl | rfl <;> omega
def p3j (W:List Pt) (x:Pt) (i j:Nat):List P3:=Bz i W++(Sv j (W.drop (i+1))).map (λm=>(x,m))
def p3k (W:List Pt) (x y:Pt) (i j k:Nat):List P3:=Bz i W++(Sv j (W.drop (i+1))++(((W.drop (i+1)).drop (j+1)).take k).map (λz=>(y,z))).map (λm=>(x,m))
theorem Qj1 (W:List Pt) (x:Pt) (i:Nat):p3j W x i 0=Bz i W:=by simp [p3j,Sv]
theorem Qj3 (W:List Pt) (x y:Pt) (i j:Nat):p3k W x y i j 0=p3j W x i j:=by simp [p3k,p3j]
theorem Qj2 {W:List Pt} {x y z:Pt} {i j k:Nat} (h:((W.drop (i+1)).drop (j+1))[k]? = some z):p3k W x y i j (k+1)=p3k W x y i j k++[(x,y,z)]:=by
 unfold p3k;rw [Xc,h]; simp
theorem Qpm {W:List Pt} {x y:Pt} {i j k:Nat} (hy:(W.drop (i+1))[j]? = some y) (hk:((W.drop (i+1)).drop (j+1)).length<=k):p3k W x y i j k=p3j W x i (j+1):=by
 unfold p3k p3j;rw [Qj hk,Lr _ j y hy]
theorem Qpl {W:List Pt} {x:Pt} {i j:Nat} (hx:W[i]? = some x) (hj:j=(W.drop (i+1)).length):p3j W x i j=Bz (i+1) W:=by
 unfold p3j;rw [hj,Qa3 W i x hx]; rfl
theorem Q1k {W:List Pt} {i:Nat} (h:i=W.length):Bz i W=Ft W:=by rw [h]; rfl
def p4j (W:List Pt) (x:Pt) (i j:Nat):List P4:=Cx i W++(Bz j (W.drop (i+1))).map (λm=>(x,m))
def p4k (W:List Pt) (x y:Pt) (i j k:Nat):List P4:=Cx i W++(p3j (W.drop (i+1)) y j k).map (λm=>(x,m))
def p4m (W:List Pt) (x y z:Pt) (i j k m:Nat):List P4:=Cx i W++(p3k (W.drop (i+1)) y z j k m).map (λm=>(x,m))
theorem Q8r (W:List Pt) (x:Pt) (i:Nat):p4j W x i 0=Cx i W:=by simp [p4j,Bz]
theorem Q8s (W:List Pt) (x y:Pt) (i j:Nat):p4k W x y i j 0=p4j W x i j:=by unfold p4k p4j; rw [Qj1]
theorem Q8u (W:List Pt) (x y z:Pt) (i j k:Nat):p4m W x y z i j k 0=p4k W x y i j k:=by unfold p4m p4k; rw [Qj3]
theorem Q8t {W:List Pt} {x y z u:Pt} {i j k m:Nat} (h:(((W.drop (i+1)).drop (j+1)).drop (k+1))[m]? = some u):p4m W x y z i j k (m+1)=p4m W x y z i j k m++[(x,y,z,u)]:=by
 unfold p4m;rw [Qj2 h]; simp
theorem Zek {W:List Pt} {x y z:Pt} {i j k m:Nat} (hz:((W.drop (i+1)).drop (j+1))[k]? = some z) (hm:(((W.drop (i+1)).drop (j+1)).drop (k+1)).length<=m):p4m W x y z i j k m=p4k W x y i j (k+1):=by
 unfold p4m p4k;rw [Qpm hz hm]
theorem Zej {W:List Pt} {x y:Pt} {i j k:Nat} (hy:(W.drop (i+1))[j]? = some y) (hk:k=((W.drop (i+1)).drop (j+1)).length):p4k W x y i j k=p4j W x i (j+1):=by
 unfold p4k p4j;rw [Qpl hy hk]
theorem Zei {W:List Pt} {x:Pt} {i j:Nat} (hx:W[i]? = some x) (hj:j=(W.drop (i+1)).length):p4j W x i j=Cx (i+1) W:=by
 unfold p4j;rw [hj,Qfp W i x hx]; rfl
theorem Ze1 {W:List Pt} {i:Nat} (h:i=W.length):Cx i W=Ae W:=by rw [h]; rfl
theorem Qb7:∀ (k:Nat) (l:List Pt),∃ r,Cq l=Sv k l++r
 | 0,l=>⟨Cq l,rfl⟩
 | k+1,[]=>⟨[],rfl⟩
 |
  k+1,x::l=>by
  obtain ⟨r,h⟩:=Qb7 k l;exact ⟨r,by show l.map _++Sv l.length l=l.map _++Sv k l++r; rw [show Sv l.length l=Cq l from rfl,h,Ze]⟩
theorem Qkw:∀ (k:Nat) (l:List Pt),∃ r,Ft l=Bz k l++r
 | 0,l=>⟨Ft l,rfl⟩
 | k+1,[]=>⟨[],rfl⟩
 |
  k+1,x::l=>by
  obtain ⟨r,h⟩:=Qkw k l;exact ⟨r,by show (Cq l).map _++Bz l.length l=(Cq l).map _++Bz k l++r; rw [show Bz l.length l=Ft l from rfl,h,Ze]⟩
theorem Qtq:∀ (k:Nat) (l:List Pt),∃ r,Ae l=Cx k l++r
 | 0,l=>⟨Ae l,rfl⟩
 | k+1,[]=>⟨[],rfl⟩
 |
  k+1,x::l=>by
  obtain ⟨r,h⟩:=Qtq k l;exact ⟨r,by show (Ft l).map _++Cx l.length l=(Ft l).map _++Cx k l++r; rw [show Cx l.length l=Ae l from rfl,h,Ze]⟩
theorem Q0t {W:List Pt} (h6:W.length<=6) {x y:Pt} {i j k:Nat} (hx:W[i]? = some x) (hy:(W.drop (i+1))[j]? = some y):(p3k W x y i j k).length<=20:=by
 have h0:=(Qd5 h6).1;obtain ⟨r,hr⟩:=Qkw (i+1) W;rw [Qa3 W i x hx] at hr;obtain ⟨r2,hr2⟩:=Qb7 (j+1) (W.drop (i+1));rw [Lr _ j y hy] at hr2;have e1:=congrArg List.length hr;have e2:=congrArg List.length hr2;have e3:(((W.drop (i+1)).drop (j+1)).take k).length<=((W.drop (i+1)).drop (j+1)).length:=by rw [Qx]; exact Nat.min_le_right _ _
 unfold p3k;simp only [Q6,Zc] at e1 e2 ⊢;omega
theorem Zel {W:List Pt} (h6:W.length<=6) {x y z:Pt} {i j k m:Nat} (hx:W[i]? = some x) (hy:(W.drop (i+1))[j]? = some y) (hz:((W.drop (i+1)).drop (j+1))[k]? = some z):(p4m W x y z i j k m).length<=15:=by
 have h0:=(Qd5 h6).2;obtain ⟨r,hr⟩:=Qtq (i+1) W;rw [Qfp W i x hx] at hr;obtain ⟨r1,hr1⟩:=Qkw (j+1) (W.drop (i+1));rw [Qa3 _ j y hy] at hr1;obtain ⟨r2,hr2⟩:=Qb7 (k+1) ((W.drop (i+1)).drop (j+1));rw [Lr _ k z hz] at hr2;have e1:=congrArg List.length hr;have e2:=congrArg List.length hr1;have e4:=congrArg List.length hr2;have e3:((((W.drop (i+1)).drop (j+1)).drop (k+1)).take m).length<=(((W.drop (i+1)).drop (j+1)).drop (k+1)).length:=by rw [Qx]; exact Nat.min_le_right _ _
 unfold p4m p3k;simp only [Q6,Zc] at e1 e2 e4 ⊢;omega
theorem Q21 {sg:List Int->Int} (hg:∀ p,-1<=Nw sg p/\Nw sg p<=1) (ps:List P3):Qq5 (Im (Qch sg ps)):=by
 have key:∀ (ps:List P3) (M:Tu),Qq5 M->Qq5 ((Qch sg ps).foldl (λM e=>P5 M e.1 (.int .i64 e.2)) M):=by
  intro ps
  induction ps with
  | nil=>intro M h; exact h
  | cons m ps ih=>intro M h; exact ih _ (Q7x h (hg _))
 exact key ps [] Q7w
theorem Qu3 (sg:List Int->Int) (T:Tu) (ps:List P4):Qbc (Ii T (Qca sg ps)):=by
 have key:∀ (ps:List P4) (F:Tu),Qbc F->Qbc ((Qca sg ps).foldl (λF e=>Qgb T e.2 e.1 F) F):=by
  intro ps
  induction ps with
  | nil=>intro M h; exact h
  | cons m ps ih=>intro M h; exact ih _ (Qu2 h)
 exact key ps [] Q1x
theorem Qm7 (p:List Int) (q:Rat):-1<=U9 p q/\U9 p q<=1:=by
 rw [Re]; unfold Us
 split
 ·exact ⟨by decide,by decide⟩
 ·split <;> exact ⟨by decide,by decide⟩
theorem Zad {p:List Int} {a:Tm} {s:Int} (h:Qbo p a=some s):-1<=s/\s<=1:=by
 unfold Qbo at h
 split at h
 ·injection h with h; subst h; exact ⟨by decide,by decide⟩
 ·split at h
  ·injection h with h; subst h; exact Qm7 _ _
  ·obtain ⟨g,_,h⟩:=Qk.1 h
   split at h
   ·injection h with h; subst h; exact ⟨by decide,by decide⟩
   ·obtain ⟨c,_,h⟩:=Qk.1 h;obtain ⟨x,_,h⟩:=Qk.1 h;injection h with h; subst h; exact Qm7 _ _
theorem Qsb (a:Tm) (p:List Int):-1<=Nw (Ch a) p/\Nw (Ch a) p<=1:=by
 have hs:∀ p,-1<=Ch a p/\Ch a p<=1:=λp=>by
  unfold Ch;cases h:Qbo p a with
  | none=>exact ⟨by decide,by decide⟩
  | some s=>exact Zad h
 have key:∀ (k:Nat) (p:List Int),-1<=Hd (Ch a) k p/\Hd (Ch a) k p<=1:=by
  intro k
  induction k with
  | zero=>intro p; exact ⟨by simp [Hd],by simp [Hd]⟩
  |
   succ k ih =>
   intro p;simp only [Hd]
   split
   ·exact ⟨by decide,by decide⟩
   ·split
    ·exact ih _
    ·exact hs p
 exact key _ p
end Orq
namespace Orr
open Go Go.Proofs Orq
set_option maxRecDepth 10000
theorem ozM {P:Program} [Mo P] {n:Nat} {Q:Exit->Sg->List OB->Prop} {L L':Sg} {B B':List OB} (d off T sz:Nat) {it:List It} (hs:Hx it=true) (h:Q3i (P:=P) d L B [.oc d off T sz]=some (L',B',[],[])) (k:AK P n Q it L' B'):AK P n Q it L B:=AK.sub (Qpz h EqOk.nil) hs k
theorem Qn9 {k:Crv} (hk:Sc k):Uh Tryz.prog 213 [.agg (cl k)] [.one (.row (Ox (Ik k)))]:=by
 have ok:=Qdk hk.n hk.c;have l1:=Hu k.x k.x;have l2:=Hu k.y k.y;have:=hk.c.lx;have:=hk.c.ly;have bx:Bd 258 (Uq k.x k.x):=Rx (u:=2) hk.c.x hk.c.x (by omega);have by_:Bd 258 (Uq k.y k.y):=Rx (u:=2) hk.c.y hk.c.y (by omega);have c1:=Qcr (p:=k.x) (c:=k.d) (by omega) (Ug hk.c.x (by decide)) (Qd hk.c.d (by decide));have c2:=Qcr (p:=k.y) (c:=k.d) (by omega) (Ug hk.c.y (by decide)) (Qd hk.c.d (by decide));have c3:=Qvf (p:=k.x) (q:=k.x) hk.n.1 hk.n.1 (by omega) (by omega) hk.c.x hk.c.x (by decide);have c4:=Qvf (p:=k.y) (q:=k.y) hk.n.2.1 hk.n.2.1 (by omega) (by omega) hk.c.y hk.c.y (by decide);have c5:=Qve (p:=Uq k.x k.x) (q:=Uq k.y k.y) (by omega) (by omega) (Ug bx (by decide)) (Ug by_ (by decide));have c6:=Dk (Uk k.d) (Uk k.d) (Qd hk.c.d (by decide)) (Qd hk.c.d (by decide));have hl:∀ p∈Ik k,p.length≤1000000:=λp hp=>by
  obtain ⟨j,hj⟩:=Yb hp;have h1:=ok.2 j p hj;have:[2,2,4,0].getD j 0<=4:=by
   match j with
   | 0=>decide
   | 1=>decide
   | 2=>decide
   | 3=>decide
   | j+4=>simp
  omega
 have cd:=Q4z (r:=Ik k) (λp hp=>(ok.1 p hp).1) (λp hp=>Ug (ok.1 p hp).2 (by decide)) hl (by show 4<=1000; decide);exact w tt Tryz.func213 rfl [.c [] (Qyx hk.n (hk.c.mono (by decide) (by decide))),.c [] c1,.c [] c2,.c [] c3,.c [] c4,.c [] c5,.c [] c6,.c [] cd] rfl rfl trivial
theorem Q42 {a b c d:Crv} (ha:Sc a) (hb:Sc b) (hc:Sc c) (hd:Sc d):Uh Tryz.prog 172 [.agg (cl a),.agg (cl b),.agg (cl c),.agg (cl d)] [pr (Hj a b c d)]:=by
 have cd:=Zgb (by decide) (k:=4) (ds:=[2,2,4,0]) (by decide) rfl (by decide) (Qt4 ha.n hb.n hc.n hd.n ha.c hb.c hc.c hd.c);exact w tt Tryz.func172 rfl [.c [] (Qn9 ha),.c [] (Qn9 hb),.c [] (Qn9 hc),.c [] (Qn9 hd),.c [] cd] rfl rfl trivial
set_option maxHeartbeats 1000000 in
theorem Zb8 {a b c d:Pt} {t:Tm} (ha:Sc a.c) (hb:Sc b.c) (hc:Sc c.c) (hd:Sc d.c) (ht:Va t):Uh Tryz.prog 120 [.one (.int .i64 4),.agg (ta t),.one (.row [Hn a,Hn b,Hn c,Hn d])] [.agg (Qla (Qsz (Ch t) a b c d)),.one (.int .i64 0)]:=by
 have hp:=(Qze ha hb hc hd).dp;have e:Qla (Qsz (Ch t) a b c d)=[.int .i64 4,.int .i64 a.id,.int .i64 b.id,.int .i64 c.id,.int .i64 d.id,pl (Hj a.c b.c c.c d.c),.int .i64 (Nw (Ch t) (Hj a.c b.c c.c d.c))]:=by rw [Qsz]
 rw [e];have cg:=Zgd hp ht;have cf:=Q42 ha hb hc hd;generalize Hj a.c b.c c.c d.c=F at *;refine Ha Tryz.func120 rfl ?_;refine go tt [.c [] Q18,.f rfl] rfl trivial ?_;refine lp (S:=Nat) 3 (λL1 i=>(22,.v (.one (.int .i64 (i:Int))))::L1) (λi=>[.blk 79 (ta t),.blk 99 zCt,.blk 99 [.int .i64 4,.int .i64 (if 1<=i then a.id else 0),.int .i64 (if 2<=i then b.id else 0),.int .i64 (if 3<=i then c.id else 0),.int .i64 (if 4<=i then d.id else 0),.nils,.int .i64 0]]) (λi=>4-i) (λi=>i<=4) 0 (Qg _) rfl (λ_ _=>rfl) rfl λi hi=>?_
 rcases (show i=0\/i=1\/i=2\/i=3\/i=4 by omega) with rfl | rfl | rfl | rfl | rfl
 ·refine go tt [.t rfl,.x (i:=0) (xs:=Hn a) rfl,.i 0] rfl (by simp [Uf]) ?_;exact rd 1 (by omega) (by omega) rfl
 ·refine go tt [.t rfl,.x (i:=1) (xs:=Hn b) rfl,.i 1] rfl (by simp [Uf]) ?_;exact rd 2 (by omega) (by omega) rfl
 ·refine go tt [.t rfl,.x (i:=2) (xs:=Hn c) rfl,.i 2] rfl (by simp [Uf]) ?_;exact rd 3 (by omega) (by omega) rfl
 ·refine go tt [.t rfl,.x (i:=3) (xs:=Hn d) rfl,.i 3] rfl (by simp [Uf]) ?_;exact rd 4 (by omega) (by omega) rfl
 ·exact en tt [.f rfl,.f rfl,.f rfl,.f rfl,.t rfl,.x (i:=0) (xs:=Hn a) rfl,.x (i:=1) (xs:=Hn b) rfl,.x (i:=2) (xs:=Hn c) rfl,.x (i:=3) (xs:=Hn d) rfl,.c [] cf,.c [] cg] rfl rfl trivial
def Qr6 (T:Tu) (s:Int) (n:List Int) (F:Tu) (k:Nat):Tu:=(List.range k).foldl (Ds T s n) F
theorem Qwa (T:Tu) (s:Int) (n:List Int) (F:Tu) (k:Nat):Qr6 T s n F (k+1)=Ds T s n (Qr6 T s n F k) k:=by unfold Qr6; rw [List.range_succ,List.foldl_append]; rfl
theorem Qv9 (T:Tu) (s:Int) (n:List Int) (F:Tu):Qr6 T s n F 4=Qgb T s n F:=rfl
set_option maxHeartbeats 4000000 in
theorem Zh0 {F T:Tu} {s n0 n1 n2 n3:Int} (hT:Qq5 T) (hs:-1<=s/\s<=1):Mv Tryz.prog 121 [.one (.omap 0),.one (.omap 1),.one (.int .i64 s),.agg [.int .i64 n0,.int .i64 n1,.int .i64 n2,.int .i64 n3]] [.mpb F,.mpb T] [] [.mpb (Qgb T s [n0,n1,n2,n3] F),.mpb T]:=by
 have hm:Zbm T:=λk=>(hT k).1
 have hb:=λ(k:List Int) (x:Int) (hx:-1<=x/\x<=1)=>Qmn (hT k).2 hx
 rw [<-Qv9];obtain ⟨f,hf⟩:=nmE (Qr6 T s [n0,n1,n2,n3] F);have f0:F=f 0:=by rw [hf]; rfl
 have fs:∀ k,f (k+1)=Ds T s [n0,n1,n2,n3] (f k) k:=λk=>by rw [hf]; exact Qwa ..
 rw [<-hf];rw [f0];clear hf f0;refine Ha Tryz.func121 rfl ?_;refine go tt [] rfl trivial ?_;refine lp (S:=Nat) 3 (λL1 k=>(14,.v (.one (.int .i64 (k:Int))))::L1) (λk=>[.mpb (f k),.mpb T,.blk 95 [.int .i64 n0,.int .i64 n1,.int .i64 n2,.int .i64 n3]]) (λk=>4-k) (λk=>k<=4) 0 (by decide) rfl (λ_ _=>rfl) rfl λk hk=>?_
 rcases (show k=0\/k=1\/k=2\/k=3\/k=4 by omega) with rfl | rfl | rfl | rfl | rfl
 ·have e1:=fs 0;have e2:Ds T s [n0,n1,n2,n3] (f 0) 0=if Md T [n1,n2,n3]*(-s)>0 then P5 (f 0) [n1,n2,n3] (.bool true) else f 0:=rfl
  rw [e2] at e1;refine go tt [.t rfl] rfl trivial ?_;refine lp (S:=Nat) 4 (λL1 i=>(18,.v (.one (.int .i64 (i:Int))))::(10,.v (.one (.int .i64 (if i<=0 then (i:Int) else (i:Int)-1))))::L1) (λi=>[.mpb (f 0),.mpb T,.blk 95 [.int .i64 n0,.int .i64 n1,.int .i64 n2,.int .i64 n3],.blk 50 [.int .i64 (if 2<=i then n1 else 0),.int .i64 (if 3<=i then n2 else 0),.int .i64 (if 4<=i then n3 else 0)]]) (λi=>4-i) (λi=>i<=4) 0 (by decide) rfl (λ_ _=>rfl) rfl λi hi=>?_
  rcases (show i=0\/i=1\/i=2\/i=3\/i=4 by omega) with rfl | rfl | rfl | rfl | rfl
  ·refine go tt [.t rfl,.i 0,.f rfl] rfl (by simp [Uf]) ?_;exact rd 1 (by omega) (by omega) rfl
  ·refine go tt [.t rfl,.i 1,.t rfl,.i 0] rfl (by simp [Uf]) ?_;exact rd 2 (by omega) (by omega) rfl
  ·refine go tt [.t rfl,.i 2,.t rfl,.i 1] rfl (by simp [Uf]) ?_;exact rd 3 (by omega) (by omega) rfl
  ·refine go tt [.t rfl,.i 3,.t rfl,.i 2] rfl (by simp [Uf]) ?_;exact rd 4 (by omega) (by omega) rfl
  ·have hbb:=hb [n1,n2,n3] (-s) (by omega);by_cases hc:Md T [n1,n2,n3]*(-s)>0
   ·rw [if_pos hc] at e1;refine go tt [.f rfl,.t rfl,.t (decide_eq_true hc)] rfl (by simp only [Uf]; first | exact ⟨⟨by omega,by omega⟩,hbb,hm,⟨by omega,by omega⟩,by decide,by omega,by omega⟩ | exact ⟨⟨by omega,by omega⟩,hbb,hm,by decide,by omega,by omega⟩) ?_;exact rd 1 (by omega) (by omega) (by rw [e1]; rfl)
   ·rw [if_neg hc] at e1;refine go tt [.f rfl,.t rfl,.f (decide_eq_false hc)] rfl (by simp only [Uf]; first | exact ⟨⟨by omega,by omega⟩,hbb,hm,⟨by omega,by omega⟩,by decide,by omega,by omega⟩ | exact ⟨⟨by omega,by omega⟩,hbb,hm,by decide,by omega,by omega⟩) ?_;exact rd 1 (by omega) (by omega) (by rw [e1]; rfl)
 ·have e1:=fs 1;have e2:Ds T s [n0,n1,n2,n3] (f 1) 1=if Md T [n0,n2,n3]*s>0 then P5 (f 1) [n0,n2,n3] (.bool true) else f 1:=rfl
  rw [e2] at e1;refine go tt [.t rfl] rfl trivial ?_;refine lp (S:=Nat) 4 (λL1 i=>(18,.v (.one (.int .i64 (i:Int))))::(10,.v (.one (.int .i64 (if i<=1 then (i:Int) else (i:Int)-1))))::L1) (λi=>[.mpb (f 1),.mpb T,.blk 95 [.int .i64 n0,.int .i64 n1,.int .i64 n2,.int .i64 n3],.blk 50 [.int .i64 (if 1<=i then n0 else 0),.int .i64 (if 3<=i then n2 else 0),.int .i64 (if 4<=i then n3 else 0)]]) (λi=>4-i) (λi=>i<=4) 0 (by decide) rfl (λ_ _=>rfl) rfl λi hi=>?_
  rcases (show i=0\/i=1\/i=2\/i=3\/i=4 by omega) with rfl | rfl | rfl | rfl | rfl
  ·refine go tt [.t rfl,.i 0,.t rfl,.i 0] rfl (by simp [Uf]) ?_;exact rd 1 (by omega) (by omega) rfl
  ·refine go tt [.t rfl,.i 1,.f rfl] rfl (by simp [Uf]) ?_;exact rd 2 (by omega) (by omega) rfl
  ·refine go tt [.t rfl,.i 2,.t rfl,.i 1] rfl (by simp [Uf]) ?_;exact rd 3 (by omega) (by omega) rfl
  ·refine go tt [.t rfl,.i 3,.t rfl,.i 2] rfl (by simp [Uf]) ?_;exact rd 4 (by omega) (by omega) rfl
  ·have hbb:=hb [n0,n2,n3] s (by omega);by_cases hc:Md T [n0,n2,n3]*s>0
   ·rw [if_pos hc] at e1;refine go tt [.f rfl,.f rfl,.t (decide_eq_true hc)] rfl (by simp only [Uf]; first | exact ⟨⟨by omega,by omega⟩,hbb,hm,⟨by omega,by omega⟩,by decide,by omega,by omega⟩ | exact ⟨⟨by omega,by omega⟩,hbb,hm,by decide,by omega,by omega⟩) ?_;exact rd 2 (by omega) (by omega) (by rw [e1]; rfl)
   ·rw [if_neg hc] at e1;refine go tt [.f rfl,.f rfl,.f (decide_eq_false hc)] rfl (by simp only [Uf]; first | exact ⟨⟨by omega,by omega⟩,hbb,hm,⟨by omega,by omega⟩,by decide,by omega,by omega⟩ | exact ⟨⟨by omega,by omega⟩,hbb,hm,by decide,by omega,by omega⟩) ?_;exact rd 2 (by omega) (by omega) (by rw [e1]; rfl)
 ·have e1:=fs 2;have e2:Ds T s [n0,n1,n2,n3] (f 2) 2=if Md T [n0,n1,n3]*(-s)>0 then P5 (f 2) [n0,n1,n3] (.bool true) else f 2:=rfl
  rw [e2] at e1;refine go tt [.t rfl] rfl trivial ?_;refine lp (S:=Nat) 4 (λL1 i=>(18,.v (.one (.int .i64 (i:Int))))::(10,.v (.one (.int .i64 (if i<=2 then (i:Int) else (i:Int)-1))))::L1) (λi=>[.mpb (f 2),.mpb T,.blk 95 [.int .i64 n0,.int .i64 n1,.int .i64 n2,.int .i64 n3],.blk 50 [.int .i64 (if 1<=i then n0 else 0),.int .i64 (if 2<=i then n1 else 0),.int .i64 (if 4<=i then n3 else 0)]]) (λi=>4-i) (λi=>i<=4) 0 (by decide) rfl (λ_ _=>rfl) rfl λi hi=>?_
  rcases (show i=0\/i=1\/i=2\/i=3\/i=4 by omega) with rfl | rfl | rfl | rfl | rfl
  ·refine go tt [.t rfl,.i 0,.t rfl,.i 0] rfl (by simp [Uf]) ?_;exact rd 1 (by omega) (by omega) rfl
  ·refine go tt [.t rfl,.i 1,.t rfl,.i 1] rfl (by simp [Uf]) ?_;exact rd 2 (by omega) (by omega) rfl
  ·refine go tt [.t rfl,.i 2,.f rfl] rfl (by simp [Uf]) ?_;exact rd 3 (by omega) (by omega) rfl
  ·refine go tt [.t rfl,.i 3,.t rfl,.i 2] rfl (by simp [Uf]) ?_;exact rd 4 (by omega) (by omega) rfl
  ·have hbb:=hb [n0,n1,n3] (-s) (by omega);by_cases hc:Md T [n0,n1,n3]*(-s)>0
   ·rw [if_pos hc] at e1;refine go tt [.f rfl,.t rfl,.t (decide_eq_true hc)] rfl (by simp only [Uf]; first | exact ⟨⟨by omega,by omega⟩,hbb,hm,⟨by omega,by omega⟩,by decide,by omega,by omega⟩ | exact ⟨⟨by omega,by omega⟩,hbb,hm,by decide,by omega,by omega⟩) ?_;exact rd 3 (by omega) (by omega) (by rw [e1]; rfl)
   ·rw [if_neg hc] at e1;refine go tt [.f rfl,.t rfl,.f (decide_eq_false hc)] rfl (by simp only [Uf]; first | exact ⟨⟨by omega,by omega⟩,hbb,hm,⟨by omega,by omega⟩,by decide,by omega,by omega⟩ | exact ⟨⟨by omega,by omega⟩,hbb,hm,by decide,by omega,by omega⟩) ?_;exact rd 3 (by omega) (by omega) (by rw [e1]; rfl)
 ·have e1:=fs 3;have e2:Ds T s [n0,n1,n2,n3] (f 3) 3=if Md T [n0,n1,n2]*s>0 then P5 (f 3) [n0,n1,n2] (.bool true) else f 3:=rfl
  rw [e2] at e1;refine go tt [.t rfl] rfl trivial ?_;refine lp (S:=Nat) 4 (λL1 i=>(18,.v (.one (.int .i64 (i:Int))))::(10,.v (.one (.int .i64 (if i<=3 then (i:Int) else (i:Int)-1))))::L1) (λi=>[.mpb (f 3),.mpb T,.blk 95 [.int .i64 n0,.int .i64 n1,.int .i64 n2,.int .i64 n3],.blk 50 [.int .i64 (if 1<=i then n0 else 0),.int .i64 (if 2<=i then n1 else 0),.int .i64 (if 3<=i then n2 else 0)]]) (λi=>4-i) (λi=>i<=4) 0 (by decide) rfl (λ_ _=>rfl) rfl λi hi=>?_
  rcases (show i=0\/i=1\/i=2\/i=3\/i=4 by omega) with rfl | rfl | rfl | rfl | rfl
  ·refine go tt [.t rfl,.i 0,.t rfl,.i 0] rfl (by simp [Uf]) ?_;exact rd 1 (by omega) (by omega) rfl
  ·refine go tt [.t rfl,.i 1,.t rfl,.i 1] rfl (by simp [Uf]) ?_;exact rd 2 (by omega) (by omega) rfl
  ·refine go tt [.t rfl,.i 2,.t rfl,.i 2] rfl (by simp [Uf]) ?_;exact rd 3 (by omega) (by omega) rfl
  ·refine go tt [.t rfl,.i 3,.f rfl] rfl (by simp [Uf]) ?_;exact rd 4 (by omega) (by omega) rfl
  ·have hbb:=hb [n0,n1,n2] s (by omega);by_cases hc:Md T [n0,n1,n2]*s>0
   ·rw [if_pos hc] at e1;refine go tt [.f rfl,.f rfl,.t (decide_eq_true hc)] rfl (by simp only [Uf]; first | exact ⟨⟨by omega,by omega⟩,hbb,hm,⟨by omega,by omega⟩,by decide,by omega,by omega⟩ | exact ⟨⟨by omega,by omega⟩,hbb,hm,by decide,by omega,by omega⟩) ?_;exact rd 4 (by omega) (by omega) (by rw [e1]; rfl)
   ·rw [if_neg hc] at e1;refine go tt [.f rfl,.f rfl,.f (decide_eq_false hc)] rfl (by simp only [Uf]; first | exact ⟨⟨by omega,by omega⟩,hbb,hm,⟨by omega,by omega⟩,by decide,by omega,by omega⟩ | exact ⟨⟨by omega,by omega⟩,hbb,hm,by decide,by omega,by omega⟩) ?_;exact rd 4 (by omega) (by omega) (by rw [e1]; rfl)
 ·exact ed tt [] [0,1] [.f rfl] rfl trivial
set_option maxHeartbeats 8000000 in
theorem Q11 {l:List Pt} {a:Tm} (hl:∀ p∈l,Sc p.c) (hn:l.length≤6) (ha:Va a):Mv Tryz.prog 61 [.one (.ow 0 0),.agg (ta a)] [.blk 86 (crz (.row (U4 l)) .nils)] [.one (.row (Gp (bcD l a)))] [.blk 86 (crz (.row (U4 l)) (.row (brD l a)))]:=by
 have hwl:=Qeh l;have cw:=Zhx (l:=l) (Zfw hl) (by omega);have hgb:=Qsb a;unfold brD bcD Q0h Qdg;obtain ⟨sg',hsg⟩:∃ s,s=Ch a:=⟨_,rfl⟩;obtain ⟨W,hW⟩:=nmE (C0 l);have hWs:∀ p∈W,Sc p.c:=λp hp=>hl p (Qky (by rw [<-hW]; exact hp))
 have mR:=λ{x y z:Pt} (hx:x∈W) (hy:y∈W) (hz:z∈W)=>Zb9 (t:=a) (hWs x hx) (hWs y hy) (hWs z hz) ha
 have mC:=λ{x y z u:Pt} (hx:x∈W) (hy:y∈W) (hz:z∈W) (hu:u∈W)=>Zb8 (t:=a) (hWs x hx) (hWs y hy) (hWs z hz) (hWs u hu) ha
 rw [<-hW] at cw hwl ⊢;rw [<-hsg] at hgb mR mC ⊢;have hW6:W.length<=6:=by omega
 have hTi:=λps=>Q21 hgb ps
 have hcp:(W.map Hn).length=W.length:=by simp
 have hcp2:=Nx W;have hdr:∀ i,(U4 W).drop i=U4 (W.drop i):=λi=>by unfold U4; rw [List.map_drop]
 have hel:∀ z∈U4 W,z.length=5:=λz hz=>by obtain ⟨p,_,rfl⟩:=Zi.1 hz; rfl
 have s7:∀ x:Ct,∀ y∈[Qla x],y.length=7:=λx y hy=>by rw [Qn.1 hy]; rfl
 have s3:∀ x:P3,∀ y∈[trL x],y.length=3:=λx y hy=>by rw [Qn.1 hy]; rfl
 obtain ⟨T,hT⟩:=nmE (Im (Qch sg' (Ft W)));obtain ⟨G,hG⟩:=nmE (Ii T (Qca sg' (Ae W)));have hTI:Qq5 T:=by rw [hT]; exact hTi _
 have hTm:Zbm T:=λk=>(hTI k).1
 have hGB:Q4h G:=λk=>by rw [hG]; exact Qu3 _ _ _ k
 rw [<-hT,<-hG];have e0:(Gp (((Bz 0 W).map (Qs9 sg'))))=[]:=rfl;refine Ha Tryz.func61 rfl ?_;refine go tt [.c [] cw,.o 6 99 7] rfl trivial ?_;refine lp (S:=Nat) 4 (λL1 i=>(42,.v (.one (.int .i64 (i:Int))))::(6,.v (.one (.orow 2 7 none)))::L1) (λi=>[.blk 86 (crz (.row (U4 l)) .nils),.blk 79 (ta a),.row false 99 7 (Gp ((Bz i W).map (Qs9 sg'))),.mpb (Im (Qch sg' (Bz i W)))]) (λi=>W.length-i) (λi=>i<=W.length) 0 (Qg _) rfl (λ_ _=>rfl) rfl λi hi=>?_
 by_cases hlt:i<W.length
 ·obtain ⟨x,hx⟩:=gxE (l:=W) (i:=i) hlt;have xm:=Qa hx;obtain ⟨V,hV⟩:=nmE (W.drop (i+1));have hVl:V.length=W.length-(i+1):=by rw [hV,Xp]
  have hVm:∀ p∈V,p∈W:=λp hp=>by rw [hV] at hp; exact Q3 hp
  have eV:(U4 W).drop (i+1)=U4 V:=by rw [hdr,<-hV]
  rw [<-Qj1 W x i];refine go tt [.t (decide_eq_true (by omega)),.x (Tw hx),.r 49 (eI (b:=((i+1:Nat):Int)) (by omega)),.i (i+1),.r 50 (Qi2 eV)] rfl (by simp only [Uf]; (repeat' apply And.intro) <;> first | omega | exact hel) ?_;have hVr:=Nx V;refine lp (S:=Nat) 5 (λL1 j=>(52,.v (.one (.int .i64 (j:Int))))::(6,.v (.one (.orow 2 7 none)))::L1) (λj=>[.blk 86 (crz (.row (U4 l)) .nils),.blk 79 (ta a),.row false 99 7 (Gp ((p3j W x i j).map (Qs9 sg'))),.mpb (Im (Qch sg' (p3j W x i j))),.blk 114 (Hn x)]) (λj=>V.length-j) (λj=>j<=V.length) 0 (Qg _) rfl (λ_ _=>rfl) rfl λj hj=>?_
  by_cases hltj:j<V.length
  ·obtain ⟨y,hy⟩:=gxE (l:=V) (i:=j) hltj;have ym:=hVm y (Qa hy);have hy':(W.drop (i+1))[j]? = some y:=by rw [<-hV]; exact hy
   obtain ⟨U,hU⟩:=nmE (V.drop (j+1));have hUl:U.length=V.length-(j+1):=by rw [hU,Xp]
   have hUm:∀ p∈U,p∈W:=λp hp=>by rw [hU] at hp; exact hVm p (Q3 hp)
   have hUW:U=(W.drop (i+1)).drop (j+1):=by rw [hU,hV]
   have eU:(U4 W).drop (i+j+2)=U4 U:=by rw [hdr,hU,hV,Yl]; congr 2; omega
   have hUr:=Nx U;rw [<-Qj3 W x y i j];refine go tt [.t (decide_eq_true (by omega)),.x (Tw hy),.r 61 (eI (b:=((i+j+2:Nat):Int)) (by omega)),.i (i+j+2),.r 62 (Qi2 eU)] rfl (by simp only [Uf]; (repeat' apply And.intro) <;> first | omega | exact hel) ?_;refine lp (S:=Nat) 6 (λL1 k=>(64,.v (.one (.int .i64 (k:Int))))::(6,.v (.one (.orow 2 7 none)))::L1) (λk=>[.blk 86 (crz (.row (U4 l)) .nils),.blk 79 (ta a),.row false 99 7 (Gp ((p3k W x y i j k).map (Qs9 sg'))),.mpb (Im (Qch sg' (p3k W x y i j k))),.blk 114 (Hn x),.blk 114 (Hn y)]) (λk=>U.length-k) (λk=>k<=U.length) 0 (Qg _) rfl (λ_ _=>rfl) rfl λk hk=>?_
   by_cases hltk:k<U.length
   ·obtain ⟨z,hz⟩:=gxE (l:=U) (i:=k) hltk;have zm:=hUm z (Qa hz);have hlen:=Q0t hW6 (k:=k) hx hy';have en:=Qj2 (x:=x) (y:=y) (by rw [<-hUW]; exact hz);have et:=Qx4 sg' (p3k W x y i j k) (x,y,z);rw [<-en] at et;refine go tt [.t (decide_eq_true (by omega)),.x (Tw hz),.c [] (mR xm ym zm),.s (sz:=7) (s7 _)] rfl (by simp [Uf,Lx] <;> omega) ?_;exact rd (k+1) (by omega) hltk (by rw [et,en,Jm]; simp [Gp]; rfl)
   ·have e:=Qpm (x:=x) (k:=k) hy' (by rw [<-hUW]; omega);rw [e];refine go tt [.f (decide_eq_false (by omega))] rfl (by simp [Uf] <;> omega) ?_;exact rd (j+1) (by omega) hltj rfl
  ·have e:=Qpl (x:=x) (j:=j) hx (by rw [<-hV]; omega);rw [e];refine go tt [.f (decide_eq_false (by omega))] rfl (by simp [Uf] <;> omega) ?_;exact rd (i+1) (by omega) hlt rfl
 rw [Q1k (show i=W.length by omega),<-hT];have hiW:¬i<W.length:=hlt;clear hlt;obtain ⟨C3,hC3⟩:=nmE ((Ft W).map (Qs9 sg'));have hC3l:C3.length<=20:=by rw [hC3,Zc]; exact (Qd5 hW6).1
 rw [<-hC3];refine go tt [.f (decide_eq_false (by omega))] rfl trivial ?_;have eC:Gp C3=Gp (C3++(Cx 0 W).map (Qof sg')):=by rw [show Cx 0 W=[] from rfl,Jb,Xo]
 rw [eC];refine lp (S:=Nat) 5 (λL1 i=>(97,.v (.one (.int .i64 (i:Int))))::(6,.v (.one (.orow 2 7 none)))::L1) (λi=>[.blk 86 (crz (.row (U4 l)) .nils),.blk 79 (ta a),.row false 99 7 (Gp (C3++(Cx i W).map (Qof sg'))),.mpb T,.mpb (Ii T (Qca sg' (Cx i W)))]) (λi=>W.length-i) (λi=>i<=W.length) 0 (Qg _) rfl (λ_ _=>rfl) rfl λi hi=>?_
 by_cases hlt:i<W.length
 ·obtain ⟨x,hx⟩:=gxE (l:=W) (i:=i) hlt;have xm:=Qa hx;obtain ⟨V,hV⟩:=nmE (W.drop (i+1));have hVl:V.length=W.length-(i+1):=by rw [hV,Xp]
  have hVm:∀ p∈V,p∈W:=λp hp=>by rw [hV] at hp; exact Q3 hp
  have eV:(U4 W).drop (i+1)=U4 V:=by rw [hdr,<-hV]
  have hVr:=Nx V;rw [<-Q8r W x i];refine go tt [.t (decide_eq_true (by omega)),.x (Tw hx),.r 104 (eI (b:=((i+1:Nat):Int)) (by omega)),.i (i+1),.r 105 (Qi2 eV)] rfl (by simp only [Uf]; (repeat' apply And.intro) <;> first | omega | exact hel) ?_;refine lp (S:=Nat) 6 (λL1 j=>(107,.v (.one (.int .i64 (j:Int))))::(6,.v (.one (.orow 2 7 none)))::L1) (λj=>[.blk 86 (crz (.row (U4 l)) .nils),.blk 79 (ta a),.row false 99 7 (Gp (C3++(p4j W x i j).map (Qof sg'))),.mpb T,.mpb (Ii T (Qca sg' (p4j W x i j))),.blk 114 (Hn x)]) (λj=>V.length-j) (λj=>j<=V.length) 0 (Qg _) rfl (λ_ _=>rfl) rfl λj hj=>?_
  by_cases hltj:j<V.length
  ·obtain ⟨y,hy⟩:=gxE (l:=V) (i:=j) hltj;have ym:=hVm y (Qa hy);have hy':(W.drop (i+1))[j]? = some y:=by rw [<-hV]; exact hy
   obtain ⟨U,hU⟩:=nmE (V.drop (j+1));have hUl:U.length=V.length-(j+1):=by rw [hU,Xp]
   have hUm:∀ p∈U,p∈W:=λp hp=>by rw [hU] at hp; exact hVm p (Q3 hp)
   have hUW:U=(W.drop (i+1)).drop (j+1):=by rw [hU,hV]
   have eU:(U4 W).drop (i+j+2)=U4 U:=by rw [hdr,hU,hV,Yl]; congr 2; omega
   have hUr:=Nx U;rw [<-Q8s W x y i j];refine go tt [.t (decide_eq_true (by omega)),.x (Tw hy),.r 116 (eI (b:=((i+j+2:Nat):Int)) (by omega)),.i (i+j+2),.r 117 (Qi2 eU)] rfl (by simp only [Uf]; (repeat' apply And.intro) <;> first | omega | exact hel) ?_;refine lp (S:=Nat) 7 (λL1 k=>(119,.v (.one (.int .i64 (k:Int))))::(6,.v (.one (.orow 2 7 none)))::L1) (λk=>[.blk 86 (crz (.row (U4 l)) .nils),.blk 79 (ta a),.row false 99 7 (Gp (C3++(p4k W x y i j k).map (Qof sg'))),.mpb T,.mpb (Ii T (Qca sg' (p4k W x y i j k))),.blk 114 (Hn x),.blk 114 (Hn y)]) (λk=>U.length-k) (λk=>k<=U.length) 0 (Qg _) rfl (λ_ _=>rfl) rfl λk hk=>?_
   by_cases hltk:k<U.length
   ·obtain ⟨z,hz⟩:=gxE (l:=U) (i:=k) hltk;have zm:=hUm z (Qa hz);have hz':((W.drop (i+1)).drop (j+1))[k]? = some z:=by rw [<-hUW]; exact hz
    obtain ⟨R,hR⟩:=nmE (U.drop (k+1));have hRl:R.length=U.length-(k+1):=by rw [hR,Xp]
    have hRm:∀ p∈R,p∈W:=λp hp=>by rw [hR] at hp; exact hUm p (Q3 hp)
    have hRW:R=((W.drop (i+1)).drop (j+1)).drop (k+1):=by rw [hR,hUW]
    have eR:(U4 W).drop (i+j+k+3)=U4 R:=by rw [hdr,hRW,Yl,Yl]; congr 2; omega
    have hRr:=Nx R;rw [<-Q8u W x y z i j k];refine go tt [.t (decide_eq_true (by omega)),.x (Tw hz),.r 130 (eI (b:=((i+j+k+3:Nat):Int)) (by omega)),.i (i+j+k+3),.r 131 (Qi2 eR)] rfl (by simp only [Uf]; (repeat' apply And.intro) <;> first | omega | exact hel) ?_;refine lp (S:=Nat) 8 (λL1 m=>(133,.v (.one (.int .i64 (m:Int))))::(6,.v (.one (.orow 2 7 none)))::L1) (λm=>[.blk 86 (crz (.row (U4 l)) .nils),.blk 79 (ta a),.row false 99 7 (Gp (C3++(p4m W x y z i j k m).map (Qof sg'))),.mpb T,.mpb (Ii T (Qca sg' (p4m W x y z i j k m))),.blk 114 (Hn x),.blk 114 (Hn y),.blk 114 (Hn z)]) (λm=>R.length-m) (λm=>m<=R.length) 0 (Qg _) rfl (λ_ _=>rfl) rfl λm hm=>?_
    by_cases hltm:m<R.length
    ·obtain ⟨u,hu⟩:=gxE (l:=R) (i:=m) hltm;have um:=hRm u (Qa hu);have hlen:=Zel hW6 (m:=m) hx hy' hz';have en:=Q8t (x:=x) (y:=y) (z:=z) (by rw [<-hRW]; exact hu);have et:=Qwf sg' T (p4m W x y z i j k m) (x,y,z,u);rw [<-en] at et;have cf:=Zh0 (F:=Ii T (Qca sg' (p4m W x y z i j k m))) (s:=(Qsz sg' x y z u).want) (n0:=x.id) (n1:=y.id) (n2:=z.id) (n3:=u.id) hTI (hgb _);refine go tt [.t (decide_eq_true (by omega)),.x (Tw hu),.c [] (mC xm ym zm um),.s (sz:=7) (s7 _),.c [4,3] cf] rfl (by simp [Uf,Lx] <;> omega) ?_;exact rd (m+1) (by omega) hltm (by rw [et,en,Jm,<-Ze]; simp [Gp]; rfl)
    ·have e:=Zek (x:=x) (y:=y) (m:=m) hz' (by rw [<-hRW]; omega);rw [e];refine go tt [.f (decide_eq_false (by omega))] rfl (by simp [Uf] <;> omega) ?_;exact rd (k+1) (by omega) hltk rfl
   ·have e:=Zej (x:=x) (k:=k) hy' (by rw [<-hUW]; omega);rw [e];refine go tt [.f (decide_eq_false (by omega))] rfl (by simp [Uf] <;> omega) ?_;exact rd (j+1) (by omega) hltj rfl
  ·have e:=Zei (x:=x) (j:=j) hx (by rw [<-hV]; omega);rw [e];refine go tt [.f (decide_eq_false (by omega))] rfl (by simp [Uf] <;> omega) ?_;exact rd (i+1) (by omega) hlt rfl
 rw [Ze1 (show i=W.length by omega),<-hG];obtain ⟨C4,hC4⟩:=nmE (C3++(Ae W).map (Qof sg'));rw [<-hC4];refine go tt [.f (decide_eq_false (by omega))] rfl trivial ?_;refine ozM 0 13 50 3 rfl rfl ?_;have eT:([]:List (List LV))=Nz ((Bz 0 W).filter (isT T G)):=rfl;rw [eT];refine lp (S:=Nat) 6 (λL1 i=>(174,.v (.one (.int .i64 (i:Int))))::L1) (λi=>[.blk 86 [.bool false,.nils,.bool false,.nils,.bool false,.nils,.bool false,.nils,.bool false,.nils,.nils,.int .i64 0,.row (U4 l),.orow 5 3 none],.blk 79 (ta a),.row false 99 7 (Gp C4),.mpb T,.mpb G,.row false 50 3 (Nz ((Bz i W).filter (isT T G)))]) (λi=>W.length-i) (λi=>i<=W.length) 0 (Qg _) rfl (λ_ _=>rfl) rfl λi hi=>?_
 by_cases hlt:i<W.length
 ·obtain ⟨x,hx⟩:=gxE (l:=W) (i:=i) hlt;obtain ⟨V,hV⟩:=nmE (W.drop (i+1));have hVl:V.length=W.length-(i+1):=by rw [hV,Xp]
  have eV:(U4 W).drop (i+1)=U4 V:=by rw [hdr,<-hV]
  have hVr:=Nx V;rw [<-Qj1 W x i];refine go tt [.t (decide_eq_true (by omega)),.x (Tw hx),.r 181 (eI (b:=((i+1:Nat):Int)) (by omega)),.i (i+1),.r 182 (Qi2 eV)] rfl (by simp only [Uf]; (repeat' apply And.intro) <;> first | omega | exact hel) ?_;refine lp (S:=Nat) 7 (λL1 j=>(184,.v (.one (.int .i64 (j:Int))))::L1) (λj=>[.blk 86 [.bool false,.nils,.bool false,.nils,.bool false,.nils,.bool false,.nils,.bool false,.nils,.nils,.int .i64 0,.row (U4 l),.orow 5 3 none],.blk 79 (ta a),.row false 99 7 (Gp C4),.mpb T,.mpb G,.row false 50 3 (Nz ((p3j W x i j).filter (isT T G))),.blk 114 (Hn x)]) (λj=>V.length-j) (λj=>j<=V.length) 0 (Qg _) rfl (λ_ _=>rfl) rfl λj hj=>?_
  by_cases hltj:j<V.length
  ·obtain ⟨y,hy⟩:=gxE (l:=V) (i:=j) hltj;have hy':(W.drop (i+1))[j]? = some y:=by rw [<-hV]; exact hy
   obtain ⟨U,hU⟩:=nmE (V.drop (j+1));have hUl:U.length=V.length-(j+1):=by rw [hU,Xp]
   have hUW:U=(W.drop (i+1)).drop (j+1):=by rw [hU,hV]
   have eU:(U4 W).drop (i+j+2)=U4 U:=by rw [hdr,hU,hV,Yl]; congr 2; omega
   have hUr:=Nx U;rw [<-Qj3 W x y i j];refine go tt [.t (decide_eq_true (by omega)),.x (Tw hy),.r 193 (eI (b:=((i+j+2:Nat):Int)) (by omega)),.i (i+j+2),.r 194 (Qi2 eU)] rfl (by simp only [Uf]; (repeat' apply And.intro) <;> first | omega | exact hel) ?_;refine lp (S:=Nat) 8 (λL1 k=>(196,.v (.one (.int .i64 (k:Int))))::L1) (λk=>[.blk 86 [.bool false,.nils,.bool false,.nils,.bool false,.nils,.bool false,.nils,.bool false,.nils,.nils,.int .i64 0,.row (U4 l),.orow 5 3 none],.blk 79 (ta a),.row false 99 7 (Gp C4),.mpb T,.mpb G,.row false 50 3 (Nz ((p3k W x y i j k).filter (isT T G))),.blk 114 (Hn x),.blk 114 (Hn y)]) (λk=>U.length-k) (λk=>k<=U.length) 0 (Qg _) rfl (λ_ _=>rfl) rfl λk hk=>?_
   by_cases hltk:k<U.length
   ·obtain ⟨z,hz⟩:=gxE (l:=U) (i:=k) hltk;have hlen:=Q0t hW6 (k:=k) hx hy';have en:=Qj2 (x:=x) (y:=y) (by rw [<-hUW]; exact hz);have hfl:=Kn (isT T G) (p3k W x y i j k);have htl:=O5 ((p3k W x y i j k).filter (isT T G));by_cases h1:Md T [x.id,y.id,z.id]≠0
    ·by_cases h2:Lf G [x.id,y.id,z.id]=true
     ·have ef:isT T G (x,y,z)=false:=by unfold isT Se; simp [h2]
      have eF:=Q68 (ps:=p3k W x y i j k) ef;rw [<-en] at eF;refine go tt [.t (decide_eq_true (by omega)),.x (Tw hz),.g 211 true (decide_eq_true h1),.f (by rw [h2]; rfl)] rfl (by simp only [Uf]; (repeat' apply And.intro) <;> first | exact hTm | exact hGB | omega | (simp only [Q7,Jw]; omega)) ?_;exact rd (k+1) (by omega) hltk (by rw [eF]; rfl)
     ·have h2:Lf G [x.id,y.id,z.id]=false:=by simpa using h2
      have ef:isT T G (x,y,z)=true:=by unfold isT Se; simp [h2,h1]
      have eF:=Zii (ps:=p3k W x y i j k) ef;rw [<-en] at eF;refine go tt [.t (decide_eq_true (by omega)),.x (Tw hz),.g 211 true (decide_eq_true h1),.t (by rw [h2]; rfl),.s (sz:=3) (s3 (x,y,z))] rfl (by simp only [Uf]; (repeat' apply And.intro) <;> first | exact hTm | exact hGB | omega | (simp only [Q7,Jw]; omega)) ?_;exact rd (k+1) (by omega) hltk (by rw [eF]; simp [Nz]; rfl)
    ·have ef:isT T G (x,y,z)=false:=by unfold isT Se; simp [h1]
     have eF:=Q68 (ps:=p3k W x y i j k) ef;rw [<-en] at eF;refine go tt [.t (decide_eq_true (by omega)),.x (Tw hz),.g 211 false (decide_eq_false h1),.f rfl] rfl (by simp only [Uf]; (repeat' apply And.intro) <;> first | exact hTm | exact hGB | omega | (simp only [Q7,Jw]; omega)) ?_;exact rd (k+1) (by omega) hltk (by rw [eF]; rfl)
   ·have e:=Qpm (x:=x) (k:=k) hy' (by rw [<-hUW]; omega);rw [e];refine go tt [.f (decide_eq_false (by omega))] rfl (by simp [Uf] <;> omega) ?_;exact rd (j+1) (by omega) hltj rfl
  ·have e:=Qpl (x:=x) (j:=j) hx (by rw [<-hV]; omega);rw [e];refine go tt [.f (decide_eq_false (by omega))] rfl (by simp [Uf] <;> omega) ?_;exact rd (i+1) (by omega) hlt rfl
 rw [Q1k (show i=W.length by omega)];rw [hC4,hC3];exact ed tt [2,5] [0] [.f (decide_eq_false (by omega))] rfl trivial
end Orr
namespace Orr
open Go Go.Proofs Orq
theorem Q93 {x y:Int} (hx:-9223372036854775808<=x/\x<=9223372036854775807) (hy:-9223372036854775808<=y/\y<=9223372036854775807):Sc (Qnn x y):=⟨Crv.nml _,((Qrr hx hy).norm (by decide)).mono (by decide) (by decide)⟩
theorem Sc.pt {p:Pt} (h:Sc p.c):Quu 4294967294 1073741824 p:=⟨h.n,h.c.mono (by decide) (by decide)⟩
end Orr
namespace Orr
open Go Go.Proofs Orq
set_option maxRecDepth 10000
theorem Qym {zs:List (List LV)} {qs l:List Pt} {x y x' y':LV} {n d:Int} (hz:IsPts 4294967294 1073741824 zs qs) (hq:qs.length≤6) (hnl:Ta [] qs=(l,0)) (hl:∀ p∈l,Sc p.c) (hn:l.length≤6) (h1:Hp x y n) (h2:Hp x' y' d) (bn:Ur n≤4294967295) (bd:Ur d≤4294967295) (ht:Qs 400000 (Gd n d)) :
 Mv Tryz.prog 46 [.agg [x,y,x',y'],.one (.row zs)] [] [.one (.ow 0 0),.one (.int .i64 0)] [.blk 86 (crl (Q4s l (tq (Gd n d))) (U4 l) (brD l (tq (Gd n d))))]:=by
 have cn:=Zk0 hz hq;rw [hnl] at cn;have co:=Zk9 h1 h2 bn bd (ht.mono (by decide));have hv:=Zpm ht;have hB:=Zhf hl hn;have cb:=Q11 hl hn hv;have cg:=Q13 (T:=86) (r0:=U4 l) (r1:=brD l (tq (Gd n d))) hv (hB.p _ hv) (hB.n _ hv);obtain ⟨b,l1,rfl,rfl,_⟩:=h1;obtain ⟨b',l2,rfl,rfl,_⟩:=h2;refine Ha Tryz.func46 rfl ?_;exact ed tt [] [2] [.c [] cn,.f rfl,.c [] co,.c [2] cb,.c [2] cg] rfl trivial
abbrev Nv (e:Int×Int):List LV:=[.int .i64 e.1,.int .i64 e.2]
def B5 (l:List (Int×Int)):List (List LV):=l.map Nv
theorem Gx (l:List (Int×Int)):(B5 l).length=l.length:=by simp [B5]
theorem Qot {l:List (Int×Int)} {i:Nat} {e:Int×Int} (h:l[i]? = some e):(B5 l)[i]? = some (Nv e):=Gz h
theorem Qai (l:List (Int×Int)):∀ c∈B5 l,c.length=2:=λc hc=>by
 obtain ⟨x,_,rfl⟩:=Zi.1 hc; rfl
def Nm (a b:Int×Int):Bool:=decide (a.1<b.1) || (decide (a.1=b.1) && decide (a.2<b.2))
def B9 (e:Int×Int):List (Int×Int)->Nat
 | []=>0
 | x::l=>if Nm x e=true then B9 e l+1 else 0
theorem Qdn (e:Int×Int):∀ l,B9 e l<=l.length
 | []=>Qm _
 |
  x::l=>by
  have:=Qdn e l;simp only [B9,Q7]
  split <;> omega
theorem Qpu {e x:Int×Int} {l:List (Int×Int)} {k:Nat} (hx:l[k]? = some x) (h:Nm x e=true):B9 e (l.drop k)=B9 e (l.drop (k+1))+1:=by
 obtain ⟨hk,hx⟩:=Qc.1 hx;rw [Zu hk,hx];simp only [B9,h,if_true]
theorem Qkb {e x:Int×Int} {l:List (Int×Int)} {k:Nat} (hx:l[k]? = some x) (h:Nm x e=false):B9 e (l.drop k)=0:=by
 obtain ⟨hk,hx⟩:=Qc.1 hx;rw [Zu hk,hx];simp [B9,h]
theorem Qka {e:Int×Int} {l:List (Int×Int)} {k:Nat} (h:¬k<l.length):B9 e (l.drop k)=0:=by
 rw [Ym (by omega)]; rfl
def Eu (out:List (Int×Int)) (e:Int×Int):List (Int×Int):=if out[B9 e out]? = some e then out else out.take (B9 e out)++e::out.drop (B9 e out)
theorem Ev (out:List (Int×Int)) (e:Int×Int):(Eu out e).length<=out.length+1:=by
 have:=Qdn e out;unfold Eu
 split
 ·omega
 ·simp; omega
def Qbw (out:List (Int×Int)) (m:P3):List (Int×Int):=Eu (Eu (Eu out (m.1.id,m.2.1.id)) (m.1.id,m.2.2.id)) (m.2.1.id,m.2.2.id)
def Ly (ts:List P3):List (Int×Int):=ts.foldl Qbw []
theorem Qr4 {ts:List P3} {i:Nat} {m:P3} (h:ts[i]? = some m):Ly (ts.take (i+1))=Qbw (Ly (ts.take i)) m:=by
 rw [Xc,h]; simp [Ly,Yx]
theorem Qv5 (out:List (Int×Int)) (m:P3):(Qbw out m).length<=out.length+3:=by
 have h1:=Ev out (m.1.id,m.2.1.id);have h2:=Ev (Eu out (m.1.id,m.2.1.id)) (m.1.id,m.2.2.id);have h3:=Ev (Eu (Eu out (m.1.id,m.2.1.id)) (m.1.id,m.2.2.id)) (m.2.1.id,m.2.2.id);unfold Qbw; omega
theorem Qi4:∀ (ts:List P3) (out:List (Int×Int)),(ts.foldl Qbw out).length<=out.length+3*ts.length
 | [],out=>by simp
 |
  m::ts,out=>by
  have h1:=Qi4 ts (Qbw out m);have h2:=Qv5 out m;simp only [Z8,Q7]; omega
theorem P9 {O:List (Int×Int)} {z:List LV} {e:Int×Int} {k m:Nat} {l2:List (List LV)} (hk:k<=O.length) (hp:B9 e O=k) (hne:O[k]? ≠ some e) (hm:m=O.length-k) (h2:l2.take m=((B5 O++[z]).drop k).take m) :
 ((B5 O++[z]).take (k+1)++(l2.take m++(B5 O++[z]).drop (k+1+m))).set k (Nv e)=B5 (Eu O e):=by
 rw [h2,<-Ze,Qsk (B5 O) z (Nv e) (by rw [Gx]; omega) (by rw [Gx]; omega)];simp [Eu,hp,hne,B5,Yv,Wo]
theorem Qih {c:Cr} {r0:List (List LV)} {ts:List P3} (ht:ts.length<=1000):Mv Tryz.prog 10 [.one (.ow 0 0)] [.blk 86 (crl c r0 (Nz ts))] [.one (.row (Nz ts))] [.blk 86 (crl c r0 (Nz ts))]:=by
 have hl:=O5 ts;have h3:∀ y∈Nz ts,y.length=3:=λy hy=>by obtain ⟨m,_,rfl⟩:=Zi.1 hy; rfl
 refine Ha Tryz.func10 rfl ?_;exact ed tt [1] [0] [.s (sz:=3) h3] rfl (by simp [Uf] <;> omega)
set_option maxHeartbeats 8000000 in
theorem Q4y {c:Cr} {r0:List (List LV)} {ts:List P3} (ht:ts.length<=1000):Mv Tryz.prog 58 [.one (.ow 0 0)] [.blk 86 (crl c r0 (Nz ts))] [.one (.row (B5 (Ly ts)))] [.blk 86 (crl c r0 (Nz ts))]:=by
 have hl:=O5 ts;refine Ha Tryz.func58 rfl ?_;refine go tt [.o 3 143 2] rfl trivial ?_;refine lp (S:=Nat) 2 (λL1 i=>(14,.v (.one (.int .i64 (i:Int))))::(3,.v (.one (.orow 1 2 none)))::L1) (λi=>[.blk 86 (crl c r0 (Nz ts)),.row false 143 2 (B5 (Ly (ts.take i)))]) (λi=>ts.length-i) (λi=>i<=ts.length) 0 (Qg _) rfl (λ_ _=>rfl) rfl λi hi=>?_
 by_cases hlt:i<ts.length
 ·obtain ⟨m,hm⟩:=gxE (l:=ts) (i:=i) hlt;have hst:=Qr4 hm;have hEl:=Qi4 (ts.take i) [];have htk:(ts.take i).length<=1000:=by rw [Qx]; omega
  obtain ⟨G,hG⟩:=nmE (Ly (ts.take i));have hGl:G.length<=3000:=by rw [hG]; unfold Ly; simp only [List.length_nil] at hEl; omega
  rw [<-hG] at hst ⊢;obtain ⟨g,hg⟩:∃ g:Nat->List (Int×Int),g=λk=>([(m.1.id,m.2.1.id),(m.1.id,m.2.2.id),(m.2.1.id,m.2.2.id)].take k).foldl Eu G:=⟨_,rfl⟩
  have g0:g 0=G:=by rw [hg]; rfl
  have g1:g 1=Eu (g 0) (m.1.id,m.2.1.id):=by rw [hg]; rfl
  have g2:g 2=Eu (g 1) (m.1.id,m.2.2.id):=by rw [hg]; rfl
  have g3:g 3=Eu (g 2) (m.2.1.id,m.2.2.id):=by rw [hg]; rfl
  have g4:g 3=Qbw G m:=by rw [hg]; rfl
  clear hg;have l1:=Ev (g 0) (m.1.id,m.2.1.id);have l2:=Ev (g 1) (m.1.id,m.2.2.id);have l3:=Ev (g 2) (m.2.1.id,m.2.2.id);rw [<-g1] at l1;rw [<-g2] at l2;rw [<-g3] at l3;rw [<-g4] at hst;rw [<-g0] at hGl ⊢;refine go tt [.t (decide_eq_true (by omega)),.x (Qec hm),.i 0,.i 1,.i 0,.i 2,.i 1,.i 2] rfl (by simp [Uf]) ?_;refine lp (S:=Nat) 3 (λL1 k=>(34,.v (.one (.int .i64 (k:Int))))::(3,.v (.one (.orow 1 2 none)))::L1) (λk=>[.blk 86 (crl c r0 (Nz ts)),.row false 143 2 (B5 (g k)),.blk 50 (trL m)]) (λk=>3-k) (λk=>k<=3) 0 (by decide) rfl (λ_ _=>rfl) rfl λk hk=>?_
  rcases (show k=0\/k=1\/k=2\/k=3 by omega) with rfl | rfl | rfl | rfl
  ·obtain ⟨e,he⟩:∃ e:Int×Int,e=(m.1.id,m.2.1.id):=⟨_,rfl⟩;have gs:g 1=Eu (g 0) e:=by rw [he]; exact g1
   have hOl:(g 0).length<=4000:=by omega
   obtain ⟨O,hO⟩:=nmE (g 0);rw [<-hO] at gs hOl ⊢;have e1:m.1.id=e.1:=by rw [he]
   have e2:m.2.1.id=e.2:=by rw [he]
   rw [show B5 O=B5 O from rfl];refine go tt [.t rfl,.i 0] rfl (by simp [Uf]) ?_;rw [e1,e2];have hpl:=Qdn e O;have hol:=Gx O;refine lp (S:=Nat) 4 (λL1 j=>(8,.v (.one (.int .i64 (j:Int))))::L1) (λ_=>[.blk 86 (crl c r0 (Nz ts)),.row false 143 2 (B5 O),.blk 50 (trL m),.blk 143 (Nv e)]) (λj=>O.length-j) (λj=>j<=O.length/\B9 e (O.drop j)+j=B9 e O) 0 ⟨Qg _,by rw [Xl]; rfl⟩ rfl (λ_ _=>rfl) rfl λj ⟨hj,hp⟩=>?_
   by_cases hjl:j<O.length
   ·obtain ⟨x,hx⟩:=gxE (l:=O) (i:=j) hjl;have hxe:=Qot hx;by_cases hle:Nm x e=true
    ·have hp':=Qpu hx hle;by_cases c1:x.1<e.1
     ·refine go tt [.g 41 true (decide_eq_true (by omega)),.i j,.i 0,.x hxe,.i 0,.g 50 true (decide_eq_true c1),.t rfl] rfl (by simp [Uf] <;> omega) ?_;exact rd (j+1) (by omega) ⟨hjl,by omega⟩ rfl
     ·have hc:x.1=e.1/\x.2<e.2:=by unfold Nm at hle; simpa [c1] using hle
      refine go tt [.g 41 true (decide_eq_true (by omega)),.i j,.i 0,.x hxe,.i 0,.g 50 false (decide_eq_false c1),.i j,.i 0,.x hxe,.i 0,.g 59 true (decide_eq_true hc.1),.i j,.i 1,.x hxe,.i 1,.t (decide_eq_true hc.2)] rfl (by simp [Uf] <;> omega) ?_;exact rd (j+1) (by omega) ⟨hjl,by omega⟩ rfl
    ·have hle:Nm x e=false:=by simpa using hle
     have hp':=Qkb hx hle;have hpj:B9 e O=j:=by omega
     have c1:¬x.1<e.1:=λh=>by unfold Nm at hle; simp [h] at hle
     have out:∀ {Q:Prop},(x.1=e.1->¬x.2<e.2->Q)->(x.1≠e.1->Q)->Q:=λh1 h2=>by
      by_cases h:x.1=e.1
      ·exact h1 h λh'=>by unfold Nm at hle; simp [h,h'] at hle
      ·exact h2 h
     by_cases heq:x=e
     ·have gs':g 1=O:=by rw [gs]; unfold Eu; rw [hpj,hx,heq,if_pos rfl]
      have c2:x.1=e.1:=by rw [heq]
      have c3:¬x.2<e.2:=by rw [heq]; exact Wn _
      refine go tt [.g 41 true (decide_eq_true (by omega)),.i j,.i 0,.x hxe,.i 0,.g 50 false (decide_eq_false c1),.i j,.i 0,.x hxe,.i 0,.g 59 true (decide_eq_true c2),.i j,.i 1,.x hxe,.i 1,.f (decide_eq_false c3),.g 77 true (decide_eq_true (by omega)),.i j,.x hxe,.t (decide_eq_true (by rw [heq]))] rfl (by simp [Uf] <;> omega) ?_;exact rd 1 (by omega) (by omega) (by rw [gs']; rfl)
     ·have hne:O[j]? ≠ some e:=λh=>by rw [hx] at h; injection h with h; exact heq h
      have hneL:¬[x.1,x.2]=[e.1,e.2]:=λh=>by simp at h; exact heq (Prod.ext h.1 h.2)
      have hz:∀ y∈[Nv e],y.length=2:=λy hy=>by rw [Qn.1 hy]; rfl
      have h22:∀ y∈B5 O++[Nv e],y.length=2:=λy hy=>by
       rcases Qw.1 hy with hy | hy
       ·exact Qai O y hy
       ·exact hz y hy
      cases j with
      |
       zero =>
       have fz:=P9 (z:=Nv e) (l2:=(B5 O++[Nv e]).take ((B5 O++[Nv e]).length-0)) (k:=0) (m:=O.length) (by omega) hpj hne (by omega) (by congr 1; exact Qj (by simp));refine out (λc2 c3=>?_) λc2=>?_
       ·refine go tt [.g 41 true (decide_eq_true (by omega)),.i 0,.i 0,.x hxe,.i 0,.g 50 false (decide_eq_false c1),.i 0,.i 0,.x hxe,.i 0,.g 59 true (decide_eq_true c2),.i 0,.i 1,.x hxe,.i 1,.f (decide_eq_false c3),.g 77 true (decide_eq_true (by omega)),.i 0,.x hxe,.f (decide_eq_false hneL),.s (sz:=2) hz,.r 91 (eI (b:=((0+1:Nat):Int)) (by simp)),.i (0+1),.i 0,.s (sz:=2) (λy hy=>h22 y (Ql hy)),.i (O.length),.i 0] rfl (by simp [Uf,Gx] <;> omega) ?_;exact rd 1 (by omega) (by omega) (by rw [gs,<-fz]; rfl)
       ·refine go tt [.g 41 true (decide_eq_true (by omega)),.i 0,.i 0,.x hxe,.i 0,.g 50 false (decide_eq_false c1),.i 0,.i 0,.x hxe,.i 0,.g 59 false (decide_eq_false c2),.f rfl,.g 77 true (decide_eq_true (by omega)),.i 0,.x hxe,.f (decide_eq_false hneL),.s (sz:=2) hz,.r 91 (eI (b:=((0+1:Nat):Int)) (by simp)),.i (0+1),.i 0,.s (sz:=2) (λy hy=>h22 y (Ql hy)),.i (O.length),.i 0] rfl (by simp [Uf,Gx] <;> omega) ?_;exact rd 1 (by omega) (by omega) (by rw [gs,<-fz]; rfl)
      |
       succ j =>
       have fz:=P9 (z:=Nv e) (l2:=((B5 O++[Nv e]).drop (j+1)).take ((B5 O++[Nv e]).length-(j+1))) (k:=j+1) (m:=O.length-(j+1)) (by omega) hpj hne (by omega) (by congr 1; exact Qj (by simp));refine out (λc2 c3=>?_) λc2=>?_
       ·refine go tt [.g 41 true (decide_eq_true (by omega)),.i (j+1),.i 0,.x hxe,.i 0,.g 50 false (decide_eq_false c1),.i (j+1),.i 0,.x hxe,.i 0,.g 59 true (decide_eq_true c2),.i (j+1),.i 1,.x hxe,.i 1,.f (decide_eq_false c3),.g 77 true (decide_eq_true (by omega)),.i (j+1),.x hxe,.f (decide_eq_false hneL),.s (sz:=2) hz,.r 91 (eI (b:=((j+1+1:Nat):Int)) (by simp)),.i (j+1+1),.i (j+1),.s (sz:=2) (λy hy=>h22 y (Q3 (Ql hy))),.i (O.length-(j+1)),.i (j+1)] rfl (by simp [Uf,Gx] <;> omega) ?_;exact rd 1 (by omega) (by omega) (by rw [gs,<-fz]; rfl)
       ·refine go tt [.g 41 true (decide_eq_true (by omega)),.i (j+1),.i 0,.x hxe,.i 0,.g 50 false (decide_eq_false c1),.i (j+1),.i 0,.x hxe,.i 0,.g 59 false (decide_eq_false c2),.f rfl,.g 77 true (decide_eq_true (by omega)),.i (j+1),.x hxe,.f (decide_eq_false hneL),.s (sz:=2) hz,.r 91 (eI (b:=((j+1+1:Nat):Int)) (by simp)),.i (j+1+1),.i (j+1),.s (sz:=2) (λy hy=>h22 y (Q3 (Ql hy))),.i (O.length-(j+1)),.i (j+1)] rfl (by simp [Uf,Gx] <;> omega) ?_;exact rd 1 (by omega) (by omega) (by rw [gs,<-fz]; rfl)
   ·have hpj:B9 e O=j:=by have:=Qka (e:=e) hjl; omega
    have hne:O[j]? ≠ some e:=λh=>hjl (Qc.1 h).1
    have hz:∀ y∈[Nv e],y.length=2:=λy hy=>by rw [Qn.1 hy]; rfl
    have h22:∀ y∈B5 O++[Nv e],y.length=2:=λy hy=>by
     rcases Qw.1 hy with hy | hy
     ·exact Qai O y hy
     ·exact hz y hy
    cases j with
    |
     zero =>
     have fz:=P9 (z:=Nv e) (l2:=(B5 O++[Nv e]).take ((B5 O++[Nv e]).length-0)) (k:=0) (m:=O.length) (by omega) hpj hne (by omega) (by congr 1; exact Qj (by simp));refine go tt [.g 41 false (decide_eq_false (by omega)),.f rfl,.g 77 false (decide_eq_false (by omega)),.f rfl,.s (sz:=2) hz,.r 91 (eI (b:=((0+1:Nat):Int)) (by simp)),.i (0+1),.i 0,.s (sz:=2) (λy hy=>h22 y (Ql hy)),.i (O.length),.i 0] rfl (by simp [Uf,Gx] <;> omega) ?_;exact rd 1 (by omega) (by omega) (by rw [gs,<-fz]; rfl)
    |
     succ j =>
     have fz:=P9 (z:=Nv e) (l2:=((B5 O++[Nv e]).drop (j+1)).take ((B5 O++[Nv e]).length-(j+1))) (k:=j+1) (m:=O.length-(j+1)) (by omega) hpj hne (by omega) (by congr 1; exact Qj (by simp));refine go tt [.g 41 false (decide_eq_false (by omega)),.f rfl,.g 77 false (decide_eq_false (by omega)),.f rfl,.s (sz:=2) hz,.r 91 (eI (b:=((j+1+1:Nat):Int)) (by simp)),.i (j+1+1),.i (j+1),.s (sz:=2) (λy hy=>h22 y (Q3 (Ql hy))),.i (O.length-(j+1)),.i (j+1)] rfl (by simp [Uf,Gx] <;> omega) ?_;exact rd 1 (by omega) (by omega) (by rw [gs,<-fz]; rfl)
  ·obtain ⟨e,he⟩:∃ e:Int×Int,e=(m.1.id,m.2.2.id):=⟨_,rfl⟩;have gs:g 2=Eu (g 1) e:=by rw [he]; exact g2
   have hOl:(g 1).length<=4000:=by omega
   obtain ⟨O,hO⟩:=nmE (g 1);rw [<-hO] at gs hOl ⊢;have e1:m.1.id=e.1:=by rw [he]
   have e2:m.2.2.id=e.2:=by rw [he]
   rw [show B5 O=B5 O from rfl];refine go tt [.t rfl,.i 1] rfl (by simp [Uf]) ?_;rw [e1,e2];have hpl:=Qdn e O;have hol:=Gx O;refine lp (S:=Nat) 4 (λL1 j=>(8,.v (.one (.int .i64 (j:Int))))::L1) (λ_=>[.blk 86 (crl c r0 (Nz ts)),.row false 143 2 (B5 O),.blk 50 (trL m),.blk 143 (Nv e)]) (λj=>O.length-j) (λj=>j<=O.length/\B9 e (O.drop j)+j=B9 e O) 0 ⟨Qg _,by rw [Xl]; rfl⟩ rfl (λ_ _=>rfl) rfl λj ⟨hj,hp⟩=>?_
   by_cases hjl:j<O.length
   ·obtain ⟨x,hx⟩:=gxE (l:=O) (i:=j) hjl;have hxe:=Qot hx;by_cases hle:Nm x e=true
    ·have hp':=Qpu hx hle;by_cases c1:x.1<e.1
     ·refine go tt [.g 41 true (decide_eq_true (by omega)),.i j,.i 0,.x hxe,.i 0,.g 50 true (decide_eq_true c1),.t rfl] rfl (by simp [Uf] <;> omega) ?_;exact rd (j+1) (by omega) ⟨hjl,by omega⟩ rfl
     ·have hc:x.1=e.1/\x.2<e.2:=by unfold Nm at hle; simpa [c1] using hle
      refine go tt [.g 41 true (decide_eq_true (by omega)),.i j,.i 0,.x hxe,.i 0,.g 50 false (decide_eq_false c1),.i j,.i 0,.x hxe,.i 0,.g 59 true (decide_eq_true hc.1),.i j,.i 1,.x hxe,.i 1,.t (decide_eq_true hc.2)] rfl (by simp [Uf] <;> omega) ?_;exact rd (j+1) (by omega) ⟨hjl,by omega⟩ rfl
    ·have hle:Nm x e=false:=by simpa using hle
     have hp':=Qkb hx hle;have hpj:B9 e O=j:=by omega
     have c1:¬x.1<e.1:=λh=>by unfold Nm at hle; simp [h] at hle
     have out:∀ {Q:Prop},(x.1=e.1->¬x.2<e.2->Q)->(x.1≠e.1->Q)->Q:=λh1 h2=>by
      by_cases h:x.1=e.1
      ·exact h1 h λh'=>by unfold Nm at hle; simp [h,h'] at hle
      ·exact h2 h
     by_cases heq:x=e
     ·have gs':g 2=O:=by rw [gs]; unfold Eu; rw [hpj,hx,heq,if_pos rfl]
      have c2:x.1=e.1:=by rw [heq]
      have c3:¬x.2<e.2:=by rw [heq]; exact Wn _
      refine go tt [.g 41 true (decide_eq_true (by omega)),.i j,.i 0,.x hxe,.i 0,.g 50 false (decide_eq_false c1),.i j,.i 0,.x hxe,.i 0,.g 59 true (decide_eq_true c2),.i j,.i 1,.x hxe,.i 1,.f (decide_eq_false c3),.g 77 true (decide_eq_true (by omega)),.i j,.x hxe,.t (decide_eq_true (by rw [heq]))] rfl (by simp [Uf] <;> omega) ?_;exact rd 2 (by omega) (by omega) (by rw [gs']; rfl)
     ·have hne:O[j]? ≠ some e:=λh=>by rw [hx] at h; injection h with h; exact heq h
      have hneL:¬[x.1,x.2]=[e.1,e.2]:=λh=>by simp at h; exact heq (Prod.ext h.1 h.2)
      have hz:∀ y∈[Nv e],y.length=2:=λy hy=>by rw [Qn.1 hy]; rfl
      have h22:∀ y∈B5 O++[Nv e],y.length=2:=λy hy=>by
       rcases Qw.1 hy with hy | hy
       ·exact Qai O y hy
       ·exact hz y hy
      cases j with
      |
       zero =>
       have fz:=P9 (z:=Nv e) (l2:=(B5 O++[Nv e]).take ((B5 O++[Nv e]).length-0)) (k:=0) (m:=O.length) (by omega) hpj hne (by omega) (by congr 1; exact Qj (by simp));refine out (λc2 c3=>?_) λc2=>?_
       ·refine go tt [.g 41 true (decide_eq_true (by omega)),.i 0,.i 0,.x hxe,.i 0,.g 50 false (decide_eq_false c1),.i 0,.i 0,.x hxe,.i 0,.g 59 true (decide_eq_true c2),.i 0,.i 1,.x hxe,.i 1,.f (decide_eq_false c3),.g 77 true (decide_eq_true (by omega)),.i 0,.x hxe,.f (decide_eq_false hneL),.s (sz:=2) hz,.r 91 (eI (b:=((0+1:Nat):Int)) (by simp)),.i (0+1),.i 0,.s (sz:=2) (λy hy=>h22 y (Ql hy)),.i (O.length),.i 0] rfl (by simp [Uf,Gx] <;> omega) ?_;exact rd 2 (by omega) (by omega) (by rw [gs,<-fz]; rfl)
       ·refine go tt [.g 41 true (decide_eq_true (by omega)),.i 0,.i 0,.x hxe,.i 0,.g 50 false (decide_eq_false c1),.i 0,.i 0,.x hxe,.i 0,.g 59 false (decide_eq_false c2),.f rfl,.g 77 true (decide_eq_true (by omega)),.i 0,.x hxe,.f (decide_eq_false hneL),.s (sz:=2) hz,.r 91 (eI (b:=((0+1:Nat):Int)) (by simp)),.i (0+1),.i 0,.s (sz:=2) (λy hy=>h22 y (Ql hy)),.i (O.length),.i 0] rfl (by simp [Uf,Gx] <;> omega) ?_;exact rd 2 (by omega) (by omega) (by rw [gs,<-fz]; rfl)
      |
       succ j =>
       have fz:=P9 (z:=Nv e) (l2:=((B5 O++[Nv e]).drop (j+1)).take ((B5 O++[Nv e]).length-(j+1))) (k:=j+1) (m:=O.length-(j+1)) (by omega) hpj hne (by omega) (by congr 1; exact Qj (by simp));refine out (λc2 c3=>?_) λc2=>?_
       ·refine go tt [.g 41 true (decide_eq_true (by omega)),.i (j+1),.i 0,.x hxe,.i 0,.g 50 false (decide_eq_false c1),.i (j+1),.i 0,.x hxe,.i 0,.g 59 true (decide_eq_true c2),.i (j+1),.i 1,.x hxe,.i 1,.f (decide_eq_false c3),.g 77 true (decide_eq_true (by omega)),.i (j+1),.x hxe,.f (decide_eq_false hneL),.s (sz:=2) hz,.r 91 (eI (b:=((j+1+1:Nat):Int)) (by simp)),.i (j+1+1),.i (j+1),.s (sz:=2) (λy hy=>h22 y (Q3 (Ql hy))),.i (O.length-(j+1)),.i (j+1)] rfl (by simp [Uf,Gx] <;> omega) ?_;exact rd 2 (by omega) (by omega) (by rw [gs,<-fz]; rfl)
       ·refine go tt [.g 41 true (decide_eq_true (by omega)),.i (j+1),.i 0,.x hxe,.i 0,.g 50 false (decide_eq_false c1),.i (j+1),.i 0,.x hxe,.i 0,.g 59 false (decide_eq_false c2),.f rfl,.g 77 true (decide_eq_true (by omega)),.i (j+1),.x hxe,.f (decide_eq_false hneL),.s (sz:=2) hz,.r 91 (eI (b:=((j+1+1:Nat):Int)) (by simp)),.i (j+1+1),.i (j+1),.s (sz:=2) (λy hy=>h22 y (Q3 (Ql hy))),.i (O.length-(j+1)),.i (j+1)] rfl (by simp [Uf,Gx] <;> omega) ?_;exact rd 2 (by omega) (by omega) (by rw [gs,<-fz]; rfl)
   ·have hpj:B9 e O=j:=by have:=Qka (e:=e) hjl; omega
    have hne:O[j]? ≠ some e:=λh=>hjl (Qc.1 h).1
    have hz:∀ y∈[Nv e],y.length=2:=λy hy=>by rw [Qn.1 hy]; rfl
    have h22:∀ y∈B5 O++[Nv e],y.length=2:=λy hy=>by
     rcases Qw.1 hy with hy | hy
     ·exact Qai O y hy
     ·exact hz y hy
    cases j with
    |
     zero =>
     have fz:=P9 (z:=Nv e) (l2:=(B5 O++[Nv e]).take ((B5 O++[Nv e]).length-0)) (k:=0) (m:=O.length) (by omega) hpj hne (by omega) (by congr 1; exact Qj (by simp));refine go tt [.g 41 false (decide_eq_false (by omega)),.f rfl,.g 77 false (decide_eq_false (by omega)),.f rfl,.s (sz:=2) hz,.r 91 (eI (b:=((0+1:Nat):Int)) (by simp)),.i (0+1),.i 0,.s (sz:=2) (λy hy=>h22 y (Ql hy)),.i (O.length),.i 0] rfl (by simp [Uf,Gx] <;> omega) ?_;exact rd 2 (by omega) (by omega) (by rw [gs,<-fz]; rfl)
    |
     succ j =>
     have fz:=P9 (z:=Nv e) (l2:=((B5 O++[Nv e]).drop (j+1)).take ((B5 O++[Nv e]).length-(j+1))) (k:=j+1) (m:=O.length-(j+1)) (by omega) hpj hne (by omega) (by congr 1; exact Qj (by simp));refine go tt [.g 41 false (decide_eq_false (by omega)),.f rfl,.g 77 false (decide_eq_false (by omega)),.f rfl,.s (sz:=2) hz,.r 91 (eI (b:=((j+1+1:Nat):Int)) (by simp)),.i (j+1+1),.i (j+1),.s (sz:=2) (λy hy=>h22 y (Q3 (Ql hy))),.i (O.length-(j+1)),.i (j+1)] rfl (by simp [Uf,Gx] <;> omega) ?_;exact rd 2 (by omega) (by omega) (by rw [gs,<-fz]; rfl)
  ·obtain ⟨e,he⟩:∃ e:Int×Int,e=(m.2.1.id,m.2.2.id):=⟨_,rfl⟩;have gs:g 3=Eu (g 2) e:=by rw [he]; exact g3
   have hOl:(g 2).length<=4000:=by omega
   obtain ⟨O,hO⟩:=nmE (g 2);rw [<-hO] at gs hOl ⊢;have e1:m.2.1.id=e.1:=by rw [he]
   have e2:m.2.2.id=e.2:=by rw [he]
   rw [show B5 O=B5 O from rfl];refine go tt [.t rfl,.i 2] rfl (by simp [Uf]) ?_;rw [e1,e2];have hpl:=Qdn e O;have hol:=Gx O;refine lp (S:=Nat) 4 (λL1 j=>(8,.v (.one (.int .i64 (j:Int))))::L1) (λ_=>[.blk 86 (crl c r0 (Nz ts)),.row false 143 2 (B5 O),.blk 50 (trL m),.blk 143 (Nv e)]) (λj=>O.length-j) (λj=>j<=O.length/\B9 e (O.drop j)+j=B9 e O) 0 ⟨Qg _,by rw [Xl]; rfl⟩ rfl (λ_ _=>rfl) rfl λj ⟨hj,hp⟩=>?_
   by_cases hjl:j<O.length
   ·obtain ⟨x,hx⟩:=gxE (l:=O) (i:=j) hjl;have hxe:=Qot hx;by_cases hle:Nm x e=true
    ·have hp':=Qpu hx hle;by_cases c1:x.1<e.1
     ·refine go tt [.g 41 true (decide_eq_true (by omega)),.i j,.i 0,.x hxe,.i 0,.g 50 true (decide_eq_true c1),.t rfl] rfl (by simp [Uf] <;> omega) ?_;exact rd (j+1) (by omega) ⟨hjl,by omega⟩ rfl
     ·have hc:x.1=e.1/\x.2<e.2:=by unfold Nm at hle; simpa [c1] using hle
      refine go tt [.g 41 true (decide_eq_true (by omega)),.i j,.i 0,.x hxe,.i 0,.g 50 false (decide_eq_false c1),.i j,.i 0,.x hxe,.i 0,.g 59 true (decide_eq_true hc.1),.i j,.i 1,.x hxe,.i 1,.t (decide_eq_true hc.2)] rfl (by simp [Uf] <;> omega) ?_;exact rd (j+1) (by omega) ⟨hjl,by omega⟩ rfl
    ·have hle:Nm x e=false:=by simpa using hle
     have hp':=Qkb hx hle;have hpj:B9 e O=j:=by omega
     have c1:¬x.1<e.1:=λh=>by unfold Nm at hle; simp [h] at hle
     have out:∀ {Q:Prop},(x.1=e.1->¬x.2<e.2->Q)->(x.1≠e.1->Q)->Q:=λh1 h2=>by
      by_cases h:x.1=e.1
      ·exact h1 h λh'=>by unfold Nm at hle; simp [h,h'] at hle
      ·exact h2 h
     by_cases heq:x=e
     ·have gs':g 3=O:=by rw [gs]; unfold Eu; rw [hpj,hx,heq,if_pos rfl]
      have c2:x.1=e.1:=by rw [heq]
      have c3:¬x.2<e.2:=by rw [heq]; exact Wn _
      refine go tt [.g 41 true (decide_eq_true (by omega)),.i j,.i 0,.x hxe,.i 0,.g 50 false (decide_eq_false c1),.i j,.i 0,.x hxe,.i 0,.g 59 true (decide_eq_true c2),.i j,.i 1,.x hxe,.i 1,.f (decide_eq_false c3),.g 77 true (decide_eq_true (by omega)),.i j,.x hxe,.t (decide_eq_true (by rw [heq]))] rfl (by simp [Uf] <;> omega) ?_;exact rd 3 (by omega) (by omega) (by rw [gs']; rfl)
     ·have hne:O[j]? ≠ some e:=λh=>by rw [hx] at h; injection h with h; exact heq h
      have hneL:¬[x.1,x.2]=[e.1,e.2]:=λh=>by simp at h; exact heq (Prod.ext h.1 h.2)
      have hz:∀ y∈[Nv e],y.length=2:=λy hy=>by rw [Qn.1 hy]; rfl
      have h22:∀ y∈B5 O++[Nv e],y.length=2:=λy hy=>by
       rcases Qw.1 hy with hy | hy
       ·exact Qai O y hy
       ·exact hz y hy
      cases j with
      |
       zero =>
       have fz:=P9 (z:=Nv e) (l2:=(B5 O++[Nv e]).take ((B5 O++[Nv e]).length-0)) (k:=0) (m:=O.length) (by omega) hpj hne (by omega) (by congr 1; exact Qj (by simp));refine out (λc2 c3=>?_) λc2=>?_
       ·refine go tt [.g 41 true (decide_eq_true (by omega)),.i 0,.i 0,.x hxe,.i 0,.g 50 false (decide_eq_false c1),.i 0,.i 0,.x hxe,.i 0,.g 59 true (decide_eq_true c2),.i 0,.i 1,.x hxe,.i 1,.f (decide_eq_false c3),.g 77 true (decide_eq_true (by omega)),.i 0,.x hxe,.f (decide_eq_false hneL),.s (sz:=2) hz,.r 91 (eI (b:=((0+1:Nat):Int)) (by simp)),.i (0+1),.i 0,.s (sz:=2) (λy hy=>h22 y (Ql hy)),.i (O.length),.i 0] rfl (by simp [Uf,Gx] <;> omega) ?_;exact rd 3 (by omega) (by omega) (by rw [gs,<-fz]; rfl)
       ·refine go tt [.g 41 true (decide_eq_true (by omega)),.i 0,.i 0,.x hxe,.i 0,.g 50 false (decide_eq_false c1),.i 0,.i 0,.x hxe,.i 0,.g 59 false (decide_eq_false c2),.f rfl,.g 77 true (decide_eq_true (by omega)),.i 0,.x hxe,.f (decide_eq_false hneL),.s (sz:=2) hz,.r 91 (eI (b:=((0+1:Nat):Int)) (by simp)),.i (0+1),.i 0,.s (sz:=2) (λy hy=>h22 y (Ql hy)),.i (O.length),.i 0] rfl (by simp [Uf,Gx] <;> omega) ?_;exact rd 3 (by omega) (by omega) (by rw [gs,<-fz]; rfl)
      |
       succ j =>
       have fz:=P9 (z:=Nv e) (l2:=((B5 O++[Nv e]).drop (j+1)).take ((B5 O++[Nv e]).length-(j+1))) (k:=j+1) (m:=O.length-(j+1)) (by omega) hpj hne (by omega) (by congr 1; exact Qj (by simp));refine out (λc2 c3=>?_) λc2=>?_
       ·refine go tt [.g 41 true (decide_eq_true (by omega)),.i (j+1),.i 0,.x hxe,.i 0,.g 50 false (decide_eq_false c1),.i (j+1),.i 0,.x hxe,.i 0,.g 59 true (decide_eq_true c2),.i (j+1),.i 1,.x hxe,.i 1,.f (decide_eq_false c3),.g 77 true (decide_eq_true (by omega)),.i (j+1),.x hxe,.f (decide_eq_false hneL),.s (sz:=2) hz,.r 91 (eI (b:=((j+1+1:Nat):Int)) (by simp)),.i (j+1+1),.i (j+1),.s (sz:=2) (λy hy=>h22 y (Q3 (Ql hy))),.i (O.length-(j+1)),.i (j+1)] rfl (by simp [Uf,Gx] <;> omega) ?_;exact rd 3 (by omega) (by omega) (by rw [gs,<-fz]; rfl)
       ·refine go tt [.g 41 true (decide_eq_true (by omega)),.i (j+1),.i 0,.x hxe,.i 0,.g 50 false (decide_eq_false c1),.i (j+1),.i 0,.x hxe,.i 0,.g 59 false (decide_eq_false c2),.f rfl,.g 77 true (decide_eq_true (by omega)),.i (j+1),.x hxe,.f (decide_eq_false hneL),.s (sz:=2) hz,.r 91 (eI (b:=((j+1+1:Nat):Int)) (by simp)),.i (j+1+1),.i (j+1),.s (sz:=2) (λy hy=>h22 y (Q3 (Ql hy))),.i (O.length-(j+1)),.i (j+1)] rfl (by simp [Uf,Gx] <;> omega) ?_;exact rd 3 (by omega) (by omega) (by rw [gs,<-fz]; rfl)
   ·have hpj:B9 e O=j:=by have:=Qka (e:=e) hjl; omega
    have hne:O[j]? ≠ some e:=λh=>hjl (Qc.1 h).1
    have hz:∀ y∈[Nv e],y.length=2:=λy hy=>by rw [Qn.1 hy]; rfl
    have h22:∀ y∈B5 O++[Nv e],y.length=2:=λy hy=>by
     rcases Qw.1 hy with hy | hy
     ·exact Qai O y hy
     ·exact hz y hy
    cases j with
    |
     zero =>
     have fz:=P9 (z:=Nv e) (l2:=(B5 O++[Nv e]).take ((B5 O++[Nv e]).length-0)) (k:=0) (m:=O.length) (by omega) hpj hne (by omega) (by congr 1; exact Qj (by simp));refine go tt [.g 41 false (decide_eq_false (by omega)),.f rfl,.g 77 false (decide_eq_false (by omega)),.f rfl,.s (sz:=2) hz,.r 91 (eI (b:=((0+1:Nat):Int)) (by simp)),.i (0+1),.i 0,.s (sz:=2) (λy hy=>h22 y (Ql hy)),.i (O.length),.i 0] rfl (by simp [Uf,Gx] <;> omega) ?_;exact rd 3 (by omega) (by omega) (by rw [gs,<-fz]; rfl)
    |
     succ j =>
     have fz:=P9 (z:=Nv e) (l2:=((B5 O++[Nv e]).drop (j+1)).take ((B5 O++[Nv e]).length-(j+1))) (k:=j+1) (m:=O.length-(j+1)) (by omega) hpj hne (by omega) (by congr 1; exact Qj (by simp));refine go tt [.g 41 false (decide_eq_false (by omega)),.f rfl,.g 77 false (decide_eq_false (by omega)),.f rfl,.s (sz:=2) hz,.r 91 (eI (b:=((j+1+1:Nat):Int)) (by simp)),.i (j+1+1),.i (j+1),.s (sz:=2) (λy hy=>h22 y (Q3 (Ql hy))),.i (O.length-(j+1)),.i (j+1)] rfl (by simp [Uf,Gx] <;> omega) ?_;exact rd 3 (by omega) (by omega) (by rw [gs,<-fz]; rfl)
  ·refine go tt [.f rfl] rfl (by simp [Uf] <;> omega) ?_;exact rd (i+1) (by omega) hlt (by rw [hst]; rfl)
 ·obtain rfl:i=ts.length:=by omega
  rw [Q5];exact ed tt [1] [0] [.f (decide_eq_false (by omega))] rfl trivial


end Orr
namespace Orr
open Go Go.Proofs
set_option maxRecDepth 10000
theorem Cs.up {s n s' n':Nat} {k:Crv} (h:Cs s n k) (hs:s<=s') (hn:n<=n'):Cs s' n' k:=⟨Ug h.x hs,Ug h.y hs,Qd h.d hs,Qd h.lx hn,Qd h.ly hn⟩
end Orr
namespace Orr
open Go Go.Proofs Orq
set_option maxRecDepth 10000



theorem Qvn {M:List Pt} {q:Rat} {c:List (List Int)} (hM:∀ p∈M,Rs p.c) (hl:M.length≤6) (hq:Qs 1000000 q) (hC:Qyb q c):Mv Tryz.prog 45 [.one (.ow 0 0)] [.blk 45 (plZ M q)] [] [.blk 45 (plB M q c (Qdx q M))]:=by
 refine Ha Tryz.func45 rfl ?_;exact ed tt [] [0] [.c [] (Qf7 hq hC),.c [] (Qu8 (cs:=c) hM hl hq),.c [] (Q5y (Q3n q hl))] rfl trivial
theorem Q16 {zs:List RawPt} {n d:Int} {O M:List Pt} {e:Nat} {c:List (List Int)} (hz:∀ z∈zs,z.Ok) (hO:Qfo 4 20 zs=O) (he:e≤O.length) (hd:Dh (Tl O e)) (hm:e<O.length->¬Dh (Tl O (e+1))) (hn:-9223372036854775808≤n/\n≤9223372036854775807) (hdd:-9223372036854775808≤d/\d≤9223372036854775807) (hC:Qyb (A9 n d) c) (hM:M=H8 Dw (Qba O e)) :
 Mv Tryz.prog 7 [.one (.row (Qd1 zs)),.one (.int .i64 n),.one (.int .i64 d)] [] [.one (.ow 0 0),.one (.ow 1 0),.one (.bool true)] [.blk 86 (crl (Q4s M (tq (A9 n d))) (U4 M) (brD M (tq (A9 n d)))),.blk 45 (plB M (A9 n d) c (Qdx (A9 n d) M))]:=by
 have hO4:O.length<=4:=by rw [<-hO]; exact I5 _ _ (Qg _)
 have hid:∀ p∈O,-9223372036854775808≤p.id/\p.id≤9223372036854775807:=λp hp=>by
  rw [<-hO] at hp; have:=Zet p hp; omega
 have hlit:∀ p∈O,Q1q p:=λp hp=>by rw [<-hO] at hp; exact Qmj (by decide) p hp
 have hcl:(Tl O e).length=e:=Qc1 he;have hcn:(Qba O e).length=e:=by rw [Qgp,hcl]
 have hMl:M.length=e:=by rw [hM,Ny,hcn]
 have hok:∀ p∈M,Nml p.c/\Cs 10 3 p.c:=λp hp=>by rw [hM,De] at hp; exact Qzf hlit e p hp
 have hq:=Qnk n d;obtain ⟨q,hqq⟩:=nmE (A9 n d);have cb:=Qy1 (l:=Qba O e) (by omega);rw [<-hM] at cb;rw [<-hqq] at hq hC ⊢;have csm:=Zcc hn hdd;have c2:=Qvn (M:=M) (q:=q) (c:=c) (λp hp=>⟨(hok p hp).1,(hok p hp).2.mono (by decide) (by decide)⟩) (by omega) (hq.mono (by decide)) hC;have ctr:=Zk8 (q:=q) (hq.mono (by decide));have hnl:=Q3b (qs:=Qba O e) (by omega) (Qlr hd);have hnl2:Ta [] (Qba O e)=(M,0):=by rw [hM,<-hnl.2,<-hnl.1]
 have cs:=Qym (zs:=U4 (Tl O e)) (qs:=Qba O e) (l:=M) (n:=q.num) (d:=(q.den:Int)) (Qmf λp hp=>(Qrs hlit e p hp).mono (by decide) (by decide)) (by omega) hnl2 (λp hp=>⟨(hok p hp).1,(hok p hp).2.mono (by decide) (by decide)⟩) (by omega) (Uk q.num) (Uk (q.den:Int)) (Qd hq.1 (by decide)) (Qd hq.2 (by decide)) (by rw [Qdy]; exact hq.mono (by decide));rw [Qdy] at cs;rw [show Gd (Iq n 61-30) (1+Iq d 6)=q from hqq.symm] at csm;have cp:=Q14 hz;rw [hO] at cp;refine Ha Tryz.func7 rfl ?_;refine go tt [.c [0,1] cp] rfl trivial ?_;have h0l:=Nx O;refine ct 2 (S:=Unit) (λ_=>[(1,.v (.one (.int .i64 n))),(2,.v (.one (.int .i64 d))),(9,.v (.one (.row (U4 (Tl O e))))),(10,.v (.one (.row (U8 (Qba O e)))))]) (λ_=>[.gone,.gone]) (λ_=>True) rfl ?_ (λ_ _=>?_)
 ·refine lp (S:=Nat) 2 (λL1 i=>(23,.v (.one (.int .i64 (i:Int))))::(9,.v (.one (.orow 0 5 none)))::(10,.v (.one (.orow 1 7 none)))::L1) (λi=>[.row false 114 5 (U4 (mix O i)),.row false 61 7 (U8 ((mix O i).map Pt.nrm))]) (λi=>O.length-i) (λi=>i<=O.length/\i<=e/\Dh (Tl O i)) 0 ⟨Qg _,Qg _,List.Pairwise.nil⟩ rfl (λ_ _=>rfl) (by rw [Q8d]; rfl) λi ⟨hi,hie,hdi⟩=>?_
  have hl1:(U4 (mix O (i+1))).length=O.length:=by rw [Nx,Qhq]
  have hl0:(U4 (mix O i)).length=O.length:=by rw [Nx,Qhq]
  have hr0:(U8 ((mix O i).map Pt.nrm)).length=O.length:=by rw [Tk,Zc,Qhq]
  have hr1:(U8 ((mix O (i+1)).map Pt.nrm)).length=O.length:=by rw [Tk,Zc,Qhq]
  by_cases h:i<O.length
  ·obtain ⟨p,hp⟩:=gxE (l:=O) (i:=i) h;have hx:=Zd2 hp;have hxn:((mix O i).map Pt.nrm)[i]? = some p.nrm:=by rw [Za,hx]; rfl
   have cw:=Qcs (v:=p.id) (n:=5) (hid p (Qa hp)) (by decide);rw [show Iq p.id 5=p.m5.id from rfl] at cw;refine go tt [.t (decide_eq_true (by omega)),.i i,.x (Oy hx),.c [] cw,.i i,.x (Oy hx),.c [] cw,.i i,.x (Oy hx),.i i,.x (Fq hxn)] rfl (by simp [Uf,hl0,hr0]; omega) ?_;rw [Qp0 hp,Qlc hp];refine lp (S:=Nat) 2 (λL1 j=>(12,.v (.one (.int .i64 (j:Int))))::(9,.v (.one (.orow 0 5 none)))::(10,.v (.one (.orow 1 7 none)))::L1) (λ_=>[.row false 114 5 (U4 (mix O (i+1))),.row false 61 7 (U8 ((mix O (i+1)).map Pt.nrm))]) (λj=>i-j) (λj=>j<=i/\∀ k x,k<j->O[k]? = some x->x.m5.id≠p.m5.id) 0 ⟨Qg _,λk x h=>absurd h (Ub _)⟩ rfl (λ_ _=>rfl) rfl λj ⟨hj,hjn⟩=>?_
   by_cases hji:j<i
   ·obtain ⟨x,hxj⟩:=gxE (l:=O) (i:=j) (by omega);have g1:=Q0i (i:=i+1) (show j<i+1 by omega) hxj;have g2:=Q0i (i:=i+1) (show i<i+1 by omega) hp;by_cases hq:x.m5.id=p.m5.id
    ·have hnd:¬Dh (Tl O (i+1)):=λhD=>by
      have:=Y0.1 hD j i (by rw [Qc1 (by omega)]; omega) (by rw [Qc1 (by omega)]; omega) hji;refine this ?_;have e1:(Tl O (i+1))[j]? = some x.m5:=by unfold Tl; rw [List.getElem?_map,List.getElem?_take,if_pos (by omega),hxj]; rfl
      have e2:(Tl O (i+1))[i]? = some p.m5:=by unfold Tl; rw [List.getElem?_map,List.getElem?_take,if_pos (by omega),hp]; rfl
      rw [(Qc.1 e1).2,(Qc.1 e2).2]; exact hq
     have hie2:i=e:=by
      rcases Q8 i e with h3 | h3
      ·exact absurd (Zda hd h3) hnd
      ·omega
     have c1:(U4 (mix O (i+1))).take i=U4 (Tl O e):=by rw [Q3k (by omega) (by omega),hie2]
     have c2:(U8 ((mix O (i+1)).map Pt.nrm)).take i=U8 (Qba O e):=by rw [Qxl (by omega) (by omega),hie2]
     refine go tt [.t (decide_eq_true (by omega)),.i j,.x (Oy g1),.i i,.x (Oy g2),.t (decide_eq_true hq),.i i,.i i] rfl (by simp [Uf,hl1,hr1]; omega) ?_;refine pz 0 rfl rfl ?_;refine pz 1 rfl rfl ?_;exact go tt [.t (decide_eq_true (by omega))] rfl trivial (rc () trivial (by rw [c1,c2]; rfl))
    ·refine go tt [.t (decide_eq_true (by omega)),.i j,.x (Oy g1),.i i,.x (Oy g2),.f (decide_eq_false hq)] rfl (by simp [Uf,hl1]; omega) ?_;exact rd (j+1) (by omega) ⟨hji,λk y hk hy=>by
      rcases Q8 k j with h3 | h3
      ·exact hjn k y h3 hy
      ·have:k=j:=by omega
       subst this; rw [hxj] at hy; injection hy with hy; rw [<-hy]; exact hq⟩ rfl
   ·have hji2:j=i:=by omega
    rw [hji2] at hjn;have hD:=Q2n hp hdi hjn;have hle:i+1<=e:=by
     rcases Q8 i e with h3 | h3
     ·exact h3
     ·have:i=e:=by omega
      rw [this] at hD h;exact absurd hD (hm h)
    refine go tt [.f (decide_eq_false (by omega)),.f (decide_eq_false (by omega))] rfl (by simp [Uf]; omega) ?_;exact rd (i+1) (by omega) ⟨h,hle,hD⟩ rfl
  ·have hiO:i=O.length:=by omega
   have hie2:i=e:=by omega
   have c1:U4 (mix O i)=U4 (Tl O e):=by rw [<-hie2,hiO,Qsx]
   have c2:U8 ((mix O i).map Pt.nrm)=U8 (Qba O e):=by rw [<-hie2,hiO,Qsx]; rfl
   refine go tt [] rfl trivial ?_;rw [c1,c2];refine pz 0 rfl rfl ?_;refine pz 1 rfl rfl ?_;exact go tt [.f (decide_eq_false (by omega))] rfl trivial (rc () trivial rfl)
 ·exact ed tt [] [3,2] [.c [] cb,.c [] csm,.c [2] c2,.c [] ctr,.c [3] cs,.g 96 true rfl] rfl trivial
abbrev wkD:List Pt:=[⟨Qnn 0 0,1⟩,⟨Qnn 1 0,2⟩,⟨Qnn 0 1,3⟩,⟨Qnn 1 1,4⟩]
theorem Zka:(Qdg (Ch (tq 0)) wkD).length=4:=by decide +kernel
theorem Zj9:(Ly (Qdg (Ch (tq 0)) wkD)).length=6:=by decide +kernel
theorem Za3:∀ p∈wkD,Sc p.c:=λp hp=>by
 simp only [wkD,Qo,X8,or_false] at hp;rcases hp with rfl | rfl | rfl | rfl
 all_goals exact Q93 (by decide) (by decide)
theorem Q2j:Uh Tryz.prog 15 [] [.one (.bool true)]:=by
 have hq:Qs 400000 (Gd 0 0):=⟨by decide,by decide⟩;have ez:Gd 0 0=0:=by decide
 have zp:IsPts 4294967294 1073741824 (U4 wkD) wkD:=Qz2 λp hp=>(Za3 p hp).pt
 have hnl:Ta [] wkD=(wkD,0):=rfl;have cn:=Qym zp (by decide) hnl Za3 (by decide) A2 A2 (by decide) (by decide) hq;rw [ez] at cn;obtain ⟨ts,hts⟩:=nmE (Qdg (Ch (tq 0)) wkD);have e4:ts.length=4:=by rw [hts]; exact Zka
 have e6:(Ly ts).length=6:=by rw [hts]; exact Zj9
 unfold brD at cn;rw [<-hts] at cn;have ct:=Qih (c:=Q4s wkD (tq 0)) (r0:=U4 wkD) (ts:=ts) (by omega);have ce:=Q4y (c:=Q4s wkD (tq 0)) (r0:=U4 wkD) (ts:=ts) (by omega);have l4:=O5 ts;have l6:=Gx (Ly ts);refine Ha Tryz.func15 rfl ?_;exact en tt [.c [] (Qhb (x:=0) (y:=0) (by decide) (by decide)),.c [] (Qhb (x:=1) (y:=0) (by decide) (by decide)),.c [] (Qhb (x:=0) (y:=1) (by decide) (by decide)),.c [] (Qhb (x:=1) (y:=1) (by decide) (by decide)),.c [0] cn,.g 19 true rfl,.g 23 true rfl,.c [0] ct,.g 29 true (decide_eq_true (by omega)),.c [0] ce,.g 34 true (decide_eq_true (by omega))] rfl rfl trivial
end Orr
namespace Orq
open Orr Go

def crR (C:List (List Int)) (p:List Int) (lo hi t:Rat):Int :=
 if Fx lo hi=0 then Fx lo t else if Fx t lo<=0 then 1 else if 0<Fx t hi then -1 else if Ro C lo t=0 then 1 else if U9 p t=0 then 0 else -1
theorem Q6j {p:List Int} {C:List (List Int)} {lo hi:Rat} (V:Vt (cz p) (C.map cz) lo hi) (q:Rat):crR C p lo hi q=cq (cz p) lo hi q:=by
 have hl:=V.l;unfold crR;rw [if_neg (λh=>by have:=Qog.1 h; grind)];rcases Classical.em (q<=lo) with h1 | h1
 ·rw [if_pos (Qc0.2 h1),Nj h1]
 rw [if_neg (λh=>h1 (Qc0.1 h))];rcases Classical.em (hi<q) with h2 | h2
 ·rw [if_pos (Mx.2 h2),Ih hl h2]
 rw [if_neg (λh=>h2 (Mx.1 h))];have h1':lo<q:=Jn.1 h1;have h2':q<=hi:=Rat.not_lt.1 h2;rw [Di (Qp h1'),Re];rcases V.two h1' h2' with ⟨a,b,_⟩ | ⟨a,b,_⟩
 ·rw [if_pos (by rw [a]; omega),b]
 ·rw [if_neg (by have:=V.v; omega)];rw [My h1' h2',Ul] at *
  split
  ·rfl
  ·rename_i h0;rw [if_neg h0] at b
   split at b
   ·exact absurd rfl b
   ·rename_i hne; rw [if_neg hne]
theorem Zdz {t:Tm} {L:List (List Rat)} {D M k:Nat} {lo hi:Rat} (hu:Hv t D M k ⟨t.p,lo,hi⟩) (V:Vt (cz t.p) L lo hi) :
 (cq (cz t.p) lo hi (mid lo hi)<=0->Hv t D M (k+1) ⟨t.p,lo,mid lo hi⟩/\Vt (cz t.p) L lo (mid lo hi))/\(¬cq (cz t.p) lo hi (mid lo hi)<=0->Hv t D M (k+1) ⟨t.p,mid lo hi,hi⟩/\Vt (cz t.p) L (mid lo hi) hi):=by
 have hl:=V.l;have h2:(lo+hi) / 2*2=lo+hi:=Fj (by decide);have gm:Gr D M (k+1) (mid lo hi):=by rw [Qfk]; exact Qwi hu.l hu.h
 rw [Qfk] at *;generalize (lo+hi) / 2=m at *;have m1:lo<m:=by grind
 have m2:m<hi:=by grind
 have cut:∀ q,Fa ⟨t.p,lo,hi⟩ q=cq (cz t.p) lo hi q:=λq=>Ry (t:=⟨t.p,lo,hi⟩) hl q
 refine ⟨λh=>?_,λh=>?_⟩
 ·have hm:cq (cz t.p) lo hi m≠1:=λe=>by omega
  have V':Vt (cz t.p) L lo m:=⟨V.s,m1,by rw [V.eq_hi m1 (Qp m2) hm]; exact V.v⟩;refine ⟨⟨rfl,.inr ⟨L,V'⟩,λq=>?_,Qgg hu.l,gm⟩,V'⟩;rw [<-hu.c q,cut q];show Fa ⟨t.p,lo,m⟩ q=_;rw [Ry (t:=⟨t.p,lo,m⟩) m1 q];exact (V'.uniq V.cut (Nj Qq) hm V.van q).symm
 ·have hm:cq (cz t.p) lo hi m=1:=by
   rcases V.cut.val m with e | e | e <;> omega
  have V':Vt (cz t.p) L m hi:=⟨V.s,m2,by rw [V.eq_lo m1 (Qp m2) hm]; exact V.v⟩;refine ⟨⟨rfl,.inr ⟨L,V'⟩,λq=>?_,gm,Qgg hu.h⟩,V'⟩;rw [<-hu.c q,cut q];show Fa ⟨t.p,m,hi⟩ q=_;rw [Ry (t:=⟨t.p,m,hi⟩) m2 q];exact (V'.uniq V.cut hm V.hi1 V.van q).symm
def p2 (k:Nat):Rat:=((2^k:Nat):Rat)
theorem Qj0 (a b:Nat):p2 (a+b)=p2 a*p2 b:=by unfold p2; rw [Nat.pow_add,Rat.natCast_mul]
theorem Qdl {a b:Nat} (h:a<=b):p2 a<=p2 b:=Zb.2 (Zq (by decide) h)
theorem Qmu (k:Nat):0<=p2 k:=Xk
theorem Qhu (k:Nat):p2 (k+1)=p2 k+p2 k:=by have:=Qm4 k; unfold p2; rw [this]; grind
theorem Q8q (k:Nat):1<=p2 k:=Qdl (Qg k)
theorem Qzr {S m:Nat} {R:Rat} (h0:0≤R) (hR:R≤p2 m):∀ {p:List Rat},(∀ a∈p,Up a≤p2 S)->evB R p≤p2 (S+(m+1)*p.length)
 | [],_=>Qmu _
 |
  a::p,h=>by
  have ih:=Qzr h0 hR (p:=p) (λx hx=>h x (Qh _ hx));have h1:=h a (Qt ..);have h2:=Su h0 hR (A0 h0 p) ih;rw [<-Qj0] at h2;have e:S+(m+1)*(a::p).length=(m+(S+(m+1)*p.length))+1:=by rw [Q7,Ke]; omega
  rw [e,Qhu];have h3:=Qdl (show S<=m+(S+(m+1)*p.length) by omega);simp only [evB]; grind
theorem Qzk {S m:Nat} {R:Rat} (h0:0≤R) (hR:R≤p2 m):∀ {p:List Rat},(∀ a∈p,Up a≤p2 S)->dqB R p≤p2 (S+(m+1)*p.length)
 | [],_=>Qmu _
 |
  a::p,h=>by
  have hp:=λx hx=>h x (Qh a hx)
  have ih:=Qzk h0 hR (p:=p) hp;have h1:=Qzr h0 hR (p:=p) hp;have h2:=Su h0 hR (Sl h0 p) ih;rw [<-Qj0] at h2;have e:S+(m+1)*(a::p).length=(m+(S+(m+1)*p.length))+1:=by rw [Q7,Ke]; omega
  rw [e,Qhu];have h3:=Qdl (show S+(m+1)*p.length<=m+(S+(m+1)*p.length) by omega);simp only [dqB]; grind
theorem Zic {S:Nat} {p:List Int} (h:Bd S p):∀ a∈cz p,Up a≤p2 S:=λa ha=>by
 obtain ⟨z,hz,rfl⟩:=Zi.1 ha;have h1:=Qb0 (q:=(z:Rat));rw [Rat.num_intCast] at h1;exact Q9 h1 (Qdl (h z hz))
theorem Q0z {D:Rat} {b:Nat} (h0:0<=D) (h:D<=p2 b):∀ n:Nat,D^n<=p2 (b*n)/\0<=D^n
 | 0=>by rw [Xf]; exact ⟨Q8q _,by decide⟩
 |
  n+1=>by
  obtain ⟨h1,h2⟩:=Q0z h0 h n;rw [Z9,Ke,Qj0];exact ⟨Su h2 h1 h0 h,Pm h2 h0⟩
theorem Zem {p:List Int} {n b:Nat} (hl:p.length=n+1) {q:Rat} (hb:Ur (q.den:Int)<=b) (h:Ui p q≠0):1<=Up (Ui p q)*p2 (b*n):=by
 have hd0:(0:Rat)<((q.den:Int):Rat):=by
  have := @Rat.intCast_lt_intCast 0 (q.den:Int);rw [show ((0:Int):Rat)=0 from rfl] at this;exact this.2 (den_pos q)
 have hd:((q.den:Int):Rat)≠0:=by intro h; rw [h] at hd0; exact absurd hd0 (by decide)
 obtain ⟨_,hv⟩:=Qqt p q.num q.den hd p.length (Qm _);rw [Yd,Xl,Gt,Zv] at hv;have hD:((q.den:Int):Rat)<=p2 b:=by
  have h1:=Ri.1 hb;rw [Xa] at h1;exact Zb.2 (Jo h1)
 generalize (S4 p q.num (q.den:Int) p.length).1=Z at hv;generalize ((q.den:Int):Rat)=D at *;rw [hl,Z9] at hv;have hZ:(Z:Rat)=D^n*Ui p q:=by
  have:((Z:Rat)-D^n*Ui p q)*D=0:=by grind
  rcases Jc.1 this with h' | h'
  ·grind
  ·exact absurd h' hd
 obtain ⟨k1,k2⟩:=Q0z (Qp hd0) hD n;have hp0:=Qpx hd0 n;have hz0:Z≠0:=λe=>by
  rw [e] at hZ;rcases Jc.1 hZ.symm with h' | h'
  ·rw [h'] at hp0; exact absurd hp0 (by decide)
  ·exact h h'
 have h1:=A7 hz0;rw [hZ,Cv] at h1;have h2:Up (D^n)=D^n:=by unfold Up; rw [if_neg (by grind)]
 rw [h2] at h1;have:=Q4 k1 (Gm (Ui p q));grind
theorem Zdi {p:List Int} {L:List (List Rat)} {lo hi r:Rat} (V:Vt (cz p) L lo hi) {n b m S:Nat} (hl:p.length=n+1) (hS:Bd S p) (h1:Up r<=p2 m) (h2:Up hi<=p2 m) (hr:lo<r) (hc:cq (cz p) lo hi r=1) (hb:Ur (r.den:Int)<=b):1<=(hi-r)*p2 (S+(m+1)*(n+1)+b*n):=by
 have hrh:r<hi:=by
  rcases V2.1 (show r<=hi from by
   rcases U0 r hi with e | e
   ·exact e
   ·rw [Ih V.l e] at hc; exact absurd hc (by decide)) with e | e
  ·exact e
  ·rw [e] at hc; exact absurd hc V.hi1
 have s1:Us (ev (cz p) r)=Te (cz p) lo:=by
  rcases V.two hr (Qp hrh) with ⟨_,_,c⟩ | ⟨_,c,_⟩
  ·exact c
  ·exact absurd hc c
 have s0:=V.lowlo;have s2:Us (ev (cz p) hi)≠Te (cz p) lo:=λe=>by
  refine V.hi1 ?_;rw [My V.l Qq,if_neg (by rw [e]; exact s0),if_pos e]
 have hne:ev (cz p) r≠0:=λe=>s0 (by rw [<-s1]; exact Ff.2 e)
 have hd:Up (ev (cz p) r)<=Up (ev (cz p) hi-ev (cz p) r):=by
  rw [<-s1] at s2;unfold Us at s2;unfold Up;generalize ev (cz p) r=x at *;generalize ev (cz p) hi=y at *
  repeat' split
  all_goals (repeat' split at s2)
  all_goals grind
 have h3:=Q63 (R:=p2 m) h2 h1 (cz p);have h4:=Qzk (S:=S) (Qmu m) (Qq (a:=p2 m)) (Zic hS);have hcl:(cz p).length=n+1:=by unfold cz; rw [List.length_map,hl]
 rw [hcl] at h4;have h5:=Zem hl hb (by rw [<-Ul]; exact hne);rw [<-Ul] at h5;have hq:Up (hi-r)=hi-r:=by unfold Up; rw [if_neg (by grind)]
 rw [hq] at h3;have h6:Up (ev (cz p) r)<=(hi-r)*p2 (S+(m+1)*(n+1)):=Q9 (Q9 hd h3) (by
  have:=Zn h4 (show 0<=hi-r by grind);exact this)
 have h7:=Q4 h6 (Qmu (b*n));rw [Qj0];grind
theorem Zod {β:Type} {Bc:Tm->List Ct} {Br:Tm->β} {c:Cr} {r:β} (hS:KSt Bc Br c r):∃ ws o,Qgo c.now c.l=some ws/\Zi6 ws=some o/\KSt Bc Br { c with l:=ws } r/\match o with
 | none=>∀ x∈Bc c.now,Ld x.p c.now none
 | some a=>Va a/\TLt c.now a/\(∃ x∈Bc c.now,Ld x.p c.now (some a)/\a∈tms x.p)/\∀ x∈Bc c.now,∃ o',Ld x.p c.now o'/\∀ u,o'=some u->¬TLt u a:=by
 obtain ⟨⟨ok,kk⟩,hcs,hr⟩:=hS;obtain ⟨ws,w1,w2,w3⟩:=Q0b ok.n ok.l kk;have ok':=Zdx ok w1;rw [hcs] at w2;have hc_w:∀ x∈Bc c.now,∃ w∈ws,w.c=x:=λx hx=>by
  have:x∈ws.map (·.c):=by rw [w2]; exact Qnl.2 hx
  exact Zi.1 this
 have hw_c:∀ w∈ws,w.c∈Bc c.now:=λw hw=>Qnl.1 (by rw [<-w2]; exact List.mem_map_of_mem hw)
 obtain ⟨o,o1,o2⟩:=Zi7 ok'.l;refine ⟨ws,o,w1,o1,⟨⟨ok',λw hw _=>(w3 w hw).2⟩,w2,hr⟩,?_⟩;cases o with
 | none =>
  intro x hx;obtain ⟨w,hw,rfl⟩:=hc_w x hx;have:=(w3 w hw).2.1;rw [o2 w hw] at this;exact this
 |
  some a =>
  obtain ⟨va,⟨w,hw,hwa⟩,hmin⟩:=o2;have k:=(w3 w hw).2.1;rw [hwa] at k;exact ⟨va,k.2.2.1,⟨w.c,hw_c w hw,k,(w3 w hw).2.2 a hwa⟩,λx hx=>by
   obtain ⟨v,hv,rfl⟩:=hc_w x hx;exact ⟨v.fails,(w3 v hv).2.1,λu hu=>hmin v hv u hu⟩⟩
structure LwS (t:Tm) (L:List (List Rat)) (D M k0 w0 j:Nat) (lo hi:Rat):Prop where
 hv:Hv t D M (k0+j) ⟨t.p,lo,hi⟩
 v:Vt (cz t.p) L lo hi
 w:(hi-lo)*p2 j<=p2 w0
theorem LwS.next {t:Tm} {L:List (List Rat)} {D M k0 w0 j:Nat} {lo hi:Rat} (h:LwS t L D M k0 w0 j lo hi) :
 (cq (cz t.p) lo hi (mid lo hi)<=0->LwS t L D M k0 w0 (j+1) lo (mid lo hi))/\(¬cq (cz t.p) lo hi (mid lo hi)<=0->LwS t L D M k0 w0 (j+1) (mid lo hi) hi):=by
 obtain ⟨s1,s2⟩:=Zdz h.hv h.v;have h2:(lo+hi) / 2*2=lo+hi:=Fj (by decide);have e:=Qfk lo hi;have hw:=h.w;have hj:=Qhu j;refine ⟨λhc=>?_,λhc=>?_⟩
 ·obtain ⟨a,b⟩:=s1 hc;refine ⟨a,b,?_⟩;rw [e,hj];generalize (lo+hi) / 2=m at *;have:(m-lo)*(p2 j+p2 j)=(hi-lo)*p2 j:=by
   have:m+m=lo+hi:=by grind
   have:(m-lo)*(p2 j+p2 j)=(m+m-lo-lo)*p2 j:=by grind
   rw [this,‹m+m=lo+hi›]; grind
  rw [this]; exact hw
 ·obtain ⟨a,b⟩:=s2 hc;refine ⟨a,b,?_⟩;rw [e,hj];generalize (lo+hi) / 2=m at *;have:(hi-m)*(p2 j+p2 j)=(hi-lo)*p2 j:=by
   have:m+m=lo+hi:=by grind
   have:(hi-m)*(p2 j+p2 j)=(hi+hi-(m+m))*p2 j:=by grind
   rw [this,‹m+m=lo+hi›]; grind
  rw [this]; exact hw
theorem Q7q {D M k s:Nat} {x:Rat} (h:Gr D M k x) (hs:Ur (M:Int)<=s):Up x<=p2 s:=by
 refine Q9 h.b ?_;have h1:=Ri.1 hs;rw [Xa] at h1;exact Zb.2 (Jo h1)
theorem LwS.few {t:Tm} {L:List (List Rat)} {D M k0 w0 j:Nat} {lo hi:Rat} (h:LwS t L D M k0 w0 j lo hi) {n S m b:Nat} (hl:t.p.length=n+1) (hS:Bd S t.p) (hM:Ur (M:Int)<=m) {r:Rat} (hb:Ur (r.den:Int)<=b) (hr:lo<r) (hc:Fa t r=1):j<=w0+(S+(m+1)*(n+1)+b*n):=by
 have hcq:cq (cz t.p) lo hi r=1:=by
  rw [<-Ry (t:=⟨t.p,lo,hi⟩) h.v.l r,h.hv.c]; exact hc
 have q1:=Q7q h.hv.l hM;have q2:=Q7q h.hv.h hM;have hrh:r<=hi:=by
  rcases U0 r hi with e | e
  ·exact e
  ·rw [Ih h.v.l e] at hcq; exact absurd hcq (by decide)
 have q3:Up r<=p2 m:=by
  have a1:=Tc.1 q1;have a2:=Tc.1 q2;rw [Tc];constructor
  ·exact Q9 a1.1 (Qp hr)
  ·exact Q9 hrh a2.2
 have hg:=Zdi h.v hl hS q3 q2 hr hcq hb;obtain ⟨G,hG⟩:=nmE (S+(m+1)*(n+1)+b*n);rw [<-hG] at hg ⊢;rcases Q8 (w0+G) j with hj | hj
 ·exfalso;have h1:=Qdl (show w0+G+1<=j from hj);rw [Qhu,Qj0] at h1;have hw:=h.w;have hlo:0<hi-lo:=by have:=h.v.l; grind
  have h2:(hi-r)*p2 G<=(hi-lo)*p2 G:=Q4 (by grind) (Qmu G);have h3:=Zn h1 (Qp hlo);have h4:1<=(hi-lo)*p2 G:=Q9 hg h2;have h5:=Q4 h4 (Qmu w0);have h6:=Q8q w0;have e1:(hi-lo)*(p2 w0*p2 G+p2 w0*p2 G)=(hi-lo)*p2 G*p2 w0+(hi-lo)*p2 G*p2 w0:=by grind
  rw [e1] at h3;grind
 ·exact hj

theorem Zjm (q:Rat) (p:List Int):Ch (tq q) p=U9 p q:=by
 unfold Ch Qbo
 split
 ·rename_i h; rw [List.eq_nil_of_length_eq_zero h]; rfl
 ·rw [if_pos (Pf.2 (Qq (a:=q)))]; rfl
theorem Qjg (q:Rat) (p:List Int):Nw (Ch (tq q)) p=Fc p q:=by
 have:Ch (tq q)=λp=>U9 p q:=funext (Zjm q)
 rw [this]; rfl
def bq (n:Nat):Nat->Nat
 | 0=>100
 | i+1=>17000+n*bq n i
structure HI (a:Tm) (L:List (List Rat)) (j:Nat) (lo hi:Rat):Prop where
 w:∃ D M k0,LwS a L D M k0 226 j lo hi/\0<M/\Ur (D:Int)<=224/\Ur (M:Int)<=225/\k0<=14925
structure HX (a:Tm) (C:List (List Int)) (q:Rat) (b j:Nat) (lo hi:Rat):Prop where
 ql:Qs b lo
 qh:Qs b hi
 c:lo=hi/\q<lo/\Fa a hi=0\/HI a (C.map cz) j lo hi
theorem HI.qs {a:Tm} {L:List (List Rat)} {j:Nat} {lo hi:Rat} (h:HI a L j lo hi) {b:Nat} (hb:15374+j<=b):Qs b lo/\Qs b hi:=by
 obtain ⟨D,M,k0,hw,hM,h1,h2,h3⟩:=h.w;exact ⟨Qmd hw.hv.l hM (by omega),Qmd hw.hv.h hM (by omega)⟩
theorem HI.cq {a:Tm} {L:List (List Rat)} {j:Nat} {lo hi:Rat} (h:HI a L j lo hi) (q:Rat):Orq.cq (cz a.p) lo hi q=Fa a q:=by
 obtain ⟨D,M,k0,hw,_⟩:=h.w;rw [<-Ry (t:=⟨a.p,lo,hi⟩) hw.v.l q]; exact hw.hv.c q
theorem HI.lt {a:Tm} {L:List (List Rat)} {j:Nat} {lo hi:Rat} (h:HI a L j lo hi):lo<hi:=by
 obtain ⟨D,M,k0,hw,_⟩:=h.w;exact hw.v.l
theorem HI.few {a:Tm} {L:List (List Rat)} {j:Nat} {lo hi:Rat} (h:HI a L j lo hi) {n b:Nat} (hn:a.p.length<=n+1) (h2:2<=a.p.length) (n4:n<=4) (hS:Bd 224 a.p) {r:Rat} (hb:Qs b r) (hr:lo<r) (hc:Fa a r=1):j<=1580+n*b:=by
 obtain ⟨D,M,k0,hw,hM,h1,hM2,h3⟩:=h.w;have h5:=hw.few (n:=a.p.length-1) (by omega) hS hM2 (b:=b) hb.2 hr hc;have h6:b*(a.p.length-1)<=n*b:=by rw [Zj]; exact Qz _ (by omega)
 have h7:(225+1)*(a.p.length-1+1)<=(225+1)*5:=Zl _ (by omega);omega
structure HA (a:Tm) (n:Nat) (C:List (List Int)):Prop where
 va:Va a
 pt:a.point=false
 n:a.p.length<=n+1
 b:Bd 224 a.p
 ch:ChRun a.p a.p C
 pr:G7 a.p=a.p
 i:HI a (C.map cz) 0 a.lo a.hi
def xlo (a:Tm):Rat:=if U9 a.p a.hi=0 then a.hi else a.lo
theorem HA.start {a:Tm} {n:Nat} {C:List (List Int)} (h:HA a n C) {q:Rat} {b:Nat} (hq:Fa a q=1) (hb:15374<=b):HX a C q b 0 (xlo a) a.hi:=by
 obtain ⟨q1,q2⟩:=h.i.qs (b:=b) (by omega);unfold xlo
 split
 ·rename_i h0;refine ⟨q2,q2,.inl ⟨rfl,?_,?_⟩⟩
  ·refine Jn.1 λhle=>?_
   have hc:=h.va.cut;have h1:Fa a a.hi=0:=?_
   ·rcases V2.1 hle with h2 | h2
    ·have:=hc.mono' h2 (by omega); omega
    ·rw [h2] at h1; omega
   rw [<-h.i.cq,My h.i.lt Qq,if_pos (by rw [Ul,<-Re]; exact h0)]
  ·rw [<-h.i.cq,My h.i.lt Qq,if_pos (by rw [Ul,<-Re]; exact h0)]
 ·exact ⟨q1,q2,.inr h.i⟩
theorem HX.next {a:Tm} {n:Nat} {C:List (List Int)} (ha:HA a n C) (n4:n<=4) {q:Rat} {b0 j:Nat} {lo hi:Rat} (h:HX a C q (17000+n*b0) j lo hi) (hb:Qs b0 q) (hq:Fa a q=1) (hlo:lo<q) :
 lo<hi/\j<=1580+n*b0/\(crR C a.p lo hi (mid lo hi)<=0->HX a C q (17000+n*b0) (j+1) lo (mid lo hi))/\(¬crR C a.p lo hi (mid lo hi)<=0->HX a C q (17000+n*b0) (j+1) (mid lo hi) hi):=by
 rcases h.c with ⟨_,h1,_⟩ | h1
 ·grind
 ·have hj:=h1.few ha.n ha.va.n2 n4 ha.b hb hlo hq;obtain ⟨D,M,k0,hw,g1,g2,g3,g4⟩:=h1.w;obtain ⟨s1,s2⟩:=hw.next;refine ⟨h1.lt,hj,λhc=>?_,λhc=>?_⟩
  ·rw [Q6j hw.v] at hc;have hi':HI a (C.map cz) (j+1) lo (mid lo hi):=⟨D,M,k0,s1 hc,g1,g2,g3,g4⟩;obtain ⟨q1,q2⟩:=hi'.qs (b:=17000+n*b0) (by omega);exact ⟨q1,q2,.inr hi'⟩
  ·rw [Q6j hw.v] at hc;have hi':HI a (C.map cz) (j+1) (mid lo hi) hi:=⟨D,M,k0,s2 hc,g1,g2,g3,g4⟩;obtain ⟨q1,q2⟩:=hi'.qs (b:=17000+n*b0) (by omega);exact ⟨q1,q2,.inr hi'⟩
theorem HX.fin {a:Tm} {C:List (List Int)} {q:Rat} {b j:Nat} {lo hi:Rat} (ha:Va a) (h:HX a C q b j lo hi):(lo≠hi->Fa a lo=1)/\Fa a hi≠1/\lo<=hi:=by
 rcases h.c with ⟨h1,h2,h3⟩ | h1
 ·exact ⟨λh=>absurd h1 h,by omega,by rw [h1]; exact Qq⟩
 ·obtain ⟨D,M,k0,hw,_⟩:=h1.w;refine ⟨λ_=>by rw [<-h1.cq]; exact Nj Qq,by rw [<-h1.cq]; exact hw.v.hi1,Qp h1.lt⟩
end Orq
namespace Orr
open Go Go.Proofs Orq
theorem Qas (p:List Int) (q:Rat):Ui (Ef 0 p) q=Ui p q:=rfl
theorem Qfm (p:List Int) (q:Rat):Ui (Ef 1 p) q=-Ui p q:=Pz p q
theorem Qmz (p:List Int) (q:Rat):Ui (Ef 2 p) q=Ui p q:=rfl
theorem Q8y (p:List Int) (q:Rat):Ui (M3 1 [[p]]) q=Ui p q:=by
 show Ui (Tf [] (Ef 0 (Uq p [1]))) q=_;rw [To,Qas,Uw,Pe];show (0:Rat)+_=_;grind
theorem Qw3 (p r s t:List Int) (q:Rat):Ui (M3 2 [[p,r],[s,t]]) q=Ui p q*Ui t q-Ui r q*Ui s q:=by
 show Ui (Tf (Tf [] (Ef 0 (Uq p (M3 1 [[t]])))) (Ef 1 (Uq r (M3 1 [[s]])))) q=_;rw [To,To,Qas,Qfm,Uw,Uw,Q8y,Q8y];show (0:Rat)+_+_=_;grind
theorem Qj5 (a1 a2 a3 b1 b2 b3 c1 c2 c3:List Int) (q:Rat):Ui (M3 3 [[a1,a2,a3],[b1,b2,b3],[c1,c2,c3]]) q=Ui a1 q*(Ui b2 q*Ui c3 q-Ui b3 q*Ui c2 q)-Ui a2 q*(Ui b1 q*Ui c3 q-Ui b3 q*Ui c1 q)+Ui a3 q*(Ui b1 q*Ui c2 q-Ui b2 q*Ui c1 q):=by
 show Ui (Tf (Tf (Tf [] (Ef 0 (Uq a1 (M3 2 [[b2,b3],[c2,c3]])))) (Ef 1 (Uq a2 (M3 2 [[b1,b3],[c1,c3]])))) (Ef 2 (Uq a3 (M3 2 [[b1,b2],[c1,c2]])))) q=_;rw [To,To,To,Qas,Qfm,Qmz,Uw,Uw,Uw,Qw3,Qw3,Qw3];show (0:Rat)+_+_+_=_;grind
theorem Qe2 {f:Nat->List Int} {rows:List (List (List Int))}:∀ i,Um (Mt f rows i)
 | 0=>rfl
 |
  i+1=>by
  simp only [Mt]
  split
  ·exact Qe2 i
  ·split
   ·exact Uv _ _
   ·exact Uv _ _
theorem Qw1 (a b c:Crv):Co a b c=Gn a b c:=by
 refine A8 (Uv _ _) (Qe2 3) λq=>?_
 show Ui (M3 3 [[a.x,a.y,[a.d]],[b.x,b.y,[b.d]],[c.x,c.y,[c.d]]]) q=Ui (Pn 3 [[a.x,a.y,[a.d]],[b.x,b.y,[b.d]],[c.x,c.y,[c.d]]]) q;rw [Qj5,On];grind
def D3 (b2 b3 b4 c2 c3 c4 d2 d3 d4:Rat):Rat:=b2*(c3*d4-d3*c4)-c2*(b3*d4-d3*b4)+d2*(b3*c4-c3*b4)
def D4 (a1 a2 a3 a4 b1 b2 b3 b4 c1 c2 c3 c4 d1 d2 d3 d4:Rat):Rat:=a1*D3 b2 b3 b4 c2 c3 c4 d2 d3 d4-b1*D3 a2 a3 a4 c2 c3 c4 d2 d3 d4+c1*D3 a2 a3 a4 b2 b3 b4 d2 d3 d4-d1*D3 a2 a3 a4 b2 b3 b4 c2 c3 c4
theorem Q8z (a1 a2 a3 a4 b1 b2 b3 b4 c1 c2 c3 c4 d1 d2 d3 d4:List Int) (q:Rat):Ui (Pn 4 [[a1,a2,a3,a4],[b1,b2,b3,b4],[c1,c2,c3,c4],[d1,d2,d3,d4]]) q=D4 (Ui a1 q) (Ui a2 q) (Ui a3 q) (Ui a4 q) (Ui b1 q) (Ui b2 q) (Ui b3 q) (Ui b4 q) (Ui c1 q) (Ui c2 q) (Ui c3 q) (Ui c4 q) (Ui d1 q) (Ui d2 q) (Ui d3 q) (Ui d4 q):=by
 show Ui (Mt (λi=>Pn 3 (Of [[a1,a2,a3,a4],[b1,b2,b3,b4],[c1,c2,c3,c4],[d1,d2,d3,d4]] i)) [[a1,a2,a3,a4],[b1,b2,b3,b4],[c1,c2,c3,c4],[d1,d2,d3,d4]] (0+1+1+1+1)) q=_;rw [Py,Py,Py,Py];show (0:Rat)+1*(Ui a1 q*Ui (Pn 3 [[b2,b3,b4],[c2,c3,c4],[d2,d3,d4]]) q)+(-1)*(Ui b1 q*Ui (Pn 3 [[a2,a3,a4],[c2,c3,c4],[d2,d3,d4]]) q)+1*(Ui c1 q*Ui (Pn 3 [[a2,a3,a4],[b2,b3,b4],[d2,d3,d4]]) q)+(-1)*(Ui d1 q*Ui (Pn 3 [[a2,a3,a4],[b2,b3,b4],[c2,c3,c4]]) q)=_;rw [On,On,On,On];unfold D4 D3;grind
theorem Zjc (a1 a2 a3 a4 b1 b2 b3 b4 c1 c2 c3 c4 d1 d2 d3 d4:List Int) (q:Rat):Ui (M3 4 [[a1,a2,a3,a4],[b1,b2,b3,b4],[c1,c2,c3,c4],[d1,d2,d3,d4]]) q=D4 (Ui a1 q) (Ui a2 q) (Ui a3 q) (Ui a4 q) (Ui b1 q) (Ui b2 q) (Ui b3 q) (Ui b4 q) (Ui c1 q) (Ui c2 q) (Ui c3 q) (Ui c4 q) (Ui d1 q) (Ui d2 q) (Ui d3 q) (Ui d4 q):=by
 show Ui (Tf (Tf (Tf (Tf [] (Ef 0 (Uq a1 (M3 3 [[b2,b3,b4],[c2,c3,c4],[d2,d3,d4]])))) (Ef 1 (Uq a2 (M3 3 [[b1,b3,b4],[c1,c3,c4],[d1,d3,d4]])))) (Ef 2 (Uq a3 (M3 3 [[b1,b2,b4],[c1,c2,c4],[d1,d2,d4]])))) (Ef 3 (Uq a4 (M3 3 [[b1,b2,b3],[c1,c2,c3],[d1,d2,d3]])))) q=_;have k3:∀ p:List Int,Ui (Ef 3 p) q=-Ui p q:=λp=>Pz p q
 rw [To,To,To,To,Qas,Qfm,Qmz,k3,Uw,Uw,Uw,Uw,Qj5,Qj5,Qj5,Qj5];show (0:Rat)+_+_+_+_=_;unfold D4 D3;grind
theorem Zlk (a1 a2 a3 a4 b1 b2 b3 b4 c1 c2 c3 c4 d1 d2 d3 d4:Rat):D4 a1 a2 a3 a4 b1 b2 b3 b4 d1 d2 d3 d4 c1 c2 c3 c4=-D4 a1 a2 a3 a4 b1 b2 b3 b4 c1 c2 c3 c4 d1 d2 d3 d4:=by unfold D4 D3; grind
theorem Zlj (a1 a2 a3 a4 b1 b2 b3 b4 c1 c2 c3 c4 d1 d2 d3 d4:Rat):D4 a1 a2 a3 a4 c1 c2 c3 c4 b1 b2 b3 b4 d1 d2 d3 d4=-D4 a1 a2 a3 a4 b1 b2 b3 b4 c1 c2 c3 c4 d1 d2 d3 d4:=by unfold D4 D3; grind
theorem Zli (a1 a2 a3 a4 b1 b2 b3 b4 c1 c2 c3 c4 d1 d2 d3 d4:Rat):D4 b1 b2 b3 b4 a1 a2 a3 a4 c1 c2 c3 c4 d1 d2 d3 d4=-D4 a1 a2 a3 a4 b1 b2 b3 b4 c1 c2 c3 c4 d1 d2 d3 d4:=by unfold D4 D3; grind
theorem Ns (a b c d:Crv):Um (Hj a b c d):=Qe2 4
theorem D5 (a b c d:Crv) (q:Rat):Ui (Hj a b c d) q=D4 (Ui (Uz a.x a.d) q) (Ui (Uz a.y a.d) q) (Ui (Tf (Uq a.x a.x) (Uq a.y a.y)) q) (Ui [a.d*a.d] q) (Ui (Uz b.x b.d) q) (Ui (Uz b.y b.d) q) (Ui (Tf (Uq b.x b.x) (Uq b.y b.y)) q) (Ui [b.d*b.d] q) (Ui (Uz c.x c.d) q) (Ui (Uz c.y c.d) q) (Ui (Tf (Uq c.x c.x) (Uq c.y c.y)) q) (Ui [c.d*c.d] q) (Ui (Uz d.x d.d) q) (Ui (Uz d.y d.d) q) (Ui (Tf (Uq d.x d.x) (Uq d.y d.y)) q) (Ui [d.d*d.d] q):=Q8z ..
theorem Zcz (a b c d:Crv):Hj a b d c=H5 (Hj a b c d):=A8 (Ns ..) (Uv _ _) λq=>by rw [Pz,D5,D5,Zlk]
theorem Zcy (a b c d:Crv):Hj a c b d=H5 (Hj a b c d):=A8 (Ns ..) (Uv _ _) λq=>by rw [Pz,D5,D5,Zlj]
theorem Zcx (a b c d:Crv):Hj b a c d=H5 (Hj a b c d):=A8 (Ns ..) (Uv _ _) λq=>by rw [Pz,D5,D5,Zli]
theorem Q6f (a b c d:Crv):Qcz a b c d=Hj a b c d:=by
 refine A8 (Uv _ _) (Ns ..) λq=>?_
 rw [D5];show Ui (M3 4 [[Uq a.x [a.d],Uq a.y [a.d],Tf (Uq a.x a.x) (Uq a.y a.y),Uq [a.d] [a.d]],[Uq b.x [b.d],Uq b.y [b.d],Tf (Uq b.x b.x) (Uq b.y b.y),Uq [b.d] [b.d]],[Uq c.x [c.d],Uq c.y [c.d],Tf (Uq c.x c.x) (Uq c.y c.y),Uq [c.d] [c.d]],[Uq d.x [d.d],Uq d.y [d.d],Tf (Uq d.x d.x) (Uq d.y d.y),Uq [d.d] [d.d]]]) q=_;have e1:∀ (p:List Int) (z:Int),Ui (Uq p [z]) q=Ui (Uz p z) q:=λp z=>by rw [Uw,Tj,Q0u]
 have e2:∀ z:Int,Ui (Uq [z] [z]) q=Ui [z*z] q:=λz=>by rw [Uw,Q0u,Q0u]; push_cast; rfl
 rw [Zjc];rw [e2 a.d,e2 b.d,e2 c.d,e2 d.d];simp only [e1]
theorem Qjh {sg:List Int->Int} (hs:∀ p,sg (H5 p)=-sg p):∀ (k:Nat) (p:List Int),Um p->Hd sg k (H5 p)=-Hd sg k p
 | 0,_,_=>rfl
 |
  k+1,p,hp=>by
  have e0:H5 []=[]:=rfl;have hl:(H5 p).length=0↔p.length=0:=by
   constructor
   ·intro h;have h:=Qi h;have:p=[]:=Qh7 hp rfl λj=>by
     have:=Qat p j;rw [h] at this;simp at this ⊢;omega
    rw [this]; rfl
   ·intro h;rw [Qi h,e0]; rfl
  have hd:Fg (H5 p)=H5 (Fg p):=Qh7 (Uv _ _) (Uv _ _) λj=>by rw [Ts,Qat,Qat,Ts,Vk]
  have ih:=Qjh hs k (Fg p) (Uv _ _);simp only [Hd];by_cases h:p.length=0
  ·rw [if_pos h,if_pos (hl.2 h)]; rfl
  ·rw [if_neg h,if_neg (λh2=>h (hl.1 h2)),hs,hd];by_cases h2:sg p=0
   ·rw [if_pos h2,if_pos (by omega),ih]
   ·rw [if_neg h2,if_neg (by omega)]
theorem Qby {p:List Int} (hp:Um p) (q:Rat):Fc (H5 p) q=-Fc p q:=by
 unfold Fc Nw;rw [<-Lo _ p.length (H5 p) (Bs p)];exact Qjh (λp=>by
  show U9 (H5 p) q=-U9 p q;rw [Re,Re,Pz];unfold Us;by_cases h1:Ui p q<0
  ·rw [if_neg (by grind),if_pos (by grind),if_pos h1]; rfl
  ·by_cases h2:0<Ui p q
   ·rw [if_pos (by grind),if_neg h1,if_pos h2]
   ·rw [if_neg (by grind),if_neg (by grind),if_neg h1,if_neg h2]; rfl) _ _ hp
theorem Qvy (a b c d:Crv) (q:Rat):Fc (Hj a b d c) q=-Fc (Hj a b c d) q:=by rw [Zcz,Qby (Ns ..)]
theorem Q6d (a b c d:Crv) (q:Rat):Fc (Hj a c b d) q=-Fc (Hj a b c d) q:=by rw [Zcy,Qby (Ns ..)]
theorem Zh5 (a b c d:Crv) (q:Rat):Fc (Hj b a c d) q=-Fc (Hj a b c d) q:=by rw [Zcx,Qby (Ns ..)]
theorem Zlg (a b c d:Crv) (q:Rat):Fc (Hj a c d b) q=Fc (Hj a b c d) q:=by rw [Qvy,Q6d]; omega
theorem Zlf (a b c d:Crv) (q:Rat):Fc (Hj b c d a) q=-Fc (Hj a b c d) q:=by rw [Qvy,Q6d,Zh5]; omega
end Orr
namespace Orq
open Orr Go
section
variable {α:Type} {lt lt':α->α->Bool}
end
structure LowC (X Y:Pt->Rat) (R L:List Pt):Prop where
 hd:L.head? = R.head?
 la:L.getLast? = R.getLast?
 srt:L.Pairwise (lx X Y)
 mem:∀ p∈L,p∈R
 edg:Edg (λa b=>∀ p∈R,0≤ori X Y a b p) L
 cnv:Cnv (λa b c=>0<ori X Y a b c) L
structure Soon (l:List Pt) (a:Tm) (q:Rat):Prop where
 g:∀ p∈Zn1 l++Zn0 l,Nw (Ch a) p=Us (Ui p q)
 b:∀ u∈l,∀ v∈l,(Qif (Ch a) u v=true↔Zoc q u v)
 o:∀ u∈l,∀ v∈l,∀ w∈l,Nw (Ch a) (Gn u.c v.c w.c)=Us (ori (px · q) (py · q) u v w)
 t:∀ u∈l,∀ v∈l,∀ w∈l,(Zlx (Ch a) u v w=true↔0<ori (px · q) (py · q) u v w)
 r:(Zoj a (C0 l)).Pairwise (lx (px · q) (py · q))
end Orq
namespace Orq
open Orr Go
theorem Q6k {x y:Crv}:Ce x y=true↔x=y:=by
 cases x; cases y; simp [Ce]
end Orq
namespace Orr
open Go Go.Proofs Orq
theorem Qfv:∀ {l:List Rat},Tz l=[]->∀ x∈l,x=0
 | [],_,x,hx=>by simp at hx
 |
  y::l,h,x,hx=>by
  simp only [Tz] at h;cases ht:Tz l with
  |
   nil =>
   rw [ht] at h;by_cases hy:y=0
   ·rcases Qo.1 hx with rfl | hx
    ·exact hy
    ·exact Qfv ht x hx
   ·simp [hy] at h
  | cons z k=>rw [ht] at h; simp at h
theorem Q3o {p q:List Rat}:(Qts p q).length=0↔∀ i,p.getD i 0+q.getD i 0=0:=by
 unfold Qts;constructor
 ·intro h i;have h:=Qfv (Qi h);by_cases hi:i<max p.length q.length
  ·exact h _ (Zi.2 ⟨i,Vq.2 hi,rfl⟩)
  ·rw [Qe,Qe,Qr (by omega),Qr (by omega)];show (0:Rat)+0=0;grind
 ·intro h;rw [Lt λx hx=>?_]
  ·rfl
  ·obtain ⟨i,_,rfl⟩:=Zi.1 hx;exact h i
theorem Q3r (p:List Rat) (i:Nat):(Qkk p).getD i 0=-(p.getD i 0):=by
 have h:∀ (l:List Rat) (i:Nat),(Tz l).getD i 0=l.getD i 0:=by
  intro l
  induction l with
  | nil=>intro i; rfl
  |
   cons x l ih =>
   intro i;simp only [Tz];cases ht:Tz l with
   |
    nil =>
    have h0:=Qfv ht;have hz:∀ j,l.getD j 0=0:=λj=>by
     rw [Qe];cases hj:l[j]? with
     | none=>rfl
     | some z=>exact h0 z (Qa hj)
    dsimp only;cases i with
    | zero=>split <;> simp_all
    |
     succ i =>
     have:=hz i
     split <;> simp_all
   |
    cons y k =>
    rw [ht] at ih;cases i with
    | zero=>rfl
    | succ i=>simpa using ih i
 unfold Qkk Sy;rw [h];unfold Ib;rw [Qe,Za];by_cases hi:i<p.length
 ·rw [Xz hi];show p.getD i 0*(-1)=_;grind
 ·rw [Qr (by simp; omega),Qe,Qr (by omega)];show (0:Rat)=-0;grind
theorem Qnf {x y:List Int} {d e:Int} (hd:0<d) (he:0<e):(Qd0 (Lv x d) (Lv y e)).length=0↔∀ i,x.getD i 0*e=y.getD i 0*d:=by
 unfold Qd0;rw [Q3o];have hd':(d:Rat)≠0:=by exact_mod_cast (by omega:d≠0)
 have he':(e:Rat)≠0:=by exact_mod_cast (by omega:e≠0)
 refine forall_congr' λi=>?_
 rw [Q3r,Qko,Qko];constructor
 ·intro h;have h2:((x.getD i 0:Int):Rat)*(e:Rat)=((y.getD i 0:Int):Rat)*(d:Rat):=by
   have:((x.getD i 0:Int):Rat) / (d:Rat)=((y.getD i 0:Int):Rat) / (e:Rat):=by grind
   have h3:=congrArg (· * ((d:Rat)*(e:Rat))) this;have a1:=Zg (a:=((x.getD i 0:Int):Rat)) hd';have a2:=Zg (a:=((y.getD i 0:Int):Rat)) he';grind
  exact_mod_cast h2
 ·intro h;have h2:((x.getD i 0:Int):Rat)*(e:Rat)=((y.getD i 0:Int):Rat)*(d:Rat):=by exact_mod_cast h
  have a1:=Zg (a:=((x.getD i 0:Int):Rat)) hd';have a2:=Zg (a:=((y.getD i 0:Int):Rat)) he';generalize ((x.getD i 0:Int):Rat) / (d:Rat)=u at *;generalize ((y.getD i 0:Int):Rat) / (e:Rat)=v at *;have:(u-v)*((d:Rat)*(e:Rat))=0:=by grind
  rcases Jc.1 this with h4 | h4
  ·grind
  ·rcases Jc.1 h4 with h4 | h4
   ·exact absurd h4 hd'
   ·exact absurd h4 he'
theorem Qnj {a b:Crv} (ha:Nml a) (hb:Nml b):Qbn a b=true↔a=b:=by
 have hda:=ha.2.2.1;have hdb:=hb.2.2.1;unfold Qbn;rw [Zk,decide_eq_true_eq,decide_eq_true_eq,Qnf hda hdb,Qnf hda hdb];constructor
 ·rintro ⟨h1,h2⟩
  have z:∀ {p q:List Int},(∀ i,p.getD i 0=q.getD i 0)->Sx p q=[]:=λ{p q} h=>by
   refine Qh7 (Uv _ _) rfl λk=>?_
   rw [Dc,h k];simp
  refine Zef ha hb (z λi=>?_) (z λi=>?_)
  ·rw [Hh,Hh]; have:=h1 i; grind
  ·rw [Hh,Hh]; have:=h2 i; grind
 ·rintro rfl
  exact ⟨λ_=>rfl,λ_=>rfl⟩
theorem Za2 {M:List Pt} (hs:Rl M) (hn:∀ p∈M,Nml p.c):Io M=C0 M:=by
 have hd:Dh M:=hs.imp λh=>by omega
 have e:H8 Dw M=M:=Qfx (Ia hd) hs λx=>De
 unfold Io C0;rw [e];have key:∀ (l out:List Pt),(∀ p∈out,Nml p.c)->(∀ p∈l,Nml p.c)->l.foldl Qcl out=l.foldl Sa out:=by
  intro l
  induction l with
  | nil=>intro out _ _; rfl
  |
   cons p l ih =>
   intro out ho hl;have hp:=hl p (Qt ..);have e1:Qcl out p=Sa out p:=by
    have e2:(out.any λo=>Qbn o.c p.c)=out.any (λq=>Ce p.c q.c):=by
     rw [Kt,Wy,Wy];constructor
     ·rintro ⟨x,hx,h⟩; exact ⟨x,hx,Q6k.2 ((Qnj (ho x hx) hp).1 h).symm⟩
     ·rintro ⟨x,hx,h⟩; exact ⟨x,hx,(Qnj (ho x hx) hp).2 (Q6k.1 h).symm⟩
    unfold Qcl Sa;rw [e2]
   rw [Z8,Z8,e1];exact ih _ (λx hx=>(Qnv hx).elim (ho x) λh=>h ▸ hp) λx hx=>hl x (Qh _ hx)
 exact key M [] (λp hp=>by simp at hp) hn
theorem Qul (l:List Pt):(C0 l).Sublist l:=by
 have key:∀ (m acc out:List Pt),out.Sublist acc->(m.foldl Sa out).Sublist (acc++m):=by
  intro m
  induction m with
  | nil=>intro acc out h; simpa using h
  |
   cons p m ih =>
   intro acc out h;have:(Sa out p).Sublist (acc++[p]):=by
    unfold Sa
    split
    ·exact h.trans (List.sublist_append_left _ _)
    ·exact h.append (List.Sublist.refl _)
   have:=ih _ _ this;rwa [Ze] at this
 exact key l [] [] (List.Sublist.refl _)
theorem Ew {M:Tu} {k k':List Int} {n:Int}:Md (P5 M k (.int .i64 n)) k'=if k'=k then n else Md M k':=by
 unfold Md; rw [Qam];by_cases h:k'=k
 ·rw [if_pos h,if_pos h]
 ·rw [if_neg h,if_neg h]
theorem Qu4 {M:Tu} {k k':List Int}:Lf (P5 M k (.bool true)) k'=(decide (k'=k) || Lf M k'):=by
 unfold Lf; rw [Qam];by_cases h:k'=k
 ·rw [if_pos h]; simp [h]
 ·rw [if_neg h]; simp [h]
theorem Rp (T:Tu) (s:Int) (n:List Int) (F:Tu) (sk:Nat) (k:List Int):Lf (Ds T s n F sk) k=((decide (k=n.eraseIdx sk) && decide (0<Md T (n.eraseIdx sk)*(if (3-sk) % 2=1 then -s else s))) || Lf F k):=by
 unfold Ds;generalize Md T (n.eraseIdx sk)*(if (3-sk) % 2=1 then -s else s)=v;by_cases h:v>0
 ·have h':0<v:=h;rw [if_pos h,Qu4]; simp [h']
 ·have h':¬0<v:=h;rw [if_neg h]; simp [h']
def Q6e (W:List Pt) (q:Rat) (i j k m:Nat):Int:=match W[i]?,W[j]?,W[k]?,W[m]? with
 | some x,some y,some z,some v=>Fc (Hj x.c y.c z.c v.c) q
 | _,_,_,_=>0
def inA (W:List Pt) (q:Rat) (o:Int) (i j k m:Nat):Bool:=decide (m≠i/\m≠j/\m≠k) && decide (0<o*Q6e W q i j k m)
def Qey (W:List Pt) (q:Rat) (o:Int) (i j k n:Nat):Nat:=((List.range n).filter (inA W q o i j k)).length
theorem Zh6 {W:List Pt} {q:Rat} {o:Int} {i j k n:Nat} (h:inA W q o i j k n=true):Qey W q o i j k (n+1)=Qey W q o i j k n+1:=by unfold Qey; rw [List.range_succ,List.filter_append,List.length_append]; simp [h]
theorem Qoi {W:List Pt} {q:Rat} {o:Int} {i j k n:Nat} (h:inA W q o i j k n=false):Qey W q o i j k (n+1)=Qey W q o i j k n:=by unfold Qey; rw [List.range_succ,List.filter_append,List.length_append]; simp [h]
theorem Zc2 {W:List Pt} {q:Rat} {o:Int} {i j k:Nat} (n:Nat):Qey W q o i j k n<=n:=Qd (Kn _ _) (by simp)
abbrev Qt9 (W:List Pt) (q:Rat):Tu:=Im (Qch (λp=>U9 p q) (Ft W))
abbrev Qwc (W:List Pt) (q:Rat):Tu:=Ii (Qt9 W q) (Qca (λp=>U9 p q) (Ae W))
theorem emp {W:List Pt} {q:Rat} {i j k:Nat} {x y z:Pt} (hW:W.length<=4) (hs:Rl W) (hij:i<j) (hjk:j<k) (hx:W[i]? = some x) (hy:W[j]? = some y) (hz:W[k]? = some z) :
 isT (Qt9 W q) (Qwc W q) (x,y,z)=(decide (Fc (Gn x.c y.c z.c) q≠0) && decide (Qey W q (Fc (Gn x.c y.c z.c) q) i j k W.length=0)):=by
 match W,hW,hs with
 | [],_,_=>simp at hx
 |
  [a],_,_ =>
  have:=(Qc.1 hz).1;simp at this; omega
 |
  [a,b],_,_ =>
  have:=(Qc.1 hz).1;simp at this; omega
 |
  [a,b,c],_,hs =>
  have:=(Qc.1 hz).1;simp at this;obtain rfl:i=0:=by omega
  obtain rfl:j=1:=by omega
  obtain rfl:k=2:=by omega
  simp at hx hy hz;subst hx hy hz;have e1:Ft [a,b,c]=[(a,b,c)]:=rfl;have e2:Ae [a,b,c]=[]:=rfl;unfold isT Qwc Qt9;rw [e1,e2];have e3:Qey [a,b,c] q (Fc (Gn a.c b.c c.c) q) 0 1 2 [a,b,c].length=0:=rfl;rw [e3];have e4:Md (Im (Qch (λp=>U9 p q) [(a,b,c)])) (Se (a,b,c))=Fc (Gn a.c b.c c.c) q:=by
   show Md (P5 [] (Se (a,b,c)) (.int .i64 _)) _=_;rw [Ew,if_pos rfl]; rfl
  rw [e4];rfl
 |
  [a,b,c,d],_,hs =>
  have hkl:=(Qc.1 hz).1;simp at hkl;simp only [Rl,Zy,Qo,X8,or_false,forall_eq_or_imp,forall_eq] at hs;obtain ⟨⟨ab,ac,ad⟩,⟨bc,bd⟩,cd,-⟩:=hs;have e1:Ft [a,b,c,d]=[(a,b,c),(a,b,d),(a,c,d),(b,c,d)]:=rfl;have e2:Ae [a,b,c,d]=[(a,b,c,d)]:=rfl;have t:∀ key,Md (Qt9 [a,b,c,d] q) key=if key=Se (b,c,d) then Fc (Gn b.c c.c d.c) q else if key=Se (a,c,d) then Fc (Gn a.c c.c d.c) q else if key=Se (a,b,d) then Fc (Gn a.c b.c d.c) q else if key=Se (a,b,c) then Fc (Gn a.c b.c c.c) q else 0:=λkey=>by
   unfold Qt9;rw [e1];show Md (P5 (P5 (P5 (P5 [] (Se (a,b,c)) (.int .i64 (Fc (Gn a.c b.c c.c) q))) (Se (a,b,d)) (.int .i64 (Fc (Gn a.c b.c d.c) q))) (Se (a,c,d)) (.int .i64 (Fc (Gn a.c c.c d.c) q))) (Se (b,c,d)) (.int .i64 (Fc (Gn b.c c.c d.c) q))) key=_;rw [Ew,Ew,Ew,Ew]; rfl
  obtain ⟨T,hT⟩:=nmE (Qt9 [a,b,c,d] q);rw [<-hT] at t;have f:∀ key,Lf (Qwc [a,b,c,d] q) key=((decide (key=Se (a,b,c)) && decide (0<Md T (Se (a,b,c))*Fc (Hj a.c b.c c.c d.c) q)) || ((decide (key=Se (a,b,d)) && decide (0<Md T (Se (a,b,d))*-Fc (Hj a.c b.c c.c d.c) q)) || ((decide (key=Se (a,c,d)) && decide (0<Md T (Se (a,c,d))*Fc (Hj a.c b.c c.c d.c) q)) || ((decide (key=Se (b,c,d)) && decide (0<Md T (Se (b,c,d))*-Fc (Hj a.c b.c c.c d.c) q)) || false)))):=λkey=>by
   unfold Qwc;rw [e2,<-hT];show Lf (Qgb T (Fc (Hj a.c b.c c.c d.c) q) (Q70 (a,b,c,d)) []) key=_;unfold Qgb;rw [Rp,Rp,Rp,Rp];rfl
  obtain ⟨F,hF⟩:=nmE (Qwc [a,b,c,d] q);rw [<-hF] at f;have r0:[a,b,c,d][0]? = some a:=rfl;have r1:[a,b,c,d][1]? = some b:=rfl;have r2:[a,b,c,d][2]? = some c:=rfl;have r3:[a,b,c,d][3]? = some d:=rfl;have rr:List.range 4=[0,1,2,3]:=rfl;have s2:=Qvy a.c b.c c.c d.c q;have s1:=Zlg a.c b.c c.c d.c q;have s0:=Zlf a.c b.c c.c d.c q;rw [<-hT,<-hF];rcases (show (i=0/\j=1/\k=2)\/(i=0/\j=1/\k=3)\/(i=0/\j=2/\k=3)\/(i=1/\j=2/\k=3) by omega) with ⟨rfl,rfl,rfl⟩ | ⟨rfl,rfl,rfl⟩ | ⟨rfl,rfl,rfl⟩ | ⟨rfl,rfl,rfl⟩
  all_goals
   simp only [r0,r1,r2,r3,Option.some.injEq] at hx hy hz;subst hx hy hz;unfold isT Qey;rw [f,t,t,t,t];show _=(_ && decide (((List.range 4).filter _).length=0));rw [rr];simp only [List.filter_cons,List.filter_nil,inA,Q6e,r0,r1,r2,r3,s2,s1,s0,Se];have n1:a.id≠b.id:=by omega
   have n2:b.id≠c.id:=by omega
   have n3:c.id≠d.id:=by omega
   have n1':b.id≠a.id:=by omega
   have n2':c.id≠b.id:=by omega
   have n3':d.id≠c.id:=by omega
   simp [n1,n2,n3,n1',n2',n3'];congr 1;rw [Kt];simp only [Bool.not_eq_true',decide_eq_false_iff_not,decide_eq_true_eq];omega
def Od (m n:P3):Bool:=if m.1.id≠n.1.id then decide (m.1.id<n.1.id) else if m.2.1.id≠n.2.1.id then decide (m.2.1.id<n.2.1.id) else if m.2.2.id≠n.2.2.id then decide (m.2.2.id<n.2.2.id) else false
theorem Qwp {m n:P3} (h:m.1.id<n.1.id):Od m n=true:=by unfold Od; rw [if_pos (by omega)]; exact decide_eq_true h
theorem Q74 {a:Pt} {m n:Pt×Pt} (h:m.1.id<n.1.id):Od (a,m) (a,n)=true:=by unfold Od; rw [if_neg (by simp),if_pos (by show m.1.id≠n.1.id; omega)]; exact decide_eq_true h
theorem Ziw {a b m n:Pt} (h:m.id<n.id):Od (a,b,m) (a,b,n)=true:=by unfold Od; rw [if_neg (by simp),if_neg (by simp),if_pos (by show m.id≠n.id; omega)]; exact decide_eq_true h
theorem Zj1 {W:List Pt} (hW:W.length<=4) (hs:Rl W):(Ft W).Pairwise λm n=>Od m n=true:=by
 match W,hW,hs with
 | [],_,_=>exact List.Pairwise.nil
 | [a],_,_=>exact List.Pairwise.nil
 | [a,b],_,_=>exact List.Pairwise.nil
 |
  [a,b,c],_,hs =>
  have e1:Ft [a,b,c]=[(a,b,c)]:=rfl;rw [e1]; simp
 |
  [a,b,c,d],_,hs =>
  simp only [Rl,Zy,Qo,X8,or_false,forall_eq_or_imp,forall_eq] at hs;obtain ⟨⟨ab,ac,ad⟩,⟨bc,bd⟩,cd,-⟩:=hs;have e1:Ft [a,b,c,d]=[(a,b,c),(a,b,d),(a,c,d),(b,c,d)]:=rfl;rw [e1];simp only [Zy,Qo,X8,or_false,forall_eq_or_imp,forall_eq,List.Pairwise.nil,and_true];exact ⟨⟨Ziw cd,Q74 bc,Qwp ab⟩,⟨Q74 bc,Qwp ab⟩,Qwp ab,λ_ h=>by simp at h⟩
theorem Zft {W:List Pt} {i j k:Nat} {x y z:Pt} (hW:W.length<=4) (hij:i<j) (hjk:j<k) (hx:W[i]? = some x) (hy:W[j]? = some y) (hz:W[k]? = some z):(x,y,z)∈Ft W:=by
 have hkl:=(Qc.1 hz).1
 match W,hW with
 | [],_=>simp at hx
 | [a],_=>simp at hkl; omega
 | [a,b],_=>simp at hkl; omega
 |
  [a,b,c],_ =>
  simp at hkl;obtain rfl:i=0:=by omega
  obtain rfl:j=1:=by omega
  obtain rfl:k=2:=by omega
  simp at hx hy hz;subst hx hy hz;exact Qt ..
 |
  [a,b,c,d],_ =>
  simp at hkl;have e1:Ft [a,b,c,d]=[(a,b,c),(a,b,d),(a,c,d),(b,c,d)]:=rfl;rw [e1];rcases (show (i=0/\j=1/\k=2)\/(i=0/\j=1/\k=3)\/(i=0/\j=2/\k=3)\/(i=1/\j=2/\k=3) by omega) with ⟨rfl,rfl,rfl⟩ | ⟨rfl,rfl,rfl⟩ | ⟨rfl,rfl,rfl⟩ | ⟨rfl,rfl,rfl⟩
  all_goals
   simp at hx hy hz;subst hx hy hz;simp
theorem Qoo {l:List Pt} (h:Dh l) {a b:Pt} (ha:a∈l) (hb:b∈l) (e:a.id=b.id):a=b:=by
 obtain ⟨i,hi,rfl⟩:=Yy.1 ha;obtain ⟨j,hj,rfl⟩:=Yy.1 hb;have hp:=Y0.1 h;rcases Vp i j with h1 | h1 | h1
 ·exact absurd e (hp i j hi hj h1)
 ·subst h1; rfl
 ·exact absurd e.symm (hp j i hj hi h1)
theorem Zfs {W:List Pt} (hs:Dh W) {m n:P3} (hm:m∈Ft W) (hn:n∈Ft W) (h:Se m=Se n):m=n:=by
 obtain ⟨m1,m2,m3⟩:=O4 _ _ m hm;obtain ⟨n1,n2,n3⟩:=O4 _ _ n hn;simp only [Se,List.cons.injEq,and_true] at h;obtain ⟨h1,h2,h3⟩:=h;exact Prod.ext (Qoo hs m1 n1 h1) (Prod.ext (Qoo hs m2 n2 h2) (Qoo hs m3 n3 h3))
theorem Zbv {W:List Pt} {p:P3->Bool} (hs:Dh W) {m:P3} (hm:m∈Ft W):((Ft W).filter p).any (λn=>decide (Se n=Se m))=p m:=by
 rw [Kt,Wy];constructor
 ·rintro ⟨n,hn,h⟩
  obtain ⟨h1,h2⟩:=V6.1 hn;rw [Zfs hs h1 hm (of_decide_eq_true h)] at h2;exact h2
 ·intro h;exact ⟨m,V6.2 ⟨hm,h⟩,decide_eq_true rfl⟩
end Orr
namespace Orr
open Go Go.Proofs Orq
set_option maxRecDepth 10000
theorem Zd0 (M:List Pt) (q:Rat):Qdg (Ch (tq q)) M=(Ft (C0 M)).filter (isT (Qt9 (C0 M) q) (Qwc (C0 M) q)):=by
 have e1:∀ ps,Qch (Ch (tq q)) ps=Qch (λp=>U9 p q) ps:=λps=>Y9 λm _=>by
  show (Se m,Nw (Ch (tq q)) _)=(Se m,Fc _ q);rw [Qjg]
 have e2:∀ ps,Qca (Ch (tq q)) ps=Qca (λp=>U9 p q) ps:=λps=>Y9 λm _=>by
  show (Q70 m,Nw (Ch (tq q)) _)=(Q70 m,Fc _ q);rw [Qjg]
 unfold Qdg;rw [e1,e2]
theorem Zcj (m n:P3):Uh Tryz.prog 14 [.agg (trL m),.agg (trL n)] [.one (.bool (Od m n))]:=by
 obtain ⟨m0,m1,m2⟩:=m;obtain ⟨n0,n1,n2⟩:=n;unfold Od;refine Ha Tryz.func14 rfl ?_;refine go tt [] rfl trivial ?_;refine lp (S:=Nat) 2 (λL1 i=>(5,.v (.one (.int .i64 (i:Int))))::L1) (λ_=>[.blk 50 (trL (m0,m1,m2)),.blk 50 (trL (n0,n1,n2))]) (λi=>3-i) (λi=>i<=3/\(0<i->m0.id=n0.id)/\(1<i->m1.id=n1.id)/\(2<i->m2.id=n2.id)) 0 ⟨by decide,by omega,by omega,by omega⟩ rfl (λ_ _=>rfl) rfl λi ⟨hi,h0,h1,h2⟩=>?_
 rcases (show i=0\/i=1\/i=2\/i=3 by omega) with rfl | rfl | rfl | rfl
 ·by_cases h:m0.id=n0.id
  ·refine go tt [.t rfl,.i 0,.i 0,.f (decide_eq_false (λh'=>h' h))] rfl (by simp [Uf]) ?_;exact rd 1 (by omega) ⟨by omega,λ_=>h,by omega,by omega⟩ rfl
  ·rw [if_pos h];exact en tt [.t rfl,.i 0,.i 0,.t (decide_eq_true h),.i 0,.i 0] rfl rfl (by simp [Uf])
 ·have h0:=h0 (by omega);by_cases h:m1.id=n1.id
  ·refine go tt [.t rfl,.i 1,.i 1,.f (decide_eq_false (λh'=>h' h))] rfl (by simp [Uf]) ?_;exact rd 2 (by omega) ⟨by omega,λ_=>h0,λ_=>h,by omega⟩ rfl
  ·rw [if_neg (λh'=>h' h0),if_pos h];exact en tt [.t rfl,.i 1,.i 1,.t (decide_eq_true h),.i 1,.i 1] rfl rfl (by simp [Uf])
 ·have h0:=h0 (by omega);have h1:=h1 (by omega);by_cases h:m2.id=n2.id
  ·refine go tt [.t rfl,.i 2,.i 2,.f (decide_eq_false (λh'=>h' h))] rfl (by simp [Uf]) ?_;exact rd 3 (by omega) ⟨by omega,λ_=>h0,λ_=>h1,λ_=>h⟩ rfl
  ·rw [if_neg (λh'=>h' h0),if_neg (λh'=>h' h1),if_pos h];exact en tt [.t rfl,.i 2,.i 2,.t (decide_eq_true h),.i 2,.i 2] rfl rfl (by simp [Uf])
 ·rw [if_neg (λh'=>h' (h0 (by omega))),if_neg (λh'=>h' (h1 (by omega))),if_neg (λh'=>h' (h2 (by omega)))];exact en tt [.f rfl] rfl rfl trivial
theorem Qmb (p:List Int) (q:Rat):-1<=Fc p q/\Fc p q<=1:=by rw [<-Qjg]; exact Qsb _ _
set_option maxHeartbeats 8000000 in
theorem Qk5 {zs:List RawPt} {n d:Int} (hz:∀ z∈zs,z.Ok) (hn:-9223372036854775808≤n/\n≤9223372036854775807) (hdd:-9223372036854775808≤d/\d≤9223372036854775807):Uh Tryz.prog 3 [.one (.row (Qd1 zs)),.one (.int .i64 n),.one (.int .i64 d)] [.one (.bool true)]:=by
 obtain ⟨e,he,hd,hm⟩:=Zia (Qfo 4 20 zs);have hq0:=Qnk n d;have cb:=Q16 hz rfl he hd hm hn hdd (Zg0 (hq0.mono (by decide))) rfl;obtain ⟨O,hO⟩:=nmE (Qfo 4 20 zs);have hO4:O.length<=4:=by rw [hO]; exact I5 _ _ (Qg _)
 have hlit:∀ p∈O,Q1q p:=λp hp=>by rw [hO] at hp; exact Qmj (by decide) p hp
 rw [<-hO] at cb he hd;obtain ⟨M,hM⟩:=nmE (H8 Dw (Qba O e));rw [<-hM] at cb;obtain ⟨q,hq⟩:=nmE (A9 n d);rw [<-hq] at cb hq0;have hcn:(Qba O e).length=e:=by rw [Qgp,Qc1 he]
 have hMl:M.length=e:=by rw [hM,Ny,hcn]
 have hMs:Rl M:=by rw [hM]; exact Ia (Qlr hd)
 have hok:∀ p∈M,Nml p.c/\Cs 10 3 p.c:=λp hp=>by
  rw [hM,De] at hp;exact Qzf hlit e p hp
 have hrs:∀ p∈M,Rs p.c:=λp hp=>⟨(hok p hp).1,(hok p hp).2.mono (by decide) (by decide)⟩
 have hq6:Qs 1000000 q:=hq0.mono (by decide);have cW:=Qy3 hrs (by omega);rw [Za2 hMs λp hp=>(hok p hp).1] at cW;obtain ⟨c0,hc0⟩:=nmE (Q4s M (tq q));rw [<-hc0] at cb;obtain ⟨W,hW⟩:=nmE (C0 M);rw [<-hW] at cW;have hWl:W.length<=4:=by have:=Qeh M; rw [hW]; omega
 have hWs:Rl W:=by rw [hW]; exact List.Pairwise.sublist (Qul M) hMs
 have hWd:Dh W:=hWs.imp λh=>by omega
 have hWr:∀ p∈W,Rs p.c:=λp hp=>by rw [hW] at hp; exact hrs p (Qky hp)
 obtain ⟨ts,hts⟩:=nmE (Qdg (Ch (tq q)) M);have hbr:brD M (tq q)=Nz ts:=by rw [hts]
 rw [hbr] at cb;have htl:ts.length<=20:=by rw [hts]; exact Q28 _ (by omega)
 rw [Zd0,<-hW] at hts;obtain ⟨cs,hcs⟩:∃ cs:List (List Int),cs=[[-q.num,(q.den:Int)],[1]]:=⟨_,rfl⟩;rw [<-hcs] at cb;obtain ⟨w,hw⟩:=nmE (Qdx q M);rw [<-hw] at cb;have cRat:=Qf7 (q:=q) (c:=cs) hq6 (by rw [hcs]; exact Zg0 hq6);have cT:=Qih (c:=c0) (r0:=U4 M) (ts:=ts) (by omega);have hrl:=Tk W;have htt:=O5 ts;refine Ha Tryz.func3 rfl ?_;refine go tt [.c [0,1] cb,.f rfl,.c [] cRat,.c [] cW,.c [0] cT] rfl trivial ?_;refine lp (S:=Nat) 3 (λL1 i=>(46,.v (.one (.int .i64 (i:Int))))::L1) (λ_=>[.blk 86 (crl c0 (U4 M) (Nz ts)),.blk 45 (plB M q cs w),.blk 37 (aq q cs)]) (λi=>W.length-i) (λi=>i<=W.length) 0 (Qg _) rfl (λ_ _=>rfl) rfl λi hi=>?_
 by_cases hil:i<W.length
 ·obtain ⟨x,hx⟩:=gxE (l:=W) (i:=i) hil;have sx:=hWr x (Qa hx);refine go tt [.t (decide_eq_true (by omega)),.r 50 (eI (b:=((i+1+0:Nat):Int)) (by simp))] rfl (by simp [Uf] <;> omega) ?_;refine lp (S:=Nat) 3 (λL1 a=>(14,.v (.one (.int .i64 ((i+1+a:Nat):Int))))::L1) (λ_=>[.blk 86 (crl c0 (U4 M) (Nz ts)),.blk 45 (plB M q cs w),.blk 37 (aq q cs)]) (λa=>W.length-i-a) (λa=>a<=W.length-i-1) 0 (Qg _) rfl (λ_ _=>rfl) rfl λa ha=>?_
  by_cases hjl:i+1+a<W.length
  ·obtain ⟨y,hy⟩:=gxE (l:=W) (i:=i+1+a) hjl;have sy:=hWr y (Qa hy);obtain ⟨j,hj⟩:=nmE (i+1+a);rw [<-hj] at hjl hy ⊢;refine go tt [.t (decide_eq_true (by omega)),.r 58 (eI (b:=((j+1+0:Nat):Int)) (by simp))] rfl (by simp [Uf] <;> omega) ?_;refine lp (S:=Nat) 3 (λL1 b=>(15,.v (.one (.int .i64 ((j+1+b:Nat):Int))))::L1) (λ_=>[.blk 86 (crl c0 (U4 M) (Nz ts)),.blk 45 (plB M q cs w),.blk 37 (aq q cs)]) (λb=>W.length-j-b) (λb=>b<=W.length-j-1) 0 (Qg _) rfl (λ_ _=>rfl) rfl λb hb=>?_
   by_cases hkl:j+1+b<W.length
   ·obtain ⟨z,hz'⟩:=gxE (l:=W) (i:=j+1+b) hkl;have sz:=hWr z (Qa hz');obtain ⟨k,hk⟩:=nmE (j+1+b);rw [<-hk] at hkl hz' ⊢;have hemp:=emp (q:=q) hWl hWs (show i<j by omega) (show j<k by omega) hx hy hz';have hany:=Zbv (p:=isT (Qt9 W q) (Qwc W q)) hWd (Zft hWl (show i<j by omega) (show j<k by omega) hx hy hz');rw [<-hts,hemp] at hany;obtain ⟨o,ho⟩:=nmE (Fc (Gn x.c y.c z.c) q);have hob:-1<=o/\o<=1:=by rw [ho]; exact Qmb _ _
    rw [<-ho] at hany;obtain ⟨inn,hi0,his,hie⟩:∃ inn:Nat->Bool,inn 0=false/\(∀ t m,ts[t]? = some m->inn (t+1)=(inn t || decide ([m.1.id,m.2.1.id,m.2.2.id]=[x.id,y.id,z.id])))/\inn ts.length=(decide (o≠0) && decide (Qey W q o i j k W.length=0)) :=
     ⟨λt=>(ts.take t).any λm=>decide (Se m=Se (x,y,z)),rfl,λt m h=>by
      dsimp only;rw [Jv,h,W7];simp [Se],by dsimp only; rw [List.take_length]; exact hany⟩
    refine go tt [.t (decide_eq_true (by omega))] rfl (by simp [Uf] <;> omega) ?_;refine lp (S:=Nat) 3 (λL1 t=>(67,.v (.one (.int .i64 (t:Int))))::(16,.v (.one (.bool (inn t))))::L1) (λ_=>[.blk 86 (crl c0 (U4 M) (Nz ts)),.blk 45 (plB M q cs w),.blk 37 (aq q cs)]) (λt=>ts.length-t) (λt=>t<=ts.length) 0 (Qg _) rfl (λ_ _=>rfl) (by rw [hi0]; rfl) λt ht=>?_
    by_cases htl':t<ts.length
    ·obtain ⟨m,hm'⟩:=gxE (l:=ts) (i:=t) htl';have hnx:=his t m hm';cases hit:inn t with
     |
      true =>
      rw [hit,Bool.true_or] at hnx;refine go tt [.t (decide_eq_true (by omega)),.g 71 true rfl] rfl (by simp [Uf] <;> omega) ?_;exact rd (t+1) (by omega) htl' (by rw [hnx]; rfl)
     |
      false =>
      rw [hit,Bool.false_or] at hnx;refine go tt [.t (decide_eq_true (by omega)),.g 71 false rfl,.x (Qec hm'),.x (Fq hx),.x (Fq hy),.x (Fq hz')] rfl (by simp [Uf] <;> omega) ?_;exact rd (t+1) (by omega) htl' (by rw [hnx]; rfl)
    ·obtain rfl:t=ts.length:=by omega
     have co:=Qlj sx sy sz;have hsz:=Qjz sx sy sz;have ca:=Qcy (q:=q) (c:=cs) (Ug hsz.1 (by decide)) (Qd hsz.2 (by decide)) hq6;rw [Qw1] at co ca;rw [<-ho] at ca;refine go tt [.f (decide_eq_false (by omega)),.x (Fq hx),.x (Fq hy),.x (Fq hz'),.c [] co,.c [] ca] rfl (by simp [Uf] <;> omega) ?_;refine lp (S:=Nat) 3 (λL1 v=>(115,.v (.one (.int .i64 (v:Int))))::(19,.v (.one (.int .i64 ((Qey W q o i j k v:Nat):Int))))::L1) (λ_=>[.blk 86 (crl c0 (U4 M) (Nz ts)),.blk 45 (plB M q cs w),.blk 37 (aq q cs)]) (λv=>W.length-v) (λv=>v<=W.length) 0 (Qg _) rfl (λ_ _=>rfl) rfl λv hv=>?_
     have hcl:=Zc2 (W:=W) (q:=q) (o:=o) (i:=i) (j:=j) (k:=k) v;by_cases hvl:v<W.length
     ·obtain ⟨u,hu⟩:=gxE (l:=W) (i:=v) hvl;have su:=hWr u (Qa hu);by_cases h1:v=i
      ·have hc:inA W q o i j k v=false:=by unfold inA; rw [decide_eq_false (by omega),Bool.false_and]
       have hnx:=Qoi hc;refine go tt [.t (decide_eq_true (by omega)),.g 121 false (decide_eq_false (by omega)),.g 126 false rfl,.g 131 false rfl,.f rfl] rfl (by simp [Uf] <;> omega) ?_;exact rd (v+1) (by omega) hvl (by rw [hnx]; rfl)
      ·by_cases h2:v=j
       ·have hc:inA W q o i j k v=false:=by unfold inA; rw [decide_eq_false (by omega),Bool.false_and]
        have hnx:=Qoi hc;refine go tt [.t (decide_eq_true (by omega)),.g 121 true (decide_eq_true (by omega)),.g 126 false (decide_eq_false (by omega)),.g 131 false rfl,.f rfl] rfl (by simp [Uf] <;> omega) ?_;exact rd (v+1) (by omega) hvl (by rw [hnx]; rfl)
       ·by_cases h3:v=k
        ·have hc:inA W q o i j k v=false:=by unfold inA; rw [decide_eq_false (by omega),Bool.false_and]
         have hnx:=Qoi hc;refine go tt [.t (decide_eq_true (by omega)),.g 121 true (decide_eq_true (by omega)),.g 126 true (decide_eq_true (by omega)),.g 131 false (decide_eq_false (by omega)),.f rfl] rfl (by simp [Uf] <;> omega) ?_;exact rd (v+1) (by omega) hvl (by rw [hnx]; rfl)
        ·have cc:=Qy2 sx sy sz su;have hcz:=Qrk sx sy sz su;have cd:=Qcy (q:=q) (c:=cs) (Ug hcz.1 (by decide)) (Qd hcz.2 (by decide)) hq6;rw [Q6f] at cc cd;obtain ⟨s,hs⟩:=nmE (Fc (Hj x.c y.c z.c u.c) q);have hsb:-1<=s/\s<=1:=by rw [hs]; exact Qmb _ _
         have hosb:=Qmn hob hsb;have hA:inA W q o i j k v=decide (0<o*s):=by
          unfold inA Q6e;rw [decide_eq_true (by omega),Bool.true_and,hx,hy,hz',hu,hs]
         rw [<-hs] at cd;by_cases hp:0<o*s
         ·have hnx:=Zh6 (hA.trans (decide_eq_true hp));refine go tt [.t (decide_eq_true (by omega)),.g 121 true (decide_eq_true (by omega)),.g 126 true (decide_eq_true (by omega)),.g 131 true (decide_eq_true (by omega)),.x (Fq hx),.x (Fq hy),.x (Fq hz'),.x (Fq hu),.c [] cc,.c [] cd,.t (decide_eq_true hp)] rfl (by simp [Uf] <;> omega) ?_;exact rd (v+1) (by omega) hvl (by rw [hnx]; rfl)
         ·have hnx:=Qoi (hA.trans (decide_eq_false hp));refine go tt [.t (decide_eq_true (by omega)),.g 121 true (decide_eq_true (by omega)),.g 126 true (decide_eq_true (by omega)),.g 131 true (decide_eq_true (by omega)),.x (Fq hx),.x (Fq hy),.x (Fq hz'),.x (Fq hu),.c [] cc,.c [] cd,.f (decide_eq_false hp)] rfl (by simp [Uf] <;> omega) ?_;exact rd (v+1) (by omega) hvl (by rw [hnx]; rfl)
     ·obtain rfl:v=W.length:=by omega
      by_cases ho0:o=0
      ·have hf:inn ts.length=false:=by rw [hie,decide_eq_false (by omega),Bool.false_and]
       refine go tt [.f (decide_eq_false (by omega)),.g 165 false (decide_eq_false (by omega)),.f (by rw [hf]; simp),.r 64 (eI (b:=((j+1+(b+1):Nat):Int)) (by simp <;> omega))] rfl (by simp [Uf] <;> omega) ?_;exact rd (b+1) (by omega) (by omega) rfl
      ·have hf:inn ts.length=decide (((Qey W q o i j k W.length:Nat):Int)=0):=by
        rw [hie,decide_eq_true ho0,Bool.true_and];exact decide_eq_decide.2 (by omega)
       refine go tt [.f (decide_eq_false (by omega)),.g 165 true (decide_eq_true ho0),.f (by rw [hf]; simp),.r 64 (eI (b:=((j+1+(b+1):Nat):Int)) (by simp <;> omega))] rfl (by simp [Uf] <;> omega) ?_;exact rd (b+1) (by omega) (by omega) rfl
   ·obtain rfl:b=W.length-j-1:=by omega
    refine go tt [.f (decide_eq_false (by omega)),.r 56 (eI (b:=((i+1+(a+1):Nat):Int)) (by simp <;> omega))] rfl (by simp [Uf] <;> omega) ?_;exact rd (a+1) (by omega) (by omega) rfl
  ·obtain rfl:a=W.length-i-1:=by omega
   refine go tt [.f (decide_eq_false (by omega))] rfl (by simp [Uf] <;> omega) ?_;exact rd (i+1) (by omega) hil rfl
 ·have hpw:ts.Pairwise λm n=>Od m n=true:=by rw [hts]; exact List.Pairwise.sublist Wa (Zj1 hWl hWs)
  refine go tt [.f (decide_eq_false (by omega))] rfl (by simp [Uf] <;> omega) ?_;refine lp (S:=Nat) 3 (λL1 t=>(21,.v (.one (.int .i64 ((t+1:Nat):Int))))::L1) (λ_=>[.blk 86 (crl c0 (U4 M) (Nz ts)),.blk 45 (plB M q cs w),.blk 37 (aq q cs)]) (λt=>ts.length-t) (λt=>t<=ts.length) 0 (Qg _) rfl (λ_ _=>rfl) rfl λt ht=>?_
  by_cases htl':t+1<ts.length
  ·obtain ⟨m,hm'⟩:=gxE (l:=ts) (i:=t) (by omega);obtain ⟨m2,hm2⟩:=gxE (l:=ts) (i:=t+1) htl';have hls:Od m m2=true:=by
    have h:=Y0.1 hpw t (t+1) (by omega) htl' (by omega);rw [(Qc.1 hm').2,(Qc.1 hm2).2] at h;exact h
   have cl:=Zcj m m2;rw [hls] at cl;refine go tt [.t (decide_eq_true (by omega)),.r 179 (eI (b:=(t:Int)) (by omega)),.x (Qec hm'),.x (Qec hm2),.c [] cl,.f rfl] rfl (by simp [Uf] <;> omega) ?_;exact rd (t+1) (by omega) (by omega) rfl
  ·exact en tt [.f (decide_eq_false (by omega)),.c [] Q2j] rfl rfl (by simp [Uf] <;> omega)
end Orr
namespace Orr
open Go Go.Proofs
variable {H:Type} {enc:TypeId×Value->H} {w:World} {base:Nat} {spare:Nat->Bool} {held:Bool}
theorem Dv {α:Type} {l:List α} {n i:Nat} (h:l.length=n) (hi:i<n):∃ x,l[i]? = some x:=⟨l[i]'(by omega),Qf (by omega)⟩
end Orr
namespace Orr
open Go Go.Proofs Go.ChangeShapes Go.WideShapes Go.ChangeAt Go.RowKit Go.WideElems
theorem Zcw {w:World} {a:Addr} {v:Value} (h:w.cell? a=some v):a.spot=none/\a.block<w.heap.size:=by
 simp only [World.cell?] at h
 split at h
 ·rename_i c t fr hc
  split at h
  ·cases h
  ·rename_i hs;refine ⟨by cases e:a.spot with | none=>rfl | some _=>simp [e] at hs,?_⟩;exact (Array.getElem?_eq_some_iff.1 hc).1
 ·cases h
theorem Zbt {a:Addr} (h:a.spot=none) (n m:Nat):(a.add n).add m=⟨a.block,a.off+n+m,none⟩:=by
 obtain ⟨b,o,s⟩:=a;simp only at h;subst h;simp only [Addr.add]
 split
 ·rename_i h; subst h
  split
  ·rename_i h; subst h; simp
  ·simp
 ·split
  ·rename_i h; subst h; simp
  ·simp
def fr0 (w:World):Fr:=⟨λb=>b<w.heap.size,λ_=>False,w,λ_=>False,λ_=>none⟩
theorem hs0 (w:World):HS (fr0 w) (ob []) (nw []) (λ_=>none) (λ_=>False) w where
 size:=Qm _
 kept:=λb hb=>⟨hb,rfl,Iff.rfl⟩
 ids:=λi h=>h.elim
 nj:=λi h=>by rw [Qpj] at h; cases h
 io:=⟨rfl,rfl⟩
 blk:=λi=>by rw [Qpj]; trivial
 nk:=λi g c m h _=>by rw [Qpj] at h; cases h
 inj:=λi j g c m c' m' h _ _ _=>by rw [Qpj] at h; cases h
 mlt:=λb h=>h.elim
 m0:=λb _ h=>h.elim
 un:=λi _=>⟨rfl,rfl⟩
 uj:=λi _ h=>h.elim
theorem Zfb {w w':World} {bl:Nat->OB} {U:Nat->Prop} {E:Ms} {M:Nat->Prop} (h:HS (fr0 w) bl U E M w') {p:MemPlace} (hp:p.block<w.heap.size):w.sameAt w' p:=by
 cases p with
 | cell b off=>simp only [World.sameAt,World.cell?]; rw [(h.kept b hp).2.1]; rfl
 | map b=>exact (h.kept b hp).2.1
theorem Zdq {w w':World} {bl:Nat->OB} {U:Nat->Prop} {E:Ms} {M:Nat->Prop} (h:HS (fr0 w) bl U E M w') (may:MemPlace->Prop):w.keptBut w' may:=by
 refine ⟨h.io.1,h.io.2,λi hi=>?_⟩;have e:w'.heap[i]? = w.heap[i]? := (h.kept i hi).2.1;rw [e];cases w.heap[i]? with
 | none=>rfl
 | some o=>cases o <;> simp
end Orr
