/- R21 NewsN PW2 SD1 SC1 W1 W2 WR18 WS18 X21 B21 A21 WS21 SD2 TurnL WD18 WD21 ReadN LastN LastR LastT -/
import Derived.Test.YtbnjginelkkonaaGreatPart09
import Derived.Test.YtbnjginelkkonaaGreatPart08
import Derived.Test.YtbnjginelkkonaaGreatPart05
import Derived.Deep.Slices
import Derived.ProofKit
import Derived.OpenShut
import Derived.WideKeyArgs
import Derived.SizedLaws
set_option linter.all false
namespace Orr
open Go Go.Proofs
set_option maxRecDepth 10000
theorem Q2e {p q:List Int} (hp:Bd 19000000 p) (hq:Bd 19000000 q) (hlp:p.length≤1000000) (hlq:q.length≤1000000):Qd Tryz.prog 255 [.one (rp (zp p)),.one (rp (zp q))] [.one (rp (zp (M9 p q)))]:=by
  have h:=Qlm (Sa (Qc hp (by decide)) (by decide)) (Sa (Qc hq (by decide)) (by decide)) (by rw [J6]; exact hlp) (by rw [J6]; exact hlq)
  rwa [Qq1] at h
theorem Mq {a b:Crv} (ha:Rs a) (hb:Rs b):Bd 400008 (Z3 a b)∧(Z3 a b).length≤31:=by
  have h1:=Qd2 ha hb
  have h2:=Qdv ha hb
  have:=Qft h1.2; have:=Qft h2.2
  exact ⟨Qc (A4 (Qn8 h1.1 h1.2) (Qn8 h2.1 h2.2)) (by omega),Nat.le_trans (Cq _ _) (by omega)⟩
theorem Qhx {a b:Crv} (ha:Rs a) (hb:Rs b):Qd Tryz.prog 329 [.agg (rcl a),.agg (rcl b)] [.one (rp (zp (Z3 a b)))]:=by
  have h1:=Qd2 ha hb
  have h2:=Qdv ha hb
  have l1:=Qft h1.2
  have l2:=Qft h2.2
  exact w tt Tryz.func329 rfl [.c [] (Qv2 ha hb),.c [] (Qvx ha hb),.c [] (Qe1 (p:=Xl a b) (q:=Xl a b) (by omega) (by omega) h1.1 h1.1 (by decide)),.c [] (Qe1 (p:=Xk a b) (q:=Xk a b) (by omega) (by omega) h2.1 h2.1 (by decide)),.c [] (Q2e (p:=Zi (Xl a b) (Xl a b)) (q:=Zi (Xk a b) (Xk a b)) (Qc (Qn8 h1.1 h1.2) (by decide)) (Qc (Qn8 h2.1 h2.2) (by decide)) (by omega) (by omega))] rfl rfl trivial
theorem Q0p {x:Int} (h:x≠0):Qi [x]:=by unfold Qi; simp [trim,h]
theorem Qyy {x y:Int} (hx:x≠0) (hy:y≠0):Qx [x] y=[x*y]:=by
  have h:=Q0p (Int.mul_ne_zero hx hy)
  exact h
theorem A7 {x y:Int} (hx:x≠0) (hy:y≠0) (bx:Ql x≤9000000) (b_y:Ql y≤9000000):Qd Tryz.prog 283 [.one (rp (zp [x])),.one (rp (zp [y]))] [.one (rp (zp [x*y]))]:=by
  have h:=Nn (p:=[x]) (d:=y) (Q0p hx) hy (Q93 bx) b_y (by show 1≤1000; decide)
  rwa [Qyy hx hy] at h
theorem Ik {a b:Int} (ha:Ql a≤100000) (hb:Ql b≤100000):Ql (a*b)≤200000∧Ql ((a*b)*(a*b))≤400000:=by
  have h1:=Q0 a b; have h2:=Q0 (a*b) (a*b); omega
theorem Qjs {a b c d:Crv} (ha:Rs a) (hb:Rs b) (hc:Rs c) (hd:Rs d):Bd 800009 (Q5 a b c d)∧(Q5 a b c d).length≤31:=by
  have h1:=Mq hc hd
  have h2:=Mq ha hb
  have e1:=(Ik ha.c.d hb.c.d).2
  have e2:=(Ik hc.c.d hd.c.d).2
  have:=Qu (Z3 c d) ((a.d*b.d)*(a.d*b.d)); have:=Qu (Z3 a b) ((c.d*d.d)*(c.d*d.d))
  exact ⟨Qc (Wx (Qz h1.1 e1) (Qz h2.1 e2)) (by omega),Nat.le_trans (Vs _ _) (by omega)⟩
theorem Aq (a b:Crv):Qi (Z3 a b):=Q9 _ _
theorem Ox {a b c d:Crv} (ha:Rs a) (hb:Rs b) (hc:Rs c) (hd:Rs d):Qd Tryz.prog 316 [.agg (rcl a),.agg (rcl b),.agg (rcl c),.agg (rcl d)] [.one (rp (zp (Q5 a b c d)))]:=by
  have h1:=Mq hc hd
  have h2:=Mq ha hb
  have e1:=Ik ha.c.d hb.c.d
  have e2:=Ik hc.c.d hd.c.d
  have n1:=Int.mul_ne_zero ha.dn hb.dn
  have n2:=Int.mul_ne_zero hc.dn hd.dn
  have m1:=A7 ha.dn hb.dn (Nat.le_trans ha.c.d (by decide)) (Nat.le_trans hb.c.d (by decide))
  have m2:=A7 hc.dn hd.dn (Nat.le_trans hc.c.d (by decide)) (Nat.le_trans hd.c.d (by decide))
  obtain ⟨x,hx⟩:∃ x,x=a.d*b.d:=⟨_,rfl⟩
  obtain ⟨y,hy⟩:∃ y,y=c.d*d.d:=⟨_,rfl⟩
  have eF:Q5 a b c d=Vn (Qx (Z3 c d) (x*x)) (Qx (Z3 a b) (y*y)):=by rw [hx,hy]; rfl
  rw [eF]
  rw [←hx] at e1 n1 m1
  rw [←hy] at e2 n2 m2
  have l1:=Qu (Z3 c d) (x*x)
  have l2:=Qu (Z3 a b) (y*y)
  have m3:=A7 n1 n1 (Nat.le_trans e1.1 (by decide)) (Nat.le_trans e1.1 (by decide))
  have m4:=A7 n2 n2 (Nat.le_trans e2.1 (by decide)) (Nat.le_trans e2.1 (by decide))
  have m5:=Nn (p:=Z3 c d) (d:=x*x) (Aq c d) (Int.mul_ne_zero n1 n1) (Qc h1.1 (by decide)) (Nat.le_trans e1.2 (by decide)) (by omega)
  have m6:=Nn (p:=Z3 a b) (d:=y*y) (Aq a b) (Int.mul_ne_zero n2 n2) (Qc h2.1 (by decide)) (Nat.le_trans e2.2 (by decide)) (by omega)
  have m7:=Qe0 (p:=Qx (Z3 c d) (x*x)) (q:=Qx (Z3 a b) (y*y)) (Qc (Qz h1.1 e1.2) (by decide)) (Qc (Qz h2.1 e2.2) (by decide)) (by omega) (by omega)
  exact w tt Tryz.func316 rfl [.c [] (Sv ha),.c [] (Sv hb),.c [] (Sv hc),.c [] (Sv hd),.c [] m1,.c [] m2,.c [] (Qhx hc hd),.c [] m3,.c [] m5,.c [] (Qhx ha hb),.c [] m4,.c [] m6,.c [] m7] rfl rfl trivial
theorem Qcn {a b c d:Crv} {q:Rat} {cs:List (List Int)} (ha:Rs a) (hb:Rs b) (hc:Rs c) (hd:Rs d) (hq:Qs 1000000 q):Qd Tryz.prog 315 [.one (rp (zp (Q5 a b c d))),.agg (aq q cs)] [.one (.int .i64 (S9 (Q5 a b c d) q))]:=by
  have h:=Qjs ha hb hc hd
  exact Qvs (Qc h.1 (by decide)) (Nat.le_trans h.2 (by decide)) hq
theorem Ql5 (p:List Int) (q:Rat):Up (Sk q) p=S9 p q:=rfl
theorem Qv0 {a b u v:Pt} {q:Rat} {c:List (List Int)} (ha:Rs a.c) (hb:Rs b.c) (hu:Rs u.c) (hv:Rs v.c) (hq:Qs 1000000 q):Qd Tryz.prog 311 [.one (.int .i64 5),.agg (aq q c),.one (.row [Ff a,Ff b,Ff u,Ff v])] [.agg (rct (Jy (Sk q) a b u v)),.one (.bool true)]:=by
  have x0:[Ff a,Ff b,Ff u,Ff v][0]? = some (Ff a):=rfl
  have x1:[Ff a,Ff b,Ff u,Ff v][1]? = some (Ff b):=rfl
  have x2:[Ff a,Ff b,Ff u,Ff v][2]? = some (Ff u):=rfl
  have x3:[Ff a,Ff b,Ff u,Ff v][3]? = some (Ff v):=rfl
  have cf:=Ox ha hb hu hv
  have cg:=Qcn (cs:=c) ha hb hu hv hq
  have e:rct (Jy (Sk q) a b u v)=[.int .i64 5,.int .i64 a.id,.int .i64 b.id,.int .i64 u.id,.int .i64 v.id,rp (zp (Q5 a.c b.c u.c v.c)),.int .i64 (S9 (Q5 a.c b.c u.c v.c) q),.row [],.bool false]:=by simp only [Jy,rct,Ql5]
  rw [e]
  generalize Q5 a.c b.c u.c v.c=F at *
  refine Z7 Tryz.func311 rfl ?_
  refine go tt [.g 14 false rfl,.g 18 false rfl,.x (l:=[[.int .i64 0],[.int .i64 2],[.int .i64 2],[.int .i64 3],[.int .i64 4],[.int .i64 4]]) (i:=5) (xs:=[.int .i64 4]) rfl,.f rfl] rfl trivial ?_
  refine lp (S:=Nat) 3 (fun L1 i=>(33,.v (.one (.int .i64 (i:Int))))::L1) (fun i=>[.blk 102 (aq q c),.blk 265 rzc,.blk 265 [.int .i64 5,.int .i64 (if 0<i then a.id else 0),.int .i64 (if 1<i then b.id else 0),.int .i64 (if 2<i then u.id else 0),.int .i64 (if 3<i then v.id else 0),.nils,.int .i64 0,.nils,.bool false]]) (fun i=>4-i) (fun i=>i≤4) 0 (by decide) rfl (fun _ _=>rfl) rfl fun i hi=>?_
  rcases (show i=0∨i=1∨i=2∨i=3∨i=4 by omega) with rfl | rfl | rfl | rfl | rfl
  · exact go tt [.t rfl,.x x0,.i 0] rfl (by simp [Qa]) (rd 1 (by omega) (by omega) rfl)
  · exact go tt [.t rfl,.x x1,.i 1] rfl (by simp [Qa]) (rd 2 (by omega) (by omega) rfl)
  · exact go tt [.t rfl,.x x2,.i 2] rfl (by simp [Qa]) (rd 3 (by omega) (by omega) rfl)
  · exact go tt [.t rfl,.x x3,.i 3] rfl (by simp [Qa]) (rd 4 (by omega) (by omega) rfl)
  exact en tt [.f rfl,.f rfl,.f rfl,.f rfl,.f rfl,.x x0,.x x1,.x x2,.x x3,.c [] cf,.c [] cg] rfl rfl trivial
theorem Q2n {a b u v:Pt} {q:Rat} {c:List (List Int)} (ha:Rs a.c) (hb:Rs b.c) (hu:Rs u.c) (hv:Rs v.c) (hq:Qs 1000000 q):Qd Tryz.prog 288 [.one (.int .i64 5),.agg (aq q c),.one (.row [Ff a,Ff b,Ff u,Ff v])] [.agg (rct (Jy (Sk q) a b u v))] :=
  w tt Tryz.func288 rfl [.c [] (Qv0 ha hb hu hv hq)] rfl rfl trivial
abbrev Qra:List LV:=[.nils,.nils,.nils,.nils,.bool false,.nils,.int .i64 0]
abbrev Qzy:List LV:=[.row [],.row [],.row [],.row [],.bool false,.row [],.int .i64 0]
theorem Qhw {l:List Pt} {q:Rat} {cs:List (List Int)} (hn:l.length≤1000) (h:l.length<2):Qd Tryz.prog 292 [.one (.row (Zd l)),.agg (aq q cs)] [.agg Qzy,.agg Qzy,.one (.bool false)]:=by
  have c1:=A8 (l:=l) (by omega)
  have hML:(Zd (Z5 Yu l)).length=l.length:=by rw [Yd,Vh]
  exact w tt Tryz.func292 rfl [.c [] c1,.t (decide_eq_true (by omega))] rfl rfl trivial
theorem Qlq {l:List Pt} {q:Rat} {cs:List (List Int)} {a b:Pt} {M':List Pt} (hl:∀ p∈l,Rs p.c) (hn:l.length≤1000) (hq:Qs 1000000 q) (hM:Z5 Yu l=a::b::M'):Qd Tryz.prog 292 [.one (.row (Zd l)),.agg (aq q cs)] [.agg (Ff (Qy (Sk q) (a,b) (Qw (a::b::M'))).1),.agg (Ff (Qy (Sk q) (a,b) (Qw (a::b::M'))).2),.one (.bool true)]:=by
  have c1:=A8 (l:=l) (by omega)
  have hML:(Z5 Yu l).length=l.length:=Vh _ _
  have hMl:∀ p∈Z5 Yu l,Rs p.c:=fun p hp=>hl p (Ro.1 hp)
  have hx0:(Z5 Yu l)[0]? = some a:=by rw [hM]; rfl
  have hx1:(Z5 Yu l)[1]? = some b:=by rw [hM]; rfl
  have hM2:2≤(Z5 Yu l).length:=by rw [hM]; simp
  rw [←hM]
  obtain ⟨M,hM⟩:∃ M,M=Z5 Yu l:=⟨_,rfl⟩
  rw [←hM] at c1 hML hMl hx0 hx1 hM2 ⊢
  have hcl:=Yd M
  have hs:(a,b).1∈M∧(a,b).2∈M:=⟨List.mem_of_getElem? hx0,List.mem_of_getElem? hx1⟩
  have hsc:∀ ps:List (Pt×Pt),(∀ m∈ps,m.1∈M∧m.2∈M)→Rs (Qy (Sk q) (a,b) ps).1.c∧Rs (Qy (Sk q) (a,b) ps).2.c:=fun ps h=>by
    obtain ⟨h1,h2⟩:=J7 (Sk q) ps (a,b) hs h
    exact ⟨hMl _ h1,hMl _ h2⟩
  refine Z7 Tryz.func292 rfl ?_
  refine go tt [.c [] c1,.f (decide_eq_false (by omega)),.x (Xe hx0),.x (Xe hx1)] rfl (by simp [Qa] <;> omega) ?_
  refine lp (S:=Nat) 5 (fun L1 i=>(26,.v (.one (.int .i64 (i:Int))))::L1) (fun i=>[.blk 102 (aq q cs),.blk 112 Qra,.blk 112 Qra,.blk 112 (Ff (Qy (Sk q) (a,b) (Xp i M)).1),.blk 112 (Ff (Qy (Sk q) (a,b) (Xp i M)).2)]) (fun i=>M.length-i) (fun i=>i≤M.length) 0 (Nat.zero_le _) rfl (fun _ _=>rfl) (by rw [Gz]; rfl) fun i hi=>?_
  by_cases hlt:i<M.length
  · obtain ⟨x,hx⟩:∃ x,M[i]? = some x:=⟨_,List.getElem?_eq_getElem hlt⟩
    rw [←Dd M x i]
    refine go tt [.t (decide_eq_true (by omega)),.r 30 (eI (b:=((i+1:Nat):Int)) (by simp))] rfl (by simp [Qa] <;> omega) ?_
    refine lp (S:=Nat) 5 (fun L1 j=>(10,.v (.one (.int .i64 ((i+1+j:Nat):Int))))::L1) (fun j=>[.blk 102 (aq q cs),.blk 112 Qra,.blk 112 Qra,.blk 112 (Ff (Qy (Sk q) (a,b) (Be M x i j)).1),.blk 112 (Ff (Qy (Sk q) (a,b) (Be M x i j)).2)]) (fun j=>(M.drop (i+1)).length-j) (fun j=>j≤(M.drop (i+1)).length) 0 (Nat.zero_le _) rfl (fun _ _=>rfl) rfl fun j hj=>?_
    have hdl:(M.drop (i+1)).length=M.length-(i+1):=List.length_drop
    by_cases hltj:j<(M.drop (i+1)).length
    · obtain ⟨y,hy⟩:∃ y,(M.drop (i+1))[j]? = some y:=⟨_,List.getElem?_eq_getElem hltj⟩
      have hy':M[i+1+j]? = some y:=by rw [←hy,List.getElem?_drop]
      obtain ⟨s1,s2⟩:=hsc (Be M x i j) (Qqs hx)
      have hxs:=hMl x (List.mem_of_getElem? hx)
      have hys:=hMl y (List.mem_of_getElem? hy')
      have ef:=Dc (x:=x) hy
      have en1:=Cy (Sk q) (a,b) (Be M x i j) (x,y)
      rw [←ef] at en1
      obtain ⟨s,hs'⟩:∃ s,s=Qy (Sk q) (a,b) (Be M x i j):=⟨_,rfl⟩
      rw [←hs'] at s1 s2 en1 ⊢
      have cF:=Ox s1 s2 hxs hys
      have cA:=Qcn (cs:=cs) s1 s2 hxs hys hq
      have ep:S9 (Q5 s.1.c s.2.c x.c y.c) q<0→J0 (Sk q) s (x,y)=(x,y):=fun h=>if_pos h
      have en:¬S9 (Q5 s.1.c s.2.c x.c y.c) q<0→J0 (Sk q) s (x,y)=s:=fun h=>if_neg h
      generalize Q5 s.1.c s.2.c x.c y.c=F at *
      by_cases hg:S9 F q<0
      · have e:=ep hg
        rw [e] at en1
        refine go tt [.t (decide_eq_true (by omega)),.x (Xe hx),.x (Xe hy'),.c [] cF,.c [] cA,.t (decide_eq_true hg),.x (Xe hx),.x (Xe hy')] rfl (by simp [Qa] <;> omega) ?_
        exact rd (j+1) (by omega) hltj (by rw [en1]; rfl)
      · have e:=en hg
        rw [e] at en1
        refine go tt [.t (decide_eq_true (by omega)),.x (Xe hx),.x (Xe hy'),.c [] cF,.c [] cA,.f (decide_eq_false hg)] rfl (by simp [Qa] <;> omega) ?_
        exact rd (j+1) (by omega) hltj (by rw [en1]; rfl)
    · have e:=Iu hx (Nat.le_of_not_lt hltj)
      rw [e]
      refine go tt [.f (decide_eq_false (by omega))] rfl (by simp [Qa] <;> omega) ?_
      exact rd (i+1) (by omega) hlt rfl
  · obtain rfl:i=M.length:=by omega
    exact en tt [.f (decide_eq_false (by omega))] rfl rfl trivial
def Q8u (q:Rat):List Pt→List Ct
  | a::b::M=>Z5 Kc (Jg (Sk q) (Qy (Sk q) (a,b) (Qw (a::b::M))) (Qw (a::b::M)))
  | _=>[]
def Rl (q:Rat) (l:List Pt):List Ct:=Q8u q (Z5 Yu l)
theorem Qtk (q:Rat) {l:List Pt} (hn:l.length≤10):(Rl q l).length≤1000000:=by
  unfold Rl
  have hs:(Z5 Yu l).length=l.length:=Vh _ _
  generalize Z5 Yu l=M at *
  match M,hs with
  | [],_=>exact Nat.zero_le _
  | [_],_=>exact Nat.zero_le _
  |
   a::b::M,hs =>
   show (Z5 Kc _).length≤_
   rw [Vh]
   have h1:=Hu (Sk q) (Qy (Sk q) (a,b) (Qw (a::b::M))) (Qw (a::b::M))
   have h2:=Ga (a::b::M).length (a::b::M)
   have h3:(a::b::M).length*(a::b::M).length≤10*10:=Nat.mul_le_mul (by omega) (by omega)
   have h4:(Qw (a::b::M)).length=(Xp (a::b::M).length (a::b::M)).length:=rfl
   omega
theorem Qe2 {l:List Pt} {q:Rat} {cs:List (List Int)} (hl:∀ p∈l,Rs p.c) (hn:l.length≤10) (hq:Qs 1000000 q):Qd Tryz.prog 259 [.one (.row (Zd l)),.agg (aq q cs)] [.one (.row (Jm (Rl q l)))]:=by
  have hML:(Z5 Yu l).length=l.length:=Vh _ _
  by_cases h2:l.length<2
  · have e:Rl q l=[]:=by
      unfold Rl
      match hm:Z5 Yu l with
      | []=>rfl
      | [_]=>rfl
      | a::b::M=>rw [hm] at hML; simp at hML; omega
    rw [e]
    exact w tt Tryz.func259 rfl [.c [] (Qhw (cs:=cs) (q:=q) (by omega) h2),.t rfl] rfl rfl trivial
  obtain ⟨a,b,M',hM⟩:=Qg3 (l:=Z5 Yu l) (by omega)
  have c0:=Qlq (cs:=cs) hl (by omega) hq hM
  have c1:=A8 (l:=l) (by omega)
  have hMl:∀ p∈Z5 Yu l,Rs p.c:=fun p hp=>hl p (Ro.1 hp)
  have e:Rl q l=Z5 Kc (Jg (Sk q) (Qy (Sk q) (a,b) (Qw (Z5 Yu l))) (Qw (Z5 Yu l))):=by unfold Rl; rw [hM]; rfl
  rw [e]
  rw [←hM] at c0
  have hab:a∈Z5 Yu l∧b∈Z5 Yu l:=by rw [hM]; exact ⟨by simp,by simp⟩
  obtain ⟨M,hM⟩:∃ M,M=Z5 Yu l:=⟨_,rfl⟩
  rw [←hM] at c0 c1 hML hMl hab ⊢
  obtain ⟨s1,s2⟩:=J7 (Sk q) (l:=M) (Qw M) (a,b) hab (Jl _ _)
  obtain ⟨s,hs⟩:∃ s,s=Qy (Sk q) (a,b) (Qw M):=⟨_,rfl⟩
  rw [←hs] at c0 s1 s2 ⊢
  have hcl:=Yd M
  have hpk:∀ i,i≤M.length→(Xp i M).length≤100:=fun i hi=>by
    have:=Ga i M
    have:i*M.length≤10*10:=Nat.mul_le_mul (by omega) (by omega)
    omega
  have hdn:∀ i j x,i≤M.length→(Jg (Sk q) s (Be M x i j)).length≤1000:=fun i j x hi=>by
    refine Nat.le_trans (Hu _ _ _) ?_
    unfold Be
    rw [List.length_append,List.length_map,List.length_take,List.length_drop]
    have:=hpk i hi; omega
  have hfin:(Jg (Sk q) s (Qw M)).length≤1000000:=Nat.le_trans (Hu _ _ _) (by have:=hpk M.length (Nat.le_refl _); show (Xp M.length M).length≤_; omega)
  have c9:=Q2m (l:=Jg (Sk q) s (Qw M)) hfin
  refine Z7 Tryz.func259 rfl ?_
  refine go tt [.c [] c0,.f rfl,.c [] c1,.o 8 265 9] rfl trivial ?_
  refine lp (S:=Nat) 4 (fun L1 i=>(24,.v (.one (.int .i64 (i:Int))))::(8,.v (.one (.orow 3 9 none)))::L1) (fun i=>[.blk 102 (aq q cs),.blk 112 (Ff s.1),.blk 112 (Ff s.2),.row false 265 9 (Jm (Jg (Sk q) s (Xp i M)))]) (fun i=>M.length-i) (fun i=>i≤M.length) 0 (Nat.zero_le _) rfl (fun _ _=>rfl) (by rw [Gz]; rfl) fun i hi=>?_
  by_cases hlt:i<M.length
  · obtain ⟨x,hx⟩:∃ x,M[i]? = some x:=⟨_,List.getElem?_eq_getElem hlt⟩
    rw [←Dd M x i]
    refine go tt [.t (decide_eq_true (by omega)),.r 28 (eI (b:=((i+1:Nat):Int)) (by simp))] rfl (by simp [Qa] <;> omega) ?_
    refine lp (S:=Nat) 4 (fun L1 j=>(10,.v (.one (.int .i64 ((i+1+j:Nat):Int))))::(8,.v (.one (.orow 3 9 none)))::L1) (fun j=>[.blk 102 (aq q cs),.blk 112 (Ff s.1),.blk 112 (Ff s.2),.row false 265 9 (Jm (Jg (Sk q) s (Be M x i j)))]) (fun j=>(M.drop (i+1)).length-j) (fun j=>j≤(M.drop (i+1)).length) 0 (Nat.zero_le _) rfl (fun _ _=>rfl) rfl fun j hj=>?_
    have hdl:(M.drop (i+1)).length=M.length-(i+1):=List.length_drop
    by_cases hltj:j<(M.drop (i+1)).length
    · obtain ⟨y,hy⟩:∃ y,(M.drop (i+1))[j]? = some y:=⟨_,List.getElem?_eq_getElem hltj⟩
      have hy':M[i+1+j]? = some y:=by rw [←hy,List.getElem?_drop]
      have hxs:=hMl x (List.mem_of_getElem? hx)
      have hys:=hMl y (List.mem_of_getElem? hy')
      have hll:=hdn i j x hi
      have hrl:=Ts (Jg (Sk q) s (Be M x i j))
      have ef:=Dc (x:=x) hy
      have co:=Q2n (c:=cs) (hMl _ s1) (hMl _ s2) hxs hys hq
      by_cases e1:x.id≠s.1.id
      · have en1:=Qe9 (sg:=Sk q) (s:=s) (m:=(x,y)) (ps:=Be M x i j) (by simp [Uh,e1])
        rw [←ef] at en1
        have hm9:∀ z∈[rct (Jy (Sk q) s.1 s.2 x y)],z.length=9:=fun z hz=>by rw [List.mem_singleton.1 hz]; rfl
        refine go tt [.t (decide_eq_true (by omega)),.x (Xe hx),.g 43 true (decide_eq_true e1),.t rfl,.x (Xe hx),.x (Xe hy'),.c [] co,.s (sz:=9) hm9] rfl (by simp [Qa,hrl] <;> omega) ?_
        exact rd (j+1) (by omega) hltj (by rw [en1]; simp [Jm]; rfl)
      by_cases e2:y.id≠s.2.id
      · have en1:=Qe9 (sg:=Sk q) (s:=s) (m:=(x,y)) (ps:=Be M x i j) (by simp [Uh,e2])
        rw [←ef] at en1
        have hm9:∀ z∈[rct (Jy (Sk q) s.1 s.2 x y)],z.length=9:=fun z hz=>by rw [List.mem_singleton.1 hz]; rfl
        refine go tt [.t (decide_eq_true (by omega)),.x (Xe hx),.g 43 false (decide_eq_false e1),.x (Xe hy'),.t (decide_eq_true e2),.x (Xe hx),.x (Xe hy'),.c [] co,.s (sz:=9) hm9] rfl (by simp [Qa,hrl] <;> omega) ?_
        exact rd (j+1) (by omega) hltj (by rw [en1]; simp [Jm]; rfl)
      · have en1:=Qe8 (sg:=Sk q) (s:=s) (m:=(x,y)) (ps:=Be M x i j) (by simp [Uh,Decidable.not_not.1 e1,Decidable.not_not.1 e2])
        rw [←ef] at en1
        refine go tt [.t (decide_eq_true (by omega)),.x (Xe hx),.g 43 false (decide_eq_false e1),.x (Xe hy'),.f (decide_eq_false e2)] rfl (by simp [Qa] <;> omega) ?_
        exact rd (j+1) (by omega) hltj (by rw [en1]; rfl)
    · have e:=Iu hx (Nat.le_of_not_lt hltj)
      rw [e]
      refine go tt [.f (decide_eq_false (by omega))] rfl (by simp [Qa] <;> omega) ?_
      exact rd (i+1) (by omega) hlt rfl
  · obtain rfl:i=M.length:=by omega
    exact en tt [.f (decide_eq_false (by omega)),.c [] c9] rfl rfl (by simp [Qa] <;> omega)
theorem Qse {l:List Pt} {q:Rat} {cs:List (List Int)} (hl:∀ p∈l,Rs p.c) (hn:l.length≤10) (hq:Qs 1000000 q):Qd Tryz.prog 209 [.one (.int .i64 3),.one (.row (Zd l)),.agg (aq q cs)] [.one (.row (Jm (Rl q l)))] :=
  w tt Tryz.func209 rfl [.f rfl,.f rfl,.f rfl,.t rfl,.c [] (Qe2 hl hn hq)] rfl rfl trivial
theorem Qk8 {l:List Pt} {q:Rat} {cs:List (List Int)} (hl:∀ p∈l,Rs p.c) (hn:l.length≤10) (hq:Qs 1000000 q):Qd Tryz.prog 149 [.one (.int .i64 3),.one (.row (Zd l)),.agg (aq q cs)] [.one (.row (Jm (Rl q l)))] :=
  w tt Tryz.func149 rfl [.c [] (Qse hl hn hq)] rfl rfl trivial
theorem Qll {M:List Pt} {q:Rat} {c:List (List Int)} (hM:∀ p∈M,Rs p.c) (hl:M.length≤10) (hq:Qs 1000000 q) (hC:Qny q c):Zw Tryz.prog 87 [.one (.ow 0 0)] [.blk 108 (plZ M q)] [] [.blk 108 (plB M q c (Rl q M))]:=by
  refine Z7 Tryz.func87 rfl ?_
  exact ed tt [] [0] [.c [] (Qht hq hC),.c [] (Qk8 (cs:=c) hM hl hq),.c [] (Qvz (Qtk q hl))] rfl trivial
end Orr

namespace Orr
open Go Go.Proofs Orq
theorem Qj9 {x y:Int} (hx:-9223372036854775808≤x∧x≤9223372036854775807) (hy:-9223372036854775808≤y∧y≤9223372036854775807):Sc (Qrf x y):=⟨Crv.nml _,((Qh6 hx hy).norm (by decide)).mono (by decide) (by decide)⟩
theorem Sc.pt {p:Pt} (h:Sc p.c):Qt7 4294967294 1073741824 p:=⟨h.n,h.c.mono (by decide) (by decide)⟩
end Orr

namespace Orr
open Go Go.Proofs Orq
set_option maxRecDepth 10000
def bcP (l:List Pt) (a:Tm):List Ct:=Kd (Jj a) l
abbrev brP (l:List Pt) (a:Tm):List (List LV):=Qn (Tz (Jj a) l)
theorem Qn6 {l:List Pt} {a:Tm}:∀ x∈bcP l a,x.p∈Qb3 l:=fun x hx=>by
  match l,hx with
  |
   u::v::l',hx =>
   unfold bcP at hx
   simp only [Kd] at hx
   obtain ⟨h3,h4⟩:=J7 (Jj a) (l:=u::v::l') (Qw (u::v::l')) (u,v) ⟨by simp,by simp⟩ (Jl _ _)
   obtain ⟨m,hm,rfl⟩:=Qct hx
   obtain ⟨h1,h2⟩:=Jl _ _ m hm
   rw [Qa8]
   exact I9 h3 h4 h1 h2
theorem Qer {l:List Pt} (hl:∀ p∈l,Sc p.c) (hn:l.length≤10):BuildOk (bcP l) :=
  ⟨fun _ _ x hx=>Bv hl _ (Qn6 x hx),fun a _=>by
    have:=Qdx (Jj a) l
    have:l.length*l.length≤10*10:=Nat.mul_le_mul hn hn
    show (Kd (Jj a) l).length≤1000
    omega⟩
def Qui (l:List Pt) (a:Tm):Cr:=⟨a,(Zb (bcP l a)).map fresh,0⟩
theorem Qod {zs:List (List LV)} {qs l:List Pt} {x y x' y':LV} {n d:Int} (hz:IsPts 4294967294 1073741824 zs qs) (hq:qs.length≤6) (hnl:J4 [] qs=(l,0)) (hl:∀ p∈l,Sc p.c) (hn:l.length≤10) (h1:Xn x y n) (h2:Xn x' y' d) (bn:Ql n≤4294967295) (bd:Ql d≤4294967295) (ht:Qs 900 (Z1 n d)) :
    Zw Tryz.prog 19 [.agg [x,y,x',y'],.one (.row zs)] [] [.one (.ow 0 0),.one (.int .i64 0)] [.blk 74 (Y8 (Qui l (tq (Z1 n d))) (Qn l) (brP l (tq (Z1 n d))))]:=by
  have cn:=Q99 hz hq
  rw [hnl] at cn
  have co:=Q5u h1 h2 bn bd (ht.mono (by decide))
  have hv:=Q5a ht
  have hB:=Qer hl hn
  have cb:=Qr3 hl hn hv
  have cg:=Qr1 (T:=74) (r0:=Qn l) (r1:=brP l (tq (Z1 n d))) hv (hB.p _ hv) (hB.n _ hv)
  obtain ⟨b,l1,rfl,rfl,_⟩:=h1
  obtain ⟨b',l2,rfl,rfl,_⟩:=h2
  refine Z7 Tryz.func19 rfl ?_
  exact ed tt [] [2] [.c [] cn,.f rfl,.c [] co,.c [2] cb,.c [2] cg] rfl trivial
theorem Q1z {t:Rat} {l:List Pt} {K:Nat} {c c':Cr} {r1 r1':List (List LV)} {n:Int} (ht:Qs 900 t) (hl:∀ p∈l,Sc p.c) (hn:l.length≤10) (hc:CrOk c) (hev:0≤c.ev∧c.ev+K≤1000000000000000000) (h:Q3 c.now t≤0) (hg:goF (bcP l) (brP l) t K c r1 0=some (c',r1',n)) :
    Zw Tryz.prog 20 [.one (.ow 0 0),.agg (rl t)] [.blk 74 (Y8 c (Qn l) r1)] [.one (.int .i64 n),.one (.int .i64 0)] [.blk 74 (Y8 c' (Qn l) r1')]:=by
  have cg:=Q65 (T:=74) (r0:=Qn l) ht (Qer hl hn) (fun a c r1 ha _=>Qck (c:=c) (r1:=r1) hl hn ha) hc hev h hg
  refine Z7 Tryz.func20 rfl ?_
  exact ed tt [] [0] [.c [] (Gq (ht.mono (by decide))),.c [0] cg] rfl trivial
theorem Qev {c:Cr} {r0:List (List LV)} {a b:Pt}:Zw Tryz.prog 23 [.one (.ow 0 0)] [.blk 74 (Y8 c r0 (Qn [a,b]))] [.one (.int .i64 a.id),.one (.int .i64 b.id),.one (.bool true)] [.blk 74 (Y8 c r0 (Qn [a,b]))]:=by
  refine Z7 Tryz.func23 rfl ?_
  exact ed tt [] [0] [.f rfl,.x (l:=Qn [a,b]) (i:=0) (xs:=Zu a) rfl,.x (l:=Qn [a,b]) (i:=1) (xs:=Zu b) rfl] rfl trivial
theorem Qhp {c:Cr} {r0:List (List LV)}:Zw Tryz.prog 23 [.one (.ow 0 0)] [.blk 74 (Y8 c r0 [])] [.one (.int .i64 0),.one (.int .i64 0),.one (.bool false)] [.blk 74 (Y8 c r0 [])]:=by
  refine Z7 Tryz.func23 rfl ?_
  exact ed tt [] [0] [.t rfl] rfl trivial
theorem Qym (sg:List Int→Int) (p q:Pt):Tz sg [p,q]=[p,q]∧Kd sg [p,q]=[]:=by
  have hp:Qw [p,q]=[(p,q)]:=rfl
  have h:Qy sg (p,q) (Qw [p,q])=(p,q):=by
    rw [hp,U4]
    have e:J0 sg (p,q) (p,q)=(p,q):=by rcases Mn sg (p,q) (p,q) with e | e <;> exact e
    rw [e]; rfl
  constructor
  · show [(Qy sg (p,q) (Qw [p,q])).1,(Qy sg (p,q) (Qw [p,q])).2]=[p,q]
    rw [h]
  · show Jg sg (Qy sg (p,q) (Qw [p,q])) (Qw [p,q])=[]
    rw [h,hp]
    have e:=Qe8 (sg:=sg) (s:=(p,q)) (m:=(p,q)) (ps:=[]) (by simp [Uh])
    rw [List.nil_append] at e
    rw [e]; rfl
theorem Qcs:Qd Tryz.prog 24 [] [.one (.bool true)]:=by
  have hq:Qs 900 (Z1 0 0):=⟨by decide,by decide⟩
  have ez:Z1 0 0=0:=by decide
  obtain ⟨A,hA⟩:∃ A:Pt,A=⟨Qrf 0 0,3⟩:=⟨_,rfl⟩
  obtain ⟨B,hB⟩:∃ B:Pt,B=⟨Qrf 5 1,2⟩:=⟨_,rfl⟩
  have sA:Sc A.c:=by rw [hA]; exact Qj9 (by decide) (by decide)
  have sB:Sc B.c:=by rw [hB]; exact Qj9 (by decide) (by decide)
  have hsc:∀ p∈[B,A],Sc p.c:=fun p hp=>by
    rcases List.mem_cons.1 hp with rfl | hp
    · exact sB
    · rw [List.mem_singleton.1 hp]; exact sA
  have zp:IsPts 4294967294 1073741824 (Qn [A,B]) [A,B]:=Qpq fun p hp=>by
    rcases List.mem_cons.1 hp with rfl | hp
    · exact sA.pt
    · rw [List.mem_singleton.1 hp]; exact sB.pt
  have hnl:J4 [] [A,B]=([B,A],0):=by rw [hA,hB]; rfl
  have cn:=Qod zp (by show 2≤6; decide) hnl hsc (by show 2≤10; decide) Wp Wp (by decide) (by decide) hq
  rw [ez] at cn
  have hv:Va (tq 0):=Q5a (by rw [←ez]; exact hq)
  obtain ⟨e1,e2⟩:=Qym (Jj (tq 0)) B A
  have hbr:brP [B,A] (tq 0)=Qn [B,A]:=by unfold brP; rw [e1]
  have hbc:Qui [B,A] (tq 0)=⟨tq 0,[],0⟩:=by unfold Qui bcP; rw [e2]; rfl
  rw [hbr,hbc] at cn
  have hok:CrOk ⟨tq 0,[],0⟩:=⟨hv,fun w hw=>(by cases hw),by decide⟩
  have cc:=Bz (T:=74) (r0:=Qn [B,A]) (r1:=Qn [B,A]) hok
  have ci:=Qev (c:=⟨tq 0,[],0⟩) (r0:=Qn [B,A]) (a:=B) (b:=A)
  have i1:A.id=3:=by rw [hA]
  have i2:B.id=2:=by rw [hB]
  rw [i1,i2] at ci
  have cs1:=Qog (x:=0) (y:=0) (by decide) (by decide)
  have cs2:=Qog (x:=5) (y:=1) (by decide) (by decide)
  subst hA; subst hB
  refine Z7 Tryz.func24 rfl ?_
  exact en tt [.c [] cs1,.c [] cs2,.c [0] cn,.g 18 false rfl,.f rfl,.c [0] ci,.g 29 true rfl,.g 33 true rfl,.g 37 true rfl,.c [0] cc] rfl rfl trivial
end Orr

namespace Orr
open Go Go.Proofs Orq
set_option maxRecDepth 10000
theorem Qqp {l:List Pt} {id:Int} (h:has l id=true):U6 l id<l.length:=by
  rcases Nat.lt_or_ge (U6 l id) l.length with h1 | h1
  · exact h1
  · simp [has,List.getElem?_eq_none h1] at h
theorem Q19 {lx ly:List (List LV)} {px py:List Int} {x y:LV} {d id:Int} {l:List Pt} (hx:IsInts lx px) (hy:IsInts ly py) (hd:Xn x y d) (hk:Cs 4294967294 1073741824 (Crv.mk px py d)) (hl:l.length≤1000000) (h:has l id=true) :
    Qd Tryz.prog 102 [.agg [pts l],.agg [.row lx,.row ly,x,y,.int .i64 id]] [.agg [pts (l.set (U6 l id) (Pt.mk (Crv.norm (Crv.mk px py d)) id))],.one (.int .i64 0)]:=by
  have ca:=Qoi (l:=l) id (by omega)
  have cf:=Qon hx hy hd hk id
  obtain ⟨b,r,rfl,rfl,_⟩:=hd
  obtain ⟨q,hq⟩:∃ q,q=Pt.mk (Crv.norm (Crv.mk px py d)) id:=⟨_,rfl⟩
  rw [←hq] at cf ⊢
  have hpl:=Qqp h
  rw [h] at ca
  have e:pts (l.set (U6 l id) q)=.row ((l.map Zu).set (U6 l id) (Zu q)):=by unfold pts; rw [List.map_set]
  rw [e]
  exact w tt Tryz.func102 rfl [.c [] ca,.f rfl,.s (Rk l),.c [] cf,.i (U6 l id)] rfl rfl (by simp [Qa]; omega)
theorem Q18 {l:List Pt} {id:Int} (hl:l.length≤1000000) (h:has l id=true) :
    Qd Tryz.prog 103 [.agg [pts l],.one (.int .i64 id)] [.agg [pts (l.take (U6 l id)++l.drop (U6 l id+1))],.one (.int .i64 0)]:=by
  have ca:=Qoi (l:=l) id (by omega)
  have hpl:=Qqp h
  rw [h] at ca
  have s1:∀ c∈(l.map Zu).take (U6 l id),c.length=5:=fun c hc=>Rk l c (List.mem_of_mem_take hc)
  have s3:∀ c∈(l.map Zu).drop (U6 l id+1),c.length=5:=fun c hc=>Rk l c (List.mem_of_mem_drop hc)
  have e:pts (l.take (U6 l id)++l.drop (U6 l id+1))=.row ((l.map Zu).take (U6 l id)++(l.map Zu).drop (U6 l id+1)):=by unfold pts; rw [List.map_append,List.map_take,List.map_drop]
  rw [e]
  refine w tt Tryz.func103 rfl [.c [] ca,.f rfl,.i (U6 l id),.s s1,.i (U6 l id+1),.s s3] rfl ?_ ?_
  · simp
  · have h1:(List.map Zu l).length=l.length:=by simp
    have h2:∀ z∈List.map Zu l,z.length=ti35.sz:=Rk l
    simp only [Qa,List.length_take,List.length_drop,h1]
    and_intros <;> first | exact h2 | omega
theorem Qvg {l:List Pt} {id:Int} (hl:l.length≤1000000) (h:has l id=false) :
    Qd Tryz.prog 103 [.agg [pts l],.one (.int .i64 id)] [.agg [pts l],.one (.int .i64 5)]:=by
  have ca:=Qoi (l:=l) id (by omega)
  rw [h] at ca
  exact w tt Tryz.func103 rfl [.c [] ca,.t rfl] rfl rfl trivial
end Orr

namespace Orr
open Go Go.Proofs Orq
set_option maxRecDepth 10000
theorem Q17 {l:List Nat} (hl:l.length≤1000000000):Qd Tryz.prog 211 [.one (.row (lm l)),.one (.row (lm l))] [.one (.bool true)]:=by
  have hll:(lm l).length=l.length:=by simp [lm]
  refine Z7 Tryz.func211 rfl ?_
  refine go tt [.f (decide_eq_false (fun h=>h rfl))] rfl trivial ?_
  refine lp (S:=Nat) 0 (fun L1 i=>(5,.v (.one (.int .i64 (i:Int))))::L1) (fun _=>[]) (fun i=>l.length-i) (fun i=>i≤l.length) 0 (Nat.zero_le _) rfl (fun _ _=>rfl) rfl fun i hi=>?_
  by_cases h:i<l.length
  · have hx:(lm l)[i]? = some [.int .u32 ((l[i]:Nat):Int)]:=Xd (List.getElem?_eq_getElem h)
    refine go tt [.t (decide_eq_true (by omega)),.x hx,.x hx,.f (decide_eq_false (fun h=>h rfl))] rfl (by simp [Qa]; omega) ?_
    exact rd (i+1) (by omega) h rfl
  · exact en tt [.f (decide_eq_false (by omega))] rfl rfl trivial
theorem Q15 {z:Int} (hz:Ql z≤4294967295):Qd Tryz.prog 152 [.agg (Zt z),.agg (Zt z)] [.one (.bool true)] :=
  w tt Tryz.func152 rfl [.g 10 true (decide_eq_true rfl),.c [] (Q17 (l:=Q4 z.natAbs) (by have:=X4 (x:=z.natAbs) (k:=4294967295) hz; omega))] rfl rfl trivial
theorem Q16 {p:List Int} (hp:Bd 4294967295 p) (hl:p.length≤1000000):Qd Tryz.prog 89 [pr p,pr p] [.one (.bool true)]:=by
  have hpl:(p.map Zt).length=p.length:=by simp
  show Qd Tryz.prog 89 [.one (.row (p.map Zt)),.one (.row (p.map Zt))] _
  refine Z7 Tryz.func89 rfl ?_
  refine go tt [.f (decide_eq_false (fun h=>h rfl))] rfl trivial ?_
  refine lp (S:=Nat) 0 (fun L1 i=>(13,.v (.one (.int .i64 (i:Int))))::L1) (fun _=>[]) (fun i=>p.length-i) (fun i=>i≤p.length) 0 (Nat.zero_le _) rfl (fun _ _=>rfl) rfl fun i hi=>?_
  by_cases h:i<p.length
  · have hx:=Yc (Xt h)
    refine go tt [.t (decide_eq_true (by omega)),.x hx,.x hx,.c [] (Q15 (Qr hp i)),.f rfl] rfl (by simp [Qa]; omega) ?_
    exact rd (i+1) (by omega) h rfl
  · exact en tt [.f (decide_eq_false (by omega))] rfl rfl trivial
theorem Qva {l:List Ct} (hl:∀ c∈l,Cp c.p) (hn:l.length≤1000000):Qd Tryz.prog 36 [.one (.row (Z0 l)),.one (.row (Z0 l))] [.one (.bool true)]:=by
  have hcl:=Fp l
  refine Z7 Tryz.func36 rfl ?_
  refine go tt [.f (decide_eq_false (fun h=>h rfl))] rfl trivial ?_
  refine lp (S:=Nat) 0 (fun L1 i=>(13,.v (.one (.int .i64 (i:Int))))::L1) (fun _=>[]) (fun i=>l.length-i) (fun i=>i≤l.length) 0 (Nat.zero_le _) rfl (fun _ _=>rfl) rfl fun i hi=>?_
  by_cases h:i<l.length
  · obtain ⟨c,hc⟩:∃ c,l[i]? = some c:=⟨_,List.getElem?_eq_getElem h⟩
    have hx:=Lk hc
    have hp:=hl c (List.mem_of_getElem? hc)
    refine go tt [.t (decide_eq_true (by omega)),.x hx,.x hx,.g 27 false (by simp),.x hx,.x hx,.g 40 false (by simp),.x hx,.x hx,.c [] (Q16 (Qc hp.b (by decide)) (by have:=hp.l; omega)),.f rfl] rfl (by simp [Qa]; omega) ?_
    exact rd (i+1) (by omega) h rfl
  · exact en tt [.f (decide_eq_false (by omega))] rfl rfl trivial
end Orr

namespace Orr
open Go Go.Proofs
set_option maxRecDepth 10000
theorem Cs.up {s n s' n':Nat} {k:Crv} (h:Cs s n k) (hs:s≤s') (hn:n≤n'):Cs s' n' k:=⟨Qc h.x hs,Qc h.y hs,Nat.le_trans h.d hs,Nat.le_trans h.lx hn,Nat.le_trans h.ly hn⟩
end Orr

namespace Orr
open Go Go.Proofs Orq
set_option maxRecDepth 10000
end Orr

namespace Orr
open Go Go.Proofs Orq
set_option maxRecDepth 10000
theorem Qsp {l m:List Pt} (h:l.Perm m) (hd:G7 l):G7 m:=(h.pairwise_iff (fun h=>fun e=>h e.symm)).1 hd
end Orr

namespace Orr
open Go Go.Proofs Orq
set_option maxRecDepth 10000
end Orr

namespace Orr
open Go Go.Proofs Orq
set_option maxRecDepth 10000
theorem On {c:Cr} {l l':List Pt} {r1:List (List LV)} {ws:List Wt} (hc:CrOk c) (hl:∀ p∈l',Sc p.c) (hn:l'.length≤10) (h:Gy c.l c.now (Zb (bcP l' c.now))=some ws) :
    Zw Tryz.prog 101 [.one (.ow 0 0),.agg [pts l'],.one (.int .i64 0)] [.blk 74 (Y8 c (Qn l) r1)] [.one (.int .i64 0)] [.blk 74 (Y8 ⟨c.now,ws,c.ev⟩ (Qn l') (brP l' c.now))]:=by
  have hB:=Qer hl hn
  have cn:=Qes (T:=74) (c:=c) (r0:=Qn l') (r1:=r1) hc.n
  have cb:=Qck (c:=c) (r1:=r1) hl hn hc.n
  have cg:=Qr2 (T:=74) (r0:=Qn l') (r1:=brP l' c.now) hc hc.n (Qsi hc.n) (Int.le_refl 0) (hB.p _ hc.n) (hB.n _ hc.n) h
  refine Z7 Tryz.func101 rfl ?_
  exact ed tt [] [0] [.f rfl,.c [0] cn,.c [0] cb,.c [0] cg] rfl trivial
theorem Qcl {c:Cr} {l l':List Pt} {r1:List (List LV)} {e:Int} (he:e≠0) :
    Zw Tryz.prog 101 [.one (.ow 0 0),.agg [pts l'],.one (.int .i64 e)] [.blk 74 (Y8 c (Qn l) r1)] [.one (.int .i64 e)] [.blk 74 (Y8 c (Qn l) r1)]:=by
  refine Z7 Tryz.func101 rfl ?_
  exact ed tt [] [0] [.t (by simpa using he)] rfl trivial
theorem Q10 {lx ly:List (List LV)} {px py:List Int} {x y:LV} {d id:Int} {c:Cr} {l:List Pt} {r1:List (List LV)} {ws:List Wt} (hx:IsInts lx px) (hy:IsInts ly py) (hd:Xn x y d) (hk:Cs 4294967294 1073741824 (Crv.mk px py d)) (hll:l.length≤900)
    (he:Gd l ⟨Crv.norm (Crv.mk px py d),id⟩=0) (hc:CrOk c) (hl:∀ p∈put l ⟨Crv.norm (Crv.mk px py d),id⟩,Sc p.c) (hn:(put l ⟨Crv.norm (Crv.mk px py d),id⟩).length≤10) (h:Gy c.l c.now (Zb (bcP (put l ⟨Crv.norm (Crv.mk px py d),id⟩) c.now))=some ws) :
    Zw Tryz.prog 52 [.one (.ow 0 0),.agg [.row lx,.row ly,x,y,.int .i64 id]] [.blk 74 (Y8 c (Qn l) r1)] [.one (.int .i64 0)] [.blk 74 (Y8 ⟨c.now,ws,c.ev⟩ (Qn (put l ⟨Crv.norm (Crv.mk px py d),id⟩)) (brP (put l ⟨Crv.norm (Crv.mk px py d),id⟩) c.now))]:=by
  have cp:=Qu5 (l:=l) (id:=id) hx hy hd hk (by omega)
  rw [if_pos he,he] at cp
  have cw:=On (l:=l) (r1:=r1) hc hl hn h
  refine Z7 Tryz.func52 rfl ?_
  obtain ⟨b,l',rfl,rfl,_⟩:=hd
  exact ed tt [] [0] [.c [] cp,.c [0] cw] rfl trivial
theorem Qu2 {lx ly:List (List LV)} {px py:List Int} {x y:LV} {d id e:Int} {c:Cr} {l:List Pt} {r1:List (List LV)} (hx:IsInts lx px) (hy:IsInts ly py) (hd:Xn x y d) (hk:Cs 4294967294 1073741824 (Crv.mk px py d)) (hll:l.length≤900)
    (he:Gd l ⟨Crv.norm (Crv.mk px py d),id⟩=e) (h0:e≠0) :
    Zw Tryz.prog 52 [.one (.ow 0 0),.agg [.row lx,.row ly,x,y,.int .i64 id]] [.blk 74 (Y8 c (Qn l) r1)] [.one (.int .i64 e)] [.blk 74 (Y8 c (Qn l) r1)]:=by
  have cp:=Qu5 (l:=l) (id:=id) hx hy hd hk (by omega)
  rw [he,if_neg h0] at cp
  have cw:=Qcl (c:=c) (l:=l) (l':=l) (r1:=r1) h0
  refine Z7 Tryz.func52 rfl ?_
  obtain ⟨b,l',rfl,rfl,_⟩:=hd
  exact ed tt [] [0] [.c [] cp,.c [0] cw] rfl trivial
theorem Qu3 {lx ly:List (List LV)} {px py:List Int} {x y:LV} {d id:Int} {c:Cr} {l l':List Pt} {r1:List (List LV)} {ws:List Wt} (hx:IsInts lx px) (hy:IsInts ly py) (hd:Xn x y d) (hk:Cs 4294967294 1073741824 (Crv.mk px py d)) (hll:l.length≤10) (h:has l id=true) (hc:CrOk c)
    (hl':l'=l.set (U6 l id) (Pt.mk (Crv.norm (Crv.mk px py d)) id)) (hs:∀ p∈l',Sc p.c) (hw:Gy c.l c.now (Zb (bcP l' c.now))=some ws) :
    Zw Tryz.prog 50 [.one (.ow 0 0),.agg [.row lx,.row ly,x,y,.int .i64 id]] [.blk 74 (Y8 c (Qn l) r1)] [.one (.int .i64 0)] [.blk 74 (Y8 ⟨c.now,ws,c.ev⟩ (Qn l') (brP l' c.now))]:=by
  have ct1:=Q19 (l:=l) hx hy hd hk (by omega) h
  rw [←hl'] at ct1
  have cw:=On (c:=c) (l:=l) (l':=l') (r1:=r1) hc hs (by rw [hl',List.length_set]; omega) hw
  obtain ⟨b,r,rfl,rfl,_⟩:=hd
  refine Z7 Tryz.func50 rfl ?_
  exact ed tt [] [0] [.c [] ct1,.c [0] cw] rfl trivial
theorem Qu1 {id:Int} {c:Cr} {l l':List Pt} {r1:List (List LV)} {ws:List Wt} (hll:l.length≤10) (h:has l id=true) (hc:CrOk c)
    (hl':l'=l.take (U6 l id)++l.drop (U6 l id+1)) (hs:∀ p∈l',Sc p.c) (hw:Gy c.l c.now (Zb (bcP l' c.now))=some ws) :
    Zw Tryz.prog 51 [.one (.ow 0 0),.one (.int .i64 id)] [.blk 74 (Y8 c (Qn l) r1)] [.one (.int .i64 0)] [.blk 74 (Y8 ⟨c.now,ws,c.ev⟩ (Qn l') (brP l' c.now))]:=by
  have ct1:=Q18 (l:=l) (id:=id) (by omega) h
  rw [←hl'] at ct1
  have cw:=On (c:=c) (l:=l) (l':=l') (r1:=r1) hc hs (by rw [hl',List.length_append,List.length_take,List.length_drop]; omega) hw
  refine Z7 Tryz.func51 rfl ?_
  exact ed tt [] [0] [.c [] ct1,.c [0] cw] rfl trivial
theorem Qr5 {id:Int} {c:Cr} {l:List Pt} {r1:List (List LV)} (hll:l.length≤10) (h:has l id=false) :
    Zw Tryz.prog 51 [.one (.ow 0 0),.one (.int .i64 id)] [.blk 74 (Y8 c (Qn l) r1)] [.one (.int .i64 5)] [.blk 74 (Y8 c (Qn l) r1)]:=by
  refine Z7 Tryz.func51 rfl ?_
  exact ed tt [] [0] [.c [] (Qvg (l:=l) (id:=id) (by omega) h),.c [0] (Qcl (c:=c) (l:=l) (l':=l) (r1:=r1) (e:=5) (by decide))] rfl trivial
theorem Qho {t:Rat} {l:List Pt} {c:Cr} {r1:List (List LV)} (ht:Qs 900 t) (hc:Va c.now) (h:0<Q3 c.now t) :
    Zw Tryz.prog 20 [.one (.ow 0 0),.agg (rl t)] [.blk 74 (Y8 c (Qn l) r1)] [.one (.int .i64 0),.one (.int .i64 8)] [.blk 74 (Y8 c (Qn l) r1)]:=by
  have cg:=Qlc (T:=74) (r0:=Qn l) (r1:=r1) (ht.mono (by decide)) hc h
  refine Z7 Tryz.func20 rfl ?_
  exact ed tt [] [0] [.c [] (Gq (ht.mono (by decide))),.c [0] cg] rfl trivial
theorem Qr4 {c:Cr} {r0:List (List LV)} {r1:List (List LV)}:Zw Tryz.prog 31 [.one (.ow 0 0)] [.blk 74 (Y8 c r0 r1)] [.one (.ow 1 0)] [.blk 74 (Y8 c r0 r1),.blk 74 (Y8 c r0 r1)]:=by
  refine Z7 Tryz.func31 rfl ?_
  exact ed tt [] [0,1] [] rfl trivial
end Orr

namespace Orr
open Go Go.Proofs Orq
set_option maxRecDepth 10000
theorem Qr9 {zs:List RawPt} {n d:Int} {O M:List Pt} {e:Nat} {c:List (List Int)} (hz:∀ z∈zs,z.Ok) (hO:Em 4 20 zs=O) (he:e≤O.length) (hd:G7 (Ye O e)) (hm:e<O.length→¬G7 (Ye O (e+1))) (hn:-9223372036854775808≤n∧n≤9223372036854775807) (hdd:-9223372036854775808≤d∧d≤9223372036854775807) (hC:Qny (Hk n d) c) (hM:M=Z5 Yu (M8 O e)) :
    Zw Tryz.prog 30 [.one (.row (Dk zs)),.one (.int .i64 n),.one (.int .i64 d)] [] [.one (.ow 0 0),.one (.ow 1 0),.one (.bool true)] [.blk 74 (Y8 (Qui M (tq (Hk n d))) (Qn M) (brP M (tq (Hk n d)))),.blk 108 (plB M (Hk n d) c (Rl (Hk n d) M))]:=by
  have hO4:O.length≤4:=by rw [←hO]; exact S7 _ _ (Nat.zero_le _)
  have hid:∀ p∈O,-9223372036854775808≤p.id∧p.id≤9223372036854775807:=fun p hp=>by
    rw [←hO] at hp; have:=Q4a p hp; omega
  have hlit:∀ p∈O,Qrq p:=fun p hp=>by rw [←hO] at hp; exact Qdn (by decide) p hp
  have hcl:(Ye O e).length=e:=Cc he
  have hcn:(M8 O e).length=e:=by rw [Af,hcl]
  have hMl:M.length=e:=by rw [hM,Vh,hcn]
  have hok:∀ p∈M,Nml p.c∧Cs 10 3 p.c:=fun p hp=>by rw [hM,Ro] at hp; exact Qo5 hlit e p hp
  have hq:=Es n d
  obtain ⟨q,hqq⟩:∃ q,q=Hk n d:=⟨_,rfl⟩
  have cb:=A8 (l:=M8 O e) (by omega)
  rw [←hM] at cb
  rw [←hqq] at hq hC ⊢
  have csm:=Qof hn hdd
  have c2:=Qll (M:=M) (q:=q) (c:=c) (fun p hp=>⟨(hok p hp).1,(hok p hp).2.mono (by decide) (by decide)⟩) (by omega) (hq.mono (by decide)) hC
  have ctr:=Q5t (q:=q) (hq.mono (by decide))
  have hnl:=Qs9 (qs:=M8 O e) (by omega) (Ln hd)
  have hnl2:J4 [] (M8 O e)=(M,0):=by rw [hM,←hnl.2,←hnl.1]
  have cs:=Qod (zs:=Qn (Ye O e)) (qs:=M8 O e) (l:=M) (n:=q.num) (d:=(q.den:Int)) (Qdk fun p hp=>(Qh7 hlit e p hp).mono (by decide) (by decide)) (by omega) hnl2 (fun p hp=>⟨(hok p hp).1,(hok p hp).2.mono (by decide) (by decide)⟩) (by omega) (Qe q.num) (Qe (q.den:Int)) (Nat.le_trans hq.1 (by decide)) (Nat.le_trans hq.2 (by decide)) (by rw [Tr]; exact hq.mono (by decide))
  rw [Tr] at cs
  rw [show Z1 (Hl n 61-30) (1+Hl d 6)=q from hqq.symm] at csm
  have cp:=Qr6 hz
  rw [hO] at cp
  refine Z7 Tryz.func30 rfl ?_
  refine go tt [.c [0,1] cp] rfl trivial ?_
  have h0l:=Wu O
  refine ct 2 (S:=Unit) (fun _=>[(1,.v (.one (.int .i64 n))),(2,.v (.one (.int .i64 d))),(9,.v (.one (.row (Qn (Ye O e))))),(10,.v (.one (.row (Zd (M8 O e)))))]) (fun _=>[.gone,.gone]) (fun _=>True) rfl ?_ (fun _ _=>?_)
  · refine lp (S:=Nat) 2 (fun L1 i=>(23,.v (.one (.int .i64 (i:Int))))::(9,.v (.one (.orow 0 5 none)))::(10,.v (.one (.orow 1 7 none)))::L1) (fun i=>[.row false 35 5 (Qn (Mm O i)),.row false 112 7 (Zd ((Mm O i).map Pt.nrm))]) (fun i=>O.length-i) (fun i=>i≤O.length∧i≤e∧G7 (Ye O i)) 0 ⟨Nat.zero_le _,Nat.zero_le _,List.Pairwise.nil⟩ rfl (fun _ _=>rfl) (by rw [Qx7]; rfl) fun i ⟨hi,hie,hdi⟩=>?_
    have hl1:(Qn (Mm O (i+1))).length=O.length:=by rw [Wu,Ip]
    have hl0:(Qn (Mm O i)).length=O.length:=by rw [Wu,Ip]
    have hr0:(Zd ((Mm O i).map Pt.nrm)).length=O.length:=by rw [Yd,List.length_map,Ip]
    have hr1:(Zd ((Mm O (i+1)).map Pt.nrm)).length=O.length:=by rw [Yd,List.length_map,Ip]
    by_cases h:i<O.length
    · obtain ⟨p,hp⟩:∃ p,O[i]? = some p:=⟨_,List.getElem?_eq_getElem h⟩
      have hx:=Q3q hp
      have hxn:((Mm O i).map Pt.nrm)[i]? = some p.nrm:=by rw [List.getElem?_map,hx]; rfl
      have cw:=Sr (v:=p.id) (n:=5) (hid p (List.mem_of_getElem? hp)) (by decide)
      rw [show Hl p.id 5=p.m5.id from rfl] at cw
      refine go tt [.t (decide_eq_true (by omega)),.i i,.x (Ur hx),.c [] cw,.i i,.x (Ur hx),.c [] cw,.i i,.x (Ur hx),.i i,.x (Xe hxn)] rfl (by simp [Qa,hl0,hr0]; omega) ?_
      rw [Qgc hp,Qce hp]
      refine lp (S:=Nat) 2 (fun L1 j=>(12,.v (.one (.int .i64 (j:Int))))::(9,.v (.one (.orow 0 5 none)))::(10,.v (.one (.orow 1 7 none)))::L1) (fun _=>[.row false 35 5 (Qn (Mm O (i+1))),.row false 112 7 (Zd ((Mm O (i+1)).map Pt.nrm))]) (fun j=>i-j) (fun j=>j≤i∧∀ k x,k<j→O[k]? = some x→x.m5.id≠p.m5.id) 0 ⟨Nat.zero_le _,fun k x h=>absurd h (Nat.not_lt_zero _)⟩ rfl (fun _ _=>rfl) rfl fun j ⟨hj,hjn⟩=>?_
      by_cases hji:j<i
      · obtain ⟨x,hxj⟩:∃ x,O[j]? = some x:=⟨_,List.getElem?_eq_getElem (by omega)⟩
        have g1:=Qp7 (i:=i+1) (show j<i+1 by omega) hxj
        have g2:=Qp7 (i:=i+1) (show i<i+1 by omega) hp
        by_cases hq:x.m5.id=p.m5.id
        · have hnd:¬G7 (Ye O (i+1)):=fun hD=>by
            have:=List.pairwise_iff_getElem.1 hD j i (by rw [Cc (by omega)]; omega) (by rw [Cc (by omega)]; omega) hji
            refine this ?_
            have e1:(Ye O (i+1))[j]? = some x.m5:=by unfold Ye; rw [List.getElem?_map,List.getElem?_take,if_pos (by omega),hxj]; rfl
            have e2:(Ye O (i+1))[i]? = some p.m5:=by unfold Ye; rw [List.getElem?_map,List.getElem?_take,if_pos (by omega),hp]; rfl
            rw [(List.getElem?_eq_some_iff.1 e1).2,(List.getElem?_eq_some_iff.1 e2).2]; exact hq
          have hie2:i=e:=by
            rcases Nat.lt_or_ge i e with h3 | h3
            · exact absurd (Q20 hd h3) hnd
            · omega
          have c1:(Qn (Mm O (i+1))).take i=Qn (Ye O e):=by rw [Qti (by omega) (by omega),hie2]
          have c2:(Zd ((Mm O (i+1)).map Pt.nrm)).take i=Zd (M8 O e):=by rw [Qnc (by omega) (by omega),hie2]
          refine go tt [.t (decide_eq_true (by omega)),.i j,.x (Ur g1),.i i,.x (Ur g2),.t (decide_eq_true hq),.i i,.i i] rfl (by simp [Qa,hl1,hr1]; omega) ?_
          refine pz 0 rfl rfl ?_
          refine pz 1 rfl rfl ?_
          exact go tt [.t (decide_eq_true (by omega))] rfl trivial (rc () trivial (by rw [c1,c2]; rfl))
        · refine go tt [.t (decide_eq_true (by omega)),.i j,.x (Ur g1),.i i,.x (Ur g2),.f (decide_eq_false hq)] rfl (by simp [Qa,hl1]; omega) ?_
          exact rd (j+1) (by omega) ⟨hji,fun k y hk hy=>by
            rcases Nat.lt_or_ge k j with h3 | h3
            · exact hjn k y h3 hy
            · have:k=j:=by omega
              subst this; rw [hxj] at hy; injection hy with hy; rw [←hy]; exact hq⟩ rfl
      · have hji2:j=i:=by omega
        rw [hji2] at hjn
        have hD:=Qsq hp hdi hjn
        have hle:i+1≤e:=by
          rcases Nat.lt_or_ge i e with h3 | h3
          · exact h3
          · have:i=e:=by omega
            rw [this] at hD h
            exact absurd hD (hm h)
        refine go tt [.f (decide_eq_false (by omega)),.f (decide_eq_false (by omega))] rfl (by simp [Qa]; omega) ?_
        exact rd (i+1) (by omega) ⟨h,hle,hD⟩ rfl
    · have hiO:i=O.length:=by omega
      have hie2:i=e:=by omega
      have c1:Qn (Mm O i)=Qn (Ye O e):=by rw [←hie2,hiO,Qi6]
      have c2:Zd ((Mm O i).map Pt.nrm)=Zd (M8 O e):=by rw [←hie2,hiO,Qi6]; rfl
      refine go tt [] rfl trivial ?_
      rw [c1,c2]
      refine pz 0 rfl rfl ?_
      refine pz 1 rfl rfl ?_
      exact go tt [.f (decide_eq_false (by omega))] rfl trivial (rc () trivial rfl)
  · exact ed tt [] [3,2] [.c [] cb,.c [] csm,.c [2] c2,.c [] ctr,.c [3] cs,.g 96 true rfl] rfl trivial
end Orr

namespace Orr
open Go Go.Proofs Orq
set_option maxRecDepth 10000
theorem Qhm {c c':Cr} {l l' m:List Pt} {a:Tm} {r:List (List LV)} (_hm:m.length≤1000000) (hr:r=brP m a):Zw Tryz.prog 35 [.one (.ow 0 0),.one (.ow 1 0)] [.blk 74 (Y8 c (Qn l) r),.blk 74 (Y8 c' (Qn l') r)] [.one (.bool true)] [.blk 74 (Y8 c (Qn l) r),.blk 74 (Y8 c' (Qn l') r)]:=by
  by_cases h2:m.length<2
  · have e:r=[]:=by rw [hr]; show Qn (Tz (Jj a) m)=[]; rw [(Ei _ h2).1]; rfl
    rw [e]
    refine Z7 Tryz.func35 rfl ?_
    exact ed tt [] [0,1] [.c [0] Qhp,.c [1] Qhp,.g 26 true rfl,.g 31 true rfl] rfl trivial
  · obtain ⟨u,v,e⟩:∃ u v,r=Qn [u,v]:=by
      obtain ⟨x,y,n,hm⟩:=Qg3 h2
      rw [hr,hm]; exact ⟨_,_,rfl⟩
    rw [e]
    refine Z7 Tryz.func35 rfl ?_
    exact ed tt [] [0,1] [.c [0] Qev,.c [1] Qev,.g 26 true (decide_eq_true rfl),.g 31 true (decide_eq_true rfl)] rfl trivial
theorem Qua (l:List Pt):(Qb3 l).length=l.length*(l.length*(l.length*l.length)):=by
  have key:∀ (α:Type) (f:Pt→List α) (n:Nat) (m:List Pt),(∀ x,(f x).length=n)→(m.flatMap f).length=m.length*n:=by
    intro α f n m h
    induction m with
    | nil=>simp
    | cons x m ih=>rw [List.flatMap_cons,List.length_append,ih,h,List.length_cons,Nat.succ_mul]; omega
  unfold Qb3
  exact key _ _ _ _ fun a=>key _ _ _ _ fun b=>key _ _ _ _ fun c=>List.length_map ..
theorem Q1i {l:List Pt} (h:l.length≤10):(Qb3 l).length≤1000000:=by
  rw [Qua]
  have:l.length*(l.length*(l.length*l.length))≤10*(10*(10*10)):=Nat.mul_le_mul h (Nat.mul_le_mul h (Nat.mul_le_mul h h))
  omega
end Orr

namespace Orr
open Go Go.Proofs Orq
set_option maxRecDepth 10000
end Orr

namespace Orr
open Go Go.Proofs Orq
set_option maxRecDepth 10000
theorem Qv3 {p:Pt}:Qd Tryz.prog 53 [.agg (Ff p)] [.agg (Zu p)]:=w tt Tryz.func53 rfl [] rfl rfl trivial
end Orr

namespace Orr
open Go
theorem Qxd (c:Int) (l:List Int):Xb (l.map (· * c))=Xb l*c.natAbs:=by
  have key:∀ (l:List Int) (g:Nat),(l.map (· * c)).foldl (fun g z=>Nat.gcd g z.natAbs) (g*c.natAbs)=l.foldl (fun g z=>Nat.gcd g z.natAbs) g*c.natAbs:=by
    intro l
    induction l with
    | nil=>intro g; rfl
    |
     cons z l ih =>
     intro g
     simp only [List.map_cons,List.foldl_cons,Int.natAbs_mul,Nat.gcd_mul_right]
     exact ih _
  have:=key l 0
  rwa [Nat.zero_mul] at this
theorem Qki {l:List Int} {c:Int} (hc:c≠0) (ht:Qi l):Qi (l.map (· * c)):=by
  have h:=Qbx (l:=l.map (· * c)) (m:=l.length) (by simp) (fun j y hj hy=>by rw [List.getElem?_eq_none (by simpa using hj)] at hy; cases hy) (fun h0=>⟨l.getD (l.length-1) 0*c,by rw [List.getElem?_map,getD_some (by omega)]; rfl,Int.mul_ne_zero (Xj ht h0) hc⟩)
  unfold Qi
  rw [h,List.take_of_length_le (by simp)]
theorem Qye {k:Crv} (h:Nml k) {c:Int} (hc:c<0):Crv.norm ⟨k.x.map (· * c),k.y.map (· * c),k.d*c⟩=k:=by
  obtain ⟨hx,hy,hd,hg⟩:=h
  obtain ⟨K,hK⟩:∃ K:Crv,K=⟨k.x.map (· * c),k.y.map (· * c),k.d*c⟩:=⟨_,rfl⟩
  have hdc:k.d*c<0:=Int.mul_neg_of_pos_of_neg hd hc
  have hd':K.d'=k.d*c:=by rw [hK]; exact if_neg (by show ¬k.d*c=0; omega)
  have tx:trim K.x=k.x.map (· * c):=by rw [hK]; exact Qki (by omega) hx
  have ty:trim K.y=k.y.map (· * c):=by rw [hK]; exact Qki (by omega) hy
  have e:k.d*c::(k.x.map (· * c)++k.y.map (· * c))=(k.d::(k.x++k.y)).map (· * c):=by simp
  have hG:K.g=c:=by
    unfold Crv.g
    rw [hd',tx,ty,if_pos hdc,e,Qxd,hg]; omega
  have back:∀ l:List Int,(l.map (· * c)).map (· / c)=l:=fun l=>by
    rw [List.map_map]
    conv=>rhs; rw [←List.map_id l]
    exact List.map_congr_left fun z _=>Int.mul_ediv_cancel z (by omega)
  rw [←hK]
  unfold Crv.norm
  rw [hG,tx,ty,hd',back,back,Int.mul_ediv_cancel _ (by omega),show trim k.x=k.x from hx,show trim k.y=k.y from hy]
theorem Qrc {M:List Pt} (hs:Jo M) {i j:Nat} {p r:Pt} (hij:i<j) (hi:M[i]? = some p) (hj:M[j]? = some r):p.id<r.id:=by
  obtain ⟨h1,e1⟩:=List.getElem?_eq_some_iff.1 hi
  obtain ⟨h2,e2⟩:=List.getElem?_eq_some_iff.1 hj
  rw [←e1,←e2]
  exact List.pairwise_iff_getElem.1 hs i j h1 h2 hij
theorem Qmv {M:List Pt} (hs:Jo M) {i:Nat} {p:Pt} (h:M[i]? = some p):U6 M p.id=i :=
  Qbh (fun j r hj hr=>Qrc hs hj hr h) (.inr ⟨p,h,Int.lt_irrefl _⟩)
theorem Q79 {M:List Pt} (hs:Jo M) {i:Nat} {p:Pt} (h:M[i]? = some p):has M p.id=true:=by
  unfold has; rw [Qmv hs h,h]; exact decide_eq_true rfl
theorem Qar {M:List Pt} {i:Nat} (hi:i<M.length) (j:Nat):(M.take i++M.drop (i+1))[j]? = if j<i then M[j]? else M[j+1]? := by
  by_cases h:j<i
  · rw [if_pos h,List.getElem?_append_left (by rw [List.length_take]; omega),List.getElem?_take,if_pos h]
  · rw [if_neg h,List.getElem?_append_right (by rw [List.length_take]; omega),List.length_take,List.getElem?_drop]
    congr 1; omega
theorem Qip {M:List Pt} {i:Nat} (hi:i<M.length):(M.take i++M.drop (i+1)).length+1=M.length:=by
  rw [List.length_append,List.length_take,List.length_drop]; omega
theorem Qjv {M:List Pt} (hs:Jo M) {i:Nat} {p:Pt} (h:M[i]? = some p):U6 (M.take i++M.drop (i+1)) p.id=i:=by
  have hi:=(List.getElem?_eq_some_iff.1 h).1
  refine Qbh (fun j r hj hr=>?_) ?_
  · rw [Qar hi,if_pos hj] at hr; exact Qrc hs hj hr h
  · by_cases hl:i+1<M.length
    · refine .inr ⟨M[i+1],?_,?_⟩
      · rw [Qar hi,if_neg (Nat.lt_irrefl _)]; exact List.getElem?_eq_getElem hl
      · have:=Qrc hs (Nat.lt_succ_self i) h (List.getElem?_eq_getElem hl); omega
    · left; have:=Qip hi; omega
theorem Qxp {M:List Pt} (hs:Jo M) {i:Nat} {p:Pt} (h:M[i]? = some p):has (M.take i++M.drop (i+1)) p.id=false:=by
  have hi:=(List.getElem?_eq_some_iff.1 h).1
  unfold has
  rw [Qjv hs h,Qar hi,if_neg (Nat.lt_irrefl _)]
  cases hn:M[i+1]? with
  | none=>rfl
  |
   some r =>
   have:=Qrc hs (Nat.lt_succ_self i) h hn
   exact decide_eq_false (by omega)
theorem Qy8 {M:List Pt} (hs:Jo M) {i:Nat} {p:Pt} (h:M[i]? = some p):put (M.take i++M.drop (i+1)) p=M:=by
  have hi:=(List.getElem?_eq_some_iff.1 h).1
  have hl:(M.take i).length=i:=by rw [List.length_take]; omega
  unfold put
  rw [Qjv hs h,List.take_append_of_le_length (by omega),List.take_of_length_le (by omega),List.drop_append_of_le_length (by omega),List.drop_of_length_le (by omega),List.nil_append]
  have e:M=M.take i++M.drop i:=(List.take_append_drop i M).symm
  conv=>rhs; rw [e,List.drop_eq_getElem_cons hi,(List.getElem?_eq_some_iff.1 h).2]
theorem Qz0 {M:List Pt} (hs:Jo M) {i:Nat} {p:Pt} (h:M[i]? = some p):M.set (U6 M p.id) p=M:=by
  rw [Qmv hs h]
  apply List.ext_getElem?
  intro j
  rw [List.getElem?_set]
  split
  · rename_i e
    subst e
    rw [if_pos (List.getElem?_eq_some_iff.1 h).1,h]
  · rfl
end Orr

namespace Orr
open Go Go.Proofs Orq
set_option maxRecDepth 10000
theorem Qa6 {x:List Int} {i:Nat} {z:Int} (h:x[i]? = some z):Vu ((x.map (· * -5)).take i)++[Zt (z*-5)]=Vu ((x.map (· * -5)).take (i+1)):=by
  rw [List.take_succ,List.getElem?_map,h]; simp [Vu]
theorem Qfp {z:Int} {s:Nat} (h:Ql z≤s):Ql (z*-5)≤s+3:=Nat.le_trans (Q0 _ _) (Nat.add_le_add h (by decide))
theorem Zam {k:Crv} {s n:Nat} (h:Cs s n k):Cs (s+3) n ⟨k.x.map (· * -5),k.y.map (· * -5),k.d*-5⟩ :=
  ⟨fun z hz=>by obtain ⟨w,hw,rfl⟩:=List.mem_map.1 hz; exact Qfp (h.x w hw),fun z hz=>by obtain ⟨w,hw,rfl⟩:=List.mem_map.1 hz; exact Qfp (h.y w hw),Qfp h.d,by simpa using h.lx,by simpa using h.ly⟩
theorem Q3g {ws:List Wt} {l:List Ct} (h:ws.map (·.c)=Zb l) (ho:∀ c∈l,Cp c.p):∀ x∈Zb (ws.map (·.c)),Cp x.p:=fun x hx=>by
  have:=Rm hx
  rw [h] at this
  exact ho x (Rm this)
end Orr

namespace Orr
open Go Go.Proofs Orq
set_option maxRecDepth 10000
set_option maxHeartbeats 8000000 in
theorem Qb6 {zs:List RawPt} {n d k:Int} (hz:∀ z∈zs,z.Ok) (hn:-9223372036854775808≤n∧n≤9223372036854775807) (hdd:-9223372036854775808≤d∧d≤9223372036854775807) (hk:-9223372036854775808≤k∧k≤9223372036854775807):Qd Tryz.prog 8 [.one (.row (Dk zs)),.one (.int .i64 n),.one (.int .i64 d),.one (.int .i64 k)] [.one (.bool true)]:=by
  obtain ⟨e,he,hd,hm⟩:=Q7q (Em 4 20 zs)
  have hq0:=Es 30 0
  have cb:=Qr9 (n:=30) (d:=0) hz rfl he hd hm (by decide) (by decide) (Za9 (hq0.mono (by decide))) rfl
  obtain ⟨O,hO⟩:∃ O,O=Em 4 20 zs:=⟨_,rfl⟩
  have hO4:O.length≤4:=by rw [hO]; exact S7 _ _ (Nat.zero_le _)
  have hlit:∀ p∈O,Qrq p:=fun p hp=>by rw [hO] at hp; exact Qdn (by decide) p hp
  rw [←hO] at cb he hd
  obtain ⟨M,hM⟩:∃ M,M=Z5 Yu (M8 O e):=⟨_,rfl⟩
  rw [←hM] at cb
  obtain ⟨q,hq⟩:∃ q,q=Hk 30 0:=⟨_,rfl⟩
  rw [←hq] at cb hq0
  have hcn:(M8 O e).length=e:=by rw [Af,Cc he]
  have hMl:M.length=e:=by rw [hM,Vh,hcn]
  have hMs:Jo M:=by rw [hM]; exact Dn (Ln hd)
  have hMd:G7 M:=by rw [hM]; exact Qsp (Qnl _).symm (Ln hd)
  have hok:∀ p∈M,Nml p.c∧Cs 10 3 p.c:=fun p hp=>by
    rw [hM,Ro] at hp
    exact Qo5 hlit e p hp
  have hsc:∀ p∈M,Sc p.c:=fun p hp=>⟨(hok p hp).1,(hok p hp).2.mono (by decide) (by decide)⟩
  have hln:M.length≤10:=by omega
  have hv:Va (tq q):=Q5a (hq0.mono (by decide))
  have S:Stab (bcP M) (brP M):=Zbi hsc hln hMd
  obtain ⟨c0,hc0⟩:∃ c0,c0=Qui M (tq q):=⟨_,rfl⟩
  have hst:KSt (bcP M) (brP M) c0 (brP M (tq q)):=by rw [hc0]; exact Q60 S hv
  have hn0:c0.now=tq q:=by rw [hc0]; rfl
  have hev0:c0.ev=0:=by rw [hc0]; rfl
  rw [←hc0] at cb
  have hal:(Qb3 M).length≤1000000:=by
    exact Q1i (by omega)
  have csm:=Qof hn hdd
  obtain ⟨t,ht⟩:∃ t,t=Hk n d:=⟨_,rfl⟩
  have htq:Qs 900 t:=by rw [ht]; exact (Es n d).mono (by decide)
  rw [show Z1 (Hl n 61-30) (1+Hl d 6)=t from ht.symm] at csm
  have ctt:=Q5t (q:=t) (htq.mono (by decide))
  obtain ⟨c1,r1,a1,a2,hS,hadv⟩:∃ (c1:Cr) (r1:List (List LV)) (a1 a2:Int),KSt (bcP M) (brP M) c1 r1∧Zw Tryz.prog 20 [.one (.ow 0 0),.agg (rl t)] [.blk 74 (Y8 c0 (Qn M) (brP M (tq q)))] [.one (.int .i64 a1),.one (.int .i64 a2)] [.blk 74 (Y8 c1 (Qn M) r1)]:=by
    by_cases hp:q≤t
    · obtain ⟨K,c',E,h1,h2,h3,h4,h5,h6,h7⟩:=Q6t S (Bv hsc) (fun a _=>Qn6) hal htq hst (by rw [hn0,Qkh]; exact B9.2 hp)
      exact ⟨c',_,_,_,h4,Q1z (l:=M) (K:=K) htq hsc hln hst.inv.ok (by rw [hev0]; omega) (by rw [hn0,Qkh]; exact B9.2 hp) h2⟩
    · exact ⟨c0,_,_,_,hst,Qho (l:=M) (r1:=brP M (tq q)) htq hst.inv.ok.n (by rw [hn0,Qkh]; exact Wz.2 (Rat.not_le.1 hp))⟩
  have hcrl:=Yd M
  refine Z7 Tryz.func8 rfl ?_
  refine go tt [.c [0,1] cb,.f rfl,.c [] csm,.c [] ctt,.c [0] hadv,.c [0,3] Qr4,.f rfl] rfl trivial ?_
  by_cases hM0:M.length=0
  · exact en tt [.t (decide_eq_true (by omega)),.c [] Qcs] rfl rfl trivial
  have hw1:Hl k (M.length:Int)=k % (M.length:Int):=if_neg (by omega)
  have hw2:=Int.emod_nonneg k (b:=(M.length:Int)) (by omega)
  have hw3:=Int.emod_lt_of_pos k (b:=(M.length:Int)) (by omega)
  obtain ⟨j,hj⟩:∃ j:Nat,(j:Int)=k % (M.length:Int):=⟨(k % (M.length:Int)).toNat,by omega⟩
  have cwi:=Sr (v:=k) (n:=(M.length:Int)) hk (by omega)
  rw [hw1,←hj] at cwi
  rw [←hcrl] at cwi
  obtain ⟨p,hp⟩:∃ p,M[j]? = some p:=⟨_,List.getElem?_eq_getElem (by omega)⟩
  obtain ⟨hpn,hpc⟩:=hok p (List.mem_of_getElem? hp)
  have hpid:has M p.id=true:=Q79 hMs hp
  obtain ⟨X,hX⟩:∃ X,X=p.c.x.map (· * -5):=⟨_,rfl⟩
  obtain ⟨Y,hY⟩:∃ Y,Y=p.c.y.map (· * -5):=⟨_,rfl⟩
  obtain ⟨D,hD⟩:∃ D,D=p.c.d*-5:=⟨_,rfl⟩
  have hXl:X.length=p.c.x.length:=by rw [hX,List.length_map]
  have hYl:Y.length=p.c.y.length:=by rw [hY,List.length_map]
  have hc5:Cs 13 3 (Crv.mk X Y D):=by rw [hX,hY,hD]; exact Zam hpc
  have hnm:Crv.norm (Crv.mk X Y D)=p.c:=by rw [hX,hY,hD]; exact Qye hpn (by decide)
  have hm5:=fun {z:Int} (h:Ql z≤10)=>Yn (a:=z) (b:=-5) (by omega) (by decide)
  have hto:=fun {z:Int} (h:Ql z≤10)=>Qr7 (z:=z*-5) (by have:=Qfp h; omega)
  have hfr:=fun {z:Int} (h:Ql z≤10)=>Oi (z:=z) (by omega)
  have cof:=Ub (n:=-5) (by decide)
  have cmd:=hm5 hpc.d
  have ctd:=hto hpc.d
  rw [←hD] at cmd ctd
  refine go tt [.f (decide_eq_false (by omega)),.c [] cwi,.x (Xe hp),.c [] (hfr hpc.d),.c [] cof,.c [] cmd,.c [] ctd] rfl (by simp [Qa] <;> omega) ?_
  refine oz2 15 0 29 2 rfl rfl ?_
  have hxl:(p.c.x.map Zt).length=p.c.x.length:=by simp
  have hyl:(p.c.y.map Zt).length=p.c.y.length:=by simp
  have hx3:=hpc.lx
  have hy3:=hpc.ly
  have hXt:∀ i,i≤p.c.x.length→(Vu (X.take i)).length=i:=fun i hi=>by rw [Ef,List.length_take]; omega
  have hYt:∀ i,i≤p.c.y.length→(Vu (Y.take i)).length=i:=fun i hi=>by rw [Ef,List.length_take]; omega
  refine lp (S:=Nat) 7 (fun L1 i=>(71,.v (.one (.int .i64 (i:Int))))::L1) (fun i=>[.blk 74 (Y8 c1 (Qn M) r1),.blk 108 (plB M q [[-q.num,(q.den:Int)],[1]] (Rl q M)),.blk 49 (fr t),.blk 74 (Y8 c1 (Qn M) r1),.blk 112 (Ff p),.blk 31 [.orow 6 2 none,.nils,sg D,mg D],.row false 29 2 (Vu (X.take i))]) (fun i=>p.c.x.length-i) (fun i=>i≤p.c.x.length) 0 (Nat.zero_le _) rfl (fun _ _=>rfl) rfl fun i hi=>?_
  by_cases hlt:i<p.c.x.length
  · obtain ⟨z,hz⟩:∃ z,p.c.x[i]? = some z:=⟨_,List.getElem?_eq_getElem hlt⟩
    have hzs:=hpc.x z (List.mem_of_getElem? hz)
    have hs:∀ y∈[Zt (z*-5)],y.length=2:=fun y hy=>by rw [List.mem_singleton.1 hy]; rfl
    refine go tt [.t (decide_eq_true (by omega)),.x (Xd (f:=Zt) hz),.c [] (hfr hzs),.c [] cof,.c [] (hm5 hzs),.c [] (hto hzs),.s (sz:=2) hs] rfl (by simp [Qa,hXt i hi]; omega) ?_
    exact rd (i+1) (by omega) hlt (by rw [hX,←Qa6 hz]; rfl)
  obtain rfl:i=p.c.x.length:=by omega
  rw [List.take_of_length_le (by omega)]
  refine go tt [.f (decide_eq_false (by omega))] rfl trivial ?_
  refine pz 6 rfl rfl ?_
  refine oz2 15 1 29 2 rfl rfl ?_
  refine lp (S:=Nat) 8 (fun L1 i=>(96,.v (.one (.int .i64 (i:Int))))::L1) (fun i=>[.blk 74 (Y8 c1 (Qn M) r1),.blk 108 (plB M q [[-q.num,(q.den:Int)],[1]] (Rl q M)),.blk 49 (fr t),.blk 74 (Y8 c1 (Qn M) r1),.blk 112 (Ff p),.blk 31 [.row (Vu X),.orow 7 2 none,sg D,mg D],.gone,.row false 29 2 (Vu (Y.take i))]) (fun i=>p.c.y.length-i) (fun i=>i≤p.c.y.length) 0 (Nat.zero_le _) rfl (fun _ _=>rfl) rfl fun i hi=>?_
  by_cases hlt:i<p.c.y.length
  · obtain ⟨z,hz⟩:∃ z,p.c.y[i]? = some z:=⟨_,List.getElem?_eq_getElem hlt⟩
    have hzs:=hpc.y z (List.mem_of_getElem? hz)
    have hs:∀ y∈[Zt (z*-5)],y.length=2:=fun y hy=>by rw [List.mem_singleton.1 hy]; rfl
    refine go tt [.t (decide_eq_true (by omega)),.x (Xd (f:=Zt) hz),.c [] (hfr hzs),.c [] cof,.c [] (hm5 hzs),.c [] (hto hzs),.s (sz:=2) hs] rfl (by simp [Qa,hYt i hi]; omega) ?_
    exact rd (i+1) (by omega) hlt (by rw [hY,←Qa6 hz]; rfl)
  obtain rfl:i=p.c.y.length:=by omega
  rw [List.take_of_length_le (by omega)]
  -- it Ki
  obtain ⟨⟨ok1,kk1⟩,hcs,hr1⟩:=hS
  obtain ⟨w2,l1,l2⟩:=Qa3 ok1.n ok1.l (Zb (bcP M c1.now))
  have okw:=Orr.lay_ok c1.ev ok1 ok1.n (S.ok.p _ ok1.n) (S.ok.n _ ok1.n) l1
  have cturn:=Qu3 (c:=c1) (l:=M) (l':=M) (r1:=r1) (Zp X) (Zp Y) (Qe D) (hc5.mono (by decide) (by decide)) (by omega) hpid ok1 (by rw [hnm]; exact (Qz0 hMs hp).symm) hsc l1
  obtain ⟨s,hs⟩:∃ s,s=brP M c1.now:=⟨_,rfl⟩
  rw [←hs] at cturn hr1
  rw [hr1] at cturn
  rw [hr1]
  have cal:=Qhm (c:=c1) (c':=⟨c1.now,w2,c1.ev⟩) (l:=M) (l':=M) (m:=M) (a:=c1.now) (r:=s) (by omega) hs
  have cC1:=Bz (T:=74) (c:=c1) (r0:=Qn M) (r1:=s) ok1
  have cC2:=Bz (T:=74) (c:=⟨c1.now,w2,c1.ev⟩) (r0:=Qn M) (r1:=s) okw
  have hcs2:Zb ((⟨c1.now,w2,c1.ev⟩:Cr).l.map (·.c))=Zb (c1.l.map (·.c)):=by
    show Zb (w2.map (·.c))=_
    rw [l2,hcs]
  rw [hcs2] at cC2
  have hC5:∀ x∈Zb (c1.l.map (·.c)),Cp x.p:=Q3g hcs (S.ok.p _ ok1.n)
  have hCl:(Zb (c1.l.map (·.c))).length≤1000000:=by rw [Fh,List.length_map]; have:=ok1.k; omega
  have csc:=Qva (l:=Zb (c1.l.map (·.c))) hC5 hCl
  have cE1:=Qcj (T:=74) (c:=c1) (r0:=Qn M) (r1:=s)
  have cE2:=Qcj (T:=74) (c:=⟨c1.now,w2,c1.ev⟩) (r0:=Qn M) (r1:=s)
  -- away
  have hji:=(List.getElem?_eq_some_iff.1 hp).1
  obtain ⟨N,hN⟩:∃ N,N=M.take j++M.drop (j+1):=⟨_,rfl⟩
  have hNl:=Qip hji
  rw [←hN] at hNl
  have hNm:∀ x∈N,x∈M:=fun x hx=>by
    rw [hN] at hx
    rcases List.mem_append.1 hx with h | h
    · exact List.mem_of_mem_take h
    · exact List.mem_of_mem_drop h
  have hNs:∀ x∈N,Sc x.c:=fun x hx=>hsc x (hNm x hx)
  have hBN:=Qer hNs (by omega)
  obtain ⟨w3,m1,m2⟩:=Qa3 okw.n okw.l (Zb (bcP N c1.now))
  have okw3:=Orr.lay_ok c1.ev okw okw.n (hBN.p _ okw.n) (hBN.n _ okw.n) m1
  have cdr:=Qu1 (c:=⟨c1.now,w2,c1.ev⟩) (l:=M) (l':=N) (r1:=s) (by omega) hpid okw (by rw [Qmv hMs hp]; exact hN) hNs m1
  have hgo:has N p.id=false:=by rw [hN]; exact Qxp hMs hp
  have cde:=Qr5 (c:=⟨c1.now,w3,c1.ev⟩) (l:=N) (r1:=brP N c1.now) (id:=p.id) (by omega) hgo
  -- and back
  have hnp:Crv.norm (Crv.mk p.c.x p.c.y p.c.d)=p.c:=Crv.norm_of hpn
  have hpb:put N ⟨Crv.norm (Crv.mk p.c.x p.c.y p.c.d),p.id⟩=M:=by rw [hnp,hN]; exact Qy8 hMs hp
  have hpe:Gd N ⟨Crv.norm (Crv.mk p.c.x p.c.y p.c.d),p.id⟩=0:=by
    unfold Gd
    rw [if_neg (by rw [hgo]; decide),if_neg (by omega)]
  obtain ⟨w4,n1,n2⟩:=Qa3 okw3.n okw3.l (Zb (bcP M c1.now))
  have okw4:=Orr.lay_ok c1.ev okw3 okw3.n (S.ok.p _ ok1.n) (S.ok.n _ ok1.n) n1
  have cpu:=Q10 (c:=⟨c1.now,w3,c1.ev⟩) (l:=N) (r1:=brP N c1.now) (ws:=w4) (Zp p.c.x) (Zp p.c.y) (Qe p.c.d) (hpc.mono (by decide) (by decide)) (by omega) hpe okw3 (by rw [hpb]; exact hsc) (by rw [hpb]; omega) (by rw [hpb]; exact n1)
  rw [hpb] at cpu
  have hpe6:Gd M ⟨Crv.norm (Crv.mk p.c.x p.c.y p.c.d),p.id⟩=6:=by
    unfold Gd
    rw [if_pos hpid]
  have cpe:=Qu2 (c:=⟨c1.now,w4,c1.ev⟩) (l:=M) (r1:=brP M c1.now) (Zp p.c.x) (Zp p.c.y) (Qe p.c.d) (hpc.mono (by decide) (by decide)) (by omega) hpe6 (by decide)
  rw [←hs] at cpu cpe
  have cal2:=Qhm (c:=c1) (c':=⟨c1.now,w4,c1.ev⟩) (l:=M) (l':=M) (m:=M) (a:=c1.now) (r:=s) (by omega) hs
  have cC4:=Bz (T:=74) (c:=⟨c1.now,w4,c1.ev⟩) (r0:=Qn M) (r1:=s) okw4
  have hcs4:Zb ((⟨c1.now,w4,c1.ev⟩:Cr).l.map (·.c))=Zb (c1.l.map (·.c)):=by
    show Zb (w4.map (·.c))=_
    rw [n2,hcs]
  rw [hcs4] at cC4
  have hne:decide (c1.ev≠c1.ev)=false:=decide_eq_false (fun h=>h rfl)
  refine go tt [.f (decide_eq_false (by omega))] rfl trivial ?_
  refine pz 7 rfl rfl ?_
  refine go tt [.c [3] cturn,.g 123 false rfl,.lo,.c [0,3] cal,.g 129 false rfl,.lo,.c [0] cC1,.lo,.c [3] cC2,.c [] csc,.g 141 false rfl,.lo,.c [0] cE1,.lo,.c [3] cE2,.f hne,.c [3] cdr,.g 157 false rfl,.c [3] cde,.g 164 false rfl,.c [] Qv3,.c [3] cpu,.g 171 false rfl,.c [] Qv3,.c [3] cpe,.f rfl] rfl trivial ?_
  exact en tt [.lo,.c [0,3] cal2,.g 181 true rfl,.lo,.c [0] cC1,.lo,.c [3] cC4,.c [] csc,.g 192 true rfl,.c [] Qcs] rfl rfl trivial
end Orr

namespace Orr
open Go Go.Proofs
variable {H:Type} {enc:TypeId×Value→H} {w:World} {base:Nat} {spare:Nat→Bool} {held:Bool}
theorem Fv {α:Type} {l:List α} {n i:Nat} (h:l.length=n) (hi:i<n):∃ x,l[i]? = some x:=⟨l[i]'(by omega),List.getElem?_eq_getElem (by omega)⟩
end Orr

namespace Orr
open Go Go.Proofs Go.ChangeShapes Go.WideShapes Go.ChangeAt Go.RowKit Go.WideElems
theorem Q2q {w:World} {a:Addr} {v:Value} (h:w.cell? a=some v):a.spot=none∧a.block<w.heap.size:=by
  simp only [World.cell?] at h
  split at h
  · rename_i c t fr hc
    split at h
    · cases h
    · rename_i hs
      refine ⟨by cases e:a.spot with | none=>rfl | some _=>simp [e] at hs,?_⟩
      exact (Array.getElem?_eq_some_iff.1 hc).1
  · cases h
theorem Q1h {a:Addr} (h:a.spot=none) (n m:Nat):(a.add n).add m=⟨a.block,a.off+n+m,none⟩:=by
  obtain ⟨b,o,s⟩:=a
  simp only at h
  subst h
  simp only [Addr.add]
  split
  · rename_i h; subst h
    split
    · rename_i h; subst h; simp
    · simp
  · split
    · rename_i h; subst h; simp
    · simp
def fr0 (w:World):Fr:=⟨fun b=>b<w.heap.size,fun _=>False,w,fun _=>False,fun _=>none⟩
theorem hs0 (w:World):HS (fr0 w) (ob []) (nw []) (fun _=>none) (fun _=>False) w where
  size:=Nat.le_refl _
  kept:=fun b hb=>⟨hb,rfl,Iff.rfl⟩
  ids:=fun i h=>h.elim
  nj:=fun i h=>by rw [Qf4] at h; cases h
  io:=⟨rfl,rfl⟩
  blk:=fun i=>by rw [Qf4]; trivial
  nk:=fun i g c m h _=>by rw [Qf4] at h; cases h
  inj:=fun i j g c m c' m' h _ _ _=>by rw [Qf4] at h; cases h
  mlt:=fun b h=>h.elim
  m0:=fun b _ h=>h.elim
  un:=fun i _=>⟨rfl,rfl⟩
  uj:=fun i _ h=>h.elim
theorem Q4q {w w':World} {bl:Nat→OB} {U:Nat→Prop} {E:Kl} {M:Nat→Prop} (h:HS (fr0 w) bl U E M w') {p:MemPlace} (hp:p.block<w.heap.size):w.sameAt w' p:=by
  cases p with
  | cell b off=>simp only [World.sameAt,World.cell?]; rw [(h.kept b hp).2.1]; rfl
  | map b=>exact (h.kept b hp).2.1
theorem Q3f {w w':World} {bl:Nat→OB} {U:Nat→Prop} {E:Kl} {M:Nat→Prop} (h:HS (fr0 w) bl U E M w') (may:MemPlace→Prop):w.keptBut w' may:=by
  refine ⟨h.io.1,h.io.2,fun i hi=>?_⟩
  have e:w'.heap[i]? = w.heap[i]? := (h.kept i hi).2.1
  rw [e]
  cases w.heap[i]? with
  | none=>rfl
  | some o=>cases o <;> simp
end Orr

namespace Orr
open Go Go.Proofs Go.ChangeShapes Go.WideShapes Go.ChangeAt Go.RowKit Go.WideElems
theorem Mb {H:Type} {P:Program} {e:TypeId}:∀ {l:List (DataW H)} {i:Nat} {d:DataW H},l[i]? = some d→∀ n∈d.weights P e,n∈DataW.weightsAll P e l
  | [],i,d,h,_,_=>by simp at h
  |
   x::l,0,d,h,n,hn=>by
   simp at h; subst h
   simp only [DataW.weightsAll,List.mem_append]; exact .inl hn
  |
   x::l,i+1,d,h,n,hn=>by
   simp only [DataW.weightsAll,List.mem_append]
   exact .inr (Mb (i:=i) (by simpa using h) n hn)
theorem Ho {H:Type} {P:Program} {t:TypeId} {fs:Array Field} {parts:List (DataW H)} (hu:P.underlying t=some (.struct fs)) (hz:((DataW.agg parts).weights P t).all (· ≤ reachBytes)=true) {i:Nat} {f:Field} {d:DataW H} (hf:fs[i]? = some f) (hd:parts[i]? = some d) :
    (d.weights P f.type).all (· ≤ reachBytes)=true:=by
  rw [List.all_eq_true] at hz ⊢
  intro n hn
  refine hz n ?_
  simp only [DataW.weights,hu]
  exact DataW.weights_mem_each (j:=i) (by rw [List.getElem?_map]; simp [hf]) hd n hn
variable {H:Type} {enc:TypeId×Value→H} {w:World}
abbrev O0:Nat→Prop:=fun _=>False
def Els (w:World) (cs:List Value) (ls:List LV):Prop:=cs.length=ls.length∧∀ (j:Nat) (u:LV),ls[j]? = some u→∃ v,cs[j]? = some v∧LRep w O0 v u
theorem Di {α:Type} {rw_:α→List LV} {Ok:α→Prop} {t e sz:Nat} (hu:Tryz.prog.underlying t=some (.slice e)) (hc:Tryz.prog.cellsOf e=sz) (hsz:0<sz) (hb:1≤Tryz.prog.bytesOf e) (hw:∀ z,(rw_ z).length=sz)
    (elem:∀ fuel cs x,DataW.trod enc Tryz.prog w 0 (fun _=>true) true fuel e cs=some x→(x.1.weights Tryz.prog e).all (· ≤ reachBytes)=true→∃ z,Ok z∧Els w cs (rw_ z))
    {fuel:Nat} {cs:List Value} {x:DataW H×List MemPlace} (h:DataW.trod enc Tryz.prog w 0 (fun _=>true) true fuel t cs=some x) (hz:(x.1.weights Tryz.prog t).all (· ≤ reachBytes)=true) :
    ∃ (v:Value) (l:List α),cs=[v]∧(∀ z∈l,Ok z)∧l.length<2^47∧LRep w O0 v (.row (l.map rw_)):=by
  rcases Go.Deep.open_slice hu h with ⟨rfl,_⟩ | ⟨a',len,cap,m,n,D,Pl,rfl,_,hlc,hcap,hm,rfl,hr⟩
  · refine ⟨_,[],rfl,by simp,Nat.two_pow_pos 47,?_⟩
    exact LRep.row none 0 0 0 0 [] (fun _ _=>.bool true) (Nat.le_refl _) (by decide) (by simp) (by simp) (by simp) (by simp)
  · simp only [if_true] at hm
    subst hm
    rw [List.all_eq_true] at hz
    have hlen:len<2^47:=by
      have h0:=hz ((len+(m-len))*Tryz.prog.bytesOf e) (by simp [DataW.weights,hu])
      have h1:len≤(len+(m-len))*Tryz.prog.bytesOf e:=by
        have:=Nat.mul_le_mul (Nat.le_add_right len (m-len)) hb
        omega
      have h2:(len+(m-len))*Tryz.prog.bytesOf e≤reachBytes:=by simpa using h0
      exact Nat.lt_of_le_of_lt (Nat.le_trans h1 h2) reachBytes_lt
    have hel:∀ i,i<len→((D i).weights Tryz.prog e).all (· ≤ reachBytes)=true:=fun i hi=>by
      rw [List.all_eq_true]
      intro k hk
      refine hz k ?_
      simp only [DataW.weights,hu]
      refine List.mem_cons_of_mem _ (List.mem_append.2 (.inl (Mb (i:=i) ?_ k hk)))
      rw [List.getElem?_map,List.getElem?_range hi]; rfl
    have hone:∀ i,i<len→∃ z cs',Ok z∧Els w cs' (rw_ z)∧∀ j,j<sz→w.cell? ((a'.add (i*sz)).add j)=cs'[j]? := fun i hi=>by
      obtain ⟨cs',hcs,htr⟩:=hr i (by omega)
      rw [hc] at hcs
      obtain ⟨_,hl,hcell⟩:=World.cells?_some hcs
      obtain ⟨z,hz1,hz2⟩:=elem _ _ _ htr (hel i hi)
      refine ⟨z,cs',hz1,hz2,fun j hj=>?_⟩
      rw [hcell j (by omega)]
    have hspot:0<len→a'.spot=none∧a'.block<w.heap.size:=fun h0=>by
      obtain ⟨z,cs',_,⟨hl,_⟩,h3⟩:=hone 0 h0
      have h4:=h3 0 hsz
      have:(a'.add (0*sz)).add 0=a':=by simp [Addr.add]
      rw [this,List.getElem?_eq_getElem (by rw [hl,hw]; exact hsz)] at h4
      exact Q2q h4
    obtain ⟨l,hll,hl⟩:∃ l:List α,l.length=len∧∀ i z,l[i]? = some z→Ok z∧∃ cs',Els w cs' (rw_ z)∧∀ j,j<sz→w.cell? ((a'.add (i*sz)).add j)=cs'[j]? := by
      have:∀ k,k≤len→∃ l:List α,l.length=k∧∀ i z,l[i]? = some z→Ok z∧∃ cs',Els w cs' (rw_ z)∧∀ j,j<sz→w.cell? ((a'.add (i*sz)).add j)=cs'[j]? := by
        intro k
        induction k with
        | zero=>intro _; exact ⟨[],rfl,fun i z h=>by simp at h⟩
        |
         succ k ih =>
         intro hk
         obtain ⟨l,h1,h2⟩:=ih (by omega)
         obtain ⟨z,cs',h3,h4,h5⟩:=hone k (by omega)
         refine ⟨l++[z],by simp [h1],fun i y hy=>?_⟩
         rcases Nat.lt_or_ge i l.length with hi | hi
         · rw [List.getElem?_append_left hi] at hy; exact h2 i y hy
         · rw [List.getElem?_append_right hi] at hy
           have:i-l.length=0:=by
             rcases Nat.eq_zero_or_pos (i-l.length) with h | h
             · exact h
             · rw [List.getElem?_eq_none (by rw [List.length_singleton]; exact h)] at hy; cases hy
           rw [this] at hy
           simp at hy
           subst hy
           have:i=k:=by omega
           subst this
           exact ⟨h3,cs',h4,h5⟩
      exact this len (Nat.le_refl _)
    refine ⟨_,l,rfl,fun z hz=>?_,by rw [hll]; exact hlen,?_⟩
    · obtain ⟨i,hi⟩:=List.mem_iff_getElem?.1 hz
      exact (hl i z hi).1
    · have key:LRep w O0 (.slice (some a') (l.map rw_).length m) (.row (l.map rw_)):=by
        have hgl:∀ i c,(l.map rw_)[i]? = some c→∃ z,l[i]? = some z∧c=rw_ z∧i<len:=fun i c h=>by
          rw [List.getElem?_map] at h
          cases e:l[i]? with
          | none=>rw [e] at h; cases h
          | some z=>rw [e] at h; simp at h; exact ⟨z,rfl,h.symm,by have:=(List.getElem?_eq_some_iff.1 e).1; omega⟩
        have hcl:∀ i c,(l.map rw_)[i]? = some c→∃ cs':List Value,Els w cs' c∧∀ j,j<sz→w.cell? ⟨a'.block,a'.off+i*sz+j,none⟩=cs'[j]? := fun i c h=>by
          obtain ⟨z,hz,rfl,hi⟩:=hgl i c h
          obtain ⟨_,cs',h1,h2⟩:=hl i z hz
          refine ⟨cs',h1,fun j hj=>?_⟩
          rw [←h2 j hj,Q1h (hspot (by omega)).1]
        refine LRep.row (some a') m sz a'.block a'.off (l.map rw_) (fun i j=>(w.cell? ⟨a'.block,a'.off+i*sz+j,none⟩).getD (.bool true)) (by rw [List.length_map]; omega) ?_ ?_ ?_ ?_ ?_
        · have:maxLen=2^63-1:=by rfl
          omega
        · intro c hc2
          obtain ⟨z,_,rfl⟩:=List.mem_map.1 hc2
          exact hw z
        · intro h0
          rw [List.length_map,hll] at h0
          obtain ⟨hs,hb⟩:=hspot h0
          refine ⟨?_,hb,by simp [O0]⟩
          obtain ⟨b,o,s⟩:=a'
          simp only at hs
          rw [hs]
        · intro i c hi j hj
          obtain ⟨z,_,rfl,_⟩:=hgl i c hi
          obtain ⟨cs',⟨h1,_⟩,h2⟩:=hcl i _ hi
          have hjs:j<sz:=by rw [←hw z]; exact hj
          rw [h2 j hjs,List.getElem?_eq_getElem (by rw [h1]; exact hj)]; rfl
        · intro i c hi j u hu2
          obtain ⟨z,_,rfl,_⟩:=hgl i c hi
          obtain ⟨cs',⟨h1,h3⟩,h2⟩:=hcl i _ hi
          obtain ⟨v,hv,hr2⟩:=h3 j u hu2
          have hjs:j<sz:=by rw [←hw z]; exact (List.getElem?_eq_some_iff.1 hu2).1
          show LRep w O0 ((w.cell? ⟨a'.block,a'.off+i*sz+j,none⟩).getD (.bool true)) u
          rw [h2 j hjs,hv]; exact hr2
      rw [List.length_map,hll] at key
      exact key
abbrev Zci (x:Nat):List LV:=[.int .u32 (x:Int)]
theorem Q0t:∀ fuel cs x,DataW.trod enc Tryz.prog w 0 (fun _=>true) true fuel 169 cs=some x→(x.1.weights Tryz.prog 169).all (· ≤ reachBytes)=true→∃ z:Nat,z<4294967296∧Els w cs (Zci z):=by
  intro fuel cs x h _
  obtain ⟨n,rfl,_,hwf⟩:=DataW.trod_int Tryz.underlying169 h
  have hn:0≤n∧n<4294967296:=by
    have:0≤n∧n≤4294967295:=by simpa [Lit.wf,IntKind.min,IntKind.max,IntKind.signed,IntKind.bits] using hwf
    omega
  refine ⟨n.toNat,by omega,rfl,fun j u hu=>?_⟩
  match j,hu with
  |
   0,hu =>
   simp at hu; subst hu
   refine ⟨_,rfl,?_⟩
   rw [show max n 0=n by omega]
   exact .int _ _
  | j+1,hu=>simp at hu
set_option maxRecDepth 20000 in
theorem Qaw:∀ fuel cs x,DataW.trod enc Tryz.prog w 0 (fun _=>true) true fuel 29 cs=some x→(x.1.weights Tryz.prog 29).all (· ≤ reachBytes)=true→∃ z:RawInt,z.Ok∧Els w cs (Ep z):=by
  intro fuel cs x h hz
  obtain ⟨xs,n,_,rfl,hl,hxs,hf⟩:=DataW.trod_struct Tryz.underlying29 h
  have hl:cs.length=2:=hl
  match cs,hl with
  |
   [v0,v1],_ =>
   obtain ⟨z0,hz0⟩:=Fv (i:=0) hxs (by decide)
   obtain ⟨z1,hz1⟩:=Fv (i:=1) hxs (by decide)
   have h0:=hf 0 _ rfl
   have h1:=hf 1 _ rfl
   rw [hz0] at h0; rw [hz1] at h1
   obtain ⟨b,e0,_⟩:=DataW.trod_bool Tryz.underlying4 h0
   have f0:v0=.bool b:=(List.cons.inj (show [v0]=[Value.bool b] from e0)).1
   have hw1:=Ho Tryz.underlying29 hz (i:=1) rfl (d:=z1.1) (by rw [List.getElem?_map,hz1]; rfl)
   obtain ⟨v,l,e1,hlo,_,hrep⟩:=Di (sz:=1) (Ok:=fun u:Nat=>u<4294967296) (rw_:=Zci) Tryz.underlying27 (by kernel_rfl) (by decide) (of_decide_eq_true (by kernel_rfl)) (fun _=>rfl) Q0t h1 hw1
   have f1:v1=v:=(List.cons.inj (show [v1]=[v] from e1)).1
   subst f0 f1
   refine ⟨⟨b,l⟩,⟨hlo⟩,rfl,fun j u hu=>?_⟩
   match j,hu with
   | 0,hu=>simp at hu; subst hu; exact ⟨_,rfl,.bool _⟩
   | 1,hu=>simp at hu; subst hu; exact ⟨_,rfl,hrep⟩
   | j+2,hu=>simp at hu
set_option maxRecDepth 20000 in
theorem Qmu:∀ fuel cs x,DataW.trod enc Tryz.prog w 0 (fun _=>true) true fuel 35 cs=some x→(x.1.weights Tryz.prog 35).all (· ≤ reachBytes)=true→∃ z:RawPt,z.Ok∧Els w cs (rwq z):=by
  intro fuel cs x h hz
  obtain ⟨xs,n,_,rfl,hl,hxs,hf⟩:=DataW.trod_struct Tryz.underlying35 h
  have hl:cs.length=5:=hl
  match cs,hl with
  |
   [v0,v1,v2,v3,v4],_ =>
   obtain ⟨z0,hz0⟩:=Fv (i:=0) hxs (by decide)
   obtain ⟨z1,hz1⟩:=Fv (i:=1) hxs (by decide)
   have h0:=hf 0 _ rfl
   have h1:=hf 1 _ rfl
   rw [hz0] at h0; rw [hz1] at h1
   obtain ⟨id,e4,_,hwf⟩:=DataW.trod_int Tryz.underlying3 h1
   have f4:v4=.int .i64 id:=(List.cons.inj (show [v4]=[Value.int .i64 id] from e4)).1
   have hw0:=Ho Tryz.underlying35 hz (i:=0) rfl (d:=z0.1) (by rw [List.getElem?_map,hz0]; rfl)
   obtain ⟨ys,n2,_,e5,_,hys,hg⟩:=DataW.trod_struct Tryz.underlying31 h0
   rw [e5] at hw0
   obtain ⟨y0,hy0⟩:=Fv (i:=0) hys (by decide)
   obtain ⟨y1,hy1⟩:=Fv (i:=1) hys (by decide)
   obtain ⟨y2,hy2⟩:=Fv (i:=2) hys (by decide)
   have g0:=hg 0 _ rfl
   have g1:=hg 1 _ rfl
   have g2:=hg 2 _ rfl
   rw [hy0] at g0; rw [hy1] at g1; rw [hy2] at g2
   have w0:=Ho Tryz.underlying31 hw0 (i:=0) rfl (d:=y0.1) (by rw [List.getElem?_map,hy0]; rfl)
   have w1:=Ho Tryz.underlying31 hw0 (i:=1) rfl (d:=y1.1) (by rw [List.getElem?_map,hy1]; rfl)
   have w2:=Ho Tryz.underlying31 hw0 (i:=2) rfl (d:=y2.1) (by rw [List.getElem?_map,hy2]; rfl)
   obtain ⟨u0,lx,e0,hx,_,rx⟩:=Di (sz:=2) (Ok:=RawInt.Ok) (rw_:=Ep) Tryz.underlying26 (by kernel_rfl) (by decide) (of_decide_eq_true (by kernel_rfl)) (fun _=>rfl) Qaw g0 w0
   obtain ⟨u1,ly,e1,hy,_,ry⟩:=Di (sz:=2) (Ok:=RawInt.Ok) (rw_:=Ep) Tryz.underlying26 (by kernel_rfl) (by decide) (of_decide_eq_true (by kernel_rfl)) (fun _=>rfl) Qaw g1 w1
   obtain ⟨d,hd,hde⟩:=Qaw _ _ _ g2 w2
   have f0:v0=u0:=(List.cons.inj (show [v0]=[u0] from e0)).1
   have f1:v1=u1:=(List.cons.inj (show [v1]=[u1] from e1)).1
   have hde2:Els w [v2,v3] (Ep d):=hde
   subst f0 f1 f4
   obtain ⟨q2,hq2,r2⟩:=hde2.2 0 _ rfl
   obtain ⟨q3,hq3,r3⟩:=hde2.2 1 _ rfl
   simp at hq2 hq3
   subst hq2 hq3
   refine ⟨⟨lx,ly,d,id⟩,⟨hx,hy,hd,by simpa [Lit.wf,IntKind.min,IntKind.max,IntKind.signed,IntKind.bits] using hwf⟩,rfl,fun j u hu=>?_⟩
   match j,hu with
   | 0,hu=>simp [rwq] at hu; subst hu; exact ⟨_,rfl,rx⟩
   | 1,hu=>simp [rwq] at hu; subst hu; exact ⟨_,rfl,ry⟩
   | 2,hu=>simp [rwq] at hu; subst hu; exact ⟨_,rfl,r2⟩
   | 3,hu=>simp [rwq] at hu; subst hu; exact ⟨_,rfl,r3⟩
   | 4,hu=>simp [rwq] at hu; subst hu; exact ⟨_,rfl,.int _ _⟩
   | j+5,hu=>simp [rwq] at hu
end Orr

namespace Orr
open Go Go.Proofs Go.ChangeShapes Go.WideShapes Go.ChangeAt Go.RowKit Go.WideElems
set_option maxRecDepth 20000 in
theorem Qi1 {f:FuncId} {fn:Func} {s:ChangeSpec} (hp:fn.params = #[24,3,3,3]) (hr:fn.resultTypes = #[4]) (hv:s.vars=[])
    (hs:∀ (H:Type) (d1 d2 d3 d4:DataW H),s.fn H [d1,d2,d3,d4]={ results:=[.lit (.bool true)],args:=[d1,d2,d3,d4] })
    (hlaid:laidOutB Tryz.prog=true) (hr22:Tryz.prog.readableRec 24=true) (hr3:Tryz.prog.readableRec 3=true) (hs22:24<Tryz.prog.types.size) (hs3:3<Tryz.prog.types.size)
    (law:∀ (zs:List RawPt) (n d k:Int),(∀ z∈zs,z.Ok)→(-2^63≤n∧n≤2^63-1)→(-2^63≤d∧d≤2^63-1)→(-2^63≤k∧k≤2^63-1)→Qd Tryz.prog f [.one (.row (Dk zs)),.one (.int .i64 n),.one (.int .i64 d),.one (.int .i64 k)] [.one (.bool true)])
    {H:Type} {enc:TypeId×Value→H} {W:World} {base:Nat} {args:Array Value} {ds gs:List (DataW H)} {Qk4:List MemPlace} {fresh handsOn:Bool}
    (hval:∀ (j:Nat) t v,fn.params[j]? = some t→args[j]? = some v→Value.okWide Tryz.prog W .any base t v)
    (hW:DataW.Whole enc Tryz.prog fn.params.toList s.vars false W args.toList ds gs Qk4)
    (hz:(DataW.weightsEach Tryz.prog (fn.params.toList++s.plain.varTypes Tryz.prog) (ds++gs)).all (· ≤ reachBytes)=true) :
    Calls Tryz.prog f args W fun e W'=>∃ v,e=.returned v∧s.post enc Tryz.prog fn false fresh handsOn false W args v W':=by
  have hW':=hW
  obtain ⟨p,q,hA0,hV,rfl,hfz,hnd⟩:=hW
  have hA:DataW.TrodAll enc Tryz.prog W 0 (fun _=>true) true fn.params.toList args.toList ds p:=hA0
  rw [hv] at hV
  obtain ⟨rfl,rfl⟩:=trodVars_none hV
  have hlt:=hW'.lt
  rw [hp] at hA hval hz
  obtain ⟨v0,vs0,d0,ds0,p0,q0,hargs0,rfl,rfl,h0,r0⟩:=trodAll_cons hA
  obtain ⟨v1,vs1,d1,ds1,p1,q1,rfl,rfl,rfl,h1,r1⟩:=trodAll_cons r0
  obtain ⟨v2,vs2,d2,ds2,p2,q2,rfl,rfl,rfl,h2,r2⟩:=trodAll_cons r1
  obtain ⟨v3,vs3,d3,ds3,p3,q3,rfl,rfl,rfl,h3,r3⟩:=trodAll_cons r2
  obtain ⟨rfl,rfl,rfl⟩:=trodAll_nil r3
  obtain rfl:args = #[v0,v1,v2,v3]:=by cases args; simp_all
  obtain ⟨n,rfl,rfl,rfl,w1⟩:=open_int Tryz.underlying3 (hval 1 3 v1 rfl rfl) h1
  obtain ⟨d,rfl,rfl,rfl,w2⟩:=open_int Tryz.underlying3 (hval 2 3 v2 rfl rfl) h2
  obtain ⟨k,rfl,rfl,rfl,w3⟩:=open_int Tryz.underlying3 (hval 3 3 v3 rfl rfl) h3
  have hv0:=hval 0 24 v0 rfl rfl
  obtain ⟨a,len,cap,rfl⟩:=okWide_slice Tryz.underlying24 hv0
  have hz0:(d0.weights Tryz.prog 24).all (· ≤ reachBytes)=true:=by
    rw [List.all_eq_true] at hz ⊢
    intro j hj
    exact hz j (DataW.weights_mem_each (j:=0) rfl rfl j hj)
  have h0':=h0
  obtain ⟨fu,h0'⟩:=h0'
  obtain ⟨v,zs,e0,hok,hlen,hrep⟩:=Di (sz:=5) (Ok:=RawPt.Ok) (rw_:=rwq) Tryz.underlying24 (by kernel_rfl) (by decide) (of_decide_eq_true (by kernel_rfl)) (fun _=>rfl) Qmu h0' hz0
  have f0:Value.slice a len cap=v:=(List.cons.inj (show [Value.slice a len cap]=[v] from e0)).1
  subst f0
  have hd1:-2^63≤d∧d≤2^63-1:=by simpa [Lit.wf,IntKind.min,IntKind.max,IntKind.signed,IntKind.bits] using w2
  have hrep:LRep W (fun _=>False) (.slice a len cap) (.row (Dk zs)):=hrep
  have hn1:-2^63≤n∧n≤2^63-1:=by simpa [Lit.wf,IntKind.min,IntKind.max,IntKind.signed,IntKind.bits] using w1
  have hk1:-2^63≤k∧k≤2^63-1:=by simpa [Lit.wf,IntKind.min,IntKind.max,IntKind.signed,IntKind.bits] using w3
  have hcall:=(law zs n d k hok hn1 hd1 hk1).2 (fr0 W) (fun _=>none) (fun _=>False) W [.slice a len cap,.int .i64 n,.int .i64 d,.int .i64 k] (hs0 W) (.cons (show XRep W (fun _=>False) (fun _=>none) (.slice a len cap) (.row (Dk zs)) from hrep.x) (.cons (show XRep W (fun _=>False) (fun _=>none) (.int .i64 n) (.int .i64 n) from (LRep.int .i64 n).x) (.cons (show XRep W (fun _=>False) (fun _=>none) (.int .i64 d) (.int .i64 d) from (LRep.int .i64 d).x) (.cons (show XRep W (fun _=>False) (fun _=>none) (.int .i64 k) (.int .i64 k) from (LRep.int .i64 k).x) .nil))))
  refine hcall.mono fun e W' ⟨v,u,Bo,E',M',he,⟨hu,hBo⟩,_,hm,har⟩=>?_
  subst hu
  obtain rfl:v=.bool true:=by
    have h:LRep _ _ v (.bool true):=har
    cases h
    rfl
  refine ⟨_,he,?_⟩
  refine ⟨[d0,.lit (.int .i64 n),.lit (.int .i64 d),.lit (.int .i64 k)],[],_,[],p0++([]++([]++([]++[]))),[],hW',?_,?_,?_,Q3f hm _,fun h=>by cases h⟩
  · rw [hr,List.append_nil,hs]
    exact trodAll_cons_mk (shut_bool Tryz.underlying4 true) trodAll_mk0
  · rw [hp,List.append_nil,hs]
    have hb:∀ p∈p0,p.block<W.heap.size:=fun p hp=>hlt p (by simp [hp])
    exact trodAll_cons_mk (Trod_stays hlaid hr22 hs22 h0 (fun p hp=>Q4q hm (hb p hp)) (fun p hp=>by simpa using hb p hp)) (trodAll_cons_mk (shut_int Tryz.underlying3 w1) (trodAll_cons_mk (shut_int Tryz.underlying3 w2) (trodAll_cons_mk (shut_int Tryz.underlying3 w3) trodAll_mk0)))
  · rw [hv,List.append_nil,hs]
    rfl
end Orr
