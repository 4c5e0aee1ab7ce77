/- R21 NewsN PW2 SD1 SC1 W1 W2 WR18 WS18 X21 B21 A21 WS21 ReadN LastN LastR LastS -/
import Derived.Test.YtbnjginelkkonaaGreatPart09
import Derived.Test.YtbnjginelkkonaaGreatPart08
import Derived.Test.YtbnjginelkkonaaGreatPart05
import Derived.Deep.Slices
import Derived.ProofKit
import Derived.OpenShut
import Derived.WideKeyArgs
import Derived.SizedLaws
set_option linter.all false

namespace Orr
open Go Go.Proofs
set_option maxRecDepth 10000
theorem Q16 {p q:List Int} (hp:Bd 19000000 p) (hq:Bd 19000000 q) (hlp:p.length≤1000000) (hlq:q.length≤1000000):Qd Tryz.prog 255 [.one (rp (zp p)),.one (rp (zp q))] [.one (rp (zp (Nc p q)))]:=by
  have h:=Qlk (Sa (Qc hp (by decide)) (by decide)) (Sa (Qc hq (by decide)) (by decide)) (by rw [J6]; exact hlp) (by rw [J6]; exact hlq)
  rwa [Qqv] at h
theorem Ms {a b:Crv} (ha:Rs a) (hb:Rs b):Bd 400008 (Zz a b)∧(Zz a b).length≤31:=by
  have h1:=Qdw ha hb
  have h2:=Qdp ha hb
  have:=Qfq h1.2; have:=Qfq h2.2
  exact ⟨Qc (A7 (Qn5 h1.1 h1.2) (Qn5 h2.1 h2.2)) (by omega),Nat.le_trans (Cx _ _) (by omega)⟩
theorem Qhx {a b:Crv} (ha:Rs a) (hb:Rs b):Qd Tryz.prog 329 [.agg (rcl a),.agg (rcl b)] [.one (rp (zp (Zz a b)))]:=by
  have h1:=Qdw ha hb
  have h2:=Qdp ha hb
  have l1:=Qfq h1.2
  have l2:=Qfq h2.2
  exact w tt Tryz.func329 rfl [.c [] (Qvw ha hb),.c [] (Qvr ha hb),.c [] (Qey (p:=Xi a b) (q:=Xi a b) (by omega) (by omega) h1.1 h1.1 (by decide)),.c [] (Qey (p:=Xh a b) (q:=Xh a b) (by omega) (by omega) h2.1 h2.1 (by decide)),.c [] (Q16 (p:=Zh (Xi a b) (Xi a b)) (q:=Zh (Xh a b) (Xh a b)) (Qc (Qn5 h1.1 h1.2) (by decide)) (Qc (Qn5 h2.1 h2.2) (by decide)) (by omega) (by omega))] rfl rfl trivial
theorem Q0j {x:Int} (h:x≠0):Qj [x]:=by unfold Qj; simp [trim,h]
theorem Qyr {x y:Int} (hx:x≠0) (hy:y≠0):Qx [x] y=[x*y]:=by
  have h:=Q0j (Int.mul_ne_zero hx hy)
  exact h
theorem Ia {x y:Int} (hx:x≠0) (hy:y≠0) (bx:Ql x≤9000000) (b_y:Ql y≤9000000):Qd Tryz.prog 283 [.one (rp (zp [x])),.one (rp (zp [y]))] [.one (rp (zp [x*y]))]:=by
  have h:=Ns (p:=[x]) (d:=y) (Q0j hx) hy (Q9q bx) b_y (by show 1≤1000; decide)
  rwa [Qyr hx hy] at h
theorem Ip {a b:Int} (ha:Ql a≤100000) (hb:Ql b≤100000):Ql (a*b)≤200000∧Ql ((a*b)*(a*b))≤400000:=by
  have h1:=Q3 a b; have h2:=Q3 (a*b) (a*b); omega
theorem Qjq {a b c d:Crv} (ha:Rs a) (hb:Rs b) (hc:Rs c) (hd:Rs d):Bd 800009 (Q5 a b c d)∧(Q5 a b c d).length≤31:=by
  have h1:=Ms hc hd
  have h2:=Ms ha hb
  have e1:=(Ip ha.c.d hb.c.d).2
  have e2:=(Ip hc.c.d hd.c.d).2
  have:=Qt (Zz c d) ((a.d*b.d)*(a.d*b.d)); have:=Qt (Zz a b) ((c.d*d.d)*(c.d*d.d))
  exact ⟨Qc (W3 (Qz h1.1 e1) (Qz h2.1 e2)) (by omega),Nat.le_trans (Vv _ _) (by omega)⟩
theorem Au (a b:Crv):Qj (Zz a b):=Q9 _ _
theorem Oy {a b c d:Crv} (ha:Rs a) (hb:Rs b) (hc:Rs c) (hd:Rs d):Qd Tryz.prog 316 [.agg (rcl a),.agg (rcl b),.agg (rcl c),.agg (rcl d)] [.one (rp (zp (Q5 a b c d)))]:=by
  have h1:=Ms hc hd
  have h2:=Ms ha hb
  have e1:=Ip ha.c.d hb.c.d
  have e2:=Ip hc.c.d hd.c.d
  have n1:=Int.mul_ne_zero ha.dn hb.dn
  have n2:=Int.mul_ne_zero hc.dn hd.dn
  have m1:=Ia ha.dn hb.dn (Nat.le_trans ha.c.d (by decide)) (Nat.le_trans hb.c.d (by decide))
  have m2:=Ia hc.dn hd.dn (Nat.le_trans hc.c.d (by decide)) (Nat.le_trans hd.c.d (by decide))
  obtain ⟨x,hx⟩:∃ x,x=a.d*b.d:=⟨_,rfl⟩
  obtain ⟨y,hy⟩:∃ y,y=c.d*d.d:=⟨_,rfl⟩
  have eF:Q5 a b c d=Vp (Qx (Zz c d) (x*x)) (Qx (Zz a b) (y*y)):=by rw [hx,hy]; rfl
  rw [eF]
  rw [←hx] at e1 n1 m1
  rw [←hy] at e2 n2 m2
  have l1:=Qt (Zz c d) (x*x)
  have l2:=Qt (Zz a b) (y*y)
  have m3:=Ia n1 n1 (Nat.le_trans e1.1 (by decide)) (Nat.le_trans e1.1 (by decide))
  have m4:=Ia n2 n2 (Nat.le_trans e2.1 (by decide)) (Nat.le_trans e2.1 (by decide))
  have m5:=Ns (p:=Zz c d) (d:=x*x) (Au c d) (Int.mul_ne_zero n1 n1) (Qc h1.1 (by decide)) (Nat.le_trans e1.2 (by decide)) (by omega)
  have m6:=Ns (p:=Zz a b) (d:=y*y) (Au a b) (Int.mul_ne_zero n2 n2) (Qc h2.1 (by decide)) (Nat.le_trans e2.2 (by decide)) (by omega)
  have m7:=Qex (p:=Qx (Zz c d) (x*x)) (q:=Qx (Zz a b) (y*y)) (Qc (Qz h1.1 e1.2) (by decide)) (Qc (Qz h2.1 e2.2) (by decide)) (by omega) (by omega)
  exact w tt Tryz.func316 rfl [.c [] (Su ha),.c [] (Su hb),.c [] (Su hc),.c [] (Su hd),.c [] m1,.c [] m2,.c [] (Qhx hc hd),.c [] m3,.c [] m5,.c [] (Qhx ha hb),.c [] m4,.c [] m6,.c [] m7] rfl rfl trivial
theorem Qcg {a b c d:Crv} {q:Rat} {cs:List (List Int)} (ha:Rs a) (hb:Rs b) (hc:Rs c) (hd:Rs d) (hq:Qs 1000000 q):Qd Tryz.prog 315 [.one (rp (zp (Q5 a b c d))),.agg (aq q cs)] [.one (.int .i64 (S8 (Q5 a b c d) q))]:=by
  have h:=Qjq ha hb hc hd
  exact Qvm (Qc h.1 (by decide)) (Nat.le_trans h.2 (by decide)) hq
theorem Ql3 (p:List Int) (q:Rat):Ur (Sk q) p=S8 p q:=rfl
theorem Qvu {a b u v:Pt} {q:Rat} {c:List (List Int)} (ha:Rs a.c) (hb:Rs b.c) (hu:Rs u.c) (hv:Rs v.c) (hq:Qs 1000000 q):Qd Tryz.prog 311 [.one (.int .i64 5),.agg (aq q c),.one (.row [Gl a,Gl b,Gl u,Gl v])] [.agg (rct (Jx (Sk q) a b u v)),.one (.bool true)]:=by
  have x0:[Gl a,Gl b,Gl u,Gl v][0]? = some (Gl a):=rfl
  have x1:[Gl a,Gl b,Gl u,Gl v][1]? = some (Gl b):=rfl
  have x2:[Gl a,Gl b,Gl u,Gl v][2]? = some (Gl u):=rfl
  have x3:[Gl a,Gl b,Gl u,Gl v][3]? = some (Gl v):=rfl
  have cf:=Oy ha hb hu hv
  have cg:=Qcg (cs:=c) ha hb hu hv hq
  have e:rct (Jx (Sk q) a b u v)=[.int .i64 5,.int .i64 a.id,.int .i64 b.id,.int .i64 u.id,.int .i64 v.id,rp (zp (Q5 a.c b.c u.c v.c)),.int .i64 (S8 (Q5 a.c b.c u.c v.c) q),.row [],.bool false]:=by simp only [Jx,rct,Ql3]
  rw [e]
  generalize Q5 a.c b.c u.c v.c=F at *
  refine Z7 Tryz.func311 rfl ?_
  refine go tt [.g 14 false rfl,.g 18 false rfl,.x (l:=[[.int .i64 0],[.int .i64 2],[.int .i64 2],[.int .i64 3],[.int .i64 4],[.int .i64 4]]) (i:=5) (xs:=[.int .i64 4]) rfl,.f rfl] rfl trivial ?_
  refine lp (S:=Nat) 3 (fun L1 i=>(33,.v (.one (.int .i64 (i:Int))))::L1) (fun i=>[.blk 102 (aq q c),.blk 265 rzc,.blk 265 [.int .i64 5,.int .i64 (if 0<i then a.id else 0),.int .i64 (if 1<i then b.id else 0),.int .i64 (if 2<i then u.id else 0),.int .i64 (if 3<i then v.id else 0),.nils,.int .i64 0,.nils,.bool false]]) (fun i=>4-i) (fun i=>i≤4) 0 (by decide) rfl (fun _ _=>rfl) rfl fun i hi=>?_
  rcases (show i=0∨i=1∨i=2∨i=3∨i=4 by omega) with rfl | rfl | rfl | rfl | rfl
  · exact go tt [.t rfl,.x x0,.i 0] rfl (by simp [Qa]) (rd 1 (by omega) (by omega) rfl)
  · exact go tt [.t rfl,.x x1,.i 1] rfl (by simp [Qa]) (rd 2 (by omega) (by omega) rfl)
  · exact go tt [.t rfl,.x x2,.i 2] rfl (by simp [Qa]) (rd 3 (by omega) (by omega) rfl)
  · exact go tt [.t rfl,.x x3,.i 3] rfl (by simp [Qa]) (rd 4 (by omega) (by omega) rfl)
  exact en tt [.f rfl,.f rfl,.f rfl,.f rfl,.f rfl,.x x0,.x x1,.x x2,.x x3,.c [] cf,.c [] cg] rfl rfl trivial
theorem Q2f {a b u v:Pt} {q:Rat} {c:List (List Int)} (ha:Rs a.c) (hb:Rs b.c) (hu:Rs u.c) (hv:Rs v.c) (hq:Qs 1000000 q):Qd Tryz.prog 288 [.one (.int .i64 5),.agg (aq q c),.one (.row [Gl a,Gl b,Gl u,Gl v])] [.agg (rct (Jx (Sk q) a b u v))] :=
  w tt Tryz.func288 rfl [.c [] (Qvu ha hb hu hv hq)] rfl rfl trivial
abbrev Qq3:List LV:=[.nils,.nils,.nils,.nils,.bool false,.nils,.int .i64 0]
abbrev Qzq:List LV:=[.row [],.row [],.row [],.row [],.bool false,.row [],.int .i64 0]
theorem Qhw {l:List Pt} {q:Rat} {cs:List (List Int)} (hn:l.length≤1000) (h:l.length<2):Qd Tryz.prog 292 [.one (.row (Zc l)),.agg (aq q cs)] [.agg Qzq,.agg Qzq,.one (.bool false)]:=by
  have c1:=Ib (l:=l) (by omega)
  have hML:(Zc (Z1 Yt l)).length=l.length:=by rw [Y6,Vj]
  exact w tt Tryz.func292 rfl [.c [] c1,.t (decide_eq_true (by omega))] rfl rfl trivial
theorem Qlo {l:List Pt} {q:Rat} {cs:List (List Int)} {a b:Pt} {M':List Pt} (hl:∀ p∈l,Rs p.c) (hn:l.length≤1000) (hq:Qs 1000000 q) (hM:Z1 Yt l=a::b::M'):Qd Tryz.prog 292 [.one (.row (Zc l)),.agg (aq q cs)] [.agg (Gl (Qy (Sk q) (a,b) (Qw (a::b::M'))).1),.agg (Gl (Qy (Sk q) (a,b) (Qw (a::b::M'))).2),.one (.bool true)]:=by
  have c1:=Ib (l:=l) (by omega)
  have hML:(Z1 Yt l).length=l.length:=Vj _ _
  have hMl:∀ p∈Z1 Yt l,Rs p.c:=fun p hp=>hl p (Rl.1 hp)
  have hx0:(Z1 Yt l)[0]? = some a:=by rw [hM]; rfl
  have hx1:(Z1 Yt l)[1]? = some b:=by rw [hM]; rfl
  have hM2:2≤(Z1 Yt l).length:=by rw [hM]; simp
  rw [←hM]
  obtain ⟨M,hM⟩:∃ M,M=Z1 Yt l:=⟨_,rfl⟩
  rw [←hM] at c1 hML hMl hx0 hx1 hM2 ⊢
  have hcl:=Y6 M
  have hs:(a,b).1∈M∧(a,b).2∈M:=⟨List.mem_of_getElem? hx0,List.mem_of_getElem? hx1⟩
  have hsc:∀ ps:List (Pt×Pt),(∀ m∈ps,m.1∈M∧m.2∈M)→Rs (Qy (Sk q) (a,b) ps).1.c∧Rs (Qy (Sk q) (a,b) ps).2.c:=fun ps h=>by
    obtain ⟨h1,h2⟩:=J7 (Sk q) ps (a,b) hs h
    exact ⟨hMl _ h1,hMl _ h2⟩
  refine Z7 Tryz.func292 rfl ?_
  refine go tt [.c [] c1,.f (decide_eq_false (by omega)),.x (Xg hx0),.x (Xg hx1)] rfl (by simp [Qa] <;> omega) ?_
  refine lp (S:=Nat) 5 (fun L1 i=>(26,.v (.one (.int .i64 (i:Int))))::L1) (fun i=>[.blk 102 (aq q cs),.blk 112 Qq3,.blk 112 Qq3,.blk 112 (Gl (Qy (Sk q) (a,b) (Xo i M)).1),.blk 112 (Gl (Qy (Sk q) (a,b) (Xo i M)).2)]) (fun i=>M.length-i) (fun i=>i≤M.length) 0 (Nat.zero_le _) rfl (fun _ _=>rfl) (by rw [G0]; rfl) fun i hi=>?_
  by_cases hlt:i<M.length
  · obtain ⟨x,hx⟩:∃ x,M[i]? = some x:=⟨_,List.getElem?_eq_getElem hlt⟩
    rw [←Di M x i]
    refine go tt [.t (decide_eq_true (by omega)),.r 30 (eI (b:=((i+1:Nat):Int)) (by simp))] rfl (by simp [Qa] <;> omega) ?_
    refine lp (S:=Nat) 5 (fun L1 j=>(10,.v (.one (.int .i64 ((i+1+j:Nat):Int))))::L1) (fun j=>[.blk 102 (aq q cs),.blk 112 Qq3,.blk 112 Qq3,.blk 112 (Gl (Qy (Sk q) (a,b) (Bl M x i j)).1),.blk 112 (Gl (Qy (Sk q) (a,b) (Bl M x i j)).2)]) (fun j=>(M.drop (i+1)).length-j) (fun j=>j≤(M.drop (i+1)).length) 0 (Nat.zero_le _) rfl (fun _ _=>rfl) rfl fun j hj=>?_
    have hdl:(M.drop (i+1)).length=M.length-(i+1):=List.length_drop
    by_cases hltj:j<(M.drop (i+1)).length
    · obtain ⟨y,hy⟩:∃ y,(M.drop (i+1))[j]? = some y:=⟨_,List.getElem?_eq_getElem hltj⟩
      have hy':M[i+1+j]? = some y:=by rw [←hy,List.getElem?_drop]
      obtain ⟨s1,s2⟩:=hsc (Bl M x i j) (Qqm hx)
      have hxs:=hMl x (List.mem_of_getElem? hx)
      have hys:=hMl y (List.mem_of_getElem? hy')
      have ef:=Dh (x:=x) hy
      have en1:=C4 (Sk q) (a,b) (Bl M x i j) (x,y)
      rw [←ef] at en1
      obtain ⟨s,hs'⟩:∃ s,s=Qy (Sk q) (a,b) (Bl M x i j):=⟨_,rfl⟩
      rw [←hs'] at s1 s2 en1 ⊢
      have cF:=Oy s1 s2 hxs hys
      have cA:=Qcg (cs:=cs) s1 s2 hxs hys hq
      have ep:S8 (Q5 s.1.c s.2.c x.c y.c) q<0→Jz (Sk q) s (x,y)=(x,y):=fun h=>if_pos h
      have en:¬S8 (Q5 s.1.c s.2.c x.c y.c) q<0→Jz (Sk q) s (x,y)=s:=fun h=>if_neg h
      generalize Q5 s.1.c s.2.c x.c y.c=F at *
      by_cases hg:S8 F q<0
      · have e:=ep hg
        rw [e] at en1
        refine go tt [.t (decide_eq_true (by omega)),.x (Xg hx),.x (Xg hy'),.c [] cF,.c [] cA,.t (decide_eq_true hg),.x (Xg hx),.x (Xg hy')] rfl (by simp [Qa] <;> omega) ?_
        exact rd (j+1) (by omega) hltj (by rw [en1]; rfl)
      · have e:=en hg
        rw [e] at en1
        refine go tt [.t (decide_eq_true (by omega)),.x (Xg hx),.x (Xg hy'),.c [] cF,.c [] cA,.f (decide_eq_false hg)] rfl (by simp [Qa] <;> omega) ?_
        exact rd (j+1) (by omega) hltj (by rw [en1]; rfl)
    · have e:=Iy hx (Nat.le_of_not_lt hltj)
      rw [e]
      refine go tt [.f (decide_eq_false (by omega))] rfl (by simp [Qa] <;> omega) ?_
      exact rd (i+1) (by omega) hlt rfl
  · obtain rfl:i=M.length:=by omega
    exact en tt [.f (decide_eq_false (by omega))] rfl rfl trivial
def Q8h (q:Rat):List Pt→List Ct
  | a::b::M=>Z1 Kd (Jg (Sk q) (Qy (Sk q) (a,b) (Qw (a::b::M))) (Qw (a::b::M)))
  | _=>[]
def T0 (q:Rat) (l:List Pt):List Ct:=Q8h q (Z1 Yt l)
theorem Qte (q:Rat) {l:List Pt} (hn:l.length≤10):(T0 q l).length≤1000000:=by
  unfold T0
  have hs:(Z1 Yt l).length=l.length:=Vj _ _
  generalize Z1 Yt l=M at *
  match M,hs with
  | [],_=>exact Nat.zero_le _
  | [_],_=>exact Nat.zero_le _
  |
   a::b::M,hs =>
   show (Z1 Kd _).length≤_
   rw [Vj]
   have h1:=Ht (Sk q) (Qy (Sk q) (a,b) (Qw (a::b::M))) (Qw (a::b::M))
   have h2:=Gd (a::b::M).length (a::b::M)
   have h3:(a::b::M).length*(a::b::M).length≤10*10:=Nat.mul_le_mul (by omega) (by omega)
   have h4:(Qw (a::b::M)).length=(Xo (a::b::M).length (a::b::M)).length:=rfl
   omega
theorem Qez {l:List Pt} {q:Rat} {cs:List (List Int)} (hl:∀ p∈l,Rs p.c) (hn:l.length≤10) (hq:Qs 1000000 q):Qd Tryz.prog 259 [.one (.row (Zc l)),.agg (aq q cs)] [.one (.row (Jm (T0 q l)))]:=by
  have hML:(Z1 Yt l).length=l.length:=Vj _ _
  by_cases h2:l.length<2
  · have e:T0 q l=[]:=by
      unfold T0
      match hm:Z1 Yt l with
      | []=>rfl
      | [_]=>rfl
      | a::b::M=>rw [hm] at hML; simp at hML; omega
    rw [e]
    exact w tt Tryz.func259 rfl [.c [] (Qhw (cs:=cs) (q:=q) (by omega) h2),.t rfl] rfl rfl trivial
  obtain ⟨a,b,M',hM⟩:=Qg3 (l:=Z1 Yt l) (by omega)
  have c0:=Qlo (cs:=cs) hl (by omega) hq hM
  have c1:=Ib (l:=l) (by omega)
  have hMl:∀ p∈Z1 Yt l,Rs p.c:=fun p hp=>hl p (Rl.1 hp)
  have e:T0 q l=Z1 Kd (Jg (Sk q) (Qy (Sk q) (a,b) (Qw (Z1 Yt l))) (Qw (Z1 Yt l))):=by unfold T0; rw [hM]; rfl
  rw [e]
  rw [←hM] at c0
  have hab:a∈Z1 Yt l∧b∈Z1 Yt l:=by rw [hM]; exact ⟨by simp,by simp⟩
  obtain ⟨M,hM⟩:∃ M,M=Z1 Yt l:=⟨_,rfl⟩
  rw [←hM] at c0 c1 hML hMl hab ⊢
  obtain ⟨s1,s2⟩:=J7 (Sk q) (l:=M) (Qw M) (a,b) hab (Jl _ _)
  obtain ⟨s,hs⟩:∃ s,s=Qy (Sk q) (a,b) (Qw M):=⟨_,rfl⟩
  rw [←hs] at c0 s1 s2 ⊢
  have hcl:=Y6 M
  have hpk:∀ i,i≤M.length→(Xo i M).length≤100:=fun i hi=>by
    have:=Gd i M
    have:i*M.length≤10*10:=Nat.mul_le_mul (by omega) (by omega)
    omega
  have hdn:∀ i j x,i≤M.length→(Jg (Sk q) s (Bl M x i j)).length≤1000:=fun i j x hi=>by
    refine Nat.le_trans (Ht _ _ _) ?_
    unfold Bl
    rw [List.length_append,List.length_map,List.length_take,List.length_drop]
    have:=hpk i hi; omega
  have hfin:(Jg (Sk q) s (Qw M)).length≤1000000:=Nat.le_trans (Ht _ _ _) (by have:=hpk M.length (Nat.le_refl _); show (Xo M.length M).length≤_; omega)
  have c9:=Q2e (l:=Jg (Sk q) s (Qw M)) hfin
  refine Z7 Tryz.func259 rfl ?_
  refine go tt [.c [] c0,.f rfl,.c [] c1,.o 8 265 9] rfl trivial ?_
  refine lp (S:=Nat) 4 (fun L1 i=>(24,.v (.one (.int .i64 (i:Int))))::(8,.v (.one (.orow 3 9 none)))::L1) (fun i=>[.blk 102 (aq q cs),.blk 112 (Gl s.1),.blk 112 (Gl s.2),.row false 265 9 (Jm (Jg (Sk q) s (Xo i M)))]) (fun i=>M.length-i) (fun i=>i≤M.length) 0 (Nat.zero_le _) rfl (fun _ _=>rfl) (by rw [G0]; rfl) fun i hi=>?_
  by_cases hlt:i<M.length
  · obtain ⟨x,hx⟩:∃ x,M[i]? = some x:=⟨_,List.getElem?_eq_getElem hlt⟩
    rw [←Di M x i]
    refine go tt [.t (decide_eq_true (by omega)),.r 28 (eI (b:=((i+1:Nat):Int)) (by simp))] rfl (by simp [Qa] <;> omega) ?_
    refine lp (S:=Nat) 4 (fun L1 j=>(10,.v (.one (.int .i64 ((i+1+j:Nat):Int))))::(8,.v (.one (.orow 3 9 none)))::L1) (fun j=>[.blk 102 (aq q cs),.blk 112 (Gl s.1),.blk 112 (Gl s.2),.row false 265 9 (Jm (Jg (Sk q) s (Bl M x i j)))]) (fun j=>(M.drop (i+1)).length-j) (fun j=>j≤(M.drop (i+1)).length) 0 (Nat.zero_le _) rfl (fun _ _=>rfl) rfl fun j hj=>?_
    have hdl:(M.drop (i+1)).length=M.length-(i+1):=List.length_drop
    by_cases hltj:j<(M.drop (i+1)).length
    · obtain ⟨y,hy⟩:∃ y,(M.drop (i+1))[j]? = some y:=⟨_,List.getElem?_eq_getElem hltj⟩
      have hy':M[i+1+j]? = some y:=by rw [←hy,List.getElem?_drop]
      have hxs:=hMl x (List.mem_of_getElem? hx)
      have hys:=hMl y (List.mem_of_getElem? hy')
      have hll:=hdn i j x hi
      have hrl:=Tr (Jg (Sk q) s (Bl M x i j))
      have ef:=Dh (x:=x) hy
      have co:=Q2f (c:=cs) (hMl _ s1) (hMl _ s2) hxs hys hq
      by_cases e1:x.id≠s.1.id
      · have en1:=Qe6 (sg:=Sk q) (s:=s) (m:=(x,y)) (ps:=Bl M x i j) (by simp [Uj,e1])
        rw [←ef] at en1
        have hm9:∀ z∈[rct (Jx (Sk q) s.1 s.2 x y)],z.length=9:=fun z hz=>by rw [List.mem_singleton.1 hz]; rfl
        refine go tt [.t (decide_eq_true (by omega)),.x (Xg hx),.g 43 true (decide_eq_true e1),.t rfl,.x (Xg hx),.x (Xg hy'),.c [] co,.s (sz:=9) hm9] rfl (by simp [Qa,hrl] <;> omega) ?_
        exact rd (j+1) (by omega) hltj (by rw [en1]; simp [Jm]; rfl)
      by_cases e2:y.id≠s.2.id
      · have en1:=Qe6 (sg:=Sk q) (s:=s) (m:=(x,y)) (ps:=Bl M x i j) (by simp [Uj,e2])
        rw [←ef] at en1
        have hm9:∀ z∈[rct (Jx (Sk q) s.1 s.2 x y)],z.length=9:=fun z hz=>by rw [List.mem_singleton.1 hz]; rfl
        refine go tt [.t (decide_eq_true (by omega)),.x (Xg hx),.g 43 false (decide_eq_false e1),.x (Xg hy'),.t (decide_eq_true e2),.x (Xg hx),.x (Xg hy'),.c [] co,.s (sz:=9) hm9] rfl (by simp [Qa,hrl] <;> omega) ?_
        exact rd (j+1) (by omega) hltj (by rw [en1]; simp [Jm]; rfl)
      · have en1:=Qe5 (sg:=Sk q) (s:=s) (m:=(x,y)) (ps:=Bl M x i j) (by simp [Uj,Decidable.not_not.1 e1,Decidable.not_not.1 e2])
        rw [←ef] at en1
        refine go tt [.t (decide_eq_true (by omega)),.x (Xg hx),.g 43 false (decide_eq_false e1),.x (Xg hy'),.f (decide_eq_false e2)] rfl (by simp [Qa] <;> omega) ?_
        exact rd (j+1) (by omega) hltj (by rw [en1]; rfl)
    · have e:=Iy hx (Nat.le_of_not_lt hltj)
      rw [e]
      refine go tt [.f (decide_eq_false (by omega))] rfl (by simp [Qa] <;> omega) ?_
      exact rd (i+1) (by omega) hlt rfl
  · obtain rfl:i=M.length:=by omega
    exact en tt [.f (decide_eq_false (by omega)),.c [] c9] rfl rfl (by simp [Qa] <;> omega)
theorem Qr7 {l:List Pt} {q:Rat} {cs:List (List Int)} (hl:∀ p∈l,Rs p.c) (hn:l.length≤10) (hq:Qs 1000000 q):Qd Tryz.prog 209 [.one (.int .i64 3),.one (.row (Zc l)),.agg (aq q cs)] [.one (.row (Jm (T0 q l)))] :=
  w tt Tryz.func209 rfl [.f rfl,.f rfl,.f rfl,.t rfl,.c [] (Qez hl hn hq)] rfl rfl trivial
theorem Qk5 {l:List Pt} {q:Rat} {cs:List (List Int)} (hl:∀ p∈l,Rs p.c) (hn:l.length≤10) (hq:Qs 1000000 q):Qd Tryz.prog 149 [.one (.int .i64 3),.one (.row (Zc l)),.agg (aq q cs)] [.one (.row (Jm (T0 q l)))] :=
  w tt Tryz.func149 rfl [.c [] (Qr7 hl hn hq)] rfl rfl trivial
theorem Qlj {M:List Pt} {q:Rat} {c:List (List Int)} (hM:∀ p∈M,Rs p.c) (hl:M.length≤10) (hq:Qs 1000000 q) (hC:Qnv q c):Xj Tryz.prog 87 [.one (.ow 0 0)] [.blk 108 (plZ M q)] [] [.blk 108 (plB M q c (T0 q M))]:=by
  refine Z7 Tryz.func87 rfl ?_
  exact ed tt [] [0] [.c [] (Qht hq hC),.c [] (Qk5 (cs:=c) hM hl hq),.c [] (Qvt (Qte q hl))] rfl trivial
end Orr

namespace Orr
open Go Go.Proofs Orq
theorem Qj7 {x y:Int} (hx:-9223372036854775808≤x∧x≤9223372036854775807) (hy:-9223372036854775808≤y∧y≤9223372036854775807):Sc (Qq8 x y):=⟨Crv.nml _,((Qh6 hx hy).norm (by decide)).mono (by decide) (by decide)⟩
theorem Sc.pt {p:Pt} (h:Sc p.c):Qt2 4294967294 1073741824 p:=⟨h.n,h.c.mono (by decide) (by decide)⟩
end Orr

namespace Orr
open Go Go.Proofs Orq
set_option maxRecDepth 10000
def bcP (l:List Pt) (a:Tm):List Ct:=Ke (Jj a) l
abbrev brP (l:List Pt) (a:Tm):List (List LV):=Q0 (Ty (Jj a) l)
theorem Qn3 {l:List Pt} {a:Tm}:∀ x∈bcP l a,x.p∈Qb1 l:=fun x hx=>by
  match l,hx with
  |
   u::v::l',hx =>
   unfold bcP at hx
   simp only [Ke] at hx
   obtain ⟨h3,h4⟩:=J7 (Jj a) (l:=u::v::l') (Qw (u::v::l')) (u,v) ⟨by simp,by simp⟩ (Jl _ _)
   obtain ⟨m,hm,rfl⟩:=Qcn hx
   obtain ⟨h1,h2⟩:=Jl _ _ m hm
   rw [Qa8]
   exact Od h3 h4 h1 h2
theorem Qub {l:List Pt} (hl:∀ p∈l,Sc p.c) (hn:l.length≤10):BuildOk (bcP l) :=
  ⟨fun _ _ x hx=>B6 hl _ (Qn3 x hx),fun a _=>by
    have:=Qdr (Jj a) l
    have:l.length*l.length≤10*10:=Nat.mul_le_mul hn hn
    show (Ke (Jj a) l).length≤1000
    omega⟩
def Que (l:List Pt) (a:Tm):Cr:=⟨a,(Z9 (bcP l a)).map fresh,0⟩
theorem Qn9 {zs:List (List LV)} {qs l:List Pt} {x y x' y':LV} {n d:Int} (hz:IsPts 4294967294 1073741824 zs qs) (hq:qs.length≤6) (hnl:J4 [] qs=(l,0)) (hl:∀ p∈l,Sc p.c) (hn:l.length≤10) (h1:X2 x y n) (h2:X2 x' y' d) (bn:Ql n≤4294967295) (bd:Ql d≤4294967295) (ht:Qs 900 (Zu n d)) :
    Xj Tryz.prog 19 [.agg [x,y,x',y'],.one (.row zs)] [] [.one (.ow 0 0),.one (.int .i64 0)] [.blk 74 (U3 (Que l (tq (Zu n d))) (Q0 l) (brP l (tq (Zu n d))))]:=by
  have cn:=Q9w hz hq
  rw [hnl] at cn
  have co:=Q5i h1 h2 bn bd (ht.mono (by decide))
  have hv:=Q0p ht
  have hB:=Qub hl hn
  have cb:=Qrx hl hn hv
  have cg:=Qrw (T:=74) (r0:=Q0 l) (r1:=brP l (tq (Zu n d))) hv (hB.p _ hv) (hB.n _ hv)
  obtain ⟨b,l1,rfl,rfl,_⟩:=h1
  obtain ⟨b',l2,rfl,rfl,_⟩:=h2
  refine Z7 Tryz.func19 rfl ?_
  exact ed tt [] [2] [.c [] cn,.f rfl,.c [] co,.c [2] cb,.c [2] cg] rfl trivial
theorem Qeq {t:Rat} {l:List Pt} {K:Nat} {c c':Cr} {r1 r1':List (List LV)} {n:Int} (ht:Qs 900 t) (hl:∀ p∈l,Sc p.c) (hn:l.length≤10) (hc:CrOk c) (hev:0≤c.ev∧c.ev+K≤1000000000000000000) (h:Qu c.now t≤0) (hg:goF (bcP l) (brP l) t K c r1 0=some (c',r1',n)) :
    Xj Tryz.prog 20 [.one (.ow 0 0),.agg (rl t)] [.blk 74 (U3 c (Q0 l) r1)] [.one (.int .i64 n),.one (.int .i64 0)] [.blk 74 (U3 c' (Q0 l) r1')]:=by
  have cg:=Q6t (T:=74) (r0:=Q0 l) ht (Qub hl hn) (fun a c r1 ha _=>Qry (c:=c) (r1:=r1) hl hn ha) hc hev h hg
  refine Z7 Tryz.func20 rfl ?_
  exact ed tt [] [0] [.c [] (Gt (ht.mono (by decide))),.c [0] cg] rfl trivial
theorem Qer {c:Cr} {r0:List (List LV)} {a b:Pt}:Xj Tryz.prog 23 [.one (.ow 0 0)] [.blk 74 (U3 c r0 (Q0 [a,b]))] [.one (.int .i64 a.id),.one (.int .i64 b.id),.one (.bool true)] [.blk 74 (U3 c r0 (Q0 [a,b]))]:=by
  refine Z7 Tryz.func23 rfl ?_
  exact ed tt [] [0] [.f rfl,.x (l:=Q0 [a,b]) (i:=0) (xs:=Z6 a) rfl,.x (l:=Q0 [a,b]) (i:=1) (xs:=Z6 b) rfl] rfl trivial
theorem Qhp {c:Cr} {r0:List (List LV)}:Xj Tryz.prog 23 [.one (.ow 0 0)] [.blk 74 (U3 c r0 [])] [.one (.int .i64 0),.one (.int .i64 0),.one (.bool false)] [.blk 74 (U3 c r0 [])]:=by
  refine Z7 Tryz.func23 rfl ?_
  exact ed tt [] [0] [.t rfl] rfl trivial
theorem Qyf (sg:List Int→Int) (p q:Pt):Ty sg [p,q]=[p,q]∧Ke sg [p,q]=[]:=by
  have hp:Qw [p,q]=[(p,q)]:=rfl
  have h:Qy sg (p,q) (Qw [p,q])=(p,q):=by
    rw [hp,U7]
    have e:Jz sg (p,q) (p,q)=(p,q):=by rcases Mq sg (p,q) (p,q) with e | e <;> exact e
    rw [e]; rfl
  constructor
  · show [(Qy sg (p,q) (Qw [p,q])).1,(Qy sg (p,q) (Qw [p,q])).2]=[p,q]
    rw [h]
  · show Jg sg (Qy sg (p,q) (Qw [p,q])) (Qw [p,q])=[]
    rw [h,hp]
    have e:=Qe5 (sg:=sg) (s:=(p,q)) (m:=(p,q)) (ps:=[]) (by simp [Uj])
    rw [List.nil_append] at e
    rw [e]; rfl
theorem Qcl:Qd Tryz.prog 24 [] [.one (.bool true)]:=by
  have hq:Qs 900 (Zu 0 0):=⟨by decide,by decide⟩
  have ez:Zu 0 0=0:=by decide
  obtain ⟨A,hA⟩:∃ A:Pt,A=⟨Qq8 0 0,3⟩:=⟨_,rfl⟩
  obtain ⟨B,hB⟩:∃ B:Pt,B=⟨Qq8 5 1,2⟩:=⟨_,rfl⟩
  have sA:Sc A.c:=by rw [hA]; exact Qj7 (by decide) (by decide)
  have sB:Sc B.c:=by rw [hB]; exact Qj7 (by decide) (by decide)
  have hsc:∀ p∈[B,A],Sc p.c:=fun p hp=>by
    rcases List.mem_cons.1 hp with rfl | hp
    · exact sB
    · rw [List.mem_singleton.1 hp]; exact sA
  have zp:IsPts 4294967294 1073741824 (Q0 [A,B]) [A,B]:=Qpl fun p hp=>by
    rcases List.mem_cons.1 hp with rfl | hp
    · exact sA.pt
    · rw [List.mem_singleton.1 hp]; exact sB.pt
  have hnl:J4 [] [A,B]=([B,A],0):=by rw [hA,hB]; rfl
  have cn:=Qn9 zp (by show 2≤6; decide) hnl hsc (by show 2≤10; decide) Ws Ws (by decide) (by decide) hq
  rw [ez] at cn
  have hv:Va (tq 0):=Q0p (by rw [←ez]; exact hq)
  obtain ⟨e1,e2⟩:=Qyf (Jj (tq 0)) B A
  have hbr:brP [B,A] (tq 0)=Q0 [B,A]:=by unfold brP; rw [e1]
  have hbc:Que [B,A] (tq 0)=⟨tq 0,[],0⟩:=by unfold Que bcP; rw [e2]; rfl
  rw [hbr,hbc] at cn
  have hok:CrOk ⟨tq 0,[],0⟩:=⟨hv,fun w hw=>(by cases hw),by decide⟩
  have cc:=Om (T:=74) (r0:=Q0 [B,A]) (r1:=Q0 [B,A]) hok
  have ci:=Qer (c:=⟨tq 0,[],0⟩) (r0:=Q0 [B,A]) (a:=B) (b:=A)
  have i1:A.id=3:=by rw [hA]
  have i2:B.id=2:=by rw [hB]
  rw [i1,i2] at ci
  have cs1:=Qoc (x:=0) (y:=0) (by decide) (by decide)
  have cs2:=Qoc (x:=5) (y:=1) (by decide) (by decide)
  subst hA; subst hB
  refine Z7 Tryz.func24 rfl ?_
  exact en tt [.c [] cs1,.c [] cs2,.c [0] cn,.g 18 false rfl,.f rfl,.c [0] ci,.g 29 true rfl,.g 33 true rfl,.g 37 true rfl,.c [0] cc] rfl rfl trivial
end Orr

namespace Orr
open Go Go.Proofs Orq
set_option maxRecDepth 10000
end Orr

namespace Orr
open Go Go.Proofs Orq
set_option maxRecDepth 10000
theorem Q11 {l:List Nat} (hl:l.length≤1000000000):Qd Tryz.prog 211 [.one (.row (lm l)),.one (.row (lm l))] [.one (.bool true)]:=by
  have hll:(lm l).length=l.length:=by simp [lm]
  refine Z7 Tryz.func211 rfl ?_
  refine go tt [.f (decide_eq_false (fun h=>h rfl))] rfl trivial ?_
  refine lp (S:=Nat) 0 (fun L1 i=>(5,.v (.one (.int .i64 (i:Int))))::L1) (fun _=>[]) (fun i=>l.length-i) (fun i=>i≤l.length) 0 (Nat.zero_le _) rfl (fun _ _=>rfl) rfl fun i hi=>?_
  by_cases h:i<l.length
  · have hx:(lm l)[i]? = some [.int .u32 ((l[i]:Nat):Int)]:=Xf (List.getElem?_eq_getElem h)
    refine go tt [.t (decide_eq_true (by omega)),.x hx,.x hx,.f (decide_eq_false (fun h=>h rfl))] rfl (by simp [Qa]; omega) ?_
    exact rd (i+1) (by omega) h rfl
  · exact en tt [.f (decide_eq_false (by omega))] rfl rfl trivial
theorem Q1z {z:Int} (hz:Ql z≤4294967295):Qd Tryz.prog 152 [.agg (Zx z),.agg (Zx z)] [.one (.bool true)] :=
  w tt Tryz.func152 rfl [.g 10 true (decide_eq_true rfl),.c [] (Q11 (l:=Q4 z.natAbs) (by have:=X4 (x:=z.natAbs) (k:=4294967295) hz; omega))] rfl rfl trivial
theorem Q10 {p:List Int} (hp:Bd 4294967295 p) (hl:p.length≤1000000):Qd Tryz.prog 89 [pr p,pr p] [.one (.bool true)]:=by
  have hpl:(p.map Zx).length=p.length:=by simp
  show Qd Tryz.prog 89 [.one (.row (p.map Zx)),.one (.row (p.map Zx))] _
  refine Z7 Tryz.func89 rfl ?_
  refine go tt [.f (decide_eq_false (fun h=>h rfl))] rfl trivial ?_
  refine lp (S:=Nat) 0 (fun L1 i=>(13,.v (.one (.int .i64 (i:Int))))::L1) (fun _=>[]) (fun i=>p.length-i) (fun i=>i≤p.length) 0 (Nat.zero_le _) rfl (fun _ _=>rfl) rfl fun i hi=>?_
  by_cases h:i<p.length
  · have hx:=Yc (Xs h)
    refine go tt [.t (decide_eq_true (by omega)),.x hx,.x hx,.c [] (Q1z (Qq hp i)),.f rfl] rfl (by simp [Qa]; omega) ?_
    exact rd (i+1) (by omega) h rfl
  · exact en tt [.f (decide_eq_false (by omega))] rfl rfl trivial
theorem Qu3 {l:List Ct} (hl:∀ c∈l,Cp c.p) (hn:l.length≤1000000):Qd Tryz.prog 36 [.one (.row (Zy l)),.one (.row (Zy l))] [.one (.bool true)]:=by
  have hcl:=Fq l
  refine Z7 Tryz.func36 rfl ?_
  refine go tt [.f (decide_eq_false (fun h=>h rfl))] rfl trivial ?_
  refine lp (S:=Nat) 0 (fun L1 i=>(13,.v (.one (.int .i64 (i:Int))))::L1) (fun _=>[]) (fun i=>l.length-i) (fun i=>i≤l.length) 0 (Nat.zero_le _) rfl (fun _ _=>rfl) rfl fun i hi=>?_
  by_cases h:i<l.length
  · obtain ⟨c,hc⟩:∃ c,l[i]? = some c:=⟨_,List.getElem?_eq_getElem h⟩
    have hx:=Lm hc
    have hp:=hl c (List.mem_of_getElem? hc)
    refine go tt [.t (decide_eq_true (by omega)),.x hx,.x hx,.g 27 false (by simp),.x hx,.x hx,.g 40 false (by simp),.x hx,.x hx,.c [] (Q10 (Qc hp.b (by decide)) (by have:=hp.l; omega)),.f rfl] rfl (by simp [Qa]; omega) ?_
    exact rd (i+1) (by omega) h rfl
  · exact en tt [.f (decide_eq_false (by omega))] rfl rfl trivial
end Orr

namespace Orr
open Go Go.Proofs
set_option maxRecDepth 10000
theorem Cs.up {s n s' n':Nat} {k:Crv} (h:Cs s n k) (hs:s≤s') (hn:n≤n'):Cs s' n' k:=⟨Qc h.x hs,Qc h.y hs,Nat.le_trans h.d hs,Nat.le_trans h.lx hn,Nat.le_trans h.ly hn⟩
end Orr

namespace Orr
open Go Go.Proofs Orq
set_option maxRecDepth 10000
end Orr

namespace Orr
open Go Go.Proofs Orq
set_option maxRecDepth 10000
theorem Qsh {l m:List Pt} (h:l.Perm m) (hd:G8 l):G8 m:=(h.pairwise_iff (fun h=>fun e=>h e.symm)).1 hd
end Orr

namespace Orr
open Go Go.Proofs Orq
set_option maxRecDepth 10000
theorem Qwv {Bc:Tm→List Ct} {q:Rat} {E:List Tm} (h:Evs Bc q (tq q) E):E=[]:=by
  cases h with
  | nil h=>rfl
  | cons he h1 h2=>exact absurd h1 h2
theorem Q0i {t q:Rat}:Qu (tq t) q=1↔q<t:=by
  rw [Ro]; rcases J0 t q with ⟨e,h⟩ | ⟨e,h⟩ | ⟨e,h⟩ <;> grind
theorem Q0h {t q:Rat}:Qu (tq t) q=-1↔t<q:=by
  rw [Ro]; rcases J0 t q with ⟨e,h⟩ | ⟨e,h⟩ | ⟨e,h⟩ <;> grind
theorem Qrb {s t:Rat}:Yw (tq s) (tq t)↔s<t:=by
  constructor
  · rintro ⟨q,h1,h2⟩
    have:=Q0h.1 h1; have:=Q0i.1 h2; grind
  · intro h
    exact ⟨(s+t) / 2,Q0h.2 (by grind),Q0i.2 (by grind)⟩
theorem Qz4 (n d:Int):(-100:Rat)≤Wz n d:=by
  have h1:Up n 61=n % 61:=rfl
  have h2:Up d 6=d % 6:=rfl
  unfold Wz Zu
  rw [if_neg (by omega),←Ft]
  have e:(0:Rat)<((1+Up d 6:Int):Rat):=by
    have:((0:Int):Rat)<((1+Up d 6:Int):Rat):=Rat.intCast_lt_intCast.2 (by omega)
    exact this
  obtain ⟨a,ha⟩:∃ a,a=Up n 61-30:=⟨_,rfl⟩
  obtain ⟨b,hb⟩:∃ b,b=1+Up d 6:=⟨_,rfl⟩
  have h3:-30≤a:=by omega
  have h4:1≤b:=by omega
  rw [←ha]
  rw [←hb] at e ⊢
  refine Rat.not_lt.1 fun h=>?_
  have h5:=Rat.mul_le_mul_of_nonneg_right (Rat.le_of_lt h) (Rat.le_of_lt e)
  have h6:(a:Rat) / (b:Rat)*(b:Rat)=(a:Rat):=by grind
  rw [h6] at h5
  have h7:((a:Int):Rat)≤((-100*b:Int):Rat):=by rw [Rat.intCast_mul]; exact h5
  have:=Rat.intCast_le_intCast.1 h7
  omega
end Orr

namespace Orr
open Go Go.Proofs Orq
set_option maxRecDepth 10000
theorem Qho {t:Rat} {l:List Pt} {c:Cr} {r1:List (List LV)} (ht:Qs 900 t) (hc:Va c.now) (h:0<Qu c.now t) :
    Xj Tryz.prog 20 [.one (.ow 0 0),.agg (rl t)] [.blk 74 (U3 c (Q0 l) r1)] [.one (.int .i64 0),.one (.int .i64 8)] [.blk 74 (U3 c (Q0 l) r1)]:=by
  have cg:=Qk9 (T:=74) (r0:=Q0 l) (r1:=r1) (ht.mono (by decide)) hc h
  refine Z7 Tryz.func20 rfl ?_
  exact ed tt [] [0] [.c [] (Gt (ht.mono (by decide))),.c [0] cg] rfl trivial
theorem Qrz {c:Cr} {r0:List (List LV)} {r1:List (List LV)}:Xj Tryz.prog 31 [.one (.ow 0 0)] [.blk 74 (U3 c r0 r1)] [.one (.ow 1 0)] [.blk 74 (U3 c r0 r1),.blk 74 (U3 c r0 r1)]:=by
  refine Z7 Tryz.func31 rfl ?_
  exact ed tt [] [0,1] [] rfl trivial
end Orr

namespace Orr
open Go Go.Proofs Orq
set_option maxRecDepth 10000
theorem Qr2 {zs:List RawPt} {n d:Int} {O M:List Pt} {e:Nat} {c:List (List Int)} (hz:∀ z∈zs,z.Ok) (hO:Eo 4 20 zs=O) (he:e≤O.length) (hd:G8 (Ye O e)) (hm:e<O.length→¬G8 (Ye O (e+1))) (hn:-9223372036854775808≤n∧n≤9223372036854775807) (hdd:-9223372036854775808≤d∧d≤9223372036854775807) (hC:Qnv (Wz n d) c) (hM:M=Z1 Yt (Nb O e)) :
    Xj Tryz.prog 30 [.one (.row (Do zs)),.one (.int .i64 n),.one (.int .i64 d)] [] [.one (.ow 0 0),.one (.ow 1 0),.one (.bool true)] [.blk 74 (U3 (Que M (tq (Wz n d))) (Q0 M) (brP M (tq (Wz n d)))),.blk 108 (plB M (Wz n d) c (T0 (Wz n d) M))]:=by
  have hO4:O.length≤4:=by rw [←hO]; exact S6 _ _ (Nat.zero_le _)
  have hid:∀ p∈O,-9223372036854775808≤p.id∧p.id≤9223372036854775807:=fun p hp=>by
    rw [←hO] at hp; have:=Q31 p hp; omega
  have hlit:∀ p∈O,Qrl p:=fun p hp=>by rw [←hO] at hp; exact Qdh (by decide) p hp
  have hcl:(Ye O e).length=e:=Cf he
  have hcn:(Nb O e).length=e:=by rw [Ai,hcl]
  have hMl:M.length=e:=by rw [hM,Vj,hcn]
  have hok:∀ p∈M,Nml p.c∧Cs 10 3 p.c:=fun p hp=>by rw [hM,Rl] at hp; exact Qoz hlit e p hp
  have hq:=Eu n d
  obtain ⟨q,hqq⟩:∃ q,q=Wz n d:=⟨_,rfl⟩
  have cb:=Ib (l:=Nb O e) (by omega)
  rw [←hM] at cb
  rw [←hqq] at hq hC ⊢
  have csm:=Qob hn hdd
  have c2:=Qlj (M:=M) (q:=q) (c:=c) (fun p hp=>⟨(hok p hp).1,(hok p hp).2.mono (by decide) (by decide)⟩) (by omega) (hq.mono (by decide)) hC
  have ctr:=Qu7 (q:=q) (hq.mono (by decide))
  have hnl:=Qs3 (qs:=Nb O e) (by omega) (Qcm hd)
  have hnl2:J4 [] (Nb O e)=(M,0):=by rw [hM,←hnl.2,←hnl.1]
  have cs:=Qn9 (zs:=Q0 (Ye O e)) (qs:=Nb O e) (l:=M) (n:=q.num) (d:=(q.den:Int)) (Qde fun p hp=>(Qh7 hlit e p hp).mono (by decide) (by decide)) (by omega) hnl2 (fun p hp=>⟨(hok p hp).1,(hok p hp).2.mono (by decide) (by decide)⟩) (by omega) (Qe q.num) (Qe (q.den:Int)) (Nat.le_trans hq.1 (by decide)) (Nat.le_trans hq.2 (by decide)) (by rw [Tq]; exact hq.mono (by decide))
  rw [Tq] at cs
  rw [show Zu (Up n 61-30) (1+Up d 6)=q from hqq.symm] at csm
  have cp:=Qr0 hz
  rw [hO] at cp
  refine Z7 Tryz.func30 rfl ?_
  refine go tt [.c [0,1] cp] rfl trivial ?_
  have h0l:=Ww O
  refine ct 2 (S:=Unit) (fun _=>[(1,.v (.one (.int .i64 n))),(2,.v (.one (.int .i64 d))),(9,.v (.one (.row (Q0 (Ye O e))))),(10,.v (.one (.row (Zc (Nb O e)))))]) (fun _=>[.gone,.gone]) (fun _=>True) rfl ?_ (fun _ _=>?_)
  · refine lp (S:=Nat) 2 (fun L1 i=>(23,.v (.one (.int .i64 (i:Int))))::(9,.v (.one (.orow 0 5 none)))::(10,.v (.one (.orow 1 7 none)))::L1) (fun i=>[.row false 35 5 (Q0 (Mp O i)),.row false 112 7 (Zc ((Mp O i).map Pt.nrm))]) (fun i=>O.length-i) (fun i=>i≤O.length∧i≤e∧G8 (Ye O i)) 0 ⟨Nat.zero_le _,Nat.zero_le _,List.Pairwise.nil⟩ rfl (fun _ _=>rfl) (by rw [Qx1]; rfl) fun i ⟨hi,hie,hdi⟩=>?_
    have hl1:(Q0 (Mp O (i+1))).length=O.length:=by rw [Ww,Iu]
    have hl0:(Q0 (Mp O i)).length=O.length:=by rw [Ww,Iu]
    have hr0:(Zc ((Mp O i).map Pt.nrm)).length=O.length:=by rw [Y6,List.length_map,Iu]
    have hr1:(Zc ((Mp O (i+1)).map Pt.nrm)).length=O.length:=by rw [Y6,List.length_map,Iu]
    by_cases h:i<O.length
    · obtain ⟨p,hp⟩:∃ p,O[i]? = some p:=⟨_,List.getElem?_eq_getElem h⟩
      have hx:=Q3h hp
      have hxn:((Mp O i).map Pt.nrm)[i]? = some p.nrm:=by rw [List.getElem?_map,hx]; rfl
      have cw:=B9 (v:=p.id) (n:=5) (hid p (List.mem_of_getElem? hp)) (by decide)
      rw [show Up p.id 5=p.m5.id from rfl] at cw
      refine go tt [.t (decide_eq_true (by omega)),.i i,.x (Ut hx),.c [] cw,.i i,.x (Ut hx),.c [] cw,.i i,.x (Ut hx),.i i,.x (Xg hxn)] rfl (by simp [Qa,hl0,hr0]; omega) ?_
      rw [Qgb hp,Qcb hp]
      refine lp (S:=Nat) 2 (fun L1 j=>(12,.v (.one (.int .i64 (j:Int))))::(9,.v (.one (.orow 0 5 none)))::(10,.v (.one (.orow 1 7 none)))::L1) (fun _=>[.row false 35 5 (Q0 (Mp O (i+1))),.row false 112 7 (Zc ((Mp O (i+1)).map Pt.nrm))]) (fun j=>i-j) (fun j=>j≤i∧∀ k x,k<j→O[k]? = some x→x.m5.id≠p.m5.id) 0 ⟨Nat.zero_le _,fun k x h=>absurd h (Nat.not_lt_zero _)⟩ rfl (fun _ _=>rfl) rfl fun j ⟨hj,hjn⟩=>?_
      by_cases hji:j<i
      · obtain ⟨x,hxj⟩:∃ x,O[j]? = some x:=⟨_,List.getElem?_eq_getElem (by omega)⟩
        have g1:=Qp2 (i:=i+1) (show j<i+1 by omega) hxj
        have g2:=Qp2 (i:=i+1) (show i<i+1 by omega) hp
        by_cases hq:x.m5.id=p.m5.id
        · have hnd:¬G8 (Ye O (i+1)):=fun hD=>by
            have:=List.pairwise_iff_getElem.1 hD j i (by rw [Cf (by omega)]; omega) (by rw [Cf (by omega)]; omega) hji
            refine this ?_
            have e1:(Ye O (i+1))[j]? = some x.m5:=by unfold Ye; rw [List.getElem?_map,List.getElem?_take,if_pos (by omega),hxj]; rfl
            have e2:(Ye O (i+1))[i]? = some p.m5:=by unfold Ye; rw [List.getElem?_map,List.getElem?_take,if_pos (by omega),hp]; rfl
            rw [(List.getElem?_eq_some_iff.1 e1).2,(List.getElem?_eq_some_iff.1 e2).2]; exact hq
          have hie2:i=e:=by
            rcases Nat.lt_or_ge i e with h3 | h3
            · exact absurd (Q2s hd h3) hnd
            · omega
          have c1:(Q0 (Mp O (i+1))).take i=Q0 (Ye O e):=by rw [Qtc (by omega) (by omega),hie2]
          have c2:(Zc ((Mp O (i+1)).map Pt.nrm)).take i=Zc (Nb O e):=by rw [Qm8 (by omega) (by omega),hie2]
          refine go tt [.t (decide_eq_true (by omega)),.i j,.x (Ut g1),.i i,.x (Ut g2),.t (decide_eq_true hq),.i i,.i i] rfl (by simp [Qa,hl1,hr1]; omega) ?_
          refine pz 0 rfl rfl ?_
          refine pz 1 rfl rfl ?_
          exact go tt [.t (decide_eq_true (by omega))] rfl trivial (rc () trivial (by rw [c1,c2]; rfl))
        · refine go tt [.t (decide_eq_true (by omega)),.i j,.x (Ut g1),.i i,.x (Ut g2),.f (decide_eq_false hq)] rfl (by simp [Qa,hl1]; omega) ?_
          exact rd (j+1) (by omega) ⟨hji,fun k y hk hy=>by
            rcases Nat.lt_or_ge k j with h3 | h3
            · exact hjn k y h3 hy
            · have:k=j:=by omega
              subst this; rw [hxj] at hy; injection hy with hy; rw [←hy]; exact hq⟩ rfl
      · have hji2:j=i:=by omega
        rw [hji2] at hjn
        have hD:=Qsi hp hdi hjn
        have hle:i+1≤e:=by
          rcases Nat.lt_or_ge i e with h3 | h3
          · exact h3
          · have:i=e:=by omega
            rw [this] at hD h
            exact absurd hD (hm h)
        refine go tt [.f (decide_eq_false (by omega)),.f (decide_eq_false (by omega))] rfl (by simp [Qa]; omega) ?_
        exact rd (i+1) (by omega) ⟨h,hle,hD⟩ rfl
    · have hiO:i=O.length:=by omega
      have hie2:i=e:=by omega
      have c1:Q0 (Mp O i)=Q0 (Ye O e):=by rw [←hie2,hiO,Qi5]
      have c2:Zc ((Mp O i).map Pt.nrm)=Zc (Nb O e):=by rw [←hie2,hiO,Qi5]; rfl
      refine go tt [] rfl trivial ?_
      rw [c1,c2]
      refine pz 0 rfl rfl ?_
      refine pz 1 rfl rfl ?_
      exact go tt [.f (decide_eq_false (by omega))] rfl trivial (rc () trivial rfl)
  · exact ed tt [] [3,2] [.c [] cb,.c [] csm,.c [2] c2,.c [] ctr,.c [3] cs,.g 96 true rfl] rfl trivial
end Orr

namespace Orr
open Go Go.Proofs Orq
set_option maxRecDepth 10000
theorem Qug {c c':Cr} {l l' m:List Pt} {a:Tm} {r:List (List LV)} (_hm:m.length≤1000000) (hr:r=brP m a):Xj Tryz.prog 35 [.one (.ow 0 0),.one (.ow 1 0)] [.blk 74 (U3 c (Q0 l) r),.blk 74 (U3 c' (Q0 l') r)] [.one (.bool true)] [.blk 74 (U3 c (Q0 l) r),.blk 74 (U3 c' (Q0 l') r)]:=by
  by_cases h2:m.length<2
  · have e:r=[]:=by rw [hr]; show Q0 (Ty (Jj a) m)=[]; rw [(Ej _ h2).1]; rfl
    rw [e]
    refine Z7 Tryz.func35 rfl ?_
    exact ed tt [] [0,1] [.c [0] Qhp,.c [1] Qhp,.g 26 true rfl,.g 31 true rfl] rfl trivial
  · obtain ⟨u,v,e⟩:∃ u v,r=Q0 [u,v]:=by
      obtain ⟨x,y,n,hm⟩:=Qg3 h2
      rw [hr,hm]; exact ⟨_,_,rfl⟩
    rw [e]
    refine Z7 Tryz.func35 rfl ?_
    exact ed tt [] [0,1] [.c [0] Qer,.c [1] Qer,.g 26 true (decide_eq_true rfl),.g 31 true (decide_eq_true rfl)] rfl trivial
theorem Qt5 (l:List Pt):(Qb1 l).length=l.length*(l.length*(l.length*l.length)):=by
  have key:∀ (α:Type) (f:Pt→List α) (n:Nat) (m:List Pt),(∀ x,(f x).length=n)→(m.flatMap f).length=m.length*n:=by
    intro α f n m h
    induction m with
    | nil=>simp
    | cons x m ih=>rw [List.flatMap_cons,List.length_append,ih,h,List.length_cons,Nat.succ_mul]; omega
  unfold Qb1
  exact key _ _ _ _ fun a=>key _ _ _ _ fun b=>key _ _ _ _ fun c=>List.length_map ..
theorem Q1d {l:List Pt} (h:l.length≤10):(Qb1 l).length≤1000000:=by
  rw [Qt5]
  have:l.length*(l.length*(l.length*l.length))≤10*(10*(10*10)):=Nat.mul_le_mul h (Nat.mul_le_mul h (Nat.mul_le_mul h h))
  omega
end Orr

namespace Orr
open Go Go.Proofs Orq
set_option maxRecDepth 10000
set_option maxHeartbeats 8000000 in
theorem O6 {zs:List RawPt} {cs:List Int} (hz:∀ z∈zs,z.Ok) (hcs:∀ z∈cs,-9223372036854775808≤z∧z≤9223372036854775807):Qd Tryz.prog 5 [.one (.row (Do zs)),.one (.row (idl cs))] [.one (.bool true)]:=by
  obtain ⟨e,he,hd,hm⟩:=Q7e (Eo 4 20 zs)
  have hq0:=Eu 25 0
  have cb:=Qr2 (n:=25) (d:=0) hz rfl he hd hm (by decide) (by decide) (Zaw (hq0.mono (by decide))) rfl
  obtain ⟨O,hO⟩:∃ O,O=Eo 4 20 zs:=⟨_,rfl⟩
  have hO4:O.length≤4:=by rw [hO]; exact S6 _ _ (Nat.zero_le _)
  have hlit:∀ p∈O,Qrl p:=fun p hp=>by rw [hO] at hp; exact Qdh (by decide) p hp
  rw [←hO] at cb he hd
  obtain ⟨M,hM⟩:∃ M,M=Z1 Yt (Nb O e):=⟨_,rfl⟩
  rw [←hM] at cb
  have hq12:Wz 25 0≤((12:Int):Rat):=by decide
  obtain ⟨q,hq⟩:∃ q,q=Wz 25 0:=⟨_,rfl⟩
  rw [←hq] at cb hq0 hq12
  have hcn:(Nb O e).length=e:=by rw [Ai,Cf he]
  have hMl:M.length=e:=by rw [hM,Vj,hcn]
  have hMd:G8 M:=by rw [hM]; exact Qsh (Qnh _).symm (Qcm hd)
  have hsc:∀ p∈M,Sc p.c:=fun p hp=>by
    rw [hM,Rl] at hp
    have:=Qoz hlit e p hp
    exact ⟨this.1,this.2.mono (by decide) (by decide)⟩
  have hln:M.length≤10:=by omega
  have hv:Va (tq q):=Q0p (hq0.mono (by decide))
  have S:Stab (bcP M) (brP M):=Za5 hsc hln hMd
  obtain ⟨c0,hc0⟩:∃ c0,c0=Que M (tq q):=⟨_,rfl⟩
  have hst:KSt (bcP M) (brP M) c0 (brP M (tq q)):=by rw [hc0]; exact Q6o S hv
  have hn0:c0.now=tq q:=by rw [hc0]; rfl
  have hev0:c0.ev=0:=by rw [hc0]; rfl
  rw [←hc0] at cb
  have hal:(Qb1 M).length≤1000000:=by
    exact Q1d (by omega)
  have adv:=fun {t:Rat} (ht:Qs 900 t) {c:Cr} {r:List (List LV)} (hS:KSt (bcP M) (brP M) c r) (h:Qu c.now t≤0)=>Q6h S (B6 hsc) (fun a _=>Qn3) hal ht hS h
  have from0:∀ {t:Rat},Qs 900 t→q≤t→∃ E,Evs (bcP M) t (tq q) E∧E.length≤67000000:=fun {t} ht h=>by
    obtain ⟨_,_,E,_,_,_,_,_,h1,h2⟩:=adv ht hst (by rw [hn0,Ro]; exact W6.2 h)
    rw [hn0] at h2
    exact ⟨E,h2,h1⟩
  obtain ⟨T,hT⟩:∃ T,T=((12:Int):Rat):=⟨_,rfl⟩
  have hTq:Qs 900 T:=by rw [hT]; exact ⟨by decide,by decide⟩
  rw [←hT] at hq12
  obtain ⟨K,c',E,hK,hg,hnow,hS',hev,hEl,hE⟩:=adv hTq hst (by rw [hn0,Ro]; exact W6.2 hq12)
  rw [hn0] at hE
  rw [hev0] at hev
  have cadv:=Qeq (l:=M) (K:=K) hTq hsc hln hst.inv.ok (by rw [hev0]; omega) (by rw [hn0,Ro]; exact W6.2 hq12) hg
  have co12:=Np (n:=12) (by decide)
  rw [←hT] at co12
  have co100:=Np (n:=-100) (by decide)
  have ct12:=Qu7 (q:=T) (hTq.mono (by decide))
  obtain ⟨L0,hL0⟩:∃ L0,L0=((-100:Int):Rat):=⟨_,rfl⟩
  rw [←hL0] at co100
  have hL0q:Qs 900 L0:=by rw [hL0]; exact ⟨by decide,by decide⟩
  have hil:(idl cs).length=cs.length:=by simp
  refine Z7 Tryz.func5 rfl (ln 1 rfl rfl fun hcl=>?_)
  rw [hil] at hcl
  refine go tt [.c [0,1] cb,.f rfl,.c [0,2] Qrz,.f rfl,.c [] co12,.c [] ct12,.c [0] cadv,.c [] co100] rfl trivial ?_
  refine lp (S:=Nat×Cr×List (List LV)×Nat×Rat) 5 (fun L1 s=>(14,.v (.one (.int .i64 (s.1:Int))))::(12,.v (.one (.int .i64 (s.2.2.2.1:Int))))::L1) (fun s=>[.blk 74 (U3 c' (Q0 M) (brP M (tq T))),.blk 108 (plB M q [[-q.num,(q.den:Int)],[1]] (T0 q M)),.blk 74 (U3 s.2.1 (Q0 M) s.2.2.1),.blk 49 (fr T),.blk 49 (fr s.2.2.2.2)]) (fun s=>4-s.1) (fun s=>(s.1≤4∧s.1≤cs.length)∧KSt (bcP M) (brP M) s.2.1 s.2.2.1∧s.2.1.ev=(s.2.2.2.1:Int)∧s.2.2.2.1≤67000000∧Qs 900 s.2.2.2.2∧∃ (cur:Rat) (F:List Tm),s.2.1.now=tq cur∧Qs 900 cur∧q≤cur∧cur≤T∧(s.2.2.2.2=L0∨s.2.2.2.2=cur)∧Evs (bcP M) cur (tq q) F∧s.2.2.2.1=F.length) (0,c0,brP M (tq q),0,L0) ⟨⟨by show 0≤4; decide,Nat.zero_le _⟩,hst,hev0,by show 0≤67000000; decide,hL0q,q,[],hn0,hq0.mono (by decide),Rat.le_refl,hq12,.inl rfl,by
      obtain ⟨F,h1,_⟩:=from0 (hq0.mono (by decide)) (Rat.le_refl (a:=q))
      rw [Qwv h1] at h1; exact h1,rfl⟩ rfl (fun _ _=>rfl) rfl fun ⟨i,c,r,m,la⟩ ⟨⟨hi1,hi2⟩,hS,hce,hm7,hlq,cur,F,hcur,hcq,hqc,hcT,hla,hF,hmF⟩=>?_
  dsimp only at hi1 hi2 hS hce hm7 hlq hcur hla hmF ⊢
  have hvc:Va (tq cur):=Q0p hcq
  by_cases hr:i<cs.length∧i<4
  · obtain ⟨z,hzi⟩:∃ z,cs[i]? = some z:=⟨_,List.getElem?_eq_getElem hr.1⟩
    have hzb:=hcs z (List.mem_of_getElem? hzi)
    have csm:=Qob (n:=z) (d:=(i:Int)) hzb (by omega)
    obtain ⟨t,ht⟩:∃ t,t=Wz z i:=⟨_,rfl⟩
    have htq:Qs 900 t:=by rw [ht]; exact (Eu z i).mono (by decide)
    have htl:L0≤t:=by rw [ht,hL0]; exact Qz4 z i
    rw [show Zu (Up z 61-30) (1+Up (i:Int) 6)=t from ht.symm] at csm
    have cc1:=Qew (a:=t) (b:=T) (htq.mono (by decide)) (hTq.mono (by decide))
    have cc2:=Qew (a:=t) (b:=la) (htq.mono (by decide)) (hlq.mono (by decide))
    have ctt:=Qu7 (q:=t) (htq.mono (by decide))
    by_cases h12:0<Zs t T
    · refine go tt [.g 45 true (decide_eq_true (by omega)),.t (decide_eq_true (by omega)),.x (Qfk hzi),.c [] csm,.c [] cc1,.t (decide_eq_true h12)] rfl (by simp [Qa]; omega) ?_
      exact rd (i+1,c,r,m,la) (by dsimp only; omega) ⟨⟨hr.2,hr.1⟩,hS,hce,hm7,hlq,cur,F,hcur,hcq,hqc,hcT,hla,hF,hmF⟩ rfl
    have htT:t≤T:=by
      rcases J0 t T with h | h | h
      · omega
      · exact h.2 ▸ Rat.le_refl
      · exact Rat.le_of_lt h.2
    by_cases hp:cur≤t
    · obtain ⟨K1,c1,E1,k1,k2,k3,k4,k5,k6,k7⟩:=adv htq hS (by rw [hcur,Ro]; exact W6.2 hp)
      rw [hcur] at k7
      have hqt:q≤t:=Rat.le_trans hqc hp
      obtain ⟨F2,f1,f2⟩:=from0 htq hqt
      have hnt:¬Yw (tq cur) (tq q):=fun h=>absurd (Qrb.1 h) (Rat.not_lt.2 hqc)
      have hcat:=Qpa S hp hvc hF hv hnt k7 f1
      have ca:=Qeq (l:=M) (K:=K1) htq hsc hln hS.inv.ok (by rw [hce]; omega) (by rw [hcur,Ro]; exact W6.2 hp) k2
      have hnl:¬Zs t la<0:=fun h=>by
        have h:=Kq.1 h
        rcases hla with h2 | h2
        · rw [h2] at h; exact absurd htl (Rat.not_le.2 h)
        · rw [h2] at h; exact absurd hp (Rat.not_le.2 h)
      refine go tt [.g 45 true (decide_eq_true (by omega)),.t (decide_eq_true (by omega)),.x (Qfk hzi),.c [] csm,.c [] cc1,.f (decide_eq_false h12),.c [] ctt,.c [2] ca,.t rfl,.c [] cc2,.f (decide_eq_false hnl)] rfl (by simp [Qa]; omega) ?_
      exact rd (i+1,c1,brP M (tq t),m+E1.length,t) (by dsimp only; omega) ⟨⟨hr.2,hr.1⟩,k4,by dsimp only; rw [k5,hce]; omega,by dsimp only; omega,htq,t,F2,k3,htq,hqt,htT,.inr rfl,f1,by dsimp only; omega⟩ rfl
    · have hpl:t<cur:=Rat.not_le.1 hp
      have ca:=Qho (l:=M) (r1:=r) htq hS.inv.ok.n (by rw [hcur,Ro]; exact W5.2 hpl)
      refine go tt [.g 45 true (decide_eq_true (by omega)),.t (decide_eq_true (by omega)),.x (Qfk hzi),.c [] csm,.c [] cc1,.f (decide_eq_false h12),.c [] ctt,.c [2] ca,.f rfl,.g 80 false rfl,.f rfl] rfl (by simp [Qa]; omega) ?_
      exact rd (i+1,c,r,m,la) (by dsimp only; omega) ⟨⟨hr.2,hr.1⟩,hS,hce,hm7,hlq,cur,F,hcur,hcq,hqc,hcT,hla,hF,hmF⟩ rfl
  obtain ⟨K2,c2,E2,k1,k2,k3,k4,k5,k6,k7⟩:=adv hTq hS (by rw [hcur,Ro]; exact W6.2 hcT)
  rw [hcur] at k7
  have hnt:¬Yw (tq cur) (tq q):=fun h=>absurd (Qrb.1 h) (Rat.not_lt.2 hqc)
  have hcat:=Qpa S hcT hvc hF hv hnt k7 hE
  have ca:=Qeq (l:=M) (K:=K2) hTq hsc hln hS.inv.ok (by rw [hce]; omega) (by rw [hcur,Ro]; exact W6.2 hcT) k2
  obtain ⟨s,hs⟩:∃ s,s=brP M (tq T):=⟨_,rfl⟩
  have hcs1:Z9 (c'.l.map (·.c))=Z9 (c2.l.map (·.c)):=by rw [hS'.cs,k4.cs,hnow,k3]
  rw [←hs] at ca ⊢
  have cal:=Qug (c:=c') (c':=c2) (l:=M) (l':=M) (m:=M) (a:=tq T) (r:=s) (by omega) hs
  have cC1:=Om (T:=74) (c:=c') (r0:=Q0 M) (r1:=s) hS'.inv.ok
  have cC2:=Om (T:=74) (c:=c2) (r0:=Q0 M) (r1:=s) k4.inv.ok
  rw [hcs1] at cC1
  have csc:=Qu3 (l:=Z9 (c2.l.map (·.c))) (fun x hx=>by
    obtain ⟨w,hw,rfl⟩:=List.mem_map.1 (Mz hx)
    exact (k4.inv.ok.l w hw).p) (by rw [Fi,List.length_map]; have:=k4.inv.ok.k; omega)
  have hes:((m:Nat):Int)+((E2.length:Nat):Int)=((E.length:Nat):Int):=by omega
  have hev2:c'.ev=c2.ev:=by rw [hev,k5,hce]; omega
  by_cases h:i<cs.length
  · exact en tt [.g 45 true (decide_eq_true (by omega)),.f (decide_eq_false (by omega)),.c [] ct12,.c [2] ca,.g 93 true rfl,.g 97 true rfl,.g 104 true (decide_eq_true hes),.lo,.c [0] Mf,.lo,.c [2] Mf,.g 115 true (decide_eq_true hev2),.lo,.c [0,2] cal,.g 120 true rfl,.lo,.c [0] cC1,.lo,.c [2] cC2,.c [] csc,.g 131 true rfl,.c [] Qcl] rfl rfl (by simp [Qa]; omega)
  · exact en tt [.g 45 false (decide_eq_false (by omega)),.f rfl,.c [] ct12,.c [2] ca,.g 93 true rfl,.g 97 true rfl,.g 104 true (decide_eq_true hes),.lo,.c [0] Mf,.lo,.c [2] Mf,.g 115 true (decide_eq_true hev2),.lo,.c [0,2] cal,.g 120 true rfl,.lo,.c [0] cC1,.lo,.c [2] cC2,.c [] csc,.g 131 true rfl,.c [] Qcl] rfl rfl (by simp [Qa]; omega)
end Orr

namespace Orr
open Go Go.Proofs
variable {H:Type} {enc:TypeId×Value→H} {w:World} {base:Nat} {spare:Nat→Bool} {held:Bool}
theorem Fx {α:Type} {l:List α} {n i:Nat} (h:l.length=n) (hi:i<n):∃ x,l[i]? = some x:=⟨l[i]'(by omega),List.getElem?_eq_getElem (by omega)⟩
end Orr

namespace Orr
open Go Go.Proofs Go.ChangeShapes Go.WideShapes Go.ChangeAt Go.RowKit Go.WideElems
theorem Q2i {w:World} {a:Addr} {v:Value} (h:w.cell? a=some v):a.spot=none∧a.block<w.heap.size:=by
  simp only [World.cell?] at h
  split at h
  · rename_i c t fr hc
    split at h
    · cases h
    · rename_i hs
      refine ⟨by cases e:a.spot with | none=>rfl | some _=>simp [e] at hs,?_⟩
      exact (Array.getElem?_eq_some_iff.1 hc).1
  · cases h
theorem Q1c {a:Addr} (h:a.spot=none) (n m:Nat):(a.add n).add m=⟨a.block,a.off+n+m,none⟩:=by
  obtain ⟨b,o,s⟩:=a
  simp only at h
  subst h
  simp only [Addr.add]
  split
  · rename_i h; subst h
    split
    · rename_i h; subst h; simp
    · simp
  · split
    · rename_i h; subst h; simp
    · simp
def fr0 (w:World):Fr:=⟨fun b=>b<w.heap.size,fun _=>False,w,fun _=>False,fun _=>none⟩
theorem hs0 (w:World):HS (fr0 w) (ob []) (nw []) (fun _=>none) (fun _=>False) w where
  size:=Nat.le_refl _
  kept:=fun b hb=>⟨hb,rfl,Iff.rfl⟩
  ids:=fun i h=>h.elim
  nj:=fun i h=>by rw [Qf3] at h; cases h
  io:=⟨rfl,rfl⟩
  blk:=fun i=>by rw [Qf3]; trivial
  nk:=fun i g c m h _=>by rw [Qf3] at h; cases h
  inj:=fun i j g c m c' m' h _ _ _=>by rw [Qf3] at h; cases h
  mlt:=fun b h=>h.elim
  m0:=fun b _ h=>h.elim
  un:=fun i _=>⟨rfl,rfl⟩
  uj:=fun i _ h=>h.elim
theorem Qq4 {w w':World} {bl:Nat→OB} {U:Nat→Prop} {E:Km} {M:Nat→Prop} (h:HS (fr0 w) bl U E M w') {p:MemPlace} (hp:p.block<w.heap.size):w.sameAt w' p:=by
  cases p with
  | cell b off=>simp only [World.sameAt,World.cell?]; rw [(h.kept b hp).2.1]; rfl
  | map b=>exact (h.kept b hp).2.1
theorem Q27 {w w':World} {bl:Nat→OB} {U:Nat→Prop} {E:Km} {M:Nat→Prop} (h:HS (fr0 w) bl U E M w') (may:MemPlace→Prop):w.keptBut w' may:=by
  refine ⟨h.io.1,h.io.2,fun i hi=>?_⟩
  have e:w'.heap[i]? = w.heap[i]? := (h.kept i hi).2.1
  rw [e]
  cases w.heap[i]? with
  | none=>rfl
  | some o=>cases o <;> simp
end Orr

namespace Orr
open Go Go.Proofs Go.ChangeShapes Go.WideShapes Go.ChangeAt Go.RowKit Go.WideElems
theorem Mc {H:Type} {P:Program} {e:TypeId}:∀ {l:List (DataW H)} {i:Nat} {d:DataW H},l[i]? = some d→∀ n∈d.weights P e,n∈DataW.weightsAll P e l
  | [],i,d,h,_,_=>by simp at h
  |
   x::l,0,d,h,n,hn=>by
   simp at h; subst h
   simp only [DataW.weightsAll,List.mem_append]; exact .inl hn
  |
   x::l,i+1,d,h,n,hn=>by
   simp only [DataW.weightsAll,List.mem_append]
   exact .inr (Mc (i:=i) (by simpa using h) n hn)
theorem Hn {H:Type} {P:Program} {t:TypeId} {fs:Array Field} {parts:List (DataW H)} (hu:P.underlying t=some (.struct fs)) (hz:((DataW.agg parts).weights P t).all (· ≤ reachBytes)=true) {i:Nat} {f:Field} {d:DataW H} (hf:fs[i]? = some f) (hd:parts[i]? = some d) :
    (d.weights P f.type).all (· ≤ reachBytes)=true:=by
  rw [List.all_eq_true] at hz ⊢
  intro n hn
  refine hz n ?_
  simp only [DataW.weights,hu]
  exact DataW.weights_mem_each (j:=i) (by rw [List.getElem?_map]; simp [hf]) hd n hn
variable {H:Type} {enc:TypeId×Value→H} {w:World}
abbrev O0:Nat→Prop:=fun _=>False
def Els (w:World) (cs:List Value) (ls:List LV):Prop:=cs.length=ls.length∧∀ (j:Nat) (u:LV),ls[j]? = some u→∃ v,cs[j]? = some v∧LRep w O0 v u
theorem P0 {α:Type} {rw_:α→List LV} {Ok:α→Prop} {t e sz:Nat} (hu:Tryz.prog.underlying t=some (.slice e)) (hc:Tryz.prog.cellsOf e=sz) (hsz:0<sz) (hb:1≤Tryz.prog.bytesOf e) (hw:∀ z,(rw_ z).length=sz)
    (elem:∀ fuel cs x,DataW.trod enc Tryz.prog w 0 (fun _=>true) true fuel e cs=some x→(x.1.weights Tryz.prog e).all (· ≤ reachBytes)=true→∃ z,Ok z∧Els w cs (rw_ z))
    {fuel:Nat} {cs:List Value} {x:DataW H×List MemPlace} (h:DataW.trod enc Tryz.prog w 0 (fun _=>true) true fuel t cs=some x) (hz:(x.1.weights Tryz.prog t).all (· ≤ reachBytes)=true) :
    ∃ (v:Value) (l:List α),cs=[v]∧(∀ z∈l,Ok z)∧l.length<2^47∧LRep w O0 v (.row (l.map rw_)):=by
  rcases Go.Deep.open_slice hu h with ⟨rfl,_⟩ | ⟨a',len,cap,m,n,D,Pl,rfl,_,hlc,hcap,hm,rfl,hr⟩
  · refine ⟨_,[],rfl,by simp,Nat.two_pow_pos 47,?_⟩
    exact LRep.row none 0 0 0 0 [] (fun _ _=>.bool true) (Nat.le_refl _) (by decide) (by simp) (by simp) (by simp) (by simp)
  · simp only [if_true] at hm
    subst hm
    rw [List.all_eq_true] at hz
    have hlen:len<2^47:=by
      have h0:=hz ((len+(m-len))*Tryz.prog.bytesOf e) (by simp [DataW.weights,hu])
      have h1:len≤(len+(m-len))*Tryz.prog.bytesOf e:=by
        have:=Nat.mul_le_mul (Nat.le_add_right len (m-len)) hb
        omega
      have h2:(len+(m-len))*Tryz.prog.bytesOf e≤reachBytes:=by simpa using h0
      exact Nat.lt_of_le_of_lt (Nat.le_trans h1 h2) reachBytes_lt
    have hel:∀ i,i<len→((D i).weights Tryz.prog e).all (· ≤ reachBytes)=true:=fun i hi=>by
      rw [List.all_eq_true]
      intro k hk
      refine hz k ?_
      simp only [DataW.weights,hu]
      refine List.mem_cons_of_mem _ (List.mem_append.2 (.inl (Mc (i:=i) ?_ k hk)))
      rw [List.getElem?_map,List.getElem?_range hi]; rfl
    have hone:∀ i,i<len→∃ z cs',Ok z∧Els w cs' (rw_ z)∧∀ j,j<sz→w.cell? ((a'.add (i*sz)).add j)=cs'[j]? := fun i hi=>by
      obtain ⟨cs',hcs,htr⟩:=hr i (by omega)
      rw [hc] at hcs
      obtain ⟨_,hl,hcell⟩:=World.cells?_some hcs
      obtain ⟨z,hz1,hz2⟩:=elem _ _ _ htr (hel i hi)
      refine ⟨z,cs',hz1,hz2,fun j hj=>?_⟩
      rw [hcell j (by omega)]
    have hspot:0<len→a'.spot=none∧a'.block<w.heap.size:=fun h0=>by
      obtain ⟨z,cs',_,⟨hl,_⟩,h3⟩:=hone 0 h0
      have h4:=h3 0 hsz
      have:(a'.add (0*sz)).add 0=a':=by simp [Addr.add]
      rw [this,List.getElem?_eq_getElem (by rw [hl,hw]; exact hsz)] at h4
      exact Q2i h4
    obtain ⟨l,hll,hl⟩:∃ l:List α,l.length=len∧∀ i z,l[i]? = some z→Ok z∧∃ cs',Els w cs' (rw_ z)∧∀ j,j<sz→w.cell? ((a'.add (i*sz)).add j)=cs'[j]? := by
      have:∀ k,k≤len→∃ l:List α,l.length=k∧∀ i z,l[i]? = some z→Ok z∧∃ cs',Els w cs' (rw_ z)∧∀ j,j<sz→w.cell? ((a'.add (i*sz)).add j)=cs'[j]? := by
        intro k
        induction k with
        | zero=>intro _; exact ⟨[],rfl,fun i z h=>by simp at h⟩
        |
         succ k ih =>
         intro hk
         obtain ⟨l,h1,h2⟩:=ih (by omega)
         obtain ⟨z,cs',h3,h4,h5⟩:=hone k (by omega)
         refine ⟨l++[z],by simp [h1],fun i y hy=>?_⟩
         rcases Nat.lt_or_ge i l.length with hi | hi
         · rw [List.getElem?_append_left hi] at hy; exact h2 i y hy
         · rw [List.getElem?_append_right hi] at hy
           have:i-l.length=0:=by
             rcases Nat.eq_zero_or_pos (i-l.length) with h | h
             · exact h
             · rw [List.getElem?_eq_none (by rw [List.length_singleton]; exact h)] at hy; cases hy
           rw [this] at hy
           simp at hy
           subst hy
           have:i=k:=by omega
           subst this
           exact ⟨h3,cs',h4,h5⟩
      exact this len (Nat.le_refl _)
    refine ⟨_,l,rfl,fun z hz=>?_,by rw [hll]; exact hlen,?_⟩
    · obtain ⟨i,hi⟩:=List.mem_iff_getElem?.1 hz
      exact (hl i z hi).1
    · have key:LRep w O0 (.slice (some a') (l.map rw_).length m) (.row (l.map rw_)):=by
        have hgl:∀ i c,(l.map rw_)[i]? = some c→∃ z,l[i]? = some z∧c=rw_ z∧i<len:=fun i c h=>by
          rw [List.getElem?_map] at h
          cases e:l[i]? with
          | none=>rw [e] at h; cases h
          | some z=>rw [e] at h; simp at h; exact ⟨z,rfl,h.symm,by have:=(List.getElem?_eq_some_iff.1 e).1; omega⟩
        have hcl:∀ i c,(l.map rw_)[i]? = some c→∃ cs':List Value,Els w cs' c∧∀ j,j<sz→w.cell? ⟨a'.block,a'.off+i*sz+j,none⟩=cs'[j]? := fun i c h=>by
          obtain ⟨z,hz,rfl,hi⟩:=hgl i c h
          obtain ⟨_,cs',h1,h2⟩:=hl i z hz
          refine ⟨cs',h1,fun j hj=>?_⟩
          rw [←h2 j hj,Q1c (hspot (by omega)).1]
        refine LRep.row (some a') m sz a'.block a'.off (l.map rw_) (fun i j=>(w.cell? ⟨a'.block,a'.off+i*sz+j,none⟩).getD (.bool true)) (by rw [List.length_map]; omega) ?_ ?_ ?_ ?_ ?_
        · have:maxLen=2^63-1:=by rfl
          omega
        · intro c hc2
          obtain ⟨z,_,rfl⟩:=List.mem_map.1 hc2
          exact hw z
        · intro h0
          rw [List.length_map,hll] at h0
          obtain ⟨hs,hb⟩:=hspot h0
          refine ⟨?_,hb,by simp [O0]⟩
          obtain ⟨b,o,s⟩:=a'
          simp only at hs
          rw [hs]
        · intro i c hi j hj
          obtain ⟨z,_,rfl,_⟩:=hgl i c hi
          obtain ⟨cs',⟨h1,_⟩,h2⟩:=hcl i _ hi
          have hjs:j<sz:=by rw [←hw z]; exact hj
          rw [h2 j hjs,List.getElem?_eq_getElem (by rw [h1]; exact hj)]; rfl
        · intro i c hi j u hu2
          obtain ⟨z,_,rfl,_⟩:=hgl i c hi
          obtain ⟨cs',⟨h1,h3⟩,h2⟩:=hcl i _ hi
          obtain ⟨v,hv,hr2⟩:=h3 j u hu2
          have hjs:j<sz:=by rw [←hw z]; exact (List.getElem?_eq_some_iff.1 hu2).1
          show LRep w O0 ((w.cell? ⟨a'.block,a'.off+i*sz+j,none⟩).getD (.bool true)) u
          rw [h2 j hjs,hv]; exact hr2
      rw [List.length_map,hll] at key
      exact key
abbrev Zb5 (x:Nat):List LV:=[.int .u32 (x:Int)]
theorem Q0n:∀ fuel cs x,DataW.trod enc Tryz.prog w 0 (fun _=>true) true fuel 169 cs=some x→(x.1.weights Tryz.prog 169).all (· ≤ reachBytes)=true→∃ z:Nat,z<4294967296∧Els w cs (Zb5 z):=by
  intro fuel cs x h _
  obtain ⟨n,rfl,_,hwf⟩:=DataW.trod_int Tryz.underlying169 h
  have hn:0≤n∧n<4294967296:=by
    have:0≤n∧n≤4294967295:=by simpa [Lit.wf,IntKind.min,IntKind.max,IntKind.signed,IntKind.bits] using hwf
    omega
  refine ⟨n.toNat,by omega,rfl,fun j u hu=>?_⟩
  match j,hu with
  |
   0,hu =>
   simp at hu; subst hu
   refine ⟨_,rfl,?_⟩
   rw [show max n 0=n by omega]
   exact .int _ _
  | j+1,hu=>simp at hu
set_option maxRecDepth 20000 in
theorem Qay:∀ fuel cs x,DataW.trod enc Tryz.prog w 0 (fun _=>true) true fuel 29 cs=some x→(x.1.weights Tryz.prog 29).all (· ≤ reachBytes)=true→∃ z:RawInt,z.Ok∧Els w cs (Er z):=by
  intro fuel cs x h hz
  obtain ⟨xs,n,_,rfl,hl,hxs,hf⟩:=DataW.trod_struct Tryz.underlying29 h
  have hl:cs.length=2:=hl
  match cs,hl with
  |
   [v0,v1],_ =>
   obtain ⟨z0,hz0⟩:=Fx (i:=0) hxs (by decide)
   obtain ⟨z1,hz1⟩:=Fx (i:=1) hxs (by decide)
   have h0:=hf 0 _ rfl
   have h1:=hf 1 _ rfl
   rw [hz0] at h0; rw [hz1] at h1
   obtain ⟨b,e0,_⟩:=DataW.trod_bool Tryz.underlying4 h0
   have f0:v0=.bool b:=(List.cons.inj (show [v0]=[Value.bool b] from e0)).1
   have hw1:=Hn Tryz.underlying29 hz (i:=1) rfl (d:=z1.1) (by rw [List.getElem?_map,hz1]; rfl)
   obtain ⟨v,l,e1,hlo,_,hrep⟩:=P0 (sz:=1) (Ok:=fun u:Nat=>u<4294967296) (rw_:=Zb5) Tryz.underlying27 (by kernel_rfl) (by decide) (of_decide_eq_true (by kernel_rfl)) (fun _=>rfl) Q0n h1 hw1
   have f1:v1=v:=(List.cons.inj (show [v1]=[v] from e1)).1
   subst f0 f1
   refine ⟨⟨b,l⟩,⟨hlo⟩,rfl,fun j u hu=>?_⟩
   match j,hu with
   | 0,hu=>simp at hu; subst hu; exact ⟨_,rfl,.bool _⟩
   | 1,hu=>simp at hu; subst hu; exact ⟨_,rfl,hrep⟩
   | j+2,hu=>simp at hu
set_option maxRecDepth 20000 in
theorem Qmq:∀ fuel cs x,DataW.trod enc Tryz.prog w 0 (fun _=>true) true fuel 35 cs=some x→(x.1.weights Tryz.prog 35).all (· ≤ reachBytes)=true→∃ z:RawPt,z.Ok∧Els w cs (rwq z):=by
  intro fuel cs x h hz
  obtain ⟨xs,n,_,rfl,hl,hxs,hf⟩:=DataW.trod_struct Tryz.underlying35 h
  have hl:cs.length=5:=hl
  match cs,hl with
  |
   [v0,v1,v2,v3,v4],_ =>
   obtain ⟨z0,hz0⟩:=Fx (i:=0) hxs (by decide)
   obtain ⟨z1,hz1⟩:=Fx (i:=1) hxs (by decide)
   have h0:=hf 0 _ rfl
   have h1:=hf 1 _ rfl
   rw [hz0] at h0; rw [hz1] at h1
   obtain ⟨id,e4,_,hwf⟩:=DataW.trod_int Tryz.underlying3 h1
   have f4:v4=.int .i64 id:=(List.cons.inj (show [v4]=[Value.int .i64 id] from e4)).1
   have hw0:=Hn Tryz.underlying35 hz (i:=0) rfl (d:=z0.1) (by rw [List.getElem?_map,hz0]; rfl)
   obtain ⟨ys,n2,_,e5,_,hys,hg⟩:=DataW.trod_struct Tryz.underlying31 h0
   rw [e5] at hw0
   obtain ⟨y0,hy0⟩:=Fx (i:=0) hys (by decide)
   obtain ⟨y1,hy1⟩:=Fx (i:=1) hys (by decide)
   obtain ⟨y2,hy2⟩:=Fx (i:=2) hys (by decide)
   have g0:=hg 0 _ rfl
   have g1:=hg 1 _ rfl
   have g2:=hg 2 _ rfl
   rw [hy0] at g0; rw [hy1] at g1; rw [hy2] at g2
   have w0:=Hn Tryz.underlying31 hw0 (i:=0) rfl (d:=y0.1) (by rw [List.getElem?_map,hy0]; rfl)
   have w1:=Hn Tryz.underlying31 hw0 (i:=1) rfl (d:=y1.1) (by rw [List.getElem?_map,hy1]; rfl)
   have w2:=Hn Tryz.underlying31 hw0 (i:=2) rfl (d:=y2.1) (by rw [List.getElem?_map,hy2]; rfl)
   obtain ⟨u0,lx,e0,hx,_,rx⟩:=P0 (sz:=2) (Ok:=RawInt.Ok) (rw_:=Er) Tryz.underlying26 (by kernel_rfl) (by decide) (of_decide_eq_true (by kernel_rfl)) (fun _=>rfl) Qay g0 w0
   obtain ⟨u1,ly,e1,hy,_,ry⟩:=P0 (sz:=2) (Ok:=RawInt.Ok) (rw_:=Er) Tryz.underlying26 (by kernel_rfl) (by decide) (of_decide_eq_true (by kernel_rfl)) (fun _=>rfl) Qay g1 w1
   obtain ⟨d,hd,hde⟩:=Qay _ _ _ g2 w2
   have f0:v0=u0:=(List.cons.inj (show [v0]=[u0] from e0)).1
   have f1:v1=u1:=(List.cons.inj (show [v1]=[u1] from e1)).1
   have hde2:Els w [v2,v3] (Er d):=hde
   subst f0 f1 f4
   obtain ⟨q2,hq2,r2⟩:=hde2.2 0 _ rfl
   obtain ⟨q3,hq3,r3⟩:=hde2.2 1 _ rfl
   simp at hq2 hq3
   subst hq2 hq3
   refine ⟨⟨lx,ly,d,id⟩,⟨hx,hy,hd,by simpa [Lit.wf,IntKind.min,IntKind.max,IntKind.signed,IntKind.bits] using hwf⟩,rfl,fun j u hu=>?_⟩
   match j,hu with
   | 0,hu=>simp [rwq] at hu; subst hu; exact ⟨_,rfl,rx⟩
   | 1,hu=>simp [rwq] at hu; subst hu; exact ⟨_,rfl,ry⟩
   | 2,hu=>simp [rwq] at hu; subst hu; exact ⟨_,rfl,r2⟩
   | 3,hu=>simp [rwq] at hu; subst hu; exact ⟨_,rfl,r3⟩
   | 4,hu=>simp [rwq] at hu; subst hu; exact ⟨_,rfl,.int _ _⟩
   | j+5,hu=>simp [rwq] at hu
end Orr

namespace Orr
open Go Go.Proofs Go.ChangeShapes Go.WideShapes Go.ChangeAt Go.RowKit Go.WideElems
variable {H:Type} {enc:TypeId×Value→H} {w:World}
theorem Qxi:∀ fuel cs x,DataW.trod enc Tryz.prog w 0 (fun _=>true) true fuel 3 cs=some x→(x.1.weights Tryz.prog 3).all (· ≤ reachBytes)=true→∃ z:Int,(-9223372036854775808≤z∧z≤9223372036854775807)∧Els w cs [LV.int .i64 z]:=by
  intro fuel cs x h _
  obtain ⟨n,rfl,_,hwf⟩:=DataW.trod_int Tryz.underlying3 h
  refine ⟨n,by simpa [Lit.wf,IntKind.min,IntKind.max,IntKind.signed,IntKind.bits] using hwf,rfl,fun j u hu=>?_⟩
  match j,hu with
  |
   0,hu =>
   simp at hu; subst hu
   exact ⟨_,rfl,.int _ _⟩
  | j+1,hu=>simp at hu
set_option maxRecDepth 20000 in
theorem Qi0 {f:FuncId} {fn:Func} {s:ChangeSpec} (hp:fn.params = #[24,22]) (hr:fn.resultTypes = #[4]) (hv:s.vars=[])
    (hs:∀ (H:Type) (d1 d2:DataW H),s.fn H [d1,d2]={ results:=[.lit (.bool true)],args:=[d1,d2] })
    (hlaid:laidOutB Tryz.prog=true) (hr22:Tryz.prog.readableRec 24=true) (hr3:Tryz.prog.readableRec 22=true) (hs22:24<Tryz.prog.types.size) (hs3:22<Tryz.prog.types.size)
    (law:∀ (zs:List RawPt) (cs:List Int),(∀ z∈zs,z.Ok)→(∀ z∈cs,-9223372036854775808≤z∧z≤9223372036854775807)→Qd Tryz.prog f [.one (.row (Do zs)),.one (.row (idl cs))] [.one (.bool true)])
    {H:Type} {enc:TypeId×Value→H} {W:World} {base:Nat} {args:Array Value} {ds gs:List (DataW H)} {Qk1:List MemPlace} {fresh handsOn:Bool}
    (hval:∀ (j:Nat) t v,fn.params[j]? = some t→args[j]? = some v→Value.okWide Tryz.prog W .any base t v)
    (hW:DataW.Whole enc Tryz.prog fn.params.toList s.vars false W args.toList ds gs Qk1)
    (hz:(DataW.weightsEach Tryz.prog (fn.params.toList++s.plain.varTypes Tryz.prog) (ds++gs)).all (· ≤ reachBytes)=true) :
    Calls Tryz.prog f args W fun e W'=>∃ v,e=.returned v∧s.post enc Tryz.prog fn false fresh handsOn false W args v W':=by
  have hW':=hW
  obtain ⟨p,q,hA0,hV,rfl,hfz,hnd⟩:=hW
  have hA:DataW.TrodAll enc Tryz.prog W 0 (fun _=>true) true fn.params.toList args.toList ds p:=hA0
  rw [hv] at hV
  obtain ⟨rfl,rfl⟩:=trodVars_none hV
  have hlt:=hW'.lt
  rw [hp] at hA hval hz
  obtain ⟨v0,vs0,d0,ds0,p0,q0,hargs0,rfl,rfl,h0,r0⟩:=trodAll_cons hA
  obtain ⟨v1,vs1,d1,ds1,p1,q1,rfl,rfl,rfl,h1,r1⟩:=trodAll_cons r0
  obtain ⟨rfl,rfl,rfl⟩:=trodAll_nil r1
  obtain rfl:args = #[v0,v1]:=by cases args; simp_all
  have hv1:=hval 1 22 v1 rfl rfl
  obtain ⟨a1,len1,cap1,rfl⟩:=okWide_slice Tryz.underlying22 hv1
  have hz1:(d1.weights Tryz.prog 22).all (· ≤ reachBytes)=true:=by
    rw [List.all_eq_true] at hz ⊢
    intro k hk
    exact hz k (DataW.weights_mem_each (j:=1) rfl rfl k hk)
  have h1':=h1
  obtain ⟨fu1,h1'⟩:=h1'
  obtain ⟨u1,cs,e1,hok1,hlen1,hrep1⟩:=P0 (sz:=1) (Ok:=fun z:Int=>-9223372036854775808≤z∧z≤9223372036854775807) (rw_:=fun (z:Int)=>[LV.int .i64 z]) Tryz.underlying22 (by kernel_rfl) (by decide) (of_decide_eq_true (by kernel_rfl)) (fun _=>rfl) Qxi h1' hz1
  have f1:Value.slice a1 len1 cap1=u1:=(List.cons.inj (show [Value.slice a1 len1 cap1]=[u1] from e1)).1
  subst f1
  have hrep1:LRep W (fun _=>False) (.slice a1 len1 cap1) (.row (idl cs)):=hrep1
  have hv0:=hval 0 24 v0 rfl rfl
  obtain ⟨a,len,cap,rfl⟩:=okWide_slice Tryz.underlying24 hv0
  have hz0:(d0.weights Tryz.prog 24).all (· ≤ reachBytes)=true:=by
    rw [List.all_eq_true] at hz ⊢
    intro k hk
    exact hz k (DataW.weights_mem_each (j:=0) rfl rfl k hk)
  have h0':=h0
  obtain ⟨fu,h0'⟩:=h0'
  obtain ⟨v,zs,e0,hok,hlen,hrep⟩:=P0 (sz:=5) (Ok:=RawPt.Ok) (rw_:=rwq) Tryz.underlying24 (by kernel_rfl) (by decide) (of_decide_eq_true (by kernel_rfl)) (fun _=>rfl) Qmq h0' hz0
  have f0:Value.slice a len cap=v:=(List.cons.inj (show [Value.slice a len cap]=[v] from e0)).1
  subst f0
  have hrep:LRep W (fun _=>False) (.slice a len cap) (.row (Do zs)):=hrep
  have hcall:=(law zs cs hok hok1).2 (fr0 W) (fun _=>none) (fun _=>False) W [.slice a len cap,.slice a1 len1 cap1] (hs0 W) (.cons (show XRep W (fun _=>False) (fun _=>none) (.slice a len cap) (.row (Do zs)) from hrep.x) (.cons (show XRep W (fun _=>False) (fun _=>none) (.slice a1 len1 cap1) (.row (idl cs)) from hrep1.x) .nil))
  refine hcall.mono fun e W' ⟨v,u,Bo,E',M',he,⟨hu,hBo⟩,_,hm,har⟩=>?_
  subst hu
  obtain rfl:v=.bool true:=by
    have h:LRep _ _ v (.bool true):=har
    cases h
    rfl
  refine ⟨_,he,?_⟩
  refine ⟨[d0,d1],[],_,[],p0++(p1++[]),[],hW',?_,?_,?_,Q27 hm _,fun h=>by cases h⟩
  · rw [hr,List.append_nil,hs]
    exact trodAll_cons_mk (shut_bool Tryz.underlying4 true) trodAll_mk0
  · rw [hp,List.append_nil,hs]
    have hb:∀ p∈p0,p.block<W.heap.size:=fun p hp=>hlt p (by simp [hp])
    have hb1:∀ p∈p1,p.block<W.heap.size:=fun p hp=>hlt p (by simp [hp])
    exact trodAll_cons_mk (Trod_stays hlaid hr22 hs22 h0 (fun p hp=>Qq4 hm (hb p hp)) (fun p hp=>by simpa using hb p hp)) (trodAll_cons_mk (Trod_stays hlaid hr3 hs3 h1 (fun p hp=>Qq4 hm (hb1 p hp)) (fun p hp=>by simpa using hb1 p hp)) trodAll_mk0)
  · rw [hv,List.append_nil,hs]
    rfl
end Orr
