/- C1 C2 D1 E1 AlgL F1 F2 F3 F4 F5 T1 T2 T3 T4 T5 T6 -/
import Derived.Test.YtledghfgedoofaaGreatPart04
set_option linter.all false
namespace Orr
open Go Go.Proofs
set_option maxRecDepth 10000
theorem Qpa {p:List Int} {g:Int} (hl:p.length<274877906944) (hp:Bd 4294967295 p) (hg:Qt g≤4294967295) (h0:g≠0) (hd:∀ z∈p,z % g=0):Qf Tryz.prog 66 [pr p,.agg (Z1 g)] [pr (Qp (p.map (· / g)))]:=by
  refine Jb Tryz.func66 rfl ?_
  refine go tt [.r 9 (eI (b:=(p.length:Int)) (by simp)),.i p.length,.i p.length,.r 12 (eI (b:=(p.length:Int)) (by simp))] rfl (by simp [Qa]; omega) ?_
  rw [Uj fun k=>Z1 (p.getD k 0 / g)]
  refine lp (S:=Nat) 2 (fun L1 k=>(13,.v (.one (.int .i64 (k:Int))))::L1) (fun k=>[.blk 27 (Z1 g),.row false 27 2 (Im (fun k=>Z1 (p.getD k 0 / g)) [.bool false,.nils] p.length k)]) (fun k=>p.length-k) (fun k=>k≤p.length) 0 (Nat.zero_le _) rfl (fun _ _=>rfl) rfl fun k hk=>?_
  by_cases hlt:k<p.length
  · have hg2:=Xo hlt
    refine go tt [.t (by simp; omega),.x (Jy hg2),.c [] (Uw (Qe _) (Qe _) (Q7 hp k) hg h0 (hd _ (List.mem_of_getElem? hg2))),.i k] rfl (by simp [Qa,U0]; omega) ?_
    have e:=G7 (fun k=>Z1 (p.getD k 0 / g)) [.bool false,.nils] hlt
    rw [e]
    exact rd (k+1) (by omega) hlt rfl
  · obtain rfl:k=p.length:=by omega
    have e:Im (fun k=>Z1 (p.getD k 0 / g)) [.bool false,.nils] p.length p.length=(p.map (· / g)).map Z1:=by
      rw [G6]
      refine List.ext_getElem? fun i=>?_
      by_cases hi:i<p.length
      · simp [List.getElem?_range hi,List.getD,List.getElem?_eq_getElem hi]
      · simp [List.getElem?_eq_none,hi]
    rw [e]
    exact en tt [.f (by simp),.c [] (Wp (Zu (p.map (· / g))) (by simp; exact hl) (Nu hp g))] rfl rfl trivial
theorem A2 (p:List Int):∀ c∈p.map Z1,c.length=2:=Qye p fun _=>rfl
theorem Qa3 {lx ly:List (List LV)} {px py:List Int} {x y:LV} {d:Int} (hx:IsInts lx px) (hy:IsInts ly py) (hd:Xg x y d) (hk:Cs 4294967294 1073741824 (Crv.mk px py d)):Qf Tryz.prog 34 [.agg [.row lx,.row ly,x,y]] [.agg (cl (Crv.norm (Crv.mk px py d)))]:=by
  have hlx:=hk.lx
  have hly:=hk.ly
  simp only at hlx hly
  have htx:=Z8 px
  have hty:=Z8 py
  have hd1:Qt (Crv.mk px py d).d'≤4294967295:=Nat.le_trans (Qq8 hk.d (by omega)) (by omega)
  have hg1:=Crv.isz_g (Crv.mk px py d) hd1
  have hg0:=Crv.g_ne (Crv.mk px py d)
  have hgd:=Crv.g_dvd (Crv.mk px py d)
  have cx:=Wp hx (by omega) (Qc hk.x (by omega))
  have cy:=Wp hy (by omega) (Qc hk.y (by omega))
  have cd:=Wq hd (Nat.le_trans hk.d (by omega))
  have bx:Bd 4294967295 (Qp px):=Qc (X3 hk.x) (by omega)
  have by_:Bd 4294967295 (Qp py):=Qc (X3 hk.y) (by omega)
  obtain ⟨b,l,rfl,rfl,_⟩:=hd
  obtain ⟨e,he⟩:∃ e,e=(Crv.mk px py d).d':=⟨_,rfl⟩
  obtain ⟨g,hgg⟩:∃ g,g=(Crv.mk px py d).g:=⟨_,rfl⟩
  obtain ⟨X,hX⟩:∃ X,X=Qp px:=⟨_,rfl⟩
  obtain ⟨Y,hY⟩:∃ Y,Y=Qp py:=⟨_,rfl⟩
  have hnorm:(Crv.mk px py d).norm=⟨Qp (X.map (· / g)),Qp (Y.map (· / g)),e / g⟩:=by rw [he,hgg,hX,hY]; rfl
  rw [hnorm]
  have hgdef:g=if e<0 then -((Xf (e::(X++Y)):Nat):Int) else (Xf (e::(X++Y)):Nat):=by rw [hgg,he,hX,hY]; rfl
  have hde:e=if d=0 then 1 else d:=by rw [he]; rfl
  simp only [←he,←hgg,←hX,←hY] at hd1 hg1 hg0 hgd htx hty cx cy bx by_
  clear hnorm hgg he hX hY
  refine Jb Tryz.func34 rfl ?_
  refine go tt [.c [] cx,.c [] cy,.c [] cd,.c [] U9] rfl trivial ?_
  refine ct 1 (S:=Unit) (fun _=>[(2,.v (.one (.ow 1 0))),(3,.v (pr X)),(4,.v (pr Y)),(5,.v (.one (.ow 2 0)))]) (fun _=>[.blk 29 [.row lx,.row ly,.bool b,.row (lm l)],.blk 29 [.nils,.nils,.bool false,.nils],.blk 27 (Z1 e)]) (fun _=>True) rfl ?_ ?_
  · by_cases h0:d=0
    · rw [hde,if_pos h0]
      exact go tt [.t (by simpa using h0),.c [] (Qgt (z:=1) (by decide))] rfl trivial (rc () trivial rfl)
    · rw [hde,if_neg h0]
      exact go tt [.f (by simpa using h0)] rfl trivial (rc () trivial rfl)
  · intro _ _
    have hgi:IsInts ([Z1 e]++X.map Z1++Y.map Z1) (e::(X++Y)):=by
      have:=Zu (e::(X++Y))
      simpa using this
    have hgs:∀ z∈e::(X++Y),Qt z≤4294967295:=fun z hz=>by
      rcases List.mem_cons.1 hz with rfl | hz
      · exact hd1
      · rcases List.mem_append.1 hz with hz | hz
        · exact bx z hz
        · exact by_ z hz
    have cg:=Qog hgi hgs
    have co1:=Qpa (p:=X) (by omega) bx hg1 hg0 fun z hz=>hgd z (List.mem_cons_of_mem _ (List.mem_append_left _ hz))
    have co2:=Qpa (p:=Y) (by omega) by_ hg1 hg0 fun z hz=>hgd z (List.mem_cons_of_mem _ (List.mem_append_right _ hz))
    have ce:=Uw (Qe e) (Qe g) hd1 hg1 hg0 (hgd e (List.mem_cons_self ..))
    have hszg:=D8 hgs
    by_cases hneg:e<0
    · rw [if_pos hneg] at hgdef
      have cn:=Ec (Qe ((Xf (e::(X++Y)):Nat):Int)) hszg
      rw [←hgdef] at cn
      exact en tt [.lo,.s (A2 X),.s (A2 Y),.c [] cg,.t (by simpa using hneg),.c [] cn,.c [] ce,.c [] co1,.c [] co2] rfl rfl (by simp [Qa]; omega)
    · rw [if_neg hneg] at hgdef
      rw [←hgdef] at cg
      exact en tt [.lo,.s (A2 X),.s (A2 Y),.c [] cg,.f (by simpa using hneg),.c [] ce,.c [] co1,.c [] co2] rfl rfl (by simp [Qa]; omega)
theorem Qdg {k:Crv} (hn:Nml k) (hk:Cs 4294967294 1073741824 k):Qf Tryz.prog 34 [.agg (cl k)] [.agg (cl k)]:=by
  have h:=Qa3 (Zu k.x) (Zu k.y) (Qe k.d) hk
  rw [Crv.norm_of hn] at h; exact h
theorem Qa2 {lx ly:List (List LV)} {px py:List Int} {x y:LV} {d:Int} (hx:IsInts lx px) (hy:IsInts ly py) (hd:Xg x y d) (hk:Cs 4294967294 1073741824 (Crv.mk px py d)) (h0:d≠0):Qf Tryz.prog 142 [.one (.row lx),.one (.row ly),.agg [x,y]] [.agg (cl (Crv.norm (Crv.mk px py d))),.one (.int .i64 0)]:=by
  have cd:=Wq hd (Nat.le_trans hk.d (by omega))
  have cn:=Qa3 hx hy hd hk
  obtain ⟨b,l,rfl,rfl,_⟩:=hd
  exact w tt Tryz.func142 rfl [.c [] cd,.c [] U9,.f (by simpa using h0),.c [] cn] rfl rfl trivial
theorem Qxt {lx ly:List (List LV)} {px py:List Int} (hx:IsInts lx px) (hy:IsInts ly py) (hk:Cs 4294967294 1073741824 (Crv.mk px py 0)):Qf Tryz.prog 7 [.one (.row lx),.one (.row ly)] [.agg (cl (Crv.norm (Crv.mk px py 0)))] :=
  w tt Tryz.func7 rfl [.c [] (Qa3 hx hy J7 hk)] rfl rfl trivial
def U7 (x y:Int):Crv:=Crv.norm ⟨Qp [x],Qp [y],0⟩
theorem Qdo {x y:Int} (hx:-9223372036854775808≤x∧x≤9223372036854775807) (hy:-9223372036854775808≤y∧y≤9223372036854775807):Cs 64 1 ⟨Qp [x],Qp [y],0⟩:=by
  have key:∀ z:Int,-9223372036854775808≤z∧z≤9223372036854775807→Qt z≤64:=fun z hz=>by
    rw [Y3]
    have:(2:Nat)^64=18446744073709551616:=by decide
    omega
  refine ⟨X3 fun z hz=>?_,X3 fun z hz=>?_,Nat.zero_le _,Z8 [x],Z8 [y]⟩
  · rw [List.mem_singleton] at hz; rw [hz]; exact key x hx
  · rw [List.mem_singleton] at hz; rw [hz]; exact key y hy
theorem Qa0 {x y:Int} (hx:-9223372036854775808≤x∧x≤9223372036854775807) (hy:-9223372036854775808≤y∧y≤9223372036854775807):Qf Tryz.prog 44 [.one (.int .i64 x),.one (.int .i64 y)] [.agg (cl (U7 x y))] :=
  w tt Tryz.func44 rfl [.c [] (Qdf (p:=[x]) (show 1<274877906944 by decide) (by intro z hz; rw [List.mem_singleton] at hz; rw [hz]; exact hx)),.c [] (Qdf (p:=[y]) (show 1<274877906944 by decide) (by intro z hz; rw [List.mem_singleton] at hz; rw [hz]; exact hy)),.c [] (Qxt (Zu _) (Zu _) ((Qdo hx hy).mono (by omega) (by omega)))] rfl rfl trivial
theorem Quq {a b:Crv} (ha:Nml a) (hb:Nml b) (ca:Cs 4294967294 1073741824 a) (cb:Cs 4294967294 1073741824 b):Qf Tryz.prog 114 [.agg (cl a),.agg (cl b)] [.one (.bool (Wj a b))]:=by
  have na:=Qdg ha ca
  have nb:=Qdg hb cb
  have alx:=ca.lx
  have aly:=ca.ly
  have blx:=cb.lx
  have bly:=cb.ly
  have sx:=Qaz (p:=a.x) (q:=b.x) (by omega) (by omega) (Qc ca.x (by omega)) (Qc cb.x (by omega))
  have sy:=Qaz (p:=a.y) (q:=b.y) (by omega) (by omega) (Qc ca.y (by omega)) (Qc cb.y (by omega))
  have sd:=Ny (Qe a.d) (Qe b.d) (Nat.le_trans ca.d (by omega)) (Nat.le_trans cb.d (by omega))
  rw [ha.1,hb.1] at sx
  rw [ha.2.1,hb.2.1] at sy
  by_cases h1:a.x=b.x
  · by_cases h2:a.y=b.y
    · exact w tt Tryz.func114 rfl [.c [] na,.c [] nb,.c [] sx,.t (by simpa using h1),.c [] sy,.t (by simpa using h2),.c [] sd] rfl (by simp [Wj,h1,h2,Qa9]) trivial
    · exact w tt Tryz.func114 rfl [.c [] na,.c [] nb,.c [] sx,.t (by simpa using h1),.c [] sy,.f (by simpa using h2)] rfl (by simp [Wj,h1,h2]) trivial
  · exact w tt Tryz.func114 rfl [.c [] na,.c [] nb,.c [] sx,.f (by simpa using h1),.f rfl] rfl (by simp [Wj,h1]) trivial
end Orr

namespace Orr
open Go Go.Proofs
set_option maxRecDepth 10000
theorem Cc {l:List Pt} {i:Nat} {p:Pt} (h:l[i]? = some p):(l.map Zq)[i]? = some [pl p.c.x,pl p.c.y,sg p.c.d,mg p.c.d,.int .i64 p.id]:=J0 h
theorem Qfj (l:List Pt):∀ c∈l.map Zq,c.length=5:=Qye l fun _=>rfl
theorem Quv {lx ly:List (List LV)} {px py:List Int} {x y:LV} {d:Int} (hx:IsInts lx px) (hy:IsInts ly py) (hd:Xg x y d) (hk:Cs 4294967294 1073741824 (Crv.mk px py d)) (id:Int):Qf Tryz.prog 101 [.agg [.row lx,.row ly,x,y,.int .i64 id]] [.agg (Zq ⟨Crv.norm (Crv.mk px py d),id⟩)]:=by
  have cd:=Wq hd (Nat.le_trans hk.d (by omega))
  by_cases h0:d=0
  · subst h0
    have ck:Cs 4294967294 1073741824 (Crv.mk px py 1):=⟨hk.x,hk.y,show Qt 1≤4294967294 by decide,hk.lx,hk.ly⟩
    have cm:=Qa2 hx hy (Qe 1) ck (by decide)
    have e:Crv.norm (Crv.mk px py 1)=Crv.norm (Crv.mk px py 0):=by simp only [Crv.norm,Crv.g,Crv.d']; rfl
    rw [e] at cm
    obtain ⟨b,l,rfl,rfl,_⟩:=hd
    exact w tt Tryz.func101 rfl [.c [] cd,.c [] U9,.t (by simp),.c [] (Qgt (z:=1) (by decide)),.c [] cm] rfl rfl trivial
  · have cm:=Qa2 hx hy hd hk h0
    obtain ⟨b,l,rfl,rfl,_⟩:=hd
    exact w tt Tryz.func101 rfl [.c [] cd,.c [] U9,.f (by simpa using h0),.c [] cm] rfl rfl trivial
theorem Q14 {l:List Pt} (id:Int) (hl:l.length<1073741824):Qf Tryz.prog 100 [.agg [pts l],.one (.int .i64 id)] [.one (.int .i64 (Lj l id:Int)),.one (.bool (has l id))]:=by
  refine Jb Tryz.func100 rfl ?_
  refine go tt [] rfl trivial ?_
  refine ct 2 (S:=Unit) (fun _=>[(1,.v (.one (.int .i64 id))),(2,.v (.one (.ow 0 0))),(6,.v (.one (.int .i64 (Lj l id:Int))))]) (fun _=>[.blk 69 [pts l]]) (fun _=>True) rfl ?_ ?_
  · refine lp (S:=Nat) 1 (fun L1 k=>(6,.v (.one (.int .i64 (k:Int))))::L1) (fun _=>[.blk 69 [pts l]]) (fun k=>l.length-k) (fun k=>k≤l.length∧∀ j p,j<k→l[j]? = some p→p.id<id) 0 ⟨Nat.zero_le _,fun j p h=>by omega⟩ rfl (fun _ _=>rfl) rfl fun k ⟨hk,hlt⟩=>?_
    by_cases h:k<l.length
    · obtain ⟨p,hp⟩:∃ p,l[k]? = some p:=⟨_,List.getElem?_eq_getElem h⟩
      by_cases hid:p.id<id
      · refine go tt [.t (by simp; omega),.x (Cc hp),.t (by simpa using hid)] rfl (by simp [Qa]; omega) ?_
        exact rd (k+1) (by omega) ⟨h,fun j q hj hq=>by
          rcases Nat.lt_or_ge j k with h2 | h2
          · exact hlt j q h2 hq
          · have:j=k:=by omega
            subst this; rw [hp] at hq; injection hq with hq; rw [←hq]; exact hid⟩ rfl
      · have e:=Qhw hlt (.inr ⟨p,hp,hid⟩)
        refine go tt [.t (by simp; omega),.x (Cc hp),.f (by simpa using hid)] rfl trivial ?_
        rw [e]
        exact rc () trivial rfl
    · obtain rfl:k=l.length:=by omega
      have e:=Qhw hlt (.inl rfl)
      refine go tt [.f (by simp),.f rfl] rfl trivial ?_
      rw [e]
      exact rc () trivial rfl
  · intro _ _
    by_cases h:Lj l id<l.length
    · obtain ⟨p,hp⟩:∃ p,l[Lj l id]? = some p:=⟨_,List.getElem?_eq_getElem h⟩
      have e:has l id=decide (p.id=id):=by simp [has,hp]
      rw [e]
      exact en tt [.g 30 true (by simp; omega),.x (Cc hp)] rfl rfl trivial
    · have e:has l id=false:=by simp [has,List.getElem?_eq_none (Nat.le_of_not_lt h)]
      rw [e]
      exact en tt [.g 30 false (by simp; omega)] rfl rfl trivial
theorem Qax {l:List Pt}:Qf Tryz.prog 74 [.agg [pts l]] [.one (pts l)]:=w tt Tryz.func74 rfl [] rfl rfl trivial
theorem Q1x {lx ly:List (List LV)} {px py:List Int} {x y:LV} {d id:Int} {l:List Pt} (hx:IsInts lx px) (hy:IsInts ly py) (hd:Xg x y d) (hk:Cs 4294967294 1073741824 (Crv.mk px py d)) (hl:l.length≤1000000) :
    Qf Tryz.prog 59 [.agg [pts l],.agg [.row lx,.row ly,x,y,.int .i64 id]] [.agg [pts (if Hq l (Pt.mk (Crv.norm (Crv.mk px py d)) id)=0 then put l (Pt.mk (Crv.norm (Crv.mk px py d)) id) else l)],.one (.int .i64 (Hq l (Pt.mk (Crv.norm (Crv.mk px py d)) id)))]:=by
  have ca:=Q14 (l:=l) id (by omega)
  have cf:=Quv hx hy hd hk id
  obtain ⟨b,r,rfl,rfl,_⟩:=hd
  obtain ⟨q,hq⟩:∃ q,q=Pt.mk (Crv.norm (Crv.mk px py d)) id:=⟨_,rfl⟩
  have hqi:q.id=id:=by rw [hq]
  rw [←hq] at cf ⊢
  have Mg:=Qsa l id
  by_cases h1:has l id=true
  · have e:Hq l q=6:=by simp [Hq,hqi,h1]
    rw [e,if_neg (by decide)]
    exact w tt Tryz.func59 rfl [.c [] ca,.t h1] rfl rfl trivial
  by_cases h2:6≤l.length
  · have e:Hq l q=9:=by simp [Hq,hqi,h1,h2]
    rw [e,if_neg (by decide)]
    exact w tt Tryz.func59 rfl [.c [] ca,.f (by simpa using h1),.t (by simp; omega)] rfl rfl trivial
  have e:Hq l q=0:=by simp [Hq,hqi,h1,h2]
  rw [e,if_pos rfl]
  have s1:∀ c∈(l.map Zq).take (Lj l id),c.length=5:=fun c hc=>Qfj l c (List.mem_of_mem_take hc)
  have s3:∀ c∈(l.map Zq).drop (Lj l id),c.length=5:=fun c hc=>Qfj l c (List.mem_of_mem_drop hc)
  refine w tt Tryz.func59 rfl [.c [] ca,.f (by simpa using h1),.f (by simp; omega),.i (Lj l id),.s s1,.c [] cf,.i (Lj l id),.s s3] rfl ?_ ?_
  · simp [put,hqi,pts,List.map_take,List.map_drop,Zq]
  · simp [Qa]
    exact ⟨by omega,Mg,fun _ _=>rfl,by omega,by omega,Mg⟩
theorem Qrq:∀ (qs:List Pt),(Vo [] qs).1.length≤qs.length:=by
  have key:∀ (qs acc:List Pt),(Vo acc qs).1.length≤acc.length+qs.length:=by
    intro qs
    induction qs with
    | nil=>intro acc; simp [Vo]
    |
     cons q qs ih =>
     intro acc
     simp only [Vo]
     split
     · have:=ih (put acc q); rw [Qwn] at this; simp only [List.length_cons]; omega
     · simp
  intro qs
  have:=key qs []
  simpa using this
theorem Q1u {zs:List (List LV)} {qs:List Pt} (hz:IsPts 4294967294 1073741824 zs qs) (hl:qs.length≤6):Qf Tryz.prog 37 [.one (.row zs)] [.agg [pts (Vo [] qs).1],.one (.int .i64 (Vo [] qs).2)]:=by
  refine Jb Tryz.func37 rfl ?_
  have hzl:=hz.len
  refine go tt [.f (by simp; omega)] rfl trivial ?_
  refine nlb 1 rfl rfl rfl ?_
  refine lp (S:=Nat) 2 (fun L1 i=>(14,.v (.one (.int .i64 (i:Int))))::L1) (fun i=>[.blk 69 [.nils],.blk 69 [pts (Vo [] (qs.take i)).1]]) (fun i=>qs.length-i) (fun i=>i≤qs.length∧(Vo [] (qs.take i)).2=0) 0 ⟨Nat.zero_le _,rfl⟩ rfl (fun _ _=>rfl) rfl fun i ⟨hi,h0⟩=>?_
  by_cases hlt:i<qs.length
  · have hqi:qs[i]? = some qs[i]:=List.getElem?_eq_getElem hlt
    obtain ⟨z,hzi,lx,ly,b,r,px,py,d,rfl,hx,hy,hd,hk,hc⟩:=hz.get hqi
    have hq:(Pt.mk (Crv.norm (Crv.mk px py d)) qs[i].id)=qs[i]:=by rw [←hc]
    have hst:=Qna [] qs hqi (by rw [←h0])
    have hnl:=Qrq (qs.take i)
    have cp:=Q1x (l:=(Vo [] (qs.take i)).1) (id:=qs[i].id) hx hy hd hk (by rw [List.length_take] at hnl; omega)
    rw [hq] at cp
    by_cases he:Hq (Vo [] (qs.take i)).1 qs[i]=0
    · rw [if_pos he] at hst
      rw [he,if_pos rfl] at cp
      refine go tt [.t (by simp; omega),.x hzi,.c [] cp,.f rfl] rfl (by simp [Qa]; omega) ?_
      exact rd (i+1) (by omega) ⟨hlt,by rw [hst]⟩ (by rw [hst]; rfl)
    · rw [if_neg he] at hst
      have herr:=Qrp [] qs he hst
      rw [herr]
      exact en tt [.t (by simp; omega),.x hzi,.c [] cp,.t (by simpa using he)] rfl rfl trivial
  · obtain rfl:i=qs.length:=by omega
    rw [List.take_length] at h0
    rw [List.take_length,h0]
    exact en tt [.f (by simp; omega)] rfl rfl trivial
theorem Qo2 {l:List Pt} (hok:∀ p∈l,Qge 4294967294 1073741824 p) (hl:l.length<1073741824):Qf Tryz.prog 73 [.agg [pts l]] [.one (pts (Xv l))]:=by
  refine Jb Tryz.func73 rfl ?_
  refine go tt [.o 3 33 5] rfl trivial ?_
  refine lp (S:=Nat) 2 (fun L1 i=>(12,.v (.one (.int .i64 (i:Int))))::(3,.v (.one (.orow 1 5 none)))::L1) (fun i=>[.blk 69 [pts l],.row false 33 5 (((l.take i).foldl Jk []).map Zq)]) (fun i=>l.length-i) (fun i=>i≤l.length) 0 (Nat.zero_le _) rfl (fun _ _=>rfl) rfl fun i hi=>?_
  by_cases hlt:i<l.length
  · obtain ⟨p,hp⟩:∃ p,l[i]? = some p:=⟨_,List.getElem?_eq_getElem hlt⟩
    obtain ⟨hn,hk⟩:=hok p (List.mem_of_getElem? hp)
    have hws:=Xz Jk [] l hp
    have hwl:=S0 l i
    have hwm:=S4 l i
    obtain ⟨o,ho⟩:∃ o,o=(l.take i).foldl Jk []:=⟨_,rfl⟩
    rw [←ho] at hws hwl hwm ⊢
    refine go tt [.t (by simp; omega),.x (Cc hp)] rfl trivial ?_
    refine lp (S:=Nat) 3 (fun L1 k=>(18,.v (.one (.int .i64 (k:Int))))::(6,.v (.one (.bool ((o.take k).any fun q=>Wj p.c q.c))))::L1) (fun k=>[.blk 69 [pts l],.row false 33 5 (o.map Zq),.blk 33 (Zq p)]) (fun k=>o.length-k) (fun k=>k≤o.length) 0 (Nat.zero_le _) rfl (fun _ _=>rfl) rfl fun k hk2=>?_
    by_cases hk3:k<o.length
    · obtain ⟨q,hq⟩:∃ q,o[k]? = some q:=⟨_,List.getElem?_eq_getElem hk3⟩
      obtain ⟨hqn,hqk⟩:=hok q (hwm q (List.mem_of_getElem? hq))
      have hany:((o.take (k+1)).any fun q=>Wj p.c q.c)=(((o.take k).any fun q=>Wj p.c q.c) || Wj p.c q.c):=by rw [List.take_add_one,hq,List.any_append]; simp
      cases hb:(o.take k).any fun q=>Wj p.c q.c with
      |
       true =>
       rw [hb] at hany
       refine go tt [.t (by simp; omega),.i k,.x (Cc hq),.t rfl,.r 29 (v:=.one (.bool ((o.take (k+1)).any fun q=>Wj p.c q.c))) (by rw [hany]; rfl)] rfl (by simp [Qa]; omega) ?_
       exact rd (k+1) (by omega) hk3 rfl
      |
       false =>
       rw [hb] at hany
       refine go tt [.t (by simp; omega),.i k,.x (Cc hq),.f rfl,.c [] (Quq hn hqn hk hqk),.r 29 (v:=.one (.bool ((o.take (k+1)).any fun q=>Wj p.c q.c))) (by rw [hany]; rfl)] rfl (by simp [Qa]; omega) ?_
       exact rd (k+1) (by omega) hk3 rfl
    · obtain rfl:k=o.length:=by omega
      rw [List.take_length]
      cases hb:o.any fun q=>Wj p.c q.c with
      |
       true =>
       have e:Jk o p=o:=by unfold Jk; rw [if_pos hb]
       exact go tt [.f (by simp),.f rfl] rfl (by simp [Qa]; omega) (rd (i+1) (by omega) hlt (by rw [hws,e]; rfl))
      |
       false =>
       have e:Jk o p=o++[p]:=by unfold Jk; rw [if_neg (by rw [hb]; decide)]
       exact go tt [.f (by simp),.t rfl] rfl (by simp [Qa]; omega) (rd (i+1) (by omega) hlt (by rw [hws,e,List.map_append]; rfl))
  · obtain rfl:i=l.length:=by omega
    exact en tt [.f (by simp)] rfl (by rw [List.take_length]; rfl) trivial
end Orr

namespace Orr
open Go Go.Proofs
set_option maxRecDepth 10000
theorem Qw5 (q:Rat):Qm [-q.num,(q.den:Int)]:=by
  have:=q.den_nz
  simp [Qm,Qp,this]
theorem Q1p {s:Nat} {q:Rat} (h:Qs s q):Bd s [-q.num,(q.den:Int)]:=fun z hz=>by
  simp at hz
  rcases hz with rfl | rfl
  · rw [U3]; exact h.1
  · exact h.2
theorem Qxs {x y x' y':LV} {n d:Int} (h1:Xg x y n) (h2:Xg x' y' d) (hn:Qt n≤4294967295) (hd:Qt d≤4294967295) (hq:Qs 4294967295 (Vw n d)):Qf Tryz.prog 38 [.agg [x,y,x',y']] [.agg (qa (Vw n d))]:=by
  have c1:=Qpe h1 h2 hn hd
  obtain ⟨b,l,rfl,rfl,_⟩:=h1
  obtain ⟨b',l',rfl,rfl,_⟩:=h2
  exact w tt Tryz.func38 rfl [.c [] c1,.c [] (Ec (Qe _) hq.1),.c [] (Gw hq)] rfl rfl trivial
theorem P7 {k:Crv} (hn:Nml k) (hk:Cs 4294967294 1073741824 k):Qf Tryz.prog 156 [.agg (cl k)] [.agg (cl k)]:=by
  have h0:k.d≠0:=by have:=hn.2.2.1; omega
  have cm:=Qa2 (Zu k.x) (Zu k.y) (Qe k.d) hk h0
  rw [show Crv.mk k.x k.y k.d=k from rfl,Crv.norm_of hn] at cm
  exact w tt Tryz.func156 rfl [.c [] (Wq (Qe k.d) (Nat.le_trans hk.d (by omega))),.c [] U9,.f (by simpa using h0),.c [] cm] rfl rfl trivial
theorem Qjh {a b:Crv} (ha:Nml a) (hb:Nml b) (ca:Cb a) (cb:Cb b):Qf Tryz.prog 117 [.agg (cl a),.agg (cl b)] [pr (Jd a b)]:=by
  have l1:=ca.lx
  have l2:=cb.lx
  have l3:=Xk b.x a.d
  have l4:=Xk a.x b.d
  exact w tt Tryz.func117 rfl [.c [] (P7 ha (ca.mono (by omega) (by omega))),.c [] (P7 hb (cb.mono (by omega) (by omega))),.c [] (Fp (by omega) (Qc cb.x (by omega)) (Nat.le_trans ca.d (by omega))),.c [] (Fp (by omega) (Qc ca.x (by omega)) (Nat.le_trans cb.d (by omega))),.c [] (Ed (by omega) (by omega) (Qc (Xy cb.x ca.d) (by omega)) (Qc (Xy ca.x cb.d) (by omega)))] rfl rfl trivial
theorem Qja {a b:Crv} (ha:Nml a) (hb:Nml b) (ca:Cb a) (cb:Cb b):Qf Tryz.prog 118 [.agg (cl a),.agg (cl b)] [pr (Jg a b)]:=by
  have l1:=ca.ly
  have l2:=cb.ly
  have l3:=Xk b.y a.d
  have l4:=Xk a.y b.d
  exact w tt Tryz.func118 rfl [.c [] (P7 ha (ca.mono (by omega) (by omega))),.c [] (P7 hb (cb.mono (by omega) (by omega))),.c [] (Fp (by omega) (Qc cb.y (by omega)) (Nat.le_trans ca.d (by omega))),.c [] (Fp (by omega) (Qc ca.y (by omega)) (Nat.le_trans cb.d (by omega))),.c [] (Ed (by omega) (by omega) (Qc (Xy cb.y ca.d) (by omega)) (Qc (Xy ca.y cb.d) (by omega)))] rfl rfl trivial
def Jh (ps:List (List Int)):List (List LV):=ps.map fun p=>[pl p]
theorem Xa {ps:List (List Int)} {i:Nat} {p:List Int} (h:ps[i]? = some p):(Jh ps)[i]? = some [pl p]:=J0 h
end Orr

namespace Orr
open Go Go.Proofs
set_option maxRecDepth 10000
theorem Qo4 {p q:List Int}:Qf Tryz.prog 116 [pr p,pr q] [pr (Ra p q)]:=by
  by_cases h:0<p.length
  · exact w tt Tryz.func116 rfl [.t (by simp; omega)] rfl (by simp only [Ra]; rw [if_pos h]) trivial
  · exact w tt Tryz.func116 rfl [.f (by simp; exact List.eq_nil_of_length_eq_zero (by omega))] rfl (by simp only [Ra]; rw [if_neg h]) trivial
theorem Qmn:Qf Tryz.prog 115 [.one (.int .i64 1)] [.one (.int .i64 2)]:=w tt Tryz.func115 rfl [.t rfl,.t rfl] rfl rfl trivial
theorem Qmo:Qf Tryz.prog 115 [.one (.int .i64 3)] [.one (.int .i64 3)]:=w tt Tryz.func115 rfl [.f rfl,.f rfl,.t rfl] rfl rfl trivial
theorem Qok {k i0 i1 i2 i3 l j0 j1 j2 j3:Int}:Qf Tryz.prog 96 [.agg [.int .i64 k,.int .i64 i0,.int .i64 i1,.int .i64 i2,.int .i64 i3],.agg [.int .i64 l,.int .i64 j0,.int .i64 j1,.int .i64 j2,.int .i64 j3]] [.one (.bool (Ka [k,i0,i1,i2,i3] [l,j0,j1,j2,j3]))]:=by
  by_cases hk:k=l
  · subst hk
    rw [show Ka [k,i0,i1,i2,i3] [k,j0,j1,j2,j3]=Ka [i0,i1,i2,i3] [j0,j1,j2,j3] from by simp [Ka]]
    refine Jb Tryz.func96 rfl ?_
    refine go tt [.f (by simp)] rfl trivial ?_
    refine lp (S:=Nat) 2 (fun L1 i=>(19,.v (.one (.int .i64 (i:Int))))::L1) (fun _=>[.blk 120 [.int .i64 k,.int .i64 i0,.int .i64 i1,.int .i64 i2,.int .i64 i3],.blk 120 [.int .i64 k,.int .i64 j0,.int .i64 j1,.int .i64 j2,.int .i64 j3]]) (fun i=>4-i) (fun i=>i≤4∧Ka ([i0,i1,i2,i3].drop i) ([j0,j1,j2,j3].drop i)=Ka [i0,i1,i2,i3] [j0,j1,j2,j3]) 0 ⟨by omega,rfl⟩ rfl (fun _ _=>rfl) rfl fun i ⟨hi,he⟩=>?_
    rw [←he]
    rcases (show i=0∨i=1∨i=2∨i=3∨i=4 by omega) with rfl | rfl | rfl | rfl | rfl
    · by_cases h:i0=j0
      · exact go tt [.t rfl,.i 0,.i 0,.f (by simpa using h)] rfl (by simp [Qa]) (rd 1 (by omega) ⟨by omega,by simp [Ka,h]⟩ rfl)
      · exact en tt [.t rfl,.i 0,.i 0,.t (by simpa using h),.i 0] rfl (by simp [Ka,h]) trivial
    · by_cases h:i1=j1
      · exact go tt [.t rfl,.i 1,.i 1,.f (by simpa using h)] rfl (by simp [Qa]) (rd 2 (by omega) ⟨by omega,by simp [Ka,h]⟩ rfl)
      · exact en tt [.t rfl,.i 1,.i 1,.t (by simpa using h),.i 1] rfl (by simp [Ka,h]) trivial
    · by_cases h:i2=j2
      · exact go tt [.t rfl,.i 2,.i 2,.f (by simpa using h)] rfl (by simp [Qa]) (rd 3 (by omega) ⟨by omega,by simp [Ka,h]⟩ rfl)
      · exact en tt [.t rfl,.i 2,.i 2,.t (by simpa using h),.i 2] rfl (by simp [Ka,h]) trivial
    · by_cases h:i3=j3
      · exact go tt [.t rfl,.i 3,.i 3,.f (by simpa using h)] rfl (by simp [Qa]) (rd 4 (by omega) ⟨by omega,by simp [Ka,h]⟩ rfl)
      · exact en tt [.t rfl,.i 3,.i 3,.t (by simpa using h),.i 3] rfl (by simp [Ka,h]) trivial
    · exact en tt [.f rfl] rfl (by simp [Ka]) trivial
  · exact w tt Tryz.func96 rfl [.t (by simpa using hk)] rfl (by simp [Ka,hk]) trivial
abbrev zCt:List LV:=[.int .i64 0,.int .i64 0,.int .i64 0,.int .i64 0,.int .i64 0,.nils,.int .i64 0]
def Q4 (l:List Ct):List (List LV):=l.map Pl
theorem Er {l:List Ct} {i:Nat} {c:Ct} (h:l[i]? = some c):(Q4 l)[i]? = some (Pl c):=J0 h
theorem Ug (l:List Ct):(Q4 l).length=l.length:=by simp [Q4]
theorem Qps (l:List Ct):∀ c∈Q4 l,c.length=7:=fun c hc=>by
  obtain ⟨x,_,rfl⟩:=List.mem_map.1 hc; rfl
theorem Qq6 {O:List Ct} {z:List LV} {c:Ct} {k m:Nat} {l2:List (List LV)} (hk:k≤O.length) (hp:Rx O c O.length=k) (hm:m=O.length-k) (h2:l2.take m=((Q4 O++[z]).drop k).take m) :
    ((Q4 O++[z]).take (k+1)++(l2.take m++(Q4 O++[z]).drop (k+1+m))).set k (Pl c)=Q4 (Pf O c):=by
  rw [h2,←List.append_assoc,Qeb (Q4 O) z (Pl c) (by rw [Ug]; omega) (by rw [Ug]; omega)]
  simp [Pf,hp,Q4,List.map_take,List.map_drop]
theorem Qox {l:List Ct} (hl:∀ c∈l,Pb c.p) (hn:l.length≤1000000):Qf Tryz.prog 50 [.one (.row (Q4 l))] [.one (.row (Q4 (Z4 l)))]:=by
  have hcl:=Ug l
  refine Jb Tryz.func50 rfl ?_
  refine go tt [.o 3 122 7] rfl trivial ?_
  refine lp (S:=Nat) 1 (fun L1 i=>(9,.v (.one (.int .i64 (i:Int))))::(3,.v (.one (.orow 0 7 none)))::L1) (fun i=>[.row false 122 7 (Q4 (Z4 (l.take i)))]) (fun i=>l.length-i) (fun i=>i≤l.length) 0 (Nat.zero_le _) rfl (fun _ _=>rfl) rfl fun i hi=>?_
  by_cases hlt:i<l.length
  · obtain ⟨c,hc⟩:∃ c,l[i]? = some c:=⟨_,List.getElem?_eq_getElem hlt⟩
    have hst:=Qij hc
    have hcp:=hl c (List.mem_of_getElem? hc)
    obtain ⟨O,hO⟩:∃ O,O=Z4 (l.take i):=⟨_,rfl⟩
    have hOl:O.length=i:=by rw [hO,Gl,List.length_take]; omega
    rw [←hO] at hst ⊢
    refine go tt [.t (by simp [hcl]; omega),.x (Er hc)] rfl trivial ?_
    refine lp (S:=Nat) 2 (fun L1 k=>(6,.v (.one (.int .i64 (k:Int))))::L1) (fun k=>[.row false 122 7 (Q4 O),.blk 122 (Pl c)]) id (fun k=>k≤O.length∧Rx O c k=Rx O c O.length) (Q4 O).length ⟨by rw [Ug]; exact Nat.le_refl _,by rw [Ug]⟩ rfl (fun _ _=>rfl) rfl fun k ⟨hk,hp⟩=>?_
    have hz:∀ y∈[zCt],y.length=7:=fun y hy=>by rw [List.mem_singleton.1 hy]; rfl
    have h77:∀ y∈Q4 O++[zCt],y.length=7:=fun y hy=>by
      rcases List.mem_append.1 hy with hy | hy
      · exact Qps O y hy
      · exact hz y hy
    cases k with
    |
     zero =>
     have hp:Rx O c O.length=0:=by rw [←hp]; rfl
     refine go tt [.g 17 false (by simp),.f rfl,.s (sz:=7) hz,.r 36 (eI (b:=((0+1:Nat):Int)) (by simp)),.i (0+1),.i (0),.s (sz:=7) (fun y hy=>h77 y (List.mem_of_mem_take hy)),.i (O.length),.c [] (Zy hcp.t (by have:=hcp.l; omega) (Qc hcp.b (by omega))),.i (0)] rfl (by simp [Qa,Ug]; omega) ?_
     exact rd (i+1) (by omega) hlt (by rw [hst,←Qq6 (z:=zCt) (l2:=(Q4 O++[zCt]).take ((Q4 O++[zCt]).length-0)) (k:=0) (m:=O.length) (by omega) hp (by omega) (by congr 1; exact List.take_of_length_le (by simp))]; rfl)
    |
     succ k =>
     obtain ⟨x,hx⟩:∃ x,O[k]? = some x:=⟨_,List.getElem?_eq_getElem (by omega)⟩
     by_cases hlc:Qei c x=true
     · refine go tt [.g 17 true (by simp),.r 22 (eI (b:=(k:Int)) (by simp)),.i k,.x (Er hx),.c [] Qok,.t hlc,.r 29 (eI (b:=(k:Int)) (by simp))] rfl (by simp [Qa,Ug]; omega) ?_
       exact rd k (by simp) ⟨by omega,by rw [←hp,Qwf hx hlc]⟩ rfl
     · have hlc:Qei c x=false:=by simpa using hlc
       have hp:Rx O c O.length=k+1:=by rw [←hp,Qr9 hx hlc]
       refine go tt [.g 17 true (by simp),.r 22 (eI (b:=(k:Int)) (by simp)),.i k,.x (Er hx),.c [] Qok,.f hlc,.s (sz:=7) hz,.r 36 (eI (b:=((k+1+1:Nat):Int)) (by simp)),.i (k+1+1),.i (k+1),.s (sz:=7) (fun y hy=>h77 y (List.mem_of_mem_drop (List.mem_of_mem_take hy))),.i (O.length-(k+1)),.c [] (Zy hcp.t (by have:=hcp.l; omega) (Qc hcp.b (by omega))),.i (k+1)] rfl (by simp [Qa,Ug]; omega) ?_
       exact rd (i+1) (by omega) hlt (by rw [hst,←Qq6 (z:=zCt) (l2:=((Q4 O++[zCt]).drop (k+1)).take ((Q4 O++[zCt]).length-(k+1))) (k:=k+1) (m:=O.length-(k+1)) (by omega) hp (by omega) (by congr 1; exact List.take_of_length_le (by simp))]; rfl)
  · obtain rfl:i=l.length:=by omega
    rw [List.take_length]
    exact en tt [.f (by simp [hcl])] rfl rfl trivial
end Orr

namespace Orr
def Qo (p:List Int):Int:=p.getD (p.length-1) 0
def chk (p:List Int):Option (List Int):=if p.length≤64∧(p.all fun z=>Nat.ble (Qt z) 16777216)=true then some p else none
def chq (q:Rat):Option Rat:=if Qt q.num≤16777216∧Qt (q.den:Int)≤16777216 then some q else none
def Jl (p:List Int):Int:=(Xf p:Nat)
def Kb (p:List Int) (c:Int):List Int:=Qp (p.map (· / c))
def Zr (p:List Int):Int:=if Qo p<0 then -Jl p else Jl p
def Qn (p:List Int):List Int:=if p.length=0 then [] else Kb p (Zr p)
def mono (i:Nat) (x:Int):List Int:=List.replicate i 0++[x]
def psd (b:List Int) (c:Int):Nat→List Int×List Int→List Int×List Int
  | 0,s=>s
  |
   i+1,(q,r) =>
   psd b c i (Mx (Zo q c) (mono i (if r.length=b.length+i then Qo r else 0)),We (Zo r c) (Zn (Qp (mono i (if r.length=b.length+i then Qo r else 0))) b))
def J4 (a b:List Int):List Int:=(psd b (Qo b) (a.length+1-b.length) ([],a)).2
def Ve (a b r:List Int):List Int:=if (a.length+1-b.length) % 2=1∧Qo b<0 then Uv r else r
def Sw (r:List Int):List Int:=if r.length=0 then [] else Kb r (Jl r)
def Xh (a b:List Int):List Int:=Sw (Ve a b (J4 a b))
def Qb5 (b:List Int):Nat→List Int→List Int→Option (List Int)
  | 0,a,q=>if a.length=0 then some q else none
  | i+1,a,q=>if a.length<b.length+i then Qb5 b i a q else if Qo a % Qo b=0 then Qb5 b i (We a (Zn (Qp (mono i (Qo a / Qo b))) b)) (q.set i (Qo a / Qo b)) else none
def Ry (a b:List Int):Option (List Int):=if b.length=0 then none else (Qb5 b (a.length+1-b.length) a (List.replicate (a.length+1-b.length) 0)).bind fun q=>chk (Qp q)
def Ch:Nat→List Int→List Int→Option (List Int)
  | 0,_,_=>none
  | k+1,a,b=>if b.length=0 then some a else (chk (Xh a b)).bind fun r=>Ch k b r
def R7 (a b:List Int):Option (List Int):=(Ch 66 (Qn a) (Qn b)).map Qn
def Qb7 (a b:List Int):Option (List Int):=(R7 [] a).bind fun g=>R7 g b
def Yk (a:List Int):Option (List Int):=if (Qn a).length<2 then some (Qn a) else (chk (Zv (Qn a))).bind fun d=>(R7 (Qn a) d).bind fun g=>Ry (Qn a) g
def Bv:Nat→List Int→Option (List (List Int))
  | 0,_=>none
  | k+1,g=>if g.length<2 then some [] else (chk (Zv g)).bind fun d=>(R7 g d).bind fun h=>(Ry g h).bind fun w=>(Bv k h).bind fun l=>some (w::l)
def Iu:List (List Int)→Option (List (List Int))
  | []=>some []
  | [w]=>some [w]
  | w::v::l=>(Ry w v).bind fun f=>(Iu (v::l)).bind fun r=>some (f::r)
def Mt:Nat→List Int→List (List Int)→Option (List Int)
  | _,p,[]=>some p
  | i,p,f::l=>if i % 2=0 then (chk (Zn p f)).bind fun q=>Mt (i+1) q l else Mt (i+1) p l
def Qhv (a:List Int):Option (List Int):=if (Qn a).length=0 then some [] else (Bv 66 (Qn a)).bind fun l=>(Iu l).bind fun fs=>Mt 0 [1] fs
def chF:Nat→List Int→List Int→Option (List (List Int))
  | 0,_,_=>none
  | k+1,a,b=>if b.length=0 then some [] else (chk (Xh a b)).bind fun r=>(chF k b (Uv r)).bind fun l=>some (b::l)
def Hm (p:List Int):Option (List (List Int)):=(Yk p).bind fun a=>if a.length=0 then none else (chk (Zv a)).bind fun d=>(chF 66 a (Qn d)).bind fun l=>some (a::l)
def Jq (sg:List Int→Int) (s:Nat×Int) (p:List Int):Nat×Int:=if sg p=0 then s else (if s.2=-(sg p) then s.1+1 else s.1,sg p)
def V1 (sg:List Int→Int) (l:List (List Int)):Nat:=(l.foldl (Jq sg) (0,0)).1
def V2 (l:List (List Int)) (q:Rat):Nat:=V1 (fun p=>Xb p q) l
def Xq (l:List (List Int)) (lo hi:Rat):Int:=if Zm hi lo<0 then 0 else (V2 l lo:Int)-(V2 l hi:Int)
def Ma (p:List Int):Int:=Int.sign (Qo p)
def Hp (p:List Int):Int:=if p.length % 2=0 then -Int.sign (Qo p) else Int.sign (Qo p)
def R9 (l:List (List Int)):Int:=(V1 Hp l:Int)-(V1 Ma l:Int)
def Hf:List Int→Nat:=fun l=>l.foldl (fun m z=>if m<z.natAbs then z.natAbs else m) 0
def Zj (p:List Int):Rat:=Rat.divInt (((Qo p).natAbs:Int)+(Hf (p.take (p.length-1)):Int)) ((Qo p).natAbs:Int)
def mid (a b:Rat):Rat:=Rat.divInt (a.num*(b.den:Int)+b.num*(a.den:Int)) ((a.den:Int)*(b.den:Int)*2)
def Up (p:List Int) (c:List (List Int)):Nat→Rat→Rat→Int→Option (List Tm)
  | 0,_,_,_=>none
  | k+1,lo,hi,n=>if n=0 then some [] else if n=1 then some [⟨p,lo,hi⟩] else (chq (mid lo hi)).bind fun m=>(Up p c k lo m (Xq c lo m)).bind fun l=>(Up p c k m hi (n-Xq c lo m)).bind fun r=>some (l++r)
def Ic (p:List Int):Option (List Tm):=(Hm p).bind fun c=>(Yk p).bind fun q=>(chq (Zj q)).bind fun b=>Up q c 100000 (-b) b (R9 c)
def Tm.point (a:Tm):Bool:=decide (0≤Zm a.lo a.hi)
def low (p:List Int) (q:Rat):Int:=if Xb p q≠0 then Xb p q else Xb (Zv p) q
def Me (p:List Int) (lo hi:Rat):Bool:=decide (Xb p hi=0∨Xb p hi≠low p lo)
def Qu (a:Tm) (t:Rat):Int :=
  if a.point=true then Zm a.lo t else if Zm t a.lo≤0 then 1 else if 0<Zm t a.hi then -1 else if Xb a.p t=0 then 0 else if Xb a.p t=low a.p a.lo then 1 else -1
def Qbo (a:Tm):Option Tm:=if a.point=true then some a else (chq (mid a.lo a.hi)).bind fun m =>
  some (if Qu a m=0 then ⟨a.p,m,m⟩ else if Qu a m=-1 then ⟨a.p,a.lo,m⟩ else ⟨a.p,m,a.hi⟩)
def Zd (p:List Int):Nat:=p.foldl (fun n z=>max n (Qt z)) 0
def Jz (a b:Tm):Nat:=64+2*(Qt a.lo.num+Qt a.hi.num+Qt b.lo.num+Qt b.hi.num)+4*(a.p.length+b.p.length)*(Zd a.p+Zd b.p+(a.p.length+b.p.length)+8)
def Ie (a b:Rat):Rat:=Rat.divInt (a.num*(b.den:Int)-b.num*(a.den:Int)) ((a.den:Int)*(b.den:Int))
def V8 (a b:Tm):Bool:=decide (Zm a.hi b.lo≤0∧¬((a.point=true∧b.point=true)∧Zm a.hi b.lo=0))
def Iq:Nat→Tm→Tm→Option (Tm×Tm×Int)
  | 0,a,b=>some (a,b,0)
  |
   k+1,a,b=>if V8 a b=true then some (a,b,-1) else if V8 b a=true then some (a,b,1) else
   if 0≤Zm (Ie a.hi a.lo) (Ie b.hi b.lo) then (Qbo a).bind fun x=>Iq k x b else (Qbo b).bind fun x=>Iq k a x
def En (a b:Tm):Option Int:=if a.point=true then some (-Qu b a.lo) else if b.point=true then some (Qu a b.lo) else
  let lo:=if 0<Zm b.lo a.lo then b.lo else a.lo
  let hi:=if Zm b.hi a.hi<0 then b.hi else a.hi
  if Zm lo hi<0 then (Qb7 a.p b.p).bind fun g=>if 1<g.length∧Me g lo hi=true then some 0 else (Iq (Jz a b) a b).bind fun r=>some r.2.2
  else (Iq (Jz a b) a b).bind fun r=>some r.2.2
def sgF (c:List (List Int)):Nat→Tm→Option Tm
  | 0,a=>some a
  | k+1,a=>if a.point=true∨Xq c a.lo a.hi=0 then some a else (Qbo a).bind fun x=>sgF c k x
def Qag (p:List Int) (a:Tm):Option Int:=if p.length=0 then some 0 else if a.point=true then some (Xb p a.lo) else
  (Qb7 p a.p).bind fun g=>if 1<g.length∧Me g a.lo a.hi=true then some 0 else (Hm p).bind fun c=>(sgF c (64+2*(Qt a.lo.num+Qt a.hi.num)+4*(a.p.length+p.length)*(Zd a.p+Zd p+(a.p.length+p.length)+8)) a).bind fun x=>some (Xb p x.hi)
def Ha:Tm→List Tm→Option Tm
  | b,[]=>some b
  | b,a::l=>(En a b).bind fun c=>Ha (if c<0 then a else b) l
def Sv (a:Tm):List Tm→Option (Option Tm)
  | []=>some none
  | r::l=>(En r a).bind fun c=>if 0<c then some (some r) else Sv a l
def Pw (p:List Int):Option (List Tm):=(Qhv p).bind fun q=>if q.length=0 then some [] else Ic q
def C9 (p:List Int) (a:Tm):Option (Option Tm):=(Pw p).bind fun l=>Sv a l
end Orr

namespace Orr
open Go Go.Proofs
set_option maxRecDepth 10000
theorem Wu {p:List Int} (tp:Qm p) (h:p.length≠0):Qo p≠0:=Xi tp (by omega)
theorem An {p:List Int} (h:p.length≠0):Qo p∈p:=List.mem_of_getElem? (Xo (by omega))
theorem Yp {s:Nat} {p:List Int} (h:Bd s p):Qt (Qo p)≤s:=Q7 h _
theorem W8 {p:List Int}:∀ z∈p,Jl p∣z:=Fw
theorem Rv {p:List Int} (tp:Qm p) (h:p.length≠0):Jl p≠0:=fun h0=>Wu tp h (Int.zero_dvd.1 (h0 ▸ W8 _ (An h)))
theorem Tr {p:List Int} (h:Bd 4294967295 p):Qt (Jl p)≤4294967295:=D8 h
theorem Qli {p:List Int} (tp:Qm p) (h:p.length≠0):Zr p≠0:=by
  have:=Rv tp h
  unfold Zr; split <;> omega
theorem Mz {p:List Int}:∀ z∈p,Zr p∣z:=fun z hz=>by
  unfold Zr; split
  · exact Int.neg_dvd.2 (W8 z hz)
  · exact W8 z hz
theorem Qq9 {p:List Int} (h:Bd 4294967295 p):Qt (Zr p)≤4294967295:=by
  unfold Zr; split
  · rw [U3]; exact Tr h
  · exact Tr h
theorem L8 {s:Nat} {p:List Int} (h:Bd s p) (c:Int):Bd s (Kb p c):=X3 (Nu h c)
theorem Oy (p:List Int) (c:Int):(Kb p c).length≤p.length:=Nat.le_trans (Z8 _) (by simp)
theorem Hh (p:List Int) (c:Int):Qm (Kb p c):=Z2 _
theorem Qr3 {p:List Int} (h:Pb p) (c:Int):Pb (Kb p c):=⟨Hh _ _,Nat.le_trans (Oy _ _) h.l,L8 h.b c⟩
theorem B8:Pb []:=⟨rfl,by simp,Nv⟩
theorem Xe {p:List Int} (h:Pb p):Pb (Qn p):=by
  unfold Qn; split
  · exact B8
  · exact Qr3 h _
theorem Pb.bd {p:List Int} (h:Pb p):Bd 4294967295 p:=Qc h.b (by omega)
theorem Pb.ln {p:List Int} (h:Pb p):p.length<274877906944:=Nat.lt_of_le_of_lt h.l (by omega)
theorem Pb.ln' {p:List Int} (h:Pb p):p.length<8589934592:=Nat.lt_of_le_of_lt h.l (by omega)
theorem Gy {p q:List Int} (tp:Qm p) (h:chk p=some q):q=p∧Pb p:=by
  unfold chk at h
  split at h
  · rename_i hc
    injection h with h
    refine ⟨h.symm,tp,hc.1,fun z hz=>?_⟩
    have:=List.all_eq_true.1 hc.2 z hz
    exact Nat.le_of_ble_eq_true this
  · cases h
theorem Qjl {p:List Int} {g:Int} (hl:p.length<274877906944) (hp:Bd 4294967295 p) (hg:Qt g≤4294967295) (h0:g≠0) (hd:∀ z∈p,g∣z):Qf Tryz.prog 236 [pr p,.agg (Z1 g)] [pr (Kb p g)]:=by
  refine Jb Tryz.func236 rfl ?_
  refine go tt [.r 9 (eI (b:=(p.length:Int)) (by simp)),.i p.length,.i p.length,.r 12 (eI (b:=(p.length:Int)) (by simp))] rfl (by simp [Qa]; omega) ?_
  rw [Uj fun k=>Z1 (p.getD k 0 / g)]
  refine lp (S:=Nat) 2 (fun L1 k=>(13,.v (.one (.int .i64 (k:Int))))::L1) (fun k=>[.blk 27 (Z1 g),.row false 27 2 (Im (fun k=>Z1 (p.getD k 0 / g)) [.bool false,.nils] p.length k)]) (fun k=>p.length-k) (fun k=>k≤p.length) 0 (Nat.zero_le _) rfl (fun _ _=>rfl) rfl fun k hk=>?_
  by_cases hlt:k<p.length
  · have hg2:=Xo hlt
    refine go tt [.t (by simp; omega),.x (Jy hg2),.c [] (Uw (Qe _) (Qe _) (Q7 hp k) hg h0 (Int.emod_eq_zero_of_dvd (hd _ (List.mem_of_getElem? hg2)))),.i k] rfl (by simp [Qa,U0]; omega) ?_
    have e:=G7 (fun k=>Z1 (p.getD k 0 / g)) [.bool false,.nils] hlt
    rw [e]
    exact rd (k+1) (by omega) hlt rfl
  · obtain rfl:k=p.length:=by omega
    have e:Im (fun k=>Z1 (p.getD k 0 / g)) [.bool false,.nils] p.length p.length=(p.map (· / g)).map Z1:=by
      rw [G6]
      refine List.ext_getElem? fun i=>?_
      by_cases hi:i<p.length
      · simp [List.getElem?_range hi,List.getD,List.getElem?_eq_getElem hi]
      · simp [List.getElem?_eq_none,hi]
    rw [e]
    exact en tt [.f (by simp),.c [] (Wp (Zu (p.map (· / g))) (by simp; exact hl) (Nu hp g))] rfl rfl trivial
theorem Nx {p:List Int} (hl:p.length<8589934592) (hp:Bd 4294967295 p):Qf Tryz.prog 237 [.one (.row [[pl p]])] [.agg (Z1 (Jl p))]:=by
  refine Jb Tryz.func237 rfl ?_
  refine go tt [.o 3 27 2] rfl trivial ?_
  refine lp (S:=Nat) 2 (fun L1 i=>(8,.v (.one (.int .i64 (i:Int))))::(3,.v (.one (.orow 1 2 none)))::L1) (fun i=>[.blk 27 [.bool false,.nils],.row false 27 2 (if i=0 then [] else p.map Z1)]) (fun i=>1-i) (fun i=>i≤1) 0 (Nat.zero_le _) rfl (fun _ _=>rfl) rfl fun i hi=>?_
  rcases (show i=0∨i=1 by omega) with rfl | rfl
  · refine go tt [.t rfl,.x (i:=0) (xs:=[pl p]) rfl,.s (A2 p)] rfl (by simp [Qa]; omega) ?_
    exact rd 1 (by omega) (by omega) rfl
  · exact en tt [.f rfl,.c [] (Qog (Zu p) hp)] rfl rfl trivial
theorem Qpc {p:List Int} (tp:Qm p) (hl':p.length<8589934592) (hp:Bd 4294967295 p):Qf Tryz.prog 232 [pr p] [.agg (Z1 (if p.length=0 then 0 else Zr p)),pr (Qn p)]:=by
  have hl:p.length<274877906944:=by omega
  have cn:=Zy tp hl hp
  by_cases h0:p.length=0
  · have e:p=[]:=List.eq_nil_of_length_eq_zero h0
    subst e
    exact w tt Tryz.func232 rfl [.c [] cn,.t rfl] rfl (by simp [Gb,Qn]; rfl) trivial
  · have hpf:Qn p=Kb p (Zr p):=by unfold Qn; rw [if_neg h0]
    rw [if_neg h0,hpf]
    have co:=Qjl hl hp (Qq9 hp) (Qli tp h0) Mz
    by_cases hneg:Qo p<0
    · have e:Zr p=-Jl p:=by unfold Zr; rw [if_pos hneg]
      rw [e] at co ⊢
      exact w tt Tryz.func232 rfl [.c [] cn,.f (by simpa using h0),.c [] (Nx hl' hp),.c [] (Kj tp hl hp),.t (by simpa [Qo] using hneg),.c [] (Ec (Qe _) (Tr hp)),.c [] co] rfl rfl trivial
    · have e:Zr p=Jl p:=by unfold Zr; rw [if_neg hneg]
      rw [e] at co ⊢
      exact w tt Tryz.func232 rfl [.c [] cn,.f (by simpa using h0),.c [] (Nx hl' hp),.c [] (Kj tp hl hp),.f (by simpa [Qo] using hneg),.c [] co] rfl rfl trivial
theorem Ux {p:List Int} (hp:Pb p):Qf Tryz.prog 196 [pr p] [pr (Qn p)] :=
  w tt Tryz.func196 rfl [.c [] (Qpc hp.t hp.ln' hp.bd)] rfl rfl trivial
theorem Y8 (p:List Int):Qf Tryz.prog 109 [pr p] [.one (.int .i64 ((p.length:Int)-1))]:=by
  have h:Qf Tryz.prog 109 [pr p] [.one (.int .i64 (((p.map Z1).length:Int)-1))]:=Jb Tryz.func109 rfl (ln 0 rfl rfl fun hl=>en tt [] rfl rfl (by simp [Qa] at hl ⊢; omega))
  rw [List.length_map] at h; exact h
theorem Fz (i:Nat) (x:Int):(mono i x).length=i+1:=by simp [mono]
theorem Lz {s i:Nat} {x:Int} (h:Qt x≤s):Bd s (mono i x):=fun z hz=>by
  simp only [mono,List.mem_append,List.mem_singleton] at hz
  rcases hz with hz | rfl
  · rw [(List.mem_replicate.1 hz).2,Ul]; exact Nat.zero_le _
  · exact h
def stq (c:Int) (i:Nat) (x:Int) (q:List Int):List Int:=Mx (Zo q c) (mono i x)
def str (b:List Int) (c:Int) (i:Nat) (x:Int) (r:List Int):List Int:=We (Zo r c) (Zn (Qp (mono i x)) b)
theorem Qy0 {u t i:Nat} {c x:Int} {q:List Int} (hq:Bd u q) (hc:Qt c≤t) (hx:Qt x≤u):Bd (u+t+8) (stq c i x q) :=
  Qc (Qi8 (Xy hq hc) (Lz hx)) (by omega)
theorem Qvv {c x:Int} {i:Nat} {q:List Int}:(stq c i x q).length≤max q.length (i+1):=by
  have h:=Qeh (Zo q c) (mono i x)
  have h1:=Xk q c
  rw [Fz] at h
  unfold stq; omega
theorem Qbt {i:Nat} {x:Int} {b:List Int}:(Zn (Qp (mono i x)) b).length≤i+b.length:=by
  have h:=Ap (Qp (mono i x)) b
  have h1:=Z8 (mono i x)
  rw [Fz] at h1; omega
theorem Qi7 {u t i:Nat} {x:Int} {b:List Int} (hb:Bd t b) (hx:Qt x≤u) (hi:i≤64):Bd (u+t+7) (Zn (Qp (mono i x)) b) :=
  Qau (X3 (Lz hx)) hb (Nat.lt_of_le_of_lt (Z8 _) (by rw [Fz]; omega))
theorem Qgm {u t i:Nat} {c x:Int} {b r:List Int} (hr:Bd u r) (hb:Bd t b) (hc:Qt c≤t) (hx:Qt x≤u) (hi:i≤64):Bd (u+t+8) (str b c i x r) :=
  Qc (P5 (Xy hr hc) (Qi7 hb hx hi)) (by omega)
theorem Qbu {c x:Int} {i:Nat} {b r:List Int}:(str b c i x r).length≤max r.length (i+b.length):=by
  have h:=Rk (Zo r c) (Zn (Qp (mono i x)) b)
  have h1:=Xk r c
  have h2:=Qbt (i:=i) (x:=x) (b:=b)
  unfold str; omega
theorem Qep (i:Nat) (x:Int):((List.replicate (i+1) (0:Int)).map Z1).set i (Z1 x)=(mono i x).map Z1:=by
  rw [Qhu,mono]
  congr 1
  refine List.ext_getElem? fun j=>?_
  simp only [List.getElem?_set,List.getElem?_append,List.getElem?_replicate,List.length_replicate]
  by_cases h:j=i
  · subst h; simp
  · rw [if_neg (by omega)]
    by_cases h2:j<i
    · simp [h2]; omega
    · rw [if_neg (by omega),if_neg h2]
      cases hj:j-i with
      | zero=>omega
      | succ m=>simp
theorem Qk2 (i:Nat) {x:Int} {y:List LV} (h:y.map Aw=Z1 x):(((List.replicate (i+1) [LV.bool false,LV.nils]).set i y).map fun c=>c.map Aw)=(mono i x).map Z1:=by
  rw [List.map_set,Ln,h]; exact Qep i x
theorem Rz {b:List Int} {c:Int} {i:Nat} {q r:List Int} {x:Int} (hx:x=if r.length=b.length+i then Qo r else 0):psd b c (i+1) (q,r)=psd b c i (stq c i x q,str b c i x r):=by
  subst hx; rfl
theorem Qoq {a b:List Int} (ha:Pb a) (hb:Pb b) (h0:b.length≠0):Qf Tryz.prog 233 [pr a,pr b] [pr (psd b (Qo b) (a.length+1-b.length) ([],a)).1,pr (J4 a b),.one (.int .i64 ((a.length+1-b.length:Nat):Int)),.one (.int .i64 0)]:=by
  have hal:=ha.l
  have hbl:=hb.l
  have hlb:Qt (Qo b)≤16777216:=Yp hb.b
  obtain ⟨c,hc⟩:∃ c,c=Qo b:=⟨_,rfl⟩
  have cl:=Kj hb.t hb.ln hb.bd
  rw [show b.getD (b.length-1) 0=c from hc.symm] at cl
  obtain ⟨k,hk⟩:∃ k,k=a.length+1-b.length:=⟨_,rfl⟩
  unfold J4
  rw [←hc,←hk]
  rw [←hc] at hlb
  refine Jb Tryz.func233 rfl ?_
  refine go tt [.z 4,.c [] (Zy ha.t ha.ln ha.bd),.c [] (Zy hb.t hb.ln hb.bd),.f (by simpa using h0),.c [] cl,.c [] (Y8 a),.c [] (Y8 b),.r 27 (eI (b:=(k:Int)) (by omega))] rfl (by simp [Qa]; omega) ?_
  refine lp (S:=Nat×List Int×List Int) 1 (fun L1 s=>(4,.v (pr s.2.1))::(5,.v (pr s.2.2))::(9,.v (.one (.int .i64 ((s.1:Int)-1))))::L1) (fun _=>[.blk 27 (Z1 c)]) (fun s=>s.1) (fun s=>s.1≤k∧Qm s.2.2∧s.2.1.length≤66∧s.2.2.length≤a.length∧Bd (16777216+(k-s.1)*16777224) s.2.1∧Bd (16777216+(k-s.1)*16777224) s.2.2∧psd b c s.1 s.2=psd b c k ([],a)) (k,[],a) ⟨Nat.le_refl _,ha.t,by simp,Nat.le_refl _,Nv,by simpa using ha.b,rfl⟩ rfl (fun _ _=>rfl) rfl fun ⟨i,q,r⟩ ⟨j1,j2,j3,j4,j5,j6,j7⟩=>?_
  dsimp only at j1 j2 j3 j4 j5 j6 j7 ⊢
  rw [←j7]
  cases i with
  | zero=>exact en tt [.f (by simp)] rfl rfl trivial
  |
   succ i =>
   obtain ⟨x,hx⟩:∃ x,x=if r.length=b.length+i then Qo r else 0:=⟨_,rfl⟩
   obtain ⟨u,hu⟩:∃ u,u=16777216+(k-(i+1))*16777224:=⟨_,rfl⟩
   rw [←hu] at j5 j6
   have hub:u≤1107296256:=by
     have:(k-(i+1))*16777224≤64*16777224:=Nat.mul_le_mul_right _ (by omega)
     omega
   have hxs:Qt x≤u:=by
     rw [hx]; split
     · exact Yp j6
     · rw [Ul]; exact Nat.zero_le _
   have cs:=Fp (p:=q) (c:=c) (by omega) (Qc j5 (by omega)) (by omega)
   have cs2:=Fp (p:=r) (c:=c) (by omega) (Qc j6 (by omega)) (by omega)
   have l1:=Xk q c
   have l2:=Xk r c
   have ca:=Qol (p:=Zo q c) (q:=mono i x) (by omega) (by rw [Fz]; omega) (Qc (Xy j5 hlb) (by omega)) (Qc (Lz hxs) (by omega))
   have cm:=Qay (p0:=mono i x) hb.t (by rw [Fz]; omega) (by omega) (Lz hxs) hb.b (by omega)
   have l3:=Qbt (i:=i) (x:=x) (b:=b)
   have cb:=Ed (p:=Zo r c) (q:=Zn (Qp (mono i x)) b) (by omega) (by omega) (Qc (Xy j6 hlb) (by omega)) (Qc (Qi7 hb.b hxs (by omega)) (by omega))
   have hst:=Rz (b:=b) (c:=c) (q:=q) hx
   have hI:i≤k∧Qm (str b c i x r)∧(stq c i x q).length≤66∧(str b c i x r).length≤a.length∧Bd (16777216+(k-i)*16777224) (stq c i x q)∧Bd (16777216+(k-i)*16777224) (str b c i x r):=by
     have l5:=Qvv (c:=c) (x:=x) (i:=i) (q:=q)
     have l6:=Qbu (c:=c) (x:=x) (i:=i) (b:=b) (r:=r)
     have hku:u+16777216+8=16777216+(k-i)*16777224:=by
       rw [hu,show k-i=(k-(i+1))+1 from by omega,Nat.add_mul]; omega
     refine ⟨by omega,Zc _ _,by omega,by omega,?_,?_⟩
     · rw [←hku]; exact Qy0 j5 hlb hxs
     · rw [←hku]; exact Qgm j6 hb.b hlb hxs (by omega)
   rw [hst]
   by_cases h:r.length=b.length+i
   · refine go tt [.t (by simp <;> omega),.c [] (Y8 r),.c [] (Y8 b),.t (by simp; omega),.c [] (Kj j2 (by omega) (Qc j6 (by omega))),.r 44 (eI (b:=((i+1:Nat):Int)) (by omega)),.i (i+1),.i (i+1),.r 47 (eI (b:=(i:Int)) (by omega)),.i i] rfl (by simp [Qa]; omega) ?_
     refine nl 2 rfl rfl rfl ?_
     rw [Qk2 i (x:=x) (by rw [hx,if_pos h]; rfl)]
     refine go tt [.c [] cs,.c [] ca,.c [] cs2,.c [] cm,.c [] cb,.r 33 (eI (b:=(i:Int)-1) (by omega))] rfl (by simp [Qa]; omega) ?_
     exact rd (i,stq c i x q,str b c i x r) (by dsimp only; omega) ⟨hI.1,hI.2.1,hI.2.2.1,hI.2.2.2.1,hI.2.2.2.2.1,hI.2.2.2.2.2,rfl⟩ rfl
   · refine go tt [.t (by simp <;> omega),.c [] (Y8 r),.c [] (Y8 b),.f (by simp; omega),.r 44 (eI (b:=((i+1:Nat):Int)) (by omega)),.i (i+1),.i (i+1),.r 47 (eI (b:=(i:Int)) (by omega)),.i i] rfl (by simp [Qa]; omega) ?_
     refine nl 2 rfl rfl rfl ?_
     rw [Qk2 i (x:=x) (by rw [hx,if_neg h,Gb]; rfl)]
     refine go tt [.c [] cs,.c [] ca,.c [] cs2,.c [] cm,.c [] cb,.r 33 (eI (b:=(i:Int)-1) (by omega))] rfl (by simp [Qa]; omega) ?_
     exact rd (i,stq c i x q,str b c i x r) (by dsimp only; omega) ⟨hI.1,hI.2.1,hI.2.2.1,hI.2.2.2.1,hI.2.2.2.2.1,hI.2.2.2.2.2,rfl⟩ rfl
theorem Qsd {b:List Int} {c:Int} (hb:Bd 16777216 b) (hc:Qt c≤16777216) {n:Nat}:∀ (i u:Nat) (q r:List Int),i≤64→i+b.length≤n+1→Qm r→r.length≤n→Bd u r→Qm (psd b c i (q,r)).2∧(psd b c i (q,r)).2.length≤n∧Bd (u+i*16777224) (psd b c i (q,r)).2
  | 0,u,q,r,_,_,h1,h2,h3=>⟨h1,h2,by simpa [psd] using h3⟩
  |
   i+1,u,q,r,hi,hn,h1,h2,h3=>by
   rw [Rz rfl]
   have hx:Qt (if r.length=b.length+i then Qo r else 0)≤u:=by
     split
     · exact Yp h3
     · rw [Ul]; exact Nat.zero_le _
   have l6:=Qbu (c:=c) (x:=if r.length=b.length+i then Qo r else 0) (i:=i) (b:=b) (r:=r)
   have:=Qsd hb hc (n:=n) i (u+16777216+8) (stq c i (if r.length=b.length+i then Qo r else 0) q) (str b c i (if r.length=b.length+i then Qo r else 0) r) (by omega) (by omega) (Zc _ _) (by omega) (Qgm h3 hb hc hx (by omega))
   exact ⟨this.1,this.2.1,Qc this.2.2 (by omega)⟩
theorem Qlm {a b:List Int} (ha:Pb a) (hb:Pb b) (h0:b.length≠0):Qm (J4 a b)∧(J4 a b).length≤a.length∧Bd 1107296256 (J4 a b):=by
  have hal:=ha.l
  by_cases h:b.length≤a.length+1
  · obtain ⟨h1,h2,h3⟩:=Qsd hb.b (Yp hb.b) (n:=a.length) (a.length+1-b.length) 16777216 [] a (by omega) (by omega) ha.t (Nat.le_refl _) ha.b
    refine ⟨h1,h2,Qc h3 ?_⟩
    have:(a.length+1-b.length)*16777224≤64*16777224:=Nat.mul_le_mul_right _ (by omega)
    omega
  · have e:J4 a b=a:=by unfold J4; rw [show a.length+1-b.length=0 from by omega]; rfl
    rw [e]
    exact ⟨ha.t,Nat.le_refl _,Qc ha.b (by omega)⟩
theorem M5 {a b r:List Int} {s n:Nat} (h1:Qm r) (h2:r.length≤n) (h3:Bd s r):Qm (Ve a b r)∧(Ve a b r).length≤n∧Bd s (Ve a b r):=by
  unfold Ve; split
  · exact ⟨Zc _ _,Nat.le_trans (Aq r) h2,Qav h3⟩
  · exact ⟨h1,h2,h3⟩
theorem A4 {r:List Int} {s n:Nat} (h2:r.length≤n) (h3:Bd s r):Qm (Sw r)∧(Sw r).length≤n∧Bd s (Sw r):=by
  unfold Sw; split
  · exact ⟨rfl,by simp,Nv⟩
  · exact ⟨Hh _ _,Nat.le_trans (Oy _ _) h2,L8 h3 _⟩
theorem M3 {a b:List Int} (ha:Pb a) (hb:Pb b) (h0:b.length≠0):Qm (Xh a b)∧(Xh a b).length≤a.length∧Bd 1107296256 (Xh a b):=by
  obtain ⟨h1,h2,h3⟩:=Qlm ha hb h0
  obtain ⟨h4,h5,h6⟩:=M5 (a:=a) (b:=b) h1 h2 h3
  exact A4 h5 h6
theorem Qos {a b:List Int} (ha:Pb a) (hb:Pb b) (h0:b.length≠0):Qf Tryz.prog 197 [pr a,pr b] [pr (Xh a b),.one (.int .i64 0)]:=by
  obtain ⟨h1,h2,h3⟩:=Qlm ha hb h0
  obtain ⟨h4,h5,h6⟩:=M5 (a:=a) (b:=b) h1 h2 h3
  have hal:=ha.l
  have cp:=Qoq ha hb h0
  have cl:=Kj hb.t hb.ln hb.bd
  have cn:=Qop (p:=J4 a b) (by omega) (Qc h3 (by omega))
  unfold Xh
  obtain ⟨r,hr⟩:∃ r,r=Ve a b (J4 a b):=⟨_,rfl⟩
  have cc:=Nx (p:=r) (by rw [hr]; omega) (by rw [hr]; exact Qc h6 (by omega))
  rw [←hr] at h4 h5 h6 ⊢
  obtain ⟨k,hk⟩:∃ k,k=a.length+1-b.length:=⟨_,rfl⟩
  rw [←hk] at cp
  have em:((k:Int).tmod 2)=((k % 2:Nat):Int):=by rw [Int.tmod_eq_emod_of_nonneg (by omega)]; omega
  have key:Sw r=if r.length=0 then [] else Kb r (Jl r):=rfl
  by_cases hz:r.length=0
  · rw [key,if_pos hz]
    by_cases hodd:k % 2=1
    · by_cases hneg:Qo b<0
      · have e:r=Uv (J4 a b):=by rw [hr]; unfold Ve; rw [if_pos ⟨by rw [←hk]; exact hodd,hneg⟩]
        rw [e] at hz
        exact w tt Tryz.func197 rfl [.c [] cp,.f (by simp),.r 22 (eI em),.t (by simp; omega),.c [] cl,.t (by simpa [Qo] using hneg),.c [] cn,.t (by simpa using hz)] rfl rfl (by simp [Qa])
      · have e:r=J4 a b:=by rw [hr]; unfold Ve; rw [if_neg (fun h=>hneg h.2)]
        rw [e] at hz
        exact w tt Tryz.func197 rfl [.c [] cp,.f (by simp),.r 22 (eI em),.t (by simp; omega),.c [] cl,.f (by simpa [Qo] using hneg),.t (by simpa using hz)] rfl rfl (by simp [Qa])
    · have e:r=J4 a b:=by rw [hr]; unfold Ve; rw [if_neg (fun h=>hodd (by rw [hk]; exact h.1))]
      rw [e] at hz
      exact w tt Tryz.func197 rfl [.c [] cp,.f (by simp),.r 22 (eI em),.f (by simp; omega),.f rfl,.t (by simpa using hz)] rfl rfl (by simp [Qa])
  · rw [key,if_neg hz]
    have cd:=Qjl (p:=r) (g:=Jl r) (by omega) (Qc h6 (by omega)) (Tr (Qc h6 (by omega))) (Rv h4 hz) W8
    by_cases hodd:k % 2=1
    · by_cases hneg:Qo b<0
      · have e:r=Uv (J4 a b):=by rw [hr]; unfold Ve; rw [if_pos ⟨by rw [←hk]; exact hodd,hneg⟩]
        rw [e] at hz cc cd ⊢
        exact w tt Tryz.func197 rfl [.c [] cp,.f (by simp),.r 22 (eI em),.t (by simp; omega),.c [] cl,.t (by simpa [Qo] using hneg),.c [] cn,.f (by simpa using hz),.c [] cc,.c [] cd] rfl rfl (by simp [Qa])
      · have e:r=J4 a b:=by rw [hr]; unfold Ve; rw [if_neg (fun h=>hneg h.2)]
        rw [e] at hz cc cd ⊢
        exact w tt Tryz.func197 rfl [.c [] cp,.f (by simp),.r 22 (eI em),.t (by simp; omega),.c [] cl,.f (by simpa [Qo] using hneg),.f (by simpa using hz),.c [] cc,.c [] cd] rfl rfl (by simp [Qa])
    · have e:r=J4 a b:=by rw [hr]; unfold Ve; rw [if_neg (fun h=>hodd (by rw [hk]; exact h.1))]
      rw [e] at hz cc cd ⊢
      exact w tt Tryz.func197 rfl [.c [] cp,.f (by simp),.r 22 (eI em),.f (by simp; omega),.f rfl,.f (by simpa using hz),.c [] cc,.c [] cd] rfl rfl (by simp [Qa])
end Orr

namespace Orr
open Go Go.Proofs
set_option maxRecDepth 10000
theorem Qvs {s:Nat} {x:Int} (h:Qt x≤s) (g:Int):Qt (x / g)≤s:=Nu (p:=[x]) (fun z hz=>by rw [List.mem_singleton.1 hz]; exact h) g _ (by simp)
def sta (b:List Int) (i:Nat) (x:Int) (a:List Int):List Int:=We a (Zn (Qp (mono i x)) b)
theorem Qyz {u t i:Nat} {x:Int} {b a:List Int} (ha:Bd u a) (hb:Bd t b) (hx:Qt x≤u) (hi:i≤64):Bd (u+t+8) (sta b i x a) :=
  Qc (P5 ha (Qi7 hb hx hi)) (by omega)
theorem Qku {x:Int} {i:Nat} {b a:List Int}:(sta b i x a).length≤max a.length (i+b.length):=by
  have h:=Rk a (Zn (Qp (mono i x)) b)
  have h2:=Qbt (i:=i) (x:=x) (b:=b)
  unfold sta; omega
theorem Que (s n:Nat):Bd s (List.replicate n 0):=fun z hz=>by rw [(List.mem_replicate.1 hz).2,Ul]; exact Nat.zero_le _
theorem Qyy {s i:Nat} {l:List Int} {x:Int} (h:Bd s l) (hx:Qt x≤s):Bd s (l.set i x):=fun z hz=>by
  rcases List.mem_or_eq_of_mem_set hz with hz | rfl
  · exact h z hz
  · exact hx
theorem Qom {a b q:List Int} (ha:Pb a) (hb:Pb b) (h:Ry a b=some q):Qf Tryz.prog 272 [pr a,pr b] [pr q,.one (.int .i64 0)]:=by
  unfold Ry at h
  split at h
  · cases h
  rename_i h0
  obtain ⟨k,hk⟩:∃ k,k=a.length+1-b.length:=⟨_,rfl⟩
  rw [←hk] at h
  obtain ⟨q',hq,hq2⟩:=Option.bind_eq_some_iff.1 h
  obtain ⟨rfl,hpb⟩:=Gy (Z2 _) hq2
  have hal:=ha.l
  have hbl:=hb.l
  refine Jb Tryz.func272 rfl ?_
  refine go tt [.c [] (Zy ha.t ha.ln ha.bd),.c [] (Zy hb.t hb.ln hb.bd),.f (by simpa using h0),.r 24 (eI (b:=(k:Int)) (by simp; omega)),.i k,.i k,.r 27 (eI (b:=(k:Int)) (by simp))] rfl (by simp [Qa]; omega) ?_
  refine nl 0 rfl rfl rfl ?_
  rw [Ln]
  refine lp (S:=Nat×List Int×List Int) 1 (fun L1 s=>(0,.v (pr s.2.1))::(7,.v (.one (.int .i64 ((s.1:Int)-1))))::L1) (fun s=>[.row false 27 2 (s.2.2.map Z1)]) (fun s=>s.1) (fun s=>s.1≤k∧Qm s.2.1∧s.2.1.length≤a.length∧Bd (16777216+(k-s.1)*16777224) s.2.1∧s.2.2.length=k∧Bd 1107296256 s.2.2∧Qb5 b s.1 s.2.1 s.2.2=some q') (k,a,List.replicate k 0) ⟨Nat.le_refl _,ha.t,Nat.le_refl _,by simpa using ha.b,by simp,Que _ _,hq⟩ rfl (fun _ _=>rfl) rfl fun ⟨i,A,Q⟩ ⟨j1,j2,j3,j4,j5,j7,j6⟩=>?_
  dsimp only at j1 j2 j3 j4 j5 j6 j7 ⊢
  cases i with
  |
   zero =>
   simp only [Qb5] at j6
   split at j6
   · rename_i hA
     injection j6 with j6; subst j6
     exact en tt [.f (by simp),.f (by simpa using hA),.c [] (Wp (Zu Q) (by omega) (Qc j7 (by omega)))] rfl rfl trivial
   · cases j6
  |
   succ i =>
   obtain ⟨u,hu⟩:∃ u,u=16777216+(k-(i+1))*16777224:=⟨_,rfl⟩
   rw [←hu] at j4
   have hub:u≤1107296256:=by
     have:(k-(i+1))*16777224≤64*16777224:=Nat.mul_le_mul_right _ (by omega)
     omega
   have hku:u+16777216+8=16777216+(k-i)*16777224:=by
     rw [hu,show k-i=(k-(i+1))+1 from by omega,Nat.add_mul]; omega
   simp only [Qb5] at j6
   by_cases hlt:A.length<b.length+i
   · rw [if_pos hlt] at j6
     refine go tt [.t (by simp <;> omega),.c [] (Y8 A),.c [] (Y8 b),.t (by simp; omega),.r 32 (eI (b:=(i:Int)-1) (by omega))] rfl (by simp [Qa]; omega) ?_
     exact rd (i,A,Q) (by dsimp only; omega) ⟨by dsimp only; omega,j2,j3,Qc j4 (by dsimp only; omega),j5,j7,j6⟩ rfl
   · rw [if_neg hlt] at j6
     split at j6
     · rename_i hdv
       obtain ⟨x,hx⟩:∃ x,x=Qo A / Qo b:=⟨_,rfl⟩
       rw [←hx] at j6
       have hxs:Qt x≤u:=by rw [hx]; exact Qvs (Yp j4) _
       have ce:=Uw (Qe (Qo A)) (Qe (Qo b)) (Nat.le_trans (Yp j4) (by omega)) (Nat.le_trans (Yp hb.b) (by omega)) (Wu hb.t h0) hdv
       rw [←hx] at ce
       have cm:Qf Tryz.prog 164 [.one (.row ((mono i x).map Z1)),pr b] [pr (Zn (Qp (mono i x)) b)]:=Qay (p0:=mono i x) hb.t (by rw [Fz]; omega) (by omega) (Lz hxs) hb.b (by omega)
       have l3:=Qbt (i:=i) (x:=x) (b:=b)
       have l4:=Qku (i:=i) (x:=x) (b:=b) (a:=A)
       have cb:=Ed (p:=A) (q:=Zn (Qp (mono i x)) b) (by omega) (by omega) (Qc j4 (by omega)) (Qc (Qi7 hb.b hxs (by omega)) (by omega))
       refine go tt [.t (by simp <;> omega),.c [] (Y8 A),.c [] (Y8 b),.f (by simp; omega),.c [] (Kj j2 (by omega) (Qc j4 (by omega))),.c [] (Kj hb.t hb.ln hb.bd),.c [] ce,.f rfl,.r 51 (eI (b:=(i:Int)) (by omega)),.i i,.r 55 (eI (b:=((i+1:Nat):Int)) (by omega)),.i (i+1),.i (i+1),.r 58 (eI (b:=(i:Int)) (by omega))] rfl (by simp [Qa]; omega) ?_
       refine nl 2 rfl rfl rfl ?_
       rw [Ln,Qhu]
       rw [←Qep i x] at cm
       refine go tt [.i i,.c [] cm,.c [] cb,.r 32 (eI (b:=(i:Int)-1) (by omega))] rfl (by simp [Qa]; omega) ?_
       exact rd (i,sta b i x A,Q.set i x) (by dsimp only; omega) ⟨by dsimp only; omega,Zc _ _,by dsimp only; omega,by dsimp only; rw [←hku]; exact Qyz j4 hb.b hxs (by omega),by simpa using j5,Qyy j7 (Nat.le_trans hxs hub),j6⟩ rfl
     · cases j6
theorem Qhs {a b q:List Int} (h:Ry a b=some q):Pb q:=by
  unfold Ry at h
  split at h
  · cases h
  · obtain ⟨q',_,hq2⟩:=Option.bind_eq_some_iff.1 h
    obtain ⟨rfl,hpb⟩:=Gy (Z2 _) hq2
    exact hpb
theorem Qpd {a b q:List Int} (ha:Pb a) (hb:Pb b) (h:Ry a b=some q):Qf Tryz.prog 257 [pr a,pr b] [pr q] :=
  w tt Tryz.func257 rfl [.c [] (Qom ha hb h)] rfl rfl trivial
theorem Qcv:∀ {k:Nat} {a b g:List Int},Pb a→Pb b→Ch k a b=some g→Pb g
  | 0,_,_,_,_,_,h=>by cases h
  |
   k+1,a,b,g,ha,hb,h=>by
   simp only [Ch] at h
   split at h
   · injection h with h; subst h; exact ha
   · rename_i h0
     obtain ⟨r,hr,h⟩:=Option.bind_eq_some_iff.1 h
     obtain ⟨rfl,hpb⟩:=Gy (M3 ha hb h0).1 hr
     exact Qcv hb hpb h
theorem Qjr {a b g:List Int} (ha:Pb a) (hb:Pb b) (h:R7 a b=some g):Qf Tryz.prog 151 [pr a,pr b] [pr g]:=by
  unfold R7 at h
  obtain ⟨g',h2,rfl⟩:=Option.map_eq_some_iff.1 h
  have hg:=Qcv (Xe ha) (Xe hb) h2
  refine Jb Tryz.func151 rfl ?_
  refine go tt [.c [] (Ux ha),.c [] (Ux hb)] rfl trivial ?_
  refine lp (S:=Nat×List Int×List Int) 0 (fun L1 s=>(0,.v (pr s.2.1))::(1,.v (pr s.2.2))::L1) (fun _=>[]) (fun s=>s.1) (fun s=>Pb s.2.1∧Pb s.2.2∧Ch s.1 s.2.1 s.2.2=some g') (66,Qn a,Qn b) ⟨Xe ha,Xe hb,h2⟩ rfl (fun _ _=>rfl) rfl fun ⟨k,A,C⟩ ⟨j1,j2,j3⟩=>?_
  dsimp only at j1 j2 j3 ⊢
  cases k with
  | zero=>cases j3
  |
   succ k =>
   simp only [Ch] at j3
   split at j3
   · rename_i h0
     injection j3 with j3; subst j3
     exact en tt [.f (by simpa using h0),.c [] (Ux j1)] rfl rfl trivial
   · rename_i h0
     obtain ⟨r,hr,j3⟩:=Option.bind_eq_some_iff.1 j3
     obtain ⟨rfl,hpb⟩:=Gy (M3 j1 j2 h0).1 hr
     refine go tt [.t (by simp; omega),.c [] (Qos j1 j2 h0)] rfl trivial ?_
     exact rd (k,C,Xh A C) (by dsimp only; omega) ⟨j2,hpb,j3⟩ rfl
theorem Ca {a b g:List Int} (ha:Pb a) (hb:Pb b) (h:R7 a b=some g):Pb g:=by
  unfold R7 at h
  obtain ⟨g',h2,rfl⟩:=Option.map_eq_some_iff.1 h
  exact Xe (Qcv (Xe ha) (Xe hb) h2)
theorem Qon {a b g:List Int} (ha:Pb a) (hb:Pb b) (h:Qb7 a b=some g):Qf Tryz.prog 108 [.one (.row (Jh [a,b]))] [pr g]:=by
  unfold Qb7 at h
  obtain ⟨g1,h1,h2⟩:=Option.bind_eq_some_iff.1 h
  have hg1:=Ca B8 ha h1
  refine Jb Tryz.func108 rfl ?_
  refine go tt [.z 3] rfl trivial ?_
  refine lp (S:=Nat) 0 (fun L1 i=>(8,.v (.one (.int .i64 (i:Int))))::(3,.v (pr (if i=0 then [] else if i=1 then g1 else g)))::L1) (fun _=>[]) (fun i=>2-i) (fun i=>i≤2) 0 (Nat.zero_le _) rfl (fun _ _=>rfl) rfl fun i hi=>?_
  rcases (show i=0∨i=1∨i=2 by omega) with rfl | rfl | rfl
  · refine go tt [.t rfl,.x (Xa (i:=0) (p:=a) rfl),.c [] (Qjr B8 ha h1)] rfl (by simp [Qa]) ?_
    exact rd 1 (by omega) (by omega) rfl
  · refine go tt [.t rfl,.x (Xa (i:=1) (p:=b) rfl),.c [] (Qjr hg1 hb h2)] rfl (by simp [Qa]) ?_
    exact rd 2 (by omega) (by omega) rfl
  · exact en tt [.f rfl] rfl rfl trivial
theorem Qr0 {a b g:List Int} (ha:Pb a) (hb:Pb b) (h:Qb7 a b=some g):Pb g:=by
  unfold Qb7 at h
  obtain ⟨g1,h1,h2⟩:=Option.bind_eq_some_iff.1 h
  exact Ca (Ca B8 ha h1) hb h2
theorem Az {p d:List Int} (h:chk (Zv p)=some d):d=Zv p∧Pb (Zv p):=Gy (Zc _ _) h
theorem Ee {a g:List Int} (ha:Pb a) (h:Yk a=some g):Qf Tryz.prog 239 [pr a] [pr g]:=by
  have hp:=Xe ha
  unfold Yk at h
  split at h
  · rename_i h0
    injection h with h; subst h
    exact w tt Tryz.func239 rfl [.c [] (Ux ha),.c [] (Y8 _),.t (by simp; omega)] rfl rfl trivial
  · rename_i h0
    obtain ⟨d,h1,h⟩:=Option.bind_eq_some_iff.1 h
    obtain ⟨rfl,hd⟩:=Az h1
    obtain ⟨g1,h1,h⟩:=Option.bind_eq_some_iff.1 h
    exact w tt Tryz.func239 rfl [.c [] (Ux ha),.c [] (Y8 _),.f (by simp; omega),.c [] (Fo hp.ln hp.bd),.c [] (Qjr hp hd h1),.c [] (Qpd hp (Ca hp hd h1) h)] rfl rfl trivial
theorem B9 {a g:List Int} (ha:Pb a) (h:Yk a=some g):Pb g:=by
  unfold Yk at h
  split at h
  · injection h with h; subst h; exact Xe ha
  · obtain ⟨d,h1,h⟩:=Option.bind_eq_some_iff.1 h
    obtain ⟨g1,h1,h⟩:=Option.bind_eq_some_iff.1 h
    exact Qhs h
theorem Qr1 {p:List Int} (h:Pb p):Pb (Uv p):=⟨Zc _ _,Nat.le_trans (Aq p) h.l,Qav h.b⟩
theorem Qgy:∀ {k:Nat} {a b:List Int} {l:List (List Int)},Pb a→Pb b→chF k a b=some l→l.length≤k∧∀ p∈l,Pb p
  | 0,_,_,_,_,_,h=>by cases h
  |
   k+1,a,b,l,ha,hb,h=>by
   simp only [chF] at h
   split at h
   · injection h with h; subst h; exact ⟨by simp,fun p hp=>by cases hp⟩
   · rename_i h0
     obtain ⟨r,hr,h⟩:=Option.bind_eq_some_iff.1 h
     obtain ⟨rfl,hpb⟩:=Gy (M3 ha hb h0).1 hr
     obtain ⟨l',h1,h⟩:=Option.bind_eq_some_iff.1 h
     injection h with h; subst h
     obtain ⟨i1,i2⟩:=Qgy hb (Qr1 hpb) h1
     refine ⟨by simp; exact i1,fun p hp=>?_⟩
     rcases List.mem_cons.1 hp with rfl | hp
     · exact hb
     · exact i2 p hp
theorem chain_ok {p:List Int} {l:List (List Int)} (hp:Pb p) (h:Hm p=some l):l.length≤67∧∀ q∈l,Pb q:=by
  unfold Hm at h
  obtain ⟨a,h1,h⟩:=Option.bind_eq_some_iff.1 h
  have ha:=B9 hp h1
  split at h
  · cases h
  · obtain ⟨d,h2,h⟩:=Option.bind_eq_some_iff.1 h
    obtain ⟨rfl,hd⟩:=Az h2
    obtain ⟨l',h3,h⟩:=Option.bind_eq_some_iff.1 h
    injection h with h; subst h
    obtain ⟨i1,i2⟩:=Qgy ha (Xe hd) h3
    refine ⟨by simp; omega,fun p hp=>?_⟩
    rcases List.mem_cons.1 hp with rfl | hp
    · exact ha
    · exact i2 p hp
theorem A3 (l:List (List Int)) (p:List Int):Jh l++[[pl p]]=Jh (l++[p]):=by simp [Jh]
theorem W9 (l:List (List Int)):(Jh l).length=l.length:=by simp [Jh]
theorem Qou {p:List Int} {l:List (List Int)} (hp:Pb p) (h:Hm p=some l):Qf Tryz.prog 211 [pr p] [.one (.sh [.row (Jh l)]),.one (.int .i64 0)]:=by
  unfold Hm at h
  obtain ⟨a,h1,h⟩:=Option.bind_eq_some_iff.1 h
  have ha:=B9 hp h1
  split at h
  · cases h
  rename_i h0
  obtain ⟨d,h2,h⟩:=Option.bind_eq_some_iff.1 h
  obtain ⟨rfl,hd⟩:=Az h2
  obtain ⟨l',h3,h⟩:=Option.bind_eq_some_iff.1 h
  injection h with h; subst h
  refine Jb Tryz.func211 rfl ?_
  refine go tt [.c [] (Ee hp h1),.f (by simpa using h0),.lo,.c [] (Fo ha.ln ha.bd),.c [] (Qpc hd.t hd.ln' hd.bd)] rfl (by simp [Qa]) ?_
  obtain ⟨z,hz⟩:∃ z,z=if (Zv a).length=0 then 0 else Zr (Zv a):=⟨_,rfl⟩
  rw [←hz]
  refine sb [(4,.v (pr a)),(7,.v (pr (Qn (Zv a)))),(5,.v (.one (.ow 1 0)))] [.row false 24 1 [[pl a]],.blk 282 [.orow 0 1 none],.blk 27 (Z1 z)] rfl rfl ?_
  have hll:=(Qgy ha (Xe hd) h3).1
  refine lp (S:=Nat×List (List Int)×List Int×List Int) 3 (fun L1 s=>(4,.v (pr s.2.2.1))::(7,.v (pr s.2.2.2))::L1) (fun s=>[.row false 24 1 (Jh s.2.1),.blk 282 [.orow 0 1 none],.blk 27 (Z1 z)]) (fun s=>s.1) (fun s=>Pb s.2.2.1∧Pb s.2.2.2∧∃ m,chF s.1 s.2.2.1 s.2.2.2=some m∧s.2.1++m=a::l') (66,[a],a,Qn (Zv a)) ⟨ha,Xe hd,l',h3,rfl⟩ rfl (fun _ _=>rfl) rfl fun ⟨k,out,A,C⟩ ⟨j1,j2,m,j3,j4⟩=>?_
  dsimp only at j1 j2 j3 j4 ⊢
  have hol:out.length≤67:=by have:=congrArg List.length j4; simp at this; omega
  cases k with
  | zero=>cases j3
  |
   succ k =>
   simp only [chF] at j3
   split at j3
   · rename_i h0
     injection j3 with j3; subst j3
     rw [List.append_nil] at j4
     rw [←j4]
     exact en tt [.f (by simpa using h0)] rfl rfl trivial
   · rename_i h0
     obtain ⟨r,hr,j3⟩:=Option.bind_eq_some_iff.1 j3
     obtain ⟨rfl,hpb⟩:=Gy (M3 j1 j2 h0).1 hr
     obtain ⟨m',j6,j5⟩:=Option.bind_eq_some_iff.1 j3
     injection j5 with j5; subst j5
     refine go tt [.t (by simp; omega),.s (sz:=1) (fun c hc=>by rw [List.mem_singleton.1 hc]; rfl),.c [] (Qos j1 j2 h0),.c [] (Qop hpb.ln hpb.bd)] rfl (by simp [Qa,W9]; omega) ?_
     exact rd (k,out++[C],C,Uv (Xh A C)) (by dsimp only; omega) ⟨j2,Qr1 hpb,m',j6,by rw [←j4]; simp⟩ (by rw [A3]; rfl)
end Orr

namespace Orr
open Go Go.Proofs
set_option maxRecDepth 10000
structure Tb (t:Tm):Prop where
  p:Pb t.p
  lo:Qb t.lo
  hi:Qb t.hi
theorem Qjz (x y:Int):-1≤Kv x y∧Kv x y≤1:=by unfold Kv; split <;> (try split) <;> omega
theorem Gz (a b:Rat):-1≤Zm a b∧Zm a b≤1:=Qjz _ _
theorem Gh (p:List Int) (q:Rat):-1≤Xb p q∧Xb p q≤1:=Qjz _ _
theorem Qhl (p:List Int) (q:Rat):-1≤low p q∧low p q≤1:=by unfold low; split <;> exact Gh _ _
theorem Qb.s31 {q:Rat} (h:Qb q):Qs 2147483647 q:=h.mono (by decide)
theorem Qb.s32 {q:Rat} (h:Qb q):Qs 4294967295 q:=h.mono (by decide)
theorem Dl {p:List Int} {q:Rat} (hp:Pb p) (hq:Qb q):Qf Tryz.prog 123 [pr p,.agg (rl q)] [.one (.int .i64 (Xb p q))]:=by
  have hm:p.length*(16777216+1)≤64*16777217:=Nat.mul_le_mul_right _ hp.l
  exact Qjg hp.t hp.ln hp.b hq (by omega)
theorem Q1w {p:List Int} {q:Rat} (hp:Pb p) (hq:Qb q):Qf Tryz.prog 123 [pr (Zv p),.agg (rl q)] [.one (.int .i64 (Xb (Zv p) q))]:=by
  have hl:=Nat.le_trans (Ky p) (show p.length-1≤64 by have:=hp.l; omega)
  have hm:(Zv p).length*(16777216+1)≤64*16777217:=Nat.mul_le_mul_right _ hl
  exact Qjg (Zc _ _) (Nat.lt_of_le_of_lt hl (by omega)) (Qi9 (t:=6) hp.b hp.l) hq (by omega)
theorem Ku {t:Tm} (ht:Tb t):Qf Tryz.prog 107 [.agg (ta t)] [.one (.bool t.point)] :=
  w tt Tryz.func107 rfl [.c [] (Ud ht.lo.s31 ht.hi.s31)] rfl rfl trivial
theorem Dy {t:Tm} (ht:Tb t):Qf Tryz.prog 106 [.agg (ta t)] [.agg (ta t)] :=
  w tt Tryz.func106 rfl [.c [] (Zy ht.p.t ht.p.ln ht.p.bd),.c [] (Gw ht.lo.s32),.c [] (Gw ht.hi.s32)] rfl rfl trivial
theorem Qph {t:Tm} (ht:Tb t):Qf Tryz.prog 127 [.agg (ta t)] [.agg (ta t)]:=w tt Tryz.func127 rfl [.c [] (Dy ht)] rfl rfl trivial
theorem Qo8 {p:List Int} {q:Rat} (hp:Pb p) (hq:Qb q):Qf Tryz.prog 124 [pr p,.agg (rl q)] [.one (.int .i64 (low p q))]:=by
  unfold low
  by_cases h:Xb p q=0
  · rw [if_neg (by simpa using h)]
    exact w tt Tryz.func124 rfl [.c [] (Dl hp hq),.f (by simpa using h),.c [] (Fo hp.ln hp.bd),.c [] (Q1w hp hq)] rfl rfl trivial
  · rw [if_pos h]
    exact w tt Tryz.func124 rfl [.c [] (Dl hp hq),.t (by simpa using h)] rfl rfl trivial
theorem Qo6 {p:List Int} {lo hi:Rat} (hp:Pb p) (hl:Qb lo) (hh:Qb hi):Qf Tryz.prog 110 [pr p,.agg (rl lo),.agg (rl hi)] [.one (.bool (Me p lo hi))]:=by
  by_cases h:Xb p hi=0
  · exact w tt Tryz.func110 rfl [.c [] (Dl hp hh),.t (by simpa using h)] rfl (by simp [Me,h]) trivial
  · exact w tt Tryz.func110 rfl [.c [] (Dl hp hh),.f (by simpa using h),.c [] (Qo8 hp hl)] rfl (by simp [Me,h]) trivial
theorem Eb {t:Tm} {q:Rat} (ht:Tb t) (hq:Qb q):Qf Tryz.prog 77 [.agg (ta t),.agg (rl q)] [.one (.int .i64 (Qu t q))]:=by
  have cp:=Ku ht
  unfold Qu
  by_cases h1:t.point=true
  · rw [if_pos h1]
    exact w tt Tryz.func77 rfl [.c [] cp,.t h1,.c [] (Ud ht.lo.s31 hq.s31)] rfl rfl trivial
  rw [if_neg h1]
  have h1:t.point=false:=by simpa using h1
  have c1:=Ud hq.s31 ht.lo.s31
  have c2:=Ud hq.s31 ht.hi.s31
  by_cases h2:Zm q t.lo≤0
  · rw [if_pos h2]
    exact w tt Tryz.func77 rfl [.c [] cp,.f h1,.c [] c1,.t (by simpa using h2)] rfl rfl trivial
  rw [if_neg h2]
  by_cases h3:0<Zm q t.hi
  · rw [if_pos h3]
    exact w tt Tryz.func77 rfl [.c [] cp,.f h1,.c [] c1,.f (by simpa using h2),.c [] c2,.t (by simpa using h3)] rfl rfl trivial
  rw [if_neg h3]
  by_cases h4:Xb t.p q=0
  · rw [if_pos h4]
    exact w tt Tryz.func77 rfl [.c [] cp,.f h1,.c [] c1,.f (by simpa using h2),.c [] c2,.f (by simpa using h3),.c [] (Dl ht.p hq),.t (by simpa using h4)] rfl rfl trivial
  rw [if_neg h4]
  by_cases h5:Xb t.p q=low t.p t.lo
  · rw [if_pos h5]
    exact w tt Tryz.func77 rfl [.c [] cp,.f h1,.c [] c1,.f (by simpa using h2),.c [] c2,.f (by simpa using h3),.c [] (Dl ht.p hq),.f (by simpa using h4),.c [] (Qo8 ht.p ht.lo),.t (by simpa using h5)] rfl rfl trivial
  · rw [if_neg h5]
    exact w tt Tryz.func77 rfl [.c [] cp,.f h1,.c [] c1,.f (by simpa using h2),.c [] c2,.f (by simpa using h3),.c [] (Dl ht.p hq),.f (by simpa using h4),.c [] (Qo8 ht.p ht.lo),.f (by simpa using h5)] rfl rfl trivial
theorem Qu6 (t:Tm) (q:Rat):-1≤Qu t q∧Qu t q≤1:=by
  unfold Qu
  have:=Gz t.lo q
  repeat' split
  all_goals omega
theorem Qve (q:Rat):0<(q.den:Int):=by have:=q.den_pos; omega
theorem Qxp {a b:Rat} (ha:Qb a) (hb:Qb b):Qf Tryz.prog 201 [.agg (rl a),.agg (rl b)] [.agg (rl (mid a b))]:=by
  have h1:Qt (a.num*(b.den:Int))≤33554432:=Nat.le_trans (Xc _ _) (by have:=ha.1; have:=hb.2; omega)
  have h2:Qt (b.num*(a.den:Int))≤33554432:=Nat.le_trans (Xc _ _) (by have:=hb.1; have:=ha.2; omega)
  have h3:Qt ((a.den:Int)*(b.den:Int))≤33554432:=Nat.le_trans (Xc _ _) (by have:=ha.2; have:=hb.2; omega)
  have h4:Qt (2:Int)≤2:=by decide
  have h5:Qt (a.num*(b.den:Int)+b.num*(a.den:Int))≤33554433:=Nat.le_trans (Mj _ _) (by omega)
  have h6:Qt ((a.den:Int)*(b.den:Int)*2)≤33554434:=Nat.le_trans (Xc _ _) (by omega)
  have h0:(a.den:Int)*(b.den:Int)*2≠0:=by
    have:=Int.mul_pos (Qve a) (Qve b); omega
  exact w tt Tryz.func201 rfl [.c [] (Qa4 ha.s31 hb.s31),.c [] (S6 (Qe _) (Qe _) (by omega) (by omega)),.c [] (Qgt (z:=2) (by decide)),.c [] (U8 (Qe _) (Qe _) (by omega) (by omega)),.c [] (Hz h0 (by omega) (by omega))] rfl rfl trivial
theorem Qa7 {a b:Rat} (ha:Qb a) (hb:Qb b):Qf Tryz.prog 153 [.agg (rl a),.agg (rl b)] [.agg (rl (Ie a b))]:=by
  have h1:Qt (a.num*(b.den:Int))≤33554432:=Nat.le_trans (Xc _ _) (by have:=ha.1; have:=hb.2; omega)
  have h2:Qt (b.num*(a.den:Int))≤33554432:=Nat.le_trans (Xc _ _) (by have:=hb.1; have:=ha.2; omega)
  have h3:Qt ((a.den:Int)*(b.den:Int))≤33554432:=Nat.le_trans (Xc _ _) (by have:=ha.2; have:=hb.2; omega)
  have h5:Qt (a.num*(b.den:Int)-b.num*(a.den:Int))≤33554433:=Nat.le_trans (Qbs _ _) (by omega)
  have h0:(a.den:Int)*(b.den:Int)≠0:=by
    have:=Int.mul_pos (Qve a) (Qve b); omega
  exact w tt Tryz.func153 rfl [.c [] (Qa4 ha.s31 hb.s31),.c [] (Qo1 (Qe _) (Qe _) (by omega) (by omega)),.c [] (Hz h0 (by omega) (by omega))] rfl rfl trivial
theorem El {q r:Rat} (h:chq q=some r):r=q∧Qb q:=by
  unfold chq at h
  split at h
  · rename_i hc; injection h with h; exact ⟨h.symm,hc⟩
  · cases h
theorem Qgu {t u:Tm} (ht:Tb t) (h:Qbo t=some u):Qf Tryz.prog 154 [.agg (ta t)] [.agg (ta u)]:=by
  have cp:=Ku ht
  unfold Qbo at h
  split at h
  · rename_i h1
    injection h with h; subst h
    exact w tt Tryz.func154 rfl [.c [] cp,.t h1] rfl rfl trivial
  · rename_i h1
    have h1:t.point=false:=by simpa using h1
    obtain ⟨m,hm0,h⟩:=Option.bind_eq_some_iff.1 h
    obtain ⟨rfl,hm⟩:=El hm0
    injection h with h
    subst h
    have cm:=Qxp ht.lo ht.hi
    have cc:=Eb ht hm
    by_cases h2:Qu t (mid t.lo t.hi)=0
    · rw [if_pos h2]
      exact w tt Tryz.func154 rfl [.c [] cp,.f h1,.c [] cm,.c [] cc,.t (by simpa using h2)] rfl rfl trivial
    rw [if_neg h2]
    by_cases h3:Qu t (mid t.lo t.hi)=-1
    · rw [if_pos h3]
      exact w tt Tryz.func154 rfl [.c [] cp,.f h1,.c [] cm,.c [] cc,.f (by simpa using h2),.t (by simpa using h3)] rfl rfl trivial
    · rw [if_neg h3]
      exact w tt Tryz.func154 rfl [.c [] cp,.f h1,.c [] cm,.c [] cc,.f (by simpa using h2),.f (by simpa using h3)] rfl rfl trivial
theorem Qco {t u:Tm} (ht:Tb t) (h:Qbo t=some u):Tb u:=by
  unfold Qbo at h
  split at h
  · injection h with h; subst h; exact ht
  · obtain ⟨m,hm0,h⟩:=Option.bind_eq_some_iff.1 h
    obtain ⟨rfl,hm⟩:=El hm0
    injection h with h
    subst h
    repeat' split
    · exact ⟨ht.p,hm,hm⟩
    · exact ⟨ht.p,ht.lo,hm⟩
    · exact ⟨ht.p,hm,ht.hi⟩
theorem Gv {z:Int} (h:Qt z≤4294967296):Qf Tryz.prog 198 [.one (mg z)] [.one (.int .i64 (Qt z:Int))]:=by
  have h1:=Qgr (l:=Qw z.natAbs) (K7 _) (by rw [Zk]; exact h)
  rw [Zk] at h1; exact h1
theorem A8 {p:List Int} {i:Nat} {z:Int} (h:p[i]? = some z):Zd (p.take (i+1))=max (Zd (p.take i)) (Qt z):=by
  unfold Zd; rw [List.take_succ,h,Option.toList_some,List.foldl_append]; rfl
theorem Yc {p:List Int} {s:Nat} (h:Bd s p):∀ i,Zd (p.take i)≤s
  | 0=>by simp [Zd]
  |
   i+1=>by
   cases hz:p[i]? with
   |
    none =>
    rw [List.take_of_length_le (by have:=List.getElem?_eq_none_iff.1 hz; omega),←List.take_of_length_le (l:=p) (i:=i) (by have:=List.getElem?_eq_none_iff.1 hz; omega)]
    exact Yc h i
   | some z=>rw [A8 hz]; have:=Yc h i; have:=Qoa h hz; omega
theorem Qa8 {p:List Int} (hp:Pb p):Qf Tryz.prog 199 [pr p] [.one (.int .i64 (Zd p:Int))]:=by
  have hl:=hp.l
  refine Jb Tryz.func199 rfl ?_
  refine go tt [] rfl trivial ?_
  refine lp (S:=Nat) 0 (fun L1 i=>(8,.v (.one (.int .i64 (i:Int))))::(3,.v (.one (.int .i64 (Zd (p.take i):Int))))::L1) (fun _=>[]) (fun i=>p.length-i) (fun i=>i≤p.length) 0 (Nat.zero_le _) rfl (fun _ _=>rfl) rfl fun i hi=>?_
  by_cases hlt:i<p.length
  · have hg:=Xo hlt
    have hz:=Q7 hp.b i
    have hs:=A8 hg
    refine go tt [.t (by simp; omega),.x (Jy hg),.c [] (Gv (by omega)),.r 16 (eI (b:=(Zd (p.take (i+1)):Int)) (by rw [hs]; omega))] rfl (by simp [Qa]; omega) ?_
    exact rd (i+1) (by omega) hlt rfl
  · obtain rfl:i=p.length:=by omega
    rw [List.take_length]
    exact en tt [.f (by simp)] rfl rfl trivial
theorem Qu2 {a:Tm} {b:Tm} (ha:Tb a) (hb:Tb b):Qf Tryz.prog 152 [.agg (ta a),.agg (ta b)] [.one (.int .i64 (Jz a b:Nat))]:=by
  have l1:=ha.p.l
  have l2:=hb.p.l
  have b1:=ha.lo.1
  have b2:=ha.hi.1
  have b3:=hb.lo.1
  have b4:=hb.hi.1
  have s1:Zd a.p≤16777216:=by have:=Yc ha.p.b a.p.length; rwa [List.take_length] at this
  have s2:Zd b.p≤16777216:=by have:=Yc hb.p.b b.p.length; rwa [List.take_length] at this
  obtain ⟨N,hN⟩:∃ N,N=4*(a.p.length+b.p.length):=⟨_,rfl⟩
  obtain ⟨S,hS⟩:∃ S,S=Zd a.p+Zd b.p+(a.p.length+b.p.length)+8:=⟨_,rfl⟩
  have hNS:N*S≤512*33554568:=Nat.mul_le_mul (by omega) (by omega)
  have h0:(N:Int)*(S:Int)=((N*S:Nat):Int):=(Int.natCast_mul _ _).symm
  have hst:Jz a b=64+2*(Qt a.lo.num+Qt a.hi.num+Qt b.lo.num+Qt b.hi.num)+N*S:=by rw [hN,hS]; rfl
  rw [hst]
  exact w tt Tryz.func152 rfl [.c [] (Gv (z:=a.lo.num) (by omega)),.c [] (Gv (z:=a.hi.num) (by omega)),.c [] (Gv (z:=b.lo.num) (by omega)),.c [] (Gv (z:=b.hi.num) (by omega)),.r 41 (eI (b:=(N:Int)) (by rw [hN]; simp)),.c [] (Qa8 ha.p),.c [] (Qa8 hb.p),.r 51 (eI (b:=(S:Int)) (by rw [hS]; simp)),.r 52 (eI (b:=((N*S:Nat):Int)) h0)] rfl (by simp) (by rw [h0]; simp [Qa]; omega)
def Qio (p:List Int) (a:Tm):Nat:=64+2*(Qt a.lo.num+Qt a.hi.num)+4*(a.p.length+p.length)*(Zd a.p+Zd p+(a.p.length+p.length)+8)
theorem Qjb:Qf Tryz.prog 198 [lr []] [.one (.int .i64 0)]:=Qgr (l:=[]) (by simp [Sm]) (by decide)
theorem Qpg {a:Tm} {p:List Int} (ha:Tb a) (hp:Pb p):Qf Tryz.prog 152 [.agg (ta a),.agg ([pl p,.bool false,.row [],.bool false,.row [],.bool false,.row [],.bool false,.row []])] [.one (.int .i64 (Qio p a:Nat))]:=by
  have l1:=ha.p.l
  have l2:=hp.l
  have b1:=ha.lo.1
  have b2:=ha.hi.1
  have s1:Zd a.p≤16777216:=by have:=Yc ha.p.b a.p.length; rwa [List.take_length] at this
  have s2:Zd p≤16777216:=by have:=Yc hp.b p.length; rwa [List.take_length] at this
  obtain ⟨N,hN⟩:∃ N,N=4*(a.p.length+p.length):=⟨_,rfl⟩
  obtain ⟨S,hS⟩:∃ S,S=Zd a.p+Zd p+(a.p.length+p.length)+8:=⟨_,rfl⟩
  have hNS:N*S≤512*33554568:=Nat.mul_le_mul (by omega) (by omega)
  have h0:(N:Int)*(S:Int)=((N*S:Nat):Int):=(Int.natCast_mul _ _).symm
  have hst:Qio p a=64+2*(Qt a.lo.num+Qt a.hi.num)+N*S:=by rw [hN,hS]; rfl
  rw [hst]
  exact w tt Tryz.func152 rfl [.c [] (Gv (z:=a.lo.num) (by omega)),.c [] (Gv (z:=a.hi.num) (by omega)),.c [] Qjb,.c [] Qjb,.r 41 (eI (b:=(N:Int)) (by rw [hN]; simp)),.c [] (Qa8 ha.p),.c [] (Qa8 hp),.r 51 (eI (b:=(S:Int)) (by rw [hS]; simp)),.r 52 (eI (b:=((N*S:Nat):Int)) h0)] rfl (by simp) (by rw [h0]; simp [Qa]; omega)
end Orr

namespace Orr
open Go Go.Proofs
set_option maxRecDepth 10000
def So (sg:List Int→Int) (l:List (List Int)) (i:Nat):Nat×Int:=(l.take i).foldl (Jq sg) (0,0)
theorem Qcs {sg:List Int→Int} (hs:∀ p,-1≤sg p∧sg p≤1) (l:List (List Int)):∀ i,(So sg l i).1≤i∧-1≤(So sg l i).2∧(So sg l i).2≤1
  | 0=>⟨Nat.le_refl _,show (-1:Int)≤0 by decide,show (0:Int)≤1 by decide⟩
  |
   i+1=>by
   obtain ⟨h1,h2,h3⟩:=Qcs hs l i
   cases h:l[i]? with
   |
    none =>
    have:So sg l (i+1)=So sg l i:=by unfold So; rw [List.take_of_length_le (by have:=List.getElem?_eq_none_iff.1 h; omega),List.take_of_length_le (List.getElem?_eq_none_iff.1 h)]
    rw [this]; omega
   |
    some p =>
    have:So sg l (i+1)=Jq sg (So sg l i) p:=Xz _ _ _ h
    rw [this]
    have:=hs p
    unfold Jq
    split
    · omega
    · dsimp only; split <;> omega
theorem Qu3 {l:List (List Int)} {fid:Nat} {l1:List LV} {sg:List Int→Int} (hl:l.length≤1000) (hs:∀ p,-1≤sg p∧sg p≤1) (h:∀ p∈l,Qf Tryz.prog fid [pr p,.one (.sh l1)] [.one (.int .i64 (sg p))]):Qf Tryz.prog 258 [.one (.sh [.row (Jh l)]),.one (.fn fid [] [.sh l1])] [.one (.int .i64 (V1 sg l:Nat))]:=by
  have Mg:=W9 l
  refine Jb Tryz.func258 rfl ?_
  refine go tt [] rfl trivial ?_
  refine lp (S:=Nat) 0 (fun L1 i=>(15,.v (.one (.int .i64 (i:Int))))::(5,.v (.one (.int .i64 ((So sg l i).1:Int))))::(6,.v (.one (.int .i64 (So sg l i).2)))::L1) (fun _=>[]) (fun i=>l.length-i) (fun i=>i≤l.length) 0 (Nat.zero_le _) rfl (fun _ _=>rfl) rfl fun i hi=>?_
  by_cases hlt:i<l.length
  · obtain ⟨p,hp⟩:∃ p,l[i]? = some p:=⟨_,List.getElem?_eq_getElem hlt⟩
    have hst:So sg l (i+1)=Jq sg (So sg l i) p:=Xz _ _ _ hp
    obtain ⟨b1,b2,b3⟩:=Qcs hs l i
    have b4:=hs p
    by_cases h0:sg p=0
    · refine go tt [.t (by simp [Mg]; omega),.x (Xa hp),.c [] (h p (List.mem_of_getElem? hp)),.t (by simpa using h0)] rfl (by simp [Qa]; omega) ?_
      exact rd (i+1) (by omega) hlt (by rw [hst,show Jq sg (So sg l i) p=So sg l i from by unfold Jq; rw [if_pos h0]]; rfl)
    · by_cases h1:(So sg l i).2=-(sg p)
      · refine go tt [.t (by simp [Mg]; omega),.x (Xa hp),.c [] (h p (List.mem_of_getElem? hp)),.f (by simpa using h0),.t (by simpa using h1)] rfl (by simp [Qa]; omega) ?_
        exact rd (i+1) (by omega) hlt (by rw [hst,show Jq sg (So sg l i) p=((So sg l i).1+1,sg p) from by unfold Jq; rw [if_neg h0,if_pos h1]]; rfl)
      · refine go tt [.t (by simp [Mg]; omega),.x (Xa hp),.c [] (h p (List.mem_of_getElem? hp)),.f (by simpa using h0),.f (by simpa using h1)] rfl (by simp [Qa]; omega) ?_
        exact rd (i+1) (by omega) hlt (by rw [hst,show Jq sg (So sg l i) p=((So sg l i).1,sg p) from by unfold Jq; rw [if_neg h0,if_neg h1]]; rfl)
  · obtain rfl:i=l.length:=by omega
    refine en tt [.f (by simp [Mg])] rfl ?_ trivial
    unfold So V1; rw [List.take_length]
theorem Qoz {p:List Int} {q:Rat} (hp:Pb p) (hq:Qb q):Qf Tryz.prog 259 [pr p,.one (.sh (rl q))] [.one (.int .i64 (Xb p q))]:=w tt Tryz.func259 rfl [.c [] (Dl hp hq)] rfl rfl trivial
theorem Qjj {l:List (List Int)} {q:Rat} (hl:l.length≤1000) (hp:∀ p∈l,Pb p) (hq:Qb q):Qf Tryz.prog 240 [.one (.sh [.row (Jh l)]),.agg (rl q)] [.one (.int .i64 (V2 l q:Nat))] :=
  w tt Tryz.func240 rfl [.c [] (Qu3 (fid:=259) (l1:=rl q) (sg:=fun p=>Xb p q) hl (fun p=>Gh p q) fun p h=>Qoz (hp p h) hq)] rfl rfl trivial
theorem K8 {sg:List Int→Int} (hs:∀ p,-1≤sg p∧sg p≤1) (l:List (List Int)):V1 sg l≤l.length:=by
  have:=(Qcs hs l l.length).1
  unfold So at this; rwa [List.take_length] at this
theorem I3 {l:List (List Int)} {lo hi:Rat} (hl:l.length≤1000) (hp:∀ p∈l,Pb p) (ql:Qb lo) (qh:Qb hi):Qf Tryz.prog 212 [.one (.sh [.row (Jh l)]),.agg (rl lo),.agg (rl hi)] [.one (.int .i64 (Xq l lo hi))]:=by
  have b1:V2 l lo≤l.length:=K8 (fun p=>Gh p lo) l
  have b2:V2 l hi≤l.length:=K8 (fun p=>Gh p hi) l
  have c1:=Ud qh.s31 ql.s31
  unfold Xq
  by_cases h:Zm hi lo<0
  · rw [if_pos h]
    exact w tt Tryz.func212 rfl [.c [] c1,.t (by simpa using h)] rfl rfl trivial
  · rw [if_neg h]
    exact w tt Tryz.func212 rfl [.c [] c1,.f (by simpa using h),.c [] (Qjj hl hp ql),.c [] (Qjj hl hp qh)] rfl rfl (by simp [Qa]; omega)
def zTm:List LV:=[.nils,.bool false,.nils,.bool false,.nils,.bool false,.nils,.bool false,.nils]
theorem Qnk {a b:Tm} (ha:Tb a) (hb:Tb b):Jz a b≤17179938816+200000000:=by
  have l1:=ha.p.l
  have l2:=hb.p.l
  have b1:=ha.lo.1
  have b2:=ha.hi.1
  have b3:=hb.lo.1
  have b4:=hb.hi.1
  have s1:Zd a.p≤16777216:=by have:=Yc ha.p.b a.p.length; rwa [List.take_length] at this
  have s2:Zd b.p≤16777216:=by have:=Yc hb.p.b b.p.length; rwa [List.take_length] at this
  have:4*(a.p.length+b.p.length)*(Zd a.p+Zd b.p+(a.p.length+b.p.length)+8)≤512*33554568:=Nat.mul_le_mul (by omega) (by omega)
  unfold Jz; omega
theorem Qwp {a b:Rat} (ha:Qb a) (hb:Qb b):Qs 2147483647 (Ie a b):=by
  have h1:Qt (a.num*(b.den:Int))≤33554432:=Nat.le_trans (Xc _ _) (by have:=ha.1; have:=hb.2; omega)
  have h2:Qt (b.num*(a.den:Int))≤33554432:=Nat.le_trans (Xc _ _) (by have:=hb.1; have:=ha.2; omega)
  have h3:Qt ((a.den:Int)*(b.den:Int))≤33554432:=Nat.le_trans (Xc _ _) (by have:=ha.2; have:=hb.2; omega)
  have h5:Qt (a.num*(b.den:Int)-b.num*(a.den:Int))≤33554433:=Nat.le_trans (Qbs _ _) (by omega)
  exact (Qs.divInt (s:=33554433) h5 (by omega) (by omega)).mono (by omega)
theorem Qa1 {a b:Tm} {r:Tm×Tm×Int} (ha:Tb a) (hb:Tb b) (h:Iq (Jz a b) a b=some r):Qf Tryz.prog 111 [.agg (ta a),.agg (ta b)] [.agg (ta r.1),.agg (ta r.2.1),.one (.int .i64 r.2.2)]:=by
  have hsb:=Qnk ha hb
  refine Jb Tryz.func111 rfl ?_
  refine go tt [.c [] (Qu2 ha hb)] rfl trivial ?_
  obtain ⟨n,hn⟩:∃ n,n=Jz a b:=⟨_,rfl⟩
  rw [←hn] at h hsb ⊢
  refine sb [(10,.v (.one (.int .i64 0))),(9,.v (.one (.int .i64 (n:Int)))),(5,.v (.one (.ow 3 0))),(4,.v (.one (.ow 2 0))),(3,.v (.one (.ow 1 0))),(2,.v (.one (.ow 0 0)))] [.blk 64 (ta a),.blk 64 (ta b),.blk 64 zTm,.blk 64 zTm] rfl rfl ?_
  refine lp (S:=Nat×Tm×Tm) 4 (fun L1 s=>(10,.v (.one (.int .i64 (s.1:Int))))::L1) (fun s=>[.blk 64 (ta s.2.1),.blk 64 (ta s.2.2),.blk 64 zTm,.blk 64 zTm]) (fun s=>n-s.1) (fun s=>s.1≤n∧Tb s.2.1∧Tb s.2.2∧Iq (n-s.1) s.2.1 s.2.2=some r) (0,a,b) ⟨Nat.zero_le _,ha,hb,h⟩ rfl (fun _ _=>rfl) rfl fun ⟨i,u,v⟩ ⟨j1,j2,j3,j4⟩=>?_
  dsimp only at j1 j2 j3 j4 ⊢
  by_cases hi:i<n
  · obtain ⟨k,hk⟩:∃ k,n-i=k+1:=⟨n-i-1,by omega⟩
    have hk':n-(i+1)=k:=by omega
    rw [hk] at j4
    have c1:=Ud j2.hi.s31 j3.lo.s31
    have c2:=Ud j3.hi.s31 j2.lo.s31
    have pu:=Ku j2
    have pv:=Ku j3
    have hlt:decide ((i:Int)<(n:Int))=true:=by simp; omega
    simp only [Iq] at j4
    refine go tt [.t hlt] rfl trivial ?_
    refine ct 3 (S:=Unit) (fun _=>[(10,.v (.one (.int .i64 (i:Int)))),(9,.v (.one (.int .i64 (n:Int)))),(5,.v (.one (.ow 3 0))),(4,.v (.one (.ow 2 0))),(3,.v (.one (.ow 1 0))),(2,.v (.one (.ow 0 0)))]) (fun _=>[.blk 64 (ta u),.blk 64 (ta v),.blk 64 zTm,.blk 64 zTm]) (fun _=>¬V8 u v=true∧¬V8 v u=true) rfl ?_ ?_
    · have bA:V8 u v=(decide (Zm u.hi v.lo≤0) && !(u.point && v.point && decide (Zm u.hi v.lo=0))):=by
        unfold V8; cases u.point <;> cases v.point <;> simp
      have bB:V8 v u=(decide (Zm v.hi u.lo≤0) && !(u.point && v.point && decide (Zm v.hi u.lo=0))):=by
        unfold V8; cases u.point <;> cases v.point <;> simp
      obtain ⟨a0,A'⟩:∃ b,decide (Zm u.hi v.lo≤0)=b:=⟨_,rfl⟩
      obtain ⟨b0,B'⟩:∃ b,decide (Zm v.hi u.lo≤0)=b:=⟨_,rfl⟩
      obtain ⟨p0,P'⟩:∃ b,u.point=b:=⟨_,rfl⟩
      obtain ⟨q0,Q'⟩:∃ b,v.point=b:=⟨_,rfl⟩
      obtain ⟨x0,X'⟩:∃ b,decide (Zm u.hi v.lo=0)=b:=⟨_,rfl⟩
      obtain ⟨y0,Y'⟩:∃ b,decide (Zm v.hi u.lo=0)=b:=⟨_,rfl⟩
      rw [A',P',Q',X'] at bA
      rw [B',P',Q',Y'] at bB
      have r1:V8 u v=true→(u,v,-1)=r:=fun h=>by rw [if_pos h] at j4; injection j4
      have r2:¬V8 u v=true→V8 v u=true→(u,v,1)=r:=fun h h'=>by rw [if_neg h,if_pos h'] at j4; injection j4
      clear j4
      cases a0
      · cases b0
        · exact go tt [.c [] c1,.g 19 false A',.f rfl,.c [] c2,.g 45 false B',.f rfl] rfl trivial (rc () ⟨by rw [bA]; simp,by rw [bB]; simp⟩ rfl)
        · cases p0
          · obtain rfl:=r2 (by rw [bA]; simp) (by rw [bB]; rfl)
            exact en tt [.c [] c1,.g 19 false A',.f rfl,.c [] c2,.g 45 true B',.c [] pu,.g 48 false P',.g 52 false rfl,.t rfl] rfl rfl trivial
          · cases q0
            · obtain rfl:=r2 (by rw [bA]; simp) (by rw [bB]; rfl)
              exact en tt [.c [] c1,.g 19 false A',.f rfl,.c [] c2,.g 45 true B',.c [] pu,.g 48 true P',.c [] pv,.g 52 false Q',.t rfl] rfl rfl trivial
            · cases y0
              · obtain rfl:=r2 (by rw [bA]; simp) (by rw [bB]; rfl)
                exact en tt [.c [] c1,.g 19 false A',.f rfl,.c [] c2,.g 45 true B',.c [] pu,.g 48 true P',.c [] pv,.g 52 true Q',.c [] c2,.t (by simpa using Y')] rfl rfl trivial
              · exact go tt [.c [] c1,.g 19 false A',.f rfl,.c [] c2,.g 45 true B',.c [] pu,.g 48 true P',.c [] pv,.g 52 true Q',.c [] c2,.f (by simpa using Y')] rfl trivial (rc () ⟨by rw [bA]; simp,by rw [bB]; simp⟩ rfl)
      · cases p0
        · obtain rfl:=r1 (by rw [bA]; rfl)
          exact en tt [.c [] c1,.g 19 true A',.c [] pu,.g 22 false P',.g 26 false rfl,.t rfl] rfl rfl trivial
        · cases q0
          · obtain rfl:=r1 (by rw [bA]; rfl)
            exact en tt [.c [] c1,.g 19 true A',.c [] pu,.g 22 true P',.c [] pv,.g 26 false Q',.t rfl] rfl rfl trivial
          · cases x0
            · obtain rfl:=r1 (by rw [bA]; rfl)
              exact en tt [.c [] c1,.g 19 true A',.c [] pu,.g 22 true P',.c [] pv,.g 26 true Q',.c [] c1,.t (by simpa using X')] rfl rfl trivial
            · cases b0
              · exact go tt [.c [] c1,.g 19 true A',.c [] pu,.g 22 true P',.c [] pv,.g 26 true Q',.c [] c1,.f (by simpa using X'),.c [] c2,.g 45 false B',.f rfl] rfl trivial (rc () ⟨by rw [bA]; simp,by rw [bB]; simp⟩ rfl)
              · cases y0
                · obtain rfl:=r2 (by rw [bA]; simp) (by rw [bB]; rfl)
                  exact en tt [.c [] c1,.g 19 true A',.c [] pu,.g 22 true P',.c [] pv,.g 26 true Q',.c [] c1,.f (by simpa using X'),.c [] c2,.g 45 true B',.c [] pu,.g 48 true P',.c [] pv,.g 52 true Q',.c [] c2,.t (by simpa using Y')] rfl rfl trivial
                · exact go tt [.c [] c1,.g 19 true A',.c [] pu,.g 22 true P',.c [] pv,.g 26 true Q',.c [] c1,.f (by simpa using X'),.c [] c2,.g 45 true B',.c [] pu,.g 48 true P',.c [] pv,.g 52 true Q',.c [] c2,.f (by simpa using Y')] rfl trivial (rc () ⟨by rw [bA]; simp,by rw [bB]; simp⟩ rfl)
    · rintro _ ⟨n1,n2⟩
      rw [if_neg n1,if_neg n2] at j4
      have qr:∀ {x y:Rat},Qb x→Qb y→Qs 2147483647 (Ie x y):=fun h1 h2=>Qwp h1 h2
      have cc:=Ud (qr j2.hi j2.lo) (qr j3.hi j3.lo)
      by_cases D:0≤Zm (Ie u.hi u.lo) (Ie v.hi v.lo)
      · rw [if_pos D] at j4
        obtain ⟨x,x1,x2⟩:=Option.bind_eq_some_iff.1 j4
        refine go tt [.c [] (Qa7 j2.hi j2.lo),.c [] (Qa7 j3.hi j3.lo),.c [] cc,.t (by simpa using D),.c [] (Qgu j2 x1)] rfl (by simp [Qa]; omega) ?_
        exact rd (i+1,x,v) (by dsimp only; omega) ⟨hi,Qco j2 x1,j3,by dsimp only; rw [hk']; exact x2⟩ rfl
      · rw [if_neg D] at j4
        obtain ⟨x,x1,x2⟩:=Option.bind_eq_some_iff.1 j4
        refine go tt [.c [] (Qa7 j2.hi j2.lo),.c [] (Qa7 j3.hi j3.lo),.c [] cc,.f (by simpa using D),.c [] (Qgu j3 x1)] rfl (by simp [Qa]; omega) ?_
        exact rd (i+1,u,x) (by dsimp only; omega) ⟨hi,j2,Qco j3 x1,by dsimp only; rw [hk']; exact x2⟩ rfl
  · obtain rfl:i=n:=by omega
    rw [Nat.sub_self] at j4
    simp only [Iq] at j4
    injection j4 with j4; subst j4
    exact en tt [.f (by simp)] rfl rfl trivial
end Orr

namespace Orr
open Go Go.Proofs
set_option maxRecDepth 10000
theorem Qu1 {a b:Rat} (ha:Qb a) (hb:Qb b):Qf Tryz.prog 42 [.agg (rl a),.one (.row [rl b])] [.agg (rl (if 0<Zm b a then b else a))]:=by
  have ca:=Dx (Qe a.num) (Qe (a.den:Int)) ha.s32.1 ha.s32.2
  have cb:=Dx (Qe b.num) (Qe (b.den:Int)) hb.s32.1 hb.s32.2
  rw [M8] at ca cb
  have cc:=Ud hb.s31 ha.s31
  refine Jb Tryz.func42 rfl ?_
  refine go tt [.c [] ca] rfl trivial ?_
  refine lp (S:=Nat) 3 (fun L1 i=>(12,.v (.one (.int .i64 (i:Int))))::L1) (fun i=>[.blk 40 (rl a),.blk 40 [.bool false,.nils,.bool false,.nils],.blk 40 (rl (if i=0 then a else if 0<Zm b a then b else a))]) (fun i=>1-i) (fun i=>i≤1) 0 (Nat.zero_le _) rfl (fun _ _=>rfl) rfl fun i hi=>?_
  rcases (show i=0∨i=1 by omega) with rfl | rfl
  · by_cases h:0<Zm b a
    · refine go tt [.t rfl,.x (i:=0) (xs:=rl b) rfl,.c [] cc,.t (by simpa using h),.c [] cb] rfl (by simp [Qa]) ?_
      exact rd 1 (by omega) (by omega) (by rw [if_pos h]; rfl)
    · refine go tt [.t rfl,.x (i:=0) (xs:=rl b) rfl,.c [] cc,.f (by simpa using h)] rfl (by simp [Qa]) ?_
      exact rd 1 (by omega) (by omega) (by rw [if_neg h]; rfl)
  · exact en tt [.f rfl] rfl rfl trivial
theorem Qaw {a b:Tm} {c:Int} (ha:Tb a) (hb:Tb b) (h:En a b=some c):Qf Tryz.prog 70 [.agg (ta a),.agg (ta b)] [.one (.int .i64 c)]:=by
  have ca:=Dy ha
  have cb:=Dy hb
  have pa:=Ku ha
  have pb:=Ku hb
  unfold En at h
  by_cases h1:a.point=true
  · rw [if_pos h1] at h
    injection h with h; subst h
    have:=Qu6 b a.lo
    exact w tt Tryz.func70 rfl [.c [] ca,.c [] cb,.c [] pa,.t h1,.c [] (Eb hb ha.lo)] rfl rfl (by simp [Qa]; omega)
  rw [if_neg h1] at h
  have h1:a.point=false:=by simpa using h1
  by_cases h2:b.point=true
  · rw [if_pos h2] at h
    injection h with h; subst h
    exact w tt Tryz.func70 rfl [.c [] ca,.c [] cb,.c [] pa,.f h1,.c [] pb,.t h2,.c [] (Eb ha hb.lo)] rfl rfl trivial
  rw [if_neg h2] at h
  have h2:b.point=false:=by simpa using h2
  obtain ⟨lo,hlo⟩:∃ lo,lo=if 0<Zm b.lo a.lo then b.lo else a.lo:=⟨_,rfl⟩
  obtain ⟨hi,hhi⟩:∃ hi,hi=if Zm b.hi a.hi<0 then b.hi else a.hi:=⟨_,rfl⟩
  have h:(if Zm lo hi<0 then (Qb7 a.p b.p).bind fun g=>if 1<g.length∧Me g lo hi=true then some 0 else (Iq (Jz a b) a b).bind fun r=>some r.2.2 else (Iq (Jz a b) a b).bind fun r=>some r.2.2)=some c:=by rw [hlo,hhi]; exact h
  have qlo:Qb lo:=by rw [hlo]; split; exact hb.lo; exact ha.lo
  have qhi:Qb hi:=by rw [hhi]; split; exact hb.hi; exact ha.hi
  have cm:=Qu1 ha.lo hb.lo
  rw [←hlo] at cm
  have cc1:=Ud hb.hi.s31 ha.hi.s31
  have cc2:=Ud qlo.s31 qhi.s31
  refine Jb Tryz.func70 rfl ?_
  refine go tt [.c [] ca,.c [] cb,.c [] pa,.f h1,.c [] pb,.f h2,.c [] cm] rfl trivial ?_
  refine ct 2 (S:=Unit) (fun _=>[(6,.v (.one (.ow 3 0))),(5,.v (.one (.ow 2 0))),(4,.v (.one (.int .i64 0))),(3,.v (.one (.ow 1 0))),(2,.v (.one (.ow 0 0)))]) (fun _=>[.blk 64 (ta a),.blk 64 (ta b),.blk 40 (rl lo),.blk 40 (rl hi)]) (fun _=>True) rfl ?_ ?_
  · by_cases D:Zm b.hi a.hi<0
    · rw [if_pos D] at hhi; subst hhi
      exact go tt [.c [] cc1,.t (by simpa using D)] rfl trivial (rc () trivial rfl)
    · rw [if_neg D] at hhi; subst hhi
      exact go tt [.c [] cc1,.f (by simpa using D)] rfl trivial (rc () trivial rfl)
  · rintro _ _
    by_cases D:Zm lo hi<0
    · rw [if_pos D] at h
      obtain ⟨g,g1,h⟩:=Option.bind_eq_some_iff.1 h
      have cg:=Qon ha.p hb.p g1
      have pg:=Qr0 ha.p hb.p g1
      have ch:=Qo6 pg qlo qhi
      by_cases G:1<g.length
      · by_cases R:Me g lo hi=true
        · rw [if_pos ⟨G,R⟩] at h
          injection h with h; subst h
          exact en tt [.c [] cc2,.t (by simpa using D),.c [] cg,.c [] (Y8 g),.g 58 true (by simp; omega),.c [] ch,.t R] rfl rfl trivial
        · rw [if_neg fun h=>R h.2] at h
          obtain ⟨r,r1,h⟩:=Option.bind_eq_some_iff.1 h
          injection h with h; subst h
          exact en tt [.c [] cc2,.t (by simpa using D),.c [] cg,.c [] (Y8 g),.g 58 true (by simp; omega),.c [] ch,.f (by simpa using R),.c [] (Qa1 ha hb r1)] rfl rfl trivial
      · rw [if_neg fun h=>G h.1] at h
        obtain ⟨r,r1,h⟩:=Option.bind_eq_some_iff.1 h
        injection h with h; subst h
        exact en tt [.c [] cc2,.t (by simpa using D),.c [] cg,.c [] (Y8 g),.g 58 false (by simp; omega),.f rfl,.c [] (Qa1 ha hb r1)] rfl rfl trivial
    · rw [if_neg D] at h
      obtain ⟨r,r1,h⟩:=Option.bind_eq_some_iff.1 h
      injection h with h; subst h
      exact en tt [.c [] cc2,.f (by simpa using D),.c [] (Qa1 ha hb r1)] rfl rfl trivial
theorem Quf {p:List Int} {a:Tm} {s:Int} (hp:Pb p) (ha:Tb a) (h:Qag p a=some s):Qf Tryz.prog 169 [pr p,.agg (ta a)] [.one (.int .i64 s)]:=by
  have ca:=Dy ha
  have pa:=Ku ha
  have cn:=Zy hp.t hp.ln hp.bd
  unfold Qag at h
  by_cases h0:p.length=0
  · rw [if_pos h0] at h
    injection h with h; subst h
    exact w tt Tryz.func169 rfl [.c [] cn,.c [] ca,.t (by simp; exact List.eq_nil_of_length_eq_zero h0)] rfl rfl trivial
  rw [if_neg h0] at h
  have h0:p≠[]:=fun e=>h0 (by rw [e]; rfl)
  by_cases h1:a.point=true
  · rw [if_pos h1] at h
    injection h with h; subst h
    exact w tt Tryz.func169 rfl [.c [] cn,.c [] ca,.f (by simpa using h0),.c [] pa,.t h1,.c [] (Dl hp ha.lo)] rfl rfl trivial
  rw [if_neg h1] at h
  have h1:a.point=false:=by simpa using h1
  obtain ⟨g,g1,h⟩:=Option.bind_eq_some_iff.1 h
  have cg:=Qon hp ha.p g1
  have pg:=Qr0 hp ha.p g1
  have ch:=Qo6 pg ha.lo ha.hi
  by_cases G:1<g.length∧Me g a.lo a.hi=true
  · rw [if_pos G] at h
    injection h with h; subst h
    exact w tt Tryz.func169 rfl [.c [] cn,.c [] ca,.f (by simpa using h0),.c [] pa,.f h1,.c [] cg,.c [] (Y8 g),.g 29 true (by simp; omega),.c [] ch,.t G.2] rfl rfl trivial
  rw [if_neg G] at h
  obtain ⟨c,c1,h⟩:=Option.bind_eq_some_iff.1 h
  obtain ⟨u,u1,h⟩:=Option.bind_eq_some_iff.1 h
  injection h with h; subst h
  obtain ⟨cl,call⟩:=chain_ok hp c1
  obtain ⟨n,hn⟩:∃ n,n=64+2*(Qt a.lo.num+Qt a.hi.num)+4*(a.p.length+p.length)*(Zd a.p+Zd p+(a.p.length+p.length)+8):=⟨_,rfl⟩
  have cst:=Qpg ha hp
  rw [show Qio p a=n from hn.symm] at cst
  rw [←hn] at u1
  have hnb:n≤17179938816+200000000:=by
    have l1:=ha.p.l
    have l2:=hp.l
    have b1:=ha.lo.1
    have b2:=ha.hi.1
    have s1:Zd a.p≤16777216:=by have:=Yc ha.p.b a.p.length; rwa [List.take_length] at this
    have s2:Zd p≤16777216:=by have:=Yc hp.b p.length; rwa [List.take_length] at this
    have:4*(a.p.length+p.length)*(Zd a.p+Zd p+(a.p.length+p.length)+8)≤512*33554568:=Nat.mul_le_mul (by omega) (by omega)
    omega
  refine Jb Tryz.func169 rfl ?_
  refine go tt [.c [] cn,.c [] ca,.f (by simpa using h0),.c [] pa,.f h1,.c [] cg] rfl trivial ?_
  refine ct 2 (S:=Unit) (fun _=>[(3,.v (.one (.ow 0 0))),(0,.v (pr p))]) (fun _=>[.blk 64 (ta a)]) (fun _=>True) rfl ?_ ?_
  · by_cases G1:1<g.length
    · exact go tt [.c [] (Y8 g),.g 29 true (by simp; omega),.c [] ch,.f (by simpa using fun h=>G ⟨G1,h⟩)] rfl trivial (rc () trivial rfl)
    · exact go tt [.c [] (Y8 g),.g 29 false (by simp; omega),.f rfl] rfl trivial (rc () trivial rfl)
  rintro _ _
  refine go tt [.c [] (Qou hp c1),.c [] cst] rfl trivial ?_
  refine lp (S:=Nat×Tm) 1 (fun L1 s=>(46,.v (.one (.int .i64 (s.1:Int))))::L1) (fun s=>[.blk 64 (ta s.2)]) (fun s=>n-s.1) (fun s=>s.1≤n∧Tb s.2∧sgF c (n-s.1) s.2=some u) (0,a) ⟨Nat.zero_le _,ha,u1⟩ rfl (fun _ _=>rfl) rfl fun ⟨i,x⟩ ⟨j1,j2,j3⟩=>?_
  dsimp only at j1 j2 j3 ⊢
  by_cases hi:i<n
  · obtain ⟨k,hk⟩:∃ k,n-i=k+1:=⟨n-i-1,by omega⟩
    have hk':n-(i+1)=k:=by omega
    rw [hk] at j3
    simp only [sgF] at j3
    have px:=Ku j2
    have cb:=I3 (by omega) call j2.lo j2.hi
    have hlt:decide ((i:Int)<(n:Int))=true:=by simp; omega
    by_cases X:x.point=true
    · rw [if_pos (.inl X)] at j3
      injection j3 with j3; subst j3
      exact en tt [.t hlt,.c [] px,.g 50 true X,.t rfl,.c [] (Dl hp j2.hi)] rfl rfl trivial
    · have X':x.point=false:=by simpa using X
      by_cases Z:Xq c x.lo x.hi=0
      · rw [if_pos (.inr Z)] at j3
        injection j3 with j3; subst j3
        exact en tt [.t hlt,.c [] px,.g 50 false X',.c [] cb,.t (by simpa using Z),.c [] (Dl hp j2.hi)] rfl rfl trivial
      · rw [if_neg (by rintro (h | h); exact X h; exact Z h)] at j3
        obtain ⟨v,v1,v2⟩:=Option.bind_eq_some_iff.1 j3
        refine go tt [.t hlt,.c [] px,.g 50 false X',.c [] cb,.f (by simpa using Z),.c [] (Qgu j2 v1)] rfl (by simp [Qa]; omega) ?_
        exact rd (i+1,v) (by dsimp only; omega) ⟨hi,Qco j2 v1,by dsimp only; rw [hk']; exact v2⟩ rfl
  · obtain rfl:i=n:=by omega
    rw [Nat.sub_self] at j3
    simp only [sgF] at j3
    injection j3 with j3; subst j3
    exact en tt [.f (by simp),.c [] (Dl hp j2.hi)] rfl rfl trivial
abbrev tas (l:List Tm):LV:=.row (l.map fun t=>ta t)
theorem Lv {l:List Tm} {i:Nat} {t:Tm} (h:l[i]? = some t):(l.map fun t=>ta t)[i]? = some (ta t):=J0 h
def zTr:List LV:=[.row [],.bool false,.row [],.bool false,.row [],.bool false,.row [],.bool false,.row []]
theorem Qoj:Qf Tryz.prog 80 [.one (.row [])] [.agg zTr,.one (.bool false)]:=w tt Tryz.func80 rfl [.t rfl] rfl rfl trivial
theorem Hx {b:Tm} {l:List Tm} {m:Tm} (hb:Tb b) (hl:∀ t∈l,Tb t) (hn:l.length≤1000000) (h:Ha b l=some m):Qf Tryz.prog 80 [.one (tas (b::l))] [.agg (ta m),.one (.bool true)]:=by
  refine Jb Tryz.func80 rfl ?_
  refine go tt [.f (by simp; omega),.x (i:=0) (xs:=ta b) rfl,.i 1] rfl (by simp [Qa]; exact ⟨rfl,fun _ _=>rfl⟩) ?_
  refine lp (S:=Nat×Tm) 2 (fun L1 s=>(17,.v (.one (.int .i64 (s.1:Int))))::L1) (fun s=>[.blk 64 zTm,.blk 64 (ta s.2)]) (fun s=>l.length-s.1) (fun s=>s.1≤l.length∧Tb s.2∧Ha s.2 (l.drop s.1)=some m) (0,b) ⟨Nat.zero_le _,hb,h⟩ rfl (fun _ _=>rfl) rfl fun ⟨i,x⟩ ⟨j1,j2,j3⟩=>?_
  dsimp only at j1 j2 j3 ⊢
  by_cases hi:i<l.length
  · obtain ⟨a,ha⟩:∃ a,l[i]? = some a:=⟨_,List.getElem?_eq_getElem hi⟩
    have hdr:l.drop i=a::l.drop (i+1):=by
      rw [List.drop_eq_getElem_cons hi]; congr 1
      have:=List.getElem?_eq_getElem hi; rw [ha] at this; injection this with this; exact this.symm
    rw [hdr] at j3
    simp only [Ha] at j3
    obtain ⟨c,c1,j3⟩:=Option.bind_eq_some_iff.1 j3
    have ta':=hl a (List.mem_of_getElem? ha)
    by_cases hc:c<0
    · rw [if_pos hc] at j3
      refine go tt [.t (by simp; omega),.x (Lv ha),.c [] (Qaw ta' j2 c1),.t (by simpa using hc)] rfl (by simp [Qa]; omega) ?_
      exact rd (i+1,a) (by dsimp only; omega) ⟨hi,ta',j3⟩ rfl
    · rw [if_neg hc] at j3
      refine go tt [.t (by simp; omega),.x (Lv ha),.c [] (Qaw ta' j2 c1),.f (by simpa using hc)] rfl (by simp [Qa]; omega) ?_
      exact rd (i+1,x) (by dsimp only; omega) ⟨hi,j2,j3⟩ rfl
  · obtain rfl:i=l.length:=by omega
    rw [List.drop_length] at j3
    simp only [Ha] at j3
    injection j3 with j3; subst j3
    exact en tt [.f (by simp),.c [] (Qph j2)] rfl rfl trivial
end Orr

namespace Orq
def Ql (x:Rat):Rat:=if x<0 then -x else x
theorem Zx (x:Rat):0≤Ql x:=by unfold Ql; split <;> grind
theorem Yd {x b:Rat}:Ql x≤b↔-b≤x∧x≤b:=by unfold Ql; split <;> constructor <;> grind
theorem Qcd {x b:Rat}:Ql x<b↔-b<x∧x<b:=by unfold Ql; split <;> constructor <;> grind
theorem X7 (x y:Rat):Ql (x+y)≤Ql x+Ql y:=by unfold Ql; split <;> split <;> split <;> grind
theorem Qls (x y:Rat):Ql (x-y)=Ql (y-x):=by unfold Ql; split <;> split <;> grind
theorem Wx (x:Rat):Ql (-x)=Ql x:=by unfold Ql; split <;> split <;> grind
theorem Z6:Ql 0=0:=by decide
theorem Vv {x:Rat} (h:x≠0):0<Ql x:=by unfold Ql; split <;> grind
theorem Qwo {x:Rat} (h:Ql x=0):x=0:=by unfold Ql at h; split at h <;> grind
theorem Y4 {x y:Rat} (h1:0≤x) (h2:0≤y):0≤x*y:=Rat.mul_nonneg h1 h2
theorem Fe {x y:Rat} (h1:0<x) (h2:0<y):0<x*y:=Rat.mul_pos h1 h2
theorem Vn {a b c d:Rat} (h0:0≤a) (h1:a≤b) (h2:0≤c) (h3:c≤d):a*c≤b*d:=by
  have e1:=Rat.mul_le_mul_of_nonneg_right h1 h2
  have e2:=Rat.mul_le_mul_of_nonneg_left h3 (Rat.le_trans h0 h1)
  exact Rat.le_trans e1 e2
theorem U5 (x y:Rat):Ql (x*y)=Ql x*Ql y:=by
  unfold Ql
  by_cases h1:x<0 <;> by_cases h2:y<0
  · have:=Fe (x:=-x) (y:=-y) (by grind) (by grind); simp only [h1,h2,if_true]; split <;> grind
  · have:=Y4 (x:=-x) (y:=y) (by grind) (by grind); simp only [h1,h2,if_true,if_false]; split <;> grind
  · have:=Y4 (x:=x) (y:=-y) (by grind) (by grind); simp only [h1,h2,if_true,if_false]; split <;> grind
  · have:=Y4 (x:=x) (y:=y) (by grind) (by grind); simp only [h1,h2,if_false]; split <;> grind
theorem Zg {x y a b:Rat} (h1:Ql x≤a) (h2:Ql y≤b):Ql (x*y)≤a*b:=by
  rw [U5]; exact Vn (Zx x) h1 (Zx y) h2
theorem Uh {x y:Rat} (h1:0<x) (h2:0<y):0<x / y:=by rw [Rat.div_def]; exact Fe h1 (Rat.inv_pos.2 h2)
theorem Zh {x y:Rat} (h2:0<y):x / y*y=x:=Rat.div_mul_cancel (by grind)
theorem Zi {b d:Rat} (hb:0≤b) (hd:0<d):∃ e:Rat,0<e∧e≤1∧e*b<d:=by
  have h1:0<d / (b+1):=Uh hd (by grind)
  have h2:d / (b+1)*(b+1)=d:=Zh (by grind)
  rcases Rat.le_total (a:=d / (b+1)) (b:=1) with h | h
  · exact ⟨d / (b+1),h1,h,by
     have:d / (b+1)*(b+1)=d / (b+1)*b+d / (b+1):=by grind
     grind⟩
  · refine ⟨1,by decide,by decide,?_⟩
    have:1*(b+1)≤d / (b+1)*(b+1):=Rat.mul_le_mul_of_nonneg_right h (by grind)
    grind
def ev:List Rat→Rat→Rat
  | [],_=>0
  | a::p,t=>a+t*ev p t
def dv:List Rat→Rat→Rat
  | [],_=>0
  | _::p,t=>ev p t+t*dv p t
def dq:List Rat→Rat→Rat→Rat
  | [],_,_=>0
  | _::p,x,y=>ev p x+y*dq p x y
def dd:List Rat→Rat→Rat→Rat
  | [],_,_=>0
  | _::p,x,y=>dq p x y+y*dd p x y
theorem Oc (x y:Rat):∀ p,ev p x-ev p y=(x-y)*dq p x y
  | []=>by simp only [ev,dq]; grind
  | a::p=>by have:=Oc x y p; simp only [ev,dq]; grind
theorem Qbe (y:Rat):∀ p,dq p y y=dv p y
  | []=>rfl
  | a::p=>by simp only [dq,dv,Qbe y p]
theorem Qx1 (x y:Rat):∀ p,dq p x y-dv p y=(x-y)*dd p x y
  | []=>by simp only [dv,dq,dd]; grind
  |
   a::p=>by
   have h1:=Qx1 x y p
   have h2:=Oc x y p
   simp only [dv,dq,dd]; grind
theorem Qx5 (p:List Rat) (x y:Rat):ev p x-ev p y=(x-y)*dv p y+(x-y)*(x-y)*dd p x y:=by
  have h1:=Oc x y p
  have h2:=Qx1 x y p
  grind
def evB (R:Rat):List Rat→Rat
  | []=>0
  | a::p=>Ql a+R*evB R p
def Is (R:Rat):List Rat→Rat
  | []=>0
  | _::p=>evB R p+R*Is R p
def ddB (R:Rat):List Rat→Rat
  | []=>0
  | _::p=>Is R p+R*ddB R p
theorem Rb {R:Rat} (hR:0≤R):∀ p,0≤evB R p
  | []=>by simp only [evB]; grind
  | a::p=>by have:=Y4 hR (Rb hR p); have:=Zx a; simp only [evB]; grind
theorem Yn {R:Rat} (hR:0≤R):∀ p,0≤Is R p
  | []=>by simp only [Is]; grind
  | a::p=>by have:=Y4 hR (Yn hR p); have:=Rb hR p; simp only [Is]; grind
theorem Et {R:Rat} (hR:0≤R):∀ p,0≤ddB R p
  | []=>by simp only [ddB]; grind
  | a::p=>by have:=Y4 hR (Et hR p); have:=Yn hR p; simp only [ddB]; grind
theorem C0 {R x:Rat} (hx:Ql x≤R):∀ p,Ql (ev p x)≤evB R p
  | []=>by simp only [ev,evB,Z6]; grind
  |
   a::p=>by
   have h1:=X7 a (x*ev p x)
   have h2:=Zg hx (C0 hx p)
   simp only [ev,evB]; grind
theorem Qdu {R x y:Rat} (hx:Ql x≤R) (hy:Ql y≤R):∀ p,Ql (dq p x y)≤Is R p
  | []=>by simp only [dq,Is,Z6]; grind
  |
   a::p=>by
   have h1:=X7 (ev p x) (y*dq p x y)
   have h2:=Zg hy (Qdu hx hy p)
   have h3:=C0 hx p
   simp only [dq,Is]; grind
theorem Qpw {R x y:Rat} (hx:Ql x≤R) (hy:Ql y≤R):∀ p,Ql (dd p x y)≤ddB R p
  | []=>by simp only [dd,ddB,Z6]; grind
  |
   a::p=>by
   have h1:=X7 (dq p x y) (y*dd p x y)
   have h2:=Zg hy (Qpw hx hy p)
   have h3:=Qdu hx hy p
   simp only [dd,ddB]; grind
theorem Qzq {R x y:Rat} (hx:Ql x≤R) (hy:Ql y≤R) (p:List Rat):Ql (ev p x-ev p y)≤Ql (x-y)*Is R p:=by
  rw [Oc,U5]; exact Vn (Zx _) Rat.le_refl (Zx _) (Qdu hx hy p)
def X8:List Rat→List Rat→List Rat
  | [],q=>q
  | a::p,[]=>a::p
  | a::p,b::q=>(a+b)::X8 p q
def Kr (c:Rat) (p:List Rat):List Rat:=p.map (c * ·)
def Za:List Rat→List Rat→List Rat
  | [],_=>[]
  | a::p,q=>X8 (Kr a q) (0::Za p q)
def Y5:List Rat→List Rat
  | []=>[]
  | _::p=>X8 p (0::Y5 p)
theorem Q9 (t:Rat):∀ p q,ev (X8 p q) t=ev p t+ev q t
  | [],q=>by simp only [X8,ev]; grind
  | a::p,[]=>by simp only [X8,ev]; grind
  | a::p,b::q=>by have:=Q9 t p q; simp only [X8,ev]; grind
theorem Q5 (c t:Rat):∀ p,ev (Kr c p) t=c*ev p t
  | []=>by simp only [Kr,List.map_nil,ev]; grind
  | a::p=>by have:=Q5 c t p; simp only [Kr,List.map_cons,ev] at *; grind
theorem Qi (t:Rat):∀ p q,ev (Za p q) t=ev p t*ev q t
  | [],q=>by simp only [Za,ev]; grind
  | a::p,q=>by have:=Qi t p q; simp only [Za,Q9,Q5,ev]; grind
theorem Xs (t:Rat):∀ p,ev (Y5 p) t=dv p t
  | []=>rfl
  | a::p=>by have:=Xs t p; simp only [Y5,Q9,ev,dv]; grind
theorem Qbg (t:Rat):∀ p q,dv (X8 p q) t=dv p t+dv q t
  | [],q=>by simp only [X8,dv]; grind
  | a::p,[]=>by simp only [X8,dv]; grind
  | a::p,b::q=>by have:=Qbg t p q; have:=Q9 t p q; simp only [X8,dv]; grind
theorem Be (c t:Rat):∀ p,dv (Kr c p) t=c*dv p t
  | []=>by simp only [Kr,List.map_nil,dv]; grind
  | a::p=>by have:=Be c t p; have:=Q5 c t p; simp only [Kr,List.map_cons,dv] at *; grind
theorem Qbh (t:Rat):∀ p q,dv (Za p q) t=dv p t*ev q t+ev p t*dv q t
  | [],q=>by simp only [Za,dv,ev]; grind
  | a::p,q=>by have:=Qbh t p q; have:=Qi t p q; simp only [Za,Qbg,Be,dv,ev]; grind
theorem Qkb:∀ {p:List Rat},(∀ x∈p,x=0)→∀ t,ev p t=0
  | [],_,t=>rfl
  |
   a::p,h,t=>by
   have h1:=Qkb (p:=p) (fun x hx=>h x (List.mem_cons_of_mem _ hx)) t
   have h2:=h a (List.mem_cons_self ..)
   simp only [ev,h1,h2]; grind
theorem Qj7:∀ {p:List Rat},(∀ x∈p,x=0)→∀ t,dv p t=0
  | [],_,t=>rfl
  |
   a::p,h,t=>by
   have h0:=fun x hx=>h x (List.mem_cons_of_mem _ hx)
   have h1:=Qkb (p:=p) h0 t
   have h2:=Qj7 (p:=p) h0 t
   simp only [dv,h1,h2]; grind
theorem Pz:∀ {p:List Rat},(∀ t,0<t→t<1→ev p t=0)→∀ x∈p,x=0
  | [],_=>fun x hx=>by cases hx
  |
   a::p,h=>by
   have ha:a=0:=by
     rcases Classical.em (a=0) with h0 | h0
     · exact h0
     · obtain ⟨e,e1,e2,e3⟩:=Zi (Rb (R:=1) (by decide) p) (Vv h0)
       obtain ⟨f,f1,f2,f3⟩:=Zi (b:=1) (d:=e) (by decide) e1
       have h1:=h f f1 (by grind)
       have h2:=C0 (R:=1) (x:=f) (by unfold Ql; split <;> grind) p
       have h3:=U5 f (ev p f)
       have h4:Ql f=f:=by unfold Ql; split <;> grind
       have h5:a=-(f*ev p f):=by simp only [ev] at h1; grind
       have h6:Ql a=f*Ql (ev p f):=by rw [h5,Wx,h3,h4]
       have h7:f*Ql (ev p f)≤e*evB 1 p:=Vn (Rat.le_of_lt f1) (by grind) (Zx _) h2
       grind
   intro x hx
   rcases List.mem_cons.1 hx with rfl | hx
   · exact ha
   · refine Pz (p:=p) (fun t h1 h2=>?_) x hx
     have:=h t h1 h2
     simp only [ev,ha] at this
     have h3:t*ev p t=0:=by grind
     rcases Rat.mul_eq_zero.1 h3 with h4 | h4
     · grind
     · exact h4
theorem Qp4 {p q:List Rat} (h:∀ t,ev p t=ev q t) (t:Rat):dv p t=dv q t:=by
  have h1:=Qj7 (p:=X8 p (Kr (-1) q)) (Pz fun t _ _=>by rw [Q9,Q5,h t]; grind) t
  rw [Qbg,Be] at h1; grind
end Orq

namespace Orq
def Qj (x:Rat):Int:=if x<0 then -1 else if 0<x then 1 else 0
theorem Q0 {x:Rat}:Qj x=0↔x=0:=by
  unfold Qj; constructor
  · intro h; split at h <;> (try split at h) <;> grind
  · intro h; subst h; rfl
theorem Z7 {x:Rat}:Qj x=1↔0<x:=by
  unfold Qj; constructor
  · intro h; split at h <;> (try split at h) <;> grind
  · intro h; rw [if_neg (by grind),if_pos h]
theorem Ji {x:Rat}:Qj x=-1↔x<0:=by
  unfold Qj; constructor
  · intro h; split at h <;> (try split at h) <;> grind
  · intro h; rw [if_pos h]
theorem Qz (x:Rat):Qj x=-1∧x<0∨Qj x=0∧x=0∨Qj x=1∧0<x:=by
  rcases Rat.le_total (a:=x) (b:=0) with h | h
  · rcases Classical.em (x=0) with h0 | h0
    · exact .inr (.inl ⟨Q0.2 h0,h0⟩)
    · exact .inl ⟨Ji.2 (by grind),by grind⟩
  · rcases Classical.em (x=0) with h0 | h0
    · exact .inr (.inl ⟨Q0.2 h0,h0⟩)
    · exact .inr (.inr ⟨Z7.2 (by grind),by grind⟩)
theorem Ja (x y:Rat):Qj (x*y)=Qj x*Qj y:=by
  rcases Qz x with ⟨e1,h1⟩ | ⟨e1,h1⟩ | ⟨e1,h1⟩ <;> rcases Qz y with ⟨e2,h2⟩ | ⟨e2,h2⟩ | ⟨e2,h2⟩ <;> rw [e1,e2]
  · have:=Fe (x:=-x) (y:=-y) (by grind) (by grind); exact Z7.2 (by grind)
  · subst h2; exact Q0.2 (by grind)
  · have:=Fe (x:=-x) (y:=y) (by grind) (by grind); exact Ji.2 (by grind)
  · subst h1; exact Q0.2 (by grind)
  · subst h1; exact Q0.2 (by grind)
  · subst h1; exact Q0.2 (by grind)
  · have:=Fe (x:=x) (y:=-y) (by grind) (by grind); exact Ji.2 (by grind)
  · subst h2; exact Q0.2 (by grind)
  · exact Z7.2 (Fe h1 h2)
theorem Jt {a b d:Rat} (h1:d≤Ql a) (h2:Ql (b-a)<d):Qj b=Qj a∧Qj a≠0:=by
  rw [Qcd] at h2
  rcases Qz a with ⟨e,h⟩ | ⟨e,h⟩ | ⟨e,h⟩
  · rw [e,Ji]; unfold Ql at h1; rw [if_pos h] at h1; exact ⟨by grind,by decide⟩
  · subst h; rw [Z6] at h1; grind
  · rw [e,Z7]; unfold Ql at h1; rw [if_neg (by grind)] at h1; exact ⟨by grind,by decide⟩
def tc (x:Rat):Int→List (List Rat)→Nat
  | _,[]=>0
  | s,p::l=>if Qj (ev p x)=0 then tc x s l else (if s=-(Qj (ev p x)) then 1 else 0)+tc x (Qj (ev p x)) l
inductive SCl:List Rat→List Rat→List (List Rat)→Prop
  | base {f g:List Rat} {c:Rat} (hc:c≠0) (hg:∀ t,ev g t=c):SCl f g []
  | step {f g h:List Rat} {l:List (List Rat)} {a b:Rat} {q:List Rat} (ha:0<a) (hb:0<b) (he:∀ t,a*ev f t=ev q t*ev g t-b*ev h t) (hl:SCl g h l):SCl f g (h::l)
theorem Qtj {x:Rat} {s:Int} {g h:List Rat} {l:List (List Rat)} (hh:Qj (ev h x)=-s) (hs:s≠0):tc x s (g::h::l)=1+tc x (-s) l:=by
  have h3:Qj (ev h x)≠0:=by omega
  have hv:s=1∨s=-1:=by rcases Qz (ev h x) with ⟨e,_⟩ | ⟨e,_⟩ | ⟨e,_⟩ <;> omega
  simp only [tc,if_neg h3,hh]
  rcases Qz (ev g x) with ⟨e,_⟩ | ⟨e,_⟩ | ⟨e,_⟩ <;> rw [e] <;> rcases hv with rfl | rfl <;> simp
theorem Nf {x:Rat} {s:Int} {p:List Rat} {l:List (List Rat)} (h:Qj (ev p x)≠0):tc x s (p::l)=(if s=-(Qj (ev p x)) then 1 else 0)+tc x (Qj (ev p x)) l:=by rw [tc,if_neg h]
theorem J8 {R x y e d:Rat} {p:List Rat} (hx:Ql x≤R) (hy:Ql y≤R) (hR:0≤R) (h:Ql (y-x)≤e) (hd:e*Is R p<d):Ql (ev p y-ev p x)<d:=by
  have h1:=Qzq hy hx p
  have h2:=Rat.mul_le_mul_of_nonneg_right h (Yn hR p)
  grind
theorem O0 {a x y:Rat} (ha:0<a) (h:a*x<a*y):x<y:=by
  rcases Rat.le_total (a:=y) (b:=x) with h' | h'
  · have:=Rat.mul_le_mul_of_nonneg_left h' (Rat.le_of_lt ha); grind
  · rcases Classical.em (x=y) with e | e
    · subst e; grind
    · grind
theorem Q0v {a b d d' B f g h q:Rat} (ha:0<a) (hb:0<b) (dp:0<d) (h7:B*d+a*d<b*d') (hq:Ql q≤B) (hg:Ql g<d) (hh:d'≤Ql h) (he:a*f=q*g-b*h) (hd':0<d'):Qj h=-Qj f∧d≤Ql f:=by
  have h4:=Zg hq (Rat.le_of_lt hg)
  rw [Yd] at h4
  have had:=Fe ha dp
  have h8:=Rat.mul_le_mul_of_nonneg_left hh (Rat.le_of_lt hb)
  rcases Qz h with ⟨s,p⟩ | ⟨s,p⟩ | ⟨s,p⟩
  · have:Ql h=-h:=by unfold Ql; rw [if_pos p]
    rw [this] at h8
    have h10:d<f:=O0 ha (by grind)
    rw [s,Z7.2 (show 0<f by grind)]
    exact ⟨rfl,by unfold Ql; split <;> grind⟩
  · rw [p,Z6] at hh; grind
  · have:Ql h=h:=by unfold Ql; rw [if_neg (by grind)]
    rw [this] at h8
    have h10:f < -d:=O0 ha (by grind)
    rw [s,Ji.2 (show f<0 by grind)]
    exact ⟨rfl,by unfold Ql; split <;> grind⟩
theorem min2 {a b:Rat} (ha:0<a) (hb:0<b):∃ e:Rat,0<e∧e≤a∧e≤b:=by
  rcases Rat.le_total (a:=a) (b:=b) with h | h
  · exact ⟨a,ha,Rat.le_refl,h⟩
  · exact ⟨b,hb,h,Rat.le_refl⟩
theorem Qx (a b:Rat):a≤b∨b<a:=by
  rcases Rat.le_total (a:=a) (b:=b) with h | h
  · exact .inl h
  · rcases Classical.em (a=b) with e | e
    · exact .inl (by grind)
    · exact .inr (by grind)
theorem Qz8 {R:Rat} (hR:0≤R) {f g:List Rat} {l:List (List Rat)} (hc:SCl f g l):∃ d e:Rat,0<d∧0<e∧∀ x y,Ql x≤R→Ql y≤R→Ql (y-x)≤e →
    (d≤Ql (ev f x)∨d≤Ql (ev g x))∧(d≤Ql (ev f x)→Qj (ev f y)=Qj (ev f x)∧Qj (ev f x)≠0)∧(d≤Ql (ev g x)→Qj (ev g y)=Qj (ev g x)∧Qj (ev g x)≠0) ∧
    (Qj (ev f y)=Qj (ev f x)→Qj (ev f x)≠0→tc x (Qj (ev f x)) (g::l)=tc y (Qj (ev f x)) (g::l)) ∧
    (Qj (ev g y)=Qj (ev g x)→Qj (ev g x)≠0→tc x (Qj (ev g x)) l=tc y (Qj (ev g x)) l):=by
  induction hc with
  |
   @base f g c hc hg =>
   have hd:=Vv hc
   obtain ⟨e,e1,e2,e3⟩:=Zi (Yn hR f) hd
   refine ⟨Ql c,e,hd,e1,fun x y hx hy hxy=>⟨.inr (by rw [hg]; exact Rat.le_refl),fun h=>Jt h (J8 hx hy hR hxy e3),fun h=>?_,fun _ _=>?_,fun _ _=>rfl⟩⟩
   · rw [hg,hg]; exact ⟨rfl,fun h=>hc (Q0.1 h)⟩
   · simp only [tc,hg]
  |
   @step f g h l a b q ha hb he hl ih =>
   obtain ⟨d',e',hd',he',ih⟩:=ih
   obtain ⟨d1,d1p,_,d1b⟩:=Zi (b:=evB R q+a) (d:=b*d') (by have:=Rb hR q; grind) (Fe hb hd')
   obtain ⟨d,dp,hd1,hdd⟩:=min2 d1p hd'
   obtain ⟨ef,ef1,_,ef3⟩:=Zi (Yn hR f) dp
   obtain ⟨eg,eg1,_,eg3⟩:=Zi (Yn hR g) dp
   obtain ⟨e0,e0p,h1,h2⟩:=min2 ef1 eg1
   obtain ⟨e,ep,h0,h3⟩:=min2 e0p he'
   have h1:=Rat.le_trans h0 h1
   have h2:=Rat.le_trans h0 h2
   refine ⟨d,e,dp,ep,fun x y hx hy hxy=>?_⟩
   obtain ⟨i1,i2,i3,i4,i5⟩:=ih x y hx hy (Rat.le_trans hxy h3)
   have hsm:Ql (ev g x)<d→d'≤Ql (ev h x)∧Qj (ev h x)=-Qj (ev f x)∧d≤Ql (ev f x):=fun hg=>by
     have hh:d'≤Ql (ev h x):=by
       rcases i1 with i | i
       · exact absurd (Rat.le_trans hdd i) (Rat.not_le.2 hg)
       · exact i
     have h6:d*(evB R q+a)≤d1*(evB R q+a):=Rat.mul_le_mul_of_nonneg_right hd1 (by have:=Rb hR q; clear ih i1 i2 i3 i4 i5 he; grind)
     have h7:evB R q*d+a*d<b*d':=by clear ih i1 i2 i3 i4 i5 he; grind
     exact ⟨hh,Q0v ha hb dp h7 (C0 hx q) hg hh (he x) hd'⟩
   have hfs:d≤Ql (ev f x)→Qj (ev f y)=Qj (ev f x)∧Qj (ev f x)≠0:=fun h=>Jt h (J8 hx hy hR (Rat.le_trans hxy h1) ef3)
   have hgs:d≤Ql (ev g x)→Qj (ev g y)=Qj (ev g x)∧Qj (ev g x)≠0:=fun h=>Jt h (J8 hx hy hR (Rat.le_trans hxy h2) eg3)
   refine ⟨?_,hfs,hgs,fun s1 s2=>?_,i4⟩
   · rcases Qx d (Ql (ev g x)) with h | h
     · exact .inr h
     · exact .inl (hsm h).2.2
   · rcases Qx d (Ql (ev g x)) with h | h
     · obtain ⟨g1,g2⟩:=hgs h
       rw [Nf (x:=x) (p:=g) g2,Nf (x:=y) (p:=g) (by rw [g1]; exact g2),g1,i4 g1 g2]
     · obtain ⟨h4,h5,_⟩:=hsm h
       obtain ⟨h6,h7⟩:=i3 h4
       have i5:=i5 h6 h7
       rw [Qtj h5 s2,Qtj (h6.trans h5) s2,←h5,i5]
end Orq

namespace Orq
def Jo (p:List Rat) (x:Rat):Int:=if Qj (ev p x)≠0 then Qj (ev p x) else Qj (dv p x)
def vv (L:List (List Rat)) (x:Rat):Nat:=tc x 0 L
def Dk (f:List Rat) (L:List (List Rat)):Prop:=(∃ c:Rat,c≠0∧(∀ t,ev f t=c)∧L=[f])∨∃ g l,∃ k:Rat,0<k∧(∀ t,ev g t=k*dv f t)∧SCl f g l∧L=f::g::l
structure Sm (w:List Rat) (x y:Rat):Prop where
  s:Qj (ev w y)=Jo w x
  l:Jo w y=Jo w x
  n:Jo w x≠0
theorem Un {p:List Rat} {x:Rat} (h:Qj (ev p x)≠0):Jo p x=Qj (ev p x):=by unfold Jo; rw [if_pos h]
theorem Qhm {p:List Rat} {x:Rat} (h:Qj (ev p x)=0):Jo p x=Qj (dv p x):=by unfold Jo; rw [if_neg (by simpa using h)]
theorem Qfr {p:List Rat} {x y:Rat} (h:Qj (ev p y)=Qj (ev p x)) (h0:Qj (ev p x)≠0):Sm p x y:=by
  have h1:=Un h0
  have h2:=Un (p:=p) (x:=y) (by rw [h]; exact h0)
  exact ⟨by rw [h,h1],by rw [h2,h1,h],by rw [h1]; exact h0⟩
theorem G5 {f w u:List Rat} (h:∀ t,ev f t=ev w t*ev u t) (x:Rat):dv f x=dv w x*ev u x+ev w x*dv u x:=by
  rw [←Qbh]; exact Qp4 (fun t=>by rw [h,Qi]) x
theorem Qkx {f w u:List Rat} {x:Rat} (h:∀ t,ev f t=ev w t*ev u t) (hu:Qj (ev u x)≠0):Jo f x=Jo w x*Qj (ev u x):=by
  by_cases hw:Qj (ev w x)=0
  · have hw0:=Q0.1 hw
    have e1:ev f x=0:=by rw [h,hw0]; grind
    have e2:dv f x=dv w x*ev u x:=by rw [G5 h,hw0]; grind
    rw [Qhm hw,Qhm (Q0.2 e1),e2,Ja]
  · have e1:Qj (ev f x)=Qj (ev w x)*Qj (ev u x):=by rw [h,Ja]
    rw [Un hw,Un (by rw [e1]; exact Int.mul_ne_zero hw hu),e1]
theorem Q0w {f w u:List Rat} {x y:Rat} (h:∀ t,ev f t=ev w t*ev u t) (hu:Qj (ev u y)=Qj (ev u x)) (h0:Qj (ev u x)≠0) (hf:Sm f x y):Sm w x y:=by
  have e1:=Qkx h h0
  have e2:=Qkx (x:=y) h (by rw [hu]; exact h0)
  have e3:Qj (ev f y)=Qj (ev w y)*Qj (ev u y):=by rw [h,Ja]
  obtain ⟨s,l,n⟩:=hf
  rw [hu] at e2 e3
  refine ⟨?_,?_,fun h=>n (by rw [e1,h,Int.zero_mul])⟩
  · rw [e3,e1] at s; exact Int.eq_of_mul_eq_mul_right h0 s
  · rw [e2,e1] at l; exact Int.eq_of_mul_eq_mul_right h0 l
theorem tc0 {x:Rat} {s:Int} {f g:List Rat} {l:List (List Rat)} (h:Qj (ev g x)=s) (hs:s≠0):tc x 0 (f::g::l)=(if Qj (ev f x)=-s then 1 else 0)+tc x s l:=by
  have hv:s=1∨s=-1:=by rcases Qz (ev g x) with ⟨e,_⟩ | ⟨e,_⟩ | ⟨e,_⟩ <;> omega
  have hg:Qj (ev g x)≠0:=by omega
  rw [tc]
  rcases Qz (ev f x) with ⟨e,_⟩ | ⟨e,_⟩ | ⟨e,_⟩ <;> rw [e] <;> rcases hv with rfl | rfl <;> simp [Nf hg,h]
theorem Av {R x y e d:Rat} {p:List Rat} (hx:Ql x≤R) (hy:Ql y≤R) (hR:0≤R) (hxy:x<y) (h:y-x≤e) (hd:d≤Ql (dv p x)) (he:e*ddB R p<d):Qj (ev p y-ev p x)=Qj (dv p x):=by
  have h1:=Qx5 p y x
  have h2:ev p y-ev p x=(y-x)*(dv p x+(y-x)*dd p y x):=by rw [h1]; grind
  have h3:=Zg (x:=y-x) (y:=dd p y x) (a:=e) (b:=ddB R p) (by rw [Yd]; constructor <;> grind) (Qpw hy hx p)
  have h4:=Jt (b:=dv p x+(y-x)*dd p y x) hd (by
    have:dv p x+(y-x)*dd p y x-dv p x=(y-x)*dd p y x:=by grind
    rw [this]; exact Rat.not_le.1 fun h=>absurd (Rat.le_trans h h3) (Rat.not_le.2 he))
  rw [h2,Ja,Z7.2 (show 0<y-x by grind),h4.1,Int.one_mul]
def Qnz (f w:List Rat) (L:List (List Rat)) (x y:Rat):Prop :=
  (vv L x=vv L y∧Sm f x y∧Sm w x y)∨(vv L x=vv L y+1∧Jo f x≠0∧Jo f y=-Jo f x∧Qj (ev f x)=Jo f x∧(Qj (ev f y)=0∨Qj (ev f y)=-Jo f x))
theorem Qqz {R d:Rat} (hR:0≤R) (hd:0<d) {f w u:List Rat} (h:∀ t,ev f t=ev w t*ev u t):∃ e:Rat,0<e∧∀ x y,Ql x≤R→Ql y≤R→Ql (y-x)≤e→d≤Ql (ev f x)→Sm f x y∧Sm w x y:=by
  obtain ⟨ef,ef1,_,ef3⟩:=Zi (Yn hR f) hd
  obtain ⟨d1,d1p,_,d1b⟩:=Zi (Rb hR u) hd
  obtain ⟨ew,ew1,_,ew3⟩:=Zi (Yn hR w) d1p
  obtain ⟨e,ep,e1,e2⟩:=min2 ef1 ew1
  refine ⟨e,ep,fun x y hx hy hxy hf=>⟨?_,?_⟩⟩
  · have:=Jt hf (J8 hx hy hR (Rat.le_trans hxy e1) ef3)
    exact Qfr this.1 this.2
  · have hw:d1≤Ql (ev w x):=by
      rcases Qx d1 (Ql (ev w x)) with h' | h'
      · exact h'
      · have h5:=Zg (Rat.le_of_lt h') (C0 hx u)
        rw [←h] at h5
        exact absurd (Rat.le_trans hf h5) (Rat.not_le.2 d1b)
    have:=Jt hw (J8 hx hy hR (Rat.le_trans hxy e2) ew3)
    exact Qfr this.1 this.2
theorem loc {R:Rat} (hR:0≤R) {f w u:List Rat} {L:List (List Rat)} (hc:Dk f L) (h:∀ t,ev f t=ev w t*ev u t):∃ e:Rat,0<e∧∀ x y,Ql x≤R→Ql y≤R→x<y→y-x≤e→Qnz f w L x y:=by
  rcases hc with ⟨c,hc,hf,rfl⟩ | ⟨g,l,k,hk,hg,hc,rfl⟩
  · obtain ⟨e,ep,h1⟩:=Qqz hR (Vv hc) h
    refine ⟨e,ep,fun x y hx hy hxy he=>.inl ⟨?_,h1 x y hx hy (by rw [Yd]; constructor <;> grind) (by rw [hf]; exact Rat.le_refl)⟩⟩
    simp only [vv,tc,hf]
  · obtain ⟨d,e1,dp,e1p,h1⟩:=Qz8 hR hc
    obtain ⟨e2,e2p,h2⟩:=Qqz hR dp h
    -- where f is small,its derivative is Qqz
    obtain ⟨d3,d3p,_,d3b⟩:=Zi (b:=k) (d:=d) (Rat.le_of_lt hk) dp
    obtain ⟨e3,e3p,_,e3b⟩:=Zi (Et hR f) d3p
    obtain ⟨d4,d4p,_,d4b⟩:=Zi (b:=Is R w+Is R u) (d:=d3) (by have:=Yn hR w; have:=Yn hR u; grind) d3p
    obtain ⟨e4,e4p,_,e4b⟩:=Zi (Yn hR w) d4p
    obtain ⟨e5,e5p,_,e5b⟩:=Zi (Yn hR u) d4p
    obtain ⟨a1,a1p,a11,a12⟩:=min2 e1p e2p
    obtain ⟨a2,a2p,a21,a22⟩:=min2 e3p e4p
    obtain ⟨a3,a3p,a31,a32⟩:=min2 a1p a2p
    obtain ⟨e,ep,b1,b2⟩:=min2 a3p e5p
    refine ⟨e,ep,fun x y hx hy hxy he=>?_⟩
    have hab:Ql (y-x)≤e:=by rw [Yd]; clear h1 h2; constructor <;> grind
    have hab1:Ql (y-x)≤e1:=by clear h1 h2; grind
    have hab2:Ql (y-x)≤e2:=by clear h1 h2; grind
    obtain ⟨i1,i2,i3,i4,i5⟩:=h1 x y hx hy hab1
    rcases Qx d (Ql (ev f x)) with hf | hf
    · obtain ⟨s1,s2⟩:=h2 x y hx hy hab2 hf
      obtain ⟨j1,j2⟩:=i2 hf
      refine .inl ⟨?_,s1,s2⟩
      have:=i4 j1 j2
      simp only [vv]
      rw [Nf (x:=x) (p:=f) j2,Nf (x:=y) (p:=f) (by rw [j1]; exact j2),j1,this]
    · have hg1:d≤Ql (ev g x):=by
        rcases i1 with i | i
        · exact absurd i (Rat.not_le.2 hf)
        · exact i
      obtain ⟨g1,g2⟩:=i3 hg1
      have i5:=i5 g1 g2
      have hD:d3≤Ql (dv f x):=by
        rcases Qx d3 (Ql (dv f x)) with h' | h'
        · exact h'
        · have h5:=Zg (x:=k) (a:=k) (by unfold Ql; split <;> clear h1 h2 <;> grind) (Rat.le_of_lt h')
          rw [←hg] at h5
          have:k*d3=d3*k:=by grind
          exact absurd (Rat.le_trans hg1 h5) (Rat.not_le.2 (by rw [this]; exact d3b))
      have hm:=Av hx hy hR hxy (by clear h1 h2; grind:y-x≤e3) hD e3b
      have s1:Qj (ev g x)=Qj (dv f x):=by rw [hg,Ja,Z7.2 hk,Int.one_mul]
      have s2:Qj (ev g y)=Qj (dv f y):=by rw [hg,Ja,Z7.2 hk,Int.one_mul]
      obtain ⟨s,hs⟩:∃ s,s=Qj (ev g x):=⟨_,rfl⟩
      rw [←hs] at g1 g2 i5 s1
      rw [g1] at s2
      have v1:=tc0 (f:=f) (l:=l) hs.symm g2
      have v2:=tc0 (f:=f) (l:=l) g1 g2
      rw [←i5] at v2
      rw [←s1] at hm
      have hw:Sm f x y→Sm w x y:=fun hf=>by
        rcases Qx d4 (Ql (ev u x)) with hu | hu
        · have hu:=Jt hu (J8 hx hy hR (Rat.le_trans hab b2) e5b)
          exact Q0w h hu.1 hu.2 hf
        · have hw:d4≤Ql (ev w x):=by
            rcases Qx d4 (Ql (ev w x)) with h' | h'
            · exact h'
            · have q1:=Zg (x:=dv w x) (y:=ev u x) (a:=Is R w) (by rw [←Qbe]; exact Qdu hx hx w) (Rat.le_of_lt hu)
              have q2:=Zg (x:=ev w x) (y:=dv u x) (b:=Is R u) (Rat.le_of_lt h') (by rw [←Qbe]; exact Qdu hx hx u)
              have q3:=X7 (dv w x*ev u x) (ev w x*dv u x)
              rw [←G5 h] at q3
              have:d4*(Is R w+Is R u)=Is R w*d4+d4*Is R u:=by grind
              rw [this] at d4b
              exact absurd (Rat.le_trans hD (Rat.le_trans q3 (by clear h1 h2; grind:_≤Is R w*d4+d4*Is R u))) (Rat.not_le.2 d4b)
          have hw:=Jt hw (J8 hx hy hR (Rat.le_trans hab (by clear h1 h2; grind)) e4b)
          exact Qfr hw.1 hw.2
      have lx:Jo f x=if Qj (ev f x)≠0 then Qj (ev f x) else s:=by rw [s1]; rfl
      have ly:Jo f y=if Qj (ev f y)≠0 then Qj (ev f y) else s:=by rw [s2]; rfl
      clear h1 h2 i1 i2 i3 i4
      have hsv:s=1∨s=-1:=by rcases Qz (ev g x) with ⟨e,_⟩ | ⟨e,_⟩ | ⟨e,_⟩ <;> omega
      unfold Qnz
      simp only [vv,v1,v2]
      rcases hsv with rfl | rfl
      · have hm:=Z7.1 hm
        rcases Qz (ev f x) with ⟨p1,p2⟩ | ⟨p1,p2⟩ | ⟨p1,p2⟩
        · rcases Qz (ev f y) with ⟨q1,q2⟩ | ⟨q1,q2⟩ | ⟨q1,q2⟩
          · rw [p1,q1]; have hsm:=Qfr (p:=f) (x:=x) (y:=y) (by rw [p1,q1]) (by rw [p1]; decide)
            exact .inl ⟨rfl,hsm,hw hsm⟩
          · rw [lx,ly,p1,q1]; refine .inr ⟨by simp; omega,by decide,by decide,by decide,by decide⟩
          · rw [lx,ly,p1,q1]; refine .inr ⟨by simp; omega,by decide,by decide,by decide,by decide⟩
        · have q1:=Z7.2 (show 0<ev f y by grind)
          have hsm:Sm f x y:=⟨by rw [lx,q1,p1]; rfl,by rw [lx,ly,q1,p1]; rfl,by rw [lx,p1]; decide⟩
          rw [p1,q1]; exact .inl ⟨rfl,hsm,hw hsm⟩
        · have q1:=Z7.2 (show 0<ev f y by grind)
          have hsm:Sm f x y:=⟨by rw [lx,q1,p1]; rfl,by rw [lx,ly,q1,p1],by rw [lx,p1]; decide⟩
          rw [p1,q1]; exact .inl ⟨rfl,hsm,hw hsm⟩
      · have hm:=Ji.1 hm
        rcases Qz (ev f x) with ⟨p1,p2⟩ | ⟨p1,p2⟩ | ⟨p1,p2⟩
        · have q1:=Ji.2 (show ev f y<0 by grind)
          have hsm:Sm f x y:=⟨by rw [lx,q1,p1]; rfl,by rw [lx,ly,q1,p1],by rw [lx,p1]; decide⟩
          rw [p1,q1]; exact .inl ⟨rfl,hsm,hw hsm⟩
        · have q1:=Ji.2 (show ev f y<0 by grind)
          have hsm:Sm f x y:=⟨by rw [lx,q1,p1]; rfl,by rw [lx,ly,q1,p1]; rfl,by rw [lx,p1]; decide⟩
          rw [p1,q1]; exact .inl ⟨rfl,hsm,hw hsm⟩
        · rcases Qz (ev f y) with ⟨q1,q2⟩ | ⟨q1,q2⟩ | ⟨q1,q2⟩
          · rw [lx,ly,p1,q1]; refine .inr ⟨by simp; omega,by decide,by decide,by decide,by decide⟩
          · rw [lx,ly,p1,q1]; refine .inr ⟨by simp; omega,by decide,by decide,by decide,by decide⟩
          · rw [p1,q1]; have hsm:=Qfr (p:=f) (x:=x) (y:=y) (by rw [p1,q1]) (by rw [p1]; decide)
            exact .inl ⟨rfl,hsm,hw hsm⟩
end Orq

namespace Orq
theorem Q4j (z:Rat):∃ n:Nat,z≤(n:Rat):=by
  refine ⟨z.ceil.toNat,?_⟩
  have h1:z≤(z.ceil:Rat):=Rat.le_ceil
  have h2:(z.ceil:Rat)≤((z.ceil.toNat:Int):Rat):=Rat.intCast_le_intCast.2 (Int.self_le_toNat _)
  exact Rat.le_trans h1 h2
theorem Hw {z e:Rat} (he:0<e):∃ n:Nat,z≤(n:Rat)*e:=by
  obtain ⟨n,hn⟩:=Q4j (z / e)
  exact ⟨n,by have:=Rat.mul_le_mul_of_nonneg_right hn (Rat.le_of_lt he); rwa [Zh he] at this⟩
theorem Mh {R x y t:Rat} (hx:Ql x≤R) (hy:Ql y≤R) (h1:x≤t) (h2:t≤y):Ql t≤R:=by
  rw [Yd] at *; constructor <;> grind
def Qmd (f w:List Rat) (L:List (List Rat)) (x y:Rat):Prop :=
  vv L y≤vv L x∧(vv L x=vv L y→Sm f x y∧Sm w x y)∧(vv L x=vv L y+1→Jo f x≠0∧Jo f y=-Jo f x)
theorem Qkv {f w:List Rat} {L:List (List Rat)} {x y:Rat} (h:Qnz f w L x y):Qmd f w L x y:=by
  rcases h with ⟨h1,h2,h3⟩ | ⟨h1,h2,h3,_⟩
  · exact ⟨by omega,fun _=>⟨h2,h3⟩,fun h=>by omega⟩
  · exact ⟨by omega,fun h=>by omega,fun _=>⟨h2,h3⟩⟩
theorem Qfs {w:List Rat} {x y z:Rat} (h1:Sm w x y) (h2:Sm w y z):Sm w x z:=⟨by rw [h2.s,h1.l],by rw [h2.l,h1.l],h1.n⟩
theorem Qhk {f w:List Rat} {L:List (List Rat)} {x y z:Rat} (h:Qmd f w L x y) (h':Qmd f w L y z):Qmd f w L x z:=by
  obtain ⟨a1,a2,a3⟩:=h
  obtain ⟨b1,b2,b3⟩:=h'
  refine ⟨by omega,fun h=>?_,fun h=>?_⟩
  · obtain ⟨s1,s2⟩:=a2 (by omega)
    obtain ⟨s3,s4⟩:=b2 (by omega)
    exact ⟨Qfs s1 s3,Qfs s2 s4⟩
  · by_cases e:vv L x=vv L y
    · obtain ⟨s1,_⟩:=a2 e
      obtain ⟨s3,s4⟩:=b3 (by omega)
      exact ⟨s1.n,by rw [s4,s1.l]⟩
    · obtain ⟨s3,s4⟩:=a3 (by omega)
      obtain ⟨s1,_⟩:=b2 (by omega)
      exact ⟨s3,by rw [s1.l,s4]⟩
theorem Qzy {R:Rat} (hR:0≤R) {f w u:List Rat} {L:List (List Rat)} (hc:Dk f L) (h:∀ t,ev f t=ev w t*ev u t) {x y:Rat} (hx:Ql x≤R) (hy:Ql y≤R) (hxy:x<y):Qmd f w L x y:=by
  obtain ⟨e,ep,hl⟩:=loc hR hc h
  have key:∀ n:Nat,∀ x,Ql x≤R→x<y→y-x≤(n:Rat)*e→Qmd f w L x y:=by
    intro n
    induction n with
    | zero =>
     intro x hx hxy h; exfalso; have:((0:Nat):Rat)*e=0:=by simp
     grind
    |
     succ n ih =>
     intro x hx hxy hn
     rcases Qx (y-x) e with h1 | h1
     · exact Qkv (hl x y hx hy hxy h1)
     · have hm:Ql (x+e)≤R:=Mh hx hy (by clear hl ih; grind) (by clear hl ih; grind)
       have hn':(((n+1:Nat):Rat))=(n:Rat)+1:=by push_cast; rfl
       refine Qhk (Qkv (hl x (x+e) hx hm (by clear hl ih; grind) (by clear hl ih; grind))) (ih (x+e) hm (by clear hl ih; grind) ?_)
       rw [hn'] at hn
       clear hl ih; grind
  obtain ⟨n,hn⟩:=Hw (z:=y-x) ep
  exact key n x hx hxy hn
theorem Qaq (x y:Rat):∃ R:Rat,0≤R∧Ql x≤R∧Ql y≤R:=by
  refine ⟨Ql x+Ql y,?_,?_,?_⟩ <;> (have:=Zx x; have:=Zx y; grind)
theorem Xj (t:Rat):ev [1] t=1:=by simp only [ev]; grind
theorem Us {f:List Rat} {L:List (List Rat)} (hc:Dk f L) {x y:Rat} (hxy:x<y):vv L y≤vv L x:=by
  obtain ⟨R,hR,hx,hy⟩:=Qaq x y
  exact (Qzy hR hc (w:=f) (u:=[1]) (fun t=>by rw [Xj]; grind) hx hy hxy).1
theorem Sz {f w u:List Rat} {L:List (List Rat)} (hc:Dk f L) (h:∀ t,ev f t=ev w t*ev u t) {x y:Rat} (hxy:x<y) (he:vv L x=vv L y):Sm w x y:=by
  obtain ⟨R,hR,hx,hy⟩:=Qaq x y
  exact ((Qzy hR hc h hx hy hxy).2.1 he).2
theorem Qcz {f:List Rat} {L:List (List Rat)} (hc:Dk f L) {x y:Rat} (hxy:x<y) (he:vv L x=vv L y):Sm f x y :=
  Sz hc (w:=f) (u:=[1]) (fun t=>by rw [Xj]; grind) hxy he
theorem Qcy {f:List Rat} {L:List (List Rat)} (hc:Dk f L) {x y:Rat} (hxy:x<y) (he:vv L x=vv L y+1):Jo f x≠0∧Jo f y=-Jo f x:=by
  obtain ⟨R,hR,hx,hy⟩:=Qaq x y
  exact (Qzy hR hc (w:=f) (u:=[1]) (fun t=>by rw [Xj]; grind) hx hy hxy).2.2 he
theorem Qto {f:List Rat} {L:List (List Rat)} (hc:Dk f L) (R:Rat) (hR:0≤R):∃ e:Rat,0<e∧∀ x y,Ql x≤R→Ql y≤R→x<y→y-x≤e→vv L x≤vv L y+1:=by
  obtain ⟨e,ep,hl⟩:=loc hR hc (w:=f) (u:=[1]) (fun t=>by rw [Xj]; grind)
  refine ⟨e,ep,fun x y hx hy hxy he=>?_⟩
  rcases hl x y hx hy hxy he with ⟨h,_⟩ | ⟨h,_⟩ <;> omega
theorem Qzh {p:List Rat} {x:Rat} (h:Qj (ev p x)≠0):∃ e:Rat,0<e∧∀ y,Ql (y-x)≤e→Qj (ev p y)=Qj (ev p x):=by
  have hd:=Vv (x:=ev p x) fun h0=>h (Q0.2 h0)
  have hR:0≤Ql x+1:=by have:=Zx x; grind
  obtain ⟨e,e1,e2,e3⟩:=Zi (Yn hR p) hd
  refine ⟨e,e1,fun y hy=>(Jt Rat.le_refl (J8 (x:=x) (by grind) ?_ hR hy e3)).1⟩
  have:=X7 (y-x) x
  have e:y-x+x=y:=by grind
  rw [e] at this; grind
theorem Qyh {R M:Rat} {p:List Rat} (hM:M=ddB R p) (hR:0≤R) {h:Rat} (hh:0<h):∀ (n:Nat) (x:Rat),Ql x≤R→Ql (x+(n:Rat)*h)≤R→(∀ t,x≤t→t≤x+(n:Rat)*h→0≤dv p t)→ev p x-(n:Rat)*(h*h*M)≤ev p (x+(n:Rat)*h)
  |
   0,x,_,_,_=>by
   have e1:x+((0:Nat):Rat)*h=x:=by rw [show ((0:Nat):Rat)=0 from rfl]; grind
   have e2:((0:Nat):Rat)*(h*h*M)=0:=by simp
   rw [e1,e2]; grind
  |
   n+1,x,hx,hy,hd=>by
   have hn':(((n+1:Nat):Rat))=(n:Rat)+1:=by push_cast; rfl
   rw [hn'] at hy hd ⊢
   have hn0:(0:Rat)≤(n:Rat):=Rat.natCast_nonneg
   have hnh:=Y4 hn0 (Rat.le_of_lt hh)
   have e1:x+((n:Rat)+1)*h=(x+h)+(n:Rat)*h:=by grind
   rw [e1] at hy hd ⊢
   have hxh:Ql (x+h)≤R:=Mh hx hy (by clear hd; grind) (by clear hd; grind)
   have ih:=Qyh hM hR hh n (x+h) hxh hy fun t h1 h2=>hd t (by clear hd; grind) h2
   have h0:=hd x Rat.le_refl (by clear hd; grind)
   have h1:=Qx5 p (x+h) x
   have h2:=Qpw hxh hx p
   rw [←hM,Yd] at h2
   have h3:=Rat.mul_le_mul_of_nonneg_left h2.1 (Y4 (Rat.le_of_lt hh) (Rat.le_of_lt hh))
   have h4:=Y4 (Rat.le_of_lt hh) h0
   have e2:x+h-x=h:=by grind
   rw [e2] at h1
   clear hd hx hy hxh
   grind
theorem Q2w {p:List Rat} {x y:Rat} (hxy:x<y) (hd:∀ t,x≤t→t≤y→0≤dv p t):ev p x≤ev p y:=by
  obtain ⟨R,hR,hx,hy⟩:=Qaq x y
  rcases Qx (ev p x) (ev p y) with h | h
  · exact h
  · exfalso
    obtain ⟨M,hM⟩:∃ M,M=ddB R p:=⟨_,rfl⟩
    have hM0:=Et hR p
    rw [←hM] at hM0
    obtain ⟨e,ep,_,he⟩:=Zi (b:=(y-x)*M) (d:=ev p x-ev p y) (Y4 (by grind) hM0) (by grind)
    obtain ⟨n,hn⟩:=Hw (z:=y-x) ep
    have hn0:0<(n:Rat):=by
      rcases Qx (n:Rat) 0 with h' | h'
      · have:=Rat.mul_le_mul_of_nonneg_right h' (Rat.le_of_lt ep); clear hd; grind
      · exact h'
    have hh:0<(y-x) / n:=Uh (by grind) hn0
    have e1:(n:Rat)*((y-x) / n)=y-x:=by rw [Rat.mul_comm]; exact Zh hn0
    have e2:x+(n:Rat)*((y-x) / n)=y:=by rw [e1]; grind
    have h1:=Qyh hM hR hh n x hx (by rw [e2]; exact hy) (by rw [e2]; exact hd)
    rw [e2] at h1
    have h2:(y-x) / n≤e:=by
      rcases Qx ((y-x) / n) e with h' | h'
      · exact h'
      · have:=Rat.mul_lt_mul_of_pos_left h' hn0; clear hd; grind
    have h3:(n:Rat)*((y-x) / n*((y-x) / n)*M)=((y-x) / n)*((y-x)*M):=by
      have:(n:Rat)*((y-x) / n*((y-x) / n)*M)=((n:Rat)*((y-x) / n))*(((y-x) / n)*M):=by grind
      rw [this,e1]; grind
    have h4:=Rat.mul_le_mul_of_nonneg_right h2 (Y4 (x:=y-x) (y:=M) (by grind) hM0)
    rw [h3] at h1
    clear hd; grind
theorem Qwr {p:List Rat} {x y:Rat} (hxy:x<y) (hd:∀ t,x≤t→t≤y→0<dv p t):ev p x<ev p y:=by
  have hx:=hd x Rat.le_refl (by grind)
  have hR:0≤Ql x+1:=by have:=Zx x; grind
  obtain ⟨e,e1,e2,e3⟩:=Zi (Et hR p) hx
  obtain ⟨f,f1,f2,f3⟩:=min2 (a:=e) (b:=y-x) e1 (by grind)
  have hq:Ql (x+f)≤Ql x+1:=by
   have:=X7 x f; have:Ql f=f:=by unfold Ql; split <;> grind
   clear hd; grind
  have h1:=Av (p:=p) (x:=x) (y:=x+f) (R:=Ql x+1) (e:=e) (d:=dv p x) (by clear hd; grind) hq hR (by grind) (by grind) (by unfold Ql; split <;> clear hd <;> grind) e3
  rw [Z7.2 hx,Z7] at h1
  rcases Classical.em (x+f=y) with e | e
  · rw [←e]; clear hd; grind
  · have:=Q2w (p:=p) (x:=x+f) (y:=y) (by clear hd; grind) fun t h1 h2=>Rat.le_of_lt (hd t (by clear hd; grind) h2)
    clear hd; grind
end Orq

namespace Orq
structure Cut (c:Rat→Int):Prop where
  val:∀ q,c q=1∨c q=0∨c q=-1
  mono:∀ q r,q<r→c q≠1→c r=-1
  up:∀ q,c q=1→∃ r,q<r∧c r=1
  dn:∀ q,c q=-1→∃ r,r<q∧c r=-1
  lo:∃ q,c q=1
  hi:∃ q,c q=-1
theorem Cut.mono' {c:Rat→Int} (h:Cut c) {q r:Rat} (hqr:q<r) (hr:c r≠-1):c q=1:=by
  rcases Classical.em (c q=1) with e | e
  · exact e
  · exact absurd (h.mono q r hqr e) hr
theorem Cut.lt {c:Rat→Int} (h:Cut c) {q r:Rat} (hq:c q=1) (hr:c r=-1):q<r:=by
  rcases Qx r q with e | e
  · rcases Classical.em (r=q) with e' | e'
    · rw [e'] at hr; omega
    · have:=h.mono r q (by grind) (by omega); omega
  · exact e
theorem Cut.near {c:Rat→Int} (h:Cut c) {e:Rat} (he:0<e):∃ x y,c x=1∧c y=-1∧y-x≤e:=by
  obtain ⟨a,ha⟩:=h.lo
  obtain ⟨b,hb⟩:=h.hi
  have he2:0<e / 2:=Uh he (by decide)
  have h2:e / 2*2=e:=Zh (by decide)
  have key:∀ (n:Nat) (a:Rat),c a=1→b-a≤(n:Rat)*(e / 2)→∃ x y,c x=1∧c y=-1∧y-x≤e:=by
    intro n
    induction n with
    |
     zero =>
     intro a ha hn
     have:=h.lt ha hb
     rw [show ((0:Nat):Rat)=0 from rfl] at hn
     exfalso; grind
    |
     succ n ih =>
     intro a ha hn
     have hn':(((n+1:Nat):Rat))=(n:Rat)+1:=by push_cast; rfl
     rw [hn'] at hn
     rcases h.val (a+e / 2) with h1 | h1 | h1
     · exact ih _ h1 (by grind)
     · exact ⟨a,a+e,ha,h.mono (a+e / 2) _ (by grind) (by omega),by grind⟩
     · exact ⟨a,a+e / 2,ha,h1,by grind⟩
  obtain ⟨n,hn⟩:=Hw (z:=b-a) he2
  exact key n a ha hn
def Fl (p:List Rat) (c:Rat→Int):Prop:=∀ d:Rat,0<d→∃ x y,c x=1∧c y=-1∧∀ q,x≤q→q≤y→Ql (ev p q)<d
def NZ (p:List Rat) (c:Rat→Int) (s:Int):Prop:=∃ d:Rat,0<d∧∃ x y,c x=1∧c y=-1∧∀ q,x≤q→q≤y→Qj (ev p q)=s∧d≤Ql (ev p q)
def Nr (c:Rat→Int) (P:Rat→Prop):Prop:=∃ x y,c x=1∧c y=-1∧∀ q,x≤q→q≤y→P q
theorem Qhp {c:Rat→Int} {P Q:Rat→Prop} (h1:Nr c P) (h2:Nr c Q):Nr c fun q=>P q∧Q q:=by
  obtain ⟨x,y,a1,a2,a3⟩:=h1
  obtain ⟨x',y',b1,b2,b3⟩:=h2
  refine ⟨if x≤x' then x' else x,if y≤y' then y else y',by split <;> assumption,by split <;> assumption,fun q q1 q2=>⟨a3 q ?_ ?_,b3 q ?_ ?_⟩⟩ <;> clear a3 b3 <;> grind
theorem Lf {c:Rat→Int} {P Q:Rat→Prop} (h1:Nr c P) (h:∀ q,P q→Q q):Nr c Q:=by
  obtain ⟨x,y,a1,a2,a3⟩:=h1
  exact ⟨x,y,a1,a2,fun q q1 q2=>h q (a3 q q1 q2)⟩
theorem Qet {c:Rat→Int} (hc:Cut c) {P:Rat→Prop} (h1:Nr c P):∃ q,P q∧c q=1:=by
  obtain ⟨x,y,a1,a2,a3⟩:=h1
  exact ⟨x,a3 x Rat.le_refl (Rat.le_of_lt (hc.lt a1 a2)),a1⟩
theorem Qrt {c:Rat→Int} (hc:Cut c) {e:Rat} (he:0<e) {P:Rat→Prop} (h1:Nr c P):∃ x y,c x=1∧c y=-1∧y-x≤e∧x<y∧∀ q,x≤q→q≤y→P q:=by
  obtain ⟨x,y,a1,a2,a3⟩:=h1
  obtain ⟨x',y',b1,b2,b3⟩:=hc.near he
  refine ⟨if x≤x' then x' else x,if y≤y' then y else y',by split <;> assumption,by split <;> assumption,by clear a3; grind,hc.lt (by split <;> assumption) (by split <;> assumption),fun q q1 q2=>a3 q ?_ ?_⟩ <;> clear a3 <;> grind
theorem Qyg {c:Rat→Int} (hc:Cut c):∃ R:Rat,0≤R∧Nr c fun q=>Ql q≤R:=by
  obtain ⟨x,y,a1,a2,_⟩:=hc.near (e:=1) (by decide)
  obtain ⟨R,hR,h1,h2⟩:=Qaq x y
  exact ⟨R,hR,x,y,a1,a2,fun q q1 q2=>Mh h1 h2 q1 q2⟩
theorem Ti {c:Rat→Int} (hc:Cut c) (p:List Rat):Fl p c∨∃ s,s≠0∧NZ p c s:=by
  rcases Classical.em (Fl p c) with h | h
  · exact .inl h
  · refine .inr ?_
    obtain ⟨d,hd0⟩:=Classical.not_forall.1 h
    obtain ⟨dp,hd⟩:=Classical.not_imp.1 hd0
    have hd:∀ x y,c x=1→c y=-1→∃ q,x≤q∧q≤y∧d≤Ql (ev p q):=fun x y hx hy=>by
      rcases Classical.em (∃ q,x≤q∧q≤y∧d≤Ql (ev p q)) with h' | h'
      · exact h'
      · refine absurd ⟨x,y,hx,hy,fun q h1 h2=>?_⟩ hd
        rcases Qx d (Ql (ev p q)) with h3 | h3
        · exact absurd ⟨q,h1,h2,h3⟩ h'
        · exact h3
    obtain ⟨R,hR,hn⟩:=Qyg hc
    have hd2:0<d / 2:=Uh dp (by decide)
    have h2:d / 2*2=d:=Zh (by decide)
    obtain ⟨e,e1,_,e3⟩:=Zi (Yn hR p) hd2
    obtain ⟨x,y,hx,hy,hxy,_,hq⟩:=Qrt hc e1 hn
    obtain ⟨r,r1,r2,r3⟩:=hd x y hx hy
    have key:∀ q,x≤q→q≤y→Ql (ev p q-ev p r)<d / 2:=fun q q1 q2 =>
      J8 (hq r r1 r2) (hq q q1 q2) hR (by rw [Yd]; clear hq hd; constructor <;> grind) e3
    refine ⟨Qj (ev p r),fun h0=>?_,d / 2,hd2,x,y,hx,hy,fun q q1 q2=>⟨(Jt (d:=d) r3 ?_).1,?_⟩⟩
    · rw [Q0.1 h0,Z6] at r3; clear hq hd key; grind
    · have:=key q q1 q2; clear hq hd key; grind
    · have h3:=key q q1 q2
      have h4:=X7 (ev p r-ev p q) (ev p q)
      rw [show ev p r-ev p q+ev p q=ev p r from by clear hq hd key; grind,Qls] at h4
      clear hq hd key; grind
theorem Q1a {c:Rat→Int} (hc:Cut c) {p:List Rat} {s:Int} (h1:Fl p c) (h2:NZ p c s):False:=by
  obtain ⟨d,dp,h2⟩:=h2
  obtain ⟨q,⟨a,b⟩,_⟩:=Qet hc (Qhp (h1 d dp) h2)
  exact absurd b.2 (Rat.not_le.2 a)
theorem J1 {c:Rat→Int} (hc:Cut c) {f p q:List Rat} (hf:∀ t,ev f t=ev p t*ev q t) (h:Fl p c):Fl f c:=by
  intro d dp
  obtain ⟨R,hR,hn⟩:=Qyg hc
  obtain ⟨e,e1,_,e3⟩:=Zi (Rb hR q) dp
  refine Lf (Qhp hn (h e e1)) fun t ⟨h1,h2⟩=>?_
  rw [hf]
  have:=Zg (Rat.le_of_lt h2) (C0 h1 q)
  exact Rat.not_le.1 fun h=>absurd (Rat.le_trans h this) (Rat.not_le.2 e3)
theorem Lx {c:Rat→Int} {f p q:List Rat} (hf:∀ t,ev f t=ev p t+ev q t) (h:Fl p c) (h':Fl q c):Fl f c:=by
  intro d dp
  have hd2:0<d / 2:=Uh dp (by decide)
  have h2:d / 2*2=d:=Zh (by decide)
  refine Lf (Qhp (h _ hd2) (h' _ hd2)) fun t ⟨h1,h2⟩=>?_
  rw [hf]
  have:=X7 (ev p t) (ev q t)
  grind
def RS (p:List Rat) (c:Rat→Int) (s:Int):Prop:=∃ y,c y=-1∧∀ q,c q=-1→q≤y→Qj (ev p q)=s
def LS (p:List Rat) (c:Rat→Int) (s:Int):Prop:=∃ x,c x=1∧∀ q,c q=1→x≤q→Qj (ev p q)=s
theorem Qac {c:Rat→Int} (hc:Cut c) {p:List Rat} {s:Int} (h:NZ p c s):RS p c s:=by
  obtain ⟨d,dp,x,y,a1,a2,a3⟩:=h
  exact ⟨y,a2,fun q h1 h2=>(a3 q (Rat.le_of_lt (hc.lt a1 h1)) h2).1⟩
theorem Qkz {c:Rat→Int} (hc:Cut c) {p:List Rat} {s:Int} (h:NZ p c s):LS p c s:=by
  obtain ⟨d,dp,x,y,a1,a2,a3⟩:=h
  exact ⟨x,a1,fun q h1 h2=>(a3 q h2 (Rat.le_of_lt (hc.lt h1 a2))).1⟩
theorem Qlw {c:Rat→Int} {p:List Rat} {s s':Int} (h:RS p c s) (h':RS p c s'):s=s':=by
  obtain ⟨y,a1,a2⟩:=h
  obtain ⟨y',b1,b2⟩:=h'
  rcases Qx y y' with e | e
  · rw [←a2 y a1 Rat.le_refl,←b2 y a1 e]
  · rw [←a2 y' b1 (Rat.le_of_lt e),←b2 y' b1 Rat.le_refl]
theorem Qyk {c:Rat→Int} (hc:Cut c) {p:List Rat} (hv:Fl p c) {y:Rat} (hy:c y=-1) (h:∀ q,c q=-1→q≤y→0<dv p q) (q:Rat) (hq:c q=-1) (hqy:q≤y):0<ev p q:=by
  rcases Qx (ev p q) 0 with h0 | h0
  · exfalso
    obtain ⟨r,r1,r2⟩:=hc.dn q hq
    have hr:ev p r<ev p q:=Qwr r1 fun t t1 t2=>h t (by
      rcases Classical.em (r=t) with e | e
      · rw [←e]; exact r2
      · exact hc.mono r t (by clear h; grind) (by omega)) (Rat.le_trans t2 hqy)
    obtain ⟨a,b,ha,hb,hab⟩:=hv (-ev p r) (by clear h; grind)
    obtain ⟨m,hm1,hm2,hm3⟩:∃ m,c m=-1∧m≤b∧m≤r:=by
      rcases Qx b r with e | e
      · exact ⟨b,hb,Rat.le_refl,e⟩
      · exact ⟨r,r2,Rat.le_of_lt e,Rat.le_refl⟩
    have h1:=hab m (Rat.le_of_lt (hc.lt ha hm1)) hm2
    have h2:ev p m≤ev p r:=by
      rcases Classical.em (m=r) with e | e
      · rw [e]; exact Rat.le_refl
      · exact Rat.le_of_lt (Qwr (by clear h hab; grind) fun t t1 t2=>h t (by
          rcases Classical.em (m=t) with e | e
          · rw [←e]; exact hm1
          · exact hc.mono m t (by clear h hab; grind) (by omega)) (by clear h hab; grind))
    rw [Qcd] at h1
    clear h hab; grind
  · exact h0
theorem Qci {c:Rat→Int} (hc:Cut c) {p:List Rat} {s:Int} (hv:Fl p c) (h:RS (Y5 p) c s) (hs:s≠0):RS p c s:=by
  obtain ⟨y,hy,h⟩:=h
  have hsv:s=1∨s=-1:=by
    have:=h y hy Rat.le_refl
    rcases Qz (ev (Y5 p) y) with ⟨e,_⟩ | ⟨e,_⟩ | ⟨e,_⟩ <;> omega
  rcases hsv with rfl | rfl
  · refine ⟨y,hy,fun q h1 h2=>Z7.2 (Qyk hc hv hy (fun q h1 h2=>?_) q h1 h2)⟩
    rw [←Xs]; exact Z7.1 (h q h1 h2)
  · refine ⟨y,hy,fun q h1 h2=>Ji.2 ?_⟩
    have:=Qyk hc (p:=Kr (-1) p) (y:=y) (fun d dp=>Lf (hv d dp) fun q hq=>by rw [Q5,show -1*ev p q=-ev p q by grind,Wx]; exact hq) hy (fun q h1 h2=>by
      rw [Be,←Xs]
      have:=Ji.1 (h q h1 h2); grind) q h1 h2
    rw [Q5] at this; grind
end Orq

namespace Orq
theorem Qyd {c:Rat→Int} (hc:Cut c) {p:List Rat} (hv:Fl p c) {x:Rat} (hx:c x=1) (h:∀ q,c q=1→x≤q→0<dv p q) (q:Rat) (hq:c q=1) (hxq:x≤q):ev p q<0:=by
  rcases Qx 0 (ev p q) with h0 | h0
  · exfalso
    obtain ⟨r,r1,r2⟩:=hc.up q hq
    have hr:ev p q<ev p r:=Qwr r1 fun t t1 t2=>h t (by
      rcases Classical.em (t=r) with e | e
      · rw [e]; exact r2
      · exact hc.mono' (q:=t) (r:=r) (by clear h; grind) (by omega)) (Rat.le_trans hxq t1)
    obtain ⟨a,b,ha,hb,hab⟩:=hv (ev p r) (by clear h; grind)
    obtain ⟨m,hm1,hm2,hm3⟩:∃ m,c m=1∧a≤m∧r≤m:=by
      rcases Qx a r with e | e
      · exact ⟨r,r2,e,Rat.le_refl⟩
      · exact ⟨a,ha,Rat.le_refl,Rat.le_of_lt e⟩
    have h1:=hab m hm2 (Rat.le_of_lt (hc.lt hm1 hb))
    have h2:ev p r≤ev p m:=by
      rcases Classical.em (r=m) with e | e
      · rw [e]; exact Rat.le_refl
      · exact Rat.le_of_lt (Qwr (by clear h hab; grind) fun t t1 t2=>h t (by
          rcases Classical.em (t=m) with e | e
          · rw [e]; exact hm1
          · exact hc.mono' (q:=t) (r:=m) (by clear h hab; grind) (by omega)) (by clear h hab; grind))
    rw [Qcd] at h1
    clear h hab; grind
  · exact h0
theorem Qrg {c:Rat→Int} (hc:Cut c) {p:List Rat} {s:Int} (hv:Fl p c) (h:LS (Y5 p) c s) (hs:s≠0):LS p c (-s):=by
  obtain ⟨x,hx,h⟩:=h
  have hsv:s=1∨s=-1:=by
    have:=h x hx Rat.le_refl
    rcases Qz (ev (Y5 p) x) with ⟨e,_⟩ | ⟨e,_⟩ | ⟨e,_⟩ <;> omega
  rcases hsv with rfl | rfl
  · refine ⟨x,hx,fun q h1 h2=>Ji.2 (Qyd hc hv hx (fun q h1 h2=>?_) q h1 h2)⟩
    rw [←Xs]; exact Z7.1 (h q h1 h2)
  · refine ⟨x,hx,fun q h1 h2=>Z7.2 ?_⟩
    have:=Qyd hc (p:=Kr (-1) p) (x:=x) (fun d dp=>Lf (hv d dp) fun q hq=>by rw [Q5,show -1*ev p q=-ev p q by grind,Wx]; exact hq) hx (fun q h1 h2=>by
      rw [Be,←Xs]
      have:=Ji.1 (h q h1 h2); grind) q h1 h2
    rw [Q5] at this; grind
theorem Qwu {c:Rat→Int} (hc:Cut c) {f g:List Rat} {l:List (List Rat)} (h:SCl f g l):Fl f c→Fl g c→False:=by
  induction h with
  |
   @base f g k hk hg =>
   intro _ hv
   obtain ⟨q,hq,_⟩:=Qet hc (hv (Ql k) (Vv hk))
   rw [hg] at hq; grind
  |
   @step f g h l a b q ha hb he hl ih =>
   intro hf hg
   refine ih hg ?_
   have h1:Fl (Za q g) c:=J1 hc (p:=g) (q:=q) (fun t=>by rw [Qi]; grind) hg
   have h2:Fl (Kr (-a) f) c:=J1 hc (p:=f) (q:=[-a]) (fun t=>by rw [Q5]; simp only [ev]; grind) hf
   have h3:Fl (X8 (Za q g) (Kr (-a) f)) c:=Lx (fun t=>Q9 t _ _) h1 h2
   refine J1 hc (p:=X8 (Za q g) (Kr (-a) f)) (q:=[1 / b]) (fun t=>?_) h3
   have:=he t
   rw [Q9,Qi,Q5]
   simp only [ev]
   have hbb:1 / b*b=1:=Zh hb
   have:ev q t*ev g t+-a*ev f t=b*ev h t:=by rw [show -a*ev f t=-(a*ev f t) by grind,he t]; grind
   rw [this]
   have:b*ev h t*(1 / b+t*0)=ev h t*(1 / b*b):=by grind
   rw [this,hbb]; grind
theorem Qao {c:Rat→Int} (hc:Cut c) {f g:List Rat} {k:Rat} (h:∀ t,ev g t=k*ev f t) (hv:Fl f c):Fl g c :=
  J1 hc (p:=f) (q:=[k]) (fun t=>by rw [h]; simp only [ev]; grind) hv
theorem Qwz {c:Rat→Int} (hc:Cut c) {f:List Rat} {L:List (List Rat)} (h:Dk f L) (hv:Fl f c):∃ s,s≠0∧NZ (Y5 f) c s:=by
  rcases Ti hc (Y5 f) with h1 | h1
  · exfalso
    rcases h with ⟨k,hk,hf,_⟩ | ⟨g,l,k,hk,hg,h,_⟩
    · obtain ⟨q,hq,_⟩:=Qet hc (hv (Ql k) (Vv hk))
      rw [hf] at hq; grind
    · exact Qwu hc h hv (Qao hc (fun t=>by rw [hg,Xs]) h1)
  · exact h1
theorem Qj4 {c:Rat→Int} (hc:Cut c) {f w u:List Rat} {L:List (List Rat)} (h:Dk f L) (hf:∀ t,ev f t=ev w t*ev u t) (hv:Fl w c):∃ s,s≠0∧NZ (Y5 w) c s:=by
  rcases Ti hc (Y5 w) with h1 | h1
  · exfalso
    obtain ⟨s,_,hs⟩:=Qwz hc h (J1 hc hf hv)
    refine Q1a hc ?_ hs
    have a1:Fl (Za (Y5 w) u) c:=J1 hc (fun t=>Qi t _ _) h1
    have a2:Fl (Za w (Y5 u)) c:=J1 hc (fun t=>Qi t _ _) hv
    refine Lx (fun t=>?_) a1 a2
    rw [Xs,G5 hf,Qi,Qi,Xs,Xs]
  · exact h1
theorem Qpt {c:Rat→Int} (hc:Cut c) {q:Rat} (h:c q=0) {x y:Rat} (hx:c x=1) (hy:c y=-1):x≤q∧q≤y:=by
  constructor
  · rcases Qx x q with e | e
    · exact e
    · have:=hc.mono q x e (by omega); omega
  · rcases Qx q y with e | e
    · exact e
    · have:=hc.mono y q e (by omega); omega
theorem Ck {c:Rat→Int} (hc:Cut c) {p:List Rat} {q:Rat} (h:c q=0) (hv:Fl p c):ev p q=0:=by
  rcases Classical.em (ev p q=0) with e | e
  · exact e
  · obtain ⟨x,y,hx,hy,hq⟩:=hv _ (Vv e)
    obtain ⟨h1,h2⟩:=Qpt hc h hx hy
    have:=hq q h1 h2; grind
theorem Qex {c:Rat→Int} (hc:Cut c) {p:List Rat} {q:Rat} {s:Int} (h:c q=0) (hv:NZ p c s):Qj (ev p q)=s:=by
  obtain ⟨d,dp,x,y,hx,hy,hq⟩:=hv
  obtain ⟨h1,h2⟩:=Qpt hc h hx hy
  exact (hq q h1 h2).1
theorem Qg0 {c:Rat→Int} (hc:Cut c) {y z:Rat} (hy:c y=-1) (hz:c z=-1):∃ q,c q=-1∧q<y∧q<z:=by
  obtain ⟨a,a1,a2⟩:=hc.dn y hy
  obtain ⟨b,b1,b2⟩:=hc.dn z hz
  rcases Qx a b with e | e
  · exact ⟨a,a2,a1,by grind⟩
  · exact ⟨b,b2,by grind,b1⟩
theorem Es {c:Rat→Int} (hc:Cut c) {y z:Rat} (hy:c y=1) (hz:c z=1):∃ q,c q=1∧y<q∧z<q:=by
  obtain ⟨a,a1,a2⟩:=hc.up y hy
  obtain ⟨b,b1,b2⟩:=hc.up z hz
  rcases Qx a b with e | e
  · exact ⟨b,b2,by grind,b1⟩
  · exact ⟨a,a2,a1,by grind⟩
theorem Qrs {f w u:List Rat} {L:List (List Rat)} (h:Dk f L) (hf:∀ t,ev f t=ev w t*ev u t) {x y:Rat} (hv:vv L x=vv L y) {c:Rat→Int} (hc:Cut c) (hx:c x=1) (hy:c y≠1):¬Fl w c:=fun hw=>by
  have hxy:x<y:=by
    rcases Qx y x with e | e
    · rcases Classical.em (y=x) with e' | e'
      · rw [e'] at hy; exact absurd hx hy
      · have:=hc.mono y x (by grind) hy; omega
    · exact e
  have hwv:=Sz h hf hxy hv
  rcases hc.val y with e | e | e
  · exact hy e
  · have:=Ck hc e hw
    have:=hwv.s
    rw [Q0.2 (by assumption)] at this
    exact hwv.n this.symm
  · obtain ⟨s,hs,hd⟩:=Qj4 hc h hf hw
    obtain ⟨a,ha,hal⟩:=Qrg hc hw (Qkz hc hd) hs
    obtain ⟨b,hb,hbr⟩:=Qci hc hw (Qac hc hd) hs
    obtain ⟨q,q1,q2,q3⟩:=Es hc hx ha
    obtain ⟨r,r1,r2,r3⟩:=Qg0 hc hb e
    have e1:=hal q q1 (Rat.le_of_lt q3)
    have e2:=hbr r r1 (Rat.le_of_lt r2)
    have hqr:=hc.lt q1 r1
    have v1:vv L q≤vv L x:=Us h q2
    have v2:vv L y≤vv L r:=Us h r3
    have v3:vv L r≤vv L q:=Us h hqr
    have s1:=(Sz h hf q2 (by omega)).s
    have s2:=(Sz h hf (x:=x) (y:=r) (by grind) (by omega)).s
    omega
theorem Qct {f:List Rat} {L:List (List Rat)} (h:Dk f L) {x y:Rat} (hxy:x<y) (hv:vv L x≠vv L y) {d:Rat} (dp:0<d):∃ q,x≤q∧q≤y∧Ql (ev f q)<d:=by
  obtain ⟨R,hR,hx,hy⟩:=Qaq x y
  obtain ⟨e1,e1p,hl⟩:=loc hR h (w:=f) (u:=[1]) (fun t=>by rw [Xj]; grind)
  obtain ⟨e2,e2p,_,e2b⟩:=Zi (Yn hR f) dp
  obtain ⟨e,ep,h1,h2⟩:=min2 e1p e2p
  have key:∀ n:Nat,∀ x,Ql x≤R→x<y→vv L x≠vv L y→y-x≤(n:Rat)*e→∃ q,x≤q∧q≤y∧Ql (ev f q)<d:=by
    intro n
    induction n with
    | zero=>intro x hx hxy _ hn; rw [show ((0:Nat):Rat)=0 from rfl] at hn; exfalso; clear hl; grind
    |
     succ n ih =>
     intro x hx hxy hv hn
     have hstep:∀ z,Ql z≤R→x<z→z-x≤e→vv L x≠vv L z→Ql (ev f z)<d:=fun z hz hxz hze hv=>by
       rcases hl x z hx hz hxz (Rat.le_trans hze h1) with ⟨p,_⟩ | ⟨_,p1,p2,p3,p4⟩
       · exact absurd p hv
       · have hd:=J8 (p:=f) hx hz hR (e:=e2) (d:=d) (by rw [Yd]; clear hl ih; constructor <;> grind) e2b
         rw [←p3] at p1 p4
         clear hl ih p2 p3
         rw [Qcd] at *
         rcases Qz (ev f x) with ⟨a,a'⟩ | ⟨a,a'⟩ | ⟨a,a'⟩ <;> rcases Qz (ev f z) with ⟨b,b'⟩ | ⟨b,b'⟩ | ⟨b,b'⟩ <;> rw [a,b] at p4 <;> first | (exfalso; revert p4; decide) | skip
         all_goals first | (constructor <;> grind) | (exfalso; omega)
     rcases Qx (y-x) e with h3 | h3
     · exact ⟨y,Rat.le_of_lt hxy,Rat.le_refl,hstep y hy hxy h3 hv⟩
     · have hm:Ql (x+e)≤R:=Mh hx hy (by clear hl ih hstep; grind) (by clear hl ih hstep; grind)
       rcases Classical.em (vv L x=vv L (x+e)) with e0 | e0
       · have hn':(((n+1:Nat):Rat))=(n:Rat)+1:=by push_cast; rfl
         rw [hn'] at hn
         obtain ⟨q,q1,q2,q3⟩:=ih (x+e) hm (by clear hl ih hstep; grind) (by omega) (by clear hl ih hstep; grind)
         exact ⟨q,by clear hl ih hstep; grind,q2,q3⟩
       · exact ⟨x+e,by clear hl ih hstep; grind,by clear hl ih hstep; grind,hstep (x+e) hm (by clear hl ih hstep; grind) (by clear hl ih hstep; grind) e0⟩
  obtain ⟨n,hn⟩:=Hw (z:=y-x) ep
  exact key n x hx hxy hv hn
end Orq
