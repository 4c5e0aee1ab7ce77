/- C1 C2 D1 E1 AlgL F1 F2 F3 F4 F5 T1 T2 T3 T4 T5 T6 -/
import Derived.Test.YtbnjginelkkonaaGreatPart04
set_option linter.all false
namespace Orr
open Go Go.Proofs
set_option maxRecDepth 10000
theorem Qpk {p:List Int} {g:Int} (hl:p.length<274877906944) (hp:Bd 4294967295 p) (hg:Qt g≤4294967295) (h0:g≠0) (hd:∀ z∈p,z % g=0):Qg Tryz.prog 121 [pr p,.agg (Z0 g)] [pr (Qq (p.map (· / g)))]:=by
  refine X4 Tryz.func121 rfl ?_
  refine go tt [.r 9 (eI (b:=(p.length:Int)) (by simp)),.i p.length,.i p.length,.r 12 (eI (b:=(p.length:Int)) (by simp))] rfl (by simp [Qa]; omega) ?_
  rw [Uj fun k=>Z0 (p.getD k 0 / g)]
  refine lp (S:=Nat) 2 (fun L1 k=>(13,.v (.one (.int .i64 (k:Int))))::L1) (fun k=>[.blk 29 (Z0 g),.row false 29 2 (Io (fun k=>Z0 (p.getD k 0 / g)) [.bool false,.nils] p.length k)]) (fun k=>p.length-k) (fun k=>k≤p.length) 0 (Nat.zero_le _) rfl (fun _ _=>rfl) rfl fun k hk=>?_
  by_cases hlt:k<p.length
  · have hg2:=Xo hlt
    refine go tt [.t (by simp; omega),.x (Jy hg2),.c [] (Ux (Qe _) (Qe _) (Q7 hp k) hg h0 (hd _ (List.mem_of_getElem? hg2))),.i k] rfl (by simp [Qa,U4]; omega) ?_
    have e:=G9 (fun k=>Z0 (p.getD k 0 / g)) [.bool false,.nils] hlt
    rw [e]
    exact rd (k+1) (by omega) hlt rfl
  · obtain rfl:k=p.length:=by omega
    have e:Io (fun k=>Z0 (p.getD k 0 / g)) [.bool false,.nils] p.length p.length=(p.map (· / g)).map Z0:=by
      rw [G8]
      refine List.ext_getElem? fun i=>?_
      by_cases hi:i<p.length
      · simp [List.getElem?_range hi,List.getD,List.getElem?_eq_getElem hi]
      · simp [List.getElem?_eq_none,hi]
    rw [e]
    exact en tt [.f (by simp),.c [] (Wo (Zs (p.map (· / g))) (by simp; exact hl) (Ns hp g))] rfl rfl trivial
theorem A3 (p:List Int):∀ c∈p.map Z0,c.length=2:=Qyo p fun _=>rfl
theorem Qa9 {lx ly:List (List LV)} {px py:List Int} {x y:LV} {d:Int} (hx:IsInts lx px) (hy:IsInts ly py) (hd:Xg x y d) (hk:Cs 4294967294 1073741824 (Crv.mk px py d)):Qg Tryz.prog 74 [.agg [.row lx,.row ly,x,y]] [.agg (cl (Crv.norm (Crv.mk px py d)))]:=by
  have hlx:=hk.lx
  have hly:=hk.ly
  simp only at hlx hly
  have htx:=Xd px
  have hty:=Xd py
  have hd1:Qt (Crv.mk px py d).d'≤4294967295:=Nat.le_trans (Qrh hk.d (by omega)) (by omega)
  have hg1:=Crv.isz_g (Crv.mk px py d) hd1
  have hg0:=Crv.g_ne (Crv.mk px py d)
  have hgd:=Crv.g_dvd (Crv.mk px py d)
  have cx:=Wo hx (by omega) (Qc hk.x (by omega))
  have cy:=Wo hy (by omega) (Qc hk.y (by omega))
  have cd:=Wp hd (Nat.le_trans hk.d (by omega))
  have bx:Bd 4294967295 (Qq px):=Qc (Jf hk.x) (by omega)
  have by_:Bd 4294967295 (Qq py):=Qc (Jf hk.y) (by omega)
  obtain ⟨b,l,rfl,rfl,_⟩:=hd
  obtain ⟨e,he⟩:∃ e,e=(Crv.mk px py d).d':=⟨_,rfl⟩
  obtain ⟨g,hgg⟩:∃ g,g=(Crv.mk px py d).g:=⟨_,rfl⟩
  obtain ⟨X,hX⟩:∃ X,X=Qq px:=⟨_,rfl⟩
  obtain ⟨Y,hY⟩:∃ Y,Y=Qq py:=⟨_,rfl⟩
  have hnorm:(Crv.mk px py d).norm=⟨Qq (X.map (· / g)),Qq (Y.map (· / g)),e / g⟩:=by rw [he,hgg,hX,hY]; rfl
  rw [hnorm]
  have hgdef:g=if e<0 then -((Xe (e::(X++Y)):Nat):Int) else (Xe (e::(X++Y)):Nat):=by rw [hgg,he,hX,hY]; rfl
  have hde:e=if d=0 then 1 else d:=by rw [he]; rfl
  simp only [←he,←hgg,←hX,←hY] at hd1 hg1 hg0 hgd htx hty cx cy bx by_
  clear hnorm hgg he hX hY
  refine X4 Tryz.func74 rfl ?_
  refine go tt [.c [] cx,.c [] cy,.c [] cd,.c [] Fc] rfl trivial ?_
  refine ct 1 (S:=Unit) (fun _=>[(2,.v (.one (.ow 1 0))),(3,.v (pr X)),(4,.v (pr Y)),(5,.v (.one (.ow 2 0)))]) (fun _=>[.blk 31 [.row lx,.row ly,.bool b,.row (lm l)],.blk 31 [.nils,.nils,.bool false,.nils],.blk 29 (Z0 e)]) (fun _=>True) rfl ?_ ?_
  · by_cases h0:d=0
    · rw [hde,if_pos h0]
      exact go tt [.t (by simpa using h0),.c [] (Qg3 (z:=1) (by decide))] rfl trivial (rc () trivial rfl)
    · rw [hde,if_neg h0]
      exact go tt [.f (by simpa using h0)] rfl trivial (rc () trivial rfl)
  · intro _ _
    have hgi:IsInts ([Z0 e]++X.map Z0++Y.map Z0) (e::(X++Y)):=by
      have:=Zs (e::(X++Y))
      simpa using this
    have hgs:∀ z∈e::(X++Y),Qt z≤4294967295:=fun z hz=>by
      rcases List.mem_cons.1 hz with rfl | hz
      · exact hd1
      · rcases List.mem_append.1 hz with hz | hz
        · exact bx z hz
        · exact by_ z hz
    have cg:=Qos hgi hgs
    have co1:=Qpk (p:=X) (by omega) bx hg1 hg0 fun z hz=>hgd z (List.mem_cons_of_mem _ (List.mem_append_left _ hz))
    have co2:=Qpk (p:=Y) (by omega) by_ hg1 hg0 fun z hz=>hgd z (List.mem_cons_of_mem _ (List.mem_append_right _ hz))
    have ce:=Ux (Qe e) (Qe g) hd1 hg1 hg0 (hgd e (List.mem_cons_self ..))
    have hszg:=D5 hgs
    by_cases hneg:e<0
    · rw [if_pos hneg] at hgdef
      have cn:=L6 (Qe ((Xe (e::(X++Y)):Nat):Int)) hszg
      rw [←hgdef] at cn
      exact en tt [.lo,.s (A3 X),.s (A3 Y),.c [] cg,.t (by simpa using hneg),.c [] cn,.c [] ce,.c [] co1,.c [] co2] rfl rfl (by simp [Qa]; omega)
    · rw [if_neg hneg] at hgdef
      rw [←hgdef] at cg
      exact en tt [.lo,.s (A3 X),.s (A3 Y),.c [] cg,.f (by simpa using hneg),.c [] ce,.c [] co1,.c [] co2] rfl rfl (by simp [Qa]; omega)
theorem Qdo {k:Crv} (hn:Nml k) (hk:Cs 4294967294 1073741824 k):Qg Tryz.prog 74 [.agg (cl k)] [.agg (cl k)]:=by
  have h:=Qa9 (Zs k.x) (Zs k.y) (Qe k.d) hk
  rw [Crv.norm_of hn] at h; exact h
theorem Qa8 {lx ly:List (List LV)} {px py:List Int} {x y:LV} {d:Int} (hx:IsInts lx px) (hy:IsInts ly py) (hd:Xg x y d) (hk:Cs 4294967294 1073741824 (Crv.mk px py d)) (h0:d≠0):Qg Tryz.prog 215 [.one (.row lx),.one (.row ly),.agg [x,y]] [.agg (cl (Crv.norm (Crv.mk px py d))),.one (.int .i64 0)]:=by
  have cd:=Wp hd (Nat.le_trans hk.d (by omega))
  have cn:=Qa9 hx hy hd hk
  obtain ⟨b,l,rfl,rfl,_⟩:=hd
  exact w tt Tryz.func215 rfl [.c [] cd,.c [] Fc,.f (by simpa using h0),.c [] cn] rfl rfl trivial
theorem Qx6 {lx ly:List (List LV)} {px py:List Int} (hx:IsInts lx px) (hy:IsInts ly py) (hk:Cs 4294967294 1073741824 (Crv.mk px py 0)):Qg Tryz.prog 17 [.one (.row lx),.one (.row ly)] [.agg (cl (Crv.norm (Crv.mk px py 0)))] :=
  w tt Tryz.func17 rfl [.c [] (Qa9 hx hy J6 hk)] rfl rfl trivial
def Fa (x y:Int):Crv:=Crv.norm ⟨Qq [x],Qq [y],0⟩
theorem Qdv {x y:Int} (hx:-9223372036854775808≤x∧x≤9223372036854775807) (hy:-9223372036854775808≤y∧y≤9223372036854775807):Cs 64 1 ⟨Qq [x],Qq [y],0⟩:=by
  have key:∀ z:Int,-9223372036854775808≤z∧z≤9223372036854775807→Qt z≤64:=fun z hz=>by
    rw [Y0]
    have:(2:Nat)^64=18446744073709551616:=by decide
    omega
  refine ⟨Jf fun z hz=>?_,Jf fun z hz=>?_,Nat.zero_le _,Xd [x],Xd [y]⟩
  · rw [List.mem_singleton] at hz; rw [hz]; exact key x hx
  · rw [List.mem_singleton] at hz; rw [hz]; exact key y hy
theorem Qa6 {x y:Int} (hx:-9223372036854775808≤x∧x≤9223372036854775807) (hy:-9223372036854775808≤y∧y≤9223372036854775807):Qg Tryz.prog 59 [.one (.int .i64 x),.one (.int .i64 y)] [.agg (cl (Fa x y))] :=
  w tt Tryz.func59 rfl [.c [] (I6 (p:=[x]) (show 1<274877906944 by decide) (by intro z hz; rw [List.mem_singleton] at hz; rw [hz]; exact hx)),.c [] (I6 (p:=[y]) (show 1<274877906944 by decide) (by intro z hz; rw [List.mem_singleton] at hz; rw [hz]; exact hy)),.c [] (Qx6 (Zs _) (Zs _) ((Qdv hx hy).mono (by omega) (by omega)))] rfl rfl trivial
theorem Qu1 {a b:Crv} (ha:Nml a) (hb:Nml b) (ca:Cs 4294967294 1073741824 a) (cb:Cs 4294967294 1073741824 b):Qg Tryz.prog 218 [.agg (cl a),.agg (cl b)] [.one (.bool (Wi a b))]:=by
  have na:=Qdo ha ca
  have nb:=Qdo hb cb
  have alx:=ca.lx
  have aly:=ca.ly
  have blx:=cb.lx
  have bly:=cb.ly
  have sx:=Qa5 (p:=a.x) (q:=b.x) (by omega) (by omega) (Qc ca.x (by omega)) (Qc cb.x (by omega))
  have sy:=Qa5 (p:=a.y) (q:=b.y) (by omega) (by omega) (Qc ca.y (by omega)) (Qc cb.y (by omega))
  have sd:=Nw (Qe a.d) (Qe b.d) (Nat.le_trans ca.d (by omega)) (Nat.le_trans cb.d (by omega))
  rw [ha.1,hb.1] at sx
  rw [ha.2.1,hb.2.1] at sy
  by_cases h1:a.x=b.x
  · by_cases h2:a.y=b.y
    · exact w tt Tryz.func218 rfl [.c [] na,.c [] nb,.c [] sx,.t (by simpa using h1),.c [] sy,.t (by simpa using h2),.c [] sd] rfl (by simp [Wi,h1,h2,Qbe]) trivial
    · exact w tt Tryz.func218 rfl [.c [] na,.c [] nb,.c [] sx,.t (by simpa using h1),.c [] sy,.f (by simpa using h2)] rfl (by simp [Wi,h1,h2]) trivial
  · exact w tt Tryz.func218 rfl [.c [] na,.c [] nb,.c [] sx,.f (by simpa using h1),.f rfl] rfl (by simp [Wi,h1]) trivial
end Orr

namespace Orr
open Go Go.Proofs
set_option maxRecDepth 10000
theorem B6 {l:List Pt} {i:Nat} {p:Pt} (h:l[i]? = some p):(l.map Zt)[i]? = some [pl p.c.x,pl p.c.y,sg p.c.d,mg p.c.d,.int .i64 p.id]:=J0 h
theorem Qfq (l:List Pt):∀ c∈l.map Zt,c.length=5:=Qyo l fun _=>rfl
theorem Qu6 {lx ly:List (List LV)} {px py:List Int} {x y:LV} {d:Int} (hx:IsInts lx px) (hy:IsInts ly py) (hd:Xg x y d) (hk:Cs 4294967294 1073741824 (Crv.mk px py d)) (id:Int):Qg Tryz.prog 165 [.agg [.row lx,.row ly,x,y,.int .i64 id]] [.agg (Zt ⟨Crv.norm (Crv.mk px py d),id⟩)]:=by
  have cd:=Wp hd (Nat.le_trans hk.d (by omega))
  by_cases h0:d=0
  · subst h0
    have ck:Cs 4294967294 1073741824 (Crv.mk px py 1):=⟨hk.x,hk.y,show Qt 1≤4294967294 by decide,hk.lx,hk.ly⟩
    have cm:=Qa8 hx hy (Qe 1) ck (by decide)
    have e:Crv.norm (Crv.mk px py 1)=Crv.norm (Crv.mk px py 0):=by simp only [Crv.norm,Crv.g,Crv.d']; rfl
    rw [e] at cm
    obtain ⟨b,l,rfl,rfl,_⟩:=hd
    exact w tt Tryz.func165 rfl [.c [] cd,.c [] Fc,.t (by simp),.c [] (Qg3 (z:=1) (by decide)),.c [] cm] rfl rfl trivial
  · have cm:=Qa8 hx hy hd hk h0
    obtain ⟨b,l,rfl,rfl,_⟩:=hd
    exact w tt Tryz.func165 rfl [.c [] cd,.c [] Fc,.f (by simpa using h0),.c [] cm] rfl rfl trivial
theorem Q2f {l:List Pt} (id:Int) (hl:l.length<1073741824):Qg Tryz.prog 164 [.agg [pts l],.one (.int .i64 id)] [.one (.int .i64 (Lc l id:Int)),.one (.bool (has l id))]:=by
  refine X4 Tryz.func164 rfl ?_
  refine go tt [] rfl trivial ?_
  refine ct 2 (S:=Unit) (fun _=>[(1,.v (.one (.int .i64 id))),(2,.v (.one (.ow 0 0))),(6,.v (.one (.int .i64 (Lc l id:Int))))]) (fun _=>[.blk 72 [pts l]]) (fun _=>True) rfl ?_ ?_
  · refine lp (S:=Nat) 1 (fun L1 k=>(6,.v (.one (.int .i64 (k:Int))))::L1) (fun _=>[.blk 72 [pts l]]) (fun k=>l.length-k) (fun k=>k≤l.length∧∀ j p,j<k→l[j]? = some p→p.id<id) 0 ⟨Nat.zero_le _,fun j p h=>by omega⟩ rfl (fun _ _=>rfl) rfl fun k ⟨hk,hlt⟩=>?_
    by_cases h:k<l.length
    · obtain ⟨p,hp⟩:∃ p,l[k]? = some p:=⟨_,List.getElem?_eq_getElem h⟩
      by_cases hid:p.id<id
      · refine go tt [.t (by simp; omega),.x (B6 hp),.t (by simpa using hid)] rfl (by simp [Qa]; omega) ?_
        exact rd (k+1) (by omega) ⟨h,fun j q hj hq=>by
          rcases Nat.lt_or_ge j k with h2 | h2
          · exact hlt j q h2 hq
          · have:j=k:=by omega
            subst this; rw [hp] at hq; injection hq with hq; rw [←hq]; exact hid⟩ rfl
      · have e:=Qh7 hlt (.inr ⟨p,hp,hid⟩)
        refine go tt [.t (by simp; omega),.x (B6 hp),.f (by simpa using hid)] rfl trivial ?_
        rw [e]
        exact rc () trivial rfl
    · obtain rfl:k=l.length:=by omega
      have e:=Qh7 hlt (.inl rfl)
      refine go tt [.f (by simp),.f rfl] rfl trivial ?_
      rw [e]
      exact rc () trivial rfl
  · intro _ _
    by_cases h:Lc l id<l.length
    · obtain ⟨p,hp⟩:∃ p,l[Lc l id]? = some p:=⟨_,List.getElem?_eq_getElem h⟩
      have e:has l id=decide (p.id=id):=by simp [has,hp]
      rw [e]
      exact en tt [.g 30 true (by simp; omega),.x (B6 hp)] rfl rfl trivial
    · have e:has l id=false:=by simp [has,List.getElem?_eq_none (Nat.le_of_not_lt h)]
      rw [e]
      exact en tt [.g 30 false (by simp; omega)] rfl rfl trivial
theorem Qa3 {l:List Pt}:Qg Tryz.prog 126 [.agg [pts l]] [.one (pts l)]:=w tt Tryz.func126 rfl [] rfl rfl trivial
theorem Q19 {lx ly:List (List LV)} {px py:List Int} {x y:LV} {d id:Int} {l:List Pt} (hx:IsInts lx px) (hy:IsInts ly py) (hd:Xg x y d) (hk:Cs 4294967294 1073741824 (Crv.mk px py d)) (hl:l.length≤1000000) :
    Qg Tryz.prog 104 [.agg [pts l],.agg [.row lx,.row ly,x,y,.int .i64 id]] [.agg [pts (if Hw l (Pt.mk (Crv.norm (Crv.mk px py d)) id)=0 then put l (Pt.mk (Crv.norm (Crv.mk px py d)) id) else l)],.one (.int .i64 (Hw l (Pt.mk (Crv.norm (Crv.mk px py d)) id)))]:=by
  have ca:=Q2f (l:=l) id (by omega)
  have cf:=Qu6 hx hy hd hk id
  obtain ⟨b,r,rfl,rfl,_⟩:=hd
  obtain ⟨q,hq⟩:∃ q,q=Pt.mk (Crv.norm (Crv.mk px py d)) id:=⟨_,rfl⟩
  have hqi:q.id=id:=by rw [hq]
  rw [←hq] at cf ⊢
  have Ye:=Qsh l id
  by_cases h1:has l id=true
  · have e:Hw l q=6:=by simp [Hw,hqi,h1]
    rw [e,if_neg (by decide)]
    exact w tt Tryz.func104 rfl [.c [] ca,.t h1] rfl rfl trivial
  by_cases h2:6≤l.length
  · have e:Hw l q=9:=by simp [Hw,hqi,h1,h2]
    rw [e,if_neg (by decide)]
    exact w tt Tryz.func104 rfl [.c [] ca,.f (by simpa using h1),.t (by simp; omega)] rfl rfl trivial
  have e:Hw l q=0:=by simp [Hw,hqi,h1,h2]
  rw [e,if_pos rfl]
  have s1:∀ c∈(l.map Zt).take (Lc l id),c.length=5:=fun c hc=>Qfq l c (List.mem_of_mem_take hc)
  have s3:∀ c∈(l.map Zt).drop (Lc l id),c.length=5:=fun c hc=>Qfq l c (List.mem_of_mem_drop hc)
  refine w tt Tryz.func104 rfl [.c [] ca,.f (by simpa using h1),.f (by simp; omega),.i (Lc l id),.s s1,.c [] cf,.i (Lc l id),.s s3] rfl ?_ ?_
  · simp [put,hqi,pts,List.map_take,List.map_drop,Zt]
  · simp [Qa]
    exact ⟨by omega,Ye,fun _ _=>rfl,by omega,by omega,Ye⟩
theorem Qry:∀ (qs:List Pt),(Vn [] qs).1.length≤qs.length:=by
  have key:∀ (qs acc:List Pt),(Vn acc qs).1.length≤acc.length+qs.length:=by
    intro qs
    induction qs with
    | nil=>intro acc; simp [Vn]
    |
     cons q qs ih =>
     intro acc
     simp only [Vn]
     split
     · have:=ih (put acc q); rw [Qww] at this; simp only [List.length_cons]; omega
     · simp
  intro qs
  have:=key qs []
  simpa using this
theorem Q16 {zs:List (List LV)} {qs:List Pt} (hz:IsPts 4294967294 1073741824 zs qs) (hl:qs.length≤6):Qg Tryz.prog 77 [.one (.row zs)] [.agg [pts (Vn [] qs).1],.one (.int .i64 (Vn [] qs).2)]:=by
  refine X4 Tryz.func77 rfl ?_
  have hzl:=hz.len
  refine go tt [.f (by simp; omega)] rfl trivial ?_
  refine nlb 1 rfl rfl rfl ?_
  refine lp (S:=Nat) 2 (fun L1 i=>(14,.v (.one (.int .i64 (i:Int))))::L1) (fun i=>[.blk 72 [.nils],.blk 72 [pts (Vn [] (qs.take i)).1]]) (fun i=>qs.length-i) (fun i=>i≤qs.length∧(Vn [] (qs.take i)).2=0) 0 ⟨Nat.zero_le _,rfl⟩ rfl (fun _ _=>rfl) rfl fun i ⟨hi,h0⟩=>?_
  by_cases hlt:i<qs.length
  · have hqi:qs[i]? = some qs[i]:=List.getElem?_eq_getElem hlt
    obtain ⟨z,hzi,lx,ly,b,r,px,py,d,rfl,hx,hy,hd,hk,hc⟩:=hz.get hqi
    have hq:(Pt.mk (Crv.norm (Crv.mk px py d)) qs[i].id)=qs[i]:=by rw [←hc]
    have hst:=Qnm [] qs hqi (by rw [←h0])
    have hnl:=Qry (qs.take i)
    have cp:=Q19 (l:=(Vn [] (qs.take i)).1) (id:=qs[i].id) hx hy hd hk (by rw [List.length_take] at hnl; omega)
    rw [hq] at cp
    by_cases he:Hw (Vn [] (qs.take i)).1 qs[i]=0
    · rw [if_pos he] at hst
      rw [he,if_pos rfl] at cp
      refine go tt [.t (by simp; omega),.x hzi,.c [] cp,.f rfl] rfl (by simp [Qa]; omega) ?_
      exact rd (i+1) (by omega) ⟨hlt,by rw [hst]⟩ (by rw [hst]; rfl)
    · rw [if_neg he] at hst
      have herr:=Qrx [] qs he hst
      rw [herr]
      exact en tt [.t (by simp; omega),.x hzi,.c [] cp,.t (by simpa using he)] rfl rfl trivial
  · obtain rfl:i=qs.length:=by omega
    rw [List.take_length] at h0
    rw [List.take_length,h0]
    exact en tt [.f (by simp; omega)] rfl rfl trivial
theorem Qpc {l:List Pt} (hok:∀ p∈l,Qgp 4294967294 1073741824 p) (hl:l.length<1073741824):Qg Tryz.prog 169 [.agg [pts l]] [.one (pts (ways l))]:=by
  refine X4 Tryz.func169 rfl ?_
  refine go tt [.o 3 35 5] rfl trivial ?_
  refine lp (S:=Nat) 2 (fun L1 i=>(12,.v (.one (.int .i64 (i:Int))))::(3,.v (.one (.orow 1 5 none)))::L1) (fun i=>[.blk 72 [pts l],.row false 35 5 (((l.take i).foldl Jk []).map Zt)]) (fun i=>l.length-i) (fun i=>i≤l.length) 0 (Nat.zero_le _) rfl (fun _ _=>rfl) rfl fun i hi=>?_
  by_cases hlt:i<l.length
  · obtain ⟨p,hp⟩:∃ p,l[i]? = some p:=⟨_,List.getElem?_eq_getElem hlt⟩
    obtain ⟨hn,hk⟩:=hok p (List.mem_of_getElem? hp)
    have hws:=X1 Jk [] l hp
    have hwl:=S4 l i
    have hwm:=S5 l i
    obtain ⟨o,ho⟩:∃ o,o=(l.take i).foldl Jk []:=⟨_,rfl⟩
    rw [←ho] at hws hwl hwm ⊢
    refine go tt [.t (by simp; omega),.x (B6 hp)] rfl trivial ?_
    refine lp (S:=Nat) 3 (fun L1 k=>(18,.v (.one (.int .i64 (k:Int))))::(6,.v (.one (.bool ((o.take k).any fun q=>Wi p.c q.c))))::L1) (fun k=>[.blk 72 [pts l],.row false 35 5 (o.map Zt),.blk 35 (Zt p)]) (fun k=>o.length-k) (fun k=>k≤o.length) 0 (Nat.zero_le _) rfl (fun _ _=>rfl) rfl fun k hk2=>?_
    by_cases hk3:k<o.length
    · obtain ⟨q,hq⟩:∃ q,o[k]? = some q:=⟨_,List.getElem?_eq_getElem hk3⟩
      obtain ⟨hqn,hqk⟩:=hok q (hwm q (List.mem_of_getElem? hq))
      have hany:((o.take (k+1)).any fun q=>Wi p.c q.c)=(((o.take k).any fun q=>Wi p.c q.c) || Wi p.c q.c):=by rw [List.take_add_one,hq,List.any_append]; simp
      cases hb:(o.take k).any fun q=>Wi p.c q.c with
      |
       true =>
       rw [hb] at hany
       refine go tt [.t (by simp; omega),.i k,.x (B6 hq),.t rfl,.r 29 (v:=.one (.bool ((o.take (k+1)).any fun q=>Wi p.c q.c))) (by rw [hany]; rfl)] rfl (by simp [Qa]; omega) ?_
       exact rd (k+1) (by omega) hk3 rfl
      |
       false =>
       rw [hb] at hany
       refine go tt [.t (by simp; omega),.i k,.x (B6 hq),.f rfl,.c [] (Qu1 hn hqn hk hqk),.r 29 (v:=.one (.bool ((o.take (k+1)).any fun q=>Wi p.c q.c))) (by rw [hany]; rfl)] rfl (by simp [Qa]; omega) ?_
       exact rd (k+1) (by omega) hk3 rfl
    · obtain rfl:k=o.length:=by omega
      rw [List.take_length]
      cases hb:o.any fun q=>Wi p.c q.c with
      |
       true =>
       have e:Jk o p=o:=by unfold Jk; rw [if_pos hb]
       exact go tt [.f (by simp),.f rfl] rfl (by simp [Qa]; omega) (rd (i+1) (by omega) hlt (by rw [hws,e]; rfl))
      |
       false =>
       have e:Jk o p=o++[p]:=by unfold Jk; rw [if_neg (by rw [hb]; decide)]
       exact go tt [.f (by simp),.t rfl] rfl (by simp [Qa]; omega) (rd (i+1) (by omega) hlt (by rw [hws,e,List.map_append]; rfl))
  · obtain rfl:i=l.length:=by omega
    exact en tt [.f (by simp)] rfl (by rw [List.take_length]; rfl) trivial
end Orr

namespace Orr
open Go Go.Proofs
set_option maxRecDepth 10000
theorem Qxg (q:Rat):Qm [-q.num,(q.den:Int)]:=by
  have:=q.den_nz
  simp [Qm,Qq,this]
theorem Q11 {s:Nat} {q:Rat} (h:Qs s q):Bd s [-q.num,(q.den:Int)]:=fun z hz=>by
  simp at hz
  rcases hz with rfl | rfl
  · rw [U5]; exact h.1
  · exact h.2
theorem Qx5 {x y x' y':LV} {n d:Int} (h1:Xg x y n) (h2:Xg x' y' d) (hn:Qt n≤4294967295) (hd:Qt d≤4294967295) (hq:Qs 4294967295 (Vv n d)):Qg Tryz.prog 78 [.agg [x,y,x',y']] [.agg (qa (Vv n d))]:=by
  have c1:=Qpp h1 h2 hn hd
  obtain ⟨b,l,rfl,rfl,_⟩:=h1
  obtain ⟨b',l',rfl,rfl,_⟩:=h2
  exact w tt Tryz.func78 rfl [.c [] c1,.c [] (L6 (Qe _) hq.1),.c [] (Gz hq)] rfl rfl trivial
theorem P9 {k:Crv} (hn:Nml k) (hk:Cs 4294967294 1073741824 k):Qg Tryz.prog 183 [.agg (cl k)] [.agg (cl k)]:=by
  have h0:k.d≠0:=by have:=hn.2.2.1; omega
  have cm:=Qa8 (Zs k.x) (Zs k.y) (Qe k.d) hk h0
  rw [show Crv.mk k.x k.y k.d=k from rfl,Crv.norm_of hn] at cm
  exact w tt Tryz.func183 rfl [.c [] (Wp (Qe k.d) (Nat.le_trans hk.d (by omega))),.c [] Fc,.f (by simpa using h0),.c [] cm] rfl rfl trivial
theorem Qjo {a b:Crv} (ha:Nml a) (hb:Nml b) (ca:Cb a) (cb:Cb b):Qg Tryz.prog 188 [.agg (cl a),.agg (cl b)] [pr (Jd a b)]:=by
  have l1:=ca.lx
  have l2:=cb.lx
  have l3:=Xk b.x a.d
  have l4:=Xk a.x b.d
  exact w tt Tryz.func188 rfl [.c [] (P9 ha (ca.mono (by omega) (by omega))),.c [] (P9 hb (cb.mono (by omega) (by omega))),.c [] (Fv (by omega) (Qc cb.x (by omega)) (Nat.le_trans ca.d (by omega))),.c [] (Fv (by omega) (Qc ca.x (by omega)) (Nat.le_trans cb.d (by omega))),.c [] (L9 (by omega) (by omega) (Qc (Xz cb.x ca.d) (by omega)) (Qc (Xz ca.x cb.d) (by omega)))] rfl rfl trivial
theorem Qji {a b:Crv} (ha:Nml a) (hb:Nml b) (ca:Cb a) (cb:Cb b):Qg Tryz.prog 189 [.agg (cl a),.agg (cl b)] [pr (Jg a b)]:=by
  have l1:=ca.ly
  have l2:=cb.ly
  have l3:=Xk b.y a.d
  have l4:=Xk a.y b.d
  exact w tt Tryz.func189 rfl [.c [] (P9 ha (ca.mono (by omega) (by omega))),.c [] (P9 hb (cb.mono (by omega) (by omega))),.c [] (Fv (by omega) (Qc cb.y (by omega)) (Nat.le_trans ca.d (by omega))),.c [] (Fv (by omega) (Qc ca.y (by omega)) (Nat.le_trans cb.d (by omega))),.c [] (L9 (by omega) (by omega) (Qc (Xz cb.y ca.d) (by omega)) (Qc (Xz ca.y cb.d) (by omega)))] rfl rfl trivial
def Jh (ps:List (List Int)):List (List LV):=ps.map fun p=>[pl p]
theorem Z8 {ps:List (List Int)} {i:Nat} {p:List Int} (h:ps[i]? = some p):(Jh ps)[i]? = some [pl p]:=J0 h
end Orr

namespace Orr
open Go Go.Proofs
set_option maxRecDepth 10000
theorem Qpe {p q:List Int}:Qg Tryz.prog 187 [pr p,pr q] [pr (Rf p q)]:=by
  by_cases h:0<p.length
  · exact w tt Tryz.func187 rfl [.t (by simp; omega)] rfl (by simp only [Rf]; rw [if_pos h]) trivial
  · exact w tt Tryz.func187 rfl [.f (by simp; exact List.eq_nil_of_length_eq_zero (by omega))] rfl (by simp only [Rf]; rw [if_neg h]) trivial
theorem Qmx:Qg Tryz.prog 186 [.one (.int .i64 1)] [.one (.int .i64 2)]:=w tt Tryz.func186 rfl [.t rfl,.t rfl] rfl rfl trivial
theorem Qmy:Qg Tryz.prog 186 [.one (.int .i64 3)] [.one (.int .i64 3)]:=w tt Tryz.func186 rfl [.f rfl,.f rfl,.t rfl] rfl rfl trivial
theorem Qov {k i0 i1 i2 i3 l j0 j1 j2 j3:Int}:Qg Tryz.prog 153 [.agg [.int .i64 k,.int .i64 i0,.int .i64 i1,.int .i64 i2,.int .i64 i3],.agg [.int .i64 l,.int .i64 j0,.int .i64 j1,.int .i64 j2,.int .i64 j3]] [.one (.bool (Ka [k,i0,i1,i2,i3] [l,j0,j1,j2,j3]))]:=by
  by_cases hk:k=l
  · subst hk
    rw [show Ka [k,i0,i1,i2,i3] [k,j0,j1,j2,j3]=Ka [i0,i1,i2,i3] [j0,j1,j2,j3] from by simp [Ka]]
    refine X4 Tryz.func153 rfl ?_
    refine go tt [.f (by simp)] rfl trivial ?_
    refine lp (S:=Nat) 2 (fun L1 i=>(19,.v (.one (.int .i64 (i:Int))))::L1) (fun _=>[.blk 159 [.int .i64 k,.int .i64 i0,.int .i64 i1,.int .i64 i2,.int .i64 i3],.blk 159 [.int .i64 k,.int .i64 j0,.int .i64 j1,.int .i64 j2,.int .i64 j3]]) (fun i=>4-i) (fun i=>i≤4∧Ka ([i0,i1,i2,i3].drop i) ([j0,j1,j2,j3].drop i)=Ka [i0,i1,i2,i3] [j0,j1,j2,j3]) 0 ⟨by omega,rfl⟩ rfl (fun _ _=>rfl) rfl fun i ⟨hi,he⟩=>?_
    rw [←he]
    rcases (show i=0∨i=1∨i=2∨i=3∨i=4 by omega) with rfl | rfl | rfl | rfl | rfl
    · by_cases h:i0=j0
      · exact go tt [.t rfl,.i 0,.i 0,.f (by simpa using h)] rfl (by simp [Qa]) (rd 1 (by omega) ⟨by omega,by simp [Ka,h]⟩ rfl)
      · exact en tt [.t rfl,.i 0,.i 0,.t (by simpa using h),.i 0] rfl (by simp [Ka,h]) trivial
    · by_cases h:i1=j1
      · exact go tt [.t rfl,.i 1,.i 1,.f (by simpa using h)] rfl (by simp [Qa]) (rd 2 (by omega) ⟨by omega,by simp [Ka,h]⟩ rfl)
      · exact en tt [.t rfl,.i 1,.i 1,.t (by simpa using h),.i 1] rfl (by simp [Ka,h]) trivial
    · by_cases h:i2=j2
      · exact go tt [.t rfl,.i 2,.i 2,.f (by simpa using h)] rfl (by simp [Qa]) (rd 3 (by omega) ⟨by omega,by simp [Ka,h]⟩ rfl)
      · exact en tt [.t rfl,.i 2,.i 2,.t (by simpa using h),.i 2] rfl (by simp [Ka,h]) trivial
    · by_cases h:i3=j3
      · exact go tt [.t rfl,.i 3,.i 3,.f (by simpa using h)] rfl (by simp [Qa]) (rd 4 (by omega) ⟨by omega,by simp [Ka,h]⟩ rfl)
      · exact en tt [.t rfl,.i 3,.i 3,.t (by simpa using h),.i 3] rfl (by simp [Ka,h]) trivial
    · exact en tt [.f rfl] rfl (by simp [Ka]) trivial
  · exact w tt Tryz.func153 rfl [.t (by simpa using hk)] rfl (by simp [Ka,hk]) trivial
abbrev zCt:List LV:=[.int .i64 0,.int .i64 0,.int .i64 0,.int .i64 0,.int .i64 0,.nils,.int .i64 0]
def Q4 (l:List Ct):List (List LV):=l.map Pn
theorem Eo {l:List Ct} {i:Nat} {c:Ct} (h:l[i]? = some c):(Q4 l)[i]? = some (Pn c):=J0 h
theorem Ug (l:List Ct):(Q4 l).length=l.length:=by simp [Q4]
theorem Qp3 (l:List Ct):∀ c∈Q4 l,c.length=7:=fun c hc=>by
  obtain ⟨x,_,rfl⟩:=List.mem_map.1 hc; rfl
theorem Qrf {O:List Ct} {z:List LV} {c:Ct} {k m:Nat} {l2:List (List LV)} (hk:k≤O.length) (hp:R7 O c O.length=k) (hm:m=O.length-k) (h2:l2.take m=((Q4 O++[z]).drop k).take m) :
    ((Q4 O++[z]).take (k+1)++(l2.take m++(Q4 O++[z]).drop (k+1+m))).set k (Pn c)=Q4 (Pg O c):=by
  rw [h2,←List.append_assoc,Qek (Q4 O) z (Pn c) (by rw [Ug]; omega) (by rw [Ug]; omega)]
  simp [Pg,hp,Q4,List.map_take,List.map_drop]
theorem Qo7 {l:List Ct} (hl:∀ c∈l,Pb c.p) (hn:l.length≤1000000):Qg Tryz.prog 90 [.one (.row (Q4 l))] [.one (.row (Q4 (Z3 l)))]:=by
  have hcl:=Ug l
  refine X4 Tryz.func90 rfl ?_
  refine go tt [.o 3 161 7] rfl trivial ?_
  refine lp (S:=Nat) 1 (fun L1 i=>(9,.v (.one (.int .i64 (i:Int))))::(3,.v (.one (.orow 0 7 none)))::L1) (fun i=>[.row false 161 7 (Q4 (Z3 (l.take i)))]) (fun i=>l.length-i) (fun i=>i≤l.length) 0 (Nat.zero_le _) rfl (fun _ _=>rfl) rfl fun i hi=>?_
  by_cases hlt:i<l.length
  · obtain ⟨c,hc⟩:∃ c,l[i]? = some c:=⟨_,List.getElem?_eq_getElem hlt⟩
    have hst:=Qis hc
    have hcp:=hl c (List.mem_of_getElem? hc)
    obtain ⟨O,hO⟩:∃ O,O=Z3 (l.take i):=⟨_,rfl⟩
    have hOl:O.length=i:=by rw [hO,Gp,List.length_take]; omega
    rw [←hO] at hst ⊢
    refine go tt [.t (by simp [hcl]; omega),.x (Eo hc)] rfl trivial ?_
    refine lp (S:=Nat) 2 (fun L1 k=>(6,.v (.one (.int .i64 (k:Int))))::L1) (fun k=>[.row false 161 7 (Q4 O),.blk 161 (Pn c)]) id (fun k=>k≤O.length∧R7 O c k=R7 O c O.length) (Q4 O).length ⟨by rw [Ug]; exact Nat.le_refl _,by rw [Ug]⟩ rfl (fun _ _=>rfl) rfl fun k ⟨hk,hp⟩=>?_
    have hz:∀ y∈[zCt],y.length=7:=fun y hy=>by rw [List.mem_singleton.1 hy]; rfl
    have h77:∀ y∈Q4 O++[zCt],y.length=7:=fun y hy=>by
      rcases List.mem_append.1 hy with hy | hy
      · exact Qp3 O y hy
      · exact hz y hy
    cases k with
    |
     zero =>
     have hp:R7 O c O.length=0:=by rw [←hp]; rfl
     refine go tt [.g 17 false (by simp),.f rfl,.s (sz:=7) hz,.r 36 (eI (b:=((0+1:Nat):Int)) (by simp)),.i (0+1),.i (0),.s (sz:=7) (fun y hy=>h77 y (List.mem_of_mem_take hy)),.i (O.length),.c [] (Zx hcp.t (by have:=hcp.l; omega) (Qc hcp.b (by omega))),.i (0)] rfl (by simp [Qa,Ug]; omega) ?_
     exact rd (i+1) (by omega) hlt (by rw [hst,←Qrf (z:=zCt) (l2:=(Q4 O++[zCt]).take ((Q4 O++[zCt]).length-0)) (k:=0) (m:=O.length) (by omega) hp (by omega) (by congr 1; exact List.take_of_length_le (by simp))]; rfl)
    |
     succ k =>
     obtain ⟨x,hx⟩:∃ x,O[k]? = some x:=⟨_,List.getElem?_eq_getElem (by omega)⟩
     by_cases hlc:Qeq c x=true
     · refine go tt [.g 17 true (by simp),.r 22 (eI (b:=(k:Int)) (by simp)),.i k,.x (Eo hx),.c [] Qov,.t hlc,.r 29 (eI (b:=(k:Int)) (by simp))] rfl (by simp [Qa,Ug]; omega) ?_
       exact rd k (by simp) ⟨by omega,by rw [←hp,Qwo hx hlc]⟩ rfl
     · have hlc:Qeq c x=false:=by simpa using hlc
       have hp:R7 O c O.length=k+1:=by rw [←hp,Qsg hx hlc]
       refine go tt [.g 17 true (by simp),.r 22 (eI (b:=(k:Int)) (by simp)),.i k,.x (Eo hx),.c [] Qov,.f hlc,.s (sz:=7) hz,.r 36 (eI (b:=((k+1+1:Nat):Int)) (by simp)),.i (k+1+1),.i (k+1),.s (sz:=7) (fun y hy=>h77 y (List.mem_of_mem_drop (List.mem_of_mem_take hy))),.i (O.length-(k+1)),.c [] (Zx hcp.t (by have:=hcp.l; omega) (Qc hcp.b (by omega))),.i (k+1)] rfl (by simp [Qa,Ug]; omega) ?_
       exact rd (i+1) (by omega) hlt (by rw [hst,←Qrf (z:=zCt) (l2:=((Q4 O++[zCt]).drop (k+1)).take ((Q4 O++[zCt]).length-(k+1))) (k:=k+1) (m:=O.length-(k+1)) (by omega) hp (by omega) (by congr 1; exact List.take_of_length_le (by simp))]; rfl)
  · obtain rfl:i=l.length:=by omega
    rw [List.take_length]
    exact en tt [.f (by simp [hcl])] rfl rfl trivial
end Orr

namespace Orr
def Qo (p:List Int):Int:=p.getD (p.length-1) 0
def chk (p:List Int):Option (List Int):=if p.length≤64∧(p.all fun z=>Nat.ble (Qt z) 16777216)=true then some p else none
def chq (q:Rat):Option Rat:=if Qt q.num≤16777216∧Qt (q.den:Int)≤16777216 then some q else none
def Jn (p:List Int):Int:=(Xe p:Nat)
def Kb (p:List Int) (c:Int):List Int:=Qq (p.map (· / c))
def Zq (p:List Int):Int:=if Qo p<0 then -Jn p else Jn p
def Qn (p:List Int):List Int:=if p.length=0 then [] else Kb p (Zq p)
def mono (i:Nat) (x:Int):List Int:=List.replicate i 0++[x]
def psd (b:List Int) (c:Int):Nat→List Int×List Int→List Int×List Int
  | 0,s=>s
  |
   i+1,(q,r) =>
   psd b c i (Hj (Zp q c) (mono i (if r.length=b.length+i then Qo r else 0)),Wd (Zp r c) (Zo (Qq (mono i (if r.length=b.length+i then Qo r else 0))) b))
def J4 (a b:List Int):List Int:=(psd b (Qo b) (a.length+1-b.length) ([],a)).2
def Vd (a b r:List Int):List Int:=if (a.length+1-b.length) % 2=1∧Qo b<0 then Uw r else r
def Sx (r:List Int):List Int:=if r.length=0 then [] else Kb r (Jn r)
def Xh (a b:List Int):List Int:=Sx (Vd a b (J4 a b))
def Qce (b:List Int):Nat→List Int→List Int→Option (List Int)
  | 0,a,q=>if a.length=0 then some q else none
  | i+1,a,q=>if a.length<b.length+i then Qce b i a q else if Qo a % Qo b=0 then Qce b i (Wd a (Zo (Qq (mono i (Qo a / Qo b))) b)) (q.set i (Qo a / Qo b)) else none
def R9 (a b:List Int):Option (List Int):=if b.length=0 then none else (Qce b (a.length+1-b.length) a (List.replicate (a.length+1-b.length) 0)).bind fun q=>chk (Qq q)
def Cc:Nat→List Int→List Int→Option (List Int)
  | 0,_,_=>none
  | k+1,a,b=>if b.length=0 then some a else (chk (Xh a b)).bind fun r=>Cc k b r
def Tc (a b:List Int):Option (List Int):=(Cc 66 (Qn a) (Qn b)).map Qn
def Qcg (a b:List Int):Option (List Int):=(Tc [] a).bind fun g=>Tc g b
def Yj (a:List Int):Option (List Int):=if (Qn a).length<2 then some (Qn a) else (chk (Zu (Qn a))).bind fun d=>(Tc (Qn a) d).bind fun g=>R9 (Qn a) g
def Bq:Nat→List Int→Option (List (List Int))
  | 0,_=>none
  | k+1,g=>if g.length<2 then some [] else (chk (Zu g)).bind fun d=>(Tc g d).bind fun h=>(R9 g h).bind fun w=>(Bq k h).bind fun l=>some (w::l)
def Iv:List (List Int)→Option (List (List Int))
  | []=>some []
  | [w]=>some [w]
  | w::v::l=>(R9 w v).bind fun f=>(Iv (v::l)).bind fun r=>some (f::r)
def Mv:Nat→List Int→List (List Int)→Option (List Int)
  | _,p,[]=>some p
  | i,p,f::l=>if i % 2=0 then (chk (Zo p f)).bind fun q=>Mv (i+1) q l else Mv (i+1) p l
def Qh6 (a:List Int):Option (List Int):=if (Qn a).length=0 then some [] else (Bq 66 (Qn a)).bind fun l=>(Iv l).bind fun fs=>Mv 0 [1] fs
def chF:Nat→List Int→List Int→Option (List (List Int))
  | 0,_,_=>none
  | k+1,a,b=>if b.length=0 then some [] else (chk (Xh a b)).bind fun r=>(chF k b (Uw r)).bind fun l=>some (b::l)
def Hq (p:List Int):Option (List (List Int)):=(Yj p).bind fun a=>if a.length=0 then none else (chk (Zu a)).bind fun d=>(chF 66 a (Qn d)).bind fun l=>some (a::l)
def Jr (sg:List Int→Int) (s:Nat×Int) (p:List Int):Nat×Int:=if sg p=0 then s else (if s.2=-(sg p) then s.1+1 else s.1,sg p)
def V0 (sg:List Int→Int) (l:List (List Int)):Nat:=(l.foldl (Jr sg) (0,0)).1
def V1 (l:List (List Int)) (q:Rat):Nat:=V0 (fun p=>Z9 p q) l
def Xq (l:List (List Int)) (lo hi:Rat):Int:=if Zm hi lo<0 then 0 else (V1 l lo:Int)-(V1 l hi:Int)
def Mc (p:List Int):Int:=Int.sign (Qo p)
def Hu (p:List Int):Int:=if p.length % 2=0 then -Int.sign (Qo p) else Int.sign (Qo p)
def Td (l:List (List Int)):Int:=(V0 Hu l:Int)-(V0 Mc l:Int)
def Hi:List Int→Nat:=fun l=>l.foldl (fun m z=>if m<z.natAbs then z.natAbs else m) 0
def Zj (p:List Int):Rat:=Rat.divInt (((Qo p).natAbs:Int)+(Hi (p.take (p.length-1)):Int)) ((Qo p).natAbs:Int)
def mid (a b:Rat):Rat:=Rat.divInt (a.num*(b.den:Int)+b.num*(a.den:Int)) ((a.den:Int)*(b.den:Int)*2)
def Ur (p:List Int) (c:List (List Int)):Nat→Rat→Rat→Int→Option (List Tm)
  | 0,_,_,_=>none
  | k+1,lo,hi,n=>if n=0 then some [] else if n=1 then some [⟨p,lo,hi⟩] else (chq (mid lo hi)).bind fun m=>(Ur p c k lo m (Xq c lo m)).bind fun l=>(Ur p c k m hi (n-Xq c lo m)).bind fun r=>some (l++r)
def Ie (p:List Int):Option (List Tm):=(Hq p).bind fun c=>(Yj p).bind fun q=>(chq (Zj q)).bind fun b=>Ur q c 100000 (-b) b (Td c)
def Tm.point (a:Tm):Bool:=decide (0≤Zm a.lo a.hi)
def low (p:List Int) (q:Rat):Int:=if Z9 p q≠0 then Z9 p q else Z9 (Zu p) q
def Mg (p:List Int) (lo hi:Rat):Bool:=decide (Z9 p hi=0∨Z9 p hi≠low p lo)
def Qu (a:Tm) (t:Rat):Int :=
  if a.point=true then Zm a.lo t else if Zm t a.lo≤0 then 1 else if 0<Zm t a.hi then -1 else if Z9 a.p t=0 then 0 else if Z9 a.p t=low a.p a.lo then 1 else -1
def Qbv (a:Tm):Option Tm:=if a.point=true then some a else (chq (mid a.lo a.hi)).bind fun m =>
  some (if Qu a m=0 then ⟨a.p,m,m⟩ else if Qu a m=-1 then ⟨a.p,a.lo,m⟩ else ⟨a.p,m,a.hi⟩)
def Zc (p:List Int):Nat:=p.foldl (fun n z=>max n (Qt z)) 0
def Jz (a b:Tm):Nat:=64+2*(Qt a.lo.num+Qt a.hi.num+Qt b.lo.num+Qt b.hi.num)+4*(a.p.length+b.p.length)*(Zc a.p+Zc b.p+(a.p.length+b.p.length)+8)
def If (a b:Rat):Rat:=Rat.divInt (a.num*(b.den:Int)-b.num*(a.den:Int)) ((a.den:Int)*(b.den:Int))
def V8 (a b:Tm):Bool:=decide (Zm a.hi b.lo≤0∧¬((a.point=true∧b.point=true)∧Zm a.hi b.lo=0))
def Ir:Nat→Tm→Tm→Option (Tm×Tm×Int)
  | 0,a,b=>some (a,b,0)
  |
   k+1,a,b=>if V8 a b=true then some (a,b,-1) else if V8 b a=true then some (a,b,1) else
   if 0≤Zm (If a.hi a.lo) (If b.hi b.lo) then (Qbv a).bind fun x=>Ir k x b else (Qbv b).bind fun x=>Ir k a x
def Ek (a b:Tm):Option Int:=if a.point=true then some (-Qu b a.lo) else if b.point=true then some (Qu a b.lo) else
  let lo:=if 0<Zm b.lo a.lo then b.lo else a.lo
  let hi:=if Zm b.hi a.hi<0 then b.hi else a.hi
  if Zm lo hi<0 then (Qcg a.p b.p).bind fun g=>if 1<g.length∧Mg g lo hi=true then some 0 else (Ir (Jz a b) a b).bind fun r=>some r.2.2
  else (Ir (Jz a b) a b).bind fun r=>some r.2.2
def sgF (c:List (List Int)):Nat→Tm→Option Tm
  | 0,a=>some a
  | k+1,a=>if a.point=true∨Xq c a.lo a.hi=0 then some a else (Qbv a).bind fun x=>sgF c k x
def Qak (p:List Int) (a:Tm):Option Int:=if p.length=0 then some 0 else if a.point=true then some (Z9 p a.lo) else
  (Qcg p a.p).bind fun g=>if 1<g.length∧Mg g a.lo a.hi=true then some 0 else (Hq p).bind fun c=>(sgF c (64+2*(Qt a.lo.num+Qt a.hi.num)+4*(a.p.length+p.length)*(Zc a.p+Zc p+(a.p.length+p.length)+8)) a).bind fun x=>some (Z9 p x.hi)
def He:Tm→List Tm→Option Tm
  | b,[]=>some b
  | b,a::l=>(Ek a b).bind fun c=>He (if c<0 then a else b) l
def Sw (a:Tm):List Tm→Option (Option Tm)
  | []=>some none
  | r::l=>(Ek r a).bind fun c=>if 0<c then some (some r) else Sw a l
def Py (p:List Int):Option (List Tm):=(Qh6 p).bind fun q=>if q.length=0 then some [] else Ie q
def C5 (p:List Int) (a:Tm):Option (Option Tm):=(Py p).bind fun l=>Sw a l
end Orr

namespace Orr
open Go Go.Proofs
set_option maxRecDepth 10000
theorem Wu {p:List Int} (tp:Qm p) (h:p.length≠0):Qo p≠0:=Xi tp (by omega)
theorem Al {p:List Int} (h:p.length≠0):Qo p∈p:=List.mem_of_getElem? (Xo (by omega))
theorem Yo {s:Nat} {p:List Int} (h:Bd s p):Qt (Qo p)≤s:=Q7 h _
theorem W8 {p:List Int}:∀ z∈p,Jn p∣z:=Fz
theorem Ry {p:List Int} (tp:Qm p) (h:p.length≠0):Jn p≠0:=fun h0=>Wu tp h (Int.zero_dvd.1 (h0 ▸ W8 _ (Al h)))
theorem Tv {p:List Int} (h:Bd 4294967295 p):Qt (Jn p)≤4294967295:=D5 h
theorem Qlq {p:List Int} (tp:Qm p) (h:p.length≠0):Zq p≠0:=by
  have:=Ry tp h
  unfold Zq; split <;> omega
theorem My {p:List Int}:∀ z∈p,Zq p∣z:=fun z hz=>by
  unfold Zq; split
  · exact Int.neg_dvd.2 (W8 z hz)
  · exact W8 z hz
theorem Qri {p:List Int} (h:Bd 4294967295 p):Qt (Zq p)≤4294967295:=by
  unfold Zq; split
  · rw [U5]; exact Tv h
  · exact Tv h
theorem Lv {s:Nat} {p:List Int} (h:Bd s p) (c:Int):Bd s (Kb p c):=Jf (Ns h c)
theorem O2 (p:List Int) (c:Int):(Kb p c).length≤p.length:=Nat.le_trans (Xd _) (by simp)
theorem Hl (p:List Int) (c:Int):Qm (Kb p c):=Xt _
theorem Qsa {p:List Int} (h:Pb p) (c:Int):Pb (Kb p c):=⟨Hl _ _,Nat.le_trans (O2 _ _) h.l,Lv h.b c⟩
theorem By:Pb []:=⟨rfl,by simp,Nt⟩
theorem Xc {p:List Int} (h:Pb p):Pb (Qn p):=by
  unfold Qn; split
  · exact By
  · exact Qsa h _
theorem Pb.bd {p:List Int} (h:Pb p):Bd 4294967295 p:=Qc h.b (by omega)
theorem Pb.ln {p:List Int} (h:Pb p):p.length<274877906944:=Nat.lt_of_le_of_lt h.l (by omega)
theorem Pb.ln' {p:List Int} (h:Pb p):p.length<8589934592:=Nat.lt_of_le_of_lt h.l (by omega)
theorem G5 {p q:List Int} (tp:Qm p) (h:chk p=some q):q=p∧Pb p:=by
  unfold chk at h
  split at h
  · rename_i hc
    injection h with h
    refine ⟨h.symm,tp,hc.1,fun z hz=>?_⟩
    have:=List.all_eq_true.1 hc.2 z hz
    exact Nat.le_of_ble_eq_true this
  · cases h
theorem Qjs {p:List Int} {g:Int} (hl:p.length<274877906944) (hp:Bd 4294967295 p) (hg:Qt g≤4294967295) (h0:g≠0) (hd:∀ z∈p,g∣z):Qg Tryz.prog 296 [pr p,.agg (Z0 g)] [pr (Kb p g)]:=by
  refine X4 Tryz.func296 rfl ?_
  refine go tt [.r 9 (eI (b:=(p.length:Int)) (by simp)),.i p.length,.i p.length,.r 12 (eI (b:=(p.length:Int)) (by simp))] rfl (by simp [Qa]; omega) ?_
  rw [Uj fun k=>Z0 (p.getD k 0 / g)]
  refine lp (S:=Nat) 2 (fun L1 k=>(13,.v (.one (.int .i64 (k:Int))))::L1) (fun k=>[.blk 29 (Z0 g),.row false 29 2 (Io (fun k=>Z0 (p.getD k 0 / g)) [.bool false,.nils] p.length k)]) (fun k=>p.length-k) (fun k=>k≤p.length) 0 (Nat.zero_le _) rfl (fun _ _=>rfl) rfl fun k hk=>?_
  by_cases hlt:k<p.length
  · have hg2:=Xo hlt
    refine go tt [.t (by simp; omega),.x (Jy hg2),.c [] (Ux (Qe _) (Qe _) (Q7 hp k) hg h0 (Int.emod_eq_zero_of_dvd (hd _ (List.mem_of_getElem? hg2)))),.i k] rfl (by simp [Qa,U4]; omega) ?_
    have e:=G9 (fun k=>Z0 (p.getD k 0 / g)) [.bool false,.nils] hlt
    rw [e]
    exact rd (k+1) (by omega) hlt rfl
  · obtain rfl:k=p.length:=by omega
    have e:Io (fun k=>Z0 (p.getD k 0 / g)) [.bool false,.nils] p.length p.length=(p.map (· / g)).map Z0:=by
      rw [G8]
      refine List.ext_getElem? fun i=>?_
      by_cases hi:i<p.length
      · simp [List.getElem?_range hi,List.getD,List.getElem?_eq_getElem hi]
      · simp [List.getElem?_eq_none,hi]
    rw [e]
    exact en tt [.f (by simp),.c [] (Wo (Zs (p.map (· / g))) (by simp; exact hl) (Ns hp g))] rfl rfl trivial
theorem Nv {p:List Int} (hl:p.length<8589934592) (hp:Bd 4294967295 p):Qg Tryz.prog 297 [.one (.row [[pl p]])] [.agg (Z0 (Jn p))]:=by
  refine X4 Tryz.func297 rfl ?_
  refine go tt [.o 3 29 2] rfl trivial ?_
  refine lp (S:=Nat) 2 (fun L1 i=>(8,.v (.one (.int .i64 (i:Int))))::(3,.v (.one (.orow 1 2 none)))::L1) (fun i=>[.blk 29 [.bool false,.nils],.row false 29 2 (if i=0 then [] else p.map Z0)]) (fun i=>1-i) (fun i=>i≤1) 0 (Nat.zero_le _) rfl (fun _ _=>rfl) rfl fun i hi=>?_
  rcases (show i=0∨i=1 by omega) with rfl | rfl
  · refine go tt [.t rfl,.x (i:=0) (xs:=[pl p]) rfl,.s (A3 p)] rfl (by simp [Qa]; omega) ?_
    exact rd 1 (by omega) (by omega) rfl
  · exact en tt [.f rfl,.c [] (Qos (Zs p) hp)] rfl rfl trivial
theorem Qpn {p:List Int} (tp:Qm p) (hl':p.length<8589934592) (hp:Bd 4294967295 p):Qg Tryz.prog 271 [pr p] [.agg (Z0 (if p.length=0 then 0 else Zq p)),pr (Qn p)]:=by
  have hl:p.length<274877906944:=by omega
  have cn:=Zx tp hl hp
  by_cases h0:p.length=0
  · have e:p=[]:=List.eq_nil_of_length_eq_zero h0
    subst e
    exact w tt Tryz.func271 rfl [.c [] cn,.t rfl] rfl (by simp [Gf,Qn]; rfl) trivial
  · have hpf:Qn p=Kb p (Zq p):=by unfold Qn; rw [if_neg h0]
    rw [if_neg h0,hpf]
    have co:=Qjs hl hp (Qri hp) (Qlq tp h0) My
    by_cases hneg:Qo p<0
    · have e:Zq p=-Jn p:=by unfold Zq; rw [if_pos hneg]
      rw [e] at co ⊢
      exact w tt Tryz.func271 rfl [.c [] cn,.f (by simpa using h0),.c [] (Nv hl' hp),.c [] (Kj tp hl hp),.t (by simpa [Qo] using hneg),.c [] (L6 (Qe _) (Tv hp)),.c [] co] rfl rfl trivial
    · have e:Zq p=Jn p:=by unfold Zq; rw [if_neg hneg]
      rw [e] at co ⊢
      exact w tt Tryz.func271 rfl [.c [] cn,.f (by simpa using h0),.c [] (Nv hl' hp),.c [] (Kj tp hl hp),.f (by simpa [Qo] using hneg),.c [] co] rfl rfl trivial
theorem Uy {p:List Int} (hp:Pb p):Qg Tryz.prog 264 [pr p] [pr (Qn p)] :=
  w tt Tryz.func264 rfl [.c [] (Qpn hp.t hp.ln' hp.bd)] rfl rfl trivial
theorem Y7 (p:List Int):Qg Tryz.prog 158 [pr p] [.one (.int .i64 ((p.length:Int)-1))]:=by
  have h:Qg Tryz.prog 158 [pr p] [.one (.int .i64 (((p.map Z0).length:Int)-1))]:=X4 Tryz.func158 rfl (ln 0 rfl rfl fun hl=>en tt [] rfl rfl (by simp [Qa] at hl ⊢; omega))
  rw [List.length_map] at h; exact h
theorem Gd (i:Nat) (x:Int):(mono i x).length=i+1:=by simp [mono]
theorem Lt {s i:Nat} {x:Int} (h:Qt x≤s):Bd s (mono i x):=fun z hz=>by
  simp only [mono,List.mem_append,List.mem_singleton] at hz
  rcases hz with hz | rfl
  · rw [(List.mem_replicate.1 hz).2,Ul]; exact Nat.zero_le _
  · exact h
def stq (c:Int) (i:Nat) (x:Int) (q:List Int):List Int:=Hj (Zp q c) (mono i x)
def str (b:List Int) (c:Int) (i:Nat) (x:Int) (r:List Int):List Int:=Wd (Zp r c) (Zo (Qq (mono i x)) b)
theorem Qy9 {u t i:Nat} {c x:Int} {q:List Int} (hq:Bd u q) (hc:Qt c≤t) (hx:Qt x≤u):Bd (u+t+8) (stq c i x q) :=
  Qc (Qay (Xz hq hc) (Lt hx)) (by omega)
theorem Qv4 {c x:Int} {i:Nat} {q:List Int}:(stq c i x q).length≤max q.length (i+1):=by
  have h:=An (Zp q c) (mono i x)
  have h1:=Xk q c
  rw [Gd] at h
  unfold stq; omega
theorem Qb0 {i:Nat} {x:Int} {b:List Int}:(Zo (Qq (mono i x)) b).length≤i+b.length:=by
  have h:=Ao (Qq (mono i x)) b
  have h1:=Xd (mono i x)
  rw [Gd] at h1; omega
theorem Qjg {u t i:Nat} {x:Int} {b:List Int} (hb:Bd t b) (hx:Qt x≤u) (hi:i≤64):Bd (u+t+7) (Zo (Qq (mono i x)) b) :=
  Qaz (Jf (Lt hx)) hb (Nat.lt_of_le_of_lt (Xd _) (by rw [Gd]; omega))
theorem Qgx {u t i:Nat} {c x:Int} {b r:List Int} (hr:Bd u r) (hb:Bd t b) (hc:Qt c≤t) (hx:Qt x≤u) (hi:i≤64):Bd (u+t+8) (str b c i x r) :=
  Qc (P7 (Xz hr hc) (Qjg hb hx hi)) (by omega)
theorem Qb1 {c x:Int} {i:Nat} {b r:List Int}:(str b c i x r).length≤max r.length (i+b.length):=by
  have h:=Ro (Zp r c) (Zo (Qq (mono i x)) b)
  have h1:=Xk r c
  have h2:=Qb0 (i:=i) (x:=x) (b:=b)
  unfold str; omega
theorem Qex (i:Nat) (x:Int):((List.replicate (i+1) (0:Int)).map Z0).set i (Z0 x)=(mono i x).map Z0:=by
  rw [Qh5,mono]
  congr 1
  refine List.ext_getElem? fun j=>?_
  simp only [List.getElem?_set,List.getElem?_append,List.getElem?_replicate,List.length_replicate]
  by_cases h:j=i
  · subst h; simp
  · rw [if_neg (by omega)]
    by_cases h2:j<i
    · simp [h2]; omega
    · rw [if_neg (by omega),if_neg h2]
      cases hj:j-i with
      | zero=>omega
      | succ m=>simp
theorem Qla (i:Nat) {x:Int} {y:List LV} (h:y.map Aw=Z0 x):(((List.replicate (i+1) [LV.bool false,LV.nils]).set i y).map fun c=>c.map Aw)=(mono i x).map Z0:=by
  rw [List.map_set,Li,h]; exact Qex i x
theorem Ta {b:List Int} {c:Int} {i:Nat} {q r:List Int} {x:Int} (hx:x=if r.length=b.length+i then Qo r else 0):psd b c (i+1) (q,r)=psd b c i (stq c i x q,str b c i x r):=by
  subst hx; rfl
theorem Qo0 {a b:List Int} (ha:Pb a) (hb:Pb b) (h0:b.length≠0):Qg Tryz.prog 294 [pr a,pr b] [pr (psd b (Qo b) (a.length+1-b.length) ([],a)).1,pr (J4 a b),.one (.int .i64 ((a.length+1-b.length:Nat):Int)),.one (.int .i64 0)]:=by
  have hal:=ha.l
  have hbl:=hb.l
  have hlb:Qt (Qo b)≤16777216:=Yo hb.b
  obtain ⟨c,hc⟩:∃ c,c=Qo b:=⟨_,rfl⟩
  have cl:=Kj hb.t hb.ln hb.bd
  rw [show b.getD (b.length-1) 0=c from hc.symm] at cl
  obtain ⟨k,hk⟩:∃ k,k=a.length+1-b.length:=⟨_,rfl⟩
  unfold J4
  rw [←hc,←hk]
  rw [←hc] at hlb
  refine X4 Tryz.func294 rfl ?_
  refine go tt [.z 4,.c [] (Zx ha.t ha.ln ha.bd),.c [] (Zx hb.t hb.ln hb.bd),.f (by simpa using h0),.c [] cl,.c [] (Y7 a),.c [] (Y7 b),.r 27 (eI (b:=(k:Int)) (by omega))] rfl (by simp [Qa]; omega) ?_
  refine lp (S:=Nat×List Int×List Int) 1 (fun L1 s=>(4,.v (pr s.2.1))::(5,.v (pr s.2.2))::(9,.v (.one (.int .i64 ((s.1:Int)-1))))::L1) (fun _=>[.blk 29 (Z0 c)]) (fun s=>s.1) (fun s=>s.1≤k∧Qm s.2.2∧s.2.1.length≤66∧s.2.2.length≤a.length∧Bd (16777216+(k-s.1)*16777224) s.2.1∧Bd (16777216+(k-s.1)*16777224) s.2.2∧psd b c s.1 s.2=psd b c k ([],a)) (k,[],a) ⟨Nat.le_refl _,ha.t,by simp,Nat.le_refl _,Nt,by simpa using ha.b,rfl⟩ rfl (fun _ _=>rfl) rfl fun ⟨i,q,r⟩ ⟨j1,j2,j3,j4,j5,j6,j7⟩=>?_
  dsimp only at j1 j2 j3 j4 j5 j6 j7 ⊢
  rw [←j7]
  cases i with
  | zero=>exact en tt [.f (by simp)] rfl rfl trivial
  |
   succ i =>
   obtain ⟨x,hx⟩:∃ x,x=if r.length=b.length+i then Qo r else 0:=⟨_,rfl⟩
   obtain ⟨u,hu⟩:∃ u,u=16777216+(k-(i+1))*16777224:=⟨_,rfl⟩
   rw [←hu] at j5 j6
   have hub:u≤1107296256:=by
     have:(k-(i+1))*16777224≤64*16777224:=Nat.mul_le_mul_right _ (by omega)
     omega
   have hxs:Qt x≤u:=by
     rw [hx]; split
     · exact Yo j6
     · rw [Ul]; exact Nat.zero_le _
   have cs:=Fv (p:=q) (c:=c) (by omega) (Qc j5 (by omega)) (by omega)
   have cs2:=Fv (p:=r) (c:=c) (by omega) (Qc j6 (by omega)) (by omega)
   have l1:=Xk q c
   have l2:=Xk r c
   have ca:=Qg4 (p:=Zp q c) (q:=mono i x) (by omega) (by rw [Gd]; omega) (Qc (Xz j5 hlb) (by omega)) (Qc (Lt hxs) (by omega))
   have cm:=Qa4 (p0:=mono i x) hb.t (by rw [Gd]; omega) (by omega) (Lt hxs) hb.b (by omega)
   have l3:=Qb0 (i:=i) (x:=x) (b:=b)
   have cb:=L9 (p:=Zp r c) (q:=Zo (Qq (mono i x)) b) (by omega) (by omega) (Qc (Xz j6 hlb) (by omega)) (Qc (Qjg hb.b hxs (by omega)) (by omega))
   have hst:=Ta (b:=b) (c:=c) (q:=q) hx
   have hI:i≤k∧Qm (str b c i x r)∧(stq c i x q).length≤66∧(str b c i x r).length≤a.length∧Bd (16777216+(k-i)*16777224) (stq c i x q)∧Bd (16777216+(k-i)*16777224) (str b c i x r):=by
     have l5:=Qv4 (c:=c) (x:=x) (i:=i) (q:=q)
     have l6:=Qb1 (c:=c) (x:=x) (i:=i) (b:=b) (r:=r)
     have hku:u+16777216+8=16777216+(k-i)*16777224:=by
       rw [hu,show k-i=(k-(i+1))+1 from by omega,Nat.add_mul]; omega
     refine ⟨by omega,Q8 _ _,by omega,by omega,?_,?_⟩
     · rw [←hku]; exact Qy9 j5 hlb hxs
     · rw [←hku]; exact Qgx j6 hb.b hlb hxs (by omega)
   rw [hst]
   by_cases h:r.length=b.length+i
   · refine go tt [.t (by simp <;> omega),.c [] (Y7 r),.c [] (Y7 b),.t (by simp; omega),.c [] (Kj j2 (by omega) (Qc j6 (by omega))),.r 44 (eI (b:=((i+1:Nat):Int)) (by omega)),.i (i+1),.i (i+1),.r 47 (eI (b:=(i:Int)) (by omega)),.i i] rfl (by simp [Qa]; omega) ?_
     refine nl 2 rfl rfl rfl ?_
     rw [Qla i (x:=x) (by rw [hx,if_pos h]; rfl)]
     refine go tt [.c [] cs,.c [] ca,.c [] cs2,.c [] cm,.c [] cb,.r 33 (eI (b:=(i:Int)-1) (by omega))] rfl (by simp [Qa]; omega) ?_
     exact rd (i,stq c i x q,str b c i x r) (by dsimp only; omega) ⟨hI.1,hI.2.1,hI.2.2.1,hI.2.2.2.1,hI.2.2.2.2.1,hI.2.2.2.2.2,rfl⟩ rfl
   · refine go tt [.t (by simp <;> omega),.c [] (Y7 r),.c [] (Y7 b),.f (by simp; omega),.r 44 (eI (b:=((i+1:Nat):Int)) (by omega)),.i (i+1),.i (i+1),.r 47 (eI (b:=(i:Int)) (by omega)),.i i] rfl (by simp [Qa]; omega) ?_
     refine nl 2 rfl rfl rfl ?_
     rw [Qla i (x:=x) (by rw [hx,if_neg h,Gf]; rfl)]
     refine go tt [.c [] cs,.c [] ca,.c [] cs2,.c [] cm,.c [] cb,.r 33 (eI (b:=(i:Int)-1) (by omega))] rfl (by simp [Qa]; omega) ?_
     exact rd (i,stq c i x q,str b c i x r) (by dsimp only; omega) ⟨hI.1,hI.2.1,hI.2.2.1,hI.2.2.2.1,hI.2.2.2.2.1,hI.2.2.2.2.2,rfl⟩ rfl
theorem Qsk {b:List Int} {c:Int} (hb:Bd 16777216 b) (hc:Qt c≤16777216) {n:Nat}:∀ (i u:Nat) (q r:List Int),i≤64→i+b.length≤n+1→Qm r→r.length≤n→Bd u r→Qm (psd b c i (q,r)).2∧(psd b c i (q,r)).2.length≤n∧Bd (u+i*16777224) (psd b c i (q,r)).2
  | 0,u,q,r,_,_,h1,h2,h3=>⟨h1,h2,by simpa [psd] using h3⟩
  |
   i+1,u,q,r,hi,hn,h1,h2,h3=>by
   rw [Ta rfl]
   have hx:Qt (if r.length=b.length+i then Qo r else 0)≤u:=by
     split
     · exact Yo h3
     · rw [Ul]; exact Nat.zero_le _
   have l6:=Qb1 (c:=c) (x:=if r.length=b.length+i then Qo r else 0) (i:=i) (b:=b) (r:=r)
   have:=Qsk hb hc (n:=n) i (u+16777216+8) (stq c i (if r.length=b.length+i then Qo r else 0) q) (str b c i (if r.length=b.length+i then Qo r else 0) r) (by omega) (by omega) (Q8 _ _) (by omega) (Qgx h3 hb hc hx (by omega))
   exact ⟨this.1,this.2.1,Qc this.2.2 (by omega)⟩
theorem Qlu {a b:List Int} (ha:Pb a) (hb:Pb b) (h0:b.length≠0):Qm (J4 a b)∧(J4 a b).length≤a.length∧Bd 1107296256 (J4 a b):=by
  have hal:=ha.l
  by_cases h:b.length≤a.length+1
  · obtain ⟨h1,h2,h3⟩:=Qsk hb.b (Yo hb.b) (n:=a.length) (a.length+1-b.length) 16777216 [] a (by omega) (by omega) ha.t (Nat.le_refl _) ha.b
    refine ⟨h1,h2,Qc h3 ?_⟩
    have:(a.length+1-b.length)*16777224≤64*16777224:=Nat.mul_le_mul_right _ (by omega)
    omega
  · have e:J4 a b=a:=by unfold J4; rw [show a.length+1-b.length=0 from by omega]; rfl
    rw [e]
    exact ⟨ha.t,Nat.le_refl _,Qc ha.b (by omega)⟩
theorem M4 {a b r:List Int} {s n:Nat} (h1:Qm r) (h2:r.length≤n) (h3:Bd s r):Qm (Vd a b r)∧(Vd a b r).length≤n∧Bd s (Vd a b r):=by
  unfold Vd; split
  · exact ⟨Q8 _ _,Nat.le_trans (Ap r) h2,Qa0 h3⟩
  · exact ⟨h1,h2,h3⟩
theorem A5 {r:List Int} {s n:Nat} (h2:r.length≤n) (h3:Bd s r):Qm (Sx r)∧(Sx r).length≤n∧Bd s (Sx r):=by
  unfold Sx; split
  · exact ⟨rfl,by simp,Nt⟩
  · exact ⟨Hl _ _,Nat.le_trans (O2 _ _) h2,Lv h3 _⟩
theorem Mz {a b:List Int} (ha:Pb a) (hb:Pb b) (h0:b.length≠0):Qm (Xh a b)∧(Xh a b).length≤a.length∧Bd 1107296256 (Xh a b):=by
  obtain ⟨h1,h2,h3⟩:=Qlu ha hb h0
  obtain ⟨h4,h5,h6⟩:=M4 (a:=a) (b:=b) h1 h2 h3
  exact A5 h5 h6
theorem Qo2 {a b:List Int} (ha:Pb a) (hb:Pb b) (h0:b.length≠0):Qg Tryz.prog 265 [pr a,pr b] [pr (Xh a b),.one (.int .i64 0)]:=by
  obtain ⟨h1,h2,h3⟩:=Qlu ha hb h0
  obtain ⟨h4,h5,h6⟩:=M4 (a:=a) (b:=b) h1 h2 h3
  have hal:=ha.l
  have cp:=Qo0 ha hb h0
  have cl:=Kj hb.t hb.ln hb.bd
  have cn:=Qoz (p:=J4 a b) (by omega) (Qc h3 (by omega))
  unfold Xh
  obtain ⟨r,hr⟩:∃ r,r=Vd a b (J4 a b):=⟨_,rfl⟩
  have cc:=Nv (p:=r) (by rw [hr]; omega) (by rw [hr]; exact Qc h6 (by omega))
  rw [←hr] at h4 h5 h6 ⊢
  obtain ⟨k,hk⟩:∃ k,k=a.length+1-b.length:=⟨_,rfl⟩
  rw [←hk] at cp
  have em:((k:Int).tmod 2)=((k % 2:Nat):Int):=by rw [Int.tmod_eq_emod_of_nonneg (by omega)]; omega
  have key:Sx r=if r.length=0 then [] else Kb r (Jn r):=rfl
  by_cases hz:r.length=0
  · rw [key,if_pos hz]
    by_cases hodd:k % 2=1
    · by_cases hneg:Qo b<0
      · have e:r=Uw (J4 a b):=by rw [hr]; unfold Vd; rw [if_pos ⟨by rw [←hk]; exact hodd,hneg⟩]
        rw [e] at hz
        exact w tt Tryz.func265 rfl [.c [] cp,.f (by simp),.r 22 (eI em),.t (by simp; omega),.c [] cl,.t (by simpa [Qo] using hneg),.c [] cn,.t (by simpa using hz)] rfl rfl (by simp [Qa])
      · have e:r=J4 a b:=by rw [hr]; unfold Vd; rw [if_neg (fun h=>hneg h.2)]
        rw [e] at hz
        exact w tt Tryz.func265 rfl [.c [] cp,.f (by simp),.r 22 (eI em),.t (by simp; omega),.c [] cl,.f (by simpa [Qo] using hneg),.t (by simpa using hz)] rfl rfl (by simp [Qa])
    · have e:r=J4 a b:=by rw [hr]; unfold Vd; rw [if_neg (fun h=>hodd (by rw [hk]; exact h.1))]
      rw [e] at hz
      exact w tt Tryz.func265 rfl [.c [] cp,.f (by simp),.r 22 (eI em),.f (by simp; omega),.f rfl,.t (by simpa using hz)] rfl rfl (by simp [Qa])
  · rw [key,if_neg hz]
    have cd:=Qjs (p:=r) (g:=Jn r) (by omega) (Qc h6 (by omega)) (Tv (Qc h6 (by omega))) (Ry h4 hz) W8
    by_cases hodd:k % 2=1
    · by_cases hneg:Qo b<0
      · have e:r=Uw (J4 a b):=by rw [hr]; unfold Vd; rw [if_pos ⟨by rw [←hk]; exact hodd,hneg⟩]
        rw [e] at hz cc cd ⊢
        exact w tt Tryz.func265 rfl [.c [] cp,.f (by simp),.r 22 (eI em),.t (by simp; omega),.c [] cl,.t (by simpa [Qo] using hneg),.c [] cn,.f (by simpa using hz),.c [] cc,.c [] cd] rfl rfl (by simp [Qa])
      · have e:r=J4 a b:=by rw [hr]; unfold Vd; rw [if_neg (fun h=>hneg h.2)]
        rw [e] at hz cc cd ⊢
        exact w tt Tryz.func265 rfl [.c [] cp,.f (by simp),.r 22 (eI em),.t (by simp; omega),.c [] cl,.f (by simpa [Qo] using hneg),.f (by simpa using hz),.c [] cc,.c [] cd] rfl rfl (by simp [Qa])
    · have e:r=J4 a b:=by rw [hr]; unfold Vd; rw [if_neg (fun h=>hodd (by rw [hk]; exact h.1))]
      rw [e] at hz cc cd ⊢
      exact w tt Tryz.func265 rfl [.c [] cp,.f (by simp),.r 22 (eI em),.f (by simp; omega),.f rfl,.f (by simpa using hz),.c [] cc,.c [] cd] rfl rfl (by simp [Qa])
end Orr

namespace Orr
open Go Go.Proofs
set_option maxRecDepth 10000
theorem Qv1 {s:Nat} {x:Int} (h:Qt x≤s) (g:Int):Qt (x / g)≤s:=Ns (p:=[x]) (fun z hz=>by rw [List.mem_singleton.1 hz]; exact h) g _ (by simp)
def sta (b:List Int) (i:Nat) (x:Int) (a:List Int):List Int:=Wd a (Zo (Qq (mono i x)) b)
theorem Qy8 {u t i:Nat} {x:Int} {b a:List Int} (ha:Bd u a) (hb:Bd t b) (hx:Qt x≤u) (hi:i≤64):Bd (u+t+8) (sta b i x a) :=
  Qc (P7 ha (Qjg hb hx hi)) (by omega)
theorem Qk3 {x:Int} {i:Nat} {b a:List Int}:(sta b i x a).length≤max a.length (i+b.length):=by
  have h:=Ro a (Zo (Qq (mono i x)) b)
  have h2:=Qb0 (i:=i) (x:=x) (b:=b)
  unfold sta; omega
theorem Quo (s n:Nat):Bd s (List.replicate n 0):=fun z hz=>by rw [(List.mem_replicate.1 hz).2,Ul]; exact Nat.zero_le _
theorem Qy7 {s i:Nat} {l:List Int} {x:Int} (h:Bd s l) (hx:Qt x≤s):Bd s (l.set i x):=fun z hz=>by
  rcases List.mem_or_eq_of_mem_set hz with hz | rfl
  · exact h z hz
  · exact hx
theorem Qow {a b q:List Int} (ha:Pb a) (hb:Pb b) (h:R9 a b=some q):Qg Tryz.prog 318 [pr a,pr b] [pr q,.one (.int .i64 0)]:=by
  unfold R9 at h
  split at h
  · cases h
  rename_i h0
  obtain ⟨k,hk⟩:∃ k,k=a.length+1-b.length:=⟨_,rfl⟩
  rw [←hk] at h
  obtain ⟨q',hq,hq2⟩:=Option.bind_eq_some_iff.1 h
  obtain ⟨rfl,hpb⟩:=G5 (Xt _) hq2
  have hal:=ha.l
  have hbl:=hb.l
  refine X4 Tryz.func318 rfl ?_
  refine go tt [.c [] (Zx ha.t ha.ln ha.bd),.c [] (Zx hb.t hb.ln hb.bd),.f (by simpa using h0),.r 24 (eI (b:=(k:Int)) (by simp; omega)),.i k,.i k,.r 27 (eI (b:=(k:Int)) (by simp))] rfl (by simp [Qa]; omega) ?_
  refine nl 0 rfl rfl rfl ?_
  rw [Li]
  refine lp (S:=Nat×List Int×List Int) 1 (fun L1 s=>(0,.v (pr s.2.1))::(7,.v (.one (.int .i64 ((s.1:Int)-1))))::L1) (fun s=>[.row false 29 2 (s.2.2.map Z0)]) (fun s=>s.1) (fun s=>s.1≤k∧Qm s.2.1∧s.2.1.length≤a.length∧Bd (16777216+(k-s.1)*16777224) s.2.1∧s.2.2.length=k∧Bd 1107296256 s.2.2∧Qce b s.1 s.2.1 s.2.2=some q') (k,a,List.replicate k 0) ⟨Nat.le_refl _,ha.t,Nat.le_refl _,by simpa using ha.b,by simp,Quo _ _,hq⟩ rfl (fun _ _=>rfl) rfl fun ⟨i,A,Q⟩ ⟨j1,j2,j3,j4,j5,j7,j6⟩=>?_
  dsimp only at j1 j2 j3 j4 j5 j6 j7 ⊢
  cases i with
  |
   zero =>
   simp only [Qce] at j6
   split at j6
   · rename_i hA
     injection j6 with j6; subst j6
     exact en tt [.f (by simp),.f (by simpa using hA),.c [] (Wo (Zs Q) (by omega) (Qc j7 (by omega)))] rfl rfl trivial
   · cases j6
  |
   succ i =>
   obtain ⟨u,hu⟩:∃ u,u=16777216+(k-(i+1))*16777224:=⟨_,rfl⟩
   rw [←hu] at j4
   have hub:u≤1107296256:=by
     have:(k-(i+1))*16777224≤64*16777224:=Nat.mul_le_mul_right _ (by omega)
     omega
   have hku:u+16777216+8=16777216+(k-i)*16777224:=by
     rw [hu,show k-i=(k-(i+1))+1 from by omega,Nat.add_mul]; omega
   simp only [Qce] at j6
   by_cases hlt:A.length<b.length+i
   · rw [if_pos hlt] at j6
     refine go tt [.t (by simp <;> omega),.c [] (Y7 A),.c [] (Y7 b),.t (by simp; omega),.r 32 (eI (b:=(i:Int)-1) (by omega))] rfl (by simp [Qa]; omega) ?_
     exact rd (i,A,Q) (by dsimp only; omega) ⟨by dsimp only; omega,j2,j3,Qc j4 (by dsimp only; omega),j5,j7,j6⟩ rfl
   · rw [if_neg hlt] at j6
     split at j6
     · rename_i hdv
       obtain ⟨x,hx⟩:∃ x,x=Qo A / Qo b:=⟨_,rfl⟩
       rw [←hx] at j6
       have hxs:Qt x≤u:=by rw [hx]; exact Qv1 (Yo j4) _
       have ce:=Ux (Qe (Qo A)) (Qe (Qo b)) (Nat.le_trans (Yo j4) (by omega)) (Nat.le_trans (Yo hb.b) (by omega)) (Wu hb.t h0) hdv
       rw [←hx] at ce
       have cm:Qg Tryz.prog 213 [.one (.row ((mono i x).map Z0)),pr b] [pr (Zo (Qq (mono i x)) b)]:=Qa4 (p0:=mono i x) hb.t (by rw [Gd]; omega) (by omega) (Lt hxs) hb.b (by omega)
       have l3:=Qb0 (i:=i) (x:=x) (b:=b)
       have l4:=Qk3 (i:=i) (x:=x) (b:=b) (a:=A)
       have cb:=L9 (p:=A) (q:=Zo (Qq (mono i x)) b) (by omega) (by omega) (Qc j4 (by omega)) (Qc (Qjg hb.b hxs (by omega)) (by omega))
       refine go tt [.t (by simp <;> omega),.c [] (Y7 A),.c [] (Y7 b),.f (by simp; omega),.c [] (Kj j2 (by omega) (Qc j4 (by omega))),.c [] (Kj hb.t hb.ln hb.bd),.c [] ce,.f rfl,.r 51 (eI (b:=(i:Int)) (by omega)),.i i,.r 55 (eI (b:=((i+1:Nat):Int)) (by omega)),.i (i+1),.i (i+1),.r 58 (eI (b:=(i:Int)) (by omega))] rfl (by simp [Qa]; omega) ?_
       refine nl 2 rfl rfl rfl ?_
       rw [Li,Qh5]
       rw [←Qex i x] at cm
       refine go tt [.i i,.c [] cm,.c [] cb,.r 32 (eI (b:=(i:Int)-1) (by omega))] rfl (by simp [Qa]; omega) ?_
       exact rd (i,sta b i x A,Q.set i x) (by dsimp only; omega) ⟨by dsimp only; omega,Q8 _ _,by dsimp only; omega,by dsimp only; rw [←hku]; exact Qy8 j4 hb.b hxs (by omega),by simpa using j5,Qy7 j7 (Nat.le_trans hxs hub),j6⟩ rfl
     · cases j6
theorem Qh3 {a b q:List Int} (h:R9 a b=some q):Pb q:=by
  unfold R9 at h
  split at h
  · cases h
  · obtain ⟨q',_,hq2⟩:=Option.bind_eq_some_iff.1 h
    obtain ⟨rfl,hpb⟩:=G5 (Xt _) hq2
    exact hpb
theorem Qpo {a b q:List Int} (ha:Pb a) (hb:Pb b) (h:R9 a b=some q):Qg Tryz.prog 298 [pr a,pr b] [pr q] :=
  w tt Tryz.func298 rfl [.c [] (Qow ha hb h)] rfl rfl trivial
theorem Qc3:∀ {k:Nat} {a b g:List Int},Pb a→Pb b→Cc k a b=some g→Pb g
  | 0,_,_,_,_,_,h=>by cases h
  |
   k+1,a,b,g,ha,hb,h=>by
   simp only [Cc] at h
   split at h
   · injection h with h; subst h; exact ha
   · rename_i h0
     obtain ⟨r,hr,h⟩:=Option.bind_eq_some_iff.1 h
     obtain ⟨rfl,hpb⟩:=G5 (Mz ha hb h0).1 hr
     exact Qc3 hb hpb h
theorem Qjy {a b g:List Int} (ha:Pb a) (hb:Pb b) (h:Tc a b=some g):Qg Tryz.prog 225 [pr a,pr b] [pr g]:=by
  unfold Tc at h
  obtain ⟨g',h2,rfl⟩:=Option.map_eq_some_iff.1 h
  have hg:=Qc3 (Xc ha) (Xc hb) h2
  refine X4 Tryz.func225 rfl ?_
  refine go tt [.c [] (Uy ha),.c [] (Uy hb)] rfl trivial ?_
  refine lp (S:=Nat×List Int×List Int) 0 (fun L1 s=>(0,.v (pr s.2.1))::(1,.v (pr s.2.2))::L1) (fun _=>[]) (fun s=>s.1) (fun s=>Pb s.2.1∧Pb s.2.2∧Cc s.1 s.2.1 s.2.2=some g') (66,Qn a,Qn b) ⟨Xc ha,Xc hb,h2⟩ rfl (fun _ _=>rfl) rfl fun ⟨k,A,C⟩ ⟨j1,j2,j3⟩=>?_
  dsimp only at j1 j2 j3 ⊢
  cases k with
  | zero=>cases j3
  |
   succ k =>
   simp only [Cc] at j3
   split at j3
   · rename_i h0
     injection j3 with j3; subst j3
     exact en tt [.f (by simpa using h0),.c [] (Uy j1)] rfl rfl trivial
   · rename_i h0
     obtain ⟨r,hr,j3⟩:=Option.bind_eq_some_iff.1 j3
     obtain ⟨rfl,hpb⟩:=G5 (Mz j1 j2 h0).1 hr
     refine go tt [.t (by simp; omega),.c [] (Qo2 j1 j2 h0)] rfl trivial ?_
     exact rd (k,C,Xh A C) (by dsimp only; omega) ⟨j2,hpb,j3⟩ rfl
theorem B5 {a b g:List Int} (ha:Pb a) (hb:Pb b) (h:Tc a b=some g):Pb g:=by
  unfold Tc at h
  obtain ⟨g',h2,rfl⟩:=Option.map_eq_some_iff.1 h
  exact Xc (Qc3 (Xc ha) (Xc hb) h2)
theorem Qox {a b g:List Int} (ha:Pb a) (hb:Pb b) (h:Qcg a b=some g):Qg Tryz.prog 176 [.one (.row (Jh [a,b]))] [pr g]:=by
  unfold Qcg at h
  obtain ⟨g1,h1,h2⟩:=Option.bind_eq_some_iff.1 h
  have hg1:=B5 By ha h1
  refine X4 Tryz.func176 rfl ?_
  refine go tt [.z 3] rfl trivial ?_
  refine lp (S:=Nat) 0 (fun L1 i=>(8,.v (.one (.int .i64 (i:Int))))::(3,.v (pr (if i=0 then [] else if i=1 then g1 else g)))::L1) (fun _=>[]) (fun i=>2-i) (fun i=>i≤2) 0 (Nat.zero_le _) rfl (fun _ _=>rfl) rfl fun i hi=>?_
  rcases (show i=0∨i=1∨i=2 by omega) with rfl | rfl | rfl
  · refine go tt [.t rfl,.x (Z8 (i:=0) (p:=a) rfl),.c [] (Qjy By ha h1)] rfl (by simp [Qa]) ?_
    exact rd 1 (by omega) (by omega) rfl
  · refine go tt [.t rfl,.x (Z8 (i:=1) (p:=b) rfl),.c [] (Qjy hg1 hb h2)] rfl (by simp [Qa]) ?_
    exact rd 2 (by omega) (by omega) rfl
  · exact en tt [.f rfl] rfl rfl trivial
theorem Qr7 {a b g:List Int} (ha:Pb a) (hb:Pb b) (h:Qcg a b=some g):Pb g:=by
  unfold Qcg at h
  obtain ⟨g1,h1,h2⟩:=Option.bind_eq_some_iff.1 h
  exact B5 (B5 By ha h1) hb h2
theorem Az {p d:List Int} (h:chk (Zu p)=some d):d=Zu p∧Pb (Zu p):=G5 (Q8 _ _) h
theorem Ea {a g:List Int} (ha:Pb a) (h:Yj a=some g):Qg Tryz.prog 270 [pr a] [pr g]:=by
  have hp:=Xc ha
  unfold Yj at h
  split at h
  · rename_i h0
    injection h with h; subst h
    exact w tt Tryz.func270 rfl [.c [] (Uy ha),.c [] (Y7 _),.t (by simp; omega)] rfl rfl trivial
  · rename_i h0
    obtain ⟨d,h1,h⟩:=Option.bind_eq_some_iff.1 h
    obtain ⟨rfl,hd⟩:=Az h1
    obtain ⟨g1,h1,h⟩:=Option.bind_eq_some_iff.1 h
    exact w tt Tryz.func270 rfl [.c [] (Uy ha),.c [] (Y7 _),.f (by simp; omega),.c [] (Fu hp.ln hp.bd),.c [] (Qjy hp hd h1),.c [] (Qpo hp (B5 hp hd h1) h)] rfl rfl trivial
theorem Bz {a g:List Int} (ha:Pb a) (h:Yj a=some g):Pb g:=by
  unfold Yj at h
  split at h
  · injection h with h; subst h; exact Xc ha
  · obtain ⟨d,h1,h⟩:=Option.bind_eq_some_iff.1 h
    obtain ⟨g1,h1,h⟩:=Option.bind_eq_some_iff.1 h
    exact Qh3 h
theorem Qr8 {p:List Int} (h:Pb p):Pb (Uw p):=⟨Q8 _ _,Nat.le_trans (Ap p) h.l,Qa0 h.b⟩
theorem Qg9:∀ {k:Nat} {a b:List Int} {l:List (List Int)},Pb a→Pb b→chF k a b=some l→l.length≤k∧∀ p∈l,Pb p
  | 0,_,_,_,_,_,h=>by cases h
  |
   k+1,a,b,l,ha,hb,h=>by
   simp only [chF] at h
   split at h
   · injection h with h; subst h; exact ⟨by simp,fun p hp=>by cases hp⟩
   · rename_i h0
     obtain ⟨r,hr,h⟩:=Option.bind_eq_some_iff.1 h
     obtain ⟨rfl,hpb⟩:=G5 (Mz ha hb h0).1 hr
     obtain ⟨l',h1,h⟩:=Option.bind_eq_some_iff.1 h
     injection h with h; subst h
     obtain ⟨i1,i2⟩:=Qg9 hb (Qr8 hpb) h1
     refine ⟨by simp; exact i1,fun p hp=>?_⟩
     rcases List.mem_cons.1 hp with rfl | hp
     · exact hb
     · exact i2 p hp
theorem chain_ok {p:List Int} {l:List (List Int)} (hp:Pb p) (h:Hq p=some l):l.length≤67∧∀ q∈l,Pb q:=by
  unfold Hq at h
  obtain ⟨a,h1,h⟩:=Option.bind_eq_some_iff.1 h
  have ha:=Bz hp h1
  split at h
  · cases h
  · obtain ⟨d,h2,h⟩:=Option.bind_eq_some_iff.1 h
    obtain ⟨rfl,hd⟩:=Az h2
    obtain ⟨l',h3,h⟩:=Option.bind_eq_some_iff.1 h
    injection h with h; subst h
    obtain ⟨i1,i2⟩:=Qg9 ha (Xc hd) h3
    refine ⟨by simp; omega,fun p hp=>?_⟩
    rcases List.mem_cons.1 hp with rfl | hp
    · exact ha
    · exact i2 p hp
theorem A4 (l:List (List Int)) (p:List Int):Jh l++[[pl p]]=Jh (l++[p]):=by simp [Jh]
theorem W9 (l:List (List Int)):(Jh l).length=l.length:=by simp [Jh]
theorem Qo4 {p:List Int} {l:List (List Int)} (hp:Pb p) (h:Hq p=some l):Qg Tryz.prog 230 [pr p] [.one (.sh [.row (Jh l)]),.one (.int .i64 0)]:=by
  unfold Hq at h
  obtain ⟨a,h1,h⟩:=Option.bind_eq_some_iff.1 h
  have ha:=Bz hp h1
  split at h
  · cases h
  rename_i h0
  obtain ⟨d,h2,h⟩:=Option.bind_eq_some_iff.1 h
  obtain ⟨rfl,hd⟩:=Az h2
  obtain ⟨l',h3,h⟩:=Option.bind_eq_some_iff.1 h
  injection h with h; subst h
  refine X4 Tryz.func230 rfl ?_
  refine go tt [.c [] (Ea hp h1),.f (by simpa using h0),.lo,.c [] (Fu ha.ln ha.bd),.c [] (Qpn hd.t hd.ln' hd.bd)] rfl (by simp [Qa]) ?_
  obtain ⟨z,hz⟩:∃ z,z=if (Zu a).length=0 then 0 else Zq (Zu a):=⟨_,rfl⟩
  rw [←hz]
  refine sb [(4,.v (pr a)),(7,.v (pr (Qn (Zu a)))),(5,.v (.one (.ow 1 0)))] [.row false 26 1 [[pl a]],.blk 299 [.orow 0 1 none],.blk 29 (Z0 z)] rfl rfl ?_
  have hll:=(Qg9 ha (Xc hd) h3).1
  refine lp (S:=Nat×List (List Int)×List Int×List Int) 3 (fun L1 s=>(4,.v (pr s.2.2.1))::(7,.v (pr s.2.2.2))::L1) (fun s=>[.row false 26 1 (Jh s.2.1),.blk 299 [.orow 0 1 none],.blk 29 (Z0 z)]) (fun s=>s.1) (fun s=>Pb s.2.2.1∧Pb s.2.2.2∧∃ m,chF s.1 s.2.2.1 s.2.2.2=some m∧s.2.1++m=a::l') (66,[a],a,Qn (Zu a)) ⟨ha,Xc hd,l',h3,rfl⟩ rfl (fun _ _=>rfl) rfl fun ⟨k,out,A,C⟩ ⟨j1,j2,m,j3,j4⟩=>?_
  dsimp only at j1 j2 j3 j4 ⊢
  have hol:out.length≤67:=by have:=congrArg List.length j4; simp at this; omega
  cases k with
  | zero=>cases j3
  |
   succ k =>
   simp only [chF] at j3
   split at j3
   · rename_i h0
     injection j3 with j3; subst j3
     rw [List.append_nil] at j4
     rw [←j4]
     exact en tt [.f (by simpa using h0)] rfl rfl trivial
   · rename_i h0
     obtain ⟨r,hr,j3⟩:=Option.bind_eq_some_iff.1 j3
     obtain ⟨rfl,hpb⟩:=G5 (Mz j1 j2 h0).1 hr
     obtain ⟨m',j6,j5⟩:=Option.bind_eq_some_iff.1 j3
     injection j5 with j5; subst j5
     refine go tt [.t (by simp; omega),.s (sz:=1) (fun c hc=>by rw [List.mem_singleton.1 hc]; rfl),.c [] (Qo2 j1 j2 h0),.c [] (Qoz hpb.ln hpb.bd)] rfl (by simp [Qa,W9]; omega) ?_
     exact rd (k,out++[C],C,Uw (Xh A C)) (by dsimp only; omega) ⟨j2,Qr8 hpb,m',j6,by rw [←j4]; simp⟩ (by rw [A4]; rfl)
end Orr

namespace Orr
open Go Go.Proofs
set_option maxRecDepth 10000
structure Tb (t:Tm):Prop where
  p:Pb t.p
  lo:Qb t.lo
  hi:Qb t.hi
theorem Qj7 (x y:Int):-1≤Kv x y∧Kv x y≤1:=by unfold Kv; split <;> (try split) <;> omega
theorem G6 (a b:Rat):-1≤Zm a b∧Zm a b≤1:=Qj7 _ _
theorem Gk (p:List Int) (q:Rat):-1≤Z9 p q∧Z9 p q≤1:=Qj7 _ _
theorem Qhw (p:List Int) (q:Rat):-1≤low p q∧low p q≤1:=by unfold low; split <;> exact Gk _ _
theorem Qb.s31 {q:Rat} (h:Qb q):Qs 2147483647 q:=h.mono (by decide)
theorem Qb.s32 {q:Rat} (h:Qb q):Qs 4294967295 q:=h.mono (by decide)
theorem Df {p:List Int} {q:Rat} (hp:Pb p) (hq:Qb q):Qg Tryz.prog 192 [pr p,.agg (rl q)] [.one (.int .i64 (Z9 p q))]:=by
  have hm:p.length*(16777216+1)≤64*16777217:=Nat.mul_le_mul_right _ hp.l
  exact Qjn hp.t hp.ln hp.b hq (by omega)
theorem Q18 {p:List Int} {q:Rat} (hp:Pb p) (hq:Qb q):Qg Tryz.prog 192 [pr (Zu p),.agg (rl q)] [.one (.int .i64 (Z9 (Zu p) q))]:=by
  have hl:=Nat.le_trans (Ky p) (show p.length-1≤64 by have:=hp.l; omega)
  have hm:(Zu p).length*(16777216+1)≤64*16777217:=Nat.mul_le_mul_right _ hl
  exact Qjn (Q8 _ _) (Nat.lt_of_le_of_lt hl (by omega)) (Qjh (t:=6) hp.b hp.l) hq (by omega)
theorem Ku {t:Tm} (ht:Tb t):Qg Tryz.prog 175 [.agg (ta t)] [.one (.bool t.point)] :=
  w tt Tryz.func175 rfl [.c [] (Ud ht.lo.s31 ht.hi.s31)] rfl rfl trivial
theorem Dw {t:Tm} (ht:Tb t):Qg Tryz.prog 174 [.agg (ta t)] [.agg (ta t)] :=
  w tt Tryz.func174 rfl [.c [] (Zx ht.p.t ht.p.ln ht.p.bd),.c [] (Gz ht.lo.s32),.c [] (Gz ht.hi.s32)] rfl rfl trivial
theorem Qps {t:Tm} (ht:Tb t):Qg Tryz.prog 196 [.agg (ta t)] [.agg (ta t)]:=w tt Tryz.func196 rfl [.c [] (Dw ht)] rfl rfl trivial
theorem Qpi {p:List Int} {q:Rat} (hp:Pb p) (hq:Qb q):Qg Tryz.prog 193 [pr p,.agg (rl q)] [.one (.int .i64 (low p q))]:=by
  unfold low
  by_cases h:Z9 p q=0
  · rw [if_neg (by simpa using h)]
    exact w tt Tryz.func193 rfl [.c [] (Df hp hq),.f (by simpa using h),.c [] (Fu hp.ln hp.bd),.c [] (Q18 hp hq)] rfl rfl trivial
  · rw [if_pos h]
    exact w tt Tryz.func193 rfl [.c [] (Df hp hq),.t (by simpa using h)] rfl rfl trivial
theorem Qpg {p:List Int} {lo hi:Rat} (hp:Pb p) (hl:Qb lo) (hh:Qb hi):Qg Tryz.prog 177 [pr p,.agg (rl lo),.agg (rl hi)] [.one (.bool (Mg p lo hi))]:=by
  by_cases h:Z9 p hi=0
  · exact w tt Tryz.func177 rfl [.c [] (Df hp hh),.t (by simpa using h)] rfl (by simp [Mg,h]) trivial
  · exact w tt Tryz.func177 rfl [.c [] (Df hp hh),.f (by simpa using h),.c [] (Qpi hp hl)] rfl (by simp [Mg,h]) trivial
theorem Lz {t:Tm} {q:Rat} (ht:Tb t) (hq:Qb q):Qg Tryz.prog 133 [.agg (ta t),.agg (rl q)] [.one (.int .i64 (Qu t q))]:=by
  have cp:=Ku ht
  unfold Qu
  by_cases h1:t.point=true
  · rw [if_pos h1]
    exact w tt Tryz.func133 rfl [.c [] cp,.t h1,.c [] (Ud ht.lo.s31 hq.s31)] rfl rfl trivial
  rw [if_neg h1]
  have h1:t.point=false:=by simpa using h1
  have c1:=Ud hq.s31 ht.lo.s31
  have c2:=Ud hq.s31 ht.hi.s31
  by_cases h2:Zm q t.lo≤0
  · rw [if_pos h2]
    exact w tt Tryz.func133 rfl [.c [] cp,.f h1,.c [] c1,.t (by simpa using h2)] rfl rfl trivial
  rw [if_neg h2]
  by_cases h3:0<Zm q t.hi
  · rw [if_pos h3]
    exact w tt Tryz.func133 rfl [.c [] cp,.f h1,.c [] c1,.f (by simpa using h2),.c [] c2,.t (by simpa using h3)] rfl rfl trivial
  rw [if_neg h3]
  by_cases h4:Z9 t.p q=0
  · rw [if_pos h4]
    exact w tt Tryz.func133 rfl [.c [] cp,.f h1,.c [] c1,.f (by simpa using h2),.c [] c2,.f (by simpa using h3),.c [] (Df ht.p hq),.t (by simpa using h4)] rfl rfl trivial
  rw [if_neg h4]
  by_cases h5:Z9 t.p q=low t.p t.lo
  · rw [if_pos h5]
    exact w tt Tryz.func133 rfl [.c [] cp,.f h1,.c [] c1,.f (by simpa using h2),.c [] c2,.f (by simpa using h3),.c [] (Df ht.p hq),.f (by simpa using h4),.c [] (Qpi ht.p ht.lo),.t (by simpa using h5)] rfl rfl trivial
  · rw [if_neg h5]
    exact w tt Tryz.func133 rfl [.c [] cp,.f h1,.c [] c1,.f (by simpa using h2),.c [] c2,.f (by simpa using h3),.c [] (Df ht.p hq),.f (by simpa using h4),.c [] (Qpi ht.p ht.lo),.f (by simpa using h5)] rfl rfl trivial
theorem Qvg (t:Tm) (q:Rat):-1≤Qu t q∧Qu t q≤1:=by
  unfold Qu
  have:=G6 t.lo q
  repeat' split
  all_goals omega
theorem Qvo (q:Rat):0<(q.den:Int):=by have:=q.den_pos; omega
theorem Qx2 {a b:Rat} (ha:Qb a) (hb:Qb b):Qg Tryz.prog 268 [.agg (rl a),.agg (rl b)] [.agg (rl (mid a b))]:=by
  have h1:Qt (a.num*(b.den:Int))≤33554432:=Nat.le_trans (Xa _ _) (by have:=ha.1; have:=hb.2; omega)
  have h2:Qt (b.num*(a.den:Int))≤33554432:=Nat.le_trans (Xa _ _) (by have:=hb.1; have:=ha.2; omega)
  have h3:Qt ((a.den:Int)*(b.den:Int))≤33554432:=Nat.le_trans (Xa _ _) (by have:=ha.2; have:=hb.2; omega)
  have h4:Qt (2:Int)≤2:=by decide
  have h5:Qt (a.num*(b.den:Int)+b.num*(a.den:Int))≤33554433:=Nat.le_trans (Ml _ _) (by omega)
  have h6:Qt ((a.den:Int)*(b.den:Int)*2)≤33554434:=Nat.le_trans (Xa _ _) (by omega)
  have h0:(a.den:Int)*(b.den:Int)*2≠0:=by
    have:=Int.mul_pos (Qvo a) (Qvo b); omega
  exact w tt Tryz.func268 rfl [.c [] (Qba ha.s31 hb.s31),.c [] (S7 (Qe _) (Qe _) (by omega) (by omega)),.c [] (Qg3 (z:=2) (by decide)),.c [] (Fb (Qe _) (Qe _) (by omega) (by omega)),.c [] (H7 h0 (by omega) (by omega))] rfl rfl trivial
theorem Qbc {a b:Rat} (ha:Qb a) (hb:Qb b):Qg Tryz.prog 227 [.agg (rl a),.agg (rl b)] [.agg (rl (If a b))]:=by
  have h1:Qt (a.num*(b.den:Int))≤33554432:=Nat.le_trans (Xa _ _) (by have:=ha.1; have:=hb.2; omega)
  have h2:Qt (b.num*(a.den:Int))≤33554432:=Nat.le_trans (Xa _ _) (by have:=hb.1; have:=ha.2; omega)
  have h3:Qt ((a.den:Int)*(b.den:Int))≤33554432:=Nat.le_trans (Xa _ _) (by have:=ha.2; have:=hb.2; omega)
  have h5:Qt (a.num*(b.den:Int)-b.num*(a.den:Int))≤33554433:=Nat.le_trans (Qbz _ _) (by omega)
  have h0:(a.den:Int)*(b.den:Int)≠0:=by
    have:=Int.mul_pos (Qvo a) (Qvo b); omega
  exact w tt Tryz.func227 rfl [.c [] (Qba ha.s31 hb.s31),.c [] (Qpb (Qe _) (Qe _) (by omega) (by omega)),.c [] (H7 h0 (by omega) (by omega))] rfl rfl trivial
theorem Ei {q r:Rat} (h:chq q=some r):r=q∧Qb q:=by
  unfold chq at h
  split at h
  · rename_i hc; injection h with h; exact ⟨h.symm,hc⟩
  · cases h
theorem Qg5 {t u:Tm} (ht:Tb t) (h:Qbv t=some u):Qg Tryz.prog 228 [.agg (ta t)] [.agg (ta u)]:=by
  have cp:=Ku ht
  unfold Qbv at h
  split at h
  · rename_i h1
    injection h with h; subst h
    exact w tt Tryz.func228 rfl [.c [] cp,.t h1] rfl rfl trivial
  · rename_i h1
    have h1:t.point=false:=by simpa using h1
    obtain ⟨m,hm0,h⟩:=Option.bind_eq_some_iff.1 h
    obtain ⟨rfl,hm⟩:=Ei hm0
    injection h with h
    subst h
    have cm:=Qx2 ht.lo ht.hi
    have cc:=Lz ht hm
    by_cases h2:Qu t (mid t.lo t.hi)=0
    · rw [if_pos h2]
      exact w tt Tryz.func228 rfl [.c [] cp,.f h1,.c [] cm,.c [] cc,.t (by simpa using h2)] rfl rfl trivial
    rw [if_neg h2]
    by_cases h3:Qu t (mid t.lo t.hi)=-1
    · rw [if_pos h3]
      exact w tt Tryz.func228 rfl [.c [] cp,.f h1,.c [] cm,.c [] cc,.f (by simpa using h2),.t (by simpa using h3)] rfl rfl trivial
    · rw [if_neg h3]
      exact w tt Tryz.func228 rfl [.c [] cp,.f h1,.c [] cm,.c [] cc,.f (by simpa using h2),.f (by simpa using h3)] rfl rfl trivial
theorem Qcw {t u:Tm} (ht:Tb t) (h:Qbv t=some u):Tb u:=by
  unfold Qbv at h
  split at h
  · injection h with h; subst h; exact ht
  · obtain ⟨m,hm0,h⟩:=Option.bind_eq_some_iff.1 h
    obtain ⟨rfl,hm⟩:=Ei hm0
    injection h with h
    subst h
    repeat' split
    · exact ⟨ht.p,hm,hm⟩
    · exact ⟨ht.p,ht.lo,hm⟩
    · exact ⟨ht.p,hm,ht.hi⟩
theorem Gy {z:Int} (h:Qt z≤4294967296):Qg Tryz.prog 266 [.one (mg z)] [.one (.int .i64 (Qt z:Int))]:=by
  have h1:=Qg1 (l:=Qw z.natAbs) (K6 _) (by rw [Zk]; exact h)
  rw [Zk] at h1; exact h1
theorem A9 {p:List Int} {i:Nat} {z:Int} (h:p[i]? = some z):Zc (p.take (i+1))=max (Zc (p.take i)) (Qt z):=by
  unfold Zc; rw [List.take_succ,h,Option.toList_some,List.foldl_append]; rfl
theorem Ya {p:List Int} {s:Nat} (h:Bd s p):∀ i,Zc (p.take i)≤s
  | 0=>by simp [Zc]
  |
   i+1=>by
   cases hz:p[i]? with
   |
    none =>
    rw [List.take_of_length_le (by have:=List.getElem?_eq_none_iff.1 hz; omega),←List.take_of_length_le (l:=p) (i:=i) (by have:=List.getElem?_eq_none_iff.1 hz; omega)]
    exact Ya h i
   | some z=>rw [A9 hz]; have:=Ya h i; have:=Qom h hz; omega
theorem Qbd {p:List Int} (hp:Pb p):Qg Tryz.prog 267 [pr p] [.one (.int .i64 (Zc p:Int))]:=by
  have hl:=hp.l
  refine X4 Tryz.func267 rfl ?_
  refine go tt [] rfl trivial ?_
  refine lp (S:=Nat) 0 (fun L1 i=>(8,.v (.one (.int .i64 (i:Int))))::(3,.v (.one (.int .i64 (Zc (p.take i):Int))))::L1) (fun _=>[]) (fun i=>p.length-i) (fun i=>i≤p.length) 0 (Nat.zero_le _) rfl (fun _ _=>rfl) rfl fun i hi=>?_
  by_cases hlt:i<p.length
  · have hg:=Xo hlt
    have hz:=Q7 hp.b i
    have hs:=A9 hg
    refine go tt [.t (by simp; omega),.x (Jy hg),.c [] (Gy (by omega)),.r 16 (eI (b:=(Zc (p.take (i+1)):Int)) (by rw [hs]; omega))] rfl (by simp [Qa]; omega) ?_
    exact rd (i+1) (by omega) hlt rfl
  · obtain rfl:i=p.length:=by omega
    rw [List.take_length]
    exact en tt [.f (by simp)] rfl rfl trivial
theorem Qvc {a:Tm} {b:Tm} (ha:Tb a) (hb:Tb b):Qg Tryz.prog 226 [.agg (ta a),.agg (ta b)] [.one (.int .i64 (Jz a b:Nat))]:=by
  have l1:=ha.p.l
  have l2:=hb.p.l
  have b1:=ha.lo.1
  have b2:=ha.hi.1
  have b3:=hb.lo.1
  have b4:=hb.hi.1
  have s1:Zc a.p≤16777216:=by have:=Ya ha.p.b a.p.length; rwa [List.take_length] at this
  have s2:Zc b.p≤16777216:=by have:=Ya hb.p.b b.p.length; rwa [List.take_length] at this
  obtain ⟨N,hN⟩:∃ N,N=4*(a.p.length+b.p.length):=⟨_,rfl⟩
  obtain ⟨S,hS⟩:∃ S,S=Zc a.p+Zc b.p+(a.p.length+b.p.length)+8:=⟨_,rfl⟩
  have hNS:N*S≤512*33554568:=Nat.mul_le_mul (by omega) (by omega)
  have h0:(N:Int)*(S:Int)=((N*S:Nat):Int):=(Int.natCast_mul _ _).symm
  have hst:Jz a b=64+2*(Qt a.lo.num+Qt a.hi.num+Qt b.lo.num+Qt b.hi.num)+N*S:=by rw [hN,hS]; rfl
  rw [hst]
  exact w tt Tryz.func226 rfl [.c [] (Gy (z:=a.lo.num) (by omega)),.c [] (Gy (z:=a.hi.num) (by omega)),.c [] (Gy (z:=b.lo.num) (by omega)),.c [] (Gy (z:=b.hi.num) (by omega)),.r 41 (eI (b:=(N:Int)) (by rw [hN]; simp)),.c [] (Qbd ha.p),.c [] (Qbd hb.p),.r 51 (eI (b:=(S:Int)) (by rw [hS]; simp)),.r 52 (eI (b:=((N*S:Nat):Int)) h0)] rfl (by simp) (by rw [h0]; simp [Qa]; omega)
def Qix (p:List Int) (a:Tm):Nat:=64+2*(Qt a.lo.num+Qt a.hi.num)+4*(a.p.length+p.length)*(Zc a.p+Zc p+(a.p.length+p.length)+8)
theorem Qjj:Qg Tryz.prog 266 [lr []] [.one (.int .i64 0)]:=Qg1 (l:=[]) (by simp [Sm]) (by decide)
theorem Qpr {a:Tm} {p:List Int} (ha:Tb a) (hp:Pb p):Qg Tryz.prog 226 [.agg (ta a),.agg ([pl p,.bool false,.row [],.bool false,.row [],.bool false,.row [],.bool false,.row []])] [.one (.int .i64 (Qix p a:Nat))]:=by
  have l1:=ha.p.l
  have l2:=hp.l
  have b1:=ha.lo.1
  have b2:=ha.hi.1
  have s1:Zc a.p≤16777216:=by have:=Ya ha.p.b a.p.length; rwa [List.take_length] at this
  have s2:Zc p≤16777216:=by have:=Ya hp.b p.length; rwa [List.take_length] at this
  obtain ⟨N,hN⟩:∃ N,N=4*(a.p.length+p.length):=⟨_,rfl⟩
  obtain ⟨S,hS⟩:∃ S,S=Zc a.p+Zc p+(a.p.length+p.length)+8:=⟨_,rfl⟩
  have hNS:N*S≤512*33554568:=Nat.mul_le_mul (by omega) (by omega)
  have h0:(N:Int)*(S:Int)=((N*S:Nat):Int):=(Int.natCast_mul _ _).symm
  have hst:Qix p a=64+2*(Qt a.lo.num+Qt a.hi.num)+N*S:=by rw [hN,hS]; rfl
  rw [hst]
  exact w tt Tryz.func226 rfl [.c [] (Gy (z:=a.lo.num) (by omega)),.c [] (Gy (z:=a.hi.num) (by omega)),.c [] Qjj,.c [] Qjj,.r 41 (eI (b:=(N:Int)) (by rw [hN]; simp)),.c [] (Qbd ha.p),.c [] (Qbd hp),.r 51 (eI (b:=(S:Int)) (by rw [hS]; simp)),.r 52 (eI (b:=((N*S:Nat):Int)) h0)] rfl (by simp) (by rw [h0]; simp [Qa]; omega)
end Orr

namespace Orr
open Go Go.Proofs
set_option maxRecDepth 10000
def Sr (sg:List Int→Int) (l:List (List Int)) (i:Nat):Nat×Int:=(l.take i).foldl (Jr sg) (0,0)
theorem Qc0 {sg:List Int→Int} (hs:∀ p,-1≤sg p∧sg p≤1) (l:List (List Int)):∀ i,(Sr sg l i).1≤i∧-1≤(Sr sg l i).2∧(Sr sg l i).2≤1
  | 0=>⟨Nat.le_refl _,show (-1:Int)≤0 by decide,show (0:Int)≤1 by decide⟩
  |
   i+1=>by
   obtain ⟨h1,h2,h3⟩:=Qc0 hs l i
   cases h:l[i]? with
   |
    none =>
    have:Sr sg l (i+1)=Sr sg l i:=by unfold Sr; rw [List.take_of_length_le (by have:=List.getElem?_eq_none_iff.1 h; omega),List.take_of_length_le (List.getElem?_eq_none_iff.1 h)]
    rw [this]; omega
   |
    some p =>
    have:Sr sg l (i+1)=Jr sg (Sr sg l i) p:=X1 _ _ _ h
    rw [this]
    have:=hs p
    unfold Jr
    split
    · omega
    · dsimp only; split <;> omega
theorem Qvd {l:List (List Int)} {fid:Nat} {l1:List LV} {sg:List Int→Int} (hl:l.length≤1000) (hs:∀ p,-1≤sg p∧sg p≤1) (h:∀ p∈l,Qg Tryz.prog fid [pr p,.one (.sh l1)] [.one (.int .i64 (sg p))]):Qg Tryz.prog 300 [.one (.sh [.row (Jh l)]),.one (.fn fid [] [.sh l1])] [.one (.int .i64 (V0 sg l:Nat))]:=by
  have Ye:=W9 l
  refine X4 Tryz.func300 rfl ?_
  refine go tt [] rfl trivial ?_
  refine lp (S:=Nat) 0 (fun L1 i=>(15,.v (.one (.int .i64 (i:Int))))::(5,.v (.one (.int .i64 ((Sr sg l i).1:Int))))::(6,.v (.one (.int .i64 (Sr sg l i).2)))::L1) (fun _=>[]) (fun i=>l.length-i) (fun i=>i≤l.length) 0 (Nat.zero_le _) rfl (fun _ _=>rfl) rfl fun i hi=>?_
  by_cases hlt:i<l.length
  · obtain ⟨p,hp⟩:∃ p,l[i]? = some p:=⟨_,List.getElem?_eq_getElem hlt⟩
    have hst:Sr sg l (i+1)=Jr sg (Sr sg l i) p:=X1 _ _ _ hp
    obtain ⟨b1,b2,b3⟩:=Qc0 hs l i
    have b4:=hs p
    by_cases h0:sg p=0
    · refine go tt [.t (by simp [Ye]; omega),.x (Z8 hp),.c [] (h p (List.mem_of_getElem? hp)),.t (by simpa using h0)] rfl (by simp [Qa]; omega) ?_
      exact rd (i+1) (by omega) hlt (by rw [hst,show Jr sg (Sr sg l i) p=Sr sg l i from by unfold Jr; rw [if_pos h0]]; rfl)
    · by_cases h1:(Sr sg l i).2=-(sg p)
      · refine go tt [.t (by simp [Ye]; omega),.x (Z8 hp),.c [] (h p (List.mem_of_getElem? hp)),.f (by simpa using h0),.t (by simpa using h1)] rfl (by simp [Qa]; omega) ?_
        exact rd (i+1) (by omega) hlt (by rw [hst,show Jr sg (Sr sg l i) p=((Sr sg l i).1+1,sg p) from by unfold Jr; rw [if_neg h0,if_pos h1]]; rfl)
      · refine go tt [.t (by simp [Ye]; omega),.x (Z8 hp),.c [] (h p (List.mem_of_getElem? hp)),.f (by simpa using h0),.f (by simpa using h1)] rfl (by simp [Qa]; omega) ?_
        exact rd (i+1) (by omega) hlt (by rw [hst,show Jr sg (Sr sg l i) p=((Sr sg l i).1,sg p) from by unfold Jr; rw [if_neg h0,if_neg h1]]; rfl)
  · obtain rfl:i=l.length:=by omega
    refine en tt [.f (by simp [Ye])] rfl ?_ trivial
    unfold Sr V0; rw [List.take_length]
theorem Qo9 {p:List Int} {q:Rat} (hp:Pb p) (hq:Qb q):Qg Tryz.prog 301 [pr p,.one (.sh (rl q))] [.one (.int .i64 (Z9 p q))]:=w tt Tryz.func301 rfl [.c [] (Df hp hq)] rfl rfl trivial
theorem Qjq {l:List (List Int)} {q:Rat} (hl:l.length≤1000) (hp:∀ p∈l,Pb p) (hq:Qb q):Qg Tryz.prog 273 [.one (.sh [.row (Jh l)]),.agg (rl q)] [.one (.int .i64 (V1 l q:Nat))] :=
  w tt Tryz.func273 rfl [.c [] (Qvd (fid:=301) (l1:=rl q) (sg:=fun p=>Z9 p q) hl (fun p=>Gk p q) fun p h=>Qo9 (hp p h) hq)] rfl rfl trivial
theorem K7 {sg:List Int→Int} (hs:∀ p,-1≤sg p∧sg p≤1) (l:List (List Int)):V0 sg l≤l.length:=by
  have:=(Qc0 hs l l.length).1
  unfold Sr at this; rwa [List.take_length] at this
theorem I5 {l:List (List Int)} {lo hi:Rat} (hl:l.length≤1000) (hp:∀ p∈l,Pb p) (ql:Qb lo) (qh:Qb hi):Qg Tryz.prog 231 [.one (.sh [.row (Jh l)]),.agg (rl lo),.agg (rl hi)] [.one (.int .i64 (Xq l lo hi))]:=by
  have b1:V1 l lo≤l.length:=K7 (fun p=>Gk p lo) l
  have b2:V1 l hi≤l.length:=K7 (fun p=>Gk p hi) l
  have c1:=Ud qh.s31 ql.s31
  unfold Xq
  by_cases h:Zm hi lo<0
  · rw [if_pos h]
    exact w tt Tryz.func231 rfl [.c [] c1,.t (by simpa using h)] rfl rfl trivial
  · rw [if_neg h]
    exact w tt Tryz.func231 rfl [.c [] c1,.f (by simpa using h),.c [] (Qjq hl hp ql),.c [] (Qjq hl hp qh)] rfl rfl (by simp [Qa]; omega)
def zTm:List LV:=[.nils,.bool false,.nils,.bool false,.nils,.bool false,.nils,.bool false,.nils]
theorem Qnw {a b:Tm} (ha:Tb a) (hb:Tb b):Jz a b≤17179938816+200000000:=by
  have l1:=ha.p.l
  have l2:=hb.p.l
  have b1:=ha.lo.1
  have b2:=ha.hi.1
  have b3:=hb.lo.1
  have b4:=hb.hi.1
  have s1:Zc a.p≤16777216:=by have:=Ya ha.p.b a.p.length; rwa [List.take_length] at this
  have s2:Zc b.p≤16777216:=by have:=Ya hb.p.b b.p.length; rwa [List.take_length] at this
  have:4*(a.p.length+b.p.length)*(Zc a.p+Zc b.p+(a.p.length+b.p.length)+8)≤512*33554568:=Nat.mul_le_mul (by omega) (by omega)
  unfold Jz; omega
theorem Qwz {a b:Rat} (ha:Qb a) (hb:Qb b):Qs 2147483647 (If a b):=by
  have h1:Qt (a.num*(b.den:Int))≤33554432:=Nat.le_trans (Xa _ _) (by have:=ha.1; have:=hb.2; omega)
  have h2:Qt (b.num*(a.den:Int))≤33554432:=Nat.le_trans (Xa _ _) (by have:=hb.1; have:=ha.2; omega)
  have h3:Qt ((a.den:Int)*(b.den:Int))≤33554432:=Nat.le_trans (Xa _ _) (by have:=ha.2; have:=hb.2; omega)
  have h5:Qt (a.num*(b.den:Int)-b.num*(a.den:Int))≤33554433:=Nat.le_trans (Qbz _ _) (by omega)
  exact (Qs.divInt (s:=33554433) h5 (by omega) (by omega)).mono (by omega)
theorem Qa7 {a b:Tm} {r:Tm×Tm×Int} (ha:Tb a) (hb:Tb b) (h:Ir (Jz a b) a b=some r):Qg Tryz.prog 178 [.agg (ta a),.agg (ta b)] [.agg (ta r.1),.agg (ta r.2.1),.one (.int .i64 r.2.2)]:=by
  have hsb:=Qnw ha hb
  refine X4 Tryz.func178 rfl ?_
  refine go tt [.c [] (Qvc ha hb)] rfl trivial ?_
  obtain ⟨n,hn⟩:∃ n,n=Jz a b:=⟨_,rfl⟩
  rw [←hn] at h hsb ⊢
  refine sb [(10,.v (.one (.int .i64 0))),(9,.v (.one (.int .i64 (n:Int)))),(5,.v (.one (.ow 3 0))),(4,.v (.one (.ow 2 0))),(3,.v (.one (.ow 1 0))),(2,.v (.one (.ow 0 0)))] [.blk 67 (ta a),.blk 67 (ta b),.blk 67 zTm,.blk 67 zTm] rfl rfl ?_
  refine lp (S:=Nat×Tm×Tm) 4 (fun L1 s=>(10,.v (.one (.int .i64 (s.1:Int))))::L1) (fun s=>[.blk 67 (ta s.2.1),.blk 67 (ta s.2.2),.blk 67 zTm,.blk 67 zTm]) (fun s=>n-s.1) (fun s=>s.1≤n∧Tb s.2.1∧Tb s.2.2∧Ir (n-s.1) s.2.1 s.2.2=some r) (0,a,b) ⟨Nat.zero_le _,ha,hb,h⟩ rfl (fun _ _=>rfl) rfl fun ⟨i,u,v⟩ ⟨j1,j2,j3,j4⟩=>?_
  dsimp only at j1 j2 j3 j4 ⊢
  by_cases hi:i<n
  · obtain ⟨k,hk⟩:∃ k,n-i=k+1:=⟨n-i-1,by omega⟩
    have hk':n-(i+1)=k:=by omega
    rw [hk] at j4
    have c1:=Ud j2.hi.s31 j3.lo.s31
    have c2:=Ud j3.hi.s31 j2.lo.s31
    have pu:=Ku j2
    have pv:=Ku j3
    have hlt:decide ((i:Int)<(n:Int))=true:=by simp; omega
    simp only [Ir] at j4
    refine go tt [.t hlt] rfl trivial ?_
    refine ct 3 (S:=Unit) (fun _=>[(10,.v (.one (.int .i64 (i:Int)))),(9,.v (.one (.int .i64 (n:Int)))),(5,.v (.one (.ow 3 0))),(4,.v (.one (.ow 2 0))),(3,.v (.one (.ow 1 0))),(2,.v (.one (.ow 0 0)))]) (fun _=>[.blk 67 (ta u),.blk 67 (ta v),.blk 67 zTm,.blk 67 zTm]) (fun _=>¬V8 u v=true∧¬V8 v u=true) rfl ?_ ?_
    · have bA:V8 u v=(decide (Zm u.hi v.lo≤0) && !(u.point && v.point && decide (Zm u.hi v.lo=0))):=by
        unfold V8; cases u.point <;> cases v.point <;> simp
      have bB:V8 v u=(decide (Zm v.hi u.lo≤0) && !(u.point && v.point && decide (Zm v.hi u.lo=0))):=by
        unfold V8; cases u.point <;> cases v.point <;> simp
      obtain ⟨a0,A'⟩:∃ b,decide (Zm u.hi v.lo≤0)=b:=⟨_,rfl⟩
      obtain ⟨b0,B'⟩:∃ b,decide (Zm v.hi u.lo≤0)=b:=⟨_,rfl⟩
      obtain ⟨p0,P'⟩:∃ b,u.point=b:=⟨_,rfl⟩
      obtain ⟨q0,Q'⟩:∃ b,v.point=b:=⟨_,rfl⟩
      obtain ⟨x0,X'⟩:∃ b,decide (Zm u.hi v.lo=0)=b:=⟨_,rfl⟩
      obtain ⟨y0,Y'⟩:∃ b,decide (Zm v.hi u.lo=0)=b:=⟨_,rfl⟩
      rw [A',P',Q',X'] at bA
      rw [B',P',Q',Y'] at bB
      have r1:V8 u v=true→(u,v,-1)=r:=fun h=>by rw [if_pos h] at j4; injection j4
      have r2:¬V8 u v=true→V8 v u=true→(u,v,1)=r:=fun h h'=>by rw [if_neg h,if_pos h'] at j4; injection j4
      clear j4
      cases a0
      · cases b0
        · exact go tt [.c [] c1,.g 19 false A',.f rfl,.c [] c2,.g 45 false B',.f rfl] rfl trivial (rc () ⟨by rw [bA]; simp,by rw [bB]; simp⟩ rfl)
        · cases p0
          · obtain rfl:=r2 (by rw [bA]; simp) (by rw [bB]; rfl)
            exact en tt [.c [] c1,.g 19 false A',.f rfl,.c [] c2,.g 45 true B',.c [] pu,.g 48 false P',.g 52 false rfl,.t rfl] rfl rfl trivial
          · cases q0
            · obtain rfl:=r2 (by rw [bA]; simp) (by rw [bB]; rfl)
              exact en tt [.c [] c1,.g 19 false A',.f rfl,.c [] c2,.g 45 true B',.c [] pu,.g 48 true P',.c [] pv,.g 52 false Q',.t rfl] rfl rfl trivial
            · cases y0
              · obtain rfl:=r2 (by rw [bA]; simp) (by rw [bB]; rfl)
                exact en tt [.c [] c1,.g 19 false A',.f rfl,.c [] c2,.g 45 true B',.c [] pu,.g 48 true P',.c [] pv,.g 52 true Q',.c [] c2,.t (by simpa using Y')] rfl rfl trivial
              · exact go tt [.c [] c1,.g 19 false A',.f rfl,.c [] c2,.g 45 true B',.c [] pu,.g 48 true P',.c [] pv,.g 52 true Q',.c [] c2,.f (by simpa using Y')] rfl trivial (rc () ⟨by rw [bA]; simp,by rw [bB]; simp⟩ rfl)
      · cases p0
        · obtain rfl:=r1 (by rw [bA]; rfl)
          exact en tt [.c [] c1,.g 19 true A',.c [] pu,.g 22 false P',.g 26 false rfl,.t rfl] rfl rfl trivial
        · cases q0
          · obtain rfl:=r1 (by rw [bA]; rfl)
            exact en tt [.c [] c1,.g 19 true A',.c [] pu,.g 22 true P',.c [] pv,.g 26 false Q',.t rfl] rfl rfl trivial
          · cases x0
            · obtain rfl:=r1 (by rw [bA]; rfl)
              exact en tt [.c [] c1,.g 19 true A',.c [] pu,.g 22 true P',.c [] pv,.g 26 true Q',.c [] c1,.t (by simpa using X')] rfl rfl trivial
            · cases b0
              · exact go tt [.c [] c1,.g 19 true A',.c [] pu,.g 22 true P',.c [] pv,.g 26 true Q',.c [] c1,.f (by simpa using X'),.c [] c2,.g 45 false B',.f rfl] rfl trivial (rc () ⟨by rw [bA]; simp,by rw [bB]; simp⟩ rfl)
              · cases y0
                · obtain rfl:=r2 (by rw [bA]; simp) (by rw [bB]; rfl)
                  exact en tt [.c [] c1,.g 19 true A',.c [] pu,.g 22 true P',.c [] pv,.g 26 true Q',.c [] c1,.f (by simpa using X'),.c [] c2,.g 45 true B',.c [] pu,.g 48 true P',.c [] pv,.g 52 true Q',.c [] c2,.t (by simpa using Y')] rfl rfl trivial
                · exact go tt [.c [] c1,.g 19 true A',.c [] pu,.g 22 true P',.c [] pv,.g 26 true Q',.c [] c1,.f (by simpa using X'),.c [] c2,.g 45 true B',.c [] pu,.g 48 true P',.c [] pv,.g 52 true Q',.c [] c2,.f (by simpa using Y')] rfl trivial (rc () ⟨by rw [bA]; simp,by rw [bB]; simp⟩ rfl)
    · rintro _ ⟨n1,n2⟩
      rw [if_neg n1,if_neg n2] at j4
      have qr:∀ {x y:Rat},Qb x→Qb y→Qs 2147483647 (If x y):=fun h1 h2=>Qwz h1 h2
      have cc:=Ud (qr j2.hi j2.lo) (qr j3.hi j3.lo)
      by_cases D:0≤Zm (If u.hi u.lo) (If v.hi v.lo)
      · rw [if_pos D] at j4
        obtain ⟨x,x1,x2⟩:=Option.bind_eq_some_iff.1 j4
        refine go tt [.c [] (Qbc j2.hi j2.lo),.c [] (Qbc j3.hi j3.lo),.c [] cc,.t (by simpa using D),.c [] (Qg5 j2 x1)] rfl (by simp [Qa]; omega) ?_
        exact rd (i+1,x,v) (by dsimp only; omega) ⟨hi,Qcw j2 x1,j3,by dsimp only; rw [hk']; exact x2⟩ rfl
      · rw [if_neg D] at j4
        obtain ⟨x,x1,x2⟩:=Option.bind_eq_some_iff.1 j4
        refine go tt [.c [] (Qbc j2.hi j2.lo),.c [] (Qbc j3.hi j3.lo),.c [] cc,.f (by simpa using D),.c [] (Qg5 j3 x1)] rfl (by simp [Qa]; omega) ?_
        exact rd (i+1,u,x) (by dsimp only; omega) ⟨hi,j2,Qcw j3 x1,by dsimp only; rw [hk']; exact x2⟩ rfl
  · obtain rfl:i=n:=by omega
    rw [Nat.sub_self] at j4
    simp only [Ir] at j4
    injection j4 with j4; subst j4
    exact en tt [.f (by simp)] rfl rfl trivial
end Orr

namespace Orr
open Go Go.Proofs
set_option maxRecDepth 10000
theorem Qvb {a b:Rat} (ha:Qb a) (hb:Qb b):Qg Tryz.prog 82 [.agg (rl a),.one (.row [rl b])] [.agg (rl (if 0<Zm b a then b else a))]:=by
  have ca:=Dv (Qe a.num) (Qe (a.den:Int)) ha.s32.1 ha.s32.2
  have cb:=Dv (Qe b.num) (Qe (b.den:Int)) hb.s32.1 hb.s32.2
  rw [M7] at ca cb
  have cc:=Ud hb.s31 ha.s31
  refine X4 Tryz.func82 rfl ?_
  refine go tt [.c [] ca] rfl trivial ?_
  refine lp (S:=Nat) 3 (fun L1 i=>(12,.v (.one (.int .i64 (i:Int))))::L1) (fun i=>[.blk 41 (rl a),.blk 41 [.bool false,.nils,.bool false,.nils],.blk 41 (rl (if i=0 then a else if 0<Zm b a then b else a))]) (fun i=>1-i) (fun i=>i≤1) 0 (Nat.zero_le _) rfl (fun _ _=>rfl) rfl fun i hi=>?_
  rcases (show i=0∨i=1 by omega) with rfl | rfl
  · by_cases h:0<Zm b a
    · refine go tt [.t rfl,.x (i:=0) (xs:=rl b) rfl,.c [] cc,.t (by simpa using h),.c [] cb] rfl (by simp [Qa]) ?_
      exact rd 1 (by omega) (by omega) (by rw [if_pos h]; rfl)
    · refine go tt [.t rfl,.x (i:=0) (xs:=rl b) rfl,.c [] cc,.f (by simpa using h)] rfl (by simp [Qa]) ?_
      exact rd 1 (by omega) (by omega) (by rw [if_neg h]; rfl)
  · exact en tt [.f rfl] rfl rfl trivial
theorem Qa1 {a b:Tm} {c:Int} (ha:Tb a) (hb:Tb b) (h:Ek a b=some c):Qg Tryz.prog 125 [.agg (ta a),.agg (ta b)] [.one (.int .i64 c)]:=by
  have ca:=Dw ha
  have cb:=Dw hb
  have pa:=Ku ha
  have pb:=Ku hb
  unfold Ek at h
  by_cases h1:a.point=true
  · rw [if_pos h1] at h
    injection h with h; subst h
    have:=Qvg b a.lo
    exact w tt Tryz.func125 rfl [.c [] ca,.c [] cb,.c [] pa,.t h1,.c [] (Lz hb ha.lo)] rfl rfl (by simp [Qa]; omega)
  rw [if_neg h1] at h
  have h1:a.point=false:=by simpa using h1
  by_cases h2:b.point=true
  · rw [if_pos h2] at h
    injection h with h; subst h
    exact w tt Tryz.func125 rfl [.c [] ca,.c [] cb,.c [] pa,.f h1,.c [] pb,.t h2,.c [] (Lz ha hb.lo)] rfl rfl trivial
  rw [if_neg h2] at h
  have h2:b.point=false:=by simpa using h2
  obtain ⟨lo,hlo⟩:∃ lo,lo=if 0<Zm b.lo a.lo then b.lo else a.lo:=⟨_,rfl⟩
  obtain ⟨hi,hhi⟩:∃ hi,hi=if Zm b.hi a.hi<0 then b.hi else a.hi:=⟨_,rfl⟩
  have h:(if Zm lo hi<0 then (Qcg a.p b.p).bind fun g=>if 1<g.length∧Mg g lo hi=true then some 0 else (Ir (Jz a b) a b).bind fun r=>some r.2.2 else (Ir (Jz a b) a b).bind fun r=>some r.2.2)=some c:=by rw [hlo,hhi]; exact h
  have qlo:Qb lo:=by rw [hlo]; split; exact hb.lo; exact ha.lo
  have qhi:Qb hi:=by rw [hhi]; split; exact hb.hi; exact ha.hi
  have cm:=Qvb ha.lo hb.lo
  rw [←hlo] at cm
  have cc1:=Ud hb.hi.s31 ha.hi.s31
  have cc2:=Ud qlo.s31 qhi.s31
  refine X4 Tryz.func125 rfl ?_
  refine go tt [.c [] ca,.c [] cb,.c [] pa,.f h1,.c [] pb,.f h2,.c [] cm] rfl trivial ?_
  refine ct 2 (S:=Unit) (fun _=>[(6,.v (.one (.ow 3 0))),(5,.v (.one (.ow 2 0))),(4,.v (.one (.int .i64 0))),(3,.v (.one (.ow 1 0))),(2,.v (.one (.ow 0 0)))]) (fun _=>[.blk 67 (ta a),.blk 67 (ta b),.blk 41 (rl lo),.blk 41 (rl hi)]) (fun _=>True) rfl ?_ ?_
  · by_cases D:Zm b.hi a.hi<0
    · rw [if_pos D] at hhi; subst hhi
      exact go tt [.c [] cc1,.t (by simpa using D)] rfl trivial (rc () trivial rfl)
    · rw [if_neg D] at hhi; subst hhi
      exact go tt [.c [] cc1,.f (by simpa using D)] rfl trivial (rc () trivial rfl)
  · rintro _ _
    by_cases D:Zm lo hi<0
    · rw [if_pos D] at h
      obtain ⟨g,g1,h⟩:=Option.bind_eq_some_iff.1 h
      have cg:=Qox ha.p hb.p g1
      have pg:=Qr7 ha.p hb.p g1
      have ch:=Qpg pg qlo qhi
      by_cases G:1<g.length
      · by_cases R:Mg g lo hi=true
        · rw [if_pos ⟨G,R⟩] at h
          injection h with h; subst h
          exact en tt [.c [] cc2,.t (by simpa using D),.c [] cg,.c [] (Y7 g),.g 58 true (by simp; omega),.c [] ch,.t R] rfl rfl trivial
        · rw [if_neg fun h=>R h.2] at h
          obtain ⟨r,r1,h⟩:=Option.bind_eq_some_iff.1 h
          injection h with h; subst h
          exact en tt [.c [] cc2,.t (by simpa using D),.c [] cg,.c [] (Y7 g),.g 58 true (by simp; omega),.c [] ch,.f (by simpa using R),.c [] (Qa7 ha hb r1)] rfl rfl trivial
      · rw [if_neg fun h=>G h.1] at h
        obtain ⟨r,r1,h⟩:=Option.bind_eq_some_iff.1 h
        injection h with h; subst h
        exact en tt [.c [] cc2,.t (by simpa using D),.c [] cg,.c [] (Y7 g),.g 58 false (by simp; omega),.f rfl,.c [] (Qa7 ha hb r1)] rfl rfl trivial
    · rw [if_neg D] at h
      obtain ⟨r,r1,h⟩:=Option.bind_eq_some_iff.1 h
      injection h with h; subst h
      exact en tt [.c [] cc2,.f (by simpa using D),.c [] (Qa7 ha hb r1)] rfl rfl trivial
theorem Quq {p:List Int} {a:Tm} {s:Int} (hp:Pb p) (ha:Tb a) (h:Qak p a=some s):Qg Tryz.prog 181 [pr p,.agg (ta a)] [.one (.int .i64 s)]:=by
  have ca:=Dw ha
  have pa:=Ku ha
  have cn:=Zx hp.t hp.ln hp.bd
  unfold Qak at h
  by_cases h0:p.length=0
  · rw [if_pos h0] at h
    injection h with h; subst h
    exact w tt Tryz.func181 rfl [.c [] cn,.c [] ca,.t (by simp; exact List.eq_nil_of_length_eq_zero h0)] rfl rfl trivial
  rw [if_neg h0] at h
  have h0:p≠[]:=fun e=>h0 (by rw [e]; rfl)
  by_cases h1:a.point=true
  · rw [if_pos h1] at h
    injection h with h; subst h
    exact w tt Tryz.func181 rfl [.c [] cn,.c [] ca,.f (by simpa using h0),.c [] pa,.t h1,.c [] (Df hp ha.lo)] rfl rfl trivial
  rw [if_neg h1] at h
  have h1:a.point=false:=by simpa using h1
  obtain ⟨g,g1,h⟩:=Option.bind_eq_some_iff.1 h
  have cg:=Qox hp ha.p g1
  have pg:=Qr7 hp ha.p g1
  have ch:=Qpg pg ha.lo ha.hi
  by_cases G:1<g.length∧Mg g a.lo a.hi=true
  · rw [if_pos G] at h
    injection h with h; subst h
    exact w tt Tryz.func181 rfl [.c [] cn,.c [] ca,.f (by simpa using h0),.c [] pa,.f h1,.c [] cg,.c [] (Y7 g),.g 29 true (by simp; omega),.c [] ch,.t G.2] rfl rfl trivial
  rw [if_neg G] at h
  obtain ⟨c,c1,h⟩:=Option.bind_eq_some_iff.1 h
  obtain ⟨u,u1,h⟩:=Option.bind_eq_some_iff.1 h
  injection h with h; subst h
  obtain ⟨cl,call⟩:=chain_ok hp c1
  obtain ⟨n,hn⟩:∃ n,n=64+2*(Qt a.lo.num+Qt a.hi.num)+4*(a.p.length+p.length)*(Zc a.p+Zc p+(a.p.length+p.length)+8):=⟨_,rfl⟩
  have cst:=Qpr ha hp
  rw [show Qix p a=n from hn.symm] at cst
  rw [←hn] at u1
  have hnb:n≤17179938816+200000000:=by
    have l1:=ha.p.l
    have l2:=hp.l
    have b1:=ha.lo.1
    have b2:=ha.hi.1
    have s1:Zc a.p≤16777216:=by have:=Ya ha.p.b a.p.length; rwa [List.take_length] at this
    have s2:Zc p≤16777216:=by have:=Ya hp.b p.length; rwa [List.take_length] at this
    have:4*(a.p.length+p.length)*(Zc a.p+Zc p+(a.p.length+p.length)+8)≤512*33554568:=Nat.mul_le_mul (by omega) (by omega)
    omega
  refine X4 Tryz.func181 rfl ?_
  refine go tt [.c [] cn,.c [] ca,.f (by simpa using h0),.c [] pa,.f h1,.c [] cg] rfl trivial ?_
  refine ct 2 (S:=Unit) (fun _=>[(3,.v (.one (.ow 0 0))),(0,.v (pr p))]) (fun _=>[.blk 67 (ta a)]) (fun _=>True) rfl ?_ ?_
  · by_cases G1:1<g.length
    · exact go tt [.c [] (Y7 g),.g 29 true (by simp; omega),.c [] ch,.f (by simpa using fun h=>G ⟨G1,h⟩)] rfl trivial (rc () trivial rfl)
    · exact go tt [.c [] (Y7 g),.g 29 false (by simp; omega),.f rfl] rfl trivial (rc () trivial rfl)
  rintro _ _
  refine go tt [.c [] (Qo4 hp c1),.c [] cst] rfl trivial ?_
  refine lp (S:=Nat×Tm) 1 (fun L1 s=>(46,.v (.one (.int .i64 (s.1:Int))))::L1) (fun s=>[.blk 67 (ta s.2)]) (fun s=>n-s.1) (fun s=>s.1≤n∧Tb s.2∧sgF c (n-s.1) s.2=some u) (0,a) ⟨Nat.zero_le _,ha,u1⟩ rfl (fun _ _=>rfl) rfl fun ⟨i,x⟩ ⟨j1,j2,j3⟩=>?_
  dsimp only at j1 j2 j3 ⊢
  by_cases hi:i<n
  · obtain ⟨k,hk⟩:∃ k,n-i=k+1:=⟨n-i-1,by omega⟩
    have hk':n-(i+1)=k:=by omega
    rw [hk] at j3
    simp only [sgF] at j3
    have px:=Ku j2
    have cb:=I5 (by omega) call j2.lo j2.hi
    have hlt:decide ((i:Int)<(n:Int))=true:=by simp; omega
    by_cases X:x.point=true
    · rw [if_pos (.inl X)] at j3
      injection j3 with j3; subst j3
      exact en tt [.t hlt,.c [] px,.g 50 true X,.t rfl,.c [] (Df hp j2.hi)] rfl rfl trivial
    · have X':x.point=false:=by simpa using X
      by_cases Z:Xq c x.lo x.hi=0
      · rw [if_pos (.inr Z)] at j3
        injection j3 with j3; subst j3
        exact en tt [.t hlt,.c [] px,.g 50 false X',.c [] cb,.t (by simpa using Z),.c [] (Df hp j2.hi)] rfl rfl trivial
      · rw [if_neg (by rintro (h | h); exact X h; exact Z h)] at j3
        obtain ⟨v,v1,v2⟩:=Option.bind_eq_some_iff.1 j3
        refine go tt [.t hlt,.c [] px,.g 50 false X',.c [] cb,.f (by simpa using Z),.c [] (Qg5 j2 v1)] rfl (by simp [Qa]; omega) ?_
        exact rd (i+1,v) (by dsimp only; omega) ⟨hi,Qcw j2 v1,by dsimp only; rw [hk']; exact v2⟩ rfl
  · obtain rfl:i=n:=by omega
    rw [Nat.sub_self] at j3
    simp only [sgF] at j3
    injection j3 with j3; subst j3
    exact en tt [.f (by simp),.c [] (Df hp j2.hi)] rfl rfl trivial
abbrev tas (l:List Tm):LV:=.row (l.map fun t=>ta t)
theorem Lq {l:List Tm} {i:Nat} {t:Tm} (h:l[i]? = some t):(l.map fun t=>ta t)[i]? = some (ta t):=J0 h
def zTr:List LV:=[.row [],.bool false,.row [],.bool false,.row [],.bool false,.row [],.bool false,.row []]
theorem Qou:Qg Tryz.prog 136 [.one (.row [])] [.agg zTr,.one (.bool false)]:=w tt Tryz.func136 rfl [.t rfl] rfl rfl trivial
theorem H6 {b:Tm} {l:List Tm} {m:Tm} (hb:Tb b) (hl:∀ t∈l,Tb t) (hn:l.length≤1000000) (h:He b l=some m):Qg Tryz.prog 136 [.one (tas (b::l))] [.agg (ta m),.one (.bool true)]:=by
  refine X4 Tryz.func136 rfl ?_
  refine go tt [.f (by simp; omega),.x (i:=0) (xs:=ta b) rfl,.i 1] rfl (by simp [Qa]; exact ⟨rfl,fun _ _=>rfl⟩) ?_
  refine lp (S:=Nat×Tm) 2 (fun L1 s=>(17,.v (.one (.int .i64 (s.1:Int))))::L1) (fun s=>[.blk 67 zTm,.blk 67 (ta s.2)]) (fun s=>l.length-s.1) (fun s=>s.1≤l.length∧Tb s.2∧He s.2 (l.drop s.1)=some m) (0,b) ⟨Nat.zero_le _,hb,h⟩ rfl (fun _ _=>rfl) rfl fun ⟨i,x⟩ ⟨j1,j2,j3⟩=>?_
  dsimp only at j1 j2 j3 ⊢
  by_cases hi:i<l.length
  · obtain ⟨a,ha⟩:∃ a,l[i]? = some a:=⟨_,List.getElem?_eq_getElem hi⟩
    have hdr:l.drop i=a::l.drop (i+1):=by
      rw [List.drop_eq_getElem_cons hi]; congr 1
      have:=List.getElem?_eq_getElem hi; rw [ha] at this; injection this with this; exact this.symm
    rw [hdr] at j3
    simp only [He] at j3
    obtain ⟨c,c1,j3⟩:=Option.bind_eq_some_iff.1 j3
    have ta':=hl a (List.mem_of_getElem? ha)
    by_cases hc:c<0
    · rw [if_pos hc] at j3
      refine go tt [.t (by simp; omega),.x (Lq ha),.c [] (Qa1 ta' j2 c1),.t (by simpa using hc)] rfl (by simp [Qa]; omega) ?_
      exact rd (i+1,a) (by dsimp only; omega) ⟨hi,ta',j3⟩ rfl
    · rw [if_neg hc] at j3
      refine go tt [.t (by simp; omega),.x (Lq ha),.c [] (Qa1 ta' j2 c1),.f (by simpa using hc)] rfl (by simp [Qa]; omega) ?_
      exact rd (i+1,x) (by dsimp only; omega) ⟨hi,j2,j3⟩ rfl
  · obtain rfl:i=l.length:=by omega
    rw [List.drop_length] at j3
    simp only [He] at j3
    injection j3 with j3; subst j3
    exact en tt [.f (by simp),.c [] (Qps j2)] rfl rfl trivial
end Orr

namespace Orq
def Ql (x:Rat):Rat:=if x<0 then -x else x
theorem Zw (x:Rat):0≤Ql x:=by unfold Ql; split <;> grind
theorem Yb {x b:Rat}:Ql x≤b↔-b≤x∧x≤b:=by unfold Ql; split <;> constructor <;> grind
theorem Qcl {x b:Rat}:Ql x<b↔-b<x∧x<b:=by unfold Ql; split <;> constructor <;> grind
theorem X8 (x y:Rat):Ql (x+y)≤Ql x+Ql y:=by unfold Ql; split <;> split <;> split <;> grind
theorem Ql0 (x y:Rat):Ql (x-y)=Ql (y-x):=by unfold Ql; split <;> split <;> grind
theorem Wx (x:Rat):Ql (-x)=Ql x:=by unfold Ql; split <;> split <;> grind
theorem Z5:Ql 0=0:=by decide
theorem Vu {x:Rat} (h:x≠0):0<Ql x:=by unfold Ql; split <;> grind
theorem Qwy {x:Rat} (h:Ql x=0):x=0:=by unfold Ql at h; split at h <;> grind
theorem Y3 {x y:Rat} (h1:0≤x) (h2:0≤y):0≤x*y:=Rat.mul_nonneg h1 h2
theorem Fi {x y:Rat} (h1:0<x) (h2:0<y):0<x*y:=Rat.mul_pos h1 h2
theorem Vm {a b c d:Rat} (h0:0≤a) (h1:a≤b) (h2:0≤c) (h3:c≤d):a*c≤b*d:=by
  have e1:=Rat.mul_le_mul_of_nonneg_right h1 h2
  have e2:=Rat.mul_le_mul_of_nonneg_left h3 (Rat.le_trans h0 h1)
  exact Rat.le_trans e1 e2
theorem U8 (x y:Rat):Ql (x*y)=Ql x*Ql y:=by
  unfold Ql
  by_cases h1:x<0 <;> by_cases h2:y<0
  · have:=Fi (x:=-x) (y:=-y) (by grind) (by grind); simp only [h1,h2,if_true]; split <;> grind
  · have:=Y3 (x:=-x) (y:=y) (by grind) (by grind); simp only [h1,h2,if_true,if_false]; split <;> grind
  · have:=Y3 (x:=x) (y:=-y) (by grind) (by grind); simp only [h1,h2,if_true,if_false]; split <;> grind
  · have:=Y3 (x:=x) (y:=y) (by grind) (by grind); simp only [h1,h2,if_false]; split <;> grind
theorem Zf {x y a b:Rat} (h1:Ql x≤a) (h2:Ql y≤b):Ql (x*y)≤a*b:=by
  rw [U8]; exact Vm (Zw x) h1 (Zw y) h2
theorem Uh {x y:Rat} (h1:0<x) (h2:0<y):0<x / y:=by rw [Rat.div_def]; exact Fi h1 (Rat.inv_pos.2 h2)
theorem Zg {x y:Rat} (h2:0<y):x / y*y=x:=Rat.div_mul_cancel (by grind)
theorem Zi {b d:Rat} (hb:0≤b) (hd:0<d):∃ e:Rat,0<e∧e≤1∧e*b<d:=by
  have h1:0<d / (b+1):=Uh hd (by grind)
  have h2:d / (b+1)*(b+1)=d:=Zg (by grind)
  rcases Rat.le_total (a:=d / (b+1)) (b:=1) with h | h
  · exact ⟨d / (b+1),h1,h,by
     have:d / (b+1)*(b+1)=d / (b+1)*b+d / (b+1):=by grind
     grind⟩
  · refine ⟨1,by decide,by decide,?_⟩
    have:1*(b+1)≤d / (b+1)*(b+1):=Rat.mul_le_mul_of_nonneg_right h (by grind)
    grind
def ev:List Rat→Rat→Rat
  | [],_=>0
  | a::p,t=>a+t*ev p t
def dv:List Rat→Rat→Rat
  | [],_=>0
  | _::p,t=>ev p t+t*dv p t
def dq:List Rat→Rat→Rat→Rat
  | [],_,_=>0
  | _::p,x,y=>ev p x+y*dq p x y
def dd:List Rat→Rat→Rat→Rat
  | [],_,_=>0
  | _::p,x,y=>dq p x y+y*dd p x y
theorem Og (x y:Rat):∀ p,ev p x-ev p y=(x-y)*dq p x y
  | []=>by simp only [ev,dq]; grind
  | a::p=>by have:=Og x y p; simp only [ev,dq]; grind
theorem Qbj (y:Rat):∀ p,dq p y y=dv p y
  | []=>rfl
  | a::p=>by simp only [dq,dv,Qbj y p]
theorem Qye (x y:Rat):∀ p,dq p x y-dv p y=(x-y)*dd p x y
  | []=>by simp only [dv,dq,dd]; grind
  |
   a::p=>by
   have h1:=Qye x y p
   have h2:=Og x y p
   simp only [dv,dq,dd]; grind
theorem Qyh (p:List Rat) (x y:Rat):ev p x-ev p y=(x-y)*dv p y+(x-y)*(x-y)*dd p x y:=by
  have h1:=Og x y p
  have h2:=Qye x y p
  grind
def evB (R:Rat):List Rat→Rat
  | []=>0
  | a::p=>Ql a+R*evB R p
def Iu (R:Rat):List Rat→Rat
  | []=>0
  | _::p=>evB R p+R*Iu R p
def ddB (R:Rat):List Rat→Rat
  | []=>0
  | _::p=>Iu R p+R*ddB R p
theorem Rh {R:Rat} (hR:0≤R):∀ p,0≤evB R p
  | []=>by simp only [evB]; grind
  | a::p=>by have:=Y3 hR (Rh hR p); have:=Zw a; simp only [evB]; grind
theorem Ym {R:Rat} (hR:0≤R):∀ p,0≤Iu R p
  | []=>by simp only [Iu]; grind
  | a::p=>by have:=Y3 hR (Ym hR p); have:=Rh hR p; simp only [Iu]; grind
theorem Er {R:Rat} (hR:0≤R):∀ p,0≤ddB R p
  | []=>by simp only [ddB]; grind
  | a::p=>by have:=Y3 hR (Er hR p); have:=Ym hR p; simp only [ddB]; grind
theorem Cx {R x:Rat} (hx:Ql x≤R):∀ p,Ql (ev p x)≤evB R p
  | []=>by simp only [ev,evB,Z5]; grind
  |
   a::p=>by
   have h1:=X8 a (x*ev p x)
   have h2:=Zf hx (Cx hx p)
   simp only [ev,evB]; grind
theorem Qd1 {R x y:Rat} (hx:Ql x≤R) (hy:Ql y≤R):∀ p,Ql (dq p x y)≤Iu R p
  | []=>by simp only [dq,Iu,Z5]; grind
  |
   a::p=>by
   have h1:=X8 (ev p x) (y*dq p x y)
   have h2:=Zf hy (Qd1 hx hy p)
   have h3:=Cx hx p
   simp only [dq,Iu]; grind
theorem Qp7 {R x y:Rat} (hx:Ql x≤R) (hy:Ql y≤R):∀ p,Ql (dd p x y)≤ddB R p
  | []=>by simp only [dd,ddB,Z5]; grind
  |
   a::p=>by
   have h1:=X8 (dq p x y) (y*dd p x y)
   have h2:=Zf hy (Qp7 hx hy p)
   have h3:=Qd1 hx hy p
   simp only [dd,ddB]; grind
theorem Qz0 {R x y:Rat} (hx:Ql x≤R) (hy:Ql y≤R) (p:List Rat):Ql (ev p x-ev p y)≤Ql (x-y)*Iu R p:=by
  rw [Og,U8]; exact Vm (Zw _) Rat.le_refl (Zw _) (Qd1 hx hy p)
def X9:List Rat→List Rat→List Rat
  | [],q=>q
  | a::p,[]=>a::p
  | a::p,b::q=>(a+b)::X9 p q
def Kr (c:Rat) (p:List Rat):List Rat:=p.map (c * ·)
def Zb:List Rat→List Rat→List Rat
  | [],_=>[]
  | a::p,q=>X9 (Kr a q) (0::Zb p q)
def Y4:List Rat→List Rat
  | []=>[]
  | _::p=>X9 p (0::Y4 p)
theorem Za (t:Rat):∀ p q,ev (X9 p q) t=ev p t+ev q t
  | [],q=>by simp only [X9,ev]; grind
  | a::p,[]=>by simp only [X9,ev]; grind
  | a::p,b::q=>by have:=Za t p q; simp only [X9,ev]; grind
theorem Q5 (c t:Rat):∀ p,ev (Kr c p) t=c*ev p t
  | []=>by simp only [Kr,List.map_nil,ev]; grind
  | a::p=>by have:=Q5 c t p; simp only [Kr,List.map_cons,ev] at *; grind
theorem Qj (t:Rat):∀ p q,ev (Zb p q) t=ev p t*ev q t
  | [],q=>by simp only [Zb,ev]; grind
  | a::p,q=>by have:=Qj t p q; simp only [Zb,Za,Q5,ev]; grind
theorem Xs (t:Rat):∀ p,ev (Y4 p) t=dv p t
  | []=>rfl
  | a::p=>by have:=Xs t p; simp only [Y4,Za,ev,dv]; grind
theorem Qbl (t:Rat):∀ p q,dv (X9 p q) t=dv p t+dv q t
  | [],q=>by simp only [X9,dv]; grind
  | a::p,[]=>by simp only [X9,dv]; grind
  | a::p,b::q=>by have:=Qbl t p q; have:=Za t p q; simp only [X9,dv]; grind
theorem Ba (c t:Rat):∀ p,dv (Kr c p) t=c*dv p t
  | []=>by simp only [Kr,List.map_nil,dv]; grind
  | a::p=>by have:=Ba c t p; have:=Q5 c t p; simp only [Kr,List.map_cons,dv] at *; grind
theorem Qbm (t:Rat):∀ p q,dv (Zb p q) t=dv p t*ev q t+ev p t*dv q t
  | [],q=>by simp only [Zb,dv,ev]; grind
  | a::p,q=>by have:=Qbm t p q; have:=Qj t p q; simp only [Zb,Qbl,Ba,dv,ev]; grind
theorem Qkj:∀ {p:List Rat},(∀ x∈p,x=0)→∀ t,ev p t=0
  | [],_,t=>rfl
  |
   a::p,h,t=>by
   have h1:=Qkj (p:=p) (fun x hx=>h x (List.mem_cons_of_mem _ hx)) t
   have h2:=h a (List.mem_cons_self ..)
   simp only [ev,h1,h2]; grind
theorem Qkf:∀ {p:List Rat},(∀ x∈p,x=0)→∀ t,dv p t=0
  | [],_,t=>rfl
  |
   a::p,h,t=>by
   have h0:=fun x hx=>h x (List.mem_cons_of_mem _ hx)
   have h1:=Qkj (p:=p) h0 t
   have h2:=Qkf (p:=p) h0 t
   simp only [dv,h1,h2]; grind
theorem P3:∀ {p:List Rat},(∀ t,0<t→t<1→ev p t=0)→∀ x∈p,x=0
  | [],_=>fun x hx=>by cases hx
  |
   a::p,h=>by
   have ha:a=0:=by
     rcases Classical.em (a=0) with h0 | h0
     · exact h0
     · obtain ⟨e,e1,e2,e3⟩:=Zi (Rh (R:=1) (by decide) p) (Vu h0)
       obtain ⟨f,f1,f2,f3⟩:=Zi (b:=1) (d:=e) (by decide) e1
       have h1:=h f f1 (by grind)
       have h2:=Cx (R:=1) (x:=f) (by unfold Ql; split <;> grind) p
       have h3:=U8 f (ev p f)
       have h4:Ql f=f:=by unfold Ql; split <;> grind
       have h5:a=-(f*ev p f):=by simp only [ev] at h1; grind
       have h6:Ql a=f*Ql (ev p f):=by rw [h5,Wx,h3,h4]
       have h7:f*Ql (ev p f)≤e*evB 1 p:=Vm (Rat.le_of_lt f1) (by grind) (Zw _) h2
       grind
   intro x hx
   rcases List.mem_cons.1 hx with rfl | hx
   · exact ha
   · refine P3 (p:=p) (fun t h1 h2=>?_) x hx
     have:=h t h1 h2
     simp only [ev,ha] at this
     have h3:t*ev p t=0:=by grind
     rcases Rat.mul_eq_zero.1 h3 with h4 | h4
     · grind
     · exact h4
theorem Qqf {p q:List Rat} (h:∀ t,ev p t=ev q t) (t:Rat):dv p t=dv q t:=by
  have h1:=Qkf (p:=X9 p (Kr (-1) q)) (P3 fun t _ _=>by rw [Za,Q5,h t]; grind) t
  rw [Qbl,Ba] at h1; grind
end Orq

namespace Orq
def Qk (x:Rat):Int:=if x<0 then -1 else if 0<x then 1 else 0
theorem Q0 {x:Rat}:Qk x=0↔x=0:=by
  unfold Qk; constructor
  · intro h; split at h <;> (try split at h) <;> grind
  · intro h; subst h; rfl
theorem Z6 {x:Rat}:Qk x=1↔0<x:=by
  unfold Qk; constructor
  · intro h; split at h <;> (try split at h) <;> grind
  · intro h; rw [if_neg (by grind),if_pos h]
theorem Ji {x:Rat}:Qk x=-1↔x<0:=by
  unfold Qk; constructor
  · intro h; split at h <;> (try split at h) <;> grind
  · intro h; rw [if_pos h]
theorem Qz (x:Rat):Qk x=-1∧x<0∨Qk x=0∧x=0∨Qk x=1∧0<x:=by
  rcases Rat.le_total (a:=x) (b:=0) with h | h
  · rcases Classical.em (x=0) with h0 | h0
    · exact .inr (.inl ⟨Q0.2 h0,h0⟩)
    · exact .inl ⟨Ji.2 (by grind),by grind⟩
  · rcases Classical.em (x=0) with h0 | h0
    · exact .inr (.inl ⟨Q0.2 h0,h0⟩)
    · exact .inr (.inr ⟨Z6.2 (by grind),by grind⟩)
theorem Ja (x y:Rat):Qk (x*y)=Qk x*Qk y:=by
  rcases Qz x with ⟨e1,h1⟩ | ⟨e1,h1⟩ | ⟨e1,h1⟩ <;> rcases Qz y with ⟨e2,h2⟩ | ⟨e2,h2⟩ | ⟨e2,h2⟩ <;> rw [e1,e2]
  · have:=Fi (x:=-x) (y:=-y) (by grind) (by grind); exact Z6.2 (by grind)
  · subst h2; exact Q0.2 (by grind)
  · have:=Fi (x:=-x) (y:=y) (by grind) (by grind); exact Ji.2 (by grind)
  · subst h1; exact Q0.2 (by grind)
  · subst h1; exact Q0.2 (by grind)
  · subst h1; exact Q0.2 (by grind)
  · have:=Fi (x:=x) (y:=-y) (by grind) (by grind); exact Ji.2 (by grind)
  · subst h2; exact Q0.2 (by grind)
  · exact Z6.2 (Fi h1 h2)
theorem Ju {a b d:Rat} (h1:d≤Ql a) (h2:Ql (b-a)<d):Qk b=Qk a∧Qk a≠0:=by
  rw [Qcl] at h2
  rcases Qz a with ⟨e,h⟩ | ⟨e,h⟩ | ⟨e,h⟩
  · rw [e,Ji]; unfold Ql at h1; rw [if_pos h] at h1; exact ⟨by grind,by decide⟩
  · subst h; rw [Z5] at h1; grind
  · rw [e,Z6]; unfold Ql at h1; rw [if_neg (by grind)] at h1; exact ⟨by grind,by decide⟩
def tc (x:Rat):Int→List (List Rat)→Nat
  | _,[]=>0
  | s,p::l=>if Qk (ev p x)=0 then tc x s l else (if s=-(Qk (ev p x)) then 1 else 0)+tc x (Qk (ev p x)) l
inductive SCl:List Rat→List Rat→List (List Rat)→Prop
  | base {f g:List Rat} {c:Rat} (hc:c≠0) (hg:∀ t,ev g t=c):SCl f g []
  | step {f g h:List Rat} {l:List (List Rat)} {a b:Rat} {q:List Rat} (ha:0<a) (hb:0<b) (he:∀ t,a*ev f t=ev q t*ev g t-b*ev h t) (hl:SCl g h l):SCl f g (h::l)
theorem Qtr {x:Rat} {s:Int} {g h:List Rat} {l:List (List Rat)} (hh:Qk (ev h x)=-s) (hs:s≠0):tc x s (g::h::l)=1+tc x (-s) l:=by
  have h3:Qk (ev h x)≠0:=by omega
  have hv:s=1∨s=-1:=by rcases Qz (ev h x) with ⟨e,_⟩ | ⟨e,_⟩ | ⟨e,_⟩ <;> omega
  simp only [tc,if_neg h3,hh]
  rcases Qz (ev g x) with ⟨e,_⟩ | ⟨e,_⟩ | ⟨e,_⟩ <;> rw [e] <;> rcases hv with rfl | rfl <;> simp
theorem Nc {x:Rat} {s:Int} {p:List Rat} {l:List (List Rat)} (h:Qk (ev p x)≠0):tc x s (p::l)=(if s=-(Qk (ev p x)) then 1 else 0)+tc x (Qk (ev p x)) l:=by rw [tc,if_neg h]
theorem J7 {R x y e d:Rat} {p:List Rat} (hx:Ql x≤R) (hy:Ql y≤R) (hR:0≤R) (h:Ql (y-x)≤e) (hd:e*Iu R p<d):Ql (ev p y-ev p x)<d:=by
  have h1:=Qz0 hy hx p
  have h2:=Rat.mul_le_mul_of_nonneg_right h (Ym hR p)
  grind
theorem O4 {a x y:Rat} (ha:0<a) (h:a*x<a*y):x<y:=by
  rcases Rat.le_total (a:=y) (b:=x) with h' | h'
  · have:=Rat.mul_le_mul_of_nonneg_left h' (Rat.le_of_lt ha); grind
  · rcases Classical.em (x=y) with e | e
    · subst e; grind
    · grind
theorem Q07 {a b d d' B f g h q:Rat} (ha:0<a) (hb:0<b) (dp:0<d) (h7:B*d+a*d<b*d') (hq:Ql q≤B) (hg:Ql g<d) (hh:d'≤Ql h) (he:a*f=q*g-b*h) (hd':0<d'):Qk h=-Qk f∧d≤Ql f:=by
  have h4:=Zf hq (Rat.le_of_lt hg)
  rw [Yb] at h4
  have had:=Fi ha dp
  have h8:=Rat.mul_le_mul_of_nonneg_left hh (Rat.le_of_lt hb)
  rcases Qz h with ⟨s,p⟩ | ⟨s,p⟩ | ⟨s,p⟩
  · have:Ql h=-h:=by unfold Ql; rw [if_pos p]
    rw [this] at h8
    have h10:d<f:=O4 ha (by grind)
    rw [s,Z6.2 (show 0<f by grind)]
    exact ⟨rfl,by unfold Ql; split <;> grind⟩
  · rw [p,Z5] at hh; grind
  · have:Ql h=h:=by unfold Ql; rw [if_neg (by grind)]
    rw [this] at h8
    have h10:f < -d:=O4 ha (by grind)
    rw [s,Ji.2 (show f<0 by grind)]
    exact ⟨rfl,by unfold Ql; split <;> grind⟩
theorem min2 {a b:Rat} (ha:0<a) (hb:0<b):∃ e:Rat,0<e∧e≤a∧e≤b:=by
  rcases Rat.le_total (a:=a) (b:=b) with h | h
  · exact ⟨a,ha,Rat.le_refl,h⟩
  · exact ⟨b,hb,h,Rat.le_refl⟩
theorem Qx (a b:Rat):a≤b∨b<a:=by
  rcases Rat.le_total (a:=a) (b:=b) with h | h
  · exact .inl h
  · rcases Classical.em (a=b) with e | e
    · exact .inl (by grind)
    · exact .inr (by grind)
theorem Q0h {R:Rat} (hR:0≤R) {f g:List Rat} {l:List (List Rat)} (hc:SCl f g l):∃ d e:Rat,0<d∧0<e∧∀ x y,Ql x≤R→Ql y≤R→Ql (y-x)≤e →
    (d≤Ql (ev f x)∨d≤Ql (ev g x))∧(d≤Ql (ev f x)→Qk (ev f y)=Qk (ev f x)∧Qk (ev f x)≠0)∧(d≤Ql (ev g x)→Qk (ev g y)=Qk (ev g x)∧Qk (ev g x)≠0) ∧
    (Qk (ev f y)=Qk (ev f x)→Qk (ev f x)≠0→tc x (Qk (ev f x)) (g::l)=tc y (Qk (ev f x)) (g::l)) ∧
    (Qk (ev g y)=Qk (ev g x)→Qk (ev g x)≠0→tc x (Qk (ev g x)) l=tc y (Qk (ev g x)) l):=by
  induction hc with
  |
   @base f g c hc hg =>
   have hd:=Vu hc
   obtain ⟨e,e1,e2,e3⟩:=Zi (Ym hR f) hd
   refine ⟨Ql c,e,hd,e1,fun x y hx hy hxy=>⟨.inr (by rw [hg]; exact Rat.le_refl),fun h=>Ju h (J7 hx hy hR hxy e3),fun h=>?_,fun _ _=>?_,fun _ _=>rfl⟩⟩
   · rw [hg,hg]; exact ⟨rfl,fun h=>hc (Q0.1 h)⟩
   · simp only [tc,hg]
  |
   @step f g h l a b q ha hb he hl ih =>
   obtain ⟨d',e',hd',he',ih⟩:=ih
   obtain ⟨d1,d1p,_,d1b⟩:=Zi (b:=evB R q+a) (d:=b*d') (by have:=Rh hR q; grind) (Fi hb hd')
   obtain ⟨d,dp,hd1,hdd⟩:=min2 d1p hd'
   obtain ⟨ef,ef1,_,ef3⟩:=Zi (Ym hR f) dp
   obtain ⟨eg,eg1,_,eg3⟩:=Zi (Ym hR g) dp
   obtain ⟨e0,e0p,h1,h2⟩:=min2 ef1 eg1
   obtain ⟨e,ep,h0,h3⟩:=min2 e0p he'
   have h1:=Rat.le_trans h0 h1
   have h2:=Rat.le_trans h0 h2
   refine ⟨d,e,dp,ep,fun x y hx hy hxy=>?_⟩
   obtain ⟨i1,i2,i3,i4,i5⟩:=ih x y hx hy (Rat.le_trans hxy h3)
   have hsm:Ql (ev g x)<d→d'≤Ql (ev h x)∧Qk (ev h x)=-Qk (ev f x)∧d≤Ql (ev f x):=fun hg=>by
     have hh:d'≤Ql (ev h x):=by
       rcases i1 with i | i
       · exact absurd (Rat.le_trans hdd i) (Rat.not_le.2 hg)
       · exact i
     have h6:d*(evB R q+a)≤d1*(evB R q+a):=Rat.mul_le_mul_of_nonneg_right hd1 (by have:=Rh hR q; clear ih i1 i2 i3 i4 i5 he; grind)
     have h7:evB R q*d+a*d<b*d':=by clear ih i1 i2 i3 i4 i5 he; grind
     exact ⟨hh,Q07 ha hb dp h7 (Cx hx q) hg hh (he x) hd'⟩
   have hfs:d≤Ql (ev f x)→Qk (ev f y)=Qk (ev f x)∧Qk (ev f x)≠0:=fun h=>Ju h (J7 hx hy hR (Rat.le_trans hxy h1) ef3)
   have hgs:d≤Ql (ev g x)→Qk (ev g y)=Qk (ev g x)∧Qk (ev g x)≠0:=fun h=>Ju h (J7 hx hy hR (Rat.le_trans hxy h2) eg3)
   refine ⟨?_,hfs,hgs,fun s1 s2=>?_,i4⟩
   · rcases Qx d (Ql (ev g x)) with h | h
     · exact .inr h
     · exact .inl (hsm h).2.2
   · rcases Qx d (Ql (ev g x)) with h | h
     · obtain ⟨g1,g2⟩:=hgs h
       rw [Nc (x:=x) (p:=g) g2,Nc (x:=y) (p:=g) (by rw [g1]; exact g2),g1,i4 g1 g2]
     · obtain ⟨h4,h5,_⟩:=hsm h
       obtain ⟨h6,h7⟩:=i3 h4
       have i5:=i5 h6 h7
       rw [Qtr h5 s2,Qtr (h6.trans h5) s2,←h5,i5]
end Orq

namespace Orq
def Jp (p:List Rat) (x:Rat):Int:=if Qk (ev p x)≠0 then Qk (ev p x) else Qk (dv p x)
def vv (L:List (List Rat)) (x:Rat):Nat:=tc x 0 L
def De (f:List Rat) (L:List (List Rat)):Prop:=(∃ c:Rat,c≠0∧(∀ t,ev f t=c)∧L=[f])∨∃ g l,∃ k:Rat,0<k∧(∀ t,ev g t=k*dv f t)∧SCl f g l∧L=f::g::l
structure Sm (w:List Rat) (x y:Rat):Prop where
  s:Qk (ev w y)=Jp w x
  l:Jp w y=Jp w x
  n:Jp w x≠0
theorem Un {p:List Rat} {x:Rat} (h:Qk (ev p x)≠0):Jp p x=Qk (ev p x):=by unfold Jp; rw [if_pos h]
theorem Qhx {p:List Rat} {x:Rat} (h:Qk (ev p x)=0):Jp p x=Qk (dv p x):=by unfold Jp; rw [if_neg (by simpa using h)]
theorem Qf0 {p:List Rat} {x y:Rat} (h:Qk (ev p y)=Qk (ev p x)) (h0:Qk (ev p x)≠0):Sm p x y:=by
  have h1:=Un h0
  have h2:=Un (p:=p) (x:=y) (by rw [h]; exact h0)
  exact ⟨by rw [h,h1],by rw [h2,h1,h],by rw [h1]; exact h0⟩
theorem G7 {f w u:List Rat} (h:∀ t,ev f t=ev w t*ev u t) (x:Rat):dv f x=dv w x*ev u x+ev w x*dv u x:=by
  rw [←Qbm]; exact Qqf (fun t=>by rw [h,Qj]) x
theorem Qk6 {f w u:List Rat} {x:Rat} (h:∀ t,ev f t=ev w t*ev u t) (hu:Qk (ev u x)≠0):Jp f x=Jp w x*Qk (ev u x):=by
  by_cases hw:Qk (ev w x)=0
  · have hw0:=Q0.1 hw
    have e1:ev f x=0:=by rw [h,hw0]; grind
    have e2:dv f x=dv w x*ev u x:=by rw [G7 h,hw0]; grind
    rw [Qhx hw,Qhx (Q0.2 e1),e2,Ja]
  · have e1:Qk (ev f x)=Qk (ev w x)*Qk (ev u x):=by rw [h,Ja]
    rw [Un hw,Un (by rw [e1]; exact Int.mul_ne_zero hw hu),e1]
theorem Q08 {f w u:List Rat} {x y:Rat} (h:∀ t,ev f t=ev w t*ev u t) (hu:Qk (ev u y)=Qk (ev u x)) (h0:Qk (ev u x)≠0) (hf:Sm f x y):Sm w x y:=by
  have e1:=Qk6 h h0
  have e2:=Qk6 (x:=y) h (by rw [hu]; exact h0)
  have e3:Qk (ev f y)=Qk (ev w y)*Qk (ev u y):=by rw [h,Ja]
  obtain ⟨s,l,n⟩:=hf
  rw [hu] at e2 e3
  refine ⟨?_,?_,fun h=>n (by rw [e1,h,Int.zero_mul])⟩
  · rw [e3,e1] at s; exact Int.eq_of_mul_eq_mul_right h0 s
  · rw [e2,e1] at l; exact Int.eq_of_mul_eq_mul_right h0 l
theorem tc0 {x:Rat} {s:Int} {f g:List Rat} {l:List (List Rat)} (h:Qk (ev g x)=s) (hs:s≠0):tc x 0 (f::g::l)=(if Qk (ev f x)=-s then 1 else 0)+tc x s l:=by
  have hv:s=1∨s=-1:=by rcases Qz (ev g x) with ⟨e,_⟩ | ⟨e,_⟩ | ⟨e,_⟩ <;> omega
  have hg:Qk (ev g x)≠0:=by omega
  rw [tc]
  rcases Qz (ev f x) with ⟨e,_⟩ | ⟨e,_⟩ | ⟨e,_⟩ <;> rw [e] <;> rcases hv with rfl | rfl <;> simp [Nc hg,h]
theorem Av {R x y e d:Rat} {p:List Rat} (hx:Ql x≤R) (hy:Ql y≤R) (hR:0≤R) (hxy:x<y) (h:y-x≤e) (hd:d≤Ql (dv p x)) (he:e*ddB R p<d):Qk (ev p y-ev p x)=Qk (dv p x):=by
  have h1:=Qyh p y x
  have h2:ev p y-ev p x=(y-x)*(dv p x+(y-x)*dd p y x):=by rw [h1]; grind
  have h3:=Zf (x:=y-x) (y:=dd p y x) (a:=e) (b:=ddB R p) (by rw [Yb]; constructor <;> grind) (Qp7 hy hx p)
  have h4:=Ju (b:=dv p x+(y-x)*dd p y x) hd (by
    have:dv p x+(y-x)*dd p y x-dv p x=(y-x)*dd p y x:=by grind
    rw [this]; exact Rat.not_le.1 fun h=>absurd (Rat.le_trans h h3) (Rat.not_le.2 he))
  rw [h2,Ja,Z6.2 (show 0<y-x by grind),h4.1,Int.one_mul]
def Qob (f w:List Rat) (L:List (List Rat)) (x y:Rat):Prop :=
  (vv L x=vv L y∧Sm f x y∧Sm w x y)∨(vv L x=vv L y+1∧Jp f x≠0∧Jp f y=-Jp f x∧Qk (ev f x)=Jp f x∧(Qk (ev f y)=0∨Qk (ev f y)=-Jp f x))
theorem Qq8 {R d:Rat} (hR:0≤R) (hd:0<d) {f w u:List Rat} (h:∀ t,ev f t=ev w t*ev u t):∃ e:Rat,0<e∧∀ x y,Ql x≤R→Ql y≤R→Ql (y-x)≤e→d≤Ql (ev f x)→Sm f x y∧Sm w x y:=by
  obtain ⟨ef,ef1,_,ef3⟩:=Zi (Ym hR f) hd
  obtain ⟨d1,d1p,_,d1b⟩:=Zi (Rh hR u) hd
  obtain ⟨ew,ew1,_,ew3⟩:=Zi (Ym hR w) d1p
  obtain ⟨e,ep,e1,e2⟩:=min2 ef1 ew1
  refine ⟨e,ep,fun x y hx hy hxy hf=>⟨?_,?_⟩⟩
  · have:=Ju hf (J7 hx hy hR (Rat.le_trans hxy e1) ef3)
    exact Qf0 this.1 this.2
  · have hw:d1≤Ql (ev w x):=by
      rcases Qx d1 (Ql (ev w x)) with h' | h'
      · exact h'
      · have h5:=Zf (Rat.le_of_lt h') (Cx hx u)
        rw [←h] at h5
        exact absurd (Rat.le_trans hf h5) (Rat.not_le.2 d1b)
    have:=Ju hw (J7 hx hy hR (Rat.le_trans hxy e2) ew3)
    exact Qf0 this.1 this.2
theorem loc {R:Rat} (hR:0≤R) {f w u:List Rat} {L:List (List Rat)} (hc:De f L) (h:∀ t,ev f t=ev w t*ev u t):∃ e:Rat,0<e∧∀ x y,Ql x≤R→Ql y≤R→x<y→y-x≤e→Qob f w L x y:=by
  rcases hc with ⟨c,hc,hf,rfl⟩ | ⟨g,l,k,hk,hg,hc,rfl⟩
  · obtain ⟨e,ep,h1⟩:=Qq8 hR (Vu hc) h
    refine ⟨e,ep,fun x y hx hy hxy he=>.inl ⟨?_,h1 x y hx hy (by rw [Yb]; constructor <;> grind) (by rw [hf]; exact Rat.le_refl)⟩⟩
    simp only [vv,tc,hf]
  · obtain ⟨d,e1,dp,e1p,h1⟩:=Q0h hR hc
    obtain ⟨e2,e2p,h2⟩:=Qq8 hR dp h
    -- where f is small,its derivative is Qq8
    obtain ⟨d3,d3p,_,d3b⟩:=Zi (b:=k) (d:=d) (Rat.le_of_lt hk) dp
    obtain ⟨e3,e3p,_,e3b⟩:=Zi (Er hR f) d3p
    obtain ⟨d4,d4p,_,d4b⟩:=Zi (b:=Iu R w+Iu R u) (d:=d3) (by have:=Ym hR w; have:=Ym hR u; grind) d3p
    obtain ⟨e4,e4p,_,e4b⟩:=Zi (Ym hR w) d4p
    obtain ⟨e5,e5p,_,e5b⟩:=Zi (Ym hR u) d4p
    obtain ⟨a1,a1p,a11,a12⟩:=min2 e1p e2p
    obtain ⟨a2,a2p,a21,a22⟩:=min2 e3p e4p
    obtain ⟨a3,a3p,a31,a32⟩:=min2 a1p a2p
    obtain ⟨e,ep,b1,b2⟩:=min2 a3p e5p
    refine ⟨e,ep,fun x y hx hy hxy he=>?_⟩
    have hab:Ql (y-x)≤e:=by rw [Yb]; clear h1 h2; constructor <;> grind
    have hab1:Ql (y-x)≤e1:=by clear h1 h2; grind
    have hab2:Ql (y-x)≤e2:=by clear h1 h2; grind
    obtain ⟨i1,i2,i3,i4,i5⟩:=h1 x y hx hy hab1
    rcases Qx d (Ql (ev f x)) with hf | hf
    · obtain ⟨s1,s2⟩:=h2 x y hx hy hab2 hf
      obtain ⟨j1,j2⟩:=i2 hf
      refine .inl ⟨?_,s1,s2⟩
      have:=i4 j1 j2
      simp only [vv]
      rw [Nc (x:=x) (p:=f) j2,Nc (x:=y) (p:=f) (by rw [j1]; exact j2),j1,this]
    · have hg1:d≤Ql (ev g x):=by
        rcases i1 with i | i
        · exact absurd i (Rat.not_le.2 hf)
        · exact i
      obtain ⟨g1,g2⟩:=i3 hg1
      have i5:=i5 g1 g2
      have hD:d3≤Ql (dv f x):=by
        rcases Qx d3 (Ql (dv f x)) with h' | h'
        · exact h'
        · have h5:=Zf (x:=k) (a:=k) (by unfold Ql; split <;> clear h1 h2 <;> grind) (Rat.le_of_lt h')
          rw [←hg] at h5
          have:k*d3=d3*k:=by grind
          exact absurd (Rat.le_trans hg1 h5) (Rat.not_le.2 (by rw [this]; exact d3b))
      have hm:=Av hx hy hR hxy (by clear h1 h2; grind:y-x≤e3) hD e3b
      have s1:Qk (ev g x)=Qk (dv f x):=by rw [hg,Ja,Z6.2 hk,Int.one_mul]
      have s2:Qk (ev g y)=Qk (dv f y):=by rw [hg,Ja,Z6.2 hk,Int.one_mul]
      obtain ⟨s,hs⟩:∃ s,s=Qk (ev g x):=⟨_,rfl⟩
      rw [←hs] at g1 g2 i5 s1
      rw [g1] at s2
      have v1:=tc0 (f:=f) (l:=l) hs.symm g2
      have v2:=tc0 (f:=f) (l:=l) g1 g2
      rw [←i5] at v2
      rw [←s1] at hm
      have hw:Sm f x y→Sm w x y:=fun hf=>by
        rcases Qx d4 (Ql (ev u x)) with hu | hu
        · have hu:=Ju hu (J7 hx hy hR (Rat.le_trans hab b2) e5b)
          exact Q08 h hu.1 hu.2 hf
        · have hw:d4≤Ql (ev w x):=by
            rcases Qx d4 (Ql (ev w x)) with h' | h'
            · exact h'
            · have q1:=Zf (x:=dv w x) (y:=ev u x) (a:=Iu R w) (by rw [←Qbj]; exact Qd1 hx hx w) (Rat.le_of_lt hu)
              have q2:=Zf (x:=ev w x) (y:=dv u x) (b:=Iu R u) (Rat.le_of_lt h') (by rw [←Qbj]; exact Qd1 hx hx u)
              have q3:=X8 (dv w x*ev u x) (ev w x*dv u x)
              rw [←G7 h] at q3
              have:d4*(Iu R w+Iu R u)=Iu R w*d4+d4*Iu R u:=by grind
              rw [this] at d4b
              exact absurd (Rat.le_trans hD (Rat.le_trans q3 (by clear h1 h2; grind:_≤Iu R w*d4+d4*Iu R u))) (Rat.not_le.2 d4b)
          have hw:=Ju hw (J7 hx hy hR (Rat.le_trans hab (by clear h1 h2; grind)) e4b)
          exact Qf0 hw.1 hw.2
      have lx:Jp f x=if Qk (ev f x)≠0 then Qk (ev f x) else s:=by rw [s1]; rfl
      have ly:Jp f y=if Qk (ev f y)≠0 then Qk (ev f y) else s:=by rw [s2]; rfl
      clear h1 h2 i1 i2 i3 i4
      have hsv:s=1∨s=-1:=by rcases Qz (ev g x) with ⟨e,_⟩ | ⟨e,_⟩ | ⟨e,_⟩ <;> omega
      unfold Qob
      simp only [vv,v1,v2]
      rcases hsv with rfl | rfl
      · have hm:=Z6.1 hm
        rcases Qz (ev f x) with ⟨p1,p2⟩ | ⟨p1,p2⟩ | ⟨p1,p2⟩
        · rcases Qz (ev f y) with ⟨q1,q2⟩ | ⟨q1,q2⟩ | ⟨q1,q2⟩
          · rw [p1,q1]; have hsm:=Qf0 (p:=f) (x:=x) (y:=y) (by rw [p1,q1]) (by rw [p1]; decide)
            exact .inl ⟨rfl,hsm,hw hsm⟩
          · rw [lx,ly,p1,q1]; refine .inr ⟨by simp; omega,by decide,by decide,by decide,by decide⟩
          · rw [lx,ly,p1,q1]; refine .inr ⟨by simp; omega,by decide,by decide,by decide,by decide⟩
        · have q1:=Z6.2 (show 0<ev f y by grind)
          have hsm:Sm f x y:=⟨by rw [lx,q1,p1]; rfl,by rw [lx,ly,q1,p1]; rfl,by rw [lx,p1]; decide⟩
          rw [p1,q1]; exact .inl ⟨rfl,hsm,hw hsm⟩
        · have q1:=Z6.2 (show 0<ev f y by grind)
          have hsm:Sm f x y:=⟨by rw [lx,q1,p1]; rfl,by rw [lx,ly,q1,p1],by rw [lx,p1]; decide⟩
          rw [p1,q1]; exact .inl ⟨rfl,hsm,hw hsm⟩
      · have hm:=Ji.1 hm
        rcases Qz (ev f x) with ⟨p1,p2⟩ | ⟨p1,p2⟩ | ⟨p1,p2⟩
        · have q1:=Ji.2 (show ev f y<0 by grind)
          have hsm:Sm f x y:=⟨by rw [lx,q1,p1]; rfl,by rw [lx,ly,q1,p1],by rw [lx,p1]; decide⟩
          rw [p1,q1]; exact .inl ⟨rfl,hsm,hw hsm⟩
        · have q1:=Ji.2 (show ev f y<0 by grind)
          have hsm:Sm f x y:=⟨by rw [lx,q1,p1]; rfl,by rw [lx,ly,q1,p1]; rfl,by rw [lx,p1]; decide⟩
          rw [p1,q1]; exact .inl ⟨rfl,hsm,hw hsm⟩
        · rcases Qz (ev f y) with ⟨q1,q2⟩ | ⟨q1,q2⟩ | ⟨q1,q2⟩
          · rw [lx,ly,p1,q1]; refine .inr ⟨by simp; omega,by decide,by decide,by decide,by decide⟩
          · rw [lx,ly,p1,q1]; refine .inr ⟨by simp; omega,by decide,by decide,by decide,by decide⟩
          · rw [p1,q1]; have hsm:=Qf0 (p:=f) (x:=x) (y:=y) (by rw [p1,q1]) (by rw [p1]; decide)
            exact .inl ⟨rfl,hsm,hw hsm⟩
end Orq

namespace Orq
theorem Q47 (z:Rat):∃ n:Nat,z≤(n:Rat):=by
  refine ⟨z.ceil.toNat,?_⟩
  have h1:z≤(z.ceil:Rat):=Rat.le_ceil
  have h2:(z.ceil:Rat)≤((z.ceil.toNat:Int):Rat):=Rat.intCast_le_intCast.2 (Int.self_le_toNat _)
  exact Rat.le_trans h1 h2
theorem H5 {z e:Rat} (he:0<e):∃ n:Nat,z≤(n:Rat)*e:=by
  obtain ⟨n,hn⟩:=Q47 (z / e)
  exact ⟨n,by have:=Rat.mul_le_mul_of_nonneg_right hn (Rat.le_of_lt he); rwa [Zg he] at this⟩
theorem Mj {R x y t:Rat} (hx:Ql x≤R) (hy:Ql y≤R) (h1:x≤t) (h2:t≤y):Ql t≤R:=by
  rw [Yb] at *; constructor <;> grind
def Qmm (f w:List Rat) (L:List (List Rat)) (x y:Rat):Prop :=
  vv L y≤vv L x∧(vv L x=vv L y→Sm f x y∧Sm w x y)∧(vv L x=vv L y+1→Jp f x≠0∧Jp f y=-Jp f x)
theorem Qk4 {f w:List Rat} {L:List (List Rat)} {x y:Rat} (h:Qob f w L x y):Qmm f w L x y:=by
  rcases h with ⟨h1,h2,h3⟩ | ⟨h1,h2,h3,_⟩
  · exact ⟨by omega,fun _=>⟨h2,h3⟩,fun h=>by omega⟩
  · exact ⟨by omega,fun h=>by omega,fun _=>⟨h2,h3⟩⟩
theorem Qf1 {w:List Rat} {x y z:Rat} (h1:Sm w x y) (h2:Sm w y z):Sm w x z:=⟨by rw [h2.s,h1.l],by rw [h2.l,h1.l],h1.n⟩
theorem Qhv {f w:List Rat} {L:List (List Rat)} {x y z:Rat} (h:Qmm f w L x y) (h':Qmm f w L y z):Qmm f w L x z:=by
  obtain ⟨a1,a2,a3⟩:=h
  obtain ⟨b1,b2,b3⟩:=h'
  refine ⟨by omega,fun h=>?_,fun h=>?_⟩
  · obtain ⟨s1,s2⟩:=a2 (by omega)
    obtain ⟨s3,s4⟩:=b2 (by omega)
    exact ⟨Qf1 s1 s3,Qf1 s2 s4⟩
  · by_cases e:vv L x=vv L y
    · obtain ⟨s1,_⟩:=a2 e
      obtain ⟨s3,s4⟩:=b3 (by omega)
      exact ⟨s1.n,by rw [s4,s1.l]⟩
    · obtain ⟨s3,s4⟩:=a3 (by omega)
      obtain ⟨s1,_⟩:=b2 (by omega)
      exact ⟨s3,by rw [s1.l,s4]⟩
theorem Qz7 {R:Rat} (hR:0≤R) {f w u:List Rat} {L:List (List Rat)} (hc:De f L) (h:∀ t,ev f t=ev w t*ev u t) {x y:Rat} (hx:Ql x≤R) (hy:Ql y≤R) (hxy:x<y):Qmm f w L x y:=by
  obtain ⟨e,ep,hl⟩:=loc hR hc h
  have key:∀ n:Nat,∀ x,Ql x≤R→x<y→y-x≤(n:Rat)*e→Qmm f w L x y:=by
    intro n
    induction n with
    | zero =>
     intro x hx hxy h; exfalso; have:((0:Nat):Rat)*e=0:=by simp
     grind
    |
     succ n ih =>
     intro x hx hxy hn
     rcases Qx (y-x) e with h1 | h1
     · exact Qk4 (hl x y hx hy hxy h1)
     · have hm:Ql (x+e)≤R:=Mj hx hy (by clear hl ih; grind) (by clear hl ih; grind)
       have hn':(((n+1:Nat):Rat))=(n:Rat)+1:=by push_cast; rfl
       refine Qhv (Qk4 (hl x (x+e) hx hm (by clear hl ih; grind) (by clear hl ih; grind))) (ih (x+e) hm (by clear hl ih; grind) ?_)
       rw [hn'] at hn
       clear hl ih; grind
  obtain ⟨n,hn⟩:=H5 (z:=y-x) ep
  exact key n x hx hxy hn
theorem Qau (x y:Rat):∃ R:Rat,0≤R∧Ql x≤R∧Ql y≤R:=by
  refine ⟨Ql x+Ql y,?_,?_,?_⟩ <;> (have:=Zw x; have:=Zw y; grind)
theorem Xj (t:Rat):ev [1] t=1:=by simp only [ev]; grind
theorem Uu {f:List Rat} {L:List (List Rat)} (hc:De f L) {x y:Rat} (hxy:x<y):vv L y≤vv L x:=by
  obtain ⟨R,hR,hx,hy⟩:=Qau x y
  exact (Qz7 hR hc (w:=f) (u:=[1]) (fun t=>by rw [Xj]; grind) hx hy hxy).1
theorem S0 {f w u:List Rat} {L:List (List Rat)} (hc:De f L) (h:∀ t,ev f t=ev w t*ev u t) {x y:Rat} (hxy:x<y) (he:vv L x=vv L y):Sm w x y:=by
  obtain ⟨R,hR,hx,hy⟩:=Qau x y
  exact ((Qz7 hR hc h hx hy hxy).2.1 he).2
theorem Qc7 {f:List Rat} {L:List (List Rat)} (hc:De f L) {x y:Rat} (hxy:x<y) (he:vv L x=vv L y):Sm f x y :=
  S0 hc (w:=f) (u:=[1]) (fun t=>by rw [Xj]; grind) hxy he
theorem Qc6 {f:List Rat} {L:List (List Rat)} (hc:De f L) {x y:Rat} (hxy:x<y) (he:vv L x=vv L y+1):Jp f x≠0∧Jp f y=-Jp f x:=by
  obtain ⟨R,hR,hx,hy⟩:=Qau x y
  exact (Qz7 hR hc (w:=f) (u:=[1]) (fun t=>by rw [Xj]; grind) hx hy hxy).2.2 he
theorem Qtw {f:List Rat} {L:List (List Rat)} (hc:De f L) (R:Rat) (hR:0≤R):∃ e:Rat,0<e∧∀ x y,Ql x≤R→Ql y≤R→x<y→y-x≤e→vv L x≤vv L y+1:=by
  obtain ⟨e,ep,hl⟩:=loc hR hc (w:=f) (u:=[1]) (fun t=>by rw [Xj]; grind)
  refine ⟨e,ep,fun x y hx hy hxy he=>?_⟩
  rcases hl x y hx hy hxy he with ⟨h,_⟩ | ⟨h,_⟩ <;> omega
theorem Qzp {p:List Rat} {x:Rat} (h:Qk (ev p x)≠0):∃ e:Rat,0<e∧∀ y,Ql (y-x)≤e→Qk (ev p y)=Qk (ev p x):=by
  have hd:=Vu (x:=ev p x) fun h0=>h (Q0.2 h0)
  have hR:0≤Ql x+1:=by have:=Zw x; grind
  obtain ⟨e,e1,e2,e3⟩:=Zi (Ym hR p) hd
  refine ⟨e,e1,fun y hy=>(Ju Rat.le_refl (J7 (x:=x) (by grind) ?_ hR hy e3)).1⟩
  have:=X8 (y-x) x
  have e:y-x+x=y:=by grind
  rw [e] at this; grind
theorem Qyr {R M:Rat} {p:List Rat} (hM:M=ddB R p) (hR:0≤R) {h:Rat} (hh:0<h):∀ (n:Nat) (x:Rat),Ql x≤R→Ql (x+(n:Rat)*h)≤R→(∀ t,x≤t→t≤x+(n:Rat)*h→0≤dv p t)→ev p x-(n:Rat)*(h*h*M)≤ev p (x+(n:Rat)*h)
  |
   0,x,_,_,_=>by
   have e1:x+((0:Nat):Rat)*h=x:=by rw [show ((0:Nat):Rat)=0 from rfl]; grind
   have e2:((0:Nat):Rat)*(h*h*M)=0:=by simp
   rw [e1,e2]; grind
  |
   n+1,x,hx,hy,hd=>by
   have hn':(((n+1:Nat):Rat))=(n:Rat)+1:=by push_cast; rfl
   rw [hn'] at hy hd ⊢
   have hn0:(0:Rat)≤(n:Rat):=Rat.natCast_nonneg
   have hnh:=Y3 hn0 (Rat.le_of_lt hh)
   have e1:x+((n:Rat)+1)*h=(x+h)+(n:Rat)*h:=by grind
   rw [e1] at hy hd ⊢
   have hxh:Ql (x+h)≤R:=Mj hx hy (by clear hd; grind) (by clear hd; grind)
   have ih:=Qyr hM hR hh n (x+h) hxh hy fun t h1 h2=>hd t (by clear hd; grind) h2
   have h0:=hd x Rat.le_refl (by clear hd; grind)
   have h1:=Qyh p (x+h) x
   have h2:=Qp7 hxh hx p
   rw [←hM,Yb] at h2
   have h3:=Rat.mul_le_mul_of_nonneg_left h2.1 (Y3 (Rat.le_of_lt hh) (Rat.le_of_lt hh))
   have h4:=Y3 (Rat.le_of_lt hh) h0
   have e2:x+h-x=h:=by grind
   rw [e2] at h1
   clear hd hx hy hxh
   grind
theorem Q26 {p:List Rat} {x y:Rat} (hxy:x<y) (hd:∀ t,x≤t→t≤y→0≤dv p t):ev p x≤ev p y:=by
  obtain ⟨R,hR,hx,hy⟩:=Qau x y
  rcases Qx (ev p x) (ev p y) with h | h
  · exact h
  · exfalso
    obtain ⟨M,hM⟩:∃ M,M=ddB R p:=⟨_,rfl⟩
    have hM0:=Er hR p
    rw [←hM] at hM0
    obtain ⟨e,ep,_,he⟩:=Zi (b:=(y-x)*M) (d:=ev p x-ev p y) (Y3 (by grind) hM0) (by grind)
    obtain ⟨n,hn⟩:=H5 (z:=y-x) ep
    have hn0:0<(n:Rat):=by
      rcases Qx (n:Rat) 0 with h' | h'
      · have:=Rat.mul_le_mul_of_nonneg_right h' (Rat.le_of_lt ep); clear hd; grind
      · exact h'
    have hh:0<(y-x) / n:=Uh (by grind) hn0
    have e1:(n:Rat)*((y-x) / n)=y-x:=by rw [Rat.mul_comm]; exact Zg hn0
    have e2:x+(n:Rat)*((y-x) / n)=y:=by rw [e1]; grind
    have h1:=Qyr hM hR hh n x hx (by rw [e2]; exact hy) (by rw [e2]; exact hd)
    rw [e2] at h1
    have h2:(y-x) / n≤e:=by
      rcases Qx ((y-x) / n) e with h' | h'
      · exact h'
      · have:=Rat.mul_lt_mul_of_pos_left h' hn0; clear hd; grind
    have h3:(n:Rat)*((y-x) / n*((y-x) / n)*M)=((y-x) / n)*((y-x)*M):=by
      have:(n:Rat)*((y-x) / n*((y-x) / n)*M)=((n:Rat)*((y-x) / n))*(((y-x) / n)*M):=by grind
      rw [this,e1]; grind
    have h4:=Rat.mul_le_mul_of_nonneg_right h2 (Y3 (x:=y-x) (y:=M) (by grind) hM0)
    rw [h3] at h1
    clear hd; grind
theorem Qw1 {p:List Rat} {x y:Rat} (hxy:x<y) (hd:∀ t,x≤t→t≤y→0<dv p t):ev p x<ev p y:=by
  have hx:=hd x Rat.le_refl (by grind)
  have hR:0≤Ql x+1:=by have:=Zw x; grind
  obtain ⟨e,e1,e2,e3⟩:=Zi (Er hR p) hx
  obtain ⟨f,f1,f2,f3⟩:=min2 (a:=e) (b:=y-x) e1 (by grind)
  have hq:Ql (x+f)≤Ql x+1:=by
   have:=X8 x f; have:Ql f=f:=by unfold Ql; split <;> grind
   clear hd; grind
  have h1:=Av (p:=p) (x:=x) (y:=x+f) (R:=Ql x+1) (e:=e) (d:=dv p x) (by clear hd; grind) hq hR (by grind) (by grind) (by unfold Ql; split <;> clear hd <;> grind) e3
  rw [Z6.2 hx,Z6] at h1
  rcases Classical.em (x+f=y) with e | e
  · rw [←e]; clear hd; grind
  · have:=Q26 (p:=p) (x:=x+f) (y:=y) (by clear hd; grind) fun t h1 h2=>Rat.le_of_lt (hd t (by clear hd; grind) h2)
    clear hd; grind
end Orq

namespace Orq
structure Cut (c:Rat→Int):Prop where
  val:∀ q,c q=1∨c q=0∨c q=-1
  mono:∀ q r,q<r→c q≠1→c r=-1
  up:∀ q,c q=1→∃ r,q<r∧c r=1
  dn:∀ q,c q=-1→∃ r,r<q∧c r=-1
  lo:∃ q,c q=1
  hi:∃ q,c q=-1
theorem Cut.mono' {c:Rat→Int} (h:Cut c) {q r:Rat} (hqr:q<r) (hr:c r≠-1):c q=1:=by
  rcases Classical.em (c q=1) with e | e
  · exact e
  · exact absurd (h.mono q r hqr e) hr
theorem Cut.lt {c:Rat→Int} (h:Cut c) {q r:Rat} (hq:c q=1) (hr:c r=-1):q<r:=by
  rcases Qx r q with e | e
  · rcases Classical.em (r=q) with e' | e'
    · rw [e'] at hr; omega
    · have:=h.mono r q (by grind) (by omega); omega
  · exact e
theorem Cut.near {c:Rat→Int} (h:Cut c) {e:Rat} (he:0<e):∃ x y,c x=1∧c y=-1∧y-x≤e:=by
  obtain ⟨a,ha⟩:=h.lo
  obtain ⟨b,hb⟩:=h.hi
  have he2:0<e / 2:=Uh he (by decide)
  have h2:e / 2*2=e:=Zg (by decide)
  have key:∀ (n:Nat) (a:Rat),c a=1→b-a≤(n:Rat)*(e / 2)→∃ x y,c x=1∧c y=-1∧y-x≤e:=by
    intro n
    induction n with
    |
     zero =>
     intro a ha hn
     have:=h.lt ha hb
     rw [show ((0:Nat):Rat)=0 from rfl] at hn
     exfalso; grind
    |
     succ n ih =>
     intro a ha hn
     have hn':(((n+1:Nat):Rat))=(n:Rat)+1:=by push_cast; rfl
     rw [hn'] at hn
     rcases h.val (a+e / 2) with h1 | h1 | h1
     · exact ih _ h1 (by grind)
     · exact ⟨a,a+e,ha,h.mono (a+e / 2) _ (by grind) (by omega),by grind⟩
     · exact ⟨a,a+e / 2,ha,h1,by grind⟩
  obtain ⟨n,hn⟩:=H5 (z:=b-a) he2
  exact key n a ha hn
def Ft (p:List Rat) (c:Rat→Int):Prop:=∀ d:Rat,0<d→∃ x y,c x=1∧c y=-1∧∀ q,x≤q→q≤y→Ql (ev p q)<d
def NZ (p:List Rat) (c:Rat→Int) (s:Int):Prop:=∃ d:Rat,0<d∧∃ x y,c x=1∧c y=-1∧∀ q,x≤q→q≤y→Qk (ev p q)=s∧d≤Ql (ev p q)
def Nr (c:Rat→Int) (P:Rat→Prop):Prop:=∃ x y,c x=1∧c y=-1∧∀ q,x≤q→q≤y→P q
theorem Qh0 {c:Rat→Int} {P Q:Rat→Prop} (h1:Nr c P) (h2:Nr c Q):Nr c fun q=>P q∧Q q:=by
  obtain ⟨x,y,a1,a2,a3⟩:=h1
  obtain ⟨x',y',b1,b2,b3⟩:=h2
  refine ⟨if x≤x' then x' else x,if y≤y' then y else y',by split <;> assumption,by split <;> assumption,fun q q1 q2=>⟨a3 q ?_ ?_,b3 q ?_ ?_⟩⟩ <;> clear a3 b3 <;> grind
theorem D9 {c:Rat→Int} {P Q:Rat→Prop} (h1:Nr c P) (h:∀ q,P q→Q q):Nr c Q:=by
  obtain ⟨x,y,a1,a2,a3⟩:=h1
  exact ⟨x,y,a1,a2,fun q q1 q2=>h q (a3 q q1 q2)⟩
theorem Qe1 {c:Rat→Int} (hc:Cut c) {P:Rat→Prop} (h1:Nr c P):∃ q,P q∧c q=1:=by
  obtain ⟨x,y,a1,a2,a3⟩:=h1
  exact ⟨x,a3 x Rat.le_refl (Rat.le_of_lt (hc.lt a1 a2)),a1⟩
theorem Qr1 {c:Rat→Int} (hc:Cut c) {e:Rat} (he:0<e) {P:Rat→Prop} (h1:Nr c P):∃ x y,c x=1∧c y=-1∧y-x≤e∧x<y∧∀ q,x≤q→q≤y→P q:=by
  obtain ⟨x,y,a1,a2,a3⟩:=h1
  obtain ⟨x',y',b1,b2,b3⟩:=hc.near he
  refine ⟨if x≤x' then x' else x,if y≤y' then y else y',by split <;> assumption,by split <;> assumption,by clear a3; grind,hc.lt (by split <;> assumption) (by split <;> assumption),fun q q1 q2=>a3 q ?_ ?_⟩ <;> clear a3 <;> grind
theorem Qyq {c:Rat→Int} (hc:Cut c):∃ R:Rat,0≤R∧Nr c fun q=>Ql q≤R:=by
  obtain ⟨x,y,a1,a2,_⟩:=hc.near (e:=1) (by decide)
  obtain ⟨R,hR,h1,h2⟩:=Qau x y
  exact ⟨R,hR,x,y,a1,a2,fun q q1 q2=>Mj h1 h2 q1 q2⟩
theorem Tn {c:Rat→Int} (hc:Cut c) (p:List Rat):Ft p c∨∃ s,s≠0∧NZ p c s:=by
  rcases Classical.em (Ft p c) with h | h
  · exact .inl h
  · refine .inr ?_
    obtain ⟨d,hd0⟩:=Classical.not_forall.1 h
    obtain ⟨dp,hd⟩:=Classical.not_imp.1 hd0
    have hd:∀ x y,c x=1→c y=-1→∃ q,x≤q∧q≤y∧d≤Ql (ev p q):=fun x y hx hy=>by
      rcases Classical.em (∃ q,x≤q∧q≤y∧d≤Ql (ev p q)) with h' | h'
      · exact h'
      · refine absurd ⟨x,y,hx,hy,fun q h1 h2=>?_⟩ hd
        rcases Qx d (Ql (ev p q)) with h3 | h3
        · exact absurd ⟨q,h1,h2,h3⟩ h'
        · exact h3
    obtain ⟨R,hR,hn⟩:=Qyq hc
    have hd2:0<d / 2:=Uh dp (by decide)
    have h2:d / 2*2=d:=Zg (by decide)
    obtain ⟨e,e1,_,e3⟩:=Zi (Ym hR p) hd2
    obtain ⟨x,y,hx,hy,hxy,_,hq⟩:=Qr1 hc e1 hn
    obtain ⟨r,r1,r2,r3⟩:=hd x y hx hy
    have key:∀ q,x≤q→q≤y→Ql (ev p q-ev p r)<d / 2:=fun q q1 q2 =>
      J7 (hq r r1 r2) (hq q q1 q2) hR (by rw [Yb]; clear hq hd; constructor <;> grind) e3
    refine ⟨Qk (ev p r),fun h0=>?_,d / 2,hd2,x,y,hx,hy,fun q q1 q2=>⟨(Ju (d:=d) r3 ?_).1,?_⟩⟩
    · rw [Q0.1 h0,Z5] at r3; clear hq hd key; grind
    · have:=key q q1 q2; clear hq hd key; grind
    · have h3:=key q q1 q2
      have h4:=X8 (ev p r-ev p q) (ev p q)
      rw [show ev p r-ev p q+ev p q=ev p r from by clear hq hd key; grind,Ql0] at h4
      clear hq hd key; grind
theorem Q1m {c:Rat→Int} (hc:Cut c) {p:List Rat} {s:Int} (h1:Ft p c) (h2:NZ p c s):False:=by
  obtain ⟨d,dp,h2⟩:=h2
  obtain ⟨q,⟨a,b⟩,_⟩:=Qe1 hc (Qh0 (h1 d dp) h2)
  exact absurd b.2 (Rat.not_le.2 a)
theorem J1 {c:Rat→Int} (hc:Cut c) {f p q:List Rat} (hf:∀ t,ev f t=ev p t*ev q t) (h:Ft p c):Ft f c:=by
  intro d dp
  obtain ⟨R,hR,hn⟩:=Qyq hc
  obtain ⟨e,e1,_,e3⟩:=Zi (Rh hR q) dp
  refine D9 (Qh0 hn (h e e1)) fun t ⟨h1,h2⟩=>?_
  rw [hf]
  have:=Zf (Rat.le_of_lt h2) (Cx h1 q)
  exact Rat.not_le.1 fun h=>absurd (Rat.le_trans h this) (Rat.not_le.2 e3)
theorem Lr {c:Rat→Int} {f p q:List Rat} (hf:∀ t,ev f t=ev p t+ev q t) (h:Ft p c) (h':Ft q c):Ft f c:=by
  intro d dp
  have hd2:0<d / 2:=Uh dp (by decide)
  have h2:d / 2*2=d:=Zg (by decide)
  refine D9 (Qh0 (h _ hd2) (h' _ hd2)) fun t ⟨h1,h2⟩=>?_
  rw [hf]
  have:=X8 (ev p t) (ev q t)
  grind
def RS (p:List Rat) (c:Rat→Int) (s:Int):Prop:=∃ y,c y=-1∧∀ q,c q=-1→q≤y→Qk (ev p q)=s
def LS (p:List Rat) (c:Rat→Int) (s:Int):Prop:=∃ x,c x=1∧∀ q,c q=1→x≤q→Qk (ev p q)=s
theorem Qag {c:Rat→Int} (hc:Cut c) {p:List Rat} {s:Int} (h:NZ p c s):RS p c s:=by
  obtain ⟨d,dp,x,y,a1,a2,a3⟩:=h
  exact ⟨y,a2,fun q h1 h2=>(a3 q (Rat.le_of_lt (hc.lt a1 h1)) h2).1⟩
theorem Qk7 {c:Rat→Int} (hc:Cut c) {p:List Rat} {s:Int} (h:NZ p c s):LS p c s:=by
  obtain ⟨d,dp,x,y,a1,a2,a3⟩:=h
  exact ⟨x,a1,fun q h1 h2=>(a3 q h2 (Rat.le_of_lt (hc.lt h1 a2))).1⟩
theorem Ql4 {c:Rat→Int} {p:List Rat} {s s':Int} (h:RS p c s) (h':RS p c s'):s=s':=by
  obtain ⟨y,a1,a2⟩:=h
  obtain ⟨y',b1,b2⟩:=h'
  rcases Qx y y' with e | e
  · rw [←a2 y a1 Rat.le_refl,←b2 y a1 e]
  · rw [←a2 y' b1 (Rat.le_of_lt e),←b2 y' b1 Rat.le_refl]
theorem Qyu {c:Rat→Int} (hc:Cut c) {p:List Rat} (hv:Ft p c) {y:Rat} (hy:c y=-1) (h:∀ q,c q=-1→q≤y→0<dv p q) (q:Rat) (hq:c q=-1) (hqy:q≤y):0<ev p q:=by
  rcases Qx (ev p q) 0 with h0 | h0
  · exfalso
    obtain ⟨r,r1,r2⟩:=hc.dn q hq
    have hr:ev p r<ev p q:=Qw1 r1 fun t t1 t2=>h t (by
      rcases Classical.em (r=t) with e | e
      · rw [←e]; exact r2
      · exact hc.mono r t (by clear h; grind) (by omega)) (Rat.le_trans t2 hqy)
    obtain ⟨a,b,ha,hb,hab⟩:=hv (-ev p r) (by clear h; grind)
    obtain ⟨m,hm1,hm2,hm3⟩:∃ m,c m=-1∧m≤b∧m≤r:=by
      rcases Qx b r with e | e
      · exact ⟨b,hb,Rat.le_refl,e⟩
      · exact ⟨r,r2,Rat.le_of_lt e,Rat.le_refl⟩
    have h1:=hab m (Rat.le_of_lt (hc.lt ha hm1)) hm2
    have h2:ev p m≤ev p r:=by
      rcases Classical.em (m=r) with e | e
      · rw [e]; exact Rat.le_refl
      · exact Rat.le_of_lt (Qw1 (by clear h hab; grind) fun t t1 t2=>h t (by
          rcases Classical.em (m=t) with e | e
          · rw [←e]; exact hm1
          · exact hc.mono m t (by clear h hab; grind) (by omega)) (by clear h hab; grind))
    rw [Qcl] at h1
    clear h hab; grind
  · exact h0
theorem Qcq {c:Rat→Int} (hc:Cut c) {p:List Rat} {s:Int} (hv:Ft p c) (h:RS (Y4 p) c s) (hs:s≠0):RS p c s:=by
  obtain ⟨y,hy,h⟩:=h
  have hsv:s=1∨s=-1:=by
    have:=h y hy Rat.le_refl
    rcases Qz (ev (Y4 p) y) with ⟨e,_⟩ | ⟨e,_⟩ | ⟨e,_⟩ <;> omega
  rcases hsv with rfl | rfl
  · refine ⟨y,hy,fun q h1 h2=>Z6.2 (Qyu hc hv hy (fun q h1 h2=>?_) q h1 h2)⟩
    rw [←Xs]; exact Z6.1 (h q h1 h2)
  · refine ⟨y,hy,fun q h1 h2=>Ji.2 ?_⟩
    have:=Qyu hc (p:=Kr (-1) p) (y:=y) (fun d dp=>D9 (hv d dp) fun q hq=>by rw [Q5,show -1*ev p q=-ev p q by grind,Wx]; exact hq) hy (fun q h1 h2=>by
      rw [Ba,←Xs]
      have:=Ji.1 (h q h1 h2); grind) q h1 h2
    rw [Q5] at this; grind
end Orq

namespace Orq
theorem Qyn {c:Rat→Int} (hc:Cut c) {p:List Rat} (hv:Ft p c) {x:Rat} (hx:c x=1) (h:∀ q,c q=1→x≤q→0<dv p q) (q:Rat) (hq:c q=1) (hxq:x≤q):ev p q<0:=by
  rcases Qx 0 (ev p q) with h0 | h0
  · exfalso
    obtain ⟨r,r1,r2⟩:=hc.up q hq
    have hr:ev p q<ev p r:=Qw1 r1 fun t t1 t2=>h t (by
      rcases Classical.em (t=r) with e | e
      · rw [e]; exact r2
      · exact hc.mono' (q:=t) (r:=r) (by clear h; grind) (by omega)) (Rat.le_trans hxq t1)
    obtain ⟨a,b,ha,hb,hab⟩:=hv (ev p r) (by clear h; grind)
    obtain ⟨m,hm1,hm2,hm3⟩:∃ m,c m=1∧a≤m∧r≤m:=by
      rcases Qx a r with e | e
      · exact ⟨r,r2,e,Rat.le_refl⟩
      · exact ⟨a,ha,Rat.le_refl,Rat.le_of_lt e⟩
    have h1:=hab m hm2 (Rat.le_of_lt (hc.lt hm1 hb))
    have h2:ev p r≤ev p m:=by
      rcases Classical.em (r=m) with e | e
      · rw [e]; exact Rat.le_refl
      · exact Rat.le_of_lt (Qw1 (by clear h hab; grind) fun t t1 t2=>h t (by
          rcases Classical.em (t=m) with e | e
          · rw [e]; exact hm1
          · exact hc.mono' (q:=t) (r:=m) (by clear h hab; grind) (by omega)) (by clear h hab; grind))
    rw [Qcl] at h1
    clear h hab; grind
  · exact h0
theorem Qrp {c:Rat→Int} (hc:Cut c) {p:List Rat} {s:Int} (hv:Ft p c) (h:LS (Y4 p) c s) (hs:s≠0):LS p c (-s):=by
  obtain ⟨x,hx,h⟩:=h
  have hsv:s=1∨s=-1:=by
    have:=h x hx Rat.le_refl
    rcases Qz (ev (Y4 p) x) with ⟨e,_⟩ | ⟨e,_⟩ | ⟨e,_⟩ <;> omega
  rcases hsv with rfl | rfl
  · refine ⟨x,hx,fun q h1 h2=>Ji.2 (Qyn hc hv hx (fun q h1 h2=>?_) q h1 h2)⟩
    rw [←Xs]; exact Z6.1 (h q h1 h2)
  · refine ⟨x,hx,fun q h1 h2=>Z6.2 ?_⟩
    have:=Qyn hc (p:=Kr (-1) p) (x:=x) (fun d dp=>D9 (hv d dp) fun q hq=>by rw [Q5,show -1*ev p q=-ev p q by grind,Wx]; exact hq) hx (fun q h1 h2=>by
      rw [Ba,←Xs]
      have:=Ji.1 (h q h1 h2); grind) q h1 h2
    rw [Q5] at this; grind
theorem Qw5 {c:Rat→Int} (hc:Cut c) {f g:List Rat} {l:List (List Rat)} (h:SCl f g l):Ft f c→Ft g c→False:=by
  induction h with
  |
   @base f g k hk hg =>
   intro _ hv
   obtain ⟨q,hq,_⟩:=Qe1 hc (hv (Ql k) (Vu hk))
   rw [hg] at hq; grind
  |
   @step f g h l a b q ha hb he hl ih =>
   intro hf hg
   refine ih hg ?_
   have h1:Ft (Zb q g) c:=J1 hc (p:=g) (q:=q) (fun t=>by rw [Qj]; grind) hg
   have h2:Ft (Kr (-a) f) c:=J1 hc (p:=f) (q:=[-a]) (fun t=>by rw [Q5]; simp only [ev]; grind) hf
   have h3:Ft (X9 (Zb q g) (Kr (-a) f)) c:=Lr (fun t=>Za t _ _) h1 h2
   refine J1 hc (p:=X9 (Zb q g) (Kr (-a) f)) (q:=[1 / b]) (fun t=>?_) h3
   have:=he t
   rw [Za,Qj,Q5]
   simp only [ev]
   have hbb:1 / b*b=1:=Zg hb
   have:ev q t*ev g t+-a*ev f t=b*ev h t:=by rw [show -a*ev f t=-(a*ev f t) by grind,he t]; grind
   rw [this]
   have:b*ev h t*(1 / b+t*0)=ev h t*(1 / b*b):=by grind
   rw [this,hbb]; grind
theorem Qar {c:Rat→Int} (hc:Cut c) {f g:List Rat} {k:Rat} (h:∀ t,ev g t=k*ev f t) (hv:Ft f c):Ft g c :=
  J1 hc (p:=f) (q:=[k]) (fun t=>by rw [h]; simp only [ev]; grind) hv
theorem Qxa {c:Rat→Int} (hc:Cut c) {f:List Rat} {L:List (List Rat)} (h:De f L) (hv:Ft f c):∃ s,s≠0∧NZ (Y4 f) c s:=by
  rcases Tn hc (Y4 f) with h1 | h1
  · exfalso
    rcases h with ⟨k,hk,hf,_⟩ | ⟨g,l,k,hk,hg,h,_⟩
    · obtain ⟨q,hq,_⟩:=Qe1 hc (hv (Ql k) (Vu hk))
      rw [hf] at hq; grind
    · exact Qw5 hc h hv (Qar hc (fun t=>by rw [hg,Xs]) h1)
  · exact h1
theorem Qkc {c:Rat→Int} (hc:Cut c) {f w u:List Rat} {L:List (List Rat)} (h:De f L) (hf:∀ t,ev f t=ev w t*ev u t) (hv:Ft w c):∃ s,s≠0∧NZ (Y4 w) c s:=by
  rcases Tn hc (Y4 w) with h1 | h1
  · exfalso
    obtain ⟨s,_,hs⟩:=Qxa hc h (J1 hc hf hv)
    refine Q1m hc ?_ hs
    have a1:Ft (Zb (Y4 w) u) c:=J1 hc (fun t=>Qj t _ _) h1
    have a2:Ft (Zb w (Y4 u)) c:=J1 hc (fun t=>Qj t _ _) hv
    refine Lr (fun t=>?_) a1 a2
    rw [Xs,G7 hf,Qj,Qj,Xs,Xs]
  · exact h1
theorem Qp4 {c:Rat→Int} (hc:Cut c) {q:Rat} (h:c q=0) {x y:Rat} (hx:c x=1) (hy:c y=-1):x≤q∧q≤y:=by
  constructor
  · rcases Qx x q with e | e
    · exact e
    · have:=hc.mono q x e (by omega); omega
  · rcases Qx q y with e | e
    · exact e
    · have:=hc.mono y q e (by omega); omega
theorem Cf {c:Rat→Int} (hc:Cut c) {p:List Rat} {q:Rat} (h:c q=0) (hv:Ft p c):ev p q=0:=by
  rcases Classical.em (ev p q=0) with e | e
  · exact e
  · obtain ⟨x,y,hx,hy,hq⟩:=hv _ (Vu e)
    obtain ⟨h1,h2⟩:=Qp4 hc h hx hy
    have:=hq q h1 h2; grind
theorem Qe5 {c:Rat→Int} (hc:Cut c) {p:List Rat} {q:Rat} {s:Int} (h:c q=0) (hv:NZ p c s):Qk (ev p q)=s:=by
  obtain ⟨d,dp,x,y,hx,hy,hq⟩:=hv
  obtain ⟨h1,h2⟩:=Qp4 hc h hx hy
  exact (hq q h1 h2).1
theorem Qhb {c:Rat→Int} (hc:Cut c) {y z:Rat} (hy:c y=-1) (hz:c z=-1):∃ q,c q=-1∧q<y∧q<z:=by
  obtain ⟨a,a1,a2⟩:=hc.dn y hy
  obtain ⟨b,b1,b2⟩:=hc.dn z hz
  rcases Qx a b with e | e
  · exact ⟨a,a2,a1,by grind⟩
  · exact ⟨b,b2,by grind,b1⟩
theorem Ep {c:Rat→Int} (hc:Cut c) {y z:Rat} (hy:c y=1) (hz:c z=1):∃ q,c q=1∧y<q∧z<q:=by
  obtain ⟨a,a1,a2⟩:=hc.up y hy
  obtain ⟨b,b1,b2⟩:=hc.up z hz
  rcases Qx a b with e | e
  · exact ⟨b,b2,by grind,b1⟩
  · exact ⟨a,a2,a1,by grind⟩
theorem Qr0 {f w u:List Rat} {L:List (List Rat)} (h:De f L) (hf:∀ t,ev f t=ev w t*ev u t) {x y:Rat} (hv:vv L x=vv L y) {c:Rat→Int} (hc:Cut c) (hx:c x=1) (hy:c y≠1):¬Ft w c:=fun hw=>by
  have hxy:x<y:=by
    rcases Qx y x with e | e
    · rcases Classical.em (y=x) with e' | e'
      · rw [e'] at hy; exact absurd hx hy
      · have:=hc.mono y x (by grind) hy; omega
    · exact e
  have hwv:=S0 h hf hxy hv
  rcases hc.val y with e | e | e
  · exact hy e
  · have:=Cf hc e hw
    have:=hwv.s
    rw [Q0.2 (by assumption)] at this
    exact hwv.n this.symm
  · obtain ⟨s,hs,hd⟩:=Qkc hc h hf hw
    obtain ⟨a,ha,hal⟩:=Qrp hc hw (Qk7 hc hd) hs
    obtain ⟨b,hb,hbr⟩:=Qcq hc hw (Qag hc hd) hs
    obtain ⟨q,q1,q2,q3⟩:=Ep hc hx ha
    obtain ⟨r,r1,r2,r3⟩:=Qhb hc hb e
    have e1:=hal q q1 (Rat.le_of_lt q3)
    have e2:=hbr r r1 (Rat.le_of_lt r2)
    have hqr:=hc.lt q1 r1
    have v1:vv L q≤vv L x:=Uu h q2
    have v2:vv L y≤vv L r:=Uu h r3
    have v3:vv L r≤vv L q:=Uu h hqr
    have s1:=(S0 h hf q2 (by omega)).s
    have s2:=(S0 h hf (x:=x) (y:=r) (by grind) (by omega)).s
    omega
theorem Qc1 {f:List Rat} {L:List (List Rat)} (h:De f L) {x y:Rat} (hxy:x<y) (hv:vv L x≠vv L y) {d:Rat} (dp:0<d):∃ q,x≤q∧q≤y∧Ql (ev f q)<d:=by
  obtain ⟨R,hR,hx,hy⟩:=Qau x y
  obtain ⟨e1,e1p,hl⟩:=loc hR h (w:=f) (u:=[1]) (fun t=>by rw [Xj]; grind)
  obtain ⟨e2,e2p,_,e2b⟩:=Zi (Ym hR f) dp
  obtain ⟨e,ep,h1,h2⟩:=min2 e1p e2p
  have key:∀ n:Nat,∀ x,Ql x≤R→x<y→vv L x≠vv L y→y-x≤(n:Rat)*e→∃ q,x≤q∧q≤y∧Ql (ev f q)<d:=by
    intro n
    induction n with
    | zero=>intro x hx hxy _ hn; rw [show ((0:Nat):Rat)=0 from rfl] at hn; exfalso; clear hl; grind
    |
     succ n ih =>
     intro x hx hxy hv hn
     have hstep:∀ z,Ql z≤R→x<z→z-x≤e→vv L x≠vv L z→Ql (ev f z)<d:=fun z hz hxz hze hv=>by
       rcases hl x z hx hz hxz (Rat.le_trans hze h1) with ⟨p,_⟩ | ⟨_,p1,p2,p3,p4⟩
       · exact absurd p hv
       · have hd:=J7 (p:=f) hx hz hR (e:=e2) (d:=d) (by rw [Yb]; clear hl ih; constructor <;> grind) e2b
         rw [←p3] at p1 p4
         clear hl ih p2 p3
         rw [Qcl] at *
         rcases Qz (ev f x) with ⟨a,a'⟩ | ⟨a,a'⟩ | ⟨a,a'⟩ <;> rcases Qz (ev f z) with ⟨b,b'⟩ | ⟨b,b'⟩ | ⟨b,b'⟩ <;> rw [a,b] at p4 <;> first | (exfalso; revert p4; decide) | skip
         all_goals first | (constructor <;> grind) | (exfalso; omega)
     rcases Qx (y-x) e with h3 | h3
     · exact ⟨y,Rat.le_of_lt hxy,Rat.le_refl,hstep y hy hxy h3 hv⟩
     · have hm:Ql (x+e)≤R:=Mj hx hy (by clear hl ih hstep; grind) (by clear hl ih hstep; grind)
       rcases Classical.em (vv L x=vv L (x+e)) with e0 | e0
       · have hn':(((n+1:Nat):Rat))=(n:Rat)+1:=by push_cast; rfl
         rw [hn'] at hn
         obtain ⟨q,q1,q2,q3⟩:=ih (x+e) hm (by clear hl ih hstep; grind) (by omega) (by clear hl ih hstep; grind)
         exact ⟨q,by clear hl ih hstep; grind,q2,q3⟩
       · exact ⟨x+e,by clear hl ih hstep; grind,by clear hl ih hstep; grind,hstep (x+e) hm (by clear hl ih hstep; grind) (by clear hl ih hstep; grind) e0⟩
  obtain ⟨n,hn⟩:=H5 (z:=y-x) ep
  exact key n x hx hxy hv hn
end Orq
