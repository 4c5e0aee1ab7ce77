/- X19 B19 W19 A19 WS19 SD2 TurnL WD18 WD19 ReadN LastN LastR LastT -/
import Derived.Test.YtbnjginelkkonaaGreatPart09
import Derived.Test.YtbnjginelkkonaaGreatPart05
import Derived.Test.YtbnjginelkkonaaGreatPart08
import Derived.Deep.Slices
import Derived.ProofKit
import Derived.OpenShut
import Derived.WideKeyArgs
import Derived.SizedLaws
set_option linter.all false

namespace Orr
open Go Go.Proofs Orq
set_option maxRecDepth 10000
theorem Ol {c:Cr} {l l':List Pt} {r1:List (List LV)×List (List LV)} {ws:List Wt} (hc:CrOk c) (hl:∀ p∈l',Sc p.c) (hn:l'.length≤1000) (h:Gl c.l c.now (Q6 (bcT l' c.now))=some ws) :
    Zw Tryz.prog 108 [.one (.ow 0 0),.agg [pts l'],.one (.int .i64 0)] [.blk 86 (Zv c (Qj l) r1)] [.one (.int .i64 0)] [.blk 86 (Zv ⟨c.now,ws,c.ev⟩ (Qj l') (Bt l' c.now))]:=by
  have hB:=I8 hl hn
  have cn:=Qel (T:=86) (c:=c) (r0:=Qj l') (r1:=r1) hc.n
  have cb:=Qcf (c:=c) (r1:=r1) hl hn hc.n
  have cg:=Qq5 (T:=86) (r0:=Qj l') (r1:=Bt l' c.now) hc hc.n (Qrl hc.n) (Int.le_refl 0) (hB.p _ hc.n) (hB.n _ hc.n) h
  refine Z1 Tryz.func108 rfl ?_
  exact ed tt [] [0] [.f rfl,.c [0] cn,.c [0] cb,.c [0] cg] rfl trivial
theorem Qch {c:Cr} {l l':List Pt} {r1:List (List LV)×List (List LV)} {e:Int} (he:e≠0) :
    Zw Tryz.prog 108 [.one (.ow 0 0),.agg [pts l'],.one (.int .i64 e)] [.blk 86 (Zv c (Qj l) r1)] [.one (.int .i64 e)] [.blk 86 (Zv c (Qj l) r1)]:=by
  refine Z1 Tryz.func108 rfl ?_
  exact ed tt [] [0] [.t (by simpa using he)] rfl trivial
theorem Q1g {lx ly:List (List LV)} {px py:List Int} {x y:LV} {d id:Int} {c:Cr} {l:List Pt} {r1:List (List LV)×List (List LV)} {ws:List Wt} (hx:IsInts lx px) (hy:IsInts ly py) (hd:Xg x y d) (hk:Cs 4294967294 1073741824 (Crv.mk px py d)) (hll:l.length≤900)
    (he:Fp l ⟨Crv.norm (Crv.mk px py d),id⟩=0) (hc:CrOk c) (hl:∀ p∈put l ⟨Crv.norm (Crv.mk px py d),id⟩,Sc p.c) (hn:(put l ⟨Crv.norm (Crv.mk px py d),id⟩).length≤1000) (h:Gl c.l c.now (Q6 (bcT (put l ⟨Crv.norm (Crv.mk px py d),id⟩) c.now))=some ws) :
    Zw Tryz.prog 64 [.one (.ow 0 0),.agg [.row lx,.row ly,x,y,.int .i64 id]] [.blk 86 (Zv c (Qj l) r1)] [.one (.int .i64 0)] [.blk 86 (Zv ⟨c.now,ws,c.ev⟩ (Qj (put l ⟨Crv.norm (Crv.mk px py d),id⟩)) (Bt (put l ⟨Crv.norm (Crv.mk px py d),id⟩) c.now))]:=by
  have cp:=Qt6 (l:=l) (id:=id) hx hy hd hk (by omega)
  rw [if_pos he,he] at cp
  have cw:=Ol (l:=l) (r1:=r1) hc hl hn h
  refine Z1 Tryz.func64 rfl ?_
  obtain ⟨b,l',rfl,rfl,_⟩:=hd
  exact ed tt [] [0] [.c [] cp,.c [0] cw] rfl trivial
theorem Quh {lx ly:List (List LV)} {px py:List Int} {x y:LV} {d id e:Int} {c:Cr} {l:List Pt} {r1:List (List LV)×List (List LV)} (hx:IsInts lx px) (hy:IsInts ly py) (hd:Xg x y d) (hk:Cs 4294967294 1073741824 (Crv.mk px py d)) (hll:l.length≤900)
    (he:Fp l ⟨Crv.norm (Crv.mk px py d),id⟩=e) (h0:e≠0) :
    Zw Tryz.prog 64 [.one (.ow 0 0),.agg [.row lx,.row ly,x,y,.int .i64 id]] [.blk 86 (Zv c (Qj l) r1)] [.one (.int .i64 e)] [.blk 86 (Zv c (Qj l) r1)]:=by
  have cp:=Qt6 (l:=l) (id:=id) hx hy hd hk (by omega)
  rw [he,if_neg h0] at cp
  have cw:=Qch (c:=c) (l:=l) (l':=l) (r1:=r1) h0
  refine Z1 Tryz.func64 rfl ?_
  obtain ⟨b,l',rfl,rfl,_⟩:=hd
  exact ed tt [] [0] [.c [] cp,.c [0] cw] rfl trivial
theorem Qui {lx ly:List (List LV)} {px py:List Int} {x y:LV} {d id:Int} {c:Cr} {l l':List Pt} {r1:List (List LV)×List (List LV)} {ws:List Wt} (hx:IsInts lx px) (hy:IsInts ly py) (hd:Xg x y d) (hk:Cs 4294967294 1073741824 (Crv.mk px py d)) (hll:l.length≤1000) (h:has l id=true) (hc:CrOk c)
    (hl':l'=l.set (Gm l id) (Pt.mk (Crv.norm (Crv.mk px py d)) id)) (hs:∀ p∈l',Sc p.c) (hw:Gl c.l c.now (Q6 (bcT l' c.now))=some ws) :
    Zw Tryz.prog 62 [.one (.ow 0 0),.agg [.row lx,.row ly,x,y,.int .i64 id]] [.blk 86 (Zv c (Qj l) r1)] [.one (.int .i64 0)] [.blk 86 (Zv ⟨c.now,ws,c.ev⟩ (Qj l') (Bt l' c.now))]:=by
  have ct1:=Q1i (l:=l) hx hy hd hk (by omega) h
  rw [←hl'] at ct1
  have cw:=Ol (c:=c) (l:=l) (l':=l') (r1:=r1) hc hs (by rw [hl',List.length_set]; omega) hw
  obtain ⟨b,r,rfl,rfl,_⟩:=hd
  refine Z1 Tryz.func62 rfl ?_
  exact ed tt [] [0] [.c [] ct1,.c [0] cw] rfl trivial
theorem Qug {id:Int} {c:Cr} {l l':List Pt} {r1:List (List LV)×List (List LV)} {ws:List Wt} (hll:l.length≤1000) (h:has l id=true) (hc:CrOk c)
    (hl':l'=l.take (Gm l id)++l.drop (Gm l id+1)) (hs:∀ p∈l',Sc p.c) (hw:Gl c.l c.now (Q6 (bcT l' c.now))=some ws) :
    Zw Tryz.prog 63 [.one (.ow 0 0),.one (.int .i64 id)] [.blk 86 (Zv c (Qj l) r1)] [.one (.int .i64 0)] [.blk 86 (Zv ⟨c.now,ws,c.ev⟩ (Qj l') (Bt l' c.now))]:=by
  have ct1:=Q1h (l:=l) (id:=id) (by omega) h
  rw [←hl'] at ct1
  have cw:=Ol (c:=c) (l:=l) (l':=l') (r1:=r1) hc hs (by rw [hl',List.length_append,List.length_take,List.length_drop]; omega) hw
  refine Z1 Tryz.func63 rfl ?_
  exact ed tt [] [0] [.c [] ct1,.c [0] cw] rfl trivial
theorem Qra {id:Int} {c:Cr} {l:List Pt} {r1:List (List LV)×List (List LV)} (hll:l.length≤1000) (h:has l id=false) :
    Zw Tryz.prog 63 [.one (.ow 0 0),.one (.int .i64 id)] [.blk 86 (Zv c (Qj l) r1)] [.one (.int .i64 5)] [.blk 86 (Zv c (Qj l) r1)]:=by
  refine Z1 Tryz.func63 rfl ?_
  exact ed tt [] [0] [.c [] (Qum (l:=l) (id:=id) (by omega) h),.c [0] (Qch (c:=c) (l:=l) (l':=l) (r1:=r1) (e:=5) (by decide))] rfl trivial
theorem Qhb {t:Rat} {l:List Pt} {c:Cr} {r1:List (List LV)×List (List LV)} (ht:Qs 900 t) (hc:Va c.now) (h:0<Qu c.now t) :
    Zw Tryz.prog 27 [.one (.ow 0 0),.agg (rl t)] [.blk 86 (Zv c (Qj l) r1)] [.one (.int .i64 0),.one (.int .i64 8)] [.blk 86 (Zv c (Qj l) r1)]:=by
  have cg:=Qq7 (T:=86) (r0:=Qj l) (r1:=r1) (ht.mono (by decide)) hc h
  refine Z1 Tryz.func27 rfl ?_
  exact ed tt [] [0] [.c [] (Ge (ht.mono (by decide))),.c [0] cg] rfl trivial
theorem Qq9 {c:Cr} {r0:List (List LV)} {r1:List (List LV)×List (List LV)}:Zw Tryz.prog 39 [.one (.ow 0 0)] [.blk 86 (Zv c r0 r1)] [.one (.ow 1 0)] [.blk 86 (Zv c r0 r1),.blk 86 (Zv c r0 r1)]:=by
  refine Z1 Tryz.func39 rfl ?_
  exact ed tt [] [0,1] [] rfl trivial
end Orr

namespace Orr
open Go Go.Proofs Orq
set_option maxRecDepth 10000
theorem Qrc {zs:List RawPt} {n d:Int} {O M:List Pt} {e:Nat} {c:List (List Int)} (hz:∀ z∈zs,z.Ok) (hO:En 4 20 zs=O) (he:e≤O.length) (hd:Gs (Ya O e)) (hm:e<O.length→¬Gs (Ya O (e+1))) (hn:-9223372036854775808≤n∧n≤9223372036854775807) (hdd:-9223372036854775808≤d∧d≤9223372036854775807) (hC:Qm5 (G9 n d) c) (hM:M=Z9 W7 (M8 O e)) :
    Zw Tryz.prog 38 [.one (.row (Di zs)),.one (.int .i64 n),.one (.int .i64 d)] [] [.one (.ow 0 0),.one (.ow 1 0),.one (.bool true)] [.blk 86 (Zv (Qtm M (tq (G9 n d))) (Qj M) (Bt M (tq (G9 n d)))),.blk 134 (plB M (G9 n d) c (Pv (G9 n d) M))]:=by
  have hO4:O.length≤4:=by rw [←hO]; exact Sy _ _ (Nat.zero_le _)
  have hid:∀ p∈O,-9223372036854775808≤p.id∧p.id≤9223372036854775807:=fun p hp=>by
    rw [←hO] at hp; have:=Q3i p hp; omega
  have hlit:∀ p∈O,Qqr p:=fun p hp=>by rw [←hO] at hp; exact Qdi (by decide) p hp
  have hcl:(Ya O e).length=e:=B9 he
  have hcn:(M8 O e).length=e:=by rw [Ag,hcl]
  have hMl:M.length=e:=by rw [hM,Ve,hcn]
  have hok:∀ p∈M,Nml p.c∧Cs 10 3 p.c:=fun p hp=>by rw [hM,Mw] at hp; exact Qog hlit e p hp
  have hq:=Et n d
  obtain ⟨q,hqq⟩:∃ q,q=G9 n d:=⟨_,rfl⟩
  have cb:=Qn3 (l:=M8 O e) (by omega)
  rw [←hM] at cb
  rw [←hqq] at hq hC ⊢
  have csm:=Qnn hn hdd
  have c2:=Qkt (M:=M) (q:=q) (c:=c) (fun p hp=>⟨(hok p hp).1,(hok p hp).2.mono (by decide) (by decide)⟩) (by omega) (hq.mono (by decide)) hC
  have ctr:=Q43 (q:=q) (hq.mono (by decide))
  have hnl:=Qsc (qs:=M8 O e) (by omega) (Ln hd)
  have hnl2:J1 [] (M8 O e)=(M,0):=by rw [hM,←hnl.2,←hnl.1]
  have cs:=Qnp (zs:=Qj (Ya O e)) (qs:=M8 O e) (l:=M) (n:=q.num) (d:=(q.den:Int)) (Qdf fun p hp=>(Qhp hlit e p hp).mono (by decide) (by decide)) (by omega) hnl2 (fun p hp=>⟨(hok p hp).1,(hok p hp).2.mono (by decide) (by decide)⟩) (by omega) (Qe q.num) (Qe (q.den:Int)) (Nat.le_trans hq.1 (by decide)) (Nat.le_trans hq.2 (by decide)) (by rw [Tk]; exact hq.mono (by decide))
  rw [Tk] at cs
  rw [show Zy (Ha n 61-30) (1+Ha d 6)=q from hqq.symm] at csm
  have cp:=Qq3 hz
  rw [hO] at cp
  refine Z1 Tryz.func38 rfl ?_
  refine go tt [.c [0,1] cp] rfl trivial ?_
  have h0l:=Fv O
  refine ct 2 (S:=Unit) (fun _=>[(1,.v (.one (.int .i64 n))),(2,.v (.one (.int .i64 d))),(9,.v (.one (.row (Qj (Ya O e))))),(10,.v (.one (.row (Q3 (M8 O e)))))]) (fun _=>[.gone,.gone]) (fun _=>True) rfl ?_ (fun _ _=>?_)
  · refine lp (S:=Nat) 2 (fun L1 i=>(23,.v (.one (.int .i64 (i:Int))))::(9,.v (.one (.orow 0 5 none)))::(10,.v (.one (.orow 1 7 none)))::L1) (fun i=>[.row false 35 5 (Qj (Ml O i)),.row false 112 7 (Q3 ((Ml O i).map Pt.nrm))]) (fun i=>O.length-i) (fun i=>i≤O.length∧i≤e∧Gs (Ya O i)) 0 ⟨Nat.zero_le _,Nat.zero_le _,List.Pairwise.nil⟩ rfl (fun _ _=>rfl) (by rw [Qxi]; rfl) fun i ⟨hi,hie,hdi⟩=>?_
    have hl1:(Qj (Ml O (i+1))).length=O.length:=by rw [Fv,Io]
    have hl0:(Qj (Ml O i)).length=O.length:=by rw [Fv,Io]
    have hr0:(Q3 ((Ml O i).map Pt.nrm)).length=O.length:=by rw [Jy,List.length_map,Io]
    have hr1:(Q3 ((Ml O (i+1)).map Pt.nrm)).length=O.length:=by rw [Jy,List.length_map,Io]
    by_cases h:i<O.length
    · obtain ⟨p,hp⟩:∃ p,O[i]? = some p:=⟨_,List.getElem?_eq_getElem h⟩
      have hx:=Q2x hp
      have hxn:((Ml O i).map Pt.nrm)[i]? = some p.nrm:=by rw [List.getElem?_map,hx]; rfl
      have cw:=Sf (v:=p.id) (n:=5) (hid p (List.mem_of_getElem? hp)) (by decide)
      rw [show Ha p.id 5=p.m5.id from rfl] at cw
      refine go tt [.t (decide_eq_true (by omega)),.i i,.x (Py hx),.c [] cw,.i i,.x (Py hx),.c [] cw,.i i,.x (Py hx),.i i,.x (Uw hxn)] rfl (by simp [Qa,hl0,hr0]; omega) ?_
      rw [Qf0 hp,Qca hp]
      refine lp (S:=Nat) 2 (fun L1 j=>(12,.v (.one (.int .i64 (j:Int))))::(9,.v (.one (.orow 0 5 none)))::(10,.v (.one (.orow 1 7 none)))::L1) (fun _=>[.row false 35 5 (Qj (Ml O (i+1))),.row false 112 7 (Q3 ((Ml O (i+1)).map Pt.nrm))]) (fun j=>i-j) (fun j=>j≤i∧∀ k x,k<j→O[k]? = some x→x.m5.id≠p.m5.id) 0 ⟨Nat.zero_le _,fun k x h=>absurd h (Nat.not_lt_zero _)⟩ rfl (fun _ _=>rfl) rfl fun j ⟨hj,hjn⟩=>?_
      by_cases hji:j<i
      · obtain ⟨x,hxj⟩:∃ x,O[j]? = some x:=⟨_,List.getElem?_eq_getElem (by omega)⟩
        have g1:=Qpf (i:=i+1) (show j<i+1 by omega) hxj
        have g2:=Qpf (i:=i+1) (show i<i+1 by omega) hp
        by_cases hq:x.m5.id=p.m5.id
        · have hnd:¬Gs (Ya O (i+1)):=fun hD=>by
            have:=List.pairwise_iff_getElem.1 hD j i (by rw [B9 (by omega)]; omega) (by rw [B9 (by omega)]; omega) hji
            refine this ?_
            have e1:(Ya O (i+1))[j]? = some x.m5:=by unfold Ya; rw [List.getElem?_map,List.getElem?_take,if_pos (by omega),hxj]; rfl
            have e2:(Ya O (i+1))[i]? = some p.m5:=by unfold Ya; rw [List.getElem?_map,List.getElem?_take,if_pos (by omega),hp]; rfl
            rw [(List.getElem?_eq_some_iff.1 e1).2,(List.getElem?_eq_some_iff.1 e2).2]; exact hq
          have hie2:i=e:=by
            rcases Nat.lt_or_ge i e with h3 | h3
            · exact absurd (Q18 hd h3) hnd
            · omega
          have c1:(Qj (Ml O (i+1))).take i=Qj (Ya O e):=by rw [Qsl (by omega) (by omega),hie2]
          have c2:(Q3 ((Ml O (i+1)).map Pt.nrm)).take i=Q3 (M8 O e):=by rw [Qmh (by omega) (by omega),hie2]
          refine go tt [.t (decide_eq_true (by omega)),.i j,.x (Py g1),.i i,.x (Py g2),.t (decide_eq_true hq),.i i,.i i] rfl (by simp [Qa,hl1,hr1]; omega) ?_
          refine pz 0 rfl rfl ?_
          refine pz 1 rfl rfl ?_
          exact go tt [.t (decide_eq_true (by omega))] rfl trivial (rc () trivial (by rw [c1,c2]; rfl))
        · refine go tt [.t (decide_eq_true (by omega)),.i j,.x (Py g1),.i i,.x (Py g2),.f (decide_eq_false hq)] rfl (by simp [Qa,hl1]; omega) ?_
          exact rd (j+1) (by omega) ⟨hji,fun k y hk hy=>by
            rcases Nat.lt_or_ge k j with h3 | h3
            · exact hjn k y h3 hy
            · have:k=j:=by omega
              subst this; rw [hxj] at hy; injection hy with hy; rw [←hy]; exact hq⟩ rfl
      · have hji2:j=i:=by omega
        rw [hji2] at hjn
        have hD:=Qrt hp hdi hjn
        have hle:i+1≤e:=by
          rcases Nat.lt_or_ge i e with h3 | h3
          · exact h3
          · have:i=e:=by omega
            rw [this] at hD h
            exact absurd hD (hm h)
        refine go tt [.f (decide_eq_false (by omega)),.f (decide_eq_false (by omega))] rfl (by simp [Qa]; omega) ?_
        exact rd (i+1) (by omega) ⟨h,hle,hD⟩ rfl
    · have hiO:i=O.length:=by omega
      have hie2:i=e:=by omega
      have c1:Qj (Ml O i)=Qj (Ya O e):=by rw [←hie2,hiO,Qiq]
      have c2:Q3 ((Ml O i).map Pt.nrm)=Q3 (M8 O e):=by rw [←hie2,hiO,Qiq]; rfl
      refine go tt [] rfl trivial ?_
      rw [c1,c2]
      refine pz 0 rfl rfl ?_
      refine pz 1 rfl rfl ?_
      exact go tt [.f (decide_eq_false (by omega))] rfl trivial (rc () trivial rfl)
  · exact ed tt [] [3,2] [.c [] cb,.c [] csm,.c [2] c2,.c [] ctr,.c [3] cs,.g 96 true rfl] rfl trivial
end Orr

namespace Orr
open Go Go.Proofs Orq
set_option maxRecDepth 10000
theorem Qcn:Qc Tryz.prog 29 [] [.one (.bool true)]:=by
  have hq:Qs 900 (Zy 0 0):=⟨by decide,by decide⟩
  have ez:Zy 0 0=0:=by decide
  have hsc:∀ p∈[(⟨Ue 3 4,7⟩:Pt)],Sc p.c:=fun p hp=>by
    rw [List.mem_singleton.1 hp]; exact Qy8 (by decide) (by decide)
  have zp:IsPts 4294967294 1073741824 (Qj [⟨Ue 3 4,7⟩]) [⟨Ue 3 4,7⟩]:=Qoz fun p hp=>(hsc p hp).pt
  have hnl:J1 [] [(⟨Ue 3 4,7⟩:Pt)]=([⟨Ue 3 4,7⟩],0):=rfl
  have cn:=Qnp (qs:=[⟨Ue 3 4,7⟩]) zp (by decide) hnl hsc (by decide) Wh Wh (by decide) (by decide) hq
  rw [ez] at cn
  have hv:Va (tq 0):=Q4k (by rw [←ez]; exact hq)
  have hpl:Yq (Ju (tq 0)) [(⟨Ue 3 4,7⟩:Pt)]=([⟨Ue 3 4,7⟩],[]):=Yw _ (by decide)
  have hbr:Bt [(⟨Ue 3 4,7⟩:Pt)] (tq 0)=([Xe ⟨Ue 3 4,7⟩],[]):=by unfold Bt; rw [hpl]; rfl
  have hbc:Qtm [(⟨Ue 3 4,7⟩:Pt)] (tq 0)=⟨tq 0,[],0⟩:=by unfold Qtm bcT; rw [hpl]; rfl
  rw [hbr,hbc] at cn
  have hok:CrOk ⟨tq 0,[],0⟩:=⟨hv,fun w hw=>(by cases hw),by decide⟩
  have cw:=Qem (c:=⟨tq 0,[],0⟩) (r0:=Qj [⟨Ue 3 4,7⟩]) (r2:=[]) (w:=⟨Ue 3 4,7⟩)
  have cc:=Bv (T:=86) (r0:=Qj [⟨Ue 3 4,7⟩]) (r1:=([Xe ⟨Ue 3 4,7⟩],[])) hok
  refine Z1 Tryz.func29 rfl ?_
  exact en tt [.c [] (Q1a (by decide) (by decide)),.c [0] cn,.g 15 false rfl,.f rfl,.c [0] cw,.g 25 true rfl,.g 29 true rfl,.c [0] cc] rfl rfl trivial
end Orr

namespace Orr
open Go Go.Proofs Orq
set_option maxRecDepth 10000
abbrev tw2 (p:Int×Int):List LV:=[.int .i64 p.1,.int .i64 p.2]
def Ji (l:List (Int×Int)):List (List LV):=l.map tw2
theorem J9 (l:List (Int×Int)):(Ji l).length=l.length:=by simp [Ji]
theorem Qmy (l:List (Int×Int)):∀ c∈Ji l,c.length=2:=fun c hc=>by obtain ⟨x,_,rfl⟩:=List.mem_map.1 hc; rfl
theorem Qgp {l:List (Int×Int)} {i:Nat} {c:Int×Int} (h:l[i]? = some c):(Ji l)[i]? = some (tw2 c):=Zm h
def ltI (x y:Int×Int):Bool:=decide (x.1<y.1) || (decide (y.1=x.1) && decide (x.2<y.2))
def gid (m:Pt×Pt):Int×Int:=(m.1.id,m.2.id)
theorem Qfb {lt:Int×Int→Int×Int→Bool} {O:List (Int×Int)} {c:Int×Int} {k m:Nat} {l2:List (List LV)} (hk:k≤O.length) (hp:Yx lt O c O.length=k) (hm:m=O.length-k) (h2:l2.take m=((Ji O++[tw2 c]).drop k).take m) :
    ((Ji O++[tw2 c]).take (k+1)++(l2.take m++(Ji O++[tw2 c]).drop (k+1+m))).set k (tw2 c)=Ji (Wg lt O c):=by
  rw [h2,←List.append_assoc,Qig (Ji O) (tw2 c) (tw2 c) (by rw [J9]; omega) (by rw [J9]; omega)]
  simp [Wg,hp,Ji,List.map_take,List.map_drop]
theorem Qq2 {c:Cr} {r0 r1:List (List LV)} {G:List (Pt×Pt)} (hG:G.length≤1000000):Zw Tryz.prog 93 [.one (.ow 0 0)] [.blk 86 (Zv c r0 (r1,Xu G))] [.one (.row (Ji (Z9 ltI (G.map gid))))] [.blk 86 (Zv c r0 (r1,Xu G))]:=by
  have hgl:(Xu G).length=G.length:=by simp [Xu]
  have hgl2:(r1,Xu G).snd.length=G.length:=hgl
  refine Z1 Tryz.func93 rfl ?_
  refine go tt [.o 3 94 2] rfl trivial ?_
  refine lp (S:=Nat) 2 (fun L1 i=>(13,.v (.one (.int .i64 (i:Int))))::(3,.v (.one (.orow 1 2 none)))::L1) (fun i=>[.blk 86 (Zv c r0 (r1,Xu G)),.row false 94 2 (Ji (Z9 ltI ((G.map gid).take i)))]) (fun i=>G.length-i) (fun i=>i≤G.length) 0 (Nat.zero_le _) rfl (fun _ _=>rfl) rfl fun i hi=>?_
  by_cases hlt:i<G.length
  · obtain ⟨g,hg⟩:∃ g,G[i]? = some g:=⟨_,List.getElem?_eq_getElem hlt⟩
    have hgg:(Xu G)[i]? = some (A0 g):=Zm hg
    obtain ⟨x,hx⟩:∃ x,x=gid g:=⟨_,rfl⟩
    have hst:Z9 ltI ((G.map gid).take (i+1))=Wg ltI (Z9 ltI ((G.map gid).take i)) x:=Bf (by rw [List.getElem?_map,hg,hx]; rfl)
    obtain ⟨O,hO⟩:∃ O,O=Z9 ltI ((G.map gid).take i):=⟨_,rfl⟩
    have hOl:O.length=i:=by rw [hO,Ve,List.length_take,List.length_map]; omega
    have hrl:=J9 O
    rw [←hO] at hst ⊢
    have hz:∀ y∈[tw2 x],y.length=2:=fun y hy=>by rw [List.mem_singleton.1 hy]; rfl
    have h77:∀ y∈Ji O++[tw2 x],y.length=2:=fun y hy=>by
      rcases List.mem_append.1 hy with hy | hy
      · exact Qmy O y hy
      · exact hz y hy
    refine go tt [.t (decide_eq_true (by omega)),.x hgg,.i 0,.i 1] rfl (by simp [Qa]) ?_
    refine lp (S:=Nat) 4 (fun L1 k=>(7,.v (.one (.int .i64 (k:Int))))::L1) (fun k=>[.blk 86 (Zv c r0 (r1,Xu G)),.row false 94 2 (Ji O),.blk 212 (A0 g),.blk 94 (tw2 x)]) id (fun k=>k≤O.length∧Yx ltI O x k=Yx ltI O x O.length) (Ji O).length ⟨by omega,by rw [hrl]⟩ rfl (fun _ _=>rfl) (by rw [hx]; rfl) fun k ⟨hk,hp⟩=>?_
    cases k with
    |
     zero =>
     have hp:Yx ltI O x O.length=0:=by rw [←hp]; rfl
     refine go tt [.g 28 false (by simp),.f rfl,.s (sz:=2) hz,.r 69 (eI (b:=((0+1:Nat):Int)) (by simp)),.i (0+1),.i (0),.s (sz:=2) (fun y hy=>h77 y (List.mem_of_mem_take hy)),.i (O.length),.i (0)] rfl (by simp [Qa,J9]; omega) ?_
     exact rd (i+1) (by omega) hlt (by rw [hst,←Qfb (l2:=(Ji O++[tw2 x]).take ((Ji O++[tw2 x]).length-0)) (k:=0) (m:=O.length) (by omega) hp (by omega) (by congr 1; exact List.take_of_length_le (by simp))]; rfl)
    |
     succ k =>
     obtain ⟨y,hy⟩:∃ y,O[k]? = some y:=⟨_,List.getElem?_eq_getElem (by omega)⟩
     have hgy:=Qgp hy
     by_cases h1:x.1<y.1
     · have hlc:ltI x y=true:=by simp [ltI,h1]
       refine go tt [.g 28 true (by simp),.r 31 (eI (b:=(k:Int)) (by simp)),.i k,.i 0,.x hgy,.i 0,.g 38 true (decide_eq_true h1),.t rfl,.r 62 (eI (b:=(k:Int)) (by simp))] rfl (by simp [Qa,J9]; omega) ?_
       exact rd k (by simp) ⟨by omega,by rw [←hp,C6 hy hlc]⟩ rfl
     by_cases h2:y.1=x.1
     · by_cases h3:x.2<y.2
       · have hlc:ltI x y=true:=by simp [ltI,h2,h3]
         refine go tt [.g 28 true (by simp),.r 31 (eI (b:=(k:Int)) (by simp)),.i k,.i 0,.x hgy,.i 0,.g 38 false (decide_eq_false h1),.r 41 (eI (b:=(k:Int)) (by simp)),.i k,.i 0,.x hgy,.i 0,.g 48 true (decide_eq_true h2),.r 51 (eI (b:=(k:Int)) (by simp)),.i k,.i 1,.x hgy,.i 1,.t (decide_eq_true h3),.r 62 (eI (b:=(k:Int)) (by simp))] rfl (by simp [Qa,J9]; omega) ?_
         exact rd k (by simp) ⟨by omega,by rw [←hp,C6 hy hlc]⟩ rfl
       · have hlc:ltI x y=false:=by simp [ltI,h2]; omega
         have hp:Yx ltI O x O.length=k+1:=by rw [←hp,Pn hy hlc]
         refine go tt [.g 28 true (by simp),.r 31 (eI (b:=(k:Int)) (by simp)),.i k,.i 0,.x hgy,.i 0,.g 38 false (decide_eq_false h1),.r 41 (eI (b:=(k:Int)) (by simp)),.i k,.i 0,.x hgy,.i 0,.g 48 true (decide_eq_true h2),.r 51 (eI (b:=(k:Int)) (by simp)),.i k,.i 1,.x hgy,.i 1,.f (decide_eq_false h3),.s (sz:=2) hz,.r 69 (eI (b:=((k+1+1:Nat):Int)) (by simp)),.i (k+1+1),.i (k+1),.s (sz:=2) (fun y hy=>h77 y (List.mem_of_mem_drop (List.mem_of_mem_take hy))),.i (O.length-(k+1)),.i (k+1)] rfl (by simp [Qa,J9]; omega) ?_
         exact rd (i+1) (by omega) hlt (by rw [hst,←Qfb (l2:=((Ji O++[tw2 x]).drop (k+1)).take ((Ji O++[tw2 x]).length-(k+1))) (k:=k+1) (m:=O.length-(k+1)) (by omega) hp (by omega) (by congr 1; exact List.take_of_length_le (by simp))]; rfl)
     · have hlc:ltI x y=false:=by simp [ltI,h1,h2]
       have hp:Yx ltI O x O.length=k+1:=by rw [←hp,Pn hy hlc]
       refine go tt [.g 28 true (by simp),.r 31 (eI (b:=(k:Int)) (by simp)),.i k,.i 0,.x hgy,.i 0,.g 38 false (decide_eq_false h1),.r 41 (eI (b:=(k:Int)) (by simp)),.i k,.i 0,.x hgy,.i 0,.g 48 false (decide_eq_false h2),.f rfl,.s (sz:=2) hz,.r 69 (eI (b:=((k+1+1:Nat):Int)) (by simp)),.i (k+1+1),.i (k+1),.s (sz:=2) (fun y hy=>h77 y (List.mem_of_mem_drop (List.mem_of_mem_take hy))),.i (O.length-(k+1)),.i (k+1)] rfl (by simp [Qa,J9]; omega) ?_
       exact rd (i+1) (by omega) hlt (by rw [hst,←Qfb (l2:=((Ji O++[tw2 x]).drop (k+1)).take ((Ji O++[tw2 x]).length-(k+1))) (k:=k+1) (m:=O.length-(k+1)) (by omega) hp (by omega) (by congr 1; exact List.take_of_length_le (by simp))]; rfl)
  · obtain rfl:i=G.length:=by omega
    rw [List.take_of_length_le (by simp)]
    exact ed tt [1] [0] [.f (decide_eq_false (by omega))] rfl trivial
theorem Q08 {l:List (Int×Int)} (hl:l.length≤1000000):Qc Tryz.prog 92 [.one (.row (Ji l)),.one (.row (Ji l))] [.one (.bool true)]:=by
  have hll:=J9 l
  refine Z1 Tryz.func92 rfl ?_
  refine go tt [.f (decide_eq_false (fun h=>h rfl))] rfl trivial ?_
  refine lp (S:=Nat) 0 (fun L1 i=>(5,.v (.one (.int .i64 (i:Int))))::L1) (fun _=>[]) (fun i=>l.length-i) (fun i=>i≤l.length) 0 (Nat.zero_le _) rfl (fun _ _=>rfl) rfl fun i hi=>?_
  by_cases h:i<l.length
  · obtain ⟨x,hx⟩:∃ x,l[i]? = some x:=⟨_,List.getElem?_eq_getElem h⟩
    refine go tt [.t (decide_eq_true (by omega)),.x (Qgp hx),.x (Qgp hx),.f (by simp)] rfl (by simp [Qa] <;> omega) ?_
    exact rd (i+1) (by omega) h rfl
  · exact en tt [.f (decide_eq_false (by omega))] rfl rfl trivial
theorem Qg9 {c c':Cr} {l l' m:List Pt} {a:Tm} {r:List (List LV)×List (List LV)} (hm:m.length≤1000000) (hr:r=Bt m a):Zw Tryz.prog 40 [.one (.ow 0 0),.one (.ow 1 0)] [.blk 86 (Zv c (Qj l) r),.blk 86 (Zv c' (Qj l') r)] [.one (.bool true)] [.blk 86 (Zv c (Qj l) r),.blk 86 (Zv c' (Qj l') r)]:=by
  have hg:=Jx (Ju a) m.length m (Nat.le_refl _)
  obtain ⟨G,hG⟩:∃ G,G=(Yq (Ju a) m).2:=⟨_,rfl⟩
  rw [←hG] at hg
  have hGl:G.length≤1000000:=by omega
  have cM:=fun (c:Cr) (r0 r1:List (List LV))=>Qq2 (c:=c) (r0:=r0) (r1:=r1) hGl
  have cS:=Q08 (l:=Z9 ltI (G.map gid)) (by rw [Ve,List.length_map]; omega)
  by_cases h0:m.length=0
  · have e:r=([],Xu G):=by
      rw [hr,hG]
      obtain rfl:=List.eq_nil_of_length_eq_zero h0
      rfl
    rw [e]
    refine Z1 Tryz.func40 rfl ?_
    exact ed tt [] [0,1] [.c [0] Qhc,.c [1] Qhc,.g 22 true rfl,.g 27 true rfl,.c [0] (cM c _ _),.c [1] (cM c' _ _),.c [] cS] rfl trivial
  · obtain ⟨w,hw,_⟩:=Yc (Ju a) m.length m (Nat.le_refl _) (by omega)
    have e:r=([Xe w],Xu G):=by rw [hr,hG]; unfold Bt; rw [hw]; rfl
    rw [e]
    refine Z1 Tryz.func40 rfl ?_
    exact ed tt [] [0,1] [.c [0] Qem,.c [1] Qem,.g 22 true (decide_eq_true rfl),.g 27 true rfl,.c [0] (cM c _ _),.c [1] (cM c' _ _),.c [] cS] rfl trivial
end Orr

namespace Orr
open Go Go.Proofs Orq
set_option maxRecDepth 10000
end Orr

namespace Orr
open Go Go.Proofs Orq
set_option maxRecDepth 10000
theorem Qvb {p:Pt}:Qc Tryz.prog 53 [.agg (Al p)] [.agg (Xe p)]:=w tt Tryz.func53 rfl [] rfl rfl trivial
end Orr

namespace Orr
open Go
theorem Qwm (c:Int) (l:List Int):Z7 (l.map (· * c))=Z7 l*c.natAbs:=by
  have key:∀ (l:List Int) (g:Nat),(l.map (· * c)).foldl (fun g z=>Nat.gcd g z.natAbs) (g*c.natAbs)=l.foldl (fun g z=>Nat.gcd g z.natAbs) g*c.natAbs:=by
    intro l
    induction l with
    | nil=>intro g; rfl
    |
     cons z l ih =>
     intro g
     simp only [List.map_cons,List.foldl_cons,Int.natAbs_mul,Nat.gcd_mul_right]
     exact ih _
  have:=key l 0
  rwa [Nat.zero_mul] at this
theorem Qju {l:List Int} {c:Int} (hc:c≠0) (ht:Qk l):Qk (l.map (· * c)):=by
  have h:=Qbt (l:=l.map (· * c)) (m:=l.length) (by simp) (fun j y hj hy=>by rw [List.getElem?_eq_none (by simpa using hj)] at hy; cases hy) (fun h0=>⟨l.getD (l.length-1) 0*c,by rw [List.getElem?_map,getD_some (by omega)]; rfl,Int.mul_ne_zero (Xc ht h0) hc⟩)
  unfold Qk
  rw [h,List.take_of_length_le (by simp)]
theorem Qxp {k:Crv} (h:Nml k) {c:Int} (hc:c<0):Crv.norm ⟨k.x.map (· * c),k.y.map (· * c),k.d*c⟩=k:=by
  obtain ⟨hx,hy,hd,hg⟩:=h
  obtain ⟨K,hK⟩:∃ K:Crv,K=⟨k.x.map (· * c),k.y.map (· * c),k.d*c⟩:=⟨_,rfl⟩
  have hdc:k.d*c<0:=Int.mul_neg_of_pos_of_neg hd hc
  have hd':K.d'=k.d*c:=by rw [hK]; exact if_neg (by show ¬k.d*c=0; omega)
  have tx:trim K.x=k.x.map (· * c):=by rw [hK]; exact Qju (by omega) hx
  have ty:trim K.y=k.y.map (· * c):=by rw [hK]; exact Qju (by omega) hy
  have e:k.d*c::(k.x.map (· * c)++k.y.map (· * c))=(k.d::(k.x++k.y)).map (· * c):=by simp
  have hG:K.g=c:=by
    unfold Crv.g
    rw [hd',tx,ty,if_pos hdc,e,Qwm,hg]; omega
  have back:∀ l:List Int,(l.map (· * c)).map (· / c)=l:=fun l=>by
    rw [List.map_map]
    conv=>rhs; rw [←List.map_id l]
    exact List.map_congr_left fun z _=>Int.mul_ediv_cancel z (by omega)
  rw [←hK]
  unfold Crv.norm
  rw [hG,tx,ty,hd',back,back,Int.mul_ediv_cancel _ (by omega),show trim k.x=k.x from hx,show trim k.y=k.y from hy]
theorem Qqd {M:List Pt} (hs:Jj M) {i j:Nat} {p r:Pt} (hij:i<j) (hi:M[i]? = some p) (hj:M[j]? = some r):p.id<r.id:=by
  obtain ⟨h1,e1⟩:=List.getElem?_eq_some_iff.1 hi
  obtain ⟨h2,e2⟩:=List.getElem?_eq_some_iff.1 hj
  rw [←e1,←e2]
  exact List.pairwise_iff_getElem.1 hs i j h1 h2 hij
theorem Ql0 {M:List Pt} (hs:Jj M) {i:Nat} {p:Pt} (h:M[i]? = some p):Gm M p.id=i :=
  Qbf (fun j r hj hr=>Qqd hs hj hr h) (.inr ⟨p,h,Int.lt_irrefl _⟩)
theorem Q7i {M:List Pt} (hs:Jj M) {i:Nat} {p:Pt} (h:M[i]? = some p):has M p.id=true:=by
  unfold has; rw [Ql0 hs h,h]; exact decide_eq_true rfl
theorem Qap {M:List Pt} {i:Nat} (hi:i<M.length) (j:Nat):(M.take i++M.drop (i+1))[j]? = if j<i then M[j]? else M[j+1]? := by
  by_cases h:j<i
  · rw [if_pos h,List.getElem?_append_left (by rw [List.length_take]; omega),List.getElem?_take,if_pos h]
  · rw [if_neg h,List.getElem?_append_right (by rw [List.length_take]; omega),List.length_take,List.getElem?_drop]
    congr 1; omega
theorem Qh8 {M:List Pt} {i:Nat} (hi:i<M.length):(M.take i++M.drop (i+1)).length+1=M.length:=by
  rw [List.length_append,List.length_take,List.length_drop]; omega
theorem Qja {M:List Pt} (hs:Jj M) {i:Nat} {p:Pt} (h:M[i]? = some p):Gm (M.take i++M.drop (i+1)) p.id=i:=by
  have hi:=(List.getElem?_eq_some_iff.1 h).1
  refine Qbf (fun j r hj hr=>?_) ?_
  · rw [Qap hi,if_pos hj] at hr; exact Qqd hs hj hr h
  · by_cases hl:i+1<M.length
    · refine .inr ⟨M[i+1],?_,?_⟩
      · rw [Qap hi,if_neg (Nat.lt_irrefl _)]; exact List.getElem?_eq_getElem hl
      · have:=Qqd hs (Nat.lt_succ_self i) h (List.getElem?_eq_getElem hl); omega
    · left; have:=Qh8 hi; omega
theorem Qwx {M:List Pt} (hs:Jj M) {i:Nat} {p:Pt} (h:M[i]? = some p):has (M.take i++M.drop (i+1)) p.id=false:=by
  have hi:=(List.getElem?_eq_some_iff.1 h).1
  unfold has
  rw [Qja hs h,Qap hi,if_neg (Nat.lt_irrefl _)]
  cases hn:M[i+1]? with
  | none=>rfl
  |
   some r =>
   have:=Qqd hs (Nat.lt_succ_self i) h hn
   exact decide_eq_false (by omega)
theorem Qyg {M:List Pt} (hs:Jj M) {i:Nat} {p:Pt} (h:M[i]? = some p):put (M.take i++M.drop (i+1)) p=M:=by
  have hi:=(List.getElem?_eq_some_iff.1 h).1
  have hl:(M.take i).length=i:=by rw [List.length_take]; omega
  unfold put
  rw [Qja hs h,List.take_append_of_le_length (by omega),List.take_of_length_le (by omega),List.drop_append_of_le_length (by omega),List.drop_of_length_le (by omega),List.nil_append]
  have e:M=M.take i++M.drop i:=(List.take_append_drop i M).symm
  conv=>rhs; rw [e,List.drop_eq_getElem_cons hi,(List.getElem?_eq_some_iff.1 h).2]
theorem Qy9 {M:List Pt} (hs:Jj M) {i:Nat} {p:Pt} (h:M[i]? = some p):M.set (Gm M p.id) p=M:=by
  rw [Ql0 hs h]
  apply List.ext_getElem?
  intro j
  rw [List.getElem?_set]
  split
  · rename_i e
    subst e
    rw [if_pos (List.getElem?_eq_some_iff.1 h).1,h]
  · rfl
end Orr

namespace Orr
open Go Go.Proofs Orq
set_option maxRecDepth 10000
theorem Qa4 {x:List Int} {i:Nat} {z:Int} (h:x[i]? = some z):Vp ((x.map (· * -5)).take i)++[Zq (z*-5)]=Vp ((x.map (· * -5)).take (i+1)):=by
  rw [List.take_succ,List.getElem?_map,h]; simp [Vp]
theorem Qfe {z:Int} {s:Nat} (h:Qn z≤s):Qn (z*-5)≤s+3:=Nat.le_trans (Q0 _ _) (Nat.add_le_add h (by decide))
theorem Q9v {k:Crv} {s n:Nat} (h:Cs s n k):Cs (s+3) n ⟨k.x.map (· * -5),k.y.map (· * -5),k.d*-5⟩ :=
  ⟨fun z hz=>by obtain ⟨w,hw,rfl⟩:=List.mem_map.1 hz; exact Qfe (h.x w hw),fun z hz=>by obtain ⟨w,hw,rfl⟩:=List.mem_map.1 hz; exact Qfe (h.y w hw),Qfe h.d,by simpa using h.lx,by simpa using h.ly⟩
theorem Q2m {ws:List Wt} {l:List Ct} (h:ws.map (·.c)=Q6 l) (ho:∀ c∈l,Cp c.p):∀ x∈Q6 (ws.map (·.c)),Cp x.p:=fun x hx=>by
  have:=Rh hx
  rw [h] at this
  exact ho x (Rh this)
end Orr

namespace Orr
open Go Go.Proofs Orq
set_option maxRecDepth 10000
set_option maxHeartbeats 8000000 in
theorem Qb2 {zs:List RawPt} {n d k:Int} (hz:∀ z∈zs,z.Ok) (hn:-9223372036854775808≤n∧n≤9223372036854775807) (hdd:-9223372036854775808≤d∧d≤9223372036854775807) (hk:-9223372036854775808≤k∧k≤9223372036854775807):Qc Tryz.prog 12 [.one (.row (Di zs)),.one (.int .i64 n),.one (.int .i64 d),.one (.int .i64 k)] [.one (.bool true)]:=by
  obtain ⟨e,he,hd,hm⟩:=Q6y (En 4 20 zs)
  have hq0:=Et 30 0
  have cb:=Qrc (n:=30) (d:=0) hz rfl he hd hm (by decide) (by decide) (Zaj (hq0.mono (by decide))) rfl
  obtain ⟨O,hO⟩:∃ O,O=En 4 20 zs:=⟨_,rfl⟩
  have hO4:O.length≤4:=by rw [hO]; exact Sy _ _ (Nat.zero_le _)
  have hlit:∀ p∈O,Qqr p:=fun p hp=>by rw [hO] at hp; exact Qdi (by decide) p hp
  rw [←hO] at cb he hd
  obtain ⟨M,hM⟩:∃ M,M=Z9 W7 (M8 O e):=⟨_,rfl⟩
  rw [←hM] at cb
  obtain ⟨q,hq⟩:∃ q,q=G9 30 0:=⟨_,rfl⟩
  rw [←hq] at cb hq0
  have hcn:(M8 O e).length=e:=by rw [Ag,B9 he]
  have hMl:M.length=e:=by rw [hM,Ve,hcn]
  have hMs:Jj M:=by rw [hM]; exact Dm (Ln hd)
  have hMd:Gs M:=by rw [hM]; exact Qrs (Qmq _).symm (Ln hd)
  have hok:∀ p∈M,Nml p.c∧Cs 10 3 p.c:=fun p hp=>by
    rw [hM,Mw] at hp
    exact Qog hlit e p hp
  have hsc:∀ p∈M,Sc p.c:=fun p hp=>⟨(hok p hp).1,(hok p hp).2.mono (by decide) (by decide)⟩
  have hln:M.length≤1000:=by omega
  have hv:Va (tq q):=Q4k (hq0.mono (by decide))
  have S:=Zat hsc hln hMd
  obtain ⟨c0,hc0⟩:∃ c0,c0=Qtm M (tq q):=⟨_,rfl⟩
  have hst:KSt (bcT M) (Bt M) c0 (Bt M (tq q)):=by rw [hc0]; exact Q6a S hv
  have hn0:c0.now=tq q:=by rw [hc0]; rfl
  have hev0:c0.ev=0:=by rw [hc0]; rfl
  rw [←hc0] at cb
  have hal:(Qbz M).length≤1000000:=by
    rw [Qte]
    have:M.length*(M.length*2)≤4*(4*2):=Nat.mul_le_mul (by omega) (Nat.mul_le_mul (by omega) (Nat.le_refl 2))
    omega
  have csm:=Qnn hn hdd
  obtain ⟨t,ht⟩:∃ t,t=G9 n d:=⟨_,rfl⟩
  have htq:Qs 900 t:=by rw [ht]; exact (Et n d).mono (by decide)
  rw [show Zy (Ha n 61-30) (1+Ha d 6)=t from ht.symm] at csm
  have ctt:=Q43 (q:=t) (htq.mono (by decide))
  obtain ⟨c1,r1,a1,a2,hS,hadv⟩:∃ (c1:Cr) (r1:List (List LV)×List (List LV)) (a1 a2:Int),KSt (bcT M) (Bt M) c1 r1∧Zw Tryz.prog 27 [.one (.ow 0 0),.agg (rl t)] [.blk 86 (Zv c0 (Qj M) (Bt M (tq q)))] [.one (.int .i64 a1),.one (.int .i64 a2)] [.blk 86 (Zv c1 (Qj M) r1)]:=by
    by_cases hp:q≤t
    · obtain ⟨K,c',E,h1,h2,h3,h4,h5,h6,h7⟩:=Q52 S (Qei hsc) (fun a _=>Q0r) hal htq hst (by rw [hn0,Qjt]; exact B7.2 hp)
      exact ⟨c',_,_,_,h4,Q1f (l:=M) (K:=K) htq hsc hln hst.inv.ok (by rw [hev0]; omega) (by rw [hn0,Qjt]; exact B7.2 hp) h2⟩
    · exact ⟨c0,_,_,_,hst,Qhb (l:=M) (r1:=Bt M (tq q)) htq hst.inv.ok.n (by rw [hn0,Qjt]; exact Wq.2 (Rat.not_le.1 hp))⟩
  have hcrl:=Jy M
  refine Z1 Tryz.func12 rfl ?_
  refine go tt [.c [0,1] cb,.f rfl,.c [] csm,.c [] ctt,.c [0] hadv,.c [0,3] Qq9,.f rfl] rfl trivial ?_
  by_cases hM0:M.length=0
  · exact en tt [.t (decide_eq_true (by omega)),.c [] Qcn] rfl rfl trivial
  have hw1:Ha k (M.length:Int)=k % (M.length:Int):=if_neg (by omega)
  have hw2:=Int.emod_nonneg k (b:=(M.length:Int)) (by omega)
  have hw3:=Int.emod_lt_of_pos k (b:=(M.length:Int)) (by omega)
  obtain ⟨j,hj⟩:∃ j:Nat,(j:Int)=k % (M.length:Int):=⟨(k % (M.length:Int)).toNat,by omega⟩
  have cwi:=Sf (v:=k) (n:=(M.length:Int)) hk (by omega)
  rw [hw1,←hj] at cwi
  rw [←hcrl] at cwi
  obtain ⟨p,hp⟩:∃ p,M[j]? = some p:=⟨_,List.getElem?_eq_getElem (by omega)⟩
  obtain ⟨hpn,hpc⟩:=hok p (List.mem_of_getElem? hp)
  have hpid:has M p.id=true:=Q7i hMs hp
  obtain ⟨X,hX⟩:∃ X,X=p.c.x.map (· * -5):=⟨_,rfl⟩
  obtain ⟨Y,hY⟩:∃ Y,Y=p.c.y.map (· * -5):=⟨_,rfl⟩
  obtain ⟨D,hD⟩:∃ D,D=p.c.d*-5:=⟨_,rfl⟩
  have hXl:X.length=p.c.x.length:=by rw [hX,List.length_map]
  have hYl:Y.length=p.c.y.length:=by rw [hY,List.length_map]
  have hc5:Cs 13 3 (Crv.mk X Y D):=by rw [hX,hY,hD]; exact Q9v hpc
  have hnm:Crv.norm (Crv.mk X Y D)=p.c:=by rw [hX,hY,hD]; exact Qxp hpn (by decide)
  have hm5:=fun {z:Int} (h:Qn z≤10)=>Yj (a:=z) (b:=-5) (by omega) (by decide)
  have hto:=fun {z:Int} (h:Qn z≤10)=>Qq8 (z:=z*-5) (by have:=Qfe h; omega)
  have hfr:=fun {z:Int} (h:Qn z≤10)=>Of (z:=z) (by omega)
  have cof:=W3 (n:=-5) (by decide)
  have cmd:=hm5 hpc.d
  have ctd:=hto hpc.d
  rw [←hD] at cmd ctd
  refine go tt [.f (decide_eq_false (by omega)),.c [] cwi,.x (Uw hp),.c [] (hfr hpc.d),.c [] cof,.c [] cmd,.c [] ctd] rfl (by simp [Qa] <;> omega) ?_
  refine oz2 15 0 29 2 rfl rfl ?_
  have hxl:(p.c.x.map Zq).length=p.c.x.length:=by simp
  have hyl:(p.c.y.map Zq).length=p.c.y.length:=by simp
  have hx3:=hpc.lx
  have hy3:=hpc.ly
  have hXt:∀ i,i≤p.c.x.length→(Vp (X.take i)).length=i:=fun i hi=>by rw [Eg,List.length_take]; omega
  have hYt:∀ i,i≤p.c.y.length→(Vp (Y.take i)).length=i:=fun i hi=>by rw [Eg,List.length_take]; omega
  refine lp (S:=Nat) 7 (fun L1 i=>(71,.v (.one (.int .i64 (i:Int))))::L1) (fun i=>[.blk 86 (Zv c1 (Qj M) r1),.blk 134 (plB M q [[-q.num,(q.den:Int)],[1]] (Pv q M)),.blk 49 (fr t),.blk 86 (Zv c1 (Qj M) r1),.blk 112 (Al p),.blk 31 [.orow 6 2 none,.nils,sg D,mg D],.row false 29 2 (Vp (X.take i))]) (fun i=>p.c.x.length-i) (fun i=>i≤p.c.x.length) 0 (Nat.zero_le _) rfl (fun _ _=>rfl) rfl fun i hi=>?_
  by_cases hlt:i<p.c.x.length
  · obtain ⟨z,hz⟩:∃ z,p.c.x[i]? = some z:=⟨_,List.getElem?_eq_getElem hlt⟩
    have hzs:=hpc.x z (List.mem_of_getElem? hz)
    have hs:∀ y∈[Zq (z*-5)],y.length=2:=fun y hy=>by rw [List.mem_singleton.1 hy]; rfl
    refine go tt [.t (decide_eq_true (by omega)),.x (Zm (f:=Zq) hz),.c [] (hfr hzs),.c [] cof,.c [] (hm5 hzs),.c [] (hto hzs),.s (sz:=2) hs] rfl (by simp [Qa,hXt i hi]; omega) ?_
    exact rd (i+1) (by omega) hlt (by rw [hX,←Qa4 hz]; rfl)
  obtain rfl:i=p.c.x.length:=by omega
  rw [List.take_of_length_le (by omega)]
  refine go tt [.f (decide_eq_false (by omega))] rfl trivial ?_
  refine pz 6 rfl rfl ?_
  refine oz2 15 1 29 2 rfl rfl ?_
  refine lp (S:=Nat) 8 (fun L1 i=>(96,.v (.one (.int .i64 (i:Int))))::L1) (fun i=>[.blk 86 (Zv c1 (Qj M) r1),.blk 134 (plB M q [[-q.num,(q.den:Int)],[1]] (Pv q M)),.blk 49 (fr t),.blk 86 (Zv c1 (Qj M) r1),.blk 112 (Al p),.blk 31 [.row (Vp X),.orow 7 2 none,sg D,mg D],.gone,.row false 29 2 (Vp (Y.take i))]) (fun i=>p.c.y.length-i) (fun i=>i≤p.c.y.length) 0 (Nat.zero_le _) rfl (fun _ _=>rfl) rfl fun i hi=>?_
  by_cases hlt:i<p.c.y.length
  · obtain ⟨z,hz⟩:∃ z,p.c.y[i]? = some z:=⟨_,List.getElem?_eq_getElem hlt⟩
    have hzs:=hpc.y z (List.mem_of_getElem? hz)
    have hs:∀ y∈[Zq (z*-5)],y.length=2:=fun y hy=>by rw [List.mem_singleton.1 hy]; rfl
    refine go tt [.t (decide_eq_true (by omega)),.x (Zm (f:=Zq) hz),.c [] (hfr hzs),.c [] cof,.c [] (hm5 hzs),.c [] (hto hzs),.s (sz:=2) hs] rfl (by simp [Qa,hYt i hi]; omega) ?_
    exact rd (i+1) (by omega) hlt (by rw [hY,←Qa4 hz]; rfl)
  obtain rfl:i=p.c.y.length:=by omega
  rw [List.take_of_length_le (by omega)]
  -- it Kb
  obtain ⟨⟨ok1,kk1⟩,hcs,hr1⟩:=hS
  obtain ⟨w2,l1,l2⟩:=Qa1 ok1.n ok1.l (Q6 (bcT M c1.now))
  have okw:=Orr.lay_ok c1.ev ok1 ok1.n (S.ok.p _ ok1.n) (S.ok.n _ ok1.n) l1
  have cturn:=Qui (c:=c1) (l:=M) (l':=M) (r1:=r1) (Zk X) (Zk Y) (Qe D) (hc5.mono (by decide) (by decide)) (by omega) hpid ok1 (by rw [hnm]; exact (Qy9 hMs hp).symm) hsc l1
  obtain ⟨s,hs⟩:∃ s,s=Bt M c1.now:=⟨_,rfl⟩
  rw [←hs] at cturn hr1
  rw [hr1] at cturn
  rw [hr1]
  have cal:=Qg9 (c:=c1) (c':=⟨c1.now,w2,c1.ev⟩) (l:=M) (l':=M) (m:=M) (a:=c1.now) (r:=s) (by omega) hs
  have cC1:=Bv (T:=86) (c:=c1) (r0:=Qj M) (r1:=s) ok1
  have cC2:=Bv (T:=86) (c:=⟨c1.now,w2,c1.ev⟩) (r0:=Qj M) (r1:=s) okw
  have hcs2:Q6 ((⟨c1.now,w2,c1.ev⟩:Cr).l.map (·.c))=Q6 (c1.l.map (·.c)):=by
    show Q6 (w2.map (·.c))=_
    rw [l2,hcs]
  rw [hcs2] at cC2
  have hC5:∀ x∈Q6 (c1.l.map (·.c)),Cp x.p:=Q2m hcs (S.ok.p _ ok1.n)
  have hCl:(Q6 (c1.l.map (·.c))).length≤1000000:=by rw [U7,List.length_map]; have:=ok1.k; omega
  have csc:=Qub (l:=Q6 (c1.l.map (·.c))) hC5 hCl
  have cE1:=Qcg (T:=86) (c:=c1) (r0:=Qj M) (r1:=s)
  have cE2:=Qcg (T:=86) (c:=⟨c1.now,w2,c1.ev⟩) (r0:=Qj M) (r1:=s)
  -- away
  have hji:=(List.getElem?_eq_some_iff.1 hp).1
  obtain ⟨N,hN⟩:∃ N,N=M.take j++M.drop (j+1):=⟨_,rfl⟩
  have hNl:=Qh8 hji
  rw [←hN] at hNl
  have hNm:∀ x∈N,x∈M:=fun x hx=>by
    rw [hN] at hx
    rcases List.mem_append.1 hx with h | h
    · exact List.mem_of_mem_take h
    · exact List.mem_of_mem_drop h
  have hNs:∀ x∈N,Sc x.c:=fun x hx=>hsc x (hNm x hx)
  have hBN:=I8 hNs (by omega)
  obtain ⟨w3,m1,m2⟩:=Qa1 okw.n okw.l (Q6 (bcT N c1.now))
  have okw3:=Orr.lay_ok c1.ev okw okw.n (hBN.p _ okw.n) (hBN.n _ okw.n) m1
  have cdr:=Qug (c:=⟨c1.now,w2,c1.ev⟩) (l:=M) (l':=N) (r1:=s) (by omega) hpid okw (by rw [Ql0 hMs hp]; exact hN) hNs m1
  have hgo:has N p.id=false:=by rw [hN]; exact Qwx hMs hp
  have cde:=Qra (c:=⟨c1.now,w3,c1.ev⟩) (l:=N) (r1:=Bt N c1.now) (id:=p.id) (by omega) hgo
  -- and back
  have hnp:Crv.norm (Crv.mk p.c.x p.c.y p.c.d)=p.c:=Crv.norm_of hpn
  have hpb:put N ⟨Crv.norm (Crv.mk p.c.x p.c.y p.c.d),p.id⟩=M:=by rw [hnp,hN]; exact Qyg hMs hp
  have hpe:Fp N ⟨Crv.norm (Crv.mk p.c.x p.c.y p.c.d),p.id⟩=0:=by
    unfold Fp
    rw [if_neg (by rw [hgo]; decide),if_neg (by omega)]
  obtain ⟨w4,n1,n2⟩:=Qa1 okw3.n okw3.l (Q6 (bcT M c1.now))
  have okw4:=Orr.lay_ok c1.ev okw3 okw3.n (S.ok.p _ ok1.n) (S.ok.n _ ok1.n) n1
  have cpu:=Q1g (c:=⟨c1.now,w3,c1.ev⟩) (l:=N) (r1:=Bt N c1.now) (ws:=w4) (Zk p.c.x) (Zk p.c.y) (Qe p.c.d) (hpc.mono (by decide) (by decide)) (by omega) hpe okw3 (by rw [hpb]; exact hsc) (by rw [hpb]; omega) (by rw [hpb]; exact n1)
  rw [hpb] at cpu
  have hpe6:Fp M ⟨Crv.norm (Crv.mk p.c.x p.c.y p.c.d),p.id⟩=6:=by
    unfold Fp
    rw [if_pos hpid]
  have cpe:=Quh (c:=⟨c1.now,w4,c1.ev⟩) (l:=M) (r1:=Bt M c1.now) (Zk p.c.x) (Zk p.c.y) (Qe p.c.d) (hpc.mono (by decide) (by decide)) (by omega) hpe6 (by decide)
  rw [←hs] at cpu cpe
  have cal2:=Qg9 (c:=c1) (c':=⟨c1.now,w4,c1.ev⟩) (l:=M) (l':=M) (m:=M) (a:=c1.now) (r:=s) (by omega) hs
  have cC4:=Bv (T:=86) (c:=⟨c1.now,w4,c1.ev⟩) (r0:=Qj M) (r1:=s) okw4
  have hcs4:Q6 ((⟨c1.now,w4,c1.ev⟩:Cr).l.map (·.c))=Q6 (c1.l.map (·.c)):=by
    show Q6 (w4.map (·.c))=_
    rw [n2,hcs]
  rw [hcs4] at cC4
  have hne:decide (c1.ev≠c1.ev)=false:=decide_eq_false (fun h=>h rfl)
  refine go tt [.f (decide_eq_false (by omega))] rfl trivial ?_
  refine pz 7 rfl rfl ?_
  refine go tt [.c [3] cturn,.g 123 false rfl,.lo,.c [0,3] cal,.g 129 false rfl,.lo,.c [0] cC1,.lo,.c [3] cC2,.c [] csc,.g 141 false rfl,.lo,.c [0] cE1,.lo,.c [3] cE2,.f hne,.c [3] cdr,.g 157 false rfl,.c [3] cde,.g 164 false rfl,.c [] Qvb,.c [3] cpu,.g 171 false rfl,.c [] Qvb,.c [3] cpe,.f rfl] rfl trivial ?_
  exact en tt [.lo,.c [0,3] cal2,.g 181 true rfl,.lo,.c [0] cC1,.lo,.c [3] cC4,.c [] csc,.g 192 true rfl,.c [] Qcn] rfl rfl trivial
end Orr

namespace Orr
open Go Go.Proofs
variable {H:Type} {enc:TypeId×Value→H} {w:World} {base:Nat} {spare:Nat→Bool} {held:Bool}
theorem Fg {α:Type} {l:List α} {n i:Nat} (h:l.length=n) (hi:i<n):∃ x,l[i]? = some x:=⟨l[i]'(by omega),List.getElem?_eq_getElem (by omega)⟩
end Orr

namespace Orr
open Go Go.Proofs Go.ChangeShapes Go.WideShapes Go.ChangeAt Go.RowKit Go.WideElems
theorem Q1y {w:World} {a:Addr} {v:Value} (h:w.cell? a=some v):a.spot=none∧a.block<w.heap.size:=by
  simp only [World.cell?] at h
  split at h
  · rename_i c t fr hc
    split at h
    · cases h
    · rename_i hs
      refine ⟨by cases e:a.spot with | none=>rfl | some _=>simp [e] at hs,?_⟩
      exact (Array.getElem?_eq_some_iff.1 hc).1
  · cases h
theorem Q0o {a:Addr} (h:a.spot=none) (n m:Nat):(a.add n).add m=⟨a.block,a.off+n+m,none⟩:=by
  obtain ⟨b,o,s⟩:=a
  simp only at h
  subst h
  simp only [Addr.add]
  split
  · rename_i h; subst h
    split
    · rename_i h; subst h; simp
    · simp
  · split
    · rename_i h; subst h; simp
    · simp
def fr0 (w:World):Fr:=⟨fun b=>b<w.heap.size,fun _=>False,w,fun _=>False,fun _=>none⟩
theorem hs0 (w:World):HS (fr0 w) (ob []) (nw []) (fun _=>none) (fun _=>False) w where
  size:=Nat.le_refl _
  kept:=fun b hb=>⟨hb,rfl,Iff.rfl⟩
  ids:=fun i h=>h.elim
  nj:=fun i h=>by rw [Qfs] at h; cases h
  io:=⟨rfl,rfl⟩
  blk:=fun i=>by rw [Qfs]; trivial
  nk:=fun i g c m h _=>by rw [Qfs] at h; cases h
  inj:=fun i j g c m c' m' h _ _ _=>by rw [Qfs] at h; cases h
  mlt:=fun b h=>h.elim
  m0:=fun b _ h=>h.elim
  un:=fun i _=>⟨rfl,rfl⟩
  uj:=fun i _ h=>h.elim
theorem Q30 {w w':World} {bl:Nat→OB} {U:Nat→Prop} {E:Ke} {M:Nat→Prop} (h:HS (fr0 w) bl U E M w') {p:MemPlace} (hp:p.block<w.heap.size):w.sameAt w' p:=by
  cases p with
  | cell b off=>simp only [World.sameAt,World.cell?]; rw [(h.kept b hp).2.1]; rfl
  | map b=>exact (h.kept b hp).2.1
theorem Q2l {w w':World} {bl:Nat→OB} {U:Nat→Prop} {E:Ke} {M:Nat→Prop} (h:HS (fr0 w) bl U E M w') (may:MemPlace→Prop):w.keptBut w' may:=by
  refine ⟨h.io.1,h.io.2,fun i hi=>?_⟩
  have e:w'.heap[i]? = w.heap[i]? := (h.kept i hi).2.1
  rw [e]
  cases w.heap[i]? with
  | none=>rfl
  | some o=>cases o <;> simp
end Orr

namespace Orr
open Go Go.Proofs Go.ChangeShapes Go.WideShapes Go.ChangeAt Go.RowKit Go.WideElems
theorem P9 {H:Type} {P:Program} {e:TypeId}:∀ {l:List (DataW H)} {i:Nat} {d:DataW H},l[i]? = some d→∀ n∈d.weights P e,n∈DataW.weightsAll P e l
  | [],i,d,h,_,_=>by simp at h
  |
   x::l,0,d,h,n,hn=>by
   simp at h; subst h
   simp only [DataW.weightsAll,List.mem_append]; exact .inl hn
  |
   x::l,i+1,d,h,n,hn=>by
   simp only [DataW.weightsAll,List.mem_append]
   exact .inr (P9 (i:=i) (by simpa using h) n hn)
theorem Hf {H:Type} {P:Program} {t:TypeId} {fs:Array Field} {parts:List (DataW H)} (hu:P.underlying t=some (.struct fs)) (hz:((DataW.agg parts).weights P t).all (· ≤ reachBytes)=true) {i:Nat} {f:Field} {d:DataW H} (hf:fs[i]? = some f) (hd:parts[i]? = some d) :
    (d.weights P f.type).all (· ≤ reachBytes)=true:=by
  rw [List.all_eq_true] at hz ⊢
  intro n hn
  refine hz n ?_
  simp only [DataW.weights,hu]
  exact DataW.weights_mem_each (j:=i) (by rw [List.getElem?_map]; simp [hf]) hd n hn
variable {H:Type} {enc:TypeId×Value→H} {w:World}
abbrev O0:Nat→Prop:=fun _=>False
def Els (w:World) (cs:List Value) (ls:List LV):Prop:=cs.length=ls.length∧∀ (j:Nat) (u:LV),ls[j]? = some u→∃ v,cs[j]? = some v∧LRep w O0 v u
theorem Df {α:Type} {rw_:α→List LV} {Ok:α→Prop} {t e sz:Nat} (hu:Tryz.prog.underlying t=some (.slice e)) (hc:Tryz.prog.cellsOf e=sz) (hsz:0<sz) (hb:1≤Tryz.prog.bytesOf e) (hw:∀ z,(rw_ z).length=sz)
    (elem:∀ fuel cs x,DataW.trod enc Tryz.prog w 0 (fun _=>true) true fuel e cs=some x→(x.1.weights Tryz.prog e).all (· ≤ reachBytes)=true→∃ z,Ok z∧Els w cs (rw_ z))
    {fuel:Nat} {cs:List Value} {x:DataW H×List MemPlace} (h:DataW.trod enc Tryz.prog w 0 (fun _=>true) true fuel t cs=some x) (hz:(x.1.weights Tryz.prog t).all (· ≤ reachBytes)=true) :
    ∃ (v:Value) (l:List α),cs=[v]∧(∀ z∈l,Ok z)∧l.length<2^47∧LRep w O0 v (.row (l.map rw_)):=by
  rcases Go.Deep.open_slice hu h with ⟨rfl,_⟩ | ⟨a',len,cap,m,n,D,Pl,rfl,_,hlc,hcap,hm,rfl,hr⟩
  · refine ⟨_,[],rfl,by simp,Nat.two_pow_pos 47,?_⟩
    exact LRep.row none 0 0 0 0 [] (fun _ _=>.bool true) (Nat.le_refl _) (by decide) (by simp) (by simp) (by simp) (by simp)
  · simp only [if_true] at hm
    subst hm
    rw [List.all_eq_true] at hz
    have hlen:len<2^47:=by
      have h0:=hz ((len+(m-len))*Tryz.prog.bytesOf e) (by simp [DataW.weights,hu])
      have h1:len≤(len+(m-len))*Tryz.prog.bytesOf e:=by
        have:=Nat.mul_le_mul (Nat.le_add_right len (m-len)) hb
        omega
      have h2:(len+(m-len))*Tryz.prog.bytesOf e≤reachBytes:=by simpa using h0
      exact Nat.lt_of_le_of_lt (Nat.le_trans h1 h2) reachBytes_lt
    have hel:∀ i,i<len→((D i).weights Tryz.prog e).all (· ≤ reachBytes)=true:=fun i hi=>by
      rw [List.all_eq_true]
      intro k hk
      refine hz k ?_
      simp only [DataW.weights,hu]
      refine List.mem_cons_of_mem _ (List.mem_append.2 (.inl (P9 (i:=i) ?_ k hk)))
      rw [List.getElem?_map,List.getElem?_range hi]; rfl
    have hone:∀ i,i<len→∃ z cs',Ok z∧Els w cs' (rw_ z)∧∀ j,j<sz→w.cell? ((a'.add (i*sz)).add j)=cs'[j]? := fun i hi=>by
      obtain ⟨cs',hcs,htr⟩:=hr i (by omega)
      rw [hc] at hcs
      obtain ⟨_,hl,hcell⟩:=World.cells?_some hcs
      obtain ⟨z,hz1,hz2⟩:=elem _ _ _ htr (hel i hi)
      refine ⟨z,cs',hz1,hz2,fun j hj=>?_⟩
      rw [hcell j (by omega)]
    have hspot:0<len→a'.spot=none∧a'.block<w.heap.size:=fun h0=>by
      obtain ⟨z,cs',_,⟨hl,_⟩,h3⟩:=hone 0 h0
      have h4:=h3 0 hsz
      have:(a'.add (0*sz)).add 0=a':=by simp [Addr.add]
      rw [this,List.getElem?_eq_getElem (by rw [hl,hw]; exact hsz)] at h4
      exact Q1y h4
    obtain ⟨l,hll,hl⟩:∃ l:List α,l.length=len∧∀ i z,l[i]? = some z→Ok z∧∃ cs',Els w cs' (rw_ z)∧∀ j,j<sz→w.cell? ((a'.add (i*sz)).add j)=cs'[j]? := by
      have:∀ k,k≤len→∃ l:List α,l.length=k∧∀ i z,l[i]? = some z→Ok z∧∃ cs',Els w cs' (rw_ z)∧∀ j,j<sz→w.cell? ((a'.add (i*sz)).add j)=cs'[j]? := by
        intro k
        induction k with
        | zero=>intro _; exact ⟨[],rfl,fun i z h=>by simp at h⟩
        |
         succ k ih =>
         intro hk
         obtain ⟨l,h1,h2⟩:=ih (by omega)
         obtain ⟨z,cs',h3,h4,h5⟩:=hone k (by omega)
         refine ⟨l++[z],by simp [h1],fun i y hy=>?_⟩
         rcases Nat.lt_or_ge i l.length with hi | hi
         · rw [List.getElem?_append_left hi] at hy; exact h2 i y hy
         · rw [List.getElem?_append_right hi] at hy
           have:i-l.length=0:=by
             rcases Nat.eq_zero_or_pos (i-l.length) with h | h
             · exact h
             · rw [List.getElem?_eq_none (by rw [List.length_singleton]; exact h)] at hy; cases hy
           rw [this] at hy
           simp at hy
           subst hy
           have:i=k:=by omega
           subst this
           exact ⟨h3,cs',h4,h5⟩
      exact this len (Nat.le_refl _)
    refine ⟨_,l,rfl,fun z hz=>?_,by rw [hll]; exact hlen,?_⟩
    · obtain ⟨i,hi⟩:=List.mem_iff_getElem?.1 hz
      exact (hl i z hi).1
    · have key:LRep w O0 (.slice (some a') (l.map rw_).length m) (.row (l.map rw_)):=by
        have hgl:∀ i c,(l.map rw_)[i]? = some c→∃ z,l[i]? = some z∧c=rw_ z∧i<len:=fun i c h=>by
          rw [List.getElem?_map] at h
          cases e:l[i]? with
          | none=>rw [e] at h; cases h
          | some z=>rw [e] at h; simp at h; exact ⟨z,rfl,h.symm,by have:=(List.getElem?_eq_some_iff.1 e).1; omega⟩
        have hcl:∀ i c,(l.map rw_)[i]? = some c→∃ cs':List Value,Els w cs' c∧∀ j,j<sz→w.cell? ⟨a'.block,a'.off+i*sz+j,none⟩=cs'[j]? := fun i c h=>by
          obtain ⟨z,hz,rfl,hi⟩:=hgl i c h
          obtain ⟨_,cs',h1,h2⟩:=hl i z hz
          refine ⟨cs',h1,fun j hj=>?_⟩
          rw [←h2 j hj,Q0o (hspot (by omega)).1]
        refine LRep.row (some a') m sz a'.block a'.off (l.map rw_) (fun i j=>(w.cell? ⟨a'.block,a'.off+i*sz+j,none⟩).getD (.bool true)) (by rw [List.length_map]; omega) ?_ ?_ ?_ ?_ ?_
        · have:maxLen=2^63-1:=by rfl
          omega
        · intro c hc2
          obtain ⟨z,_,rfl⟩:=List.mem_map.1 hc2
          exact hw z
        · intro h0
          rw [List.length_map,hll] at h0
          obtain ⟨hs,hb⟩:=hspot h0
          refine ⟨?_,hb,by simp [O0]⟩
          obtain ⟨b,o,s⟩:=a'
          simp only at hs
          rw [hs]
        · intro i c hi j hj
          obtain ⟨z,_,rfl,_⟩:=hgl i c hi
          obtain ⟨cs',⟨h1,_⟩,h2⟩:=hcl i _ hi
          have hjs:j<sz:=by rw [←hw z]; exact hj
          rw [h2 j hjs,List.getElem?_eq_getElem (by rw [h1]; exact hj)]; rfl
        · intro i c hi j u hu2
          obtain ⟨z,_,rfl,_⟩:=hgl i c hi
          obtain ⟨cs',⟨h1,h3⟩,h2⟩:=hcl i _ hi
          obtain ⟨v,hv,hr2⟩:=h3 j u hu2
          have hjs:j<sz:=by rw [←hw z]; exact (List.getElem?_eq_some_iff.1 hu2).1
          show LRep w O0 ((w.cell? ⟨a'.block,a'.off+i*sz+j,none⟩).getD (.bool true)) u
          rw [h2 j hjs,hv]; exact hr2
      rw [List.length_map,hll] at key
      exact key
abbrev Zbs (x:Nat):List LV:=[.int .u32 (x:Int)]
theorem Qz1:∀ fuel cs x,DataW.trod enc Tryz.prog w 0 (fun _=>true) true fuel 169 cs=some x→(x.1.weights Tryz.prog 169).all (· ≤ reachBytes)=true→∃ z:Nat,z<4294967296∧Els w cs (Zbs z):=by
  intro fuel cs x h _
  obtain ⟨n,rfl,_,hwf⟩:=DataW.trod_int Tryz.underlying169 h
  have hn:0≤n∧n<4294967296:=by
    have:0≤n∧n≤4294967295:=by simpa [Lit.wf,IntKind.min,IntKind.max,IntKind.signed,IntKind.bits] using hwf
    omega
  refine ⟨n.toNat,by omega,rfl,fun j u hu=>?_⟩
  match j,hu with
  |
   0,hu =>
   simp at hu; subst hu
   refine ⟨_,rfl,?_⟩
   rw [show max n 0=n by omega]
   exact .int _ _
  | j+1,hu=>simp at hu
set_option maxRecDepth 20000 in
theorem Qau:∀ fuel cs x,DataW.trod enc Tryz.prog w 0 (fun _=>true) true fuel 29 cs=some x→(x.1.weights Tryz.prog 29).all (· ≤ reachBytes)=true→∃ z:RawInt,z.Ok∧Els w cs (Eq z):=by
  intro fuel cs x h hz
  obtain ⟨xs,n,_,rfl,hl,hxs,hf⟩:=DataW.trod_struct Tryz.underlying29 h
  have hl:cs.length=2:=hl
  match cs,hl with
  |
   [v0,v1],_ =>
   obtain ⟨z0,hz0⟩:=Fg (i:=0) hxs (by decide)
   obtain ⟨z1,hz1⟩:=Fg (i:=1) hxs (by decide)
   have h0:=hf 0 _ rfl
   have h1:=hf 1 _ rfl
   rw [hz0] at h0; rw [hz1] at h1
   obtain ⟨b,e0,_⟩:=DataW.trod_bool Tryz.underlying4 h0
   have f0:v0=.bool b:=(List.cons.inj (show [v0]=[Value.bool b] from e0)).1
   have hw1:=Hf Tryz.underlying29 hz (i:=1) rfl (d:=z1.1) (by rw [List.getElem?_map,hz1]; rfl)
   obtain ⟨v,l,e1,hlo,_,hrep⟩:=Df (sz:=1) (Ok:=fun u:Nat=>u<4294967296) (rw_:=Zbs) Tryz.underlying27 (by kernel_rfl) (by decide) (of_decide_eq_true (by kernel_rfl)) (fun _=>rfl) Qz1 h1 hw1
   have f1:v1=v:=(List.cons.inj (show [v1]=[v] from e1)).1
   subst f0 f1
   refine ⟨⟨b,l⟩,⟨hlo⟩,rfl,fun j u hu=>?_⟩
   match j,hu with
   | 0,hu=>simp at hu; subst hu; exact ⟨_,rfl,.bool _⟩
   | 1,hu=>simp at hu; subst hu; exact ⟨_,rfl,hrep⟩
   | j+2,hu=>simp at hu
set_option maxRecDepth 20000 in
theorem Qlz:∀ fuel cs x,DataW.trod enc Tryz.prog w 0 (fun _=>true) true fuel 35 cs=some x→(x.1.weights Tryz.prog 35).all (· ≤ reachBytes)=true→∃ z:RawPt,z.Ok∧Els w cs (rwq z):=by
  intro fuel cs x h hz
  obtain ⟨xs,n,_,rfl,hl,hxs,hf⟩:=DataW.trod_struct Tryz.underlying35 h
  have hl:cs.length=5:=hl
  match cs,hl with
  |
   [v0,v1,v2,v3,v4],_ =>
   obtain ⟨z0,hz0⟩:=Fg (i:=0) hxs (by decide)
   obtain ⟨z1,hz1⟩:=Fg (i:=1) hxs (by decide)
   have h0:=hf 0 _ rfl
   have h1:=hf 1 _ rfl
   rw [hz0] at h0; rw [hz1] at h1
   obtain ⟨id,e4,_,hwf⟩:=DataW.trod_int Tryz.underlying3 h1
   have f4:v4=.int .i64 id:=(List.cons.inj (show [v4]=[Value.int .i64 id] from e4)).1
   have hw0:=Hf Tryz.underlying35 hz (i:=0) rfl (d:=z0.1) (by rw [List.getElem?_map,hz0]; rfl)
   obtain ⟨ys,n2,_,e5,_,hys,hg⟩:=DataW.trod_struct Tryz.underlying31 h0
   rw [e5] at hw0
   obtain ⟨y0,hy0⟩:=Fg (i:=0) hys (by decide)
   obtain ⟨y1,hy1⟩:=Fg (i:=1) hys (by decide)
   obtain ⟨y2,hy2⟩:=Fg (i:=2) hys (by decide)
   have g0:=hg 0 _ rfl
   have g1:=hg 1 _ rfl
   have g2:=hg 2 _ rfl
   rw [hy0] at g0; rw [hy1] at g1; rw [hy2] at g2
   have w0:=Hf Tryz.underlying31 hw0 (i:=0) rfl (d:=y0.1) (by rw [List.getElem?_map,hy0]; rfl)
   have w1:=Hf Tryz.underlying31 hw0 (i:=1) rfl (d:=y1.1) (by rw [List.getElem?_map,hy1]; rfl)
   have w2:=Hf Tryz.underlying31 hw0 (i:=2) rfl (d:=y2.1) (by rw [List.getElem?_map,hy2]; rfl)
   obtain ⟨u0,lx,e0,hx,_,rx⟩:=Df (sz:=2) (Ok:=RawInt.Ok) (rw_:=Eq) Tryz.underlying26 (by kernel_rfl) (by decide) (of_decide_eq_true (by kernel_rfl)) (fun _=>rfl) Qau g0 w0
   obtain ⟨u1,ly,e1,hy,_,ry⟩:=Df (sz:=2) (Ok:=RawInt.Ok) (rw_:=Eq) Tryz.underlying26 (by kernel_rfl) (by decide) (of_decide_eq_true (by kernel_rfl)) (fun _=>rfl) Qau g1 w1
   obtain ⟨d,hd,hde⟩:=Qau _ _ _ g2 w2
   have f0:v0=u0:=(List.cons.inj (show [v0]=[u0] from e0)).1
   have f1:v1=u1:=(List.cons.inj (show [v1]=[u1] from e1)).1
   have hde2:Els w [v2,v3] (Eq d):=hde
   subst f0 f1 f4
   obtain ⟨q2,hq2,r2⟩:=hde2.2 0 _ rfl
   obtain ⟨q3,hq3,r3⟩:=hde2.2 1 _ rfl
   simp at hq2 hq3
   subst hq2 hq3
   refine ⟨⟨lx,ly,d,id⟩,⟨hx,hy,hd,by simpa [Lit.wf,IntKind.min,IntKind.max,IntKind.signed,IntKind.bits] using hwf⟩,rfl,fun j u hu=>?_⟩
   match j,hu with
   | 0,hu=>simp [rwq] at hu; subst hu; exact ⟨_,rfl,rx⟩
   | 1,hu=>simp [rwq] at hu; subst hu; exact ⟨_,rfl,ry⟩
   | 2,hu=>simp [rwq] at hu; subst hu; exact ⟨_,rfl,r2⟩
   | 3,hu=>simp [rwq] at hu; subst hu; exact ⟨_,rfl,r3⟩
   | 4,hu=>simp [rwq] at hu; subst hu; exact ⟨_,rfl,.int _ _⟩
   | j+5,hu=>simp [rwq] at hu
end Orr

namespace Orr
open Go Go.Proofs Go.ChangeShapes Go.WideShapes Go.ChangeAt Go.RowKit Go.WideElems
set_option maxRecDepth 20000 in
theorem Qil {f:FuncId} {fn:Func} {s:ChangeSpec} (hp:fn.params = #[24,3,3,3]) (hr:fn.resultTypes = #[4]) (hv:s.vars=[])
    (hs:∀ (H:Type) (d1 d2 d3 d4:DataW H),s.fn H [d1,d2,d3,d4]={ results:=[.lit (.bool true)],args:=[d1,d2,d3,d4] })
    (hlaid:laidOutB Tryz.prog=true) (hr22:Tryz.prog.readableRec 24=true) (hr3:Tryz.prog.readableRec 3=true) (hs22:24<Tryz.prog.types.size) (hs3:3<Tryz.prog.types.size)
    (law:∀ (zs:List RawPt) (n d k:Int),(∀ z∈zs,z.Ok)→(-2^63≤n∧n≤2^63-1)→(-2^63≤d∧d≤2^63-1)→(-2^63≤k∧k≤2^63-1)→Qc Tryz.prog f [.one (.row (Di zs)),.one (.int .i64 n),.one (.int .i64 d),.one (.int .i64 k)] [.one (.bool true)])
    {H:Type} {enc:TypeId×Value→H} {W:World} {base:Nat} {args:Array Value} {ds gs:List (DataW H)} {Qke:List MemPlace} {fresh handsOn:Bool}
    (hval:∀ (j:Nat) t v,fn.params[j]? = some t→args[j]? = some v→Value.okWide Tryz.prog W .any base t v)
    (hW:DataW.Whole enc Tryz.prog fn.params.toList s.vars false W args.toList ds gs Qke)
    (hz:(DataW.weightsEach Tryz.prog (fn.params.toList++s.plain.varTypes Tryz.prog) (ds++gs)).all (· ≤ reachBytes)=true) :
    Calls Tryz.prog f args W fun e W'=>∃ v,e=.returned v∧s.post enc Tryz.prog fn false fresh handsOn false W args v W':=by
  have hW':=hW
  obtain ⟨p,q,hA0,hV,rfl,hfz,hnd⟩:=hW
  have hA:DataW.TrodAll enc Tryz.prog W 0 (fun _=>true) true fn.params.toList args.toList ds p:=hA0
  rw [hv] at hV
  obtain ⟨rfl,rfl⟩:=trodVars_none hV
  have hlt:=hW'.lt
  rw [hp] at hA hval hz
  obtain ⟨v0,vs0,d0,ds0,p0,q0,hargs0,rfl,rfl,h0,r0⟩:=trodAll_cons hA
  obtain ⟨v1,vs1,d1,ds1,p1,q1,rfl,rfl,rfl,h1,r1⟩:=trodAll_cons r0
  obtain ⟨v2,vs2,d2,ds2,p2,q2,rfl,rfl,rfl,h2,r2⟩:=trodAll_cons r1
  obtain ⟨v3,vs3,d3,ds3,p3,q3,rfl,rfl,rfl,h3,r3⟩:=trodAll_cons r2
  obtain ⟨rfl,rfl,rfl⟩:=trodAll_nil r3
  obtain rfl:args = #[v0,v1,v2,v3]:=by cases args; simp_all
  obtain ⟨n,rfl,rfl,rfl,w1⟩:=open_int Tryz.underlying3 (hval 1 3 v1 rfl rfl) h1
  obtain ⟨d,rfl,rfl,rfl,w2⟩:=open_int Tryz.underlying3 (hval 2 3 v2 rfl rfl) h2
  obtain ⟨k,rfl,rfl,rfl,w3⟩:=open_int Tryz.underlying3 (hval 3 3 v3 rfl rfl) h3
  have hv0:=hval 0 24 v0 rfl rfl
  obtain ⟨a,len,cap,rfl⟩:=okWide_slice Tryz.underlying24 hv0
  have hz0:(d0.weights Tryz.prog 24).all (· ≤ reachBytes)=true:=by
    rw [List.all_eq_true] at hz ⊢
    intro j hj
    exact hz j (DataW.weights_mem_each (j:=0) rfl rfl j hj)
  have h0':=h0
  obtain ⟨fu,h0'⟩:=h0'
  obtain ⟨v,zs,e0,hok,hlen,hrep⟩:=Df (sz:=5) (Ok:=RawPt.Ok) (rw_:=rwq) Tryz.underlying24 (by kernel_rfl) (by decide) (of_decide_eq_true (by kernel_rfl)) (fun _=>rfl) Qlz h0' hz0
  have f0:Value.slice a len cap=v:=(List.cons.inj (show [Value.slice a len cap]=[v] from e0)).1
  subst f0
  have hd1:-2^63≤d∧d≤2^63-1:=by simpa [Lit.wf,IntKind.min,IntKind.max,IntKind.signed,IntKind.bits] using w2
  have hrep:LRep W (fun _=>False) (.slice a len cap) (.row (Di zs)):=hrep
  have hn1:-2^63≤n∧n≤2^63-1:=by simpa [Lit.wf,IntKind.min,IntKind.max,IntKind.signed,IntKind.bits] using w1
  have hk1:-2^63≤k∧k≤2^63-1:=by simpa [Lit.wf,IntKind.min,IntKind.max,IntKind.signed,IntKind.bits] using w3
  have hcall:=(law zs n d k hok hn1 hd1 hk1).2 (fr0 W) (fun _=>none) (fun _=>False) W [.slice a len cap,.int .i64 n,.int .i64 d,.int .i64 k] (hs0 W) (.cons (show XRep W (fun _=>False) (fun _=>none) (.slice a len cap) (.row (Di zs)) from hrep.x) (.cons (show XRep W (fun _=>False) (fun _=>none) (.int .i64 n) (.int .i64 n) from (LRep.int .i64 n).x) (.cons (show XRep W (fun _=>False) (fun _=>none) (.int .i64 d) (.int .i64 d) from (LRep.int .i64 d).x) (.cons (show XRep W (fun _=>False) (fun _=>none) (.int .i64 k) (.int .i64 k) from (LRep.int .i64 k).x) .nil))))
  refine hcall.mono fun e W' ⟨v,u,Bo,E',M',he,⟨hu,hBo⟩,_,hm,har⟩=>?_
  subst hu
  obtain rfl:v=.bool true:=by
    have h:LRep _ _ v (.bool true):=har
    cases h
    rfl
  refine ⟨_,he,?_⟩
  refine ⟨[d0,.lit (.int .i64 n),.lit (.int .i64 d),.lit (.int .i64 k)],[],_,[],p0++([]++([]++([]++[]))),[],hW',?_,?_,?_,Q2l hm _,fun h=>by cases h⟩
  · rw [hr,List.append_nil,hs]
    exact trodAll_cons_mk (shut_bool Tryz.underlying4 true) trodAll_mk0
  · rw [hp,List.append_nil,hs]
    have hb:∀ p∈p0,p.block<W.heap.size:=fun p hp=>hlt p (by simp [hp])
    exact trodAll_cons_mk (Trod_stays hlaid hr22 hs22 h0 (fun p hp=>Q30 hm (hb p hp)) (fun p hp=>by simpa using hb p hp)) (trodAll_cons_mk (shut_int Tryz.underlying3 w1) (trodAll_cons_mk (shut_int Tryz.underlying3 w2) (trodAll_cons_mk (shut_int Tryz.underlying3 w3) trodAll_mk0)))
  · rw [hv,List.append_nil,hs]
    rfl
end Orr
