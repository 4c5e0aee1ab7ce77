/- SC1 NewsN W1 W2 WR18 WS18 X19 B19 W19 A19 WS19 ReadN LastN LastR LastS -/
import Derived.Test.YtbnjginelkkonaaGreatPart08
import Derived.Test.YtbnjginelkkonaaGreatPart09
import Derived.Test.YtbnjginelkkonaaGreatPart05
import Derived.Deep.Slices
import Derived.ProofKit
import Derived.OpenShut
import Derived.WideKeyArgs
import Derived.SizedLaws
set_option linter.all false

namespace Orr
open Go Go.Proofs Orq
set_option maxRecDepth 10000
theorem Qz8 {l:List Nat} (hl:l.length≤1000000000):Qc Tryz.prog 211 [.one (.row (lm l)),.one (.row (lm l))] [.one (.bool true)]:=by
  have hll:(lm l).length=l.length:=by simp [lm]
  refine Z1 Tryz.func211 rfl ?_
  refine go tt [.f (decide_eq_false (fun h=>h rfl))] rfl trivial ?_
  refine lp (S:=Nat) 0 (fun L1 i=>(5,.v (.one (.int .i64 (i:Int))))::L1) (fun _=>[]) (fun i=>l.length-i) (fun i=>i≤l.length) 0 (Nat.zero_le _) rfl (fun _ _=>rfl) rfl fun i hi=>?_
  by_cases h:i<l.length
  · have hx:(lm l)[i]? = some [.int .u32 ((l[i]:Nat):Int)]:=Zq (List.getElem?_eq_getElem h)
    refine go tt [.t (decide_eq_true (by omega)),.x hx,.x hx,.f (decide_eq_false (fun h=>h rfl))] rfl (by simp [Qa]; omega) ?_
    exact rd (i+1) (by omega) h rfl
  · exact en tt [.f (decide_eq_false (by omega))] rfl rfl trivial
theorem Qz5 {z:Int} (hz:Qm z≤4294967295):Qc Tryz.prog 152 [.agg (Zv z),.agg (Zv z)] [.one (.bool true)] :=
  w tt Tryz.func152 rfl [.g 10 true (decide_eq_true rfl),.c [] (Qz8 (l:=Qw z.natAbs) (by have:=X1 (x:=z.natAbs) (k:=4294967295) hz; omega))] rfl rfl trivial
theorem Qz6 {p:List Int} (hp:Bd 4294967295 p) (hl:p.length≤1000000):Qc Tryz.prog 89 [pr p,pr p] [.one (.bool true)]:=by
  have hpl:(p.map Zv).length=p.length:=by simp
  show Qc Tryz.prog 89 [.one (.row (p.map Zv)),.one (.row (p.map Zv))] _
  refine Z1 Tryz.func89 rfl ?_
  refine go tt [.f (decide_eq_false (fun h=>h rfl))] rfl trivial ?_
  refine lp (S:=Nat) 0 (fun L1 i=>(13,.v (.one (.int .i64 (i:Int))))::L1) (fun _=>[]) (fun i=>p.length-i) (fun i=>i≤p.length) 0 (Nat.zero_le _) rfl (fun _ _=>rfl) rfl fun i hi=>?_
  by_cases h:i<p.length
  · have hx:=J7 (Xj h)
    refine go tt [.t (decide_eq_true (by omega)),.x hx,.x hx,.c [] (Qz5 (Qp hp i)),.f rfl] rfl (by simp [Qa]; omega) ?_
    exact rd (i+1) (by omega) h rfl
  · exact en tt [.f (decide_eq_false (by omega))] rfl rfl trivial
theorem Qtb {l:List Ct} (hl:∀ c∈l,Cp c.p) (hn:l.length≤1000000):Qc Tryz.prog 36 [.one (.row (Z2 l)),.one (.row (Z2 l))] [.one (.bool true)]:=by
  have hcl:=Uk l
  refine Z1 Tryz.func36 rfl ?_
  refine go tt [.f (decide_eq_false (fun h=>h rfl))] rfl trivial ?_
  refine lp (S:=Nat) 0 (fun L1 i=>(13,.v (.one (.int .i64 (i:Int))))::L1) (fun _=>[]) (fun i=>l.length-i) (fun i=>i≤l.length) 0 (Nat.zero_le _) rfl (fun _ _=>rfl) rfl fun i hi=>?_
  by_cases h:i<l.length
  · obtain ⟨c,hc⟩:∃ c,l[i]? = some c:=⟨_,List.getElem?_eq_getElem h⟩
    have hx:=Dr hc
    have hp:=hl c (List.mem_of_getElem? hc)
    refine go tt [.t (decide_eq_true (by omega)),.x hx,.x hx,.g 27 false (by simp),.x hx,.x hx,.g 40 false (by simp),.x hx,.x hx,.c [] (Qz6 (Qd hp.b (by decide)) (by have:=hp.l; omega)),.f rfl] rfl (by simp [Qa]; omega) ?_
    exact rd (i+1) (by omega) h rfl
  · exact en tt [.f (decide_eq_false (by omega))] rfl rfl trivial
end Orr

namespace Orr
open Go Go.Proofs Orq
theorem Qx4 {x y:Int} (hx:-9223372036854775808≤x∧x≤9223372036854775807) (hy:-9223372036854775808≤y∧y≤9223372036854775807):Sc (Ug x y):=⟨Crv.nml _,((Qgt hx hy).norm (by decide)).mono (by decide) (by decide)⟩
theorem Sc.pt {p:Pt} (h:Sc p.c):Qsb 4294967294 1073741824 p:=⟨h.n,h.c.mono (by decide) (by decide)⟩
end Orr

namespace Orr
open Go Go.Proofs
set_option maxRecDepth 10000
theorem Cs.up {s n s' n':Nat} {k:Crv} (h:Cs s n k) (hs:s≤s') (hn:n≤n'):Cs s' n' k:=⟨Qd h.x hs,Qd h.y hs,Nat.le_trans h.d hs,Nat.le_trans h.lx hn,Nat.le_trans h.ly hn⟩
end Orr

namespace Orr
open Go Go.Proofs Orq
set_option maxRecDepth 10000
end Orr

namespace Orr
open Go Go.Proofs Orq
set_option maxRecDepth 10000
theorem Qqp {l m:List Pt} (h:l.Perm m) (hd:Gl l):Gl m:=(h.pairwise_iff (fun h=>fun e=>h e.symm)).1 hd
end Orr

namespace Orr
open Go Go.Proofs Orq
set_option maxRecDepth 10000
theorem Qu8 {Bc:Tm→List Ct} {q:Rat} {E:List Tm} (h:Evs Bc q (tq q) E):E=[]:=by
  cases h with
  | nil h=>rfl
  | cons he h1 h2=>exact absurd h1 h2
theorem Qyv {t q:Rat}:Qt (tq t) q=1↔q<t:=by
  rw [H4]; rcases Jx t q with ⟨e,h⟩ | ⟨e,h⟩ | ⟨e,h⟩ <;> grind
theorem Qyu {t q:Rat}:Qt (tq t) q=-1↔t<q:=by
  rw [H4]; rcases Jx t q with ⟨e,h⟩ | ⟨e,h⟩ | ⟨e,h⟩ <;> grind
theorem Qph {s t:Rat}:Yt (tq s) (tq t)↔s<t:=by
  constructor
  · rintro ⟨q,h1,h2⟩
    have:=Qyu.1 h1; have:=Qyv.1 h2; grind
  · intro h
    exact ⟨(s+t) / 2,Qyu.2 (by grind),Qyv.2 (by grind)⟩
theorem Qyh (n d:Int):(-100:Rat)≤Ws n d:=by
  have h1:Uj n 61=n % 61:=rfl
  have h2:Uj d 6=d % 6:=rfl
  unfold Ws Zs
  rw [if_neg (by omega),←Fd]
  have e:(0:Rat)<((1+Uj d 6:Int):Rat):=by
    have:((0:Int):Rat)<((1+Uj d 6:Int):Rat):=Rat.intCast_lt_intCast.2 (by omega)
    exact this
  obtain ⟨a,ha⟩:∃ a,a=Uj n 61-30:=⟨_,rfl⟩
  obtain ⟨b,hb⟩:∃ b,b=1+Uj d 6:=⟨_,rfl⟩
  have h3:-30≤a:=by omega
  have h4:1≤b:=by omega
  rw [←ha]
  rw [←hb] at e ⊢
  refine Rat.not_lt.1 fun h=>?_
  have h5:=Rat.mul_le_mul_of_nonneg_right (Rat.le_of_lt h) (Rat.le_of_lt e)
  have h6:(a:Rat) / (b:Rat)*(b:Rat)=(a:Rat):=by grind
  rw [h6] at h5
  have h7:((a:Int):Rat)≤((-100*b:Int):Rat):=by rw [Rat.intCast_mul]; exact h5
  have:=Rat.intCast_le_intCast.1 h7
  omega
end Orr

namespace Orr
open Go Go.Proofs Orq
set_option maxRecDepth 10000
theorem Qgg {t:Rat} {l:List Pt} {c:Cr} {r1:List (List LV)×List (List LV)} (ht:Qs 900 t) (hc:Va c.now) (h:0<Qt c.now t) :
    Xa Tryz.prog 27 [.one (.ow 0 0),.agg (rl t)] [.blk 86 (Xw c (Qr l) r1)] [.one (.int .i64 0),.one (.int .i64 8)] [.blk 86 (Xw c (Qr l) r1)]:=by
  have cg:=Qp7 (T:=86) (r0:=Qr l) (r1:=r1) (ht.mono (by decide)) hc h
  refine Z1 Tryz.func27 rfl ?_
  exact ed tt [] [0] [.c [] (F0 (ht.mono (by decide))),.c [0] cg] rfl trivial
theorem Qp8 {c:Cr} {r0:List (List LV)} {r1:List (List LV)×List (List LV)}:Xa Tryz.prog 39 [.one (.ow 0 0)] [.blk 86 (Xw c r0 r1)] [.one (.ow 1 0)] [.blk 86 (Xw c r0 r1),.blk 86 (Xw c r0 r1)]:=by
  refine Z1 Tryz.func39 rfl ?_
  exact ed tt [] [0,1] [] rfl trivial
end Orr

namespace Orr
open Go Go.Proofs Orq
set_option maxRecDepth 10000
theorem Qqa {zs:List RawPt} {n d:Int} {O M:List Pt} {e:Nat} {c:List (List Int)} (hz:∀ z∈zs,z.Ok) (hO:Lo 4 20 zs=O) (he:e≤O.length) (hd:Gl (Yb O e)) (hm:e<O.length→¬Gl (Yb O (e+1))) (hn:-9223372036854775808≤n∧n≤9223372036854775807) (hdd:-9223372036854775808≤d∧d≤9223372036854775807) (hC:Ql7 (Ws n d) c) (hM:M=Z5 W9 (Mp O e)) :
    Xa Tryz.prog 38 [.one (.row (Cq zs)),.one (.int .i64 n),.one (.int .i64 d)] [] [.one (.ow 0 0),.one (.ow 1 0),.one (.bool true)] [.blk 86 (Xw (Qsm M (tq (Ws n d))) (Qr M) (Ih M (tq (Ws n d)))),.blk 134 (plB M (Ws n d) c (Mw (Ws n d) M))]:=by
  have hO4:O.length≤4:=by rw [←hO]; exact Se _ _ (Nat.zero_le _)
  have hid:∀ p∈O,-9223372036854775808≤p.id∧p.id≤9223372036854775807:=fun p hp=>by
    rw [←hO] at hp; have:=Q2d p hp; omega
  have hlit:∀ p∈O,Qpr p:=fun p hp=>by rw [←hO] at hp; exact Qcg (by decide) p hp
  have hcl:(Yb O e).length=e:=Bh he
  have hcn:(Mp O e).length=e:=by rw [Ek,hcl]
  have hMl:M.length=e:=by rw [hM,Vg,hcn]
  have hok:∀ p∈M,Nml p.c∧Cs 10 3 p.c:=fun p hp=>by rw [hM,Mf] at hp; exact Qnf hlit e p hp
  have hq:=Lu n d
  obtain ⟨q,hqq⟩:∃ q,q=Ws n d:=⟨_,rfl⟩
  have cb:=Qm2 (l:=Mp O e) (by omega)
  rw [←hM] at cb
  rw [←hqq] at hq hC ⊢
  have csm:=Qmp hn hdd
  have c2:=Qjx (M:=M) (q:=q) (c:=c) (fun p hp=>⟨(hok p hp).1,(hok p hp).2.mono (by decide) (by decide)⟩) (by omega) (hq.mono (by decide)) hC
  have ctr:=Qth (q:=q) (hq.mono (by decide))
  have hnl:=Qrb (qs:=Mp O e) (by omega) (Qbl hd)
  have hnl2:J0 [] (Mp O e)=(M,0):=by rw [hM,←hnl.2,←hnl.1]
  have cs:=Qmq (zs:=Qr (Yb O e)) (qs:=Mp O e) (l:=M) (n:=q.num) (d:=(q.den:Int)) (Qcd fun p hp=>(Qgu hlit e p hp).mono (by decide) (by decide)) (by omega) hnl2 (fun p hp=>⟨(hok p hp).1,(hok p hp).2.mono (by decide) (by decide)⟩) (by omega) (Qf q.num) (Qf (q.den:Int)) (Nat.le_trans hq.1 (by decide)) (Nat.le_trans hq.2 (by decide)) (by rw [Rw]; exact hq.mono (by decide))
  rw [Rw] at cs
  rw [show Zs (Uj n 61-30) (1+Uj d 6)=q from hqq.symm] at csm
  have cp:=Qp3 hz
  rw [hO] at cp
  refine Z1 Tryz.func38 rfl ?_
  refine go tt [.c [0,1] cp] rfl trivial ?_
  have h0l:=Fs O
  refine ct 2 (S:=Unit) (fun _=>[(1,.v (.one (.int .i64 n))),(2,.v (.one (.int .i64 d))),(9,.v (.one (.row (Qr (Yb O e))))),(10,.v (.one (.row (Q0 (Mp O e)))))]) (fun _=>[.gone,.gone]) (fun _=>True) rfl ?_ (fun _ _=>?_)
  · refine lp (S:=Nat) 2 (fun L1 i=>(23,.v (.one (.int .i64 (i:Int))))::(9,.v (.one (.orow 0 5 none)))::(10,.v (.one (.orow 1 7 none)))::L1) (fun i=>[.row false 35 5 (Qr (P5 O i)),.row false 112 7 (Q0 ((P5 O i).map Pt.nrm))]) (fun i=>O.length-i) (fun i=>i≤O.length∧i≤e∧Gl (Yb O i)) 0 ⟨Nat.zero_le _,Nat.zero_le _,List.Pairwise.nil⟩ rfl (fun _ _=>rfl) (by rw [Qwg]; rfl) fun i ⟨hi,hie,hdi⟩=>?_
    have hl1:(Qr (P5 O (i+1))).length=O.length:=by rw [Fs,At]
    have hl0:(Qr (P5 O i)).length=O.length:=by rw [Fs,At]
    have hr0:(Q0 ((P5 O i).map Pt.nrm)).length=O.length:=by rw [J8,List.length_map,At]
    have hr1:(Q0 ((P5 O (i+1)).map Pt.nrm)).length=O.length:=by rw [J8,List.length_map,At]
    by_cases h:i<O.length
    · obtain ⟨p,hp⟩:∃ p,O[i]? = some p:=⟨_,List.getElem?_eq_getElem h⟩
      have hx:=Q1s hp
      have hxn:((P5 O i).map Pt.nrm)[i]? = some p.nrm:=by rw [List.getElem?_map,hx]; rfl
      have cw:=Nz (v:=p.id) (n:=5) (hid p (List.mem_of_getElem? hp)) (by decide)
      rw [show Uj p.id 5=p.m5.id from rfl] at cw
      refine go tt [.t (decide_eq_true (by omega)),.i i,.x (Pc hx),.c [] cw,.i i,.x (Pc hx),.c [] cw,.i i,.x (Pc hx),.i i,.x (Gi hxn)] rfl (by simp [Qa,hl0,hr0]; omega) ?_
      rw [Qe4 hp,Qba hp]
      refine lp (S:=Nat) 2 (fun L1 j=>(12,.v (.one (.int .i64 (j:Int))))::(9,.v (.one (.orow 0 5 none)))::(10,.v (.one (.orow 1 7 none)))::L1) (fun _=>[.row false 35 5 (Qr (P5 O (i+1))),.row false 112 7 (Q0 ((P5 O (i+1)).map Pt.nrm))]) (fun j=>i-j) (fun j=>j≤i∧∀ k x,k<j→O[k]? = some x→x.m5.id≠p.m5.id) 0 ⟨Nat.zero_le _,fun k x h=>absurd h (Nat.not_lt_zero _)⟩ rfl (fun _ _=>rfl) rfl fun j ⟨hj,hjn⟩=>?_
      by_cases hji:j<i
      · obtain ⟨x,hxj⟩:∃ x,O[j]? = some x:=⟨_,List.getElem?_eq_getElem (by omega)⟩
        have g1:=Qof (i:=i+1) (show j<i+1 by omega) hxj
        have g2:=Qof (i:=i+1) (show i<i+1 by omega) hp
        by_cases hq:x.m5.id=p.m5.id
        · have hnd:¬Gl (Yb O (i+1)):=fun hD=>by
            have:=List.pairwise_iff_getElem.1 hD j i (by rw [Bh (by omega)]; omega) (by rw [Bh (by omega)]; omega) hji
            refine this ?_
            have e1:(Yb O (i+1))[j]? = some x.m5:=by unfold Yb; rw [List.getElem?_map,List.getElem?_take,if_pos (by omega),hxj]; rfl
            have e2:(Yb O (i+1))[i]? = some p.m5:=by unfold Yb; rw [List.getElem?_map,List.getElem?_take,if_pos (by omega),hp]; rfl
            rw [(List.getElem?_eq_some_iff.1 e1).2,(List.getElem?_eq_some_iff.1 e2).2]; exact hq
          have hie2:i=e:=by
            rcases Nat.lt_or_ge i e with h3 | h3
            · exact absurd (Q04 hd h3) hnd
            · omega
          have c1:(Qr (P5 O (i+1))).take i=Qr (Yb O e):=by rw [Qrk (by omega) (by omega),hie2]
          have c2:(Q0 ((P5 O (i+1)).map Pt.nrm)).take i=Q0 (Mp O e):=by rw [Qlj (by omega) (by omega),hie2]
          refine go tt [.t (decide_eq_true (by omega)),.i j,.x (Pc g1),.i i,.x (Pc g2),.t (decide_eq_true hq),.i i,.i i] rfl (by simp [Qa,hl1,hr1]; omega) ?_
          refine pz 0 rfl rfl ?_
          refine pz 1 rfl rfl ?_
          exact go tt [.t (decide_eq_true (by omega))] rfl trivial (rc () trivial (by rw [c1,c2]; rfl))
        · refine go tt [.t (decide_eq_true (by omega)),.i j,.x (Pc g1),.i i,.x (Pc g2),.f (decide_eq_false hq)] rfl (by simp [Qa,hl1]; omega) ?_
          exact rd (j+1) (by omega) ⟨hji,fun k y hk hy=>by
            rcases Nat.lt_or_ge k j with h3 | h3
            · exact hjn k y h3 hy
            · have:k=j:=by omega
              subst this; rw [hxj] at hy; injection hy with hy; rw [←hy]; exact hq⟩ rfl
      · have hji2:j=i:=by omega
        rw [hji2] at hjn
        have hD:=Qqq hp hdi hjn
        have hle:i+1≤e:=by
          rcases Nat.lt_or_ge i e with h3 | h3
          · exact h3
          · have:i=e:=by omega
            rw [this] at hD h
            exact absurd hD (hm h)
        refine go tt [.f (decide_eq_false (by omega)),.f (decide_eq_false (by omega))] rfl (by simp [Qa]; omega) ?_
        exact rd (i+1) (by omega) ⟨h,hle,hD⟩ rfl
    · have hiO:i=O.length:=by omega
      have hie2:i=e:=by omega
      have c1:Qr (P5 O i)=Qr (Yb O e):=by rw [←hie2,hiO,Qhu]
      have c2:Q0 ((P5 O i).map Pt.nrm)=Q0 (Mp O e):=by rw [←hie2,hiO,Qhu]; rfl
      refine go tt [] rfl trivial ?_
      rw [c1,c2]
      refine pz 0 rfl rfl ?_
      refine pz 1 rfl rfl ?_
      exact go tt [.f (decide_eq_false (by omega))] rfl trivial (rc () trivial rfl)
  · exact ed tt [] [3,2] [.c [] cb,.c [] csm,.c [2] c2,.c [] ctr,.c [3] cs,.g 96 true rfl] rfl trivial
end Orr

namespace Orr
open Go Go.Proofs Orq
set_option maxRecDepth 10000
theorem Qbk:Qc Tryz.prog 29 [] [.one (.bool true)]:=by
  have hq:Qs 900 (Zs 0 0):=⟨by decide,by decide⟩
  have ez:Zs 0 0=0:=by decide
  have hsc:∀ p∈[(⟨Ug 3 4,7⟩:Pt)],Sc p.c:=fun p hp=>by
    rw [List.mem_singleton.1 hp]; exact Qx4 (by decide) (by decide)
  have zp:IsPts 4294967294 1073741824 (Qr [⟨Ug 3 4,7⟩]) [⟨Ug 3 4,7⟩]:=Qnz fun p hp=>(hsc p hp).pt
  have hnl:J0 [] [(⟨Ug 3 4,7⟩:Pt)]=([⟨Ug 3 4,7⟩],0):=rfl
  have cn:=Qmq (qs:=[⟨Ug 3 4,7⟩]) zp (by decide) hnl hsc (by decide) Wj Wj (by decide) (by decide) hq
  rw [ez] at cn
  have hv:Va (tq 0):=Qy1 (by rw [←ez]; exact hq)
  have hpl:Yq (Jt (tq 0)) [(⟨Ug 3 4,7⟩:Pt)]=([⟨Ug 3 4,7⟩],[]):=Yz _ (by decide)
  have hbr:Ih [(⟨Ug 3 4,7⟩:Pt)] (tq 0)=([X5 ⟨Ug 3 4,7⟩],[]):=by unfold Ih; rw [hpl]; rfl
  have hbc:Qsm [(⟨Ug 3 4,7⟩:Pt)] (tq 0)=⟨tq 0,[],0⟩:=by unfold Qsm bcT; rw [hpl]; rfl
  rw [hbr,hbc] at cn
  have hok:CrOk ⟨tq 0,[],0⟩:=⟨hv,fun w hw=>(by cases hw),by decide⟩
  have cw:=Qdn (c:=⟨tq 0,[],0⟩) (r0:=Qr [⟨Ug 3 4,7⟩]) (r2:=[]) (w:=⟨Ug 3 4,7⟩)
  have cc:=Il (T:=86) (r0:=Qr [⟨Ug 3 4,7⟩]) (r1:=([X5 ⟨Ug 3 4,7⟩],[])) hok
  refine Z1 Tryz.func29 rfl ?_
  exact en tt [.c [] (Qz9 (by decide) (by decide)),.c [0] cn,.g 15 false rfl,.f rfl,.c [0] cw,.g 25 true rfl,.g 29 true rfl,.c [0] cc] rfl rfl trivial
end Orr

namespace Orr
open Go Go.Proofs Orq
set_option maxRecDepth 10000
abbrev tw2 (p:Int×Int):List LV:=[.int .i64 p.1,.int .i64 p.2]
def Ji (l:List (Int×Int)):List (List LV):=l.map tw2
theorem J9 (l:List (Int×Int)):(Ji l).length=l.length:=by simp [Ji]
theorem Ql1 (l:List (Int×Int)):∀ c∈Ji l,c.length=2:=fun c hc=>by obtain ⟨x,_,rfl⟩:=List.mem_map.1 hc; rfl
theorem Qfu {l:List (Int×Int)} {i:Nat} {c:Int×Int} (h:l[i]? = some c):(Ji l)[i]? = some (tw2 c):=Zq h
def ltI (x y:Int×Int):Bool:=decide (x.1<y.1) || (decide (y.1=x.1) && decide (x.2<y.2))
def gid (m:Pt×Pt):Int×Int:=(m.1.id,m.2.id)
theorem Qee {lt:Int×Int→Int×Int→Bool} {O:List (Int×Int)} {c:Int×Int} {k m:Nat} {l2:List (List LV)} (hk:k≤O.length) (hp:Y0 lt O c O.length=k) (hm:m=O.length-k) (h2:l2.take m=((Ji O++[tw2 c]).drop k).take m) :
    ((Ji O++[tw2 c]).take (k+1)++(l2.take m++(Ji O++[tw2 c]).drop (k+1+m))).set k (tw2 c)=Ji (Wi lt O c):=by
  rw [h2,←List.append_assoc,Qhk (Ji O) (tw2 c) (tw2 c) (by rw [J9]; omega) (by rw [J9]; omega)]
  simp [Wi,hp,Ji,List.map_take,List.map_drop]
theorem Qp2 {c:Cr} {r0 r1:List (List LV)} {G:List (Pt×Pt)} (hG:G.length≤1000000):Xa Tryz.prog 93 [.one (.ow 0 0)] [.blk 86 (Xw c r0 (r1,Xq G))] [.one (.row (Ji (Z5 ltI (G.map gid))))] [.blk 86 (Xw c r0 (r1,Xq G))]:=by
  have hgl:(Xq G).length=G.length:=by simp [Xq]
  have hgl2:(r1,Xq G).snd.length=G.length:=hgl
  refine Z1 Tryz.func93 rfl ?_
  refine go tt [.o 3 94 2] rfl trivial ?_
  refine lp (S:=Nat) 2 (fun L1 i=>(13,.v (.one (.int .i64 (i:Int))))::(3,.v (.one (.orow 1 2 none)))::L1) (fun i=>[.blk 86 (Xw c r0 (r1,Xq G)),.row false 94 2 (Ji (Z5 ltI ((G.map gid).take i)))]) (fun i=>G.length-i) (fun i=>i≤G.length) 0 (Nat.zero_le _) rfl (fun _ _=>rfl) rfl fun i hi=>?_
  by_cases hlt:i<G.length
  · obtain ⟨g,hg⟩:∃ g,G[i]? = some g:=⟨_,List.getElem?_eq_getElem hlt⟩
    have hgg:(Xq G)[i]? = some (E6 g):=Zq hg
    obtain ⟨x,hx⟩:∃ x,x=gid g:=⟨_,rfl⟩
    have hst:Z5 ltI ((G.map gid).take (i+1))=Wi ltI (Z5 ltI ((G.map gid).take i)) x:=Nn (by rw [List.getElem?_map,hg,hx]; rfl)
    obtain ⟨O,hO⟩:∃ O,O=Z5 ltI ((G.map gid).take i):=⟨_,rfl⟩
    have hOl:O.length=i:=by rw [hO,Vg,List.length_take,List.length_map]; omega
    have hrl:=J9 O
    rw [←hO] at hst ⊢
    have hz:∀ y∈[tw2 x],y.length=2:=fun y hy=>by rw [List.mem_singleton.1 hy]; rfl
    have h77:∀ y∈Ji O++[tw2 x],y.length=2:=fun y hy=>by
      rcases List.mem_append.1 hy with hy | hy
      · exact Ql1 O y hy
      · exact hz y hy
    refine go tt [.t (decide_eq_true (by omega)),.x hgg,.i 0,.i 1] rfl (by simp [Qa]) ?_
    refine lp (S:=Nat) 4 (fun L1 k=>(7,.v (.one (.int .i64 (k:Int))))::L1) (fun k=>[.blk 86 (Xw c r0 (r1,Xq G)),.row false 94 2 (Ji O),.blk 212 (E6 g),.blk 94 (tw2 x)]) id (fun k=>k≤O.length∧Y0 ltI O x k=Y0 ltI O x O.length) (Ji O).length ⟨by omega,by rw [hrl]⟩ rfl (fun _ _=>rfl) (by rw [hx]; rfl) fun k ⟨hk,hp⟩=>?_
    cases k with
    |
     zero =>
     have hp:Y0 ltI O x O.length=0:=by rw [←hp]; rfl
     refine go tt [.g 28 false (by simp),.f rfl,.s (sz:=2) hz,.r 69 (eI (b:=((0+1:Nat):Int)) (by simp)),.i (0+1),.i (0),.s (sz:=2) (fun y hy=>h77 y (List.mem_of_mem_take hy)),.i (O.length),.i (0)] rfl (by simp [Qa,J9]; omega) ?_
     exact rd (i+1) (by omega) hlt (by rw [hst,←Qee (l2:=(Ji O++[tw2 x]).take ((Ji O++[tw2 x]).length-0)) (k:=0) (m:=O.length) (by omega) hp (by omega) (by congr 1; exact List.take_of_length_le (by simp))]; rfl)
    |
     succ k =>
     obtain ⟨y,hy⟩:∃ y,O[k]? = some y:=⟨_,List.getElem?_eq_getElem (by omega)⟩
     have hgy:=Qfu hy
     by_cases h1:x.1<y.1
     · have hlc:ltI x y=true:=by simp [ltI,h1]
       refine go tt [.g 28 true (by simp),.r 31 (eI (b:=(k:Int)) (by simp)),.i k,.i 0,.x hgy,.i 0,.g 38 true (decide_eq_true h1),.t rfl,.r 62 (eI (b:=(k:Int)) (by simp))] rfl (by simp [Qa,J9]; omega) ?_
       exact rd k (by simp) ⟨by omega,by rw [←hp,Ce hy hlc]⟩ rfl
     by_cases h2:y.1=x.1
     · by_cases h3:x.2<y.2
       · have hlc:ltI x y=true:=by simp [ltI,h2,h3]
         refine go tt [.g 28 true (by simp),.r 31 (eI (b:=(k:Int)) (by simp)),.i k,.i 0,.x hgy,.i 0,.g 38 false (decide_eq_false h1),.r 41 (eI (b:=(k:Int)) (by simp)),.i k,.i 0,.x hgy,.i 0,.g 48 true (decide_eq_true h2),.r 51 (eI (b:=(k:Int)) (by simp)),.i k,.i 1,.x hgy,.i 1,.t (decide_eq_true h3),.r 62 (eI (b:=(k:Int)) (by simp))] rfl (by simp [Qa,J9]; omega) ?_
         exact rd k (by simp) ⟨by omega,by rw [←hp,Ce hy hlc]⟩ rfl
       · have hlc:ltI x y=false:=by simp [ltI,h2]; omega
         have hp:Y0 ltI O x O.length=k+1:=by rw [←hp,Sz hy hlc]
         refine go tt [.g 28 true (by simp),.r 31 (eI (b:=(k:Int)) (by simp)),.i k,.i 0,.x hgy,.i 0,.g 38 false (decide_eq_false h1),.r 41 (eI (b:=(k:Int)) (by simp)),.i k,.i 0,.x hgy,.i 0,.g 48 true (decide_eq_true h2),.r 51 (eI (b:=(k:Int)) (by simp)),.i k,.i 1,.x hgy,.i 1,.f (decide_eq_false h3),.s (sz:=2) hz,.r 69 (eI (b:=((k+1+1:Nat):Int)) (by simp)),.i (k+1+1),.i (k+1),.s (sz:=2) (fun y hy=>h77 y (List.mem_of_mem_drop (List.mem_of_mem_take hy))),.i (O.length-(k+1)),.i (k+1)] rfl (by simp [Qa,J9]; omega) ?_
         exact rd (i+1) (by omega) hlt (by rw [hst,←Qee (l2:=((Ji O++[tw2 x]).drop (k+1)).take ((Ji O++[tw2 x]).length-(k+1))) (k:=k+1) (m:=O.length-(k+1)) (by omega) hp (by omega) (by congr 1; exact List.take_of_length_le (by simp))]; rfl)
     · have hlc:ltI x y=false:=by simp [ltI,h1,h2]
       have hp:Y0 ltI O x O.length=k+1:=by rw [←hp,Sz hy hlc]
       refine go tt [.g 28 true (by simp),.r 31 (eI (b:=(k:Int)) (by simp)),.i k,.i 0,.x hgy,.i 0,.g 38 false (decide_eq_false h1),.r 41 (eI (b:=(k:Int)) (by simp)),.i k,.i 0,.x hgy,.i 0,.g 48 false (decide_eq_false h2),.f rfl,.s (sz:=2) hz,.r 69 (eI (b:=((k+1+1:Nat):Int)) (by simp)),.i (k+1+1),.i (k+1),.s (sz:=2) (fun y hy=>h77 y (List.mem_of_mem_drop (List.mem_of_mem_take hy))),.i (O.length-(k+1)),.i (k+1)] rfl (by simp [Qa,J9]; omega) ?_
       exact rd (i+1) (by omega) hlt (by rw [hst,←Qee (l2:=((Ji O++[tw2 x]).drop (k+1)).take ((Ji O++[tw2 x]).length-(k+1))) (k:=k+1) (m:=O.length-(k+1)) (by omega) hp (by omega) (by congr 1; exact List.take_of_length_le (by simp))]; rfl)
  · obtain rfl:i=G.length:=by omega
    rw [List.take_of_length_le (by simp)]
    exact ed tt [1] [0] [.f (decide_eq_false (by omega))] rfl trivial
theorem Qz7 {l:List (Int×Int)} (hl:l.length≤1000000):Qc Tryz.prog 92 [.one (.row (Ji l)),.one (.row (Ji l))] [.one (.bool true)]:=by
  have hll:=J9 l
  refine Z1 Tryz.func92 rfl ?_
  refine go tt [.f (decide_eq_false (fun h=>h rfl))] rfl trivial ?_
  refine lp (S:=Nat) 0 (fun L1 i=>(5,.v (.one (.int .i64 (i:Int))))::L1) (fun _=>[]) (fun i=>l.length-i) (fun i=>i≤l.length) 0 (Nat.zero_le _) rfl (fun _ _=>rfl) rfl fun i hi=>?_
  by_cases h:i<l.length
  · obtain ⟨x,hx⟩:∃ x,l[i]? = some x:=⟨_,List.getElem?_eq_getElem h⟩
    refine go tt [.t (decide_eq_true (by omega)),.x (Qfu hx),.x (Qfu hx),.f (by simp)] rfl (by simp [Qa] <;> omega) ?_
    exact rd (i+1) (by omega) h rfl
  · exact en tt [.f (decide_eq_false (by omega))] rfl rfl trivial
theorem Qso {c c':Cr} {l l' m:List Pt} {a:Tm} {r:List (List LV)×List (List LV)} (hm:m.length≤1000000) (hr:r=Ih m a):Xa Tryz.prog 40 [.one (.ow 0 0),.one (.ow 1 0)] [.blk 86 (Xw c (Qr l) r),.blk 86 (Xw c' (Qr l') r)] [.one (.bool true)] [.blk 86 (Xw c (Qr l) r),.blk 86 (Xw c' (Qr l') r)]:=by
  have hg:=Jw (Jt a) m.length m (Nat.le_refl _)
  obtain ⟨G,hG⟩:∃ G,G=(Yq (Jt a) m).2:=⟨_,rfl⟩
  rw [←hG] at hg
  have hGl:G.length≤1000000:=by omega
  have cM:=fun (c:Cr) (r0 r1:List (List LV))=>Qp2 (c:=c) (r0:=r0) (r1:=r1) hGl
  have cS:=Qz7 (l:=Z5 ltI (G.map gid)) (by rw [Vg,List.length_map]; omega)
  by_cases h0:m.length=0
  · have e:r=([],Xq G):=by
      rw [hr,hG]
      obtain rfl:=List.eq_nil_of_length_eq_zero h0
      rfl
    rw [e]
    refine Z1 Tryz.func40 rfl ?_
    exact ed tt [] [0,1] [.c [0] Qgh,.c [1] Qgh,.g 22 true rfl,.g 27 true rfl,.c [0] (cM c _ _),.c [1] (cM c' _ _),.c [] cS] rfl trivial
  · obtain ⟨w,hw,_⟩:=Yd (Jt a) m.length m (Nat.le_refl _) (by omega)
    have e:r=([X5 w],Xq G):=by rw [hr,hG]; unfold Ih; rw [hw]; rfl
    rw [e]
    refine Z1 Tryz.func40 rfl ?_
    exact ed tt [] [0,1] [.c [0] Qdn,.c [1] Qdn,.g 22 true (decide_eq_true rfl),.g 27 true rfl,.c [0] (cM c _ _),.c [1] (cM c' _ _),.c [] cS] rfl trivial
end Orr

namespace Orr
open Go Go.Proofs Orq
set_option maxRecDepth 10000
set_option maxHeartbeats 8000000 in
theorem Iz {zs:List RawPt} {cs:List Int} (hz:∀ z∈zs,z.Ok) (hcs:∀ z∈cs,-9223372036854775808≤z∧z≤9223372036854775807):Qc Tryz.prog 6 [.one (.row (Cq zs)),.one (.row (idl cs))] [.one (.bool true)]:=by
  obtain ⟨e,he,hd,hm⟩:=Q5q (Lo 4 20 zs)
  have hq0:=Lu 25 0
  have cb:=Qqa (n:=25) (d:=0) hz rfl he hd hm (by decide) (by decide) (Q9a (hq0.mono (by decide))) rfl
  obtain ⟨O,hO⟩:∃ O,O=Lo 4 20 zs:=⟨_,rfl⟩
  have hO4:O.length≤4:=by rw [hO]; exact Se _ _ (Nat.zero_le _)
  have hlit:∀ p∈O,Qpr p:=fun p hp=>by rw [hO] at hp; exact Qcg (by decide) p hp
  rw [←hO] at cb he hd
  obtain ⟨M,hM⟩:∃ M,M=Z5 W9 (Mp O e):=⟨_,rfl⟩
  rw [←hM] at cb
  have hq12:Ws 25 0≤((12:Int):Rat):=by decide
  obtain ⟨q,hq⟩:∃ q,q=Ws 25 0:=⟨_,rfl⟩
  rw [←hq] at cb hq0 hq12
  have hcn:(Mp O e).length=e:=by rw [Ek,Bh he]
  have hMl:M.length=e:=by rw [hM,Vg,hcn]
  have hMd:Gl M:=by rw [hM]; exact Qqp (Qls _).symm (Qbl hd)
  have hsc:∀ p∈M,Sc p.c:=fun p hp=>by
    rw [hM,Mf] at hp
    have:=Qnf hlit e p hp
    exact ⟨this.1,this.2.mono (by decide) (by decide)⟩
  have hln:M.length≤1000:=by omega
  have hv:Va (tq q):=Qy1 (hq0.mono (by decide))
  have S:=Q9k hsc hln hMd
  obtain ⟨c0,hc0⟩:∃ c0,c0=Qsm M (tq q):=⟨_,rfl⟩
  have hst:KSt (bcT M) (Ih M) c0 (Ih M (tq q)):=by rw [hc0]; exact Q42 S hv
  have hn0:c0.now=tq q:=by rw [hc0]; rfl
  have hev0:c0.ev=0:=by rw [hc0]; rfl
  rw [←hc0] at cb
  have hal:(Qa0 M).length≤1000000:=by
    rw [Qse]
    have:M.length*(M.length*2)≤4*(4*2):=Nat.mul_le_mul (by omega) (Nat.mul_le_mul (by omega) (Nat.le_refl 2))
    omega
  have adv:=fun {t:Rat} (ht:Qs 900 t) {c:Cr} {r:List (List LV)×List (List LV)} (hS:KSt (bcT M) (Ih M) c r) (h:Qt c.now t≤0)=>Q4u S (Qdh hsc) (fun a _=>Qzq) hal ht hS h
  have from0:∀ {t:Rat},Qs 900 t→q≤t→∃ E,Evs (bcT M) t (tq q) E∧E.length≤67000000:=fun {t} ht h=>by
    obtain ⟨_,_,E,_,_,_,_,_,h1,h2⟩:=adv ht hst (by rw [hn0,H4]; exact Wx.2 h)
    rw [hn0] at h2
    exact ⟨E,h2,h1⟩
  obtain ⟨T,hT⟩:∃ T,T=((12:Int):Rat):=⟨_,rfl⟩
  have hTq:Qs 900 T:=by rw [hT]; exact ⟨by decide,by decide⟩
  rw [←hT] at hq12
  obtain ⟨K,c',E,hK,hg,hnow,hS',hev,hEl,hE⟩:=adv hTq hst (by rw [hn0,H4]; exact Wx.2 hq12)
  rw [hn0] at hE
  rw [hev0] at hev
  have cadv:=Qdm (l:=M) (K:=K) hTq hsc hln hst.inv.ok (by rw [hev0]; omega) (by rw [hn0,H4]; exact Wx.2 hq12) hg
  have co12:=M4 (n:=12) (by decide)
  rw [←hT] at co12
  have co100:=M4 (n:=-100) (by decide)
  have ct12:=Qth (q:=T) (hTq.mono (by decide))
  obtain ⟨L0,hL0⟩:∃ L0,L0=((-100:Int):Rat):=⟨_,rfl⟩
  rw [←hL0] at co100
  have hL0q:Qs 900 L0:=by rw [hL0]; exact ⟨by decide,by decide⟩
  have hil:(idl cs).length=cs.length:=by simp
  refine Z1 Tryz.func6 rfl (ln 1 rfl rfl fun hcl=>?_)
  rw [hil] at hcl
  refine go tt [.c [0,1] cb,.f rfl,.c [0,2] Qp8,.f rfl,.c [] co12,.c [] ct12,.c [0] cadv,.c [] co100] rfl trivial ?_
  refine lp (S:=Nat×Cr×(List (List LV)×List (List LV))×Nat×Rat) 5 (fun L1 s=>(14,.v (.one (.int .i64 (s.1:Int))))::(12,.v (.one (.int .i64 (s.2.2.2.1:Int))))::L1) (fun s=>[.blk 86 (Xw c' (Qr M) (Ih M (tq T))),.blk 134 (plB M q [[-q.num,(q.den:Int)],[1]] (Mw q M)),.blk 86 (Xw s.2.1 (Qr M) s.2.2.1),.blk 49 (fr T),.blk 49 (fr s.2.2.2.2)]) (fun s=>4-s.1) (fun s=>(s.1≤4∧s.1≤cs.length)∧KSt (bcT M) (Ih M) s.2.1 s.2.2.1∧s.2.1.ev=(s.2.2.2.1:Int)∧s.2.2.2.1≤67000000∧Qs 900 s.2.2.2.2∧∃ (cur:Rat) (F:List Tm),s.2.1.now=tq cur∧Qs 900 cur∧q≤cur∧cur≤T∧(s.2.2.2.2=L0∨s.2.2.2.2=cur)∧Evs (bcT M) cur (tq q) F∧s.2.2.2.1=F.length) (0,c0,Ih M (tq q),0,L0) ⟨⟨by show 0≤4; decide,Nat.zero_le _⟩,hst,hev0,by show 0≤67000000; decide,hL0q,q,[],hn0,hq0.mono (by decide),Rat.le_refl,hq12,.inl rfl,by
      obtain ⟨F,h1,_⟩:=from0 (hq0.mono (by decide)) (Rat.le_refl (a:=q))
      rw [Qu8 h1] at h1; exact h1,rfl⟩ rfl (fun _ _=>rfl) rfl fun ⟨i,c,r,m,la⟩ ⟨⟨hi1,hi2⟩,hS,hce,hm7,hlq,cur,F,hcur,hcq,hqc,hcT,hla,hF,hmF⟩=>?_
  dsimp only at hi1 hi2 hS hce hm7 hlq hcur hla hmF ⊢
  have hvc:Va (tq cur):=Qy1 hcq
  by_cases hr:i<cs.length∧i<4
  · obtain ⟨z,hzi⟩:∃ z,cs[i]? = some z:=⟨_,List.getElem?_eq_getElem hr.1⟩
    have hzb:=hcs z (List.mem_of_getElem? hzi)
    have csm:=Qmp (n:=z) (d:=(i:Int)) hzb (by omega)
    obtain ⟨t,ht⟩:∃ t,t=Ws z i:=⟨_,rfl⟩
    have htq:Qs 900 t:=by rw [ht]; exact (Lu z i).mono (by decide)
    have htl:L0≤t:=by rw [ht,hL0]; exact Qyh z i
    rw [show Zs (Uj z 61-30) (1+Uj (i:Int) 6)=t from ht.symm] at csm
    have cc1:=Qds (a:=t) (b:=T) (htq.mono (by decide)) (hTq.mono (by decide))
    have cc2:=Qds (a:=t) (b:=la) (htq.mono (by decide)) (hlq.mono (by decide))
    have ctt:=Qth (q:=t) (htq.mono (by decide))
    by_cases h12:0<Zo t T
    · refine go tt [.g 45 true (decide_eq_true (by omega)),.t (decide_eq_true (by omega)),.x (Qed hzi),.c [] csm,.c [] cc1,.t (decide_eq_true h12)] rfl (by simp [Qa]; omega) ?_
      exact rd (i+1,c,r,m,la) (by dsimp only; omega) ⟨⟨hr.2,hr.1⟩,hS,hce,hm7,hlq,cur,F,hcur,hcq,hqc,hcT,hla,hF,hmF⟩ rfl
    have htT:t≤T:=by
      rcases Jx t T with h | h | h
      · omega
      · exact h.2 ▸ Rat.le_refl
      · exact Rat.le_of_lt h.2
    by_cases hp:cur≤t
    · obtain ⟨K1,c1,E1,k1,k2,k3,k4,k5,k6,k7⟩:=adv htq hS (by rw [hcur,H4]; exact Wx.2 hp)
      rw [hcur] at k7
      have hqt:q≤t:=Rat.le_trans hqc hp
      obtain ⟨F2,f1,f2⟩:=from0 htq hqt
      have hnt:¬Yt (tq cur) (tq q):=fun h=>absurd (Qph.1 h) (Rat.not_lt.2 hqc)
      have hcat:=Qnq S hp hvc hF hv hnt k7 f1
      have ca:=Qdm (l:=M) (K:=K1) htq hsc hln hS.inv.ok (by rw [hce]; omega) (by rw [hcur,H4]; exact Wx.2 hp) k2
      have hnl:¬Zo t la<0:=fun h=>by
        have h:=Kh.1 h
        rcases hla with h2 | h2
        · rw [h2] at h; exact absurd htl (Rat.not_le.2 h)
        · rw [h2] at h; exact absurd hp (Rat.not_le.2 h)
      refine go tt [.g 45 true (decide_eq_true (by omega)),.t (decide_eq_true (by omega)),.x (Qed hzi),.c [] csm,.c [] cc1,.f (decide_eq_false h12),.c [] ctt,.c [2] ca,.t rfl,.c [] cc2,.f (decide_eq_false hnl)] rfl (by simp [Qa]; omega) ?_
      exact rd (i+1,c1,Ih M (tq t),m+E1.length,t) (by dsimp only; omega) ⟨⟨hr.2,hr.1⟩,k4,by dsimp only; rw [k5,hce]; omega,by dsimp only; omega,htq,t,F2,k3,htq,hqt,htT,.inr rfl,f1,by dsimp only; omega⟩ rfl
    · have hpl:t<cur:=Rat.not_le.1 hp
      have ca:=Qgg (l:=M) (r1:=r) htq hS.inv.ok.n (by rw [hcur,H4]; exact Ww.2 hpl)
      refine go tt [.g 45 true (decide_eq_true (by omega)),.t (decide_eq_true (by omega)),.x (Qed hzi),.c [] csm,.c [] cc1,.f (decide_eq_false h12),.c [] ctt,.c [2] ca,.f rfl,.g 80 false rfl,.f rfl] rfl (by simp [Qa]; omega) ?_
      exact rd (i+1,c,r,m,la) (by dsimp only; omega) ⟨⟨hr.2,hr.1⟩,hS,hce,hm7,hlq,cur,F,hcur,hcq,hqc,hcT,hla,hF,hmF⟩ rfl
  obtain ⟨K2,c2,E2,k1,k2,k3,k4,k5,k6,k7⟩:=adv hTq hS (by rw [hcur,H4]; exact Wx.2 hcT)
  rw [hcur] at k7
  have hnt:¬Yt (tq cur) (tq q):=fun h=>absurd (Qph.1 h) (Rat.not_lt.2 hqc)
  have hcat:=Qnq S hcT hvc hF hv hnt k7 hE
  have ca:=Qdm (l:=M) (K:=K2) hTq hsc hln hS.inv.ok (by rw [hce]; omega) (by rw [hcur,H4]; exact Wx.2 hcT) k2
  obtain ⟨s,hs⟩:∃ s,s=Ih M (tq T):=⟨_,rfl⟩
  have hcs1:Z4 (c'.l.map (·.c))=Z4 (c2.l.map (·.c)):=by rw [hS'.cs,k4.cs,hnow,k3]
  rw [←hs] at ca ⊢
  have cal:=Qso (c:=c') (c':=c2) (l:=M) (l':=M) (m:=M) (a:=tq T) (r:=s) (by omega) hs
  have cC1:=Il (T:=86) (c:=c') (r0:=Qr M) (r1:=s) hS'.inv.ok
  have cC2:=Il (T:=86) (c:=c2) (r0:=Qr M) (r1:=s) k4.inv.ok
  rw [hcs1] at cC1
  have csc:=Qtb (l:=Z4 (c2.l.map (·.c))) (fun x hx=>by
    obtain ⟨w,hw,rfl⟩:=List.mem_map.1 (Me hx)
    exact (k4.inv.ok.l w hw).p) (by rw [U8,List.length_map]; have:=k4.inv.ok.k; omega)
  have hes:((m:Nat):Int)+((E2.length:Nat):Int)=((E.length:Nat):Int):=by omega
  have hev2:c'.ev=c2.ev:=by rw [hev,k5,hce]; omega
  by_cases h:i<cs.length
  · exact en tt [.g 45 true (decide_eq_true (by omega)),.f (decide_eq_false (by omega)),.c [] ct12,.c [2] ca,.g 93 true rfl,.g 97 true rfl,.g 104 true (decide_eq_true hes),.lo,.c [0] Pu,.lo,.c [2] Pu,.g 115 true (decide_eq_true hev2),.lo,.c [0,2] cal,.g 120 true rfl,.lo,.c [0] cC1,.lo,.c [2] cC2,.c [] csc,.g 131 true rfl,.c [] Qbk] rfl rfl (by simp [Qa]; omega)
  · exact en tt [.g 45 false (decide_eq_false (by omega)),.f rfl,.c [] ct12,.c [2] ca,.g 93 true rfl,.g 97 true rfl,.g 104 true (decide_eq_true hes),.lo,.c [0] Pu,.lo,.c [2] Pu,.g 115 true (decide_eq_true hev2),.lo,.c [0,2] cal,.g 120 true rfl,.lo,.c [0] cC1,.lo,.c [2] cC2,.c [] csc,.g 131 true rfl,.c [] Qbk] rfl rfl (by simp [Qa]; omega)
end Orr

namespace Orr
open Go Go.Proofs
variable {H:Type} {enc:TypeId×Value→H} {w:World} {base:Nat} {spare:Nat→Bool} {held:Bool}
theorem Fh {α:Type} {l:List α} {n i:Nat} (h:l.length=n) (hi:i<n):∃ x,l[i]? = some x:=⟨l[i]'(by omega),List.getElem?_eq_getElem (by omega)⟩
end Orr

namespace Orr
open Go Go.Proofs Go.ChangeShapes Go.WideShapes Go.ChangeAt Go.RowKit Go.WideElems
theorem Q0u {w:World} {a:Addr} {v:Value} (h:w.cell? a=some v):a.spot=none∧a.block<w.heap.size:=by
  simp only [World.cell?] at h
  split at h
  · rename_i c t fr hc
    split at h
    · cases h
    · rename_i hs
      refine ⟨by cases e:a.spot with | none=>rfl | some _=>simp [e] at hs,?_⟩
      exact (Array.getElem?_eq_some_iff.1 hc).1
  · cases h
theorem Qzn {a:Addr} (h:a.spot=none) (n m:Nat):(a.add n).add m=⟨a.block,a.off+n+m,none⟩:=by
  obtain ⟨b,o,s⟩:=a
  simp only at h
  subst h
  simp only [Addr.add]
  split
  · rename_i h; subst h
    split
    · rename_i h; subst h; simp
    · simp
  · split
    · rename_i h; subst h; simp
    · simp
def fr0 (w:World):Fr:=⟨fun b=>b<w.heap.size,fun _=>False,w,fun _=>False,fun _=>none⟩
theorem hs0 (w:World):HS (fr0 w) (ob []) (nw []) (fun _=>none) (fun _=>False) w where
  size:=Nat.le_refl _
  kept:=fun b hb=>⟨hb,rfl,Iff.rfl⟩
  ids:=fun i h=>h.elim
  nj:=fun i h=>by rw [Qew] at h; cases h
  io:=⟨rfl,rfl⟩
  blk:=fun i=>by rw [Qew]; trivial
  nk:=fun i g c m h _=>by rw [Qew] at h; cases h
  inj:=fun i j g c m c' m' h _ _ _=>by rw [Qew] at h; cases h
  mlt:=fun b h=>h.elim
  m0:=fun b _ h=>h.elim
  un:=fun i _=>⟨rfl,rfl⟩
  uj:=fun i _ h=>h.elim
theorem Qpb {w w':World} {bl:Nat→OB} {U:Nat→Prop} {E:Kf} {M:Nat→Prop} (h:HS (fr0 w) bl U E M w') {p:MemPlace} (hp:p.block<w.heap.size):w.sameAt w' p:=by
  cases p with
  | cell b off=>simp only [World.sameAt,World.cell?]; rw [(h.kept b hp).2.1]; rfl
  | map b=>exact (h.kept b hp).2.1
theorem Q1h {w w':World} {bl:Nat→OB} {U:Nat→Prop} {E:Kf} {M:Nat→Prop} (h:HS (fr0 w) bl U E M w') (may:MemPlace→Prop):w.keptBut w' may:=by
  refine ⟨h.io.1,h.io.2,fun i hi=>?_⟩
  have e:w'.heap[i]? = w.heap[i]? := (h.kept i hi).2.1
  rw [e]
  cases w.heap[i]? with
  | none=>rfl
  | some o=>cases o <;> simp
end Orr

namespace Orr
open Go Go.Proofs Go.ChangeShapes Go.WideShapes Go.ChangeAt Go.RowKit Go.WideElems
theorem Pn {H:Type} {P:Program} {e:TypeId}:∀ {l:List (DataW H)} {i:Nat} {d:DataW H},l[i]? = some d→∀ n∈d.weights P e,n∈DataW.weightsAll P e l
  | [],i,d,h,_,_=>by simp at h
  |
   x::l,0,d,h,n,hn=>by
   simp at h; subst h
   simp only [DataW.weightsAll,List.mem_append]; exact .inl hn
  |
   x::l,i+1,d,h,n,hn=>by
   simp only [DataW.weightsAll,List.mem_append]
   exact .inr (Pn (i:=i) (by simpa using h) n hn)
theorem G7 {H:Type} {P:Program} {t:TypeId} {fs:Array Field} {parts:List (DataW H)} (hu:P.underlying t=some (.struct fs)) (hz:((DataW.agg parts).weights P t).all (· ≤ reachBytes)=true) {i:Nat} {f:Field} {d:DataW H} (hf:fs[i]? = some f) (hd:parts[i]? = some d) :
    (d.weights P f.type).all (· ≤ reachBytes)=true:=by
  rw [List.all_eq_true] at hz ⊢
  intro n hn
  refine hz n ?_
  simp only [DataW.weights,hu]
  exact DataW.weights_mem_each (j:=i) (by rw [List.getElem?_map]; simp [hf]) hd n hn
variable {H:Type} {enc:TypeId×Value→H} {w:World}
abbrev O0:Nat→Prop:=fun _=>False
def Els (w:World) (cs:List Value) (ls:List LV):Prop:=cs.length=ls.length∧∀ (j:Nat) (u:LV),ls[j]? = some u→∃ v,cs[j]? = some v∧LRep w O0 v u
theorem Pa {α:Type} {rw_:α→List LV} {Ok:α→Prop} {t e sz:Nat} (hu:Tryz.prog.underlying t=some (.slice e)) (hc:Tryz.prog.cellsOf e=sz) (hsz:0<sz) (hb:1≤Tryz.prog.bytesOf e) (hw:∀ z,(rw_ z).length=sz)
    (elem:∀ fuel cs x,DataW.trod enc Tryz.prog w 0 (fun _=>true) true fuel e cs=some x→(x.1.weights Tryz.prog e).all (· ≤ reachBytes)=true→∃ z,Ok z∧Els w cs (rw_ z))
    {fuel:Nat} {cs:List Value} {x:DataW H×List MemPlace} (h:DataW.trod enc Tryz.prog w 0 (fun _=>true) true fuel t cs=some x) (hz:(x.1.weights Tryz.prog t).all (· ≤ reachBytes)=true) :
    ∃ (v:Value) (l:List α),cs=[v]∧(∀ z∈l,Ok z)∧l.length<2^47∧LRep w O0 v (.row (l.map rw_)):=by
  rcases Go.Deep.open_slice hu h with ⟨rfl,_⟩ | ⟨a',len,cap,m,n,D,Pl,rfl,_,hlc,hcap,hm,rfl,hr⟩
  · refine ⟨_,[],rfl,by simp,Nat.two_pow_pos 47,?_⟩
    exact LRep.row none 0 0 0 0 [] (fun _ _=>.bool true) (Nat.le_refl _) (by decide) (by simp) (by simp) (by simp) (by simp)
  · simp only [if_true] at hm
    subst hm
    rw [List.all_eq_true] at hz
    have hlen:len<2^47:=by
      have h0:=hz ((len+(m-len))*Tryz.prog.bytesOf e) (by simp [DataW.weights,hu])
      have h1:len≤(len+(m-len))*Tryz.prog.bytesOf e:=by
        have:=Nat.mul_le_mul (Nat.le_add_right len (m-len)) hb
        omega
      have h2:(len+(m-len))*Tryz.prog.bytesOf e≤reachBytes:=by simpa using h0
      exact Nat.lt_of_le_of_lt (Nat.le_trans h1 h2) reachBytes_lt
    have hel:∀ i,i<len→((D i).weights Tryz.prog e).all (· ≤ reachBytes)=true:=fun i hi=>by
      rw [List.all_eq_true]
      intro k hk
      refine hz k ?_
      simp only [DataW.weights,hu]
      refine List.mem_cons_of_mem _ (List.mem_append.2 (.inl (Pn (i:=i) ?_ k hk)))
      rw [List.getElem?_map,List.getElem?_range hi]; rfl
    have hone:∀ i,i<len→∃ z cs',Ok z∧Els w cs' (rw_ z)∧∀ j,j<sz→w.cell? ((a'.add (i*sz)).add j)=cs'[j]? := fun i hi=>by
      obtain ⟨cs',hcs,htr⟩:=hr i (by omega)
      rw [hc] at hcs
      obtain ⟨_,hl,hcell⟩:=World.cells?_some hcs
      obtain ⟨z,hz1,hz2⟩:=elem _ _ _ htr (hel i hi)
      refine ⟨z,cs',hz1,hz2,fun j hj=>?_⟩
      rw [hcell j (by omega)]
    have hspot:0<len→a'.spot=none∧a'.block<w.heap.size:=fun h0=>by
      obtain ⟨z,cs',_,⟨hl,_⟩,h3⟩:=hone 0 h0
      have h4:=h3 0 hsz
      have:(a'.add (0*sz)).add 0=a':=by simp [Addr.add]
      rw [this,List.getElem?_eq_getElem (by rw [hl,hw]; exact hsz)] at h4
      exact Q0u h4
    obtain ⟨l,hll,hl⟩:∃ l:List α,l.length=len∧∀ i z,l[i]? = some z→Ok z∧∃ cs',Els w cs' (rw_ z)∧∀ j,j<sz→w.cell? ((a'.add (i*sz)).add j)=cs'[j]? := by
      have:∀ k,k≤len→∃ l:List α,l.length=k∧∀ i z,l[i]? = some z→Ok z∧∃ cs',Els w cs' (rw_ z)∧∀ j,j<sz→w.cell? ((a'.add (i*sz)).add j)=cs'[j]? := by
        intro k
        induction k with
        | zero=>intro _; exact ⟨[],rfl,fun i z h=>by simp at h⟩
        |
         succ k ih =>
         intro hk
         obtain ⟨l,h1,h2⟩:=ih (by omega)
         obtain ⟨z,cs',h3,h4,h5⟩:=hone k (by omega)
         refine ⟨l++[z],by simp [h1],fun i y hy=>?_⟩
         rcases Nat.lt_or_ge i l.length with hi | hi
         · rw [List.getElem?_append_left hi] at hy; exact h2 i y hy
         · rw [List.getElem?_append_right hi] at hy
           have:i-l.length=0:=by
             rcases Nat.eq_zero_or_pos (i-l.length) with h | h
             · exact h
             · rw [List.getElem?_eq_none (by rw [List.length_singleton]; exact h)] at hy; cases hy
           rw [this] at hy
           simp at hy
           subst hy
           have:i=k:=by omega
           subst this
           exact ⟨h3,cs',h4,h5⟩
      exact this len (Nat.le_refl _)
    refine ⟨_,l,rfl,fun z hz=>?_,by rw [hll]; exact hlen,?_⟩
    · obtain ⟨i,hi⟩:=List.mem_iff_getElem?.1 hz
      exact (hl i z hi).1
    · have key:LRep w O0 (.slice (some a') (l.map rw_).length m) (.row (l.map rw_)):=by
        have hgl:∀ i c,(l.map rw_)[i]? = some c→∃ z,l[i]? = some z∧c=rw_ z∧i<len:=fun i c h=>by
          rw [List.getElem?_map] at h
          cases e:l[i]? with
          | none=>rw [e] at h; cases h
          | some z=>rw [e] at h; simp at h; exact ⟨z,rfl,h.symm,by have:=(List.getElem?_eq_some_iff.1 e).1; omega⟩
        have hcl:∀ i c,(l.map rw_)[i]? = some c→∃ cs':List Value,Els w cs' c∧∀ j,j<sz→w.cell? ⟨a'.block,a'.off+i*sz+j,none⟩=cs'[j]? := fun i c h=>by
          obtain ⟨z,hz,rfl,hi⟩:=hgl i c h
          obtain ⟨_,cs',h1,h2⟩:=hl i z hz
          refine ⟨cs',h1,fun j hj=>?_⟩
          rw [←h2 j hj,Qzn (hspot (by omega)).1]
        refine LRep.row (some a') m sz a'.block a'.off (l.map rw_) (fun i j=>(w.cell? ⟨a'.block,a'.off+i*sz+j,none⟩).getD (.bool true)) (by rw [List.length_map]; omega) ?_ ?_ ?_ ?_ ?_
        · have:maxLen=2^63-1:=by rfl
          omega
        · intro c hc2
          obtain ⟨z,_,rfl⟩:=List.mem_map.1 hc2
          exact hw z
        · intro h0
          rw [List.length_map,hll] at h0
          obtain ⟨hs,hb⟩:=hspot h0
          refine ⟨?_,hb,by simp [O0]⟩
          obtain ⟨b,o,s⟩:=a'
          simp only at hs
          rw [hs]
        · intro i c hi j hj
          obtain ⟨z,_,rfl,_⟩:=hgl i c hi
          obtain ⟨cs',⟨h1,_⟩,h2⟩:=hcl i _ hi
          have hjs:j<sz:=by rw [←hw z]; exact hj
          rw [h2 j hjs,List.getElem?_eq_getElem (by rw [h1]; exact hj)]; rfl
        · intro i c hi j u hu2
          obtain ⟨z,_,rfl,_⟩:=hgl i c hi
          obtain ⟨cs',⟨h1,h3⟩,h2⟩:=hcl i _ hi
          obtain ⟨v,hv,hr2⟩:=h3 j u hu2
          have hjs:j<sz:=by rw [←hw z]; exact (List.getElem?_eq_some_iff.1 hu2).1
          show LRep w O0 ((w.cell? ⟨a'.block,a'.off+i*sz+j,none⟩).getD (.bool true)) u
          rw [h2 j hjs,hv]; exact hr2
      rw [List.length_map,hll] at key
      exact key
abbrev Zaj (x:Nat):List LV:=[.int .u32 (x:Int)]
theorem Qyz:∀ fuel cs x,DataW.trod enc Tryz.prog w 0 (fun _=>true) true fuel 169 cs=some x→(x.1.weights Tryz.prog 169).all (· ≤ reachBytes)=true→∃ z:Nat,z<4294967296∧Els w cs (Zaj z):=by
  intro fuel cs x h _
  obtain ⟨n,rfl,_,hwf⟩:=DataW.trod_int Tryz.underlying169 h
  have hn:0≤n∧n<4294967296:=by
    have:0≤n∧n≤4294967295:=by simpa [Lit.wf,IntKind.min,IntKind.max,IntKind.signed,IntKind.bits] using hwf
    omega
  refine ⟨n.toNat,by omega,rfl,fun j u hu=>?_⟩
  match j,hu with
  |
   0,hu =>
   simp at hu; subst hu
   refine ⟨_,rfl,?_⟩
   rw [show max n 0=n by omega]
   exact .int _ _
  | j+1,hu=>simp at hu
set_option maxRecDepth 20000 in
theorem Ow:∀ fuel cs x,DataW.trod enc Tryz.prog w 0 (fun _=>true) true fuel 29 cs=some x→(x.1.weights Tryz.prog 29).all (· ≤ reachBytes)=true→∃ z:RawInt,z.Ok∧Els w cs (Lr z):=by
  intro fuel cs x h hz
  obtain ⟨xs,n,_,rfl,hl,hxs,hf⟩:=DataW.trod_struct Tryz.underlying29 h
  have hl:cs.length=2:=hl
  match cs,hl with
  |
   [v0,v1],_ =>
   obtain ⟨z0,hz0⟩:=Fh (i:=0) hxs (by decide)
   obtain ⟨z1,hz1⟩:=Fh (i:=1) hxs (by decide)
   have h0:=hf 0 _ rfl
   have h1:=hf 1 _ rfl
   rw [hz0] at h0; rw [hz1] at h1
   obtain ⟨b,e0,_⟩:=DataW.trod_bool Tryz.underlying4 h0
   have f0:v0=.bool b:=(List.cons.inj (show [v0]=[Value.bool b] from e0)).1
   have hw1:=G7 Tryz.underlying29 hz (i:=1) rfl (d:=z1.1) (by rw [List.getElem?_map,hz1]; rfl)
   obtain ⟨v,l,e1,hlo,_,hrep⟩:=Pa (sz:=1) (Ok:=fun u:Nat=>u<4294967296) (rw_:=Zaj) Tryz.underlying27 (by kernel_rfl) (by decide) (of_decide_eq_true (by kernel_rfl)) (fun _=>rfl) Qyz h1 hw1
   have f1:v1=v:=(List.cons.inj (show [v1]=[v] from e1)).1
   subst f0 f1
   refine ⟨⟨b,l⟩,⟨hlo⟩,rfl,fun j u hu=>?_⟩
   match j,hu with
   | 0,hu=>simp at hu; subst hu; exact ⟨_,rfl,.bool _⟩
   | 1,hu=>simp at hu; subst hu; exact ⟨_,rfl,hrep⟩
   | j+2,hu=>simp at hu
set_option maxRecDepth 20000 in
theorem Qk1:∀ fuel cs x,DataW.trod enc Tryz.prog w 0 (fun _=>true) true fuel 35 cs=some x→(x.1.weights Tryz.prog 35).all (· ≤ reachBytes)=true→∃ z:RawPt,z.Ok∧Els w cs (rwq z):=by
  intro fuel cs x h hz
  obtain ⟨xs,n,_,rfl,hl,hxs,hf⟩:=DataW.trod_struct Tryz.underlying35 h
  have hl:cs.length=5:=hl
  match cs,hl with
  |
   [v0,v1,v2,v3,v4],_ =>
   obtain ⟨z0,hz0⟩:=Fh (i:=0) hxs (by decide)
   obtain ⟨z1,hz1⟩:=Fh (i:=1) hxs (by decide)
   have h0:=hf 0 _ rfl
   have h1:=hf 1 _ rfl
   rw [hz0] at h0; rw [hz1] at h1
   obtain ⟨id,e4,_,hwf⟩:=DataW.trod_int Tryz.underlying3 h1
   have f4:v4=.int .i64 id:=(List.cons.inj (show [v4]=[Value.int .i64 id] from e4)).1
   have hw0:=G7 Tryz.underlying35 hz (i:=0) rfl (d:=z0.1) (by rw [List.getElem?_map,hz0]; rfl)
   obtain ⟨ys,n2,_,e5,_,hys,hg⟩:=DataW.trod_struct Tryz.underlying31 h0
   rw [e5] at hw0
   obtain ⟨y0,hy0⟩:=Fh (i:=0) hys (by decide)
   obtain ⟨y1,hy1⟩:=Fh (i:=1) hys (by decide)
   obtain ⟨y2,hy2⟩:=Fh (i:=2) hys (by decide)
   have g0:=hg 0 _ rfl
   have g1:=hg 1 _ rfl
   have g2:=hg 2 _ rfl
   rw [hy0] at g0; rw [hy1] at g1; rw [hy2] at g2
   have w0:=G7 Tryz.underlying31 hw0 (i:=0) rfl (d:=y0.1) (by rw [List.getElem?_map,hy0]; rfl)
   have w1:=G7 Tryz.underlying31 hw0 (i:=1) rfl (d:=y1.1) (by rw [List.getElem?_map,hy1]; rfl)
   have w2:=G7 Tryz.underlying31 hw0 (i:=2) rfl (d:=y2.1) (by rw [List.getElem?_map,hy2]; rfl)
   obtain ⟨u0,lx,e0,hx,_,rx⟩:=Pa (sz:=2) (Ok:=RawInt.Ok) (rw_:=Lr) Tryz.underlying26 (by kernel_rfl) (by decide) (of_decide_eq_true (by kernel_rfl)) (fun _=>rfl) Ow g0 w0
   obtain ⟨u1,ly,e1,hy,_,ry⟩:=Pa (sz:=2) (Ok:=RawInt.Ok) (rw_:=Lr) Tryz.underlying26 (by kernel_rfl) (by decide) (of_decide_eq_true (by kernel_rfl)) (fun _=>rfl) Ow g1 w1
   obtain ⟨d,hd,hde⟩:=Ow _ _ _ g2 w2
   have f0:v0=u0:=(List.cons.inj (show [v0]=[u0] from e0)).1
   have f1:v1=u1:=(List.cons.inj (show [v1]=[u1] from e1)).1
   have hde2:Els w [v2,v3] (Lr d):=hde
   subst f0 f1 f4
   obtain ⟨q2,hq2,r2⟩:=hde2.2 0 _ rfl
   obtain ⟨q3,hq3,r3⟩:=hde2.2 1 _ rfl
   simp at hq2 hq3
   subst hq2 hq3
   refine ⟨⟨lx,ly,d,id⟩,⟨hx,hy,hd,by simpa [Lit.wf,IntKind.min,IntKind.max,IntKind.signed,IntKind.bits] using hwf⟩,rfl,fun j u hu=>?_⟩
   match j,hu with
   | 0,hu=>simp [rwq] at hu; subst hu; exact ⟨_,rfl,rx⟩
   | 1,hu=>simp [rwq] at hu; subst hu; exact ⟨_,rfl,ry⟩
   | 2,hu=>simp [rwq] at hu; subst hu; exact ⟨_,rfl,r2⟩
   | 3,hu=>simp [rwq] at hu; subst hu; exact ⟨_,rfl,r3⟩
   | 4,hu=>simp [rwq] at hu; subst hu; exact ⟨_,rfl,.int _ _⟩
   | j+5,hu=>simp [rwq] at hu
end Orr

namespace Orr
open Go Go.Proofs Go.ChangeShapes Go.WideShapes Go.ChangeAt Go.RowKit Go.WideElems
variable {H:Type} {enc:TypeId×Value→H} {w:World}
theorem Qvu:∀ fuel cs x,DataW.trod enc Tryz.prog w 0 (fun _=>true) true fuel 3 cs=some x→(x.1.weights Tryz.prog 3).all (· ≤ reachBytes)=true→∃ z:Int,(-9223372036854775808≤z∧z≤9223372036854775807)∧Els w cs [LV.int .i64 z]:=by
  intro fuel cs x h _
  obtain ⟨n,rfl,_,hwf⟩:=DataW.trod_int Tryz.underlying3 h
  refine ⟨n,by simpa [Lit.wf,IntKind.min,IntKind.max,IntKind.signed,IntKind.bits] using hwf,rfl,fun j u hu=>?_⟩
  match j,hu with
  |
   0,hu =>
   simp at hu; subst hu
   exact ⟨_,rfl,.int _ _⟩
  | j+1,hu=>simp at hu
set_option maxRecDepth 20000 in
theorem Qhp {f:FuncId} {fn:Func} {s:ChangeSpec} (hp:fn.params = #[24,22]) (hr:fn.resultTypes = #[4]) (hv:s.vars=[])
    (hs:∀ (H:Type) (d1 d2:DataW H),s.fn H [d1,d2]={ results:=[.lit (.bool true)],args:=[d1,d2] })
    (hlaid:laidOutB Tryz.prog=true) (hr22:Tryz.prog.readableRec 24=true) (hr3:Tryz.prog.readableRec 22=true) (hs22:24<Tryz.prog.types.size) (hs3:22<Tryz.prog.types.size)
    (law:∀ (zs:List RawPt) (cs:List Int),(∀ z∈zs,z.Ok)→(∀ z∈cs,-9223372036854775808≤z∧z≤9223372036854775807)→Qc Tryz.prog f [.one (.row (Cq zs)),.one (.row (idl cs))] [.one (.bool true)])
    {H:Type} {enc:TypeId×Value→H} {W:World} {base:Nat} {args:Array Value} {ds gs:List (DataW H)} {Qjh:List MemPlace} {fresh handsOn:Bool}
    (hval:∀ (j:Nat) t v,fn.params[j]? = some t→args[j]? = some v→Value.okWide Tryz.prog W .any base t v)
    (hW:DataW.Whole enc Tryz.prog fn.params.toList s.vars false W args.toList ds gs Qjh)
    (hz:(DataW.weightsEach Tryz.prog (fn.params.toList++s.plain.varTypes Tryz.prog) (ds++gs)).all (· ≤ reachBytes)=true) :
    Calls Tryz.prog f args W fun e W'=>∃ v,e=.returned v∧s.post enc Tryz.prog fn false fresh handsOn false W args v W':=by
  have hW':=hW
  obtain ⟨p,q,hA0,hV,rfl,hfz,hnd⟩:=hW
  have hA:DataW.TrodAll enc Tryz.prog W 0 (fun _=>true) true fn.params.toList args.toList ds p:=hA0
  rw [hv] at hV
  obtain ⟨rfl,rfl⟩:=trodVars_none hV
  have hlt:=hW'.lt
  rw [hp] at hA hval hz
  obtain ⟨v0,vs0,d0,ds0,p0,q0,hargs0,rfl,rfl,h0,r0⟩:=trodAll_cons hA
  obtain ⟨v1,vs1,d1,ds1,p1,q1,rfl,rfl,rfl,h1,r1⟩:=trodAll_cons r0
  obtain ⟨rfl,rfl,rfl⟩:=trodAll_nil r1
  obtain rfl:args = #[v0,v1]:=by cases args; simp_all
  have hv1:=hval 1 22 v1 rfl rfl
  obtain ⟨a1,len1,cap1,rfl⟩:=okWide_slice Tryz.underlying22 hv1
  have hz1:(d1.weights Tryz.prog 22).all (· ≤ reachBytes)=true:=by
    rw [List.all_eq_true] at hz ⊢
    intro k hk
    exact hz k (DataW.weights_mem_each (j:=1) rfl rfl k hk)
  have h1':=h1
  obtain ⟨fu1,h1'⟩:=h1'
  obtain ⟨u1,cs,e1,hok1,hlen1,hrep1⟩:=Pa (sz:=1) (Ok:=fun z:Int=>-9223372036854775808≤z∧z≤9223372036854775807) (rw_:=fun (z:Int)=>[LV.int .i64 z]) Tryz.underlying22 (by kernel_rfl) (by decide) (of_decide_eq_true (by kernel_rfl)) (fun _=>rfl) Qvu h1' hz1
  have f1:Value.slice a1 len1 cap1=u1:=(List.cons.inj (show [Value.slice a1 len1 cap1]=[u1] from e1)).1
  subst f1
  have hrep1:LRep W (fun _=>False) (.slice a1 len1 cap1) (.row (idl cs)):=hrep1
  have hv0:=hval 0 24 v0 rfl rfl
  obtain ⟨a,len,cap,rfl⟩:=okWide_slice Tryz.underlying24 hv0
  have hz0:(d0.weights Tryz.prog 24).all (· ≤ reachBytes)=true:=by
    rw [List.all_eq_true] at hz ⊢
    intro k hk
    exact hz k (DataW.weights_mem_each (j:=0) rfl rfl k hk)
  have h0':=h0
  obtain ⟨fu,h0'⟩:=h0'
  obtain ⟨v,zs,e0,hok,hlen,hrep⟩:=Pa (sz:=5) (Ok:=RawPt.Ok) (rw_:=rwq) Tryz.underlying24 (by kernel_rfl) (by decide) (of_decide_eq_true (by kernel_rfl)) (fun _=>rfl) Qk1 h0' hz0
  have f0:Value.slice a len cap=v:=(List.cons.inj (show [Value.slice a len cap]=[v] from e0)).1
  subst f0
  have hrep:LRep W (fun _=>False) (.slice a len cap) (.row (Cq zs)):=hrep
  have hcall:=(law zs cs hok hok1).2 (fr0 W) (fun _=>none) (fun _=>False) W [.slice a len cap,.slice a1 len1 cap1] (hs0 W) (.cons (show XRep W (fun _=>False) (fun _=>none) (.slice a len cap) (.row (Cq zs)) from hrep.x) (.cons (show XRep W (fun _=>False) (fun _=>none) (.slice a1 len1 cap1) (.row (idl cs)) from hrep1.x) .nil))
  refine hcall.mono fun e W' ⟨v,u,Bo,E',M',he,⟨hu,hBo⟩,_,hm,har⟩=>?_
  subst hu
  obtain rfl:v=.bool true:=by
    have h:LRep _ _ v (.bool true):=har
    cases h
    rfl
  refine ⟨_,he,?_⟩
  refine ⟨[d0,d1],[],_,[],p0++(p1++[]),[],hW',?_,?_,?_,Q1h hm _,fun h=>by cases h⟩
  · rw [hr,List.append_nil,hs]
    exact trodAll_cons_mk (shut_bool Tryz.underlying4 true) trodAll_mk0
  · rw [hp,List.append_nil,hs]
    have hb:∀ p∈p0,p.block<W.heap.size:=fun p hp=>hlt p (by simp [hp])
    have hb1:∀ p∈p1,p.block<W.heap.size:=fun p hp=>hlt p (by simp [hp])
    exact trodAll_cons_mk (Trod_stays hlaid hr22 hs22 h0 (fun p hp=>Qpb hm (hb p hp)) (fun p hp=>by simpa using hb p hp)) (trodAll_cons_mk (Trod_stays hlaid hr3 hs3 h1 (fun p hp=>Qpb hm (hb1 p hp)) (fun p hp=>by simpa using hb1 p hp)) trodAll_mk0)
  · rw [hv,List.append_nil,hs]
    rfl
end Orr
