/- R10 RawL NewsL KGoL SortQ BegL R11 R12 R13 R14 R15 R16 R17 R18 R19 KT TouL TouQ TW1 SplitL TW2 SD1 SC1 NewsN W1 W2 WR18 WS18 -/
import Derived.Test.YtbnjginelkkonaaGreatPart08
import Derived.Test.YtbnjginelkkonaaGreatPart05
set_option linter.all false

namespace Orr
open Go Go.Proofs
set_option maxRecDepth 10000
abbrev cl4 (k:Crv):List LV:=[pl k.x,pl k.y,sg k.d,mg k.d]
abbrev rcl (c:Crv):List LV:=[rp (Bp c.x c.d),rp (Bp c.y c.d)]++cl4 c
def Al (p:Pt):List LV:=rcl p.c++[.int .i64 p.id]
def Q3 (l:List Pt):List (List LV):=l.map Al
structure Rs (k:Crv):Prop where
  n:Nml k
  c:Cs 100000 16 k
theorem Rs.d0 {k:Crv} (h:Rs k):0<k.d:=h.n.2.2.1
theorem Qmb {x:List Int} {d:Int} {s:Nat} (hx:Bd s x) (hd:Qn d≤s) (h1:1≤s):Rb s (Bp x d):=fun q hq=>by
  obtain ⟨z,hz,rfl⟩:=List.mem_map.1 hq
  rw [Rw]
  exact Qs.divInt (hx z hz) hd h1
theorem Qbm {x:List Int} {d:Int} (tx:Qk x) (hd:d≠0):Vk (Bp x d) (d:Rat)=zp x:=by
  have hd':(d:Rat)≠0:=fun e=>hd (by exact_mod_cast e)
  unfold Vk
  rw [I4 (g:=fun i=>x.getD i 0) _ fun i _=>?_,Gq,Qa5,K0,tx]
  rw [Qy6]; grind
theorem Qhg {p:List Rat} {c:Int} (hp:Rb 40000000 p) (hc:Qn c≤40000000) (hl:p.length≤1000000):Qc Tryz.prog 278 [.one (rp p),.agg (ri c)] [.one (rp (Vk p (c:Rat)))] :=
  w tt Tryz.func278 rfl [.c [] (W3 (n:=1) (by decide)),.c [] (Vm (n:=c)),.c [] (Hj (p:=p) (c:=(c:Rat)) hp (Uk hc (by omega)) hl)] rfl rfl trivial
theorem Q3y (x y:List Int) (d:Int):Xl (Bp x d)++Xl (Bp y d)=Xl (Bp (x++y) d):=by simp [Bp,Xl]
theorem Dk {z:List Int} {d:Int} {i:Nat} (h:i<z.length):(Bp z d)[i]? = some (((z.getD i 0:Int):Rat) / (d:Rat)):=Q3z (getD_some h)
theorem Qb1 (a b:Int) (hb:b≠0) {s:Nat} (h:Qn b≤s):Qn ((Int.gcd a b:Nat):Int)≤s:=by
  refine Nat.le_trans (X4 ?_) h
  simp only [Int.natAbs_natCast]
  exact Nat.le_of_dvd (by omega) (by simpa using Int.natAbs_dvd_natAbs.2 (Int.gcd_dvd_right a b))
theorem Q2p (a b:Int):(a*b) % ((Int.gcd a b:Nat):Int)=0:=Int.emod_eq_zero_of_dvd (Int.dvd_trans (Int.gcd_dvd_left ..) (Int.dvd_mul_right a b))
theorem Qcj {k:Crv} (hs:Rs k):Qc Tryz.prog 247 [.one (rp (Bp k.x k.d)),.one (rp (Bp k.y k.d))] [.agg (rcl k)]:=by
  have hlx:=hs.c.lx
  have hly:=hs.c.ly
  have hds:=hs.c.d
  have hxy:Bd 100000 (k.x++k.y):=fun z hz=>by rcases List.mem_append.1 hz with h | h; exact hs.c.x z h; exact hs.c.y z h
  have hfx:(Xl (Bp k.x k.d)).length=k.x.length:=by rw [Jp,Gq]
  have hfy:(Xl (Bp k.y k.d)).length=k.y.length:=by rw [Jp,Gq]
  have hfl:(Xl (Bp (k.x++k.y) k.d)).length=k.x.length+k.y.length:=by rw [Jp,Gq,List.length_append]
  have hd0:=hs.d0
  refine Z1 Tryz.func247 rfl ?_
  refine go tt [.c [] (W3 (n:=1) (by decide)),.s (sz:=4) (Lu _),.s (sz:=4) (Lu _)] rfl (by simp [Qa,hfx,hfy]; omega) ?_
  rw [Q3y]
  refine lp (S:=Nat) 3 (fun L1 i=>(15,.v (.one (.int .i64 (i:Int))))::L1) (fun i=>[.blk 110 [.nils,.nils,.nils,.nils,.bool false,.nils],.blk 47 (ri (lcd (k.x++k.y) k.d i)),.row false 49 4 (Xl (Bp (k.x++k.y) k.d))]) (fun i=>k.x.length+k.y.length-i) (fun i=>i≤k.x.length+k.y.length) 0 (Nat.zero_le _) rfl (fun _ _=>rfl) rfl fun i hi=>?_
  have hll:(k.x++k.y).length=k.x.length+k.y.length:=List.length_append
  by_cases h:i<k.x.length+k.y.length
  · have hlt:i<(k.x++k.y).length:=by omega
    have hqe:=Qmb (x:=(k.x++k.y)) (d:=k.d) (s:=100000) hxy hs.c.d (by decide)
    have hqi:=hqe.get (Dk hlt)
    obtain ⟨D,hD⟩:∃ D,D=((((k.x++k.y).getD i 0:Int):Rat) / (k.d:Rat)):=⟨_,rfl⟩
    have hg:=Ff (Dk (d:=k.d) hlt)
    have es:lcd (k.x++k.y) k.d (i+1)=lcd (k.x++k.y) k.d i*(D.den:Int) / ((Int.gcd (lcd (k.x++k.y) k.d i) (D.den:Int):Nat):Int):=by rw [hD]; rfl
    rw [←hD] at hqi hg
    have hq2:=hqi.2
    have hli:=Nat.le_trans (Q2q (z:=(k.x++k.y)) hs.d0 (i:=i) (by omega)) hs.c.d
    have hg0:((Int.gcd (lcd (k.x++k.y) k.d i) (D.den:Int):Nat):Int)≠0:=by have:=Int.gcd_ne_zero_right (a:=(lcd (k.x++k.y) k.d i)) (We D); omega
    have hmu:=Q0 (lcd (k.x++k.y) k.d i) (D.den:Int)
    refine go tt [.t (decide_eq_true (by omega)),.i i,.x hg,.c [] (Yj (a:=lcd (k.x++k.y) k.d i) (b:=(D.den:Int)) (by omega) (by omega)),.i i,.x hg,.c [] (On (a:=lcd (k.x++k.y) k.d i) (b:=(D.den:Int)) (by omega) (by omega)),.c [] (Lf (by omega) (Nat.le_trans (Qb1 _ _ (We D) hq2) (by decide)) hg0 (Q2p _ _))] rfl (by simp [Qa,hfl]; omega) ?_
    exact rd (i+1) (by omega) h (by rw [es]; rfl)
  have e:lcd (k.x++k.y) k.d i=k.d:=by rw [show i=(k.x++k.y).length by omega]; exact Q2o hs.d0 hs.n.2.2.2
  rw [e]
  have hx:=Qhg (p:=Bp k.x k.d) (c:=k.d) ((Qmb (s:=100000) hs.c.x hs.c.d (by decide)).mono (by omega)) (by omega) (by rw [Gq]; omega)
  have hy:=Qhg (p:=Bp k.y k.d) (c:=k.d) ((Qmb (s:=100000) hs.c.y hs.c.d (by decide)).mono (by omega)) (by omega) (by rw [Gq]; omega)
  rw [Qbm hs.n.1 (by omega)] at hx
  rw [Qbm hs.n.2.1 (by omega)] at hy
  exact en tt [.f (decide_eq_false (by omega)),.c [] hx,.c [] (Q46 (p:=k.x) (Qd hs.c.x (by omega)) (by omega)),.c [] hy,.c [] (Q46 (p:=k.y) (Qd hs.c.y (by omega)) (by omega)),.c [] (Qq8 (z:=k.d) (by omega))] rfl rfl trivial
theorem Qf5 (k:Crv):Zy 1 k.d'=((1:Int):Rat) / (k.d':Rat):=by
  unfold Zy; rw [if_neg k.d'_ne,Rw]
theorem Am {x:List Int} {g d:Int} (hg:g≠0) (hd:d≠0) (hgd:g∣d) (tx:Qk x) (hx:∀ z∈x,g∣z):Vk (zp x) (((1:Int):Rat) / (d:Rat))=Bp (trim (x.map (· / g))) (d / g):=by
  have ht:Qk (x.map (· / g)):=Fy tx hg hx
  rw [show trim (x.map (· / g))=x.map (· / g) from ht]
  obtain ⟨e,rfl⟩:=hgd
  have he:e≠0:=fun h=>hd (by rw [h,Int.mul_zero])
  rw [Int.mul_ediv_cancel_left _ hg]
  have hgq:(g:Rat)≠0:=fun h=>hg (by exact_mod_cast h)
  have heq:(e:Rat)≠0:=fun h=>he (by exact_mod_cast h)
  unfold Vk
  rw [Ym]
  have hval:∀ i,i<x.length→(zp x).getD i 0*(((1:Int):Rat) / ((g*e:Int):Rat))=(((x.map (· / g)).getD i 0:Int):Rat) / (e:Rat):=fun i hi=>by
    rw [D4]
    have hz:=getD_some hi
    have hm:(x.map (· / g)).getD i 0=x.getD i 0 / g:=by simp [List.getD_eq_getElem?_getD,List.getElem?_eq_getElem hi]
    obtain ⟨w,hw⟩:=hx _ (List.mem_of_getElem? hz)
    rw [hm,hw,Int.mul_ediv_cancel_left _ hg,Rat.intCast_mul,Rat.intCast_mul]
    have:((1:Int):Rat)=1:=rfl
    rw [this]
    grind
  have htab:Tw (fun i=>(zp x).getD i 0*(((1:Int):Rat) / ((g*e:Int):Rat))) x.length=Bp (x.map (· / g)) e:=by
    apply List.ext_getElem?
    intro i
    by_cases hi:i<x.length
    · rw [Dk (by simpa using hi)]
      simp only [Tw,List.getElem?_map,List.getElem?_range hi,Option.map_some]
      rw [hval i hi]
    · rw [List.getElem?_eq_none (by rw [Dq]; omega),List.getElem?_eq_none (by rw [Gq]; simp; omega)]
  rw [htab]
  rcases Nat.eq_zero_or_pos x.length with h0 | h0
  · have:=List.eq_nil_of_length_eq_zero h0; subst this; rfl
  · have hl:(Bp (x.map (· / g)) e).length=x.length:=by rw [Gq,List.length_map]
    have:=Es (l:=Bp (x.map (· / g)) e) (m:=x.length) (by omega) (fun j y hj hy=>by rw [List.getElem?_eq_none (by omega)] at hy; cases hy) (fun _=>⟨_,Dk (z:=x.map (· / g)) (d:=e) (i:=x.length-1) (by rw [List.length_map]; omega),fun h=>by
      have h3:(((x.map (· / g)).getD (x.length-1) 0:Int):Rat)=0:=by grind
      have h4:(x.map (· / g)).getD (x.length-1) 0=0:=by exact_mod_cast h3
      have:=Xc ht (by rw [List.length_map]; omega)
      rw [List.length_map] at this
      exact this h4⟩)
    rw [this,List.take_of_length_le (by omega)]
theorem Qyp {k:Crv} (hk:Cs 100000 16 k):Qs 40000000 (Zy 1 k.d'):=by
  have h1:=Qfd hk.d (by decide)
  rw [Qf5,Rw]
  exact Qs.divInt (by decide) (by omega) (by decide)
theorem Crv.g_dvd' (k:Crv) {z:Int} (h:z∈k.d'::(trim k.x++trim k.y)):k.g∣z:=Int.dvd_of_emod_eq_zero (k.g_dvd z h)
theorem Qy1 (k:Crv):Vk (zp (trim k.x)) (Zy 1 k.d')=Bp k.norm.x k.norm.d:=by
  rw [Qf5]
  exact Am k.g_ne k.d'_ne (k.g_dvd' (by simp)) (Xt _) (fun z hz=>k.g_dvd' (by simp [hz]))
theorem Qy2 (k:Crv):Vk (zp (trim k.y)) (Zy 1 k.d')=Bp k.norm.y k.norm.d:=by
  rw [Qf5]
  exact Am k.g_ne k.d'_ne (k.g_dvd' (by simp)) (Xt _) (fun z hz=>k.g_dvd' (by simp [hz]))
theorem Qqa {k:Crv} (h:Cs 100000 16 k):Rs k.norm:=⟨k.nml,h.norm (by decide)⟩
theorem Q1q {k:Crv} (hk:Cs 100000 16 k):Qc Tryz.prog 205 [.agg (cl4 k)] [.agg (rcl (Crv.norm k))]:=by
  have hlx:=hk.lx
  have hly:=hk.ly
  have hkd:=hk.d
  have hrq:=Qyp hk
  have hdi:Qn k.d'≤100000:=Qfd hk.d (by decide)
  have hx:=Hj (p:=zp (trim k.x)) (c:=Zy 1 k.d') (Nh (Qd (Jk hk.x) (by omega)) (by omega)) hrq (by rw [Ym]; have:=Xf k.x; omega)
  have hy:=Hj (p:=zp (trim k.y)) (c:=Zy 1 k.d') (Nh (Qd (Jk hk.y) (by omega)) (by omega)) hrq (by rw [Ym]; have:=Xf k.y; omega)
  rw [Qy1] at hx
  rw [Qy2] at hy
  have c1:=W3 (n:=1) (by decide)
  have cm:=Bw (a:=1) (b:=k.d') (by decide) (by omega)
  by_cases h0:k.d=0
  · have e:k.d'=1:=by unfold Crv.d'; rw [if_pos h0]
    rw [e] at hx hy cm
    exact w tt Tryz.func205 rfl [.c [] (Of (z:=k.d) (by omega)),.c [] Vu,.t (decide_eq_true h0),.c [] c1,.c [] c1,.c [] cm,.c [] (Md (p:=k.x) (Qd hk.x (by omega)) (by omega)),.c [] hx,.c [] (Md (p:=k.y) (Qd hk.y (by omega)) (by omega)),.c [] hy,.c [] (Qcj (Qqa hk))] rfl rfl trivial
  · have e:k.d'=k.d:=by unfold Crv.d'; rw [if_neg h0]
    rw [e] at hx hy cm
    exact w tt Tryz.func205 rfl [.c [] (Of (z:=k.d) (by omega)),.c [] Vu,.f (decide_eq_false h0),.c [] c1,.c [] cm,.c [] (Md (p:=k.x) (Qd hk.x (by omega)) (by omega)),.c [] hx,.c [] (Md (p:=k.y) (Qd hk.y (by omega)) (by omega)),.c [] hy,.c [] (Qcj (Qqa hk))] rfl rfl trivial
theorem Qu7 {k:Crv} {id:Int} (hk:Cs 100000 16 k):Qc Tryz.prog 146 [.agg (cl4 k++[.int .i64 id])] [.agg (Al ⟨Crv.norm k,id⟩)] :=
  w tt Tryz.func146 rfl [.c [] (Q1q hk)] rfl rfl trivial
theorem Qeu {k:Crv} (hk:Rs k):Qc Tryz.prog 328 [.agg (rcl k)] [.one (rp (zp k.x)),.one (rp (zp k.y)),.one (rp (zp [k.d]))]:=by
  have hlx:=hk.c.lx
  have hly:=hk.c.ly
  have hkd:=hk.c.d
  have hx:=Md (p:=k.x) (Qd hk.c.x (by omega)) (by omega)
  have hy:=Md (p:=k.y) (Qd hk.c.y (by omega)) (by omega)
  rw [show trim k.x=k.x from hk.n.1] at hx
  rw [show trim k.y=k.y from hk.n.2.1] at hy
  exact w tt Tryz.func328 rfl [.c [] (Of (z:=k.d) (by omega)),.c [] (W3 (n:=1) (by decide)),.c [] (Vm (n:=k.d)),.c [] hx,.c [] hy] rfl rfl trivial
theorem Qlx {p:List Int} {d:Int} (tp:Qk p) (hd:d≠0):Zt p [d]=Qx p d:=by
  refine Sv (Z2 _ _) (Za _ _) fun m=>?_
  unfold Qx
  rw [Yg]
  unfold Zt
  by_cases h0:p.length=0
  · rw [if_pos (.inl h0),if_neg (by omega)]; rfl
  · rw [if_neg (by simp; exact fun h=>h0 (by rw [h]; rfl)),U8]
    show (Kn p [d] (List.replicate (p.length+1-1) 0) p.length).getD m 0=_
    have key:∀ i,i≤p.length→(Kn p [d] (List.replicate (p.length+1-1) 0) i).getD m 0=if m<i then p.getD m 0*d else 0:=by
      intro i
      induction i with
      | zero=>intro _; simp only [Kn]; rw [Jz,if_neg (by omega)]
      |
       succ i ih =>
       intro hi
       simp only [Kn]
       rw [Eh _ _ _ _ _ _ (by rw [Ko,List.length_replicate]; show i+1≤_; omega),ih (by omega)]
       show (if i≤m∧m<i+1 then (if m<i then p.getD m 0*d else 0)+p.getD i 0*[d].getD (m-i) 0 else _)=_
       by_cases e:m=i
       · subst e
         rw [if_pos ⟨Nat.le_refl _,by omega⟩,if_neg (by omega),if_pos (by omega),Nat.sub_self]
         show 0+p.getD m 0*d=_
         omega
       · rw [if_neg (by omega)]
         by_cases h1:m<i
         · rw [if_pos h1,if_pos (by omega)]
         · rw [if_neg h1,if_neg (by omega)]
    rw [key _ (Nat.le_refl _)]
theorem Zcs {s:Nat} {d:Int} (h:Qn d≤s):Bd s [d]:=fun z hz=>by simp at hz; subst hz; exact h
theorem Qer {p:List Int} {d:Int} (tp:Qk p) (hd:d≠0) (hp:Bd 9000000 p) (hs:Qn d≤9000000) (hl:p.length≤1000):Qc Tryz.prog 283 [.one (rp (zp p)),.one (rp (zp [d]))] [.one (rp (zp (Qx p d)))]:=by
  have h:=Qu2 (p:=p) (q:=[d]) (by omega) (by show 1≤1000000; decide) hp (Zcs hs) (by decide)
  rwa [Qlx tp hd] at h
theorem Rs.dn {k:Crv} (h:Rs k):k.d≠0:=by have:=h.d0; omega
theorem Qnz {p q:List Int} (hp:Bd 19000000 p) (hq:Bd 19000000 q) (hlp:p.length≤1000000) (hlq:q.length≤1000000):Qc Tryz.prog 208 [.one (rp (zp p)),.one (rp (zp q))] [.one (rp (zp (Vz p q)))]:=by
  have h:=Q6s (Nh hp (by decide)) (Nh hq (by decide)) (by rw [Ym]; exact hlp) (by rw [Ym]; exact hlq)
  rwa [Qqc] at h
theorem Or {a b:Crv} (ha:Rs a) (hb:Rs b):Qc Tryz.prog 323 [.agg (rcl a),.agg (rcl b)] [.one (rp (zp (X8 a b)))] :=
  w tt Tryz.func323 rfl [.c [] (Qeu ha),.c [] (Qeu hb),.c [] (Qer (p:=b.x) (d:=a.d) hb.n.1 ha.dn (Qd hb.c.x (by decide)) (Nat.le_trans ha.c.d (by decide)) (by have:=hb.c.lx; omega)),.c [] (Qer (p:=a.x) (d:=b.d) ha.n.1 hb.dn (Qd ha.c.x (by decide)) (Nat.le_trans hb.c.d (by decide)) (by have:=ha.c.lx; omega)),.c [] (Qnz (p:=Qx b.x a.d) (q:=Qx a.x b.d) (Qd (Zn hb.c.x ha.c.d) (by decide)) (Qd (Zn ha.c.x hb.c.d) (by decide)) (by have:=Q8 b.x a.d; have:=hb.c.lx; omega) (by have:=Q8 a.x b.d; have:=ha.c.lx; omega))] rfl rfl trivial
theorem Sk {a b:Crv} (ha:Rs a) (hb:Rs b):Qc Tryz.prog 324 [.agg (rcl a),.agg (rcl b)] [.one (rp (zp (Xi a b)))] :=
  w tt Tryz.func324 rfl [.c [] (Qeu ha),.c [] (Qeu hb),.c [] (Qer (p:=b.y) (d:=a.d) hb.n.2.1 ha.dn (Qd hb.c.y (by decide)) (Nat.le_trans ha.c.d (by decide)) (by have:=hb.c.ly; omega)),.c [] (Qer (p:=a.y) (d:=b.d) ha.n.2.1 hb.dn (Qd ha.c.y (by decide)) (Nat.le_trans hb.c.d (by decide)) (by have:=ha.c.ly; omega)),.c [] (Qnz (p:=Qx b.y a.d) (q:=Qx a.y b.d) (Qd (Zn hb.c.y ha.c.d) (by decide)) (Qd (Zn ha.c.y hb.c.d) (by decide)) (by have:=Q8 b.y a.d; have:=hb.c.ly; omega) (by have:=Q8 a.y b.d; have:=ha.c.ly; omega))] rfl rfl trivial
theorem Mp {a b:Crv} (ha:Rs a) (hb:Rs b):Bd 200001 (X8 a b)∧(X8 a b).length≤16:=by
  refine ⟨Qd (Mc (Zn hb.c.x ha.c.d) (Zn ha.c.x hb.c.d)) (by omega),Nat.le_trans (Hu _ _) ?_⟩
  have:=Q8 b.x a.d; have:=Q8 a.x b.d; have:=ha.c.lx; have:=hb.c.lx; omega
theorem Mn {a b:Crv} (ha:Rs a) (hb:Rs b):Bd 200001 (Xi a b)∧(Xi a b).length≤16:=by
  refine ⟨Qd (Mc (Zn hb.c.y ha.c.d) (Zn ha.c.y hb.c.d)) (by omega),Nat.le_trans (Hu _ _) ?_⟩
  have:=Q8 b.y a.d; have:=Q8 a.y b.d; have:=ha.c.ly; have:=hb.c.ly; omega
end Orr

namespace Orr
open Go
structure RawInt where
  b:Bool
  l:List Nat
structure RawPt where
  x:List RawInt
  y:List RawInt
  d:RawInt
  id:Int
abbrev Eq (z:RawInt):List LV:=[.bool z.b,Q8s z.l]
structure RawInt.Ok (z:RawInt):Prop where
  u:∀ u∈z.l,u<4294967296
structure RawPt.Ok (z:RawPt):Prop where
  x:∀ a∈z.x,a.Ok
  y:∀ a∈z.y,a.Ok
  d:z.d.Ok
  id:-9223372036854775808≤z.id∧z.id≤9223372036854775807
def RawInt.cut (z:RawInt):RawInt:=⟨z.b,z.l.take 1⟩
def Jf (most:Int) (z:RawInt):Int:=match z.l with
  | []=>0
  | u::_=>if z.b=true then -((u:Int) % (most+1)) else (u:Int) % (most+1)
theorem Nu {most:Int} (h:0≤most) (z:RawInt):-most≤Jf most z∧Jf most z≤most:=by
  unfold Jf
  split
  · omega
  · rename_i u _ _
    have h1:=Int.emod_nonneg (u:Int) (b:=most+1) (by omega)
    have h2:=Int.emod_lt_of_pos (u:Int) (b:=most+1) (by omega)
    split <;> omega
def Z6 (most:Int) (l:List RawInt):List Int:=(l.take 3).map (Jf most)
def Cq (most:Int) (x y:List RawInt) (d:RawInt):Crv:=⟨Z6 most x,Z6 most y,Jf 3 d⟩
def Mk (most:Int) (z:RawPt):Pt:=⟨Cq most z.x z.y z.d,z.id % 1000⟩
theorem Ae (most:Int) (l:List RawInt):(Z6 most l).length≤3:=by unfold Z6; rw [List.length_map,List.length_take]; omega
theorem Qfk {most:Int} {l:List RawInt} {i:Nat} {z:RawInt} (hi:i<3) (h:l[i]? = some z):Z6 most (l.take (i+1))=Z6 most (l.take i)++[Jf most z]:=by
  unfold Z6
  rw [List.take_take,List.take_take,Nat.min_eq_right (by omega),Nat.min_eq_right (by omega),List.take_succ,h]
  simp
theorem Ad (most:Int) {l:List RawInt} {i:Nat} (h:l.length≤i∨3≤i):Z6 most (l.take i)=Z6 most l:=by
  unfold Z6
  rw [List.take_take]
  rcases Nat.le_total 3 i with h3 | h3
  · rw [Nat.min_eq_left h3]
  · rcases h with h | h
    · rw [Nat.min_eq_right h3,List.take_of_length_le (l:=l) (i:=i) (by omega),List.take_of_length_le (l:=l) (i:=3) (by omega)]
    · rw [Nat.min_eq_right h3,show i=3 by omega]
theorem Af {most:Int} {l:List RawInt} {z:Int} (hm:0≤most) (h:z∈Z6 most l):-most≤z∧z≤most:=by
  obtain ⟨a,_,rfl⟩:=List.mem_map.1 h
  exact Nu hm a
theorem Qcm {most:Int} (hm:0≤most∧most≤999) (x y:List RawInt) (d:RawInt):Cs 10 3 (Cq most x y d):=by
  have key:∀ z:Int,-999≤z∧z≤999→Qn z≤10:=fun z h=>J0.2 (by omega)
  refine ⟨fun z hz=>?_,fun z hz=>?_,?_,Ae _ _,Ae _ _⟩
  · have:=Af hm.1 hz; exact key _ (by omega)
  · have:=Af hm.1 hz; exact key _ (by omega)
  · have:=Nu (most:=3) (by decide) d
    show Qn (Jf 3 d)≤10
    exact key _ (by omega)
def Yo (n:Nat):List Pt→List Pt→List Pt
  | out,[]=>out
  | out,p::l=>if out.length<n then (if out.any (fun x=>decide (x.id=p.id))=true then Yo n out l else Yo n (out++[p]) l) else out
theorem Td {n:Nat}:∀ (l out:List Pt) (p:Pt),(Yo n out l).length<n→(Yo n out l).any (fun x=>decide (x.id=p.id))=true→Yo n out (l++[p])=Yo n out l
  |
   [],out,p,h,ha=>by
   simp only [Yo] at h ha
   show Yo n out [p]=out
   simp only [Yo]
   rw [if_pos h,if_pos ha]
  |
   x::l,out,p,h,ha=>by
   show Yo n out (x::(l++[p]))=Yo n out (x::l)
   simp only [Yo] at h ha ⊢
   split
   · rename_i h0
     rw [if_pos h0] at h ha
     split
     · rename_i h1
       rw [if_pos h1] at h ha
       exact Td l out p h ha
     · rename_i h1
       rw [if_neg h1] at h ha
       exact Td l _ p h ha
   · rfl
theorem Gy {n:Nat}:∀ (l out:List Pt) (p:Pt),(Yo n out l).length<n→(Yo n out l).any (fun x=>decide (x.id=p.id))=false→Yo n out (l++[p])=Yo n out l++[p]
  |
   [],out,p,h,ha=>by
   simp only [Yo] at h ha
   show Yo n out [p]=out++[p]
   simp only [Yo]
   rw [if_pos h,if_neg (by rw [ha]; simp)]
  |
   x::l,out,p,h,ha=>by
   show Yo n out (x::(l++[p]))=Yo n out (x::l)++[p]
   simp only [Yo] at h ha ⊢
   split
   · rename_i h0
     rw [if_pos h0] at h ha
     split
     · rename_i h1
       rw [if_pos h1] at h ha
       exact Gy l out p h ha
     · rename_i h1
       rw [if_neg h1] at h ha
       exact Gy l _ p h ha
   · rename_i h0
     rw [if_neg h0] at h
     omega
theorem Lx {n:Nat}:∀ (l m out:List Pt),n≤(Yo n out l).length→Yo n out (l++m)=Yo n out l
  |
   [],m,out,h=>by
   simp only [Yo] at h
   show Yo n out m=out
   match m with
   | []=>rfl
   | p::m=>simp only [Yo]; rw [if_neg (by omega)]
  |
   x::l,m,out,h=>by
   show Yo n out (x::(l++m))=Yo n out (x::l)
   simp only [Yo] at h ⊢
   split
   · rename_i h0
     rw [if_pos h0] at h
     split
     · rename_i h1
       rw [if_pos h1] at h
       exact Lx l m out h
     · rename_i h1
       rw [if_neg h1] at h
       exact Lx l m _ h
   · rfl
theorem Sy {n:Nat}:∀ (l out:List Pt),out.length≤n→(Yo n out l).length≤n
  | [],out,h=>h
  |
   x::l,out,h=>by
   simp only [Yo]
   split
   · split
     · exact Sy l out h
     · exact Sy l _ (by rw [List.length_append]; show _+1≤_; omega)
   · exact h
theorem Cg {n:Nat}:∀ (l out:List Pt) {p:Pt},p∈Yo n out l→p∈out∨p∈l
  | [],out,p,h=>.inl h
  |
   x::l,out,p,h=>by
   simp only [Yo] at h
   split at h
   · split at h
     · rcases Cg l out h with h | h
       · exact .inl h
       · exact .inr (List.mem_cons_of_mem _ h)
     · rcases Cg l _ h with h | h
       · rcases List.mem_append.1 h with h | h
         · exact .inl h
         · exact .inr (by rw [List.mem_singleton.1 h]; exact List.mem_cons_self ..)
       · exact .inr (List.mem_cons_of_mem _ h)
   · exact .inl h
def En (n:Nat) (most:Int) (zs:List RawPt):List Pt:=Yo n [] (zs.map (Mk most))
def Pt.nrm (p:Pt):Pt:=⟨p.c.norm,p.id⟩
end Orr

namespace Orr
def Jj (l:List Pt):Prop:=l.Pairwise fun a b=>a.id<b.id
theorem Q2f (id:Int):has [] id=false:=rfl
theorem Qia (p:Pt) (l:List Pt) (id:Int):has (p::l) id=if p.id<id then has l id else decide (p.id=id):=by
  by_cases h:p.id<id
  · rw [if_pos h]; unfold has; simp only [Gm]; rw [if_pos h]; simp
  · rw [if_neg h]; unfold has; simp only [Gm]; rw [if_neg h]; simp
theorem Qyh (p:Pt) (l:List Pt) (q:Pt):put (p::l) q=if p.id<q.id then p::put l q else q::p::l:=by
  unfold put
  simp only [Gm]
  split <;> simp
theorem Qfa:∀ {l:List Pt} {id:Int},Jj l→(has l id=true↔∃ p∈l,p.id=id)
  | [],id,_=>by simp [Q2f]
  |
   p::l,id,h=>by
   have h1:=List.pairwise_cons.1 h
   rw [Qia]
   split
   · rename_i hlt
     rw [Qfa h1.2]
     constructor
     · rintro ⟨x,hx,e⟩; exact ⟨x,List.mem_cons_of_mem _ hx,e⟩
     · rintro ⟨x,hx,e⟩
       rcases List.mem_cons.1 hx with rfl | hx
       · omega
       · exact ⟨x,hx,e⟩
   · rename_i hge
     rw [decide_eq_true_iff]
     constructor
     · intro e; exact ⟨p,List.mem_cons_self ..,e⟩
     · rintro ⟨x,hx,e⟩
       rcases List.mem_cons.1 hx with rfl | hx
       · exact e
       · have:=h1.1 x hx; omega
theorem Qbj:∀ {l:List Pt} {q:Pt},Jj l→has l q.id=false→Jj (put l q)
  | [],q,_,_=>by simp [put,Gm,Jj]
  |
   p::l,q,h,hn=>by
   have h1:=List.pairwise_cons.1 h
   rw [Qia] at hn
   rw [Qyh]
   split
   · rename_i hlt
     rw [if_pos hlt] at hn
     refine List.pairwise_cons.2 ⟨fun x hx=>?_,Qbj h1.2 hn⟩
     rcases Qp3 hx with rfl | hx
     · exact hlt
     · exact h1.1 x hx
   · rename_i hge
     rw [if_neg hge,decide_eq_false_iff_not] at hn
     refine List.pairwise_cons.2 ⟨fun x hx=>?_,h⟩
     rcases List.mem_cons.1 hx with rfl | hx
     · omega
     · have:=h1.1 x hx; omega
theorem Qpe {l:List Pt} {q p:Pt} (h:p=q∨p∈l):p∈put l q:=by
  unfold put
  rcases h with rfl | h
  · simp
  · rw [←List.take_append_drop (Gm l q.id) l] at h
    simp only [List.mem_append,List.mem_cons] at h ⊢
    rcases h with h | h
    · exact .inl h
    · exact .inr (.inr h)
theorem Qyf {l:List Pt} {q:Pt} (h:l.length<6):Fp l q=if has l q.id=true then 6 else 0:=by
  unfold Fp
  split
  · rfl
  · rw [if_neg (by omega)]
theorem Qdn:∀ (qs acc:List Pt),Jj acc→acc.length+qs.length≤6 →
    ((J1 acc qs).2=0∧Jj (J1 acc qs).1∧(J1 acc qs).1.length=acc.length+qs.length∧qs.Pairwise (fun a b=>a.id≠b.id)∧∀ q∈qs,∀ p∈acc,p.id≠q.id) ∨
    ((J1 acc qs).2=6∧¬(qs.Pairwise (fun a b=>a.id≠b.id)∧∀ q∈qs,∀ p∈acc,p.id≠q.id))
  | [],acc,hs,_=>.inl ⟨rfl,hs,rfl,List.Pairwise.nil,fun _ h=>absurd h (by simp)⟩
  |
   q::qs,acc,hs,hl=>by
   simp only [List.length_cons] at hl
   have he:=Qyf (l:=acc) (q:=q) (by omega)
   simp only [J1]
   cases hh:has acc q.id with
   |
    true =>
    rw [hh,if_pos rfl] at he
    rw [he,if_neg (by decide)]
    obtain ⟨p,hp,e⟩:=(Qfa hs).1 hh
    exact .inr ⟨rfl,fun h=>h.2 q (List.mem_cons_self ..) p hp e⟩
   |
    false =>
    rw [hh,if_neg (by decide)] at he
    rw [he,if_pos rfl]
    have hno:∀ p∈acc,p.id≠q.id:=fun p hp e=>by
      have:=(Qfa hs).2 ⟨p,hp,e⟩
      rw [hh] at this; cases this
    have hpl:=Qp2 acc q
    rcases Qdn qs (put acc q) (Qbj hs hh) (by omega) with ⟨h1,h2,h3,h4,h5⟩ | ⟨h1,h2⟩
    · refine .inl ⟨h1,h2,by simp only [List.length_cons]; omega,List.pairwise_cons.2 ⟨fun x hx=>h5 x hx q (Qpe (.inl rfl)),h4⟩,fun x hx p hp=>?_⟩
      rcases List.mem_cons.1 hx with rfl | hx
      · exact hno p hp
      · exact h5 x hx p (Qpe (.inr hp))
    · refine .inr ⟨h1,fun h=>h2 ⟨(List.pairwise_cons.1 h.1).2,fun x hx p hp=>?_⟩⟩
      rcases Qp3 hp with rfl | hp
      · exact (List.pairwise_cons.1 h.1).1 x hx
      · exact h.2 x (List.mem_cons_of_mem _ hx) p hp
theorem Qsb {qs:List Pt} (hl:qs.length≤6) :
    ((J1 [] qs).2=0∧Jj (J1 [] qs).1∧(J1 [] qs).1.length=qs.length∧qs.Pairwise (fun a b=>a.id≠b.id))∨((J1 [] qs).2=6∧¬qs.Pairwise (fun a b=>a.id≠b.id)):=by
  rcases Qdn qs [] List.Pairwise.nil (by simpa using hl) with ⟨h1,h2,h3,h4,_⟩ | ⟨h1,h2⟩
  · exact .inl ⟨h1,h2,by simpa using h3,h4⟩
  · exact .inr ⟨h1,fun h=>h2 ⟨h,fun _ _ _ hp=>absurd hp (by simp)⟩⟩
end Orr

namespace Orq
open Orr Go
theorem Zaa {a b c:Tm} (hb:Cut (Qu b)) (hc:Cut (Qu c)) (h:Uh a b) (h':Uh b c):Uh a c:=by
  obtain ⟨q,q1,q2⟩:=h
  obtain ⟨r,r1,r2⟩:=h'
  exact ⟨q,q1,hc.mono' (hb.lt q2 r1) (by omega)⟩
theorem Qlh {a b:Tm} (ha:Cut (Qu a)) (hb:Cut (Qu b)) (h:¬Uh b a):Leq a (Qu b):=fun q hq=>by
  rcases ha.val q with e | e | e
  · exact absurd ⟨q,hq,e⟩ h
  · obtain ⟨r,r1,r2⟩:=hb.dn q hq
    exact absurd ⟨r,r2,ha.mono' r1 (by omega)⟩ h
  · exact e
theorem Qo5 {a b c:Tm} (_:Cut (Qu a)) (hb:Cut (Qu b)) (hc:Cut (Qu c)) (h:Uh a b) (h':¬Uh c b):Uh a c:=by
  obtain ⟨q,q1,q2⟩:=h
  refine ⟨q,q1,?_⟩
  have hl:=Qlh hb hc h'
  rcases hc.val q with e | e | e
  · exact e
  · obtain ⟨r,r1,r2⟩:=hb.up q q2
    have h1:=hc.mono q r r1 (by omega)
    have:=hl r h1
    omega
  · have:=hl q e; omega
theorem Q7q {a b:Tm} (ha:Cut (Qu a)) (hb:Cut (Qu b)) (h:Uh a b):¬Uh b a:=fun h'=>Pf ha hb h h'
theorem Qiy {p:List Int} {a b:Tm} {o:Option Tm} (ha:Cut (Qu a)) (hb:Cut (Qu b)) (hab:¬Uh b a) (h:Um p a o) (ho:∀ t,o=some t→Uh b t):Um p b o:=by
  have hl:=Qlh ha hb hab
  cases o with
  |
   none =>
   rcases h with h | ⟨s,s0,h⟩
   · exact .inl h
   · exact .inr ⟨s,s0,fun c hc hbc=>h c hc fun q hq=>hl q (hbc q hq)⟩
  |
   some t =>
   obtain ⟨h1,h2,_,s,s0,h4,h5⟩:=h
   exact ⟨h1,h2,ho t rfl,s,s0,fun c hc hbc hm=>h4 c hc (fun q hq=>hl q (hbc q hq)) hm,h5⟩
theorem Qc9 {p:List Int} {a b:Tm} {o:Option Tm} (hp:Dp p) (ha:Va a) (hb:Va b) (hab:¬Uh b a) (h:Um p a o) (ho:∀ t,o=some t→Uh b t):Hr (Ju b) p=Hr (Ju a) p:=by
  by_cases h0:p.length=0
  · obtain rfl:=List.eq_nil_of_length_eq_zero h0; rfl
  obtain ⟨ra,_⟩:=Ch ha hp h0
  obtain ⟨rb,_⟩:=Ch hb hp h0
  have hl:=Qlh ha.cut hb.cut hab
  cases o with
  |
   none =>
   rcases h with h | ⟨s,s0,h⟩
   · exact absurd (by rw [h]; rfl) h0
   · exact (Qqb rb (h _ hb.cut hl)).trans (Qqb ra (h _ ha.cut fun _ h=>h)).symm
  |
   some t =>
   obtain ⟨h1,h2,h3,s,s0,h4,h5⟩:=h
   exact (Qqb rb (h4 _ hb.cut hl (ho t rfl))).trans (Qqb ra (h4 _ ha.cut (fun _ h=>h) h3)).symm
theorem Qjt (t q:Rat):Qu (tq t) q=Zz t q:=Gf (t:=tq t) rfl q
theorem Ox {a:Tm} {t:Rat} (ha:Cut (Qu a)):0<Qu a t↔Uh (tq t) a:=by
  constructor
  · intro h
    have h1:Qu a t=1:=by rcases ha.val t with e | e | e <;> omega
    obtain ⟨r,r1,r2⟩:=ha.up t h1
    exact ⟨r,by rw [Qjt]; rcases W5 t r with ⟨e,e'⟩ | ⟨e,e'⟩ | ⟨e,e'⟩ <;> first | exact e | (exfalso; grind),r2⟩
  · rintro ⟨q,q1,q2⟩
    rw [Qjt] at q1
    have:t<q:=by rcases W5 t q with ⟨e,e'⟩ | ⟨e,e'⟩ | ⟨e,e'⟩ <;> first | exact e' | omega
    have:=ha.mono' this (by omega)
    omega
open Classical in
noncomputable def mu (T:List Tm) (a:Tm):Nat:=(T.filter fun t=>decide (Uh a t)).length
theorem Qcx {α:Type} {p q:α→Bool} (h:∀ x,p x=true→q x=true):∀ l:List α,(l.filter p).length≤(l.filter q).length
  | []=>Nat.le_refl _
  |
   x::l=>by
   have ih:=Qcx h l
   by_cases hp:p x=true
   · rw [List.filter_cons_of_pos hp,List.filter_cons_of_pos (h x hp)]; simp; exact ih
   · rw [List.filter_cons_of_neg hp]
     by_cases hq:q x=true
     · rw [List.filter_cons_of_pos hq]; simp; omega
     · rw [List.filter_cons_of_neg hq]; exact ih
theorem Qcy {α:Type} {p q:α→Bool} (h:∀ x,p x=true→q x=true) {y:α} (hp:p y=false) (hq:q y=true):∀ {l:List α},y∈l→(l.filter p).length<(l.filter q).length
  | [],hy=>by cases hy
  |
   x::l,hy=>by
   rcases List.mem_cons.1 hy with rfl | hy
   · rw [List.filter_cons_of_neg (by simp [hp]),List.filter_cons_of_pos hq]
     have:=Qcx h l
     simp; omega
   · have ih:=Qcy h hp hq hy
     by_cases hp:p x=true
     · rw [List.filter_cons_of_pos hp,List.filter_cons_of_pos (h x hp)]; simp; exact ih
     · rw [List.filter_cons_of_neg hp]
       by_cases hq:q x=true
       · rw [List.filter_cons_of_pos hq]; simp; omega
       · rw [List.filter_cons_of_neg hq]; exact ih
open Classical in
theorem Q5o {T:List Tm} {a b:Tm} (ha:Cut (Qu a)) (hb:Cut (Qu b)) (hT:∀ t∈T,Cut (Qu t)) (h:Uh a b) (hm:b∈T):mu T b<mu T a:=by
  have key:∀ l:List Tm,(∀ t∈l,Cut (Qu t))→l.filter (fun t=>decide (Uh b t))=l.filter (fun t=>decide (Cut (Qu t)∧Uh b t)):=fun l hl=>List.filter_congr fun x hx=>by simp [hl x hx]
  have key2:∀ l:List Tm,(∀ t∈l,Cut (Qu t))→l.filter (fun t=>decide (Uh a t))=l.filter (fun t=>decide (Cut (Qu t)∧Uh a t)):=fun l hl=>List.filter_congr fun x hx=>by simp [hl x hx]
  unfold mu
  rw [key T hT,key2 T hT]
  refine Qcy (fun x hx=>?_) (y:=b) ?_ ?_ hm
  · have hx:=of_decide_eq_true hx
    exact decide_eq_true ⟨hx.1,Zaa hb hx.1 h hx.2⟩
  · exact decide_eq_false fun hx=>Pf hb hb hx.2 hx.2
  · exact decide_eq_true ⟨hb,h⟩
def tms (p:List Int):List Tm:=(Bj p).getD []
structure KInv (c:Cr):Prop where
  ok:CrOk c
  k:∀ w∈c.l,w.known=true→Um w.c.p c.now w.fails∧∀ t,w.fails=some t→t∈tms w.c.p
theorem Qlq {p:List Int} (h:Cp p) {a:Tm} (ha:Va a):∃ r,Ah p a=some r∧Um p a r∧∀ t,r=some t→t∈tms p:=by
  obtain ⟨l,l1,_,_,l3⟩:=P7 h
  obtain ⟨r,r1,r2,r3⟩:=l3 a ha
  refine ⟨r,?_,r2,fun t ht=>by unfold tms; rw [l1]; exact r3 t ht⟩
  unfold Ah; rw [l1]; exact r1
theorem Q8r {p:List Int} (h:Cp p):∀ t∈tms p,Va t:=by
  obtain ⟨l,l1,_,l2,_⟩:=P7 h
  unfold tms; rw [l1]; exact l2
theorem Qo9 {now:Tm} (hn:Va now):∀ {l:List Wt},(∀ w∈l,WtOk w)→(∀ w∈l,w.known=true→Um w.c.p now w.fails∧∀ t,w.fails=some t→t∈tms w.c.p) →
    ∃ ws,Pe now l=some ws∧ws.map (·.c)=l.map (·.c)∧∀ w∈ws,w.known=true∧Um w.c.p now w.fails∧∀ t,w.fails=some t→t∈tms w.c.p
  | [],_,_=>⟨[],rfl,rfl,fun w hw=>by cases hw⟩
  |
   w::l,h,h'=>by
   obtain ⟨ws,w1,w2,w3⟩:=Qo9 hn (fun v hv=>h v (List.mem_cons_of_mem _ hv)) (fun v hv=>h' v (List.mem_cons_of_mem _ hv))
   by_cases hk:w.known=true
   · refine ⟨w::ws,by simp only [Pe,hk,if_true,w1]; rfl,by simp [w2],fun v hv=>?_⟩
     rcases List.mem_cons.1 hv with rfl | hv
     · exact ⟨hk,h' v (by simp) hk⟩
     · exact w3 v hv
   · obtain ⟨r,r1,r2,r3⟩:=Qlq (h w (by simp)).p hn
     refine ⟨⟨w.c,true,r⟩::ws,by simp only [Pe]; rw [if_neg hk,r1,w1]; rfl,by simp [w2],fun v hv=>?_⟩
     rcases List.mem_cons.1 hv with rfl | hv
     · exact ⟨rfl,r2,r3⟩
     · exact w3 v hv
theorem Qo1 {at_:Tm} (ha:Va at_) {x:Ct}:∀ {l:List Wt},(∀ w∈l,WtOk w)→∃ w,Fh l x at_=some w∧w.c=x
  | [],_=>⟨fresh x,rfl,rfl⟩
  |
   v::l,h=>by
   obtain ⟨w,w1,w2⟩:=Qo1 ha (x:=x) fun v hv=>h v (List.mem_cons_of_mem _ hv)
   simp only [Fh]
   split
   · cases hf:v.fails with
     | none=>exact ⟨_,rfl,rfl⟩
     |
      some t =>
      obtain ⟨c,c1,_⟩:=B6 ((h v (by simp)).f t hf) ha
      dsimp only
      rw [c1]
      show ∃ w,(if 0<c then some ⟨x,true,some t⟩ else Fh l x at_)=some w∧w.c=x
      split
      · exact ⟨_,rfl,rfl⟩
      · exact ⟨w,w1,w2⟩
   · exact ⟨w,w1,w2⟩
theorem Qa1 {at_:Tm} (ha:Va at_) {ol:List Wt} (ho:∀ w∈ol,WtOk w):∀ l:List Ct,∃ ws,Gl ol at_ l=some ws∧ws.map (·.c)=l
  | []=>⟨[],rfl,rfl⟩
  |
   x::l=>by
   obtain ⟨w,w1,w2⟩:=Qo1 ha (x:=x) ho
   obtain ⟨ws,s1,s2⟩:=Qa1 ha ho l
   exact ⟨w::ws,by simp only [Gl,w1,s1]; rfl,by simp [w2,s2]⟩
theorem Qr3 {out:List Ct} {c x:Ct}:x∈Ns out c↔x=c∨x∈out:=by
  have h:x∈out↔x∈out.take (Pm out c out.length)∨x∈out.drop (Pm out c out.length):=by
    rw [←List.mem_append,List.take_append_drop]
  simp only [Ns,List.mem_append,List.mem_cons,h]
  constructor
  · rintro (h | h | h)
    · exact .inr (.inl h)
    · exact .inl h
    · exact .inr (.inr h)
  · rintro (h | h | h)
    · exact .inr (.inl h)
    · exact .inl h
    · exact .inr (.inr h)
theorem Qc1:∀ (l acc:List Ct) {y:Ct},y∈l.foldl Ns acc↔y∈l∨y∈acc
  | [],acc,y=>by simp
  |
   c::l,acc,y=>by
   simp only [List.foldl_cons]
   rw [Qc1 l,Qr3,List.mem_cons]
   constructor
   · rintro (h | h | h)
     · exact .inl (.inr h)
     · exact .inl (.inl h)
     · exact .inr h
   · rintro ((h | h) | h)
     · exact .inr (.inl h)
     · exact .inl h
     · exact .inr (.inr h)
theorem Qd7 {l:List Ct} {x:Ct}:x∈Q6 l↔x∈l:=by unfold Q6; rw [Qc1]; simp
theorem Q7v {ws:List Wt} (hw:∀ w∈ws,WtOk w):∃ o,Qix ws=some o∧match o with
    | none=>∀ w∈ws,w.fails=none
    | some a=>Va a∧(∃ w∈ws,w.fails=some a)∧∀ w∈ws,∀ t,w.fails=some t→¬Uh t a:=by
  have hv:∀ t∈ws.filterMap (·.fails),Va t:=fun t ht=>by
    obtain ⟨w,w1,w2⟩:=List.mem_filterMap.1 ht
    exact (hw w w1).f t w2
  unfold Qix
  cases hf:ws.filterMap (·.fails) with
  |
   nil =>
   refine ⟨none,rfl,fun w h=>?_⟩
   cases e:w.fails with
   | none=>rfl
   |
    some t =>
    have:t∈ws.filterMap (·.fails):=List.mem_filterMap.2 ⟨w,h,e⟩
    rw [hf] at this; cases this
  |
   cons b l =>
   rw [hf] at hv
   obtain ⟨m,m1,m2,m3⟩:=Eb l b hv
   refine ⟨some m,by show (Tf b l).map some=_; rw [m1]; rfl,hv m m2,?_,fun w h t e=>?_⟩
   · rw [←hf] at m2
     exact List.mem_filterMap.1 m2
   · exact m3 t (by rw [←hf]; exact List.mem_filterMap.2 ⟨w,h,e⟩)
theorem Q6u {t a:Tm} (ht:Va t) (ha:Va a) {c:Int} (h:Li t a=some c) (h0:0<c):Uh a t:=by
  obtain ⟨c',c1,c2⟩:=B6 ht ha
  rw [h] at c1; injection c1 with c1; subst c1
  rcases c2 with ⟨e,_⟩ | ⟨e,_⟩ | ⟨_,e⟩
  · omega
  · omega
  · exact e
theorem Q2n {ol ws:List Wt} {now a:Tm} {l:List Ct} (hn:Va now) (ha:Va a) (hna:¬Uh a now) (ho:∀ w∈ol,WtOk w) (hk:∀ w∈ol,w.known=true→Um w.c.p now w.fails∧∀ t,w.fails=some t→t∈tms w.c.p) (h:Gl ol a l=some ws) :
    ∀ w∈ws,w.known=true→Um w.c.p a w.fails∧∀ t,w.fails=some t→t∈tms w.c.p:=by
  obtain ⟨h1,h2⟩:=Cn h
  intro w hw hkn
  obtain ⟨i,hi⟩:=List.getElem?_of_mem hw
  have hil:i<l.length:=by rw [←h1]; exact (List.getElem?_eq_some_iff.1 hi).1
  obtain ⟨v,h3,h4⟩:=h2 i _ (List.getElem?_eq_getElem hil)
  rw [hi] at h4; injection h4 with h4; subst h4
  rcases Qa0 h3 with e | ⟨v,v1,v2,v3,e,v5⟩
  · rw [e] at hkn; cases hkn
  · obtain ⟨k1,k2⟩:=hk v v1 v2
    rw [e]
    show Um (l[i]).p a v.fails∧∀ t,v.fails=some t→t∈tms (l[i]).p
    rw [←v3]
    refine ⟨Qiy hn.cut ha.cut hna k1 fun t ht=>?_,k2⟩
    obtain ⟨c,c1,c2⟩:=v5 t ht
    exact Q6u ((ho v v1).f t ht) ha c1 c2
structure Stab {β:Type} (Bc:Tm→List Ct) (Br:Tm→β):Prop where
  ok:BuildOk Bc
  fin:∃ Ps:List (List Int),(∀ p∈Ps,Cp p)∧∀ a,Va a→∀ x∈Bc a,x.p∈Ps
  st:∀ a b,Va a→Va b→(∀ x∈Bc a,Hr (Ju b) x.p=Hr (Ju a) x.p)→Bc b=Bc a∧Br b=Br a
structure KSt {β:Type} (Bc:Tm→List Ct) (Br:Tm→β) (c:Cr) (r1:β):Prop where
  inv:KInv c
  cs:c.l.map (·.c)=Q6 (Bc c.now)
  r:r1=Br c.now
inductive Evs (Bc:Tm→List Ct) (t:Rat):Tm→List Tm→Prop
  | nil {a:Tm} (h:∀ x∈Bc a,∃ o,Um x.p a o∧∀ u,o=some u→Uh (tq t) u):Evs Bc t a []
  | cons {a e:Tm} {E:List Tm} (he:Va e) (h1:Uh a e) (h2:¬Uh (tq t) e) (h3:∀ x∈Bc a,∃ o,Um x.p a o∧∀ u,o=some u→¬Uh u e) (h4:∃ x∈Bc a,Um x.p a (some e)) (h5:Evs Bc t e E):Evs Bc t a (e::E)
theorem Q91 {β:Type} {Bc:Tm→List Ct} {Br:Tm→β} (S:Stab Bc Br) {t:Rat} (ht:Qs 900 t) {Ps:List (List Int)} (hP:∀ p∈Ps,Cp p) (hPs:∀ a,Va a→∀ x∈Bc a,x.p∈Ps) :
    ∀ (m:Nat) (c:Cr) (r1:β) (n:Int),mu (Ps.flatMap tms) c.now≤m→KSt Bc Br c r1→¬Uh (tq t) c.now →
    ∃ c' r' E,goF Bc Br t (m+1) c r1 n=some (c',r',n+(E.length:Nat))∧c'.now=tq t∧KSt Bc Br c' r'∧c'.ev=c.ev+(E.length:Nat)∧E.length≤m∧Evs Bc t c.now E:=by
  have hT:∀ t∈Ps.flatMap tms,Cut (Qu t):=fun u hu=>by
    obtain ⟨p,p1,p2⟩:=List.mem_flatMap.1 hu
    exact (Q8r (hP p p1) u p2).cut
  have hq:=Q4k ht
  intro m
  induction m with
  | zero=>?_
  | succ m ih=>?_
  all_goals
    intro c r1 n hm hS hnow
    obtain ⟨⟨ok,kk⟩,hcs,hr⟩:=hS
    obtain ⟨ws,w1,w2,w3⟩:=Qo9 ok.n ok.l kk
    have ok':=Im ok w1
    rw [hcs] at w2
    have hc_w:∀ x∈Bc c.now,∃ w∈ws,w.c=x:=fun x hx=>by
      have:x∈ws.map (·.c):=by rw [w2]; exact Qd7.2 hx
      exact List.mem_map.1 this
    have hw_c:∀ w∈ws,w.c∈Bc c.now:=fun w hw=>Qd7.1 (by rw [←w2]; exact List.mem_map_of_mem hw)
    obtain ⟨o,o1,o2⟩:=Q7v ok'.l
    -- the end
    have fin:(∀ w∈ws,∀ u,w.fails=some u→Uh (tq t) u)→KSt Bc Br ⟨tq t,ws,c.ev⟩ r1∧Evs Bc t c.now []:=fun hall=>by
      have hg:∀ x∈Bc c.now,Hr (Ju (tq t)) x.p=Hr (Ju c.now) x.p:=fun x hx=>by
        obtain ⟨w,hw,rfl⟩:=hc_w x hx
        exact Qc9 (S.ok.p _ ok.n _ hx).dp ok.n hq hnow (w3 w hw).2.1 (hall w hw)
      obtain ⟨s1,s2⟩:=S.st _ _ ok.n hq hg
      refine ⟨⟨⟨⟨hq,ok'.l,ok'.k⟩,fun w hw _=>⟨Qiy ok.n.cut hq.cut hnow (w3 w hw).2.1 (hall w hw),(w3 w hw).2.2⟩⟩,?_,?_⟩,.nil fun x hx=>?_⟩
      · show ws.map (·.c)=Q6 (Bc (tq t)); rw [w2,s1]
      · show r1=Br (tq t); rw [s2,hr]
      · obtain ⟨w,hw,rfl⟩:=hc_w x hx
        exact ⟨_,(w3 w hw).2.1,hall w hw⟩
  · cases o with
    |
     none =>
     obtain ⟨f1,f2⟩:=fin fun w hw u hu=>by rw [o2 w hw] at hu; cases hu
     exact ⟨_,_,[],by simp only [goF]; rw [w1]; simp only [Option.bind_some]; rw [o1]; simp,rfl,f1,by simp,by simp,f2⟩
    |
     some a =>
     obtain ⟨va,⟨w,hw,hwa⟩,hmin⟩:=o2
     by_cases h0:0<Qu a t
     · obtain ⟨f1,f2⟩:=fin fun v hv u hu=>by
         have hu':=(ok'.l v hv).f u hu
         exact Qo5 hq.cut va.cut hu'.cut ((Ox va.cut).1 h0) (hmin v hv u hu)
       exact ⟨_,_,[],by simp only [goF]; rw [w1]; simp only [Option.bind_some]; rw [o1]; simp [h0],rfl,f1,by simp,by simp,f2⟩
     · exfalso
       obtain ⟨k1,k2,k3⟩:=w3 w hw
       rw [hwa] at k2
       have:a∈Ps.flatMap tms:=List.mem_flatMap.2 ⟨_,hPs _ ok.n _ (hw_c w hw),k3 a hwa⟩
       have:=Q5o ok.n.cut va.cut hT k2.2.2.1 this
       omega
  · cases o with
    |
     none =>
     obtain ⟨f1,f2⟩:=fin fun w hw u hu=>by rw [o2 w hw] at hu; cases hu
     exact ⟨_,_,[],by simp only [goF]; rw [w1]; simp only [Option.bind_some]; rw [o1]; simp,rfl,f1,by simp,by simp,f2⟩
    |
     some a =>
     obtain ⟨va,⟨w,hw,hwa⟩,hmin⟩:=o2
     by_cases h0:0<Qu a t
     · obtain ⟨f1,f2⟩:=fin fun v hv u hu=>by
         have hu':=(ok'.l v hv).f u hu
         exact Qo5 hq.cut va.cut hu'.cut ((Ox va.cut).1 h0) (hmin v hv u hu)
       exact ⟨_,_,[],by simp only [goF]; rw [w1]; simp only [Option.bind_some]; rw [o1]; simp [h0],rfl,f1,by simp,by simp,f2⟩
     · obtain ⟨k1,k2,k3⟩:=w3 w hw
       rw [hwa] at k2
       have hna:=Q7q ok.n.cut va.cut k2.2.2.1
       have hmem:a∈Ps.flatMap tms:=List.mem_flatMap.2 ⟨_,hPs _ ok.n _ (hw_c w hw),k3 a hwa⟩
       have hlt:=Q5o ok.n.cut va.cut hT k2.2.2.1 hmem
       obtain ⟨w2',l1,l2⟩:=Qa1 va ok'.l (Q6 (Bc a))
       have hl:=Q2n ok.n va hna ok'.l (fun v hv _=>(w3 v hv).2) l1
       have hS':KSt Bc Br ⟨a,w2',c.ev+1⟩ (Br a):=⟨⟨Orr.lay_ok _ ok' va (S.ok.p a va) (S.ok.n a va) l1,hl⟩,l2,rfl⟩
       obtain ⟨c',r',E,g1,g2,g3,g4,g5,g6⟩:=ih ⟨a,w2',c.ev+1⟩ (Br a) (n+1) (by show mu _ a≤m; omega) hS' (fun h=>h0 ((Ox va.cut).2 h))
       refine ⟨c',r',a::E,?_,g2,g3,by rw [g4]; simp; omega,by simp; omega,.cons va k2.2.2.1 (fun h=>h0 ((Ox va.cut).2 h)) (fun x hx=>?_) ⟨w.c,hw_c w hw,k2⟩ g6⟩
       · conv=>lhs; unfold goF
         rw [w1]; simp only [Option.bind_some]; rw [o1]; simp only [Option.bind_some]; rw [if_neg h0,l1]; simp only [Option.bind_some]
         rw [g1]; simp; omega
       · obtain ⟨v,hv,rfl⟩:=hc_w x hx
         exact ⟨_,(w3 v hv).2.1,hmin v hv⟩
end Orq

namespace Orq
open Orr Go
theorem Qh7 {a:Tm} (ha:Va a):∀ (L:List (List Int)),(∀ p∈L,Dp p)→∃ y,Qu a y=-1∧∀ q,Qu a q=-1→q≤y→∀ p∈L,Hr (Ju a) p=Qp (Qh p q)
  |
   [],_=>by
   obtain ⟨y,hy⟩:=ha.cut.hi
   exact ⟨y,hy,fun q _ _ p hp=>by cases hp⟩
  |
   p::L,h=>by
   obtain ⟨y,y1,y2⟩:=Qh7 ha L (fun q hq=>h q (List.mem_cons_of_mem _ hq))
   by_cases h0:p.length=0
   · obtain rfl:=List.eq_nil_of_length_eq_zero h0
     refine ⟨y,y1,fun q q1 q2 r hr=>?_⟩
     rcases List.mem_cons.1 hr with rfl | hr
     · rw [Qao]; exact (Zb.2 rfl).symm
     · exact y2 q q1 q2 r hr
   · obtain ⟨⟨z,z1,z2⟩,_⟩:=Ch ha (h p (by simp)) h0
     refine ⟨if y≤z then y else z,by split <;> assumption,fun q q1 q2 r hr=>?_⟩
     rcases List.mem_cons.1 hr with rfl | hr
     · rw [←Qg]; exact (z2 q q1 (by grind)).symm
     · exact y2 q q1 (by grind) r hr
section Srt
variable {α:Type} {lt:α→α→Bool} {R:α→α→Prop}
theorem Qds {out:List α} {x:α}:∀ k,k≤out.length→(∀ j y,Yx lt out x k≤j→j<k→out[j]? = some y→lt x y=true)∧(0<Yx lt out x k→∃ y,out[Yx lt out x k-1]? = some y∧lt x y=false)
  | 0,_=>⟨fun j y _ h=>by omega,fun h=>by simp [Yx] at h⟩
  |
   k+1,hk=>by
   obtain ⟨y,hy⟩:∃ y,out[k]? = some y:=⟨_,List.getElem?_eq_getElem (by omega)⟩
   by_cases h:lt x y=true
   · rw [C6 hy h]
     obtain ⟨h1,h2⟩:=Qds (out:=out) (x:=x) k (by omega)
     refine ⟨fun j z a1 a2 a3=>?_,h2⟩
     by_cases e:j=k
     · subst e; rw [hy] at a3; injection a3 with a3; subst a3; exact h
     · exact h1 j z a1 (by omega) a3
   · have h:lt x y=false:=by simpa using h
     rw [Pn hy h]
     exact ⟨fun j z a1 a2 _=>by omega,fun _=>⟨y,by simpa using hy,h⟩⟩
theorem Q2j (tr:∀ x y z,R x y→R y z→R x z) {out:List α} {x:α} (ho:out.Pairwise R) (h1:∀ y∈out,lt x y=true→R x y) (h2:∀ y∈out,lt x y=false→R y x):(Wg lt out x).Pairwise R:=by
  obtain ⟨s1,s2⟩:=Qds (lt:=lt) (out:=out) (x:=x) out.length (Nat.le_refl _)
  have hle:=Qfy lt out x out.length
  unfold Wg
  obtain ⟨k,hk⟩:∃ k,k=Yx lt out x out.length:=⟨_,rfl⟩
  rw [←hk] at s1 s2 hle ⊢
  have hd:(out.take k++out.drop k).Pairwise R:=by rw [List.take_append_drop]; exact ho
  obtain ⟨d1,d2,d3⟩:=List.pairwise_append.1 hd
  have hR:∀ y∈out.drop k,R x y:=fun y hy=>by
    obtain ⟨i,hi⟩:=List.getElem?_of_mem hy
    rw [List.getElem?_drop] at hi
    have:k+i<out.length:=(List.getElem?_eq_some_iff.1 hi).1
    exact h1 y (List.mem_of_mem_drop hy) (s1 (k+i) y (by omega) this hi)
  have hL:∀ y∈out.take k,R y x:=fun y hy=>by
    obtain ⟨i,hi⟩:=List.getElem?_of_mem hy
    have hik:i<k:=by have:=(List.getElem?_eq_some_iff.1 hi).1; simp at this; omega
    rw [List.getElem?_take_of_lt hik] at hi
    obtain ⟨z,z1,z2⟩:=s2 (by omega)
    have hz:=h2 z (List.mem_of_getElem? z1) z2
    by_cases e:i=k-1
    · subst e; rw [hi] at z1; injection z1 with z1; subst z1; exact hz
    · have hp:=List.pairwise_iff_getElem.1 ho i (k-1) (by omega) (by omega) (by omega)
      obtain ⟨_,e1⟩:=List.getElem?_eq_some_iff.1 hi
      obtain ⟨_,e2⟩:=List.getElem?_eq_some_iff.1 z1
      rw [e1,e2] at hp
      exact tr _ _ _ hp hz
  refine List.pairwise_append.2 ⟨d1,List.pairwise_cons.2 ⟨hR,d2⟩,fun y hy z hz=>?_⟩
  rcases List.mem_cons.1 hz with rfl | hz
  · exact hL y hy
  · exact d3 y hy z hz
theorem foldG_pw (tr:∀ x y z,R x y→R y z→R x z) {S:α→Prop} (h1:∀ x y,S x→S y→lt x y=true→R x y) {D:α→α→Prop} (h2:∀ x y,S x→S y→D y x→lt x y=false→R y x) :
    ∀ (l acc:List α),acc.Pairwise R→(∀ x∈acc,S x)→(∀ x∈l,S x)→l.Pairwise D→(∀ x∈acc,∀ y∈l,D x y)→(l.foldl (Wg lt) acc).Pairwise R
  | [],acc,ha,_,_,_,_=>ha
  |
   x::l,acc,ha,hs,hl,hd,hx=>by
   rw [List.pairwise_cons] at hd
   refine foldG_pw tr h1 h2 l (Wg lt acc x) ?_ ?_ (fun y hy=>hl y (List.mem_cons_of_mem _ hy)) hd.2 ?_
   · exact Q2j tr ha (fun y hy=>h1 x y (hl x (by simp)) (hs y hy)) (fun y hy=>h2 x y (hl x (by simp)) (hs y hy) (hx y hy x (by simp)))
   · intro y hy
     rcases Qat.1 hy with rfl | hy
     · exact hl _ (by simp)
     · exact hs y hy
   · intro y hy z hz
     rcases Qat.1 hy with rfl | hy
     · exact hd.1 z hz
     · exact hx y hy z (List.mem_cons_of_mem _ hz)
end Srt
def px (p:Pt) (q:Rat):Rat:=Qh p.c.x q / (p.c.d:Rat)
def py (p:Pt) (q:Rat):Rat:=Qh p.c.y q / (p.c.d:Rat)
theorem Qd5 {u v:Rat} {c d:Int} (hc:0<c) (hd:0<d):Qp (v*(c:Rat)-u*(d:Rat))=Qp (v / (d:Rat)-u / (c:Rat)):=by
  have hc':(0:Rat)<(c:Rat):=by exact_mod_cast hc
  have hd':(0:Rat)<(d:Rat):=by exact_mod_cast hd
  have e:v*(c:Rat)-u*(d:Rat)=((c:Rat)*(d:Rat))*(v / (d:Rat)-u / (c:Rat)):=by
    rw [Rat.div_def,Rat.div_def]
    have h1:=Rat.mul_inv_cancel (c:Rat) (by grind)
    have h2:=Rat.mul_inv_cancel (d:Rat) (by grind)
    grind
  rw [e,To (Rat.mul_pos hc' hd')]
theorem Qsu {x y:Pt} (hx:Sc x.c) (hy:Sc y.c) (q:Rat):Qp (Qh (X8 x.c y.c) q)=Qp (px y q-px x q):=by
  unfold X8 px; rw [Ua,X6,X6]; exact Qd5 hx.n.2.2.1 hy.n.2.2.1
theorem Qst {x y:Pt} (hx:Sc x.c) (hy:Sc y.c) (q:Rat):Qp (Qh (Xi x.c y.c) q)=Qp (py y q-py x q):=by
  unfold Xi py; rw [Ua,X6,X6]; exact Qd5 hx.n.2.2.1 hy.n.2.2.1
def Qbz (l:List Pt):List (List Int):=l.flatMap fun x=>l.flatMap fun y=>[X8 x.c y.c,Xi x.c y.c]
theorem Hg {l:List Pt} {x y:Pt} (hx:x∈l) (hy:y∈l):X8 x.c y.c∈Qbz l∧Xi x.c y.c∈Qbz l :=
  ⟨List.mem_flatMap.2 ⟨x,hx,List.mem_flatMap.2 ⟨y,hy,by simp⟩⟩,List.mem_flatMap.2 ⟨x,hx,List.mem_flatMap.2 ⟨y,hy,by simp⟩⟩⟩
theorem Qei {l:List Pt} (hl:∀ p∈l,Sc p.c):∀ p∈Qbz l,Cp p:=fun p hp=>by
  obtain ⟨x,hx,hp⟩:=List.mem_flatMap.1 hp
  obtain ⟨y,hy,hp⟩:=List.mem_flatMap.1 hp
  simp at hp
  rcases hp with rfl | rfl
  · exact Sp (hl x hx) (hl y hy)
  · exact So (hl x hx) (hl y hy)
theorem Qte (l:List Pt):(Qbz l).length=l.length*(l.length*2):=by
  have h1:∀ (x:Pt) (m:List Pt),(m.flatMap fun y=>[X8 x.c y.c,Xi x.c y.c]).length=m.length*2:=fun x m=>by
    induction m with
    | nil=>rfl
    | cons y m ih=>rw [List.flatMap_cons,List.length_append,ih,List.length_cons]; simp; omega
  have h2:∀ m:List Pt,(m.flatMap fun x=>l.flatMap fun y=>[X8 x.c y.c,Xi x.c y.c]).length=m.length*(l.length*2):=fun m=>by
    induction m with
    | nil=>simp
    | cons y m ih=>rw [List.flatMap_cons,List.length_append,ih,List.length_cons,h1,Nat.add_mul,Nat.one_mul,Nat.add_comm]
  exact h2 l
end Orq

namespace Orr
open Go
section
variable {α:Type} {lt:α→α→Bool}
theorem Qr4 (out:List α) (c:α):(Wg lt out c).Perm (c::out):=by
  unfold Wg
  exact (List.perm_middle).trans (by rw [List.take_append_drop])
theorem Qai:∀ (l acc:List α),(l.foldl (Wg lt) acc).Perm (l++acc)
  | [],acc=>List.Perm.refl _
  |
   c::l,acc=>by
   simp only [List.foldl_cons]
   exact (Qai l _).trans (((Qr4 acc c).append_left l).trans List.perm_middle)
theorem Qmq (l:List α):(Z9 lt l).Perm l:=by
  have:=Qai (lt:=lt) l []
  rwa [List.append_nil] at this
end
def W7 (a b:Pt):Bool:=decide (a.id<b.id)
def Pt.m5 (p:Pt):Pt:=⟨p.c,p.id % 5⟩
def Ml (O:List Pt) (i:Nat):List Pt:=(O.take i).map Pt.m5++O.drop i
theorem Qxi (O:List Pt):Ml O 0=O:=by simp [Ml]
theorem Io (O:List Pt) (i:Nat):(Ml O i).length=O.length:=by
  unfold Ml; rw [List.length_append,List.length_map,List.length_take,List.length_drop]; omega
theorem Qpg {O:List Pt} {i:Nat} {p:Pt} (h:O[i]? = some p):(Ml O i).set i p.m5=Ml O (i+1):=by
  have hi:=(List.getElem?_eq_some_iff.1 h).1
  have hl:((O.take i).map Pt.m5).length=i:=by rw [List.length_map,List.length_take]; omega
  unfold Ml
  rw [List.set_append,if_neg (by omega),hl,Nat.sub_self,List.take_succ,h,Option.toList_some,List.map_append,List.append_assoc]
  congr 1
  rw [List.drop_eq_getElem_cons hi]
  have:O[i]=p:=by
    have:=(List.getElem?_eq_some_iff.1 h).2
    exact this
  rfl
theorem Q2x {O:List Pt} {i:Nat} {p:Pt} (h:O[i]? = some p):(Ml O i)[i]? = some p:=by
  have hi:=(List.getElem?_eq_some_iff.1 h).1
  have hl:((O.take i).map Pt.m5).length=i:=by rw [List.length_map,List.length_take]; omega
  unfold Ml
  rw [List.getElem?_append_right (by omega),hl,Nat.sub_self,List.getElem?_drop]
  exact h
theorem Qpf {O:List Pt} {i k:Nat} {p:Pt} (hk:k<i) (h:O[k]? = some p):(Ml O i)[k]? = some p.m5:=by
  have hi:=(List.getElem?_eq_some_iff.1 h).1
  unfold Ml
  rw [List.getElem?_append_left (by rw [List.length_map,List.length_take]; omega),List.getElem?_map,List.getElem?_take,if_pos hk,h]; rfl
theorem Qir {O:List Pt} {e i:Nat} (h:e≤i) (hi:i≤O.length):(Ml O i).take e=(O.take e).map Pt.m5:=by
  unfold Ml
  rw [List.take_append_of_le_length (by rw [List.length_map,List.length_take]; omega),←List.map_take,List.take_take,Nat.min_eq_left h]
def Ya (O:List Pt) (e:Nat):List Pt:=(O.take e).map Pt.m5
def M8 (O:List Pt) (e:Nat):List Pt:=(Ya O e).map Pt.nrm
def Gs (l:List Pt):Prop:=l.Pairwise fun a b=>a.id≠b.id
theorem Qrn {O:List Pt} {i:Nat} {p:Pt} (h:O[i]? = some p):Ya O (i+1)=Ya O i++[p.m5]:=by
  unfold Ya; rw [List.take_succ,h,Option.toList_some,List.map_append]; rfl
theorem Qrt {O:List Pt} {i:Nat} {p:Pt} (h:O[i]? = some p) (hd:Gs (Ya O i)) (hn:∀ k x,k<i→O[k]? = some x→x.m5.id≠p.m5.id):Gs (Ya O (i+1)):=by
  rw [Qrn h]
  refine List.pairwise_append.2 ⟨hd,List.pairwise_singleton _ _,fun a ha b hb=>?_⟩
  rw [List.mem_singleton.1 hb]
  obtain ⟨x,hx,rfl⟩:=List.mem_map.1 ha
  obtain ⟨k,hk,rfl⟩:=List.mem_iff_getElem.1 hx
  rw [List.length_take] at hk
  rw [List.getElem_take]
  exact hn k _ (by omega) (List.getElem?_eq_getElem (by omega))
theorem Ln {O:List Pt} {e:Nat} (h:Gs (Ya O e)):Gs (M8 O e):=List.Pairwise.map Pt.nrm (fun _ _ h=>h) h
theorem Ag (O:List Pt) (e:Nat):(M8 O e).length=(Ya O e).length:=by unfold M8; rw [List.length_map]
theorem B9 {O:List Pt} {e:Nat} (h:e≤O.length):(Ya O e).length=e:=by unfold Ya; rw [List.length_map,List.length_take]; omega
def Qqr (p:Pt):Prop:=Cs 10 3 p.c
theorem Qdi {n:Nat} {most:Int} (hm:0≤most∧most≤999) {l:List RawPt}:∀ p∈En n most l,Qqr p:=fun p hp=>by
  rcases Cg _ _ hp with h | h
  · cases h
  · obtain ⟨z,_,rfl⟩:=List.mem_map.1 h
    exact Qcm hm _ _ _
theorem Qhp {O:List Pt} (h:∀ p∈O,Qqr p) (e:Nat):∀ p∈Ya O e,Qqr p:=fun p hp=>by
  obtain ⟨x,hx,rfl⟩:=List.mem_map.1 hp
  exact h x (List.mem_of_mem_take hx)
theorem Qog {O:List Pt} (h:∀ p∈O,Qqr p) (e:Nat):∀ p∈M8 O e,Nml p.c∧Cs 10 3 p.c:=fun p hp=>by
  obtain ⟨x,hx,rfl⟩:=List.mem_map.1 hp
  exact ⟨x.c.nml,(Qhp h e x hx).norm (by decide)⟩
theorem Qdf {s n:Nat}:∀ {l:List Pt},(∀ p∈l,Cs s n p.c)→IsPts s n (l.map Xe) (l.map Pt.nrm)
  | [],_=>trivial
  | p::l,h=>⟨⟨p.c.x.map Zq,p.c.y.map Zq,_,_,_,_,p.c.d,rfl,Zk _,Zk _,Qe _,h p (List.mem_cons_self ..),rfl⟩,Qdf fun x hx=>h x (List.mem_cons_of_mem _ hx)⟩
theorem Qd8:∀ {l m:List Pt},Jj l→Jj m→(∀ x,x∈l↔x∈m)→l=m
  | [],[],_,_,_=>rfl
  | [],b::m,_,_,h=>absurd ((h b).2 (List.mem_cons_self ..)) (by simp)
  | a::l,[],_,_,h=>absurd ((h a).1 (List.mem_cons_self ..)) (by simp)
  |
   a::l,b::m,h1,h2,h=>by
   have h1':=List.pairwise_cons.1 h1
   have h2':=List.pairwise_cons.1 h2
   have hab:a=b:=by
     rcases List.mem_cons.1 ((h a).1 (List.mem_cons_self ..)) with e | e
     · exact e
     · rcases List.mem_cons.1 ((h b).2 (List.mem_cons_self ..)) with e2 | e2
       · exact e2.symm
       · have:=h2'.1 a e; have:=h1'.1 b e2; omega
   subst hab
   congr 1
   refine Qd8 h1'.2 h2'.2 fun x=>⟨fun hx=>?_,fun hx=>?_⟩
   · rcases List.mem_cons.1 ((h x).1 (List.mem_cons_of_mem _ hx)) with e | e
     · have:=h1'.1 x hx; rw [e] at this; omega
     · exact e
   · rcases List.mem_cons.1 ((h x).2 (List.mem_cons_of_mem _ hx)) with e | e
     · have:=h2'.1 x hx; rw [e] at this; omega
     · exact e
theorem Dm {l:List Pt} (h:Gs l):Jj (Z9 W7 l) :=
  Orq.foldG_pw (R:=fun a b:Pt=>a.id<b.id) (S:=fun _=>True) (D:=fun a b:Pt=>a.id≠b.id) (fun x y z h1 h2=>Int.lt_trans h1 h2) (fun x y _ _ h=>of_decide_eq_true h) (fun x y _ _ h1 h=>by have:=of_decide_eq_false h; omega) l [] .nil (fun x hx=>by cases hx) (fun _ _=>trivial) h (fun x hx=>by cases hx)
theorem Qyi (l:List Pt) (q:Pt):(put l q).Perm (q::l):=by
  unfold put
  exact List.perm_middle.trans (by rw [List.take_append_drop])
theorem Qdo:∀ (qs acc:List Pt),(J1 acc qs).2=0→(J1 acc qs).1.Perm (qs++acc)
  | [],acc,_=>List.Perm.refl _
  |
   q::qs,acc,h=>by
   simp only [J1] at h ⊢
   split
   · rename_i h0
     rw [if_pos h0] at h
     refine (Qdo qs _ h).trans ?_
     exact ((Qyi acc q).append_left qs).trans List.perm_middle
   · rename_i h0
     rw [if_neg h0] at h
     exact absurd h h0
theorem Qsc {qs:List Pt} (hl:qs.length≤6) (hd:Gs qs):(J1 [] qs).2=0∧(J1 [] qs).1=Z9 W7 qs:=by
  rcases Qsb hl with ⟨h1,h2,_,_⟩ | ⟨_,h2⟩
  · refine ⟨h1,Qd8 h2 (Dm hd) fun x=>?_⟩
    have h3:=Qdo qs [] h1
    rw [List.append_nil] at h3
    rw [h3.mem_iff,Mw]
  · exact absurd hd h2
end Orr

namespace Orr
open Go Go.Proofs
set_option maxRecDepth 10000
theorem Q2i {α:Type} {f:α→List LV} {lt:α→α→Bool} {O:List α} {c:α} {k:Nat} (hp:Yx lt O c O.length=k):(O.map f).take k++(f c::(O.map f).drop k)=(Wg lt O c).map f:=by
  simp [Wg,hp,List.map_take,List.map_drop]
theorem Qie {α:Type} {f:α→List LV} {lt:α→α→Bool} {O:List α} {c:α} {k:Nat} (hp:Yx lt O c O.length=k):(O.map f).take k++([f c]++((O.map f).drop k).take ((O.map f).length-k))=(Wg lt O c).map f:=by
  rw [List.take_of_length_le (l:=(O.map f).drop k) (by simp)]
  exact Q2i hp
theorem Qif {lt:Pt→Pt→Bool} {O:List Pt} {c:Pt} {k:Nat} (hp:Yx lt O c O.length=k):(Q3 O).take k++([Al c]++((Q3 O).drop k).take ((Q3 O).length-k))=Q3 (Wg lt O c):=Qie hp
theorem Jy (l:List Pt):(Q3 l).length=l.length:=by simp [Q3]
theorem Dh (l:List Pt):∀ c∈Q3 l,c.length=7:=fun c hc=>by obtain ⟨x,_,rfl⟩:=List.mem_map.1 hc; rfl
theorem Uw {l:List Pt} {i:Nat} {c:Pt} (h:l[i]? = some c):(Q3 l)[i]? = some (Al c):=Zm h
theorem Qn3 {l:List Pt} (hn:l.length≤1000000):Qc Tryz.prog 86 [.one (.row (Q3 l))] [.one (.row (Q3 (Z9 W7 l)))]:=by
  have hcl:=Jy l
  refine Z1 Tryz.func86 rfl ?_
  refine go tt [.o 3 112 7] rfl trivial ?_
  refine lp (S:=Nat) 1 (fun L1 i=>(8,.v (.one (.int .i64 (i:Int))))::(3,.v (.one (.orow 0 7 none)))::L1) (fun i=>[.row false 112 7 (Q3 (Z9 W7 (l.take i)))]) (fun i=>l.length-i) (fun i=>i≤l.length) 0 (Nat.zero_le _) rfl (fun _ _=>rfl) rfl fun i hi=>?_
  by_cases hlt:i<l.length
  · obtain ⟨c,hc⟩:∃ c,l[i]? = some c:=⟨_,List.getElem?_eq_getElem hlt⟩
    have hst:Z9 W7 (l.take (i+1))=Wg W7 (Z9 W7 (l.take i)) c:=Bf hc
    obtain ⟨O,hO⟩:∃ O,O=Z9 W7 (l.take i):=⟨_,rfl⟩
    have hOl:O.length=i:=by rw [hO,Ve,List.length_take]; omega
    have hrl:=Jy O
    rw [←hO] at hst ⊢
    refine go tt [.t (decide_eq_true (by omega))] rfl trivial ?_
    refine lp (S:=Nat) 1 (fun L1 k=>(5,.v (.one (.int .i64 (k:Int))))::L1) (fun _=>[.row false 112 7 (Q3 O)]) id (fun k=>k≤O.length∧Yx W7 O c k=Yx W7 O c O.length) (Q3 O).length ⟨by omega,by rw [hrl]⟩ rfl (fun _ _=>rfl) rfl fun k ⟨hk,hp⟩=>?_
    have h7:=Dh O
    have h7z:∀ y∈[Al c],y.length=7:=fun y hy=>by rw [List.mem_singleton.1 hy]; rfl
    cases k with
    |
     zero =>
     have hp:Yx W7 O c O.length=0:=by rw [←hp]; rfl
     refine go tt [.g 15 false (by simp),.f rfl,.i 0,.x (Uw hc),.lo,.i 0,.s (sz:=7) (fun y hy=>h7 y (List.mem_of_mem_take hy)),.s (sz:=7) (fun y hy=>(List.mem_append.1 hy).elim (h7z y) fun hy=>h7 y (List.mem_of_mem_take hy))] rfl (by simp [Qa]; omega) ?_
     exact rd (i+1) (by omega) hlt (by rw [hst,←Qif hp]; rfl)
    |
     succ k =>
     obtain ⟨x,hx⟩:∃ x,O[k]? = some x:=⟨_,List.getElem?_eq_getElem (by omega)⟩
     by_cases hlc:W7 c x=true
     · refine go tt [.g 15 true (by simp),.x (Uw hc),.r 23 (eI (b:=(k:Int)) (by simp)),.i k,.x (Uw hx),.t hlc,.r 30 (eI (b:=(k:Int)) (by simp))] rfl (by simp [Qa]; omega) ?_
       exact rd k (by simp) ⟨by omega,by rw [←hp,C6 hx hlc]⟩ rfl
     · have hlc:W7 c x=false:=by simpa using hlc
       have hp:Yx W7 O c O.length=k+1:=by rw [←hp,Pn hx hlc]
       refine go tt [.g 15 true (by simp),.x (Uw hc),.r 23 (eI (b:=(k:Int)) (by simp)),.i k,.x (Uw hx),.f hlc,.i (k+1),.x (Uw hc),.lo,.i (k+1),.s (sz:=7) (fun y hy=>h7 y (List.mem_of_mem_drop (List.mem_of_mem_take hy))),.s (sz:=7) (fun y hy=>(List.mem_append.1 hy).elim (h7z y) fun hy=>h7 y (List.mem_of_mem_drop (List.mem_of_mem_take hy)))] rfl (by simp [Qa]; omega) ?_
       exact rd (i+1) (by omega) hlt (by rw [hst,←Qif hp]; rfl)
  · obtain rfl:i=l.length:=by omega
    rw [List.take_length]
    exact en tt [.f (decide_eq_false (by omega))] rfl rfl trivial
end Orr

namespace Orr
open Go Go.Proofs
set_option maxRecDepth 10000
def rct (c:Ct):List LV:=[.int .i64 c.kind,.int .i64 c.i0,.int .i64 c.i1,.int .i64 c.i2,.int .i64 c.i3,rp (zp c.p),.int .i64 c.want,.row [],.bool false]
def Jn (l:List Ct):List (List LV):=l.map rct
theorem Tl (l:List Ct):(Jn l).length=l.length:=by simp [Jn]
theorem Qjh (l:List Ct):∀ c∈Jn l,c.length=9:=fun c hc=>by obtain ⟨x,_,rfl⟩:=List.mem_map.1 hc; rfl
theorem Mr {l:List Ct} {i:Nat} {c:Ct} (h:l[i]? = some c):(Jn l)[i]? = some (rct c):=Zm h
theorem Qid {lt:Ct→Ct→Bool} {O:List Ct} {c:Ct} {k:Nat} (hp:Yx lt O c O.length=k):(Jn O).take k++([rct c]++((Jn O).drop k).take ((Jn O).length-k))=Jn (Wg lt O c):=Qie hp
theorem Q1r {k i0 i1 i2 i3 l j0 j1 j2 j3:Int}:Qc Tryz.prog 312 [.agg [.int .i64 k,.int .i64 i0,.int .i64 i1,.int .i64 i2,.int .i64 i3],.agg [.int .i64 l,.int .i64 j0,.int .i64 j1,.int .i64 j2,.int .i64 j3]] [.one (.bool (X1 [k,i0,i1,i2,i3] [l,j0,j1,j2,j3]))]:=by
  by_cases hk:k=l
  · subst hk
    rw [show X1 [k,i0,i1,i2,i3] [k,j0,j1,j2,j3]=X1 [i0,i1,i2,i3] [j0,j1,j2,j3] from by simp [X1]]
    refine Z1 Tryz.func312 rfl ?_
    refine go tt [.f (by simp)] rfl trivial ?_
    refine lp (S:=Nat) 2 (fun L1 i=>(5,.v (.one (.int .i64 (i:Int))))::L1) (fun _=>[.blk 159 [.int .i64 k,.int .i64 i0,.int .i64 i1,.int .i64 i2,.int .i64 i3],.blk 159 [.int .i64 k,.int .i64 j0,.int .i64 j1,.int .i64 j2,.int .i64 j3]]) (fun i=>4-i) (fun i=>i≤4∧X1 ([i0,i1,i2,i3].drop i) ([j0,j1,j2,j3].drop i)=X1 [i0,i1,i2,i3] [j0,j1,j2,j3]) 0 ⟨by omega,rfl⟩ rfl (fun _ _=>rfl) rfl fun i ⟨hi,he⟩=>?_
    rw [←he]
    rcases (show i=0∨i=1∨i=2∨i=3∨i=4 by omega) with rfl | rfl | rfl | rfl | rfl
    · by_cases h:i0=j0
      · exact go tt [.t rfl,.i 0,.i 0,.f (by simpa using h)] rfl (by simp [Qa]) (rd 1 (by omega) ⟨by omega,by simp [X1,h]⟩ rfl)
      · exact en tt [.t rfl,.i 0,.i 0,.t (by simpa using h),.i 0,.i 0] rfl (by simp [X1,h]) trivial
    · by_cases h:i1=j1
      · exact go tt [.t rfl,.i 1,.i 1,.f (by simpa using h)] rfl (by simp [Qa]) (rd 2 (by omega) ⟨by omega,by simp [X1,h]⟩ rfl)
      · exact en tt [.t rfl,.i 1,.i 1,.t (by simpa using h),.i 1,.i 1] rfl (by simp [X1,h]) trivial
    · by_cases h:i2=j2
      · exact go tt [.t rfl,.i 2,.i 2,.f (by simpa using h)] rfl (by simp [Qa]) (rd 3 (by omega) ⟨by omega,by simp [X1,h]⟩ rfl)
      · exact en tt [.t rfl,.i 2,.i 2,.t (by simpa using h),.i 2,.i 2] rfl (by simp [X1,h]) trivial
    · by_cases h:i3=j3
      · exact go tt [.t rfl,.i 3,.i 3,.f (by simpa using h)] rfl (by simp [Qa]) (rd 4 (by omega) ⟨by omega,by simp [X1,h]⟩ rfl)
      · exact en tt [.t rfl,.i 3,.i 3,.t (by simpa using h),.i 3,.i 3] rfl (by simp [X1,h]) trivial
    · exact en tt [.f rfl] rfl (by simp [X1]) trivial
  · exact w tt Tryz.func312 rfl [.t (by simpa using hk)] rfl (by simp [X1,hk]) trivial
theorem Q1u {l:List Ct} (hn:l.length≤1000000):Qc Tryz.prog 289 [.one (.row (Jn l))] [.one (.row (Jn (Z9 Kk l)))]:=by
  have hcl:=Tl l
  refine Z1 Tryz.func289 rfl ?_
  refine go tt [.o 3 265 9] rfl trivial ?_
  refine lp (S:=Nat) 1 (fun L1 i=>(8,.v (.one (.int .i64 (i:Int))))::(3,.v (.one (.orow 0 9 none)))::L1) (fun i=>[.row false 265 9 (Jn (Z9 Kk (l.take i)))]) (fun i=>l.length-i) (fun i=>i≤l.length) 0 (Nat.zero_le _) rfl (fun _ _=>rfl) rfl fun i hi=>?_
  by_cases hlt:i<l.length
  · obtain ⟨c,hc⟩:∃ c,l[i]? = some c:=⟨_,List.getElem?_eq_getElem hlt⟩
    have hst:Z9 Kk (l.take (i+1))=Wg Kk (Z9 Kk (l.take i)) c:=Bf hc
    obtain ⟨O,hO⟩:∃ O,O=Z9 Kk (l.take i):=⟨_,rfl⟩
    have hOl:O.length=i:=by rw [hO,Ve,List.length_take]; omega
    have hrl:=Tl O
    rw [←hO] at hst ⊢
    refine go tt [.t (decide_eq_true (by omega))] rfl trivial ?_
    refine lp (S:=Nat) 1 (fun L1 k=>(5,.v (.one (.int .i64 (k:Int))))::L1) (fun _=>[.row false 265 9 (Jn O)]) id (fun k=>k≤O.length∧Yx Kk O c k=Yx Kk O c O.length) (Jn O).length ⟨by omega,by rw [hrl]⟩ rfl (fun _ _=>rfl) rfl fun k ⟨hk,hp⟩=>?_
    have h7:=Qjh O
    have h7z:∀ y∈[rct c],y.length=9:=fun y hy=>by rw [List.mem_singleton.1 hy]; rfl
    cases k with
    |
     zero =>
     have hp:Yx Kk O c O.length=0:=by rw [←hp]; rfl
     refine go tt [.g 15 false (by simp),.f rfl,.i 0,.x (Mr hc),.lo,.i 0,.s (sz:=9) (fun y hy=>h7 y (List.mem_of_mem_take hy)),.s (sz:=9) (fun y hy=>(List.mem_append.1 hy).elim (h7z y) fun hy=>h7 y (List.mem_of_mem_take hy))] rfl (by simp [Qa]; omega) ?_
     exact rd (i+1) (by omega) hlt (by rw [hst,←Qid hp]; rfl)
    |
     succ k =>
     obtain ⟨x,hx⟩:∃ x,O[k]? = some x:=⟨_,List.getElem?_eq_getElem (by omega)⟩
     have cb:=Q1r (k:=c.kind) (i0:=c.i0) (i1:=c.i1) (i2:=c.i2) (i3:=c.i3) (l:=x.kind) (j0:=x.i0) (j1:=x.i1) (j2:=x.i2) (j3:=x.i3)
     by_cases hlc:Kk c x=true
     · refine go tt [.g 15 true (by simp),.x (Mr hc),.r 23 (eI (b:=(k:Int)) (by simp)),.i k,.x (Mr hx),.c [] cb,.t hlc,.r 30 (eI (b:=(k:Int)) (by simp))] rfl (by simp [Qa]; omega) ?_
       exact rd k (by simp) ⟨by omega,by rw [←hp,C6 hx hlc]⟩ rfl
     · have hlc:Kk c x=false:=by simpa using hlc
       have hp:Yx Kk O c O.length=k+1:=by rw [←hp,Pn hx hlc]
       refine go tt [.g 15 true (by simp),.x (Mr hc),.r 23 (eI (b:=(k:Int)) (by simp)),.i k,.x (Mr hx),.c [] cb,.f hlc,.i (k+1),.x (Mr hc),.lo,.i (k+1),.s (sz:=9) (fun y hy=>h7 y (List.mem_of_mem_drop (List.mem_of_mem_take hy))),.s (sz:=9) (fun y hy=>(List.mem_append.1 hy).elim (h7z y) fun hy=>h7 y (List.mem_of_mem_drop (List.mem_of_mem_take hy)))] rfl (by simp [Qa]; omega) ?_
       exact rd (i+1) (by omega) hlt (by rw [hst,←Qid hp]; rfl)
  · obtain rfl:i=l.length:=by omega
    rw [List.take_length]
    exact en tt [.f (decide_eq_false (by omega))] rfl rfl trivial
end Orr

namespace Orr
open Go Go.Proofs
set_option maxRecDepth 10000
abbrev sgq (q:Rat):List Int→Int:=fun p=>Z0 p q
abbrev rzc:List LV:=[.int .i64 0,.int .i64 0,.int .i64 0,.int .i64 0,.int .i64 0,.nils,.int .i64 0,.nils,.bool false]
theorem Qu8 {l:List Ct} (hn:l.length≤1000000):Qc Tryz.prog 148 [.one (.row []),.one (.row (Jn l))] [.one (.row (Jn l))]:=by
  have hcl:=Tl l
  refine Z1 Tryz.func148 rfl ?_
  refine go tt [] rfl trivial ?_
  refine lp (S:=Nat) 0 (fun L1 i=>(9,.v (.one (.int .i64 (i:Int))))::L1) (fun _=>[]) (fun i=>l.length-i) (fun i=>i≤l.length) 0 (Nat.zero_le _) rfl (fun _ _=>rfl) rfl fun i hi=>?_
  by_cases hlt:i<l.length
  · refine go tt [.t (decide_eq_true (by omega))] rfl trivial ?_
    refine lp (S:=Nat) 0 (fun L1 k=>(14,.v (.one (.int .i64 (k:Int))))::L1) (fun _=>[]) (fun k=>0-k) (fun k=>k=0) 0 rfl rfl (fun _ _=>rfl) rfl fun k hk=>?_
    subst hk
    exact go tt [.f rfl] rfl (by simp [Qa]; omega) (rd (i+1) (by omega) hlt rfl)
  · exact en tt [.f (decide_eq_false (by omega))] rfl rfl trivial
end Orr

namespace Orr
open Go Go.Proofs
set_option maxRecDepth 10000
theorem Q2u (l:List Nat) (n:Nat):(lm l).take (min l.length n)=lm (l.take n):=by
  rw [lm,lm,←List.map_take]
  rcases Nat.le_total l.length n with h | h
  · rw [Nat.min_eq_left h,List.take_length,List.take_of_length_le h]
  · rw [Nat.min_eq_right h]
theorem Q6p {l:List Nat} {n:Nat} (hn:n≤1000):Qc Tryz.prog 246 [.one (.row (lm l)),.one (.int .i64 (n:Int))] [.one (.row (lm (l.take n)))]:=by
  rw [←Q2u]
  have hll:(lm l).length=l.length:=by simp [lm]
  exact w tt Tryz.func246 rfl [.r 9 (eI (b:=((min l.length n:Nat):Int)) (by omega)),.i (min l.length n)] rfl rfl (by simp [Qa,hll]; omega)
theorem Qus {z:RawInt}:Qc Tryz.prog 203 [.agg (Eq z),.one (.int .i64 1)] [.agg (Eq z.cut)] :=
  w tt Tryz.func203 rfl [.c [] (Q6p (l:=z.l) (n:=1) (by decide))] rfl rfl trivial
def Ni (l:List RawInt):List (List LV):=l.map Eq
theorem Ms (l:List RawInt):(Ni l).length=l.length:=by simp [Ni]
theorem Qnx {l:List RawInt}:Qc Tryz.prog 202 [.one (.row (Ni l)),.one (.int .i64 3),.one (.int .i64 1)] [.one (.row (Ni ((l.take 3).map RawInt.cut)))]:=by
  have hll:=Ms l
  refine Z1 Tryz.func202 rfl (ln 0 rfl rfl fun hzl=>?_)
  rw [hll] at hzl
  refine go tt [.o 7 29 2] rfl trivial ?_
  refine lp (S:=Nat) 1 (fun L1 i=>(8,.v (.one (.int .i64 (i:Int))))::(7,.v (.one (.orow 0 2 none)))::L1) (fun i=>[.row false 29 2 (Ni ((l.take i).map RawInt.cut))]) (fun i=>3-i) (fun i=>i≤3∧i≤l.length) 0 ⟨by decide,Nat.zero_le _⟩ rfl (fun _ _=>rfl) rfl fun i ⟨hi,hi2⟩=>?_
  have hil:(Ni ((l.take i).map RawInt.cut)).length=i:=by rw [Ms,List.length_map,List.length_take]; omega
  by_cases h1:i<l.length
  · by_cases h2:i<3
    · obtain ⟨z,hz⟩:∃ z,l[i]? = some z:=⟨_,List.getElem?_eq_getElem h1⟩
      have hm:∀ y∈[Eq z.cut],y.length=2:=fun y hy=>by rw [List.mem_singleton.1 hy]; rfl
      refine go tt [.g 13 true (decide_eq_true (by omega)),.t (decide_eq_true (by omega)),.x (Zm (f:=Eq) hz),.c [] Qus,.s (sz:=2) hm] rfl (by simp [Qa,hil,-List.map_take]; omega) ?_
      exact rd (i+1) (by omega) ⟨h2,h1⟩ (by rw [List.take_succ,hz]; simp [Ni]; rfl)
    · have e:i=3:=by omega
      have e2:l.take 3=l.take i:=by rw [e]
      rw [e2]
      exact en tt [.g 13 true (decide_eq_true (by omega)),.f (decide_eq_false (by omega))] rfl rfl trivial
  · have e:l.take i=l.take 3:=by rw [List.take_of_length_le (by omega),List.take_of_length_le (by omega)]
    rw [e]
    exact en tt [.g 13 false (decide_eq_false (by omega)),.f rfl] rfl rfl trivial
abbrev rcw (z:RawPt):List LV:=[.row (Ni z.x),.row (Ni z.y),.bool z.d.b,.row (lm z.d.l)]
def RawPt.cut (z:RawPt):RawPt:=⟨(z.x.take 3).map RawInt.cut,(z.y.take 3).map RawInt.cut,z.d.cut,z.id⟩
theorem Q9g {z:RawPt}:Qc Tryz.prog 144 [.agg (rcw z),.one (.int .i64 3),.one (.int .i64 1)] [.agg (rcw z.cut)] :=
  w tt Tryz.func144 rfl [.c [] (Qnx (l:=z.x)),.c [] (Qnx (l:=z.y)),.c [] (Qus (z:=z.d))] rfl rfl trivial
theorem By {z:RawInt} (hz:z.Ok) {most:Int} (hm:0≤most∧most≤999):Qc Tryz.prog 204 [.agg (Eq z),.one (.int .i64 most)] [.agg (Zq (Jf most z))]:=by
  obtain ⟨b,l⟩:=z
  have hb:=Nu hm.1 ⟨b,l⟩
  have hs:Qn (Jf most ⟨b,l⟩)≤100000000:=Nat.le_trans (J0.2 (show (Jf most ⟨b,l⟩).natAbs<2^10 by omega)) (by decide)
  cases l with
  | nil=>exact w tt Tryz.func204 rfl [.t rfl] rfl (by simp [Jf,Fl]) trivial
  |
   cons u l =>
   have hu:=hz.u u (List.mem_cons_self ..)
   have co:=W3 (n:=Jf most ⟨b,u::l⟩) (by omega)
   have ct:=Qq8 hs
   have hr:Int.tmod (u:Int) (most+1)=(u:Int) % (most+1):=Int.tmod_eq_emod_of_nonneg (by omega)
   have h1:=Int.emod_nonneg (u:Int) (b:=most+1) (by omega)
   have h2:=Int.emod_lt_of_pos (u:Int) (b:=most+1) (by omega)
   cases b with
   |
    true =>
    rw [show Jf most ⟨true,u::l⟩=-((u:Int) % (most+1)) from rfl] at co ct ⊢
    exact w tt Tryz.func204 rfl [.f (decide_eq_false (by simp [lm]; try omega)),.x (l:=lm (u::l)) (i:=0) (xs:=[.int .u32 (u:Int)]) rfl,.r 18 (eI hr),.t rfl,.c [] co,.c [] ct] rfl rfl (by simp [Qa]; omega)
   |
    false =>
    rw [show Jf most ⟨false,u::l⟩=(u:Int) % (most+1) from rfl] at co ct ⊢
    exact w tt Tryz.func204 rfl [.f (decide_eq_false (by simp [lm]; try omega)),.x (l:=lm (u::l)) (i:=0) (xs:=[.int .u32 (u:Int)]) rfl,.r 18 (eI hr),.f rfl,.c [] co,.c [] ct] rfl rfl (by simp [Qa]; omega)
end Orr

namespace Orr
open Go Go.Proofs
set_option maxRecDepth 10000
theorem oz2 {P:Program} [Mo P] {n:Nat} {Q:Exit→Sg→List OB→Prop} {L L':Sg} {B B':List OB} (d off T sz:Nat) {it:List It} (hs:Jh it=true) (h:Qsj (P:=P) d L B [.oc d off T sz]=some (L',B',[],[])) (k:AK P n Q it L' B'):AK P n Q it L B:=AK.sub (Qfz h EqOk.nil) hs k
theorem pz {P:Program} [Mo P] {n:Nat} {Q:Exit→Sg→List OB→Prop} {L L':Sg} {B B':List OB} (i:Nat) {it:List It} (hs:Jh it=true) (h:Qye [i] L B=some (L',B')) (k:AK P n Q it L' B'):AK P n Q it L B:=AK.sub (Is h) hs k
def Vp (l:List Int):List (List LV):=l.map Zq
theorem Eg (l:List Int):(Vp l).length=l.length:=by simp [Vp]
theorem Ee {most:Int} {l:List RawInt} {i:Nat} {a:RawInt} (hi:i<3) (h:l[i]? = some a):Vp (Z6 most (l.take (i+1)))=Vp (Z6 most (l.take i))++[Zq (Jf most a)]:=by
  rw [Qfk hi h]; simp [Vp]
theorem Qfj {most:Int} {l:List RawInt} {i:Nat} (hi:i≤3) (h:i≤l.length):(Vp (Z6 most (l.take i))).length=i:=by
  rw [Eg]; unfold Z6; rw [List.length_map,List.length_take,List.length_take]; omega
theorem Qtx {z:RawPt} (hz:z.Ok) {most:Int} (hm:0≤most∧most≤999):Qc Tryz.prog 145 [.agg (rcw z),.one (.int .i64 most)] [.agg (cl4 (Cq most z.x z.y z.d))]:=by
  have hxl:=Ms z.x
  have hyl:=Ms z.y
  obtain ⟨D,hD⟩:∃ D,D=Jf 3 z.d:=⟨_,rfl⟩
  have cd:=By hz.d (most:=3) (by decide)
  have hx0:∀ {i:Nat},z.x.length≤i∨3≤i→Z6 most (z.x.take i)=Z6 most z.x:=Ad most
  have hy0:∀ {i:Nat},z.y.length≤i∨3≤i→Z6 most (z.y.take i)=Z6 most z.y:=Ad most
  unfold Cq
  rw [←hD] at cd ⊢
  refine Z1 Tryz.func145 rfl ?_
  refine go tt [.c [] cd] rfl trivial ?_
  refine oz2 5 0 29 2 rfl rfl ?_
  refine lp (S:=Nat) 4 (fun L1 i=>(6,.v (.one (.int .i64 (i:Int))))::L1) (fun i=>[.blk 31 (rcw z),.blk 31 [.nils,.nils,.bool false,.nils],.blk 31 [.orow 3 2 none,.nils,sg D,mg D],.row false 29 2 (Vp (Z6 most (z.x.take i)))]) (fun i=>3-i) (fun i=>i≤3∧i≤z.x.length) 0 ⟨by decide,Nat.zero_le _⟩ rfl (fun _ _=>rfl) rfl fun i ⟨hi,hi2⟩=>?_
  have hll:=Qfj (most:=most) hi hi2
  by_cases hr:i<z.x.length∧i<3
  · obtain ⟨a,ha⟩:∃ a,z.x[i]? = some a:=⟨_,List.getElem?_eq_getElem hr.1⟩
    have hs:∀ y∈[Zq (Jf most a)],y.length=2:=fun y hy=>by rw [List.mem_singleton.1 hy]; rfl
    refine go tt [.g 17 true (decide_eq_true (by omega)),.t (decide_eq_true (by omega)),.x (Zm (f:=Eq) ha),.c [] (By (hz.x a (List.mem_of_getElem? ha)) hm),.s (sz:=2) hs] rfl (by simp [Qa,hll]; omega) ?_
    exact rd (i+1) (by omega) ⟨hr.2,hr.1⟩ (by rw [Ee hr.2 ha]; rfl)
  have hg1:decide ((i:Int)<((Ni z.x).length:Int))=true→i<z.x.length:=fun h=>by have:=of_decide_eq_true h; omega
  rw [hx0 (by omega)]
  clear hll
  have hfin:∀ {j:Nat},j≤3∧j≤z.y.length→¬(j<z.y.length∧j<3)→Vp (Z6 most (z.y.take j))=Vp (Z6 most z.y):=fun h1 h2=>by rw [hy0 (by omega)]
  by_cases hxx:i<z.x.length
  · refine go tt [.g 17 true (decide_eq_true (by omega)),.f (decide_eq_false (by omega))] rfl trivial ?_
    refine pz 3 rfl rfl ?_
    refine oz2 5 1 29 2 rfl rfl ?_
    refine lp (S:=Nat) 5 (fun L1 j=>(7,.v (.one (.int .i64 (j:Int))))::L1) (fun j=>[.blk 31 (rcw z),.blk 31 [.nils,.nils,.bool false,.nils],.blk 31 [.row (Vp (Z6 most z.x)),.orow 4 2 none,sg D,mg D],.gone,.row false 29 2 (Vp (Z6 most (z.y.take j)))]) (fun j=>3-j) (fun j=>j≤3∧j≤z.y.length) 0 ⟨by decide,Nat.zero_le _⟩ rfl (fun _ _=>rfl) rfl fun j ⟨hj,hj2⟩=>?_
    have hll:=Qfj (most:=most) hj hj2
    by_cases hr:j<z.y.length∧j<3
    · obtain ⟨a,ha⟩:∃ a,z.y[j]? = some a:=⟨_,List.getElem?_eq_getElem hr.1⟩
      have hs:∀ y∈[Zq (Jf most a)],y.length=2:=fun y hy=>by rw [List.mem_singleton.1 hy]; rfl
      refine go tt [.g 40 true (decide_eq_true (by omega)),.t (decide_eq_true (by omega)),.x (Zm (f:=Eq) ha),.c [] (By (hz.y a (List.mem_of_getElem? ha)) hm),.s (sz:=2) hs] rfl (by simp [Qa,hll]; omega) ?_
      exact rd (j+1) (by omega) ⟨hr.2,hr.1⟩ (by rw [Ee hr.2 ha]; rfl)
    rw [hfin ⟨hj,hj2⟩ hr]
    by_cases hyy:j<z.y.length
    · exact ed tt [4] [] [.g 40 true (decide_eq_true (by omega)),.f (decide_eq_false (by omega))] rfl trivial
    · exact ed tt [4] [] [.g 40 false (decide_eq_false (by omega)),.f rfl] rfl trivial
  · refine go tt [.g 17 false (decide_eq_false (by omega)),.f rfl] rfl trivial ?_
    refine pz 3 rfl rfl ?_
    refine oz2 5 1 29 2 rfl rfl ?_
    refine lp (S:=Nat) 5 (fun L1 j=>(7,.v (.one (.int .i64 (j:Int))))::L1) (fun j=>[.blk 31 (rcw z),.blk 31 [.nils,.nils,.bool false,.nils],.blk 31 [.row (Vp (Z6 most z.x)),.orow 4 2 none,sg D,mg D],.gone,.row false 29 2 (Vp (Z6 most (z.y.take j)))]) (fun j=>3-j) (fun j=>j≤3∧j≤z.y.length) 0 ⟨by decide,Nat.zero_le _⟩ rfl (fun _ _=>rfl) rfl fun j ⟨hj,hj2⟩=>?_
    have hll:=Qfj (most:=most) hj hj2
    by_cases hr:j<z.y.length∧j<3
    · obtain ⟨a,ha⟩:∃ a,z.y[j]? = some a:=⟨_,List.getElem?_eq_getElem hr.1⟩
      have hs:∀ y∈[Zq (Jf most a)],y.length=2:=fun y hy=>by rw [List.mem_singleton.1 hy]; rfl
      refine go tt [.g 40 true (decide_eq_true (by omega)),.t (decide_eq_true (by omega)),.x (Zm (f:=Eq) ha),.c [] (By (hz.y a (List.mem_of_getElem? ha)) hm),.s (sz:=2) hs] rfl (by simp [Qa,hll]; omega) ?_
      exact rd (j+1) (by omega) ⟨hr.2,hr.1⟩ (by rw [Ee hr.2 ha]; rfl)
    rw [hfin ⟨hj,hj2⟩ hr]
    by_cases hyy:j<z.y.length
    · exact ed tt [4] [] [.g 40 true (decide_eq_true (by omega)),.f (decide_eq_false (by omega))] rfl trivial
    · exact ed tt [4] [] [.g 40 false (decide_eq_false (by omega)),.f rfl] rfl trivial
theorem Qnn {n d:Int} (hn:-9223372036854775808≤n∧n≤9223372036854775807) (hd:-9223372036854775808≤d∧d≤9223372036854775807):Qc Tryz.prog 32 [.one (.int .i64 n),.one (.int .i64 d)] [.agg (fr (Zy (Ha n 61-30) (1+Ha d 6)))]:=by
  have h1:Ha n 61=n % 61:=rfl
  have h2:Ha d 6=d % 6:=rfl
  exact w tt Tryz.func32 rfl [.c [] (Sf (v:=n) (n:=61) hn (by decide)),.c [] (Sf (v:=d) (n:=6) hd (by decide)),.c [] (Q9k (n:=Ha n 61-30) (d:=1+Ha d 6) (by omega) (by omega))] rfl rfl (by simp [Qa]; omega)
end Orr

namespace Orr
open Go Go.Proofs
set_option maxRecDepth 10000
def rwq (z:RawPt):List LV:=rcw z++[.int .i64 z.id]
def Di (l:List RawPt):List (List LV):=l.map rwq
theorem Qss (l:List RawPt):(Di l).length=l.length:=by simp [Di]
theorem Qge {l:List RawPt} {i:Nat} {z:RawPt} (h:l[i]? = some z):(Di l)[i]? = some (rwq z):=Zm h
theorem Q6w {most:Int} (hm:0≤most∧most≤999) (z:RawPt):Cs 100000 16 (Mk most z).c:=(Qcm hm z.x z.y z.d).mono (by decide) (by decide)
def Ra (n:Nat) (most:Int) (zs:List RawPt) (i:Nat):List Pt:=En n most (zs.take i)
theorem Qyc (n:Nat) (most:Int) (zs:List RawPt) (i:Nat):(Ra n most zs i).length≤n:=Sy _ _ (Nat.zero_le _)
theorem Q3h {n:Nat} {most:Int} {zs:List RawPt} {i:Nat} {z:RawPt} (h:zs[i]? = some z) (hl:(Ra n most zs i).length<n) (ha:(Ra n most zs i).any (fun x=>decide (x.id=(Mk most z).id))=true):Ra n most zs (i+1)=Ra n most zs i:=by
  unfold Ra En at *
  rw [List.take_succ,h,Option.toList_some,List.map_append]
  exact Td _ _ _ hl ha
theorem Qyd {n:Nat} {most:Int} {zs:List RawPt} {i:Nat} {z:RawPt} (h:zs[i]? = some z) (hl:(Ra n most zs i).length<n) (ha:(Ra n most zs i).any (fun x=>decide (x.id=(Mk most z).id))=false):Ra n most zs (i+1)=Ra n most zs i++[Mk most z]:=by
  unfold Ra En at *
  rw [List.take_succ,h,Option.toList_some,List.map_append]
  exact Gy _ _ _ hl ha
theorem Qyb {n:Nat} {most:Int} {zs:List RawPt} {i:Nat} (h:¬(i<zs.length∧(Ra n most zs i).length<n)):Ra n most zs i=En n most zs:=by
  by_cases h1:i<zs.length
  · have hl:n≤(Ra n most zs i).length:=Nat.le_of_not_lt fun h2=>h ⟨h1,h2⟩
    unfold Ra En at *
    conv=>rhs; rw [←List.take_append_drop i zs,List.map_append]
    exact (Lx _ _ _ hl).symm
  · unfold Ra; rw [List.take_of_length_le (by omega)]
theorem Qtg {f:Pt→Bool} {l:List Pt} {k:Nat} {x:Pt} (h:l[k]? = some x):(l.take (k+1)).any f=((l.take k).any f || f x):=by
  rw [List.take_succ,h]; simp
theorem Qq3 {zs:List RawPt} (hz:∀ z∈zs,z.Ok):Zw Tryz.prog 85 [.one (.row (Di zs)),.one (.int .i64 4)] [] [.one (.orow 0 5 none),.one (.orow 1 7 none)] [.row false 35 5 (Qj (En 4 20 zs)),.row false 112 7 (Q3 ((En 4 20 zs).map Pt.nrm))]:=by
  have hzl:=Qss zs
  refine Z1 Tryz.func85 rfl (ln 0 rfl rfl fun hz63=>?_)
  rw [hzl] at hz63
  refine go tt [.o 6 35 5,.o 7 112 7] rfl trivial ?_
  refine lp (S:=Nat) 2 (fun L1 i=>(8,.v (.one (.int .i64 (i:Int))))::(6,.v (.one (.orow 0 5 none)))::(7,.v (.one (.orow 1 7 none)))::L1) (fun i=>[.row false 35 5 (Qj (Ra 4 20 zs i)),.row false 112 7 (Q3 ((Ra 4 20 zs i).map Pt.nrm))]) (fun i=>zs.length-i) (fun i=>i≤zs.length) 0 (Nat.zero_le _) rfl (fun _ _=>rfl) rfl fun i hi=>?_
  have hOl:=Qyc 4 20 zs i
  have hend:=Qyb (n:=4) (most:=20) (zs:=zs) (i:=i)
  by_cases h1:i<zs.length
  · by_cases h2:(Ra 4 20 zs i).length<4
    · obtain ⟨z,hzi⟩:∃ z,zs[i]? = some z:=⟨_,List.getElem?_eq_getElem h1⟩
      have hzok:=hz z (List.mem_of_getElem? hzi)
      have hin:=Q3h hzi h2
      have hout:=Qyd hzi h2
      obtain ⟨O,hO⟩:∃ O,O=Ra 4 20 zs i:=⟨_,rfl⟩
      rw [←hO] at hOl h2 hin hout ⊢
      have hpl:=Fv O
      have hrl:(Q3 (O.map Pt.nrm)).length=O.length:=by rw [Jy,List.length_map]
      obtain ⟨p,hp⟩:∃ p,p=Mk 20 z:=⟨_,rfl⟩
      have hid:Ha z.id 1000=p.id:=by rw [hp]; rfl
      have cw:=Sf (v:=z.id) (n:=1000) hzok.id (by decide)
      have cl:=Qtx hzok (most:=20) (by decide)
      have ecl:cl4 (Cq 20 z.x z.y z.d)=cl4 p.c:=by rw [hp]; rfl
      rw [hid] at cw
      rw [ecl] at cl
      rw [←hp] at hin hout
      refine go tt [.g 16 true (decide_eq_true (by omega)),.t (decide_eq_true (by omega)),.x (Qge hzi),.c [] (Q9g (z:=z)),.x (Qge hzi),.c [] cw,.f rfl,.t rfl,.x (Qge hzi),.c [] cl] rfl trivial ?_
      refine lp (S:=Nat) 3 (fun L1 k=>(57,.v (.one (.int .i64 (k:Int))))::(10,.v (.one (.bool ((O.take k).any (fun x=>decide (x.id=p.id))))))::L1) (fun _=>[.row false 35 5 (Qj O),.row false 112 7 (Q3 (O.map Pt.nrm)),.blk 35 [pl p.c.x,pl p.c.y,sg p.c.d,mg p.c.d,.int .i64 p.id]]) (fun k=>O.length-k) (fun k=>k≤O.length) 0 (Nat.zero_le _) rfl (fun _ _=>rfl) rfl fun k hk=>?_
      by_cases hk2:k<O.length
      · obtain ⟨x,hx⟩:∃ x,O[k]? = some x:=⟨_,List.getElem?_eq_getElem hk2⟩
        have ha:=Qtg (f:=fun x=>decide (x.id=p.id)) hx
        cases hb:(O.take k).any (fun x=>decide (x.id=p.id)) with
        |
         true =>
         rw [hb,Bool.true_or] at ha
         exact go tt [.t (decide_eq_true (by omega)),.g 61 true rfl] rfl (by simp [Qa]; omega) (rd (k+1) (by omega) hk2 (by rw [ha]; rfl))
        |
         false =>
         rw [hb,Bool.false_or] at ha
         exact go tt [.t (decide_eq_true (by omega)),.g 61 false rfl,.i k,.x (Py hx)] rfl (by simp [Qa,hpl]; omega) (rd (k+1) (by omega) hk2 (by rw [ha]; rfl))
      have hk3:O.take k=O:=List.take_of_length_le (by omega)
      rw [hk3]
      cases hb:O.any (fun x=>decide (x.id=p.id)) with
      |
       true =>
       refine go tt [.f (decide_eq_false (by omega)),.f rfl] rfl (by simp [Qa]; omega) ?_
       exact rd (i+1) (by omega) h1 (by rw [hin hb]; rfl)
      |
       false =>
       have cf:=Qu7 (k:=p.c) (id:=p.id) (by rw [hp]; exact Q6w (by decide) z)
       have hm1:∀ y∈[Xe p],y.length=5:=fun y hy=>by rw [List.mem_singleton.1 hy]; rfl
       have hm2:∀ y∈[Al p.nrm],y.length=7:=fun y hy=>by rw [List.mem_singleton.1 hy]; rfl
       have e1:Qj (O++[p])=Qj O++[Xe p]:=by simp [Qj]
       have e2:Q3 ((O++[p]).map Pt.nrm)=Q3 (O.map Pt.nrm)++[Al p.nrm]:=by simp [Q3]
       refine go tt [.f (decide_eq_false (by omega)),.t rfl,.s (sz:=5) hm1,.c [] cf,.s (sz:=7) hm2] rfl (by simp [Qa,hpl,hrl]; omega) ?_
       exact rd (i+1) (by omega) h1 (by rw [hout hb,e1,e2]; rfl)
    · rw [hend (fun h=>h2 h.2)]
      rw [hend (fun h=>h2 h.2)] at h2
      have hpl:=Fv (En 4 20 zs)
      exact ed tt [] [0,1] [.g 16 true (decide_eq_true (by omega)),.f (decide_eq_false (by omega))] rfl trivial
  · rw [hend (fun h=>h1 h.1)]
    exact ed tt [] [0,1] [.g 16 false (decide_eq_false (by omega)),.f rfl] rfl trivial
end Orr

namespace Orr
open Go Go.Proofs
set_option maxRecDepth 10000
abbrev plZ (M:List Pt) (q:Rat):List LV:=.row (Q3 M)::(fr q++[.nils,.nils,.nils,.bool false,.nils,.bool false,.nils,.bool false,.nils,.bool false,.nils,.int .i64 0,.nils])
abbrev plB (M:List Pt) (q:Rat) (c:List (List Int)) (w:List Ct):List LV:=.row (Q3 M)::(fr q++(aq q c++[.row (Jn w),.int .i64 0,.nils]))
end Orr

namespace Orr
open Go Go.Proofs Orq
set_option maxRecDepth 10000
theorem Q18 {O:List Pt} {e j:Nat} (h:Gs (Ya O e)) (hj:j≤e):Gs (Ya O j):=by
  have:Ya O j=(Ya O e).take j:=by unfold Ya; rw [←List.map_take,List.take_take,Nat.min_eq_left hj]
  rw [this]
  exact List.Pairwise.sublist (List.take_sublist _ _) h
theorem Q6y (O:List Pt):∃ e,e≤O.length∧Gs (Ya O e)∧(e<O.length→¬Gs (Ya O (e+1))):=by
  have key:∀ k,Gs (Ya O k)∨∃ e,e<k∧Gs (Ya O e)∧¬Gs (Ya O (e+1)):=by
    intro k
    induction k with
    | zero=>exact .inl List.Pairwise.nil
    |
     succ k ih =>
     rcases ih with h | ⟨e,h1,h2,h3⟩
     · by_cases h4:Gs (Ya O (k+1))
       · exact .inl h4
       · exact .inr ⟨k,Nat.lt_succ_self k,h,h4⟩
     · exact .inr ⟨e,by omega,h2,h3⟩
  rcases key O.length with h | ⟨e,h1,h2,h3⟩
  · exact ⟨O.length,Nat.le_refl _,h,fun h=>absurd h (Nat.lt_irrefl _)⟩
  · exact ⟨e,by omega,h2,fun _=>h3⟩
theorem Qf0 {O:List Pt} {i:Nat} {p:Pt} (h:O[i]? = some p):(Qj (Ml O i)).set i [pl p.c.x,pl p.c.y,sg p.c.d,mg p.c.d,.int .i64 p.m5.id]=Qj (Ml O (i+1)):=by
  rw [←Qpg h]; simp only [Qj,List.map_set]; rfl
theorem Qca {O:List Pt} {i:Nat} {p:Pt} (h:O[i]? = some p):(Q3 ((Ml O i).map Pt.nrm)).set i [rp (Bp p.nrm.c.x p.nrm.c.d),rp (Bp p.nrm.c.y p.nrm.c.d),pl p.nrm.c.x,pl p.nrm.c.y,sg p.nrm.c.d,mg p.nrm.c.d,.int .i64 p.m5.id]=Q3 ((Ml O (i+1)).map Pt.nrm):=by
  rw [←Qpg h]; simp only [Q3,List.map_set]; rfl
theorem Qsl {O:List Pt} {e i:Nat} (h:e≤i) (hi:i≤O.length):(Qj (Ml O i)).take e=Qj (Ya O e):=by
  unfold Qj; rw [←List.map_take,Qir h hi]; rfl
theorem Qmh {O:List Pt} {e i:Nat} (h:e≤i) (hi:i≤O.length):(Q3 ((Ml O i).map Pt.nrm)).take e=Q3 (M8 O e):=by
  unfold Q3; rw [←List.map_take,←List.map_take,Qir h hi]; rfl
theorem Qiq {O:List Pt}:Ml O O.length=Ya O O.length:=by unfold Ml Ya; simp
abbrev G9 (n d:Int):Rat:=Zy (Ha n 61-30) (1+Ha d 6)
theorem Et (n d:Int):Qs 100 (G9 n d):=by
  have h1:Ha n 61=n % 61:=rfl
  have h2:Ha d 6=d % 6:=rfl
  unfold G9 Zy
  rw [if_neg (by omega)]
  exact Qs.divInt (Nat.le_trans (J0.2 (show (Ha n 61-30).natAbs<2^10 by omega)) (by decide)) (Nat.le_trans (J0.2 (show (1+Ha d 6).natAbs<2^10 by omega)) (by decide)) (by decide)
theorem Q3i {n:Nat} {most:Int} {l:List RawPt}:∀ p∈En n most l,0≤p.id∧p.id<1000:=fun p hp=>by
  rcases Cg _ _ hp with h | h
  · cases h
  · obtain ⟨z,_,rfl⟩:=List.mem_map.1 h
    exact ⟨Int.emod_nonneg _ (by decide),Int.emod_lt_of_pos _ (by decide)⟩
end Orr

namespace Orr
open Go Go.Proofs
set_option maxRecDepth 10000
def Pw (q:Rat) (a b:Pt):Bool:=if S0 (Xi b.c a.c) q≠0 then decide (0<S0 (Xi b.c a.c) q) else if S0 (X8 b.c a.c) q≠0 then decide (0<S0 (X8 b.c a.c) q) else decide (a.id<b.id)
theorem Qu6 {a b:Pt} {q:Rat} {c:List (List Int)} (ha:Rs a.c) (hb:Rs b.c) (hq:Qs 1000000 q):Qc Tryz.prog 313 [.agg (Al a),.agg (Al b),.agg (aq q c)] [.one (.bool (Pw q a b))]:=by
  have c1:=B5 (p:=Xi b.c a.c) (c:=c) (Qd (Mn hb ha).1 (by decide)) (Nat.le_trans (Mn hb ha).2 (by decide)) hq
  have c2:=B5 (p:=X8 b.c a.c) (c:=c) (Qd (Mp hb ha).1 (by decide)) (Nat.le_trans (Mp hb ha).2 (by decide)) hq
  by_cases h1:S0 (Xi b.c a.c) q≠0
  · exact w tt Tryz.func313 rfl [.c [] (Sk hb ha),.c [] c1,.t (decide_eq_true h1)] rfl (by unfold Pw; rw [if_pos h1]) trivial
  by_cases h2:S0 (X8 b.c a.c) q≠0
  · exact w tt Tryz.func313 rfl [.c [] (Sk hb ha),.c [] c1,.f (decide_eq_false h1),.c [] (Or hb ha),.c [] c2,.t (decide_eq_true h2)] rfl (by unfold Pw; rw [if_neg h1,if_pos h2]) trivial
  · exact w tt Tryz.func313 rfl [.c [] (Sk hb ha),.c [] c1,.f (decide_eq_false h1),.c [] (Or hb ha),.c [] c2,.f (decide_eq_false h2)] rfl (by unfold Pw; rw [if_neg h1,if_neg h2]) trivial
abbrev rgm (m:Pt×Pt):List LV:=Al m.1++Al m.2
def Tn (l:List (Pt×Pt)):List (List LV):=l.map rgm
theorem Fu (l:List (Pt×Pt)):(Tn l).length=l.length:=by simp [Tn]
theorem De (l:List (Pt×Pt)):∀ c∈Tn l,c.length=14:=fun c hc=>by obtain ⟨x,_,rfl⟩:=List.mem_map.1 hc; rfl
abbrev Zad:Pt:=⟨⟨[],[],0⟩,0⟩
def E5 (bt:Pt→Pt→Bool):Nat→List Pt→Pt×List (Pt×Pt)
  | 0,l=>(l.headD Zad,[])
  |
   k+1,l=>if l.length≤1 then (l.headD Zad,[]) else
   if bt (E5 bt k (l.take ((l.length+1) / 2))).1 (E5 bt k (l.drop ((l.length+1) / 2))).1=true
   then ((E5 bt k (l.take ((l.length+1) / 2))).1,((E5 bt k (l.take ((l.length+1) / 2))).2++(E5 bt k (l.drop ((l.length+1) / 2))).2)++[((E5 bt k (l.take ((l.length+1) / 2))).1,(E5 bt k (l.drop ((l.length+1) / 2))).1)])
   else ((E5 bt k (l.drop ((l.length+1) / 2))).1,((E5 bt k (l.take ((l.length+1) / 2))).2++(E5 bt k (l.drop ((l.length+1) / 2))).2)++[((E5 bt k (l.drop ((l.length+1) / 2))).1,(E5 bt k (l.take ((l.length+1) / 2))).1)])
theorem Oy {l:List Pt} {k:Nat} (h2:¬l.length≤1) (hk:l.length≤k+1):(l.take ((l.length+1) / 2)).length≤k∧(l.drop ((l.length+1) / 2)).length≤k∧0<(l.take ((l.length+1) / 2)).length∧0<(l.drop ((l.length+1) / 2)).length∧(l.take ((l.length+1) / 2)).length+(l.drop ((l.length+1) / 2)).length=l.length:=by
  rw [List.length_take,List.length_drop]; omega
theorem Lb (bt:Pt→Pt→Bool):∀ (k:Nat) (l:List Pt),0<l.length→l.length≤k→(E5 bt k l).1∈l∧(∀ m∈(E5 bt k l).2,m.1∈l∧m.2∈l)∧(E5 bt k l).2.length+1=l.length
  | 0,l,h0,hk=>by omega
  |
   k+1,l,h0,hk=>by
   by_cases h1:l.length≤1
   · obtain ⟨p,rfl⟩:=List.length_eq_one_iff.1 (show l.length=1 by omega)
     refine ⟨by simp [E5],fun m hm=>by simp [E5] at hm,rfl⟩
   · obtain ⟨k1,k2,k3,k4,k5⟩:=Oy h1 hk
     obtain ⟨a1,a2,a3⟩:=Lb bt k _ k3 k1
     obtain ⟨b1,b2,b3⟩:=Lb bt k _ k4 k2
     simp only [E5,if_neg h1]
     split
     all_goals
       refine ⟨?_,fun m hm=>?_,by simp only [List.length_append,List.length_singleton]; omega⟩
       · first | exact List.mem_of_mem_take a1 | exact List.mem_of_mem_drop b1
       · rcases List.mem_append.1 hm with hm | hm
         · rcases List.mem_append.1 hm with hm | hm
           · exact ⟨List.mem_of_mem_take (a2 m hm).1,List.mem_of_mem_take (a2 m hm).2⟩
           · exact ⟨List.mem_of_mem_drop (b2 m hm).1,List.mem_of_mem_drop (b2 m hm).2⟩
         · rw [List.mem_singleton.1 hm]
           first | exact ⟨List.mem_of_mem_take a1,List.mem_of_mem_drop b1⟩ | exact ⟨List.mem_of_mem_drop b1,List.mem_of_mem_take a1⟩
theorem Q3q {l m:List (List LV)} (h:l=m):TV.one (LV.row l)=.one (.row m):=h ▸ rfl
theorem Nn {q:Rat} {c:List (List Int)} (hq:Qs 1000000 q):∀ (k:Nat) (l:List Pt),0<l.length→l.length≤k→l.length≤1000→(∀ p∈l,Rs p.c)→Qc Tryz.prog 290 [.one (.row (Q3 l)),.agg (aq q c)] [.agg (Al (E5 (Pw q) k l).1),.one (.row (Tn (E5 (Pw q) k l).2))]
  | 0,l,h0,hk,_,_=>by omega
  |
   k+1,l,h0,hk,hn,hl=>by
   have hcl:=Jy l
   by_cases h1:l.length≤1
   · obtain ⟨p,rfl⟩:=List.length_eq_one_iff.1 (show l.length=1 by omega)
     exact w tt Tryz.func290 rfl [.t rfl,.x (Uw (l:=[p]) (i:=0) rfl)] rfl rfl trivial
   · obtain ⟨k1,k2,k3,k4,k5⟩:=Oy h1 hk
     obtain ⟨a1,a2,a3⟩:=Lb (Pw q) k _ k3 k1
     obtain ⟨b1,b2,b3⟩:=Lb (Pw q) k _ k4 k2
     have c1:=Nn (c:=c) hq k (l.take ((l.length+1) / 2)) k3 k1 (by omega) fun p hp=>hl p (List.mem_of_mem_take hp)
     have c2:=Nn (c:=c) hq k (l.drop ((l.length+1) / 2)) k4 k2 (by omega) fun p hp=>hl p (List.mem_of_mem_drop hp)
     have hA:=hl _ (List.mem_of_mem_take a1)
     have hB:=hl _ (List.mem_of_mem_drop b1)
     have cb:=Qu6 (c:=c) hA hB hq
     have e1:(Q3 l).take ((l.length+1) / 2)=Q3 (l.take ((l.length+1) / 2)):=by simp [Q3,List.map_take]
     have e2:(Q3 l).drop ((l.length+1) / 2)=Q3 (l.drop ((l.length+1) / 2)):=by simp [Q3,List.map_drop]
     have htd:((l.length:Int)+1).tdiv 2=(((l.length+1) / 2:Nat):Int):=rfl
     have h7:=eq_true (p:=∀ z,z∈Q3 l→z.length=ti112.sz) (Dh l)
     simp only [E5,if_neg h1]
     generalize E5 (Pw q) k (l.take ((l.length+1) / 2))=A at *
     generalize E5 (Pw q) k (l.drop ((l.length+1) / 2))=B at *
     have g1:=Fu A.2
     have g2:=Fu B.2
     have gap:∀ m,Tn (A.2++B.2++[m])=(Tn A.2++Tn B.2)++[rgm m]:=fun m=>by simp [Tn]
     by_cases hb:Pw q A.1 B.1=true
     · rw [if_pos hb]
       dsimp only
       rw [gap]
       exact w tt Tryz.func290 rfl [.f (decide_eq_false (by omega)),.r 21 (eI (b:=(((l.length+1) / 2:Nat):Int)) (by rw [hcl]; rfl)),.i ((l.length+1) / 2),.r 25 (Q3q e1),.c [] c1,.i ((l.length+1) / 2),.r 33 (Q3q e2),.c [] c2,.s (sz:=14) (De A.2),.s (sz:=14) (De B.2),.c [] cb,.t hb,.s (sz:=14) (l:=[rgm (A.1,B.1)]) (fun c hc=>by rw [List.mem_singleton.1 hc]; rfl)] rfl rfl (by simp [Qa,Jy,Fu,h7]; omega)
     · have hb:Pw q A.1 B.1=false:=by simpa using hb
       rw [if_neg (by rw [hb]; decide)]
       dsimp only
       rw [gap]
       exact w tt Tryz.func290 rfl [.f (decide_eq_false (by omega)),.r 21 (eI (b:=(((l.length+1) / 2:Nat):Int)) (by rw [hcl]; rfl)),.i ((l.length+1) / 2),.r 25 (Q3q e1),.c [] c1,.i ((l.length+1) / 2),.r 33 (Q3q e2),.c [] c2,.s (sz:=14) (De A.2),.s (sz:=14) (De B.2),.c [] cb,.f hb,.s (sz:=14) (l:=[rgm (B.1,A.1)]) (fun c hc=>by rw [List.mem_singleton.1 hc]; rfl)] rfl rfl (by simp [Qa,Jy,Fu,h7]; omega)
theorem Qu9 {a b:Pt} {q:Rat} {c:List (List Int)} (ha:Rs a.c) (hb:Rs b.c) (hq:Qs 1000000 q):Qc Tryz.prog 311 [.one (.int .i64 2),.agg (aq q c),.one (.row [Al a,Al b])] [.agg (rct (Xd (sgq q) a b)),.one (.bool true)]:=by
  have hfl:=Aw (Xi b.c a.c)
  have x0:[Al a,Al b][0]? = some (Al a):=rfl
  have x1:[Al a,Al b][1]? = some (Al b):=rfl
  refine Z1 Tryz.func311 rfl ?_
  refine go tt [.g 14 false rfl,.g 18 false rfl,.x (l:=[[.int .i64 0],[.int .i64 2],[.int .i64 2],[.int .i64 3],[.int .i64 4],[.int .i64 4]]) (i:=2) (xs:=[.int .i64 2]) rfl,.f rfl] rfl trivial ?_
  refine lp (S:=Nat) 3 (fun L1 i=>(33,.v (.one (.int .i64 (i:Int))))::L1) (fun i=>[.blk 102 (aq q c),.blk 265 rzc,.blk 265 [.int .i64 2,.int .i64 (if 0<i then a.id else 0),.int .i64 (if 1<i then b.id else 0),.int .i64 0,.int .i64 0,.nils,.int .i64 0,.nils,.bool false]]) (fun i=>2-i) (fun i=>i≤2) 0 (by decide) rfl (fun _ _=>rfl) rfl fun i hi=>?_
  rcases (show i=0∨i=1∨i=2 by omega) with rfl | rfl | rfl
  · exact go tt [.t rfl,.x x0,.i 0] rfl (by simp [Qa]) (rd 1 (by omega) (by omega) rfl)
  · exact go tt [.t rfl,.x x1,.i 1] rfl (by simp [Qa]) (rd 2 (by omega) (by omega) rfl)
  by_cases h0:(Xi b.c a.c).length=0
  · have e:Wi a b=X8 b.c a.c:=if_neg (by omega)
    exact en tt [.f rfl,.f rfl,.t rfl,.x x1,.x x0,.c [] (Sk hb ha),.t (decide_eq_true (by omega)),.x x1,.x x0,.c [] (Or hb ha),.c [] (B5 (p:=X8 b.c a.c) (c:=c) (Qd (Mp hb ha).1 (by decide)) (Nat.le_trans (Mp hb ha).2 (by decide)) hq)] rfl (by unfold Xd; rw [e]; rfl) trivial
  · have e:Wi a b=Xi b.c a.c:=if_pos (by omega)
    exact en tt [.f rfl,.f rfl,.t rfl,.x x1,.x x0,.c [] (Sk hb ha),.f (decide_eq_false (by omega)),.c [] (B5 (p:=Xi b.c a.c) (c:=c) (Qd (Mn hb ha).1 (by decide)) (Nat.le_trans (Mn hb ha).2 (by decide)) hq)] rfl (by unfold Xd; rw [e]; rfl) trivial
theorem Q1v {a b:Pt} {q:Rat} {c:List (List Int)} (ha:Rs a.c) (hb:Rs b.c) (hq:Qs 1000000 q):Qc Tryz.prog 288 [.one (.int .i64 2),.agg (aq q c),.one (.row [Al a,Al b])] [.agg (rct (Xd (sgq q) a b))] :=
  w tt Tryz.func288 rfl [.c [] (Qu9 ha hb hq)] rfl rfl trivial
def Pv (q:Rat) (l:List Pt):List Ct:=if l.length=0 then [] else Z9 Kk ((E5 (Pw q) (Z9 W7 l).length (Z9 W7 l)).2.map fun m=>Xd (sgq q) m.1 m.2)
theorem Qsn (q:Rat) {l:List Pt} (hn:l.length≤1000):(Pv q l).length≤1000000:=by
  unfold Pv
  split
  · exact Nat.zero_le _
  · have hs:(Z9 W7 l).length=l.length:=Ve _ _
    obtain ⟨_,_,h3⟩:=Lb (Pw q) (Z9 W7 l).length (Z9 W7 l) (by omega) (Nat.le_refl _)
    rw [Ve,List.length_map]; omega
theorem Qet {l:List Pt} {q:Rat} {cs:List (List Int)} (hl:∀ p∈l,Rs p.c) (hn:l.length≤1000) (hq:Qs 1000000 q):Qc Tryz.prog 257 [.one (.row (Q3 l)),.agg (aq q cs)] [.one (.row (Jn (Pv q l)))]:=by
  have hcl:=Jy l
  by_cases h0:l.length=0
  · have e:Pv q l=[]:=if_pos h0
    rw [e]
    exact w tt Tryz.func257 rfl [.t (decide_eq_true (by omega))] rfl rfl trivial
  have e:Pv q l=Z9 Kk ((E5 (Pw q) (Z9 W7 l).length (Z9 W7 l)).2.map fun m=>Xd (sgq q) m.1 m.2):=if_neg h0
  rw [e]
  have c1:=Qn3 (l:=l) (by omega)
  have hML:(Z9 W7 l).length=l.length:=Ve _ _
  have hMl:∀ p∈Z9 W7 l,Rs p.c:=fun p hp=>hl p (Mw.1 hp)
  obtain ⟨M,hM⟩:∃ M,M=Z9 W7 l:=⟨_,rfl⟩
  rw [←hM] at c1 hML hMl ⊢
  have c2:=Nn (c:=cs) hq M.length M (by omega) (Nat.le_refl _) (by omega) hMl
  obtain ⟨b1,b2,b3⟩:=Lb (Pw q) M.length M (by omega) (Nat.le_refl _)
  generalize E5 (Pw q) M.length M=B at *
  have gl:=Fu B.2
  obtain ⟨C,hC⟩:∃ C,C=B.2.map fun m=>Xd (sgq q) m.1 m.2:=⟨_,rfl⟩
  rw [←hC]
  have hCl:C.length=B.2.length:=by rw [hC,List.length_map]
  have c3:=Q1u (l:=C) (by omega)
  refine Z1 Tryz.func257 rfl ?_
  refine go tt [.f (decide_eq_false (by omega)),.c [] c1,.c [] c2,.o 7 265 9] rfl trivial ?_
  refine lp (S:=Nat) 3 (fun L1 i=>(21,.v (.one (.int .i64 (i:Int))))::(7,.v (.one (.orow 2 9 none)))::L1) (fun i=>[.blk 102 (aq q cs),.blk 112 (Al B.1),.row false 265 9 (Jn (C.take i))]) (fun i=>B.2.length-i) (fun i=>i≤B.2.length) 0 (Nat.zero_le _) rfl (fun _ _=>rfl) rfl fun i hi=>?_
  have htl:(Jn (C.take i)).length=i:=by rw [Tl,List.length_take]; omega
  by_cases hlt:i<B.2.length
  · obtain ⟨m,hm⟩:∃ m,B.2[i]? = some m:=⟨_,List.getElem?_eq_getElem hlt⟩
    obtain ⟨m1,m2⟩:=b2 m (List.mem_of_getElem? hm)
    have hg:(Tn B.2)[i]? = some (rgm m):=Zm hm
    have hs:C.take (i+1)=C.take i++[Xd (sgq q) m.1 m.2]:=by
      rw [hC,List.take_succ,List.getElem?_map,hm]; rfl
    have hm9:∀ y∈[rct (Xd (sgq q) m.1 m.2)],y.length=9:=fun y hy=>by rw [List.mem_singleton.1 hy]; rfl
    refine go tt [.t (decide_eq_true (by omega)),.x hg,.i 0,.x hg,.i 1,.c [] (Q1v (hMl _ m1) (hMl _ m2) hq),.s (sz:=9) hm9] rfl (by simp [Qa,htl]; omega) ?_
    exact rd (i+1) (by omega) hlt (by rw [hs]; simp [Jn]; rfl)
  · have e:C.take i=C:=List.take_of_length_le (by omega)
    rw [e]
    exact en tt [.f (decide_eq_false (by omega)),.c [] c3] rfl rfl (by simp [Qa] <;> omega)
theorem Qrh {l:List Pt} {q:Rat} {cs:List (List Int)} (hl:∀ p∈l,Rs p.c) (hn:l.length≤1000) (hq:Qs 1000000 q):Qc Tryz.prog 209 [.one (.int .i64 1),.one (.row (Q3 l)),.agg (aq q cs)] [.one (.row (Jn (Pv q l)))] :=
  w tt Tryz.func209 rfl [.f rfl,.t rfl,.c [] (Qet hl hn hq)] rfl rfl trivial
theorem Qki {l:List Pt} {q:Rat} {cs:List (List Int)} (hl:∀ p∈l,Rs p.c) (hn:l.length≤1000) (hq:Qs 1000000 q):Qc Tryz.prog 149 [.one (.int .i64 1),.one (.row (Q3 l)),.agg (aq q cs)] [.one (.row (Jn (Pv q l)))] :=
  w tt Tryz.func149 rfl [.c [] (Qrh hl hn hq)] rfl rfl trivial
theorem Qkt {M:List Pt} {q:Rat} {c:List (List Int)} (hM:∀ p∈M,Rs p.c) (hl:M.length≤1000) (hq:Qs 1000000 q) (hC:Qm5 q c):Zw Tryz.prog 91 [.one (.ow 0 0)] [.blk 134 (plZ M q)] [] [.blk 134 (plB M q c (Pv q M))]:=by
  refine Z1 Tryz.func91 rfl ?_
  exact ed tt [] [0] [.c [] (Qhd hq hC),.c [] (Qki (cs:=c) hM hl hq),.c [] (Qu8 (Qsn q hl))] rfl trivial
end Orr

namespace Orr
open Go Go.Proofs Orq
set_option maxRecDepth 10000
abbrev Zv (c:Cr) (r0:List (List LV)) (r1:List (List LV)×List (List LV)):List LV:=.bool true::pl c.now.p::sg c.now.lo.num::mg c.now.lo.num::sg (c.now.lo.den:Int)::mg (c.now.lo.den:Int)::sg c.now.hi.num::mg c.now.hi.num::sg (c.now.hi.den:Int)::mg (c.now.hi.den:Int)::.row (Tx c.l)::.int .i64 c.ev::[.row r0,.row r1.1,.row r1.2]
abbrev Qvo (r0:LV) (r1:LV×LV):List LV:=[.bool false,.nils,.bool false,.nils,.bool false,.nils,.bool false,.nils,.bool false,.nils,.nils,.int .i64 0,r0,r1.1,r1.2]
theorem Qel {T:Nat} {c:Cr} {r0:List (List LV)} {r1:List (List LV)×List (List LV)} (hc:Va c.now):Zw Tryz.prog 134 [.one (.ow 0 0)] [.blk T (Zv c r0 r1)] [.agg (ta c.now)] [.blk T (Zv c r0 r1)]:=by
  have cl:=Se (b:=c.now) (l:=[]) hc.tb (fun t ht=>by cases ht) (by decide) rfl
  refine Z1 Tryz.func134 rfl ?_
  exact ed tt [] [0] [.f rfl,.c [] cl] rfl trivial
theorem Bv {T:Nat} {c:Cr} {r0:List (List LV)} {r1:List (List LV)×List (List LV)} (hc:CrOk c):Zw Tryz.prog 37 [.one (.ow 0 0)] [.blk T (Zv c r0 r1)] [.one (.row (Z5 (Q6 (c.l.map (·.c)))))] [.blk T (Zv c r0 r1)]:=by
  have hk:=hc.k
  have hw:=Ug c.l
  refine Z1 Tryz.func37 rfl ?_
  refine go tt [.o 3 161 7] rfl trivial ?_
  refine lp (S:=Nat) 2 (fun L1 i=>(11,.v (.one (.int .i64 (i:Int))))::(3,.v (.one (.orow 1 7 none)))::L1) (fun i=>[.blk T (Zv c r0 r1),.row false 161 7 (Z5 ((c.l.map (·.c)).take i))]) (fun i=>c.l.length-i) (fun i=>i≤c.l.length) 0 (Nat.zero_le _) rfl (fun _ _=>rfl) rfl fun i hi=>?_
  by_cases hlt:i<c.l.length
  · obtain ⟨x,hx⟩:∃ x,c.l[i]? = some x:=⟨_,List.getElem?_eq_getElem hlt⟩
    have hm:∀ y∈[Qa8 x.c],y.length=7:=fun y hy=>by rw [List.mem_singleton.1 hy]; rfl
    have hg:(c.l.map (·.c)).take (i+1)=(c.l.map (·.c)).take i++[x.c]:=by
      rw [List.take_succ,List.getElem?_map,hx]; rfl
    have hl:decide ((i:Int)<((Tx c.l).length:Int))=true:=by simp [hw]; omega
    obtain ⟨xc,xk,xf⟩:=x
    cases xf <;> (refine go tt [.t hl,.x (Y3 hx),.s (sz:=7) hm] rfl (by simp [Qa,Ui]; omega) ?_; exact rd (i+1) (by omega) hlt (by rw [hg]; simp [Z5]; rfl))
  · obtain rfl:i=c.l.length:=by omega
    have e:(c.l.map (·.c)).take c.l.length=c.l.map (·.c):=List.take_of_length_le (by simp)
    rw [e]
    have cs:=Qkp (l:=c.l.map (·.c)) (fun x hx=>by
      obtain ⟨w,hw,rfl⟩:=List.mem_map.1 hx
      exact Dp.pb (hc.l w hw).p.dp) (by simp; omega)
    exact ed tt [] [0] [.f (by simp [hw]),.c [] cs] rfl trivial
theorem Q1b {T:Nat} {c:Cr} {r0:List (List LV)} {r1:List (List LV)×List (List LV)} {x:Ct} {at_:Tm} {w:Wt} (hc:CrOk c) (hx:Cp x.p) (ha:Va at_) (h:Fh c.l x at_=some w):Zw Tryz.prog 173 [.one (.ow 0 0),.agg (Qa8 x),.agg (ta at_)] [.blk T (Zv c r0 r1)] [.agg (wl w)] [.blk T (Zv c r0 r1)]:=by
  have hk:=hc.k
  have hw:=Ug c.l
  refine Z1 Tryz.func173 rfl ?_
  refine go tt [] rfl trivial ?_
  refine lp (S:=Nat) 4 (fun L1 i=>(14,.v (.one (.int .i64 (i:Int))))::L1) (fun _=>[.blk T (Zv c r0 r1),.blk 161 (Qa8 x),.blk 67 (ta at_),.blk 164 [.int .i64 0,.int .i64 0,.int .i64 0,.int .i64 0,.int .i64 0,.nils,.int .i64 0,.bool false,.bool false,.nils,.bool false,.nils,.bool false,.nils,.bool false,.nils,.bool false,.nils]]) (fun i=>c.l.length-i) (fun i=>i≤c.l.length∧Fh (c.l.drop i) x at_=some w) 0 ⟨Nat.zero_le _,h⟩ rfl (fun _ _=>rfl) rfl fun i ⟨hi,hf⟩=>?_
  by_cases hlt:i<c.l.length
  · obtain ⟨v,hv⟩:∃ v,c.l[i]? = some v:=⟨_,List.getElem?_eq_getElem hlt⟩
    have hdr:c.l.drop i=v::c.l.drop (i+1):=by
      rw [List.drop_eq_getElem_cons hlt]; congr 1
      have:=List.getElem?_eq_getElem hlt; rw [hv] at this; injection this with this; exact this.symm
    have hvo:=hc.l v (List.mem_of_getElem? hv)
    rw [hdr] at hf
    simp only [Fh] at hf
    have hl:decide ((i:Int)<((Tx c.l).length:Int))=true:=by simp [hw]; omega
    by_cases A:Qy7 v.c x=true
    · have A':(!decide ([v.c.kind,v.c.i0,v.c.i1,v.c.i2,v.c.i3]=[x.kind,x.i0,x.i1,x.i2,x.i3]))=false:=by
        unfold Qy7 at A; rw [A]; rfl
      by_cases B:v.known=true
      · have B':(!v.known)=false:=by rw [B]; rfl
        have cs:=Q02 (p:=v.c.p) (q:=x.p) (Dp.pb hvo.p.dp).ln (Dp.pb hx.dp).ln (Dp.pb hvo.p.dp).bd (Dp.pb hx.dp).bd
        rw [hvo.p.t,hx.t] at cs
        by_cases C:v.c.p=x.p
        · have C':(!decide (v.c.p=x.p))=false:=by simp [C]
          rw [if_pos ⟨A,B,C⟩] at hf
          obtain ⟨vc,vk,vf⟩:=v
          cases vf with
          |
           none =>
           injection hf with hf; subst hf
           exact ed tt [] [0] [.t hl,.x (Y3 hv),.g 24 false A',.g 29 false B',.c [] cs,.f C',.g 41 true rfl,.t rfl] rfl trivial
          |
           some t =>
           obtain ⟨r,r1',hf⟩:=Option.bind_eq_some_iff.1 hf
           have cc:=Oe (hvo.f t rfl).tb ha.tb r1'
           by_cases D:0<r
           · rw [if_pos D] at hf
             injection hf with hf; subst hf
             exact ed tt [] [0] [.t hl,.x (Y3 hv),.g 24 false A',.g 29 false B',.c [] cs,.f C',.g 41 false rfl,.c [] cc,.t (by simpa using D)] rfl trivial
           · rw [if_neg D] at hf
             refine go tt [.t hl,.x (Y3 hv),.g 24 false A',.g 29 false B',.c [] cs,.f C',.g 41 false rfl,.c [] cc,.f (by simpa using D)] rfl (by simp [Qa]; omega) ?_
             exact rd (i+1) (by omega) ⟨hlt,hf⟩ rfl
        · rw [if_neg fun h=>C h.2.2] at hf
          refine go tt [.t hl,.x (Y3 hv),.g 24 false A',.g 29 false B',.c [] cs,.t (by simp [C])] rfl (by simp [Qa]; omega) ?_
          exact rd (i+1) (by omega) ⟨hlt,hf⟩ rfl
      · rw [if_neg fun h=>B h.2.1] at hf
        refine go tt [.t hl,.x (Y3 hv),.g 24 false A',.g 29 true (by simpa using B),.t rfl] rfl (by simp [Qa]; omega) ?_
        exact rd (i+1) (by omega) ⟨hlt,hf⟩ rfl
    · rw [if_neg fun h=>A h.1] at hf
      refine go tt [.t hl,.x (Y3 hv),.g 24 true (by rw [show decide ([v.c.kind,v.c.i0,v.c.i1,v.c.i2,v.c.i3]=[x.kind,x.i0,x.i1,x.i2,x.i3])=false from Bool.eq_false_iff.2 A]; rfl),.g 29 true rfl,.t rfl] rfl (by simp [Qa]; omega) ?_
      exact rd (i+1) (by omega) ⟨hlt,hf⟩ rfl
  · obtain rfl:i=c.l.length:=by omega
    rw [List.drop_length] at hf
    simp only [Fh] at hf
    injection hf with hf; subst hf
    exact ed tt [] [0] [.f (by simp [hw])] rfl trivial
theorem Qno {T:Nat} {c:Cr} {r0:List (List LV)} {r1:List (List LV)×List (List LV)} {at_:Tm} {l:List Ct} {ws:List Wt} (hc:CrOk c) (ha:Va at_) (hl:∀ x∈l,Cp x.p) (hn:l.length≤1000) (h:Gl c.l at_ (Q6 l)=some ws):Zw Tryz.prog 124 [.one (.ow 0 0),.agg (ta at_),.one (.bool true),.one (.row (Z5 l))] [.blk T (Zv c r0 r1)] [] [.blk T (Zv ⟨at_,ws,c.ev⟩ r0 r1)]:=by
  have cs:=Qkp (l:=l) (fun x hx=>Dp.pb (hl x hx).dp) (by omega)
  have cl:=Se (b:=at_) (l:=[]) ha.tb (fun t ht=>by cases ht) (by decide) rfl
  obtain ⟨h1,h2⟩:=Cn h
  have hs:(Q6 l).length=l.length:=U7 l
  refine Z1 Tryz.func124 rfl ?_
  refine go tt [.o 8 164 18,.c [] cs] rfl trivial ?_
  refine lp (S:=Nat) 3 (fun L1 i=>(15,.v (.one (.int .i64 (i:Int))))::(8,.v (.one (.orow 2 18 none)))::L1) (fun i=>[.blk T (Zv c r0 r1),.blk 67 (ta at_),.row false 164 18 (Tx (ws.take i))]) (fun i=>ws.length-i) (fun i=>i≤ws.length) 0 (Nat.zero_le _) rfl (fun _ _=>rfl) rfl fun i hi=>?_
  by_cases hlt:i<ws.length
  · obtain ⟨x,hx⟩:∃ x,(Q6 l)[i]? = some x:=⟨_,List.getElem?_eq_getElem (by omega)⟩
    obtain ⟨w,hw,hw'⟩:=h2 i x hx
    have hm:∀ y∈[wl w],y.length=18:=fun y hy=>by rw [List.mem_singleton.1 hy]; rfl
    have hlt':decide ((i:Int)<((Z5 (Q6 l)).length:Int))=true:=by simp [Z5]; omega
    have ck:=Q1b (T:=T) (r0:=r0) (r1:=r1) hc (hl x (Rh (List.mem_of_getElem? hx))) ha hw
    have hg:=Ez hw'
    obtain ⟨wc,wk,wf⟩:=w
    cases wf <;> (refine go tt [.t hlt',.x (Lk hx),.t rfl,.c [0] ck,.s (sz:=18) hm] rfl (by simp [Qa,Ug]; omega) ?_; exact rd (i+1) (by omega) hlt (by rw [hg]; rfl))
  · obtain rfl:i=ws.length:=by omega
    rw [List.take_length]
    have hge:decide ((ws.length:Int)<((Z5 (Q6 l)).length:Int))=false:=by simp [Z5]; omega
    exact ed tt [] [0] [.f hge,.p 2,.c [] cl] rfl trivial
theorem Q1c {T:Nat} {r0:List (List LV)} {r1:List (List LV)×List (List LV)} {at_:Tm} {l:List Ct} (ha:Va at_) (hl:∀ x∈l,Cp x.p) (hn:l.length≤1000):Zw Tryz.prog 124 [.one (.ow 0 0),.agg (ta at_),.one (.bool false),.one (.row (Z5 l))] [.blk T (Qvo (.row r0) (.row r1.1,.row r1.2))] [] [.blk T (Zv ⟨at_,(Q6 l).map fresh,0⟩ r0 r1)]:=by
  have cs:=Qkp (l:=l) (fun x hx=>Dp.pb (hl x hx).dp) (by omega)
  have cl:=Se (b:=at_) (l:=[]) ha.tb (fun t ht=>by cases ht) (by decide) rfl
  have hs:(Q6 l).length=l.length:=U7 l
  refine Z1 Tryz.func124 rfl ?_
  refine go tt [.o 8 164 18,.c [] cs] rfl trivial ?_
  refine lp (S:=Nat) 3 (fun L1 i=>(15,.v (.one (.int .i64 (i:Int))))::(8,.v (.one (.orow 2 18 none)))::L1) (fun i=>[.blk T (Qvo (.row r0) (.row r1.1,.row r1.2)),.blk 67 (ta at_),.row false 164 18 (Tx (((Q6 l).map fresh).take i))]) (fun i=>l.length-i) (fun i=>i≤l.length) 0 (Nat.zero_le _) rfl (fun _ _=>rfl) rfl fun i hi=>?_
  by_cases hlt:i<l.length
  · obtain ⟨x,hx⟩:∃ x,(Q6 l)[i]? = some x:=⟨_,List.getElem?_eq_getElem (by omega)⟩
    have hm:∀ y∈[wl (fresh x)],y.length=18:=fun y hy=>by rw [List.mem_singleton.1 hy]; rfl
    have hlt':decide ((i:Int)<((Z5 (Q6 l)).length:Int))=true:=by simp [Z5]; omega
    have hg:=Ez (l:=(Q6 l).map fresh) (i:=i) (w:=fresh x) (by rw [List.getElem?_map,hx]; rfl)
    refine go tt [.t hlt',.x (Lk hx),.z 20,.f rfl,.s (sz:=18) hm] rfl (by simp [Qa,Ug]; omega) ?_
    exact rd (i+1) (by omega) hlt (by rw [hg]; rfl)
  · obtain rfl:i=l.length:=by omega
    rw [List.take_of_length_le (by simp; omega)]
    have hge:decide ((l.length:Int)<((Z5 (Q6 l)).length:Int))=false:=by simp [Z5]; omega
    exact ed tt [] [0] [.f hge,.p 2,.c [] cl] rfl trivial
theorem Qq4 {T:Nat} {r0:List (List LV)} {r1:List (List LV)×List (List LV)} {at_:Tm} {l:List Ct} (ha:Va at_) (hl:∀ x∈l,Cp x.p) (hn:l.length≤1000):Zw Tryz.prog 79 [.one (.ow 0 0),.agg (ta at_),.one (.row (Z5 l))] [.blk T (Qvo (.row r0) (.row r1.1,.row r1.2))] [] [.blk T (Zv ⟨at_,(Q6 l).map fresh,0⟩ r0 r1)]:=by
  have cl:=Q1c (T:=T) (r0:=r0) (r1:=r1) ha hl hn
  refine Z1 Tryz.func79 rfl ?_
  exact ed tt [] [0] [.g 12 false rfl,.c [0] cl] rfl trivial
theorem Qq5 {T:Nat} {c:Cr} {r0:List (List LV)} {r1:List (List LV)×List (List LV)} {at_:Tm} {l:List Ct} {ws:List Wt} {k:Int} (hc:CrOk c) (ha:Va at_) (hk:Li at_ c.now=some k) (h0:0≤k) (hl:∀ x∈l,Cp x.p) (hn:l.length≤1000) (h:Gl c.l at_ (Q6 l)=some ws):Zw Tryz.prog 79 [.one (.ow 0 0),.agg (ta at_),.one (.row (Z5 l))] [.blk T (Zv c r0 r1)] [] [.blk T (Zv ⟨at_,ws,c.ev⟩ r0 r1)]:=by
  have cl:=Qno (T:=T) (r0:=r0) (r1:=r1) hc ha hl hn h
  have cc:=Oe ha.tb hc.n.tb hk
  refine Z1 Tryz.func79 rfl ?_
  exact ed tt [] [0] [.g 12 true rfl,.c [] cc,.r 20 (eB (show decide (0≤k)=true by simpa using h0)),.c [0] cl] rfl trivial
theorem Q1d {T:Nat} {c:Cr} {r0:List (List LV)} {r1:List (List LV)×List (List LV)} {ws:List Wt} (hc:CrOk c) (h:Pe c.now c.l=some ws):Zw Tryz.prog 195 [.one (.ow 0 0)] [.blk T (Zv c r0 r1)] [] [.blk T (Zv { c with l:=ws } r0 r1)]:=by
  have hk:=hc.k
  have hw:=Ug c.l
  obtain ⟨h1,h2⟩:=Ef h
  refine Z1 Tryz.func195 rfl ?_
  refine go tt [.o 2 164 18,.c [0] (Qel hc.n)] rfl trivial ?_
  refine lp (S:=Nat) 3 (fun L1 i=>(13,.v (.one (.int .i64 (i:Int))))::(2,.v (.one (.orow 1 18 none)))::L1) (fun i=>[.blk T (Zv c r0 r1),.row false 164 18 (Tx (ws.take i)),.blk 67 (ta c.now)]) (fun i=>c.l.length-i) (fun i=>i≤c.l.length) 0 (Nat.zero_le _) rfl (fun _ _=>rfl) rfl fun i hi=>?_
  by_cases hlt:i<c.l.length
  · obtain ⟨w,hx⟩:∃ w,c.l[i]? = some w:=⟨_,List.getElem?_eq_getElem hlt⟩
    obtain ⟨v,hv,h3⟩:=h2 i w hx
    have hm:∀ y∈[wl v],y.length=18:=fun y hy=>by rw [List.mem_singleton.1 hy]; rfl
    have hg:=Ez hv
    have hl:decide ((i:Int)<((Tx c.l).length:Int))=true:=by simp [hw]; omega
    rcases h3 with ⟨k1,rfl⟩ | ⟨k1,r,k2,rfl⟩
    · obtain ⟨vc,vk,vf⟩:=v
      cases vf <;> (refine go tt [.t hl,.x (Y3 hx),.f (by rw [show vk=true from k1]; rfl),.s (sz:=18) hm] rfl (by simp [Qa,Ug]; omega) ?_; exact rd (i+1) (by omega) hlt (by rw [hg]; rfl))
    · have cg:=Qtr (hc.l w (List.mem_of_getElem? hx)).p hc.n k2
      obtain ⟨wc,wk,wf⟩:=w
      cases r <;> cases wf <;> (refine go tt [.t hl,.x (Y3 hx),.t (by rw [show wk=false from k1]; rfl),.c [] cg,.s (sz:=18) hm] rfl (by simp [Qa,Ug]; omega) ?_; exact rd (i+1) (by omega) hlt (by rw [hg]; rfl))
  · obtain rfl:i=c.l.length:=by omega
    rw [←h1,List.take_length]
    exact ed tt [1] [0] [.f (by simp [hw,h1])] rfl trivial
theorem Q1e {T:Nat} {c:Cr} {r0:List (List LV)} {r1:List (List LV)×List (List LV)} {ws:List Wt} {r:Option Tm} (hc:CrOk c) (h:Pe c.now c.l=some ws) (hr:Qix ws=some r):Zw Tryz.prog 135 [.one (.ow 0 0)] [.blk T (Zv c r0 r1)] [.agg (ota r),.one (.bool r.isSome)] [.blk T (Zv { c with l:=ws } r0 r1)]:=by
  have hcl:=Q1d (T:=T) (r0:=r0) (r1:=r1) hc h
  have hc':=Im hc h
  have hk:=hc'.k
  have hw:=Ug ws
  have hvb:∀ t∈ws.filterMap (·.fails),Tb t:=fun t ht=>by
    obtain ⟨w,w1,w2⟩:=List.mem_filterMap.1 ht
    exact ((hc'.l w w1).f t w2).tb
  refine Z1 Tryz.func135 rfl ?_
  refine go tt [.c [0] hcl,.o 4 67 9] rfl trivial ?_
  refine lp (S:=Nat) 3 (fun L1 i=>(14,.v (.one (.int .i64 (i:Int))))::(4,.v (.one (.orow 2 9 none)))::L1) (fun i=>[.blk T (Zv { c with l:=ws } r0 r1),.blk 67 zTm,.row false 67 9 (tal ((ws.take i).filterMap (·.fails)))]) (fun i=>ws.length-i) (fun i=>i≤ws.length) 0 (Nat.zero_le _) rfl (fun _ _=>rfl) rfl fun i hi=>?_
  by_cases hlt:i<ws.length
  · obtain ⟨w,hx⟩:∃ w,ws[i]? = some w:=⟨_,List.getElem?_eq_getElem hlt⟩
    have hl:decide ((i:Int)<((Tx ws).length:Int))=true:=by simp [hw]; omega
    have hfl:((ws.take i).filterMap (·.fails)).length≤i:=Nat.le_trans (List.length_filterMap_le _ _) (by rw [List.length_take]; omega)
    have hg:(ws.take (i+1)).filterMap (·.fails)=(ws.take i).filterMap (·.fails)++(match w.fails with | none=>[] | some t=>[t]):=by
      rw [List.take_succ,hx,List.filterMap_append]
      show _++List.filterMap (·.fails) [w]=_
      cases hwf:w.fails <;> simp [hwf]
    obtain ⟨wc,wk,wf⟩:=w
    have hk:ws.length≤1000:=hk
    cases wf with
    |
     none =>
     refine go tt [.t hl,.x (Y3 hx),.f rfl] rfl (by simp [Qa]; omega) ?_
     exact rd (i+1) (by omega) hlt (by rw [hg]; simp; rfl)
    |
     some t =>
     refine go tt [.t hl,.x (Y3 hx),.t rfl,.s (l:=[ta t]) (sz:=9) (fun c hc=>by rw [List.mem_singleton.1 hc]; rfl)] rfl (by simp [Qa]; omega) ?_
     exact rd (i+1) (by omega) hlt (by rw [hg]; simp [tal]; rfl)
  · obtain rfl:i=ws.length:=by omega
    rw [List.take_length]
    have hf:decide ((ws.length:Int)<((Tx ws).length:Int))=false:=by simp [hw]
    have hln:(ws.filterMap (·.fails)).length≤1000:=Nat.le_trans (List.length_filterMap_le _ _) hk
    unfold Qix at hr
    cases hfm:ws.filterMap (·.fails) with
    |
     nil =>
     rw [hfm] at hr
     injection hr with hr; subst hr
     exact ed tt [] [0] [.f hf,.p 2,.c [] Qtu] rfl trivial
    |
     cons b l =>
     rw [hfm] at hr hvb hln
     obtain ⟨m,m1,rfl⟩:=Option.map_eq_some_iff.1 hr
     have cl:=Se (hvb b (List.mem_cons_self ..)) (fun t ht=>hvb t (List.mem_cons_of_mem _ ht)) (by simp at hln; omega) m1
     exact ed tt [] [0] [.f hf,.p 2,.c [] cl] rfl trivial
theorem Q9p {T:Nat} {t:Rat} {Bc:Tm→List Ct} {Br:Tm→List (List LV)×List (List LV)} {r0:List (List LV)} (ht:Qs 900 t) (hB:BuildOk Bc)
    (hb:∀ a c r1,Va a→CrOk c→Zw Tryz.prog 84 [.one (.ow 0 0),.agg (ta a)] [.blk T (Zv c r0 r1)] [.one (.row (Z5 (Bc a)))] [.blk T (Zv c r0 (Br a))])
    {K:Nat} {c c':Cr} {r1 r1':List (List LV)×List (List LV)} {n:Int} (hc:CrOk c) (hev:0≤c.ev∧c.ev+K≤1000000000000000000) (h:Qu c.now t≤0) (hg:goF Bc Br t K c r1 0=some (c',r1',n)) :
    Zw Tryz.prog 81 [.one (.ow 0 0),.agg (rl t),.one (.ofn 84 [.ow 0 0] [])] [.blk T (Zv c r0 r1)] [.one (.int .i64 n),.one (.int .i64 0)] [.blk T (Zv c' r0 r1')]:=by
  have qt:Qb t:=ht.mono (by decide)
  have c1:=Lc hc.n.tb qt
  refine Z1 Tryz.func81 rfl ?_
  refine go tt [.c [0] (Qel hc.n),.c [] c1,.f (by simpa using h)] rfl trivial ?_
  refine lp (S:=Nat×Cr×(List (List LV)×List (List LV))×Int) 2 (fun L1 s=>(8,.v (.one (.int .i64 s.2.2.2)))::L1) (fun s=>[.blk T (Zv s.2.1 r0 s.2.2.1),.blk 41 (rl t)]) (fun s=>s.1) (fun s=>CrOk s.2.1∧(0≤s.2.1.ev∧s.2.1.ev+s.1≤1000000000000000000)∧(0≤s.2.2.2∧s.2.2.2+s.1≤1000000000000000000)∧goF Bc Br t s.1 s.2.1 s.2.2.1 s.2.2.2=some (c',r1',n)) (K,c,r1,0) ⟨hc,hev,⟨Int.le_refl 0,by dsimp only; omega⟩,hg⟩ rfl (fun _ _=>rfl) rfl fun ⟨k,x,r,m⟩ ⟨j1,j2,j3,j4⟩=>?_
  dsimp only at j1 j2 j3 j4 ⊢
  cases k with
  | zero=>cases j4
  |
   succ k =>
   simp only [goF] at j4
   obtain ⟨ws,w1,j4⟩:=Option.bind_eq_some_iff.1 j4
   obtain ⟨o,o1,j4⟩:=Option.bind_eq_some_iff.1 j4
   have cn:=Q1e (T:=T) (r0:=r0) (r1:=r) j1 w1 o1
   have ca:=Q44 (Qe t.num) (Qe (t.den:Int)) (Nat.le_trans ht.1 (by decide)) (Nat.le_trans ht.2 (by decide)) (by rw [Tk]; exact ht.mono (by decide))
   rw [Tk] at ca
   cases o with
   |
    none =>
    injection j4 with j4; injection j4 with e1 j4; injection j4 with e2 e3
    subst e1; subst e2; subst e3
    exact ed tt [] [0] [.c [0] cn,.g 25 true rfl,.t rfl,.c [] ca] rfl trivial
   |
    some a =>
    have ha:=Q7w j1 w1 o1
    dsimp only at j4
    have cc:=Lc ha.tb qt
    by_cases h0:0<Qu a t
    · rw [if_pos h0] at j4
      injection j4 with j4; injection j4 with e1 j4; injection j4 with e2 e3
      subst e1; subst e2; subst e3
      exact ed tt [] [0] [.c [0] cn,.g 25 false rfl,.c [] cc,.t (by simpa using h0),.c [] ca] rfl trivial
    · rw [if_neg h0] at j4
      obtain ⟨w2,l1,j4⟩:=Option.bind_eq_some_iff.1 j4
      have j1':=Im j1 w1
      have cl:=Se (b:=a) (l:=[]) ha.tb (fun t ht=>by cases ht) (by decide) rfl
      have cb:=hb a { x with l:=ws } r ha j1'
      have cy:=Qno (T:=T) (r0:=r0) (r1:=Br a) j1' ha (hB.p a ha) (hB.n a ha) l1
      have hf:decide (0<Qu a t)=false:=by simpa using h0
      refine go tt [.c [0] cn,.g 25 false rfl,.c [] cc,.f hf,.c [] cl,.c [0] cb,.c [0] cy] rfl (by simp [Qa]; omega) ?_
      exact rd (k,⟨a,w2,x.ev+1⟩,Br a,m+1) (by dsimp only; omega) ⟨lay_ok _ j1' ha (hB.p a ha) (hB.n a ha) l1,by dsimp only; omega,by dsimp only; omega,j4⟩ rfl
theorem Qq7 {T:Nat} {t:Rat} {c:Cr} {r0:List (List LV)} {r1:List (List LV)×List (List LV)} (ht:Qb t) (hc:Va c.now) (h:0<Qu c.now t) :
    Zw Tryz.prog 81 [.one (.ow 0 0),.agg (rl t),.one (.ofn 84 [.ow 0 0] [])] [.blk T (Zv c r0 r1)] [.one (.int .i64 0),.one (.int .i64 8)] [.blk T (Zv c r0 r1)]:=by
  refine Z1 Tryz.func81 rfl ?_
  exact ed tt [] [0] [.c [0] (Qel hc),.c [] (Lc hc.tb ht),.t (by simpa using h)] rfl trivial
theorem Qcg {T:Nat} {c:Cr} {r0:List (List LV)} {r1:List (List LV)×List (List LV)}:Zw Tryz.prog 34 [.one (.ow 0 0)] [.blk T (Zv c r0 r1)] [.one (.int .i64 c.ev)] [.blk T (Zv c r0 r1)]:=by
  refine Z1 Tryz.func34 rfl ?_
  exact ed tt [] [0] [] rfl trivial
end Orr

namespace Orr
open Go
def Lo (q:List Int→Int) (a b:Pt):Pt×Pt:=if Vl q a b=true then (a,b) else (b,a)
def H5 (q:List Int→Int):Nat→List Pt→List Pt×List (Pt×Pt)
  | 0,l=>(l,[])
  |
   k+1,l=>if l.length<2 then (l,[]) else
   match (H5 q k (l.take ((l.length+1) / 2))).1,(H5 q k (l.drop ((l.length+1) / 2))).1 with
   | a::_,b::_=>([(Lo q a b).1],(H5 q k (l.take ((l.length+1) / 2))).2++(H5 q k (l.drop ((l.length+1) / 2))).2++[Lo q a b])
   | _,_=>([],[])
theorem Wl (q:List Int→Int):∀ (k:Nat) (l:List Pt),l.length≤k→H5 q k l=H5 q l.length l
  | 0,l,h=>by rw [show l.length=0 by omega]
  |
   k+1,l,h=>by
   cases hl:l.length with
   | zero=>simp [H5,hl]
   |
    succ m =>
    simp only [H5]
    by_cases h2:l.length<2
    · rw [if_pos h2,if_pos h2]
    · rw [if_neg h2,if_neg h2]
      have h3:(l.take ((l.length+1) / 2)).length≤m:=by rw [List.length_take]; omega
      have h4:(l.drop ((l.length+1) / 2)).length≤m:=by rw [List.length_drop]; omega
      rw [Wl q k (l.take ((l.length+1) / 2)) (by omega),Wl q k (l.drop ((l.length+1) / 2)) (by omega),Wl q m (l.take ((l.length+1) / 2)) h3,Wl q m (l.drop ((l.length+1) / 2)) h4]
termination_by k=>k
def Yq (q:List Int→Int) (l:List Pt):List Pt×List (Pt×Pt):=H5 q l.length l
theorem Yw (q:List Int→Int) {l:List Pt} (h:l.length<2):Yq q l=(l,[]):=by
  unfold Yq
  cases hl:l.length with
  | zero=>rfl
  | succ m=>simp only [H5]; rw [if_pos h]
theorem U4 (q:List Int→Int) {l:List Pt} (h:¬l.length<2) {a b:Pt} (ha:(Yq q (l.take ((l.length+1) / 2))).1=[a]) (hb:(Yq q (l.drop ((l.length+1) / 2))).1=[b]) :
    Yq q l=([(Lo q a b).1],(Yq q (l.take ((l.length+1) / 2))).2++(Yq q (l.drop ((l.length+1) / 2))).2++[Lo q a b]):=by
  unfold Yq at ha hb ⊢
  obtain ⟨m,hm⟩:∃ m,l.length=m+1:=⟨l.length-1,by omega⟩
  have h3:(l.take ((l.length+1) / 2)).length≤m:=by rw [List.length_take]; omega
  have h4:(l.drop ((l.length+1) / 2)).length≤m:=by rw [List.length_drop]; omega
  rw [←Wl q m _ h3] at ha ⊢
  rw [←Wl q m _ h4] at hb ⊢
  rw [show H5 q l.length l=H5 q (m+1) l by rw [hm]]
  simp only [H5]
  rw [if_neg h,ha,hb]
theorem Yc (q:List Int→Int):∀ (k:Nat) (l:List Pt),l.length≤k→0<l.length→∃ a,(Yq q l).1=[a]∧a∈l∧∀ m∈(Yq q l).2,m.1∈l∧m.2∈l
  | 0,l,h,h0=>by omega
  |
   k+1,l,h,h0=>by
   by_cases h2:l.length<2
   · rw [Yw q h2]
     match l,h0,h2 with
     | [a],_,_=>exact ⟨a,rfl,by simp,by simp⟩
   · obtain ⟨a,ha,hal,ham⟩:=Yc q k (l.take ((l.length+1) / 2)) (by rw [List.length_take]; omega) (by rw [List.length_take]; omega)
     obtain ⟨b,hb,hbl,hbm⟩:=Yc q k (l.drop ((l.length+1) / 2)) (by rw [List.length_drop]; omega) (by rw [List.length_drop]; omega)
     rw [U4 q h2 ha hb]
     have hd:(Lo q a b).1∈l∧(Lo q a b).2∈l:=by
       unfold Lo; split
       · exact ⟨List.mem_of_mem_take hal,List.mem_of_mem_drop hbl⟩
       · exact ⟨List.mem_of_mem_drop hbl,List.mem_of_mem_take hal⟩
     refine ⟨_,rfl,hd.1,fun m hm=>?_⟩
     rcases List.mem_append.1 hm with hm | hm
     · rcases List.mem_append.1 hm with hm | hm
       · exact ⟨List.mem_of_mem_take (ham m hm).1,List.mem_of_mem_take (ham m hm).2⟩
       · exact ⟨List.mem_of_mem_drop (hbm m hm).1,List.mem_of_mem_drop (hbm m hm).2⟩
     · rw [List.mem_singleton.1 hm]; exact hd
theorem Jx (q:List Int→Int):∀ (k:Nat) (l:List Pt),l.length≤k→(Yq q l).2.length≤l.length-1
  | 0,l,h=>by rw [Yw q (by omega)]; simp
  |
   k+1,l,h=>by
   by_cases h2:l.length<2
   · rw [Yw q h2]; simp
   · obtain ⟨a,ha,_⟩:=Yc q l.length (l.take ((l.length+1) / 2)) (by rw [List.length_take]; omega) (by rw [List.length_take]; omega)
     obtain ⟨b,hb,_⟩:=Yc q l.length (l.drop ((l.length+1) / 2)) (by rw [List.length_drop]; omega) (by rw [List.length_drop]; omega)
     rw [U4 q h2 ha hb]
     have h3:=Jx q k (l.take ((l.length+1) / 2)) (by rw [List.length_take]; omega)
     have h4:=Jx q k (l.drop ((l.length+1) / 2)) (by rw [List.length_drop]; omega)
     rw [List.length_take] at h3
     rw [List.length_drop] at h4
     simp only [List.length_append,List.length_singleton]
     omega
abbrev A0 (m:Pt×Pt):List LV:=[pl m.1.c.x,pl m.1.c.y,sg m.1.c.d,mg m.1.c.d,.int .i64 m.1.id,pl m.2.c.x,pl m.2.c.y,sg m.2.c.d,mg m.2.c.d,.int .i64 m.2.id]
end Orr

namespace Orq
open Orr Go
def Co (q:Rat) (x y:Pt):Prop:=py y q<py x q∨py y q=py x q∧(px y q<px x q∨px y q=px x q∧x.id<y.id)
theorem Qw9 (q:Rat) (x:Pt):¬Co q x x:=by unfold Co; grind
theorem Q2s (q:Rat) (x y z:Pt) (h:Co q x y) (h':Co q y z):Co q x z:=by unfold Co at *; grind
theorem Qxa {q:Rat} {x y:Pt} (h:x.id≠y.id) (h':¬Co q x y):Co q y x:=by unfold Co at *; grind
theorem Qqy {a:Tm} (ha:Va a) {x y:Pt} (hx:Sc x.c) (hy:Sc y.c) {q:Rat} (h1:Hr (Ju a) (Xi y.c x.c)=Qp (Qh (Xi y.c x.c) q)) (h2:Hr (Ju a) (X8 y.c x.c)=Qp (Qh (X8 y.c x.c) q)):Vl (Ju a) x y=true↔Co q x y:=by
  rw [Qst hy hx] at h1
  rw [Qsu hy hx] at h2
  have d1:=(So hy hx).dp
  have d2:=(Sp hy hx).dp
  unfold Vl
  simp only [G5]
  have t1:=Zd (py x q-py y q)
  have t2:=Zd (px x q-px y q)
  by_cases e1:(Xi y.c x.c).length=0
  · rw [if_neg (by omega)]
    rw [List.eq_nil_of_length_eq_zero e1,Qao] at h1
    have:py x q=py y q:=by grind
    by_cases e2:(X8 y.c x.c).length=0
    · rw [if_neg (by omega)]
      rw [List.eq_nil_of_length_eq_zero e2,Qao] at h2
      unfold Co
      simp only [decide_eq_true_eq]
      grind
    · rw [if_pos (by omega)]
      have:=(Ch ha d2 e2).2
      unfold Co
      simp only [decide_eq_true_eq]
      grind
  · rw [if_pos (by omega)]
    have:=(Ch ha d1 e1).2
    unfold Co
    simp only [decide_eq_true_eq]
    grind
theorem Qg7 {l:List Pt} (hl:∀ p∈l,Sc p.c) {a:Tm} (ha:Va a):∃ y,Qu a y=-1∧∀ q,Qu a q=-1→q≤y→∀ u∈l,∀ v∈l,(Vl (Ju a) u v=true↔Co q u v):=by
  obtain ⟨y,y1,y2⟩:=Qh7 ha (Qbz l) fun p hp=>(Qei hl p hp).dp
  refine ⟨y,y1,fun q q1 q2 u hu v hv=>?_⟩
  have h:=y2 q q1 q2
  exact Qqy ha (hl u hu) (hl v hv) (h _ (Hg hv hu).2) (h _ (Hg hv hu).1)
theorem Qlo {a b:Tm} {x y:Pt} (h:Hr (Ju b) (Wi x y)=Hr (Ju a) (Wi x y)):Vl (Ju b) x y=Vl (Ju a) x y:=by
  unfold Wi Rz at h
  unfold Vl
  simp only [G5]
  by_cases e1:0<(Xi y.c x.c).length
  · rw [if_pos e1,if_pos e1]; rw [if_pos e1] at h; rw [h]
  · rw [if_neg e1,if_neg e1]; rw [if_neg e1] at h; rw [h]
theorem Qlc {l:List Pt} {k:Nat} (h2:¬l.length<2) (hk:l.length≤k+1):(l.take ((l.length+1) / 2)).length≤k∧(l.drop ((l.length+1) / 2)).length≤k∧0<(l.take ((l.length+1) / 2)).length∧0<(l.drop ((l.length+1) / 2)).length:=by
  rw [List.length_take,List.length_drop]; omega
theorem Em {sa sb:List Int→Int}:∀ (k:Nat) (l:List Pt),l.length≤k→l.Pairwise (fun x y=>x.id≠y.id)→(∀ u∈l,∀ v∈l,u.id≠v.id→Vl sa u v=false→Vl sa v u=true)→(∀ u∈l,∀ v∈l,Vl sb v u=true→Vl sb u v=false)→(∀ m∈(Yq sa l).2,Vl sb m.1 m.2=Vl sa m.1 m.2)→Yq sb l=Yq sa l
  | 0,l,hk,_,_,_,_=>by rw [Yw _ (by omega),Yw _ (by omega)]
  |
   k+1,l,hk,hd,h1,h2,hm=>by
   by_cases hs:l.length<2
   · rw [Yw _ hs,Yw _ hs]
   · obtain ⟨k1,k2,k3,k4⟩:=Qlc hs hk
     obtain ⟨a,ha,hal,_⟩:=Yc sa k (l.take ((l.length+1) / 2)) k1 k3
     obtain ⟨b,hb,hbl,_⟩:=Yc sa k (l.drop ((l.length+1) / 2)) k2 k4
     have hpl:=U4 sa hs ha hb
     rw [hpl] at hm
     have hd':=hd
     rw [←List.take_append_drop ((l.length+1) / 2) l] at hd'
     obtain ⟨d1,d2,d3⟩:=List.pairwise_append.1 hd'
     have i1:=Em k _ k1 d1 (fun u hu v hv=>h1 u (List.mem_of_mem_take hu) v (List.mem_of_mem_take hv)) (fun u hu v hv=>h2 u (List.mem_of_mem_take hu) v (List.mem_of_mem_take hv)) fun m hm'=>hm m (by simp [hm'])
     have i2:=Em k _ k2 d2 (fun u hu v hv=>h1 u (List.mem_of_mem_drop hu) v (List.mem_of_mem_drop hv)) (fun u hu v hv=>h2 u (List.mem_of_mem_drop hu) v (List.mem_of_mem_drop hv)) fun m hm'=>hm m (by simp [hm'])
     have hal':=List.mem_of_mem_take hal
     have hbl':=List.mem_of_mem_drop hbl
     have e:Lo sb a b=Lo sa a b:=by
       have hmem:=hm (Lo sa a b) (by simp)
       unfold Lo at hmem ⊢
       by_cases h:Vl sa a b=true
       · rw [if_pos h] at hmem ⊢
         rw [if_pos (hmem.trans h)]
       · rw [if_neg h] at hmem ⊢
         have h:Vl sa a b=false:=by simpa using h
         have:=h2 a hal' b hbl' (hmem.trans (h1 a hal' b hbl' (d3 a hal b hbl) h))
         rw [if_neg (by simp [this])]
     rw [hpl,U4 sb hs (by rw [i1]; exact ha) (by rw [i2]; exact hb),i1,i2,e]
end Orq
namespace Orr
open Orq Go
def bcT (l:List Pt) (a:Tm):List Ct:=(Yq (Ju a) l).2.map fun m=>Xd (Ju a) m.1 m.2
def Bt (l:List Pt) (a:Tm):List (List LV)×List (List LV):=((Yq (Ju a) l).1.map Xe,(Yq (Ju a) l).2.map A0)
theorem Fo {sg:List Int→Int} {l:List Pt}:∀ m∈(Yq sg l).2,m.1∈l∧m.2∈l:=fun m hm=>by
  by_cases h:0<l.length
  · obtain ⟨_,_,_,h3⟩:=Yc sg l.length l (Nat.le_refl _) h
    exact h3 m hm
  · rw [Yw _ (by omega)] at hm; cases hm
theorem Q55 {l:List Pt} (hl:∀ p∈l,Sc p.c) {a:Tm}:∀ x∈bcT l a,Cp x.p:=fun x hx=>by
  obtain ⟨m,hm,rfl⟩:=List.mem_map.1 hx
  obtain ⟨h1,h2⟩:=Fo m hm
  exact Qcp (So (hl _ h2) (hl _ h1)) (Sp (hl _ h2) (hl _ h1))
theorem I8 {l:List Pt} (hl:∀ p∈l,Sc p.c) (hn:l.length≤1000):BuildOk (bcT l) :=
  ⟨fun a _=>Q55 hl,fun a _=>by
    unfold bcT; rw [List.length_map]
    have:=Jx (Ju a) l.length l (Nat.le_refl _); omega⟩
theorem Q0r {l:List Pt} {a:Tm}:∀ x∈bcT l a,x.p∈Qbz l:=fun x hx=>by
  obtain ⟨m,hm,rfl⟩:=List.mem_map.1 hx
  obtain ⟨h1,h2⟩:=Fo m hm
  show Wi m.1 m.2∈Qbz l
  unfold Wi Rz; split
  · exact (Hg h2 h1).2
  · exact (Hg h2 h1).1
theorem Zat {l:List Pt} (hl:∀ p∈l,Sc p.c) (hn:l.length≤1000) (hd:l.Pairwise fun x y=>x.id≠y.id):Stab (bcT l) (Bt l):=by
  refine ⟨I8 hl hn,⟨Qbz l,Qei hl,fun a _ x hx=>?_⟩,fun a b ha hb h=>?_⟩
  · obtain ⟨m,hm,rfl⟩:=List.mem_map.1 hx
    obtain ⟨h1,h2⟩:=Fo m hm
    show Wi m.1 m.2∈Qbz l
    unfold Wi Rz; split
    · exact (Hg h2 h1).2
    · exact (Hg h2 h1).1
  · obtain ⟨y,y1,y2⟩:=Qg7 hl ha
    obtain ⟨z,z1,z2⟩:=Qg7 hl hb
    have ga:=y2 y y1 Rat.le_refl
    have gb:=z2 z z1 Rat.le_refl
    have e:Yq (Ju b) l=Yq (Ju a) l:=Em l.length l (Nat.le_refl _) hd (fun u hu v hv hne hf=>(ga v hv u hu).2 (Qxa hne fun h=>by
      rw [(ga u hu v hv).2 h] at hf; cases hf)) (fun u hu v hv ht=>by
      cases hb':Vl (Ju b) u v
      · rfl
      · exact absurd (Q2s z u v u ((gb u hu v hv).1 hb') ((gb v hv u hu).1 ht)) (Qw9 z u)) fun m hm=>Qlo (h (Xd (Ju a) m.1 m.2) (List.mem_map.2 ⟨m,hm,rfl⟩))
    refine ⟨?_,by unfold Bt; rw [e]⟩
    unfold bcT
    rw [e]
    refine List.map_congr_left fun m hm=>?_
    have:=h (Xd (Ju a) m.1 m.2) (List.mem_map.2 ⟨m,hm,rfl⟩)
    unfold Xd
    rw [show Hr (Ju b) (Wi m.1 m.2)=Hr (Ju a) (Wi m.1 m.2) from this]
end Orr

namespace Orr
open Go Go.Proofs Orq
set_option maxRecDepth 10000
def Xu (l:List (Pt×Pt)):List (List LV):=l.map A0
theorem Qh0 {l m:List (List LV)} (h:l=m):TV.one (LV.row l)=.one (.row m):=h ▸ rfl
theorem oz {P:Program} [Mo P] {n:Nat} {Q:Exit→Sg→List OB→Prop} {L L':Sg} {B B':List OB} (d off T sz:Nat) {it:List It} (hs:Jh it=true) (h:Qsj (P:=P) d L B [.oc d off T sz]=some (L',B',[],[])) (k:AK P n Q it L' B'):AK P n Q it L B:=AK.sub (Qfz h EqOk.nil) hs k
theorem Qnj {a b:Pt} {t:Tm} (ha:Sc a.c) (hb:Sc b.c) (ht:Va t):Qc Tryz.prog 132 [.one (.int .i64 2),.agg (ta t),.one (.row [Xe a,Xe b])] [.agg (Qa8 (Xd (Ju t) a b)),.one (.int .i64 0)]:=by
  have h1:=So hb ha
  have h2:=Sp hb ha
  refine Z1 Tryz.func132 rfl ?_
  refine go tt [.c [] Qrd,.f rfl] rfl trivial ?_
  refine lp (S:=Nat) 3 (fun L1 i=>(22,.v (.one (.int .i64 (i:Int))))::L1) (fun i=>[.blk 67 (ta t),.blk 161 zCt,.blk 161 [.int .i64 2,.int .i64 (if 1≤i then a.id else 0),.int .i64 (if 2≤i then b.id else 0),.int .i64 0,.int .i64 0,.nils,.int .i64 0]]) (fun i=>2-i) (fun i=>i≤2) 0 (Nat.zero_le _) rfl (fun _ _=>rfl) rfl fun i hi=>?_
  rcases (show i=0∨i=1∨i=2 by omega) with rfl | rfl | rfl
  · refine go tt [.t rfl,.x (i:=0) (xs:=Xe a) rfl,.i 0] rfl (by simp [Qa]) ?_
    exact rd 1 (by omega) (by omega) rfl
  · refine go tt [.t rfl,.x (i:=1) (xs:=Xe b) rfl,.i 1] rfl (by simp [Qa]) ?_
    exact rd 2 (by omega) (by omega) rfl
  · exact en tt [.f rfl,.f rfl,.t rfl,.x (i:=1) (xs:=Xe b) rfl,.x (i:=0) (xs:=Xe a) rfl,.c [] (Qnf hb.n ha.n hb.cb ha.cb),.x (i:=1) (xs:=Xe b) rfl,.x (i:=0) (xs:=Xe a) rfl,.c [] (Qnm hb.n ha.n hb.cb ha.cb),.c [] Quo,.c [] (Q45 (Qcp h1 h2).dp ht)] rfl rfl trivial
theorem Quf {a:Tm} (ha:Va a) {c:Cr} {r0 r1:List (List LV)}:∀ (k:Nat) (l:List Pt) (ms:List (Pt×Pt)),l.length≤k→l.length≤1000→ms.length+l.length≤1000000→(∀ p∈l,Sc p.c)→Zw Tryz.prog 143 [.one (.ow 0 0),.agg (ta a),.one (pts l)] [.blk 86 [.bool true,pl c.now.p,sg c.now.lo.num,mg c.now.lo.num,sg (c.now.lo.den:Int),mg (c.now.lo.den:Int),sg c.now.hi.num,mg c.now.hi.num,sg (c.now.hi.den:Int),mg (c.now.hi.den:Int),.row (Tx c.l),.int .i64 c.ev,.row r0,.row r1,.orow 1 10 none],.row false 212 10 (Xu ms)] [.one (.row (Qj (Yq (Ju a) l).1))] [.blk 86 [.bool true,pl c.now.p,sg c.now.lo.num,mg c.now.lo.num,sg (c.now.lo.den:Int),mg (c.now.lo.den:Int),sg c.now.hi.num,mg c.now.hi.num,sg (c.now.hi.den:Int),mg (c.now.hi.den:Int),.row (Tx c.l),.int .i64 c.ev,.row r0,.row r1,.orow 1 10 none],.row false 212 10 (Xu (ms++(Yq (Ju a) l).2))]
 := by
  intro k
  induction k with
  | zero=>?_
  | succ k ih=>?_
  all_goals
    intro l ms hk hn hms hl
    have hcl:=Fv l
    show Zw Tryz.prog 143 [.one (.ow 0 0),.agg (ta a),.one (.row (Qj l))] _ _ _
    by_cases hs:l.length<2
    · rw [Yw _ hs,List.append_nil]
      refine Z1 Tryz.func143 rfl ?_
      exact ed tt [] [0,1] [.t (by simp [hcl]; omega)] rfl trivial
    first
      | (exfalso; omega)
      |
       skip
       obtain ⟨k1,k2,k3,k4⟩:=Qlc hs hk
       obtain ⟨h,hh⟩:∃ h,h=(l.length+1) / 2:=⟨_,rfl⟩
       obtain ⟨u,hu,hul,_⟩:=Yc (Ju a) k (l.take ((l.length+1) / 2)) k1 k3
       obtain ⟨v,hv,hvl,_⟩:=Yc (Ju a) k (l.drop ((l.length+1) / 2)) k2 k4
       have g1:=Jx (Ju a) _ (l.take ((l.length+1) / 2)) (Nat.le_refl _)
       have g2:=Jx (Ju a) _ (l.drop ((l.length+1) / 2)) (Nat.le_refl _)
       have hlt:(l.take ((l.length+1) / 2)).length+(l.drop ((l.length+1) / 2)).length=l.length:=by rw [List.length_take,List.length_drop]; omega
       have c1:=ih (l.take ((l.length+1) / 2)) ms k1 (by omega) (by omega) fun p hp=>hl p (List.mem_of_mem_take hp)
       have c2:=ih (l.drop ((l.length+1) / 2)) (ms++(Yq (Ju a) (l.take ((l.length+1) / 2))).2) k2 (by omega) (by rw [List.length_append]; omega) fun p hp=>hl p (List.mem_of_mem_drop hp)
       have hpl:=U4 (Ju a) hs hu hv
       rw [hpl]
       rw [hu] at c1
       rw [hv] at c2
       generalize (Yq (Ju a) (l.take ((l.length+1) / 2))).2=G1 at *
       generalize (Yq (Ju a) (l.drop ((l.length+1) / 2))).2=G2 at *
       have hsu:=hl u (List.mem_of_mem_take hul)
       have hsv:=hl v (List.mem_of_mem_drop hvl)
       have cb:=Qng (t:=a) hsu hsv ha
       have htd:((l.length:Int)+1).tdiv 2=(((l.length+1) / 2:Nat):Int):=rfl
       have hg:∀ m,Xu (ms++(G1++G2++[m]))=Xu ((ms++G1)++G2)++[A0 m]:=fun m=>by simp [Xu]
       have hml:(Xu ((ms++G1)++G2)).length=ms.length+G1.length+G2.length:=by simp [Xu]; omega
       have hml2:(Xu (ms++(G1++G2))).length=ms.length+G1.length+G2.length:=by simp [Xu]; omega
       have h5:=eq_true (p:=∀ z,z∈Qj l→z.length=ti35.sz) (Qp9 l)
       have e1:(Qj l).take ((l.length+1) / 2)=Qj (l.take ((l.length+1) / 2)):=by simp [Qj,List.map_take]
       have e2:(Qj l).drop ((l.length+1) / 2)=Qj (l.drop ((l.length+1) / 2)):=by simp [Qj,List.map_drop]
       unfold Lo
       refine Z1 Tryz.func143 rfl ?_
       by_cases hb:Vl (Ju a) u v=true
       · rw [if_pos hb,hg]
         exact ed tt [] [0,1] [.f (by simp [hcl]; omega),.r 17 (eI (b:=(((l.length+1) / 2:Nat):Int)) (by rw [hcl]; rfl)),.i ((l.length+1) / 2),.r 22 (Qh0 e1),.c [0,1] c1,.i ((l.length+1) / 2),.r 28 (Qh0 e2),.c [0,1] c2,.x (i:=0) (l:=Qj [u]) (xs:=Xe u) rfl,.x (i:=0) (l:=Qj [v]) (xs:=Xe v) rfl,.c [] cb,.f (by rw [hb]; rfl),.x (i:=0) (l:=Qj [u]) (xs:=Xe u) rfl,.x (i:=0) (l:=Qj [v]) (xs:=Xe v) rfl,.s (sz:=10) (l:=[A0 (u,v)]) (fun c hc=>by rw [List.mem_singleton.1 hc]; rfl),.i 1] rfl (by simp [Qa,Fv,hml2,h5]; omega)
       · have hb:Vl (Ju a) u v=false:=by simpa using hb
         rw [if_neg (by simp [hb]),hg]
         exact ed tt [] [0,1] [.f (by simp [hcl]; omega),.r 17 (eI (b:=(((l.length+1) / 2:Nat):Int)) (by rw [hcl]; rfl)),.i ((l.length+1) / 2),.r 22 (Qh0 e1),.c [0,1] c1,.i ((l.length+1) / 2),.r 28 (Qh0 e2),.c [0,1] c2,.x (i:=0) (l:=Qj [u]) (xs:=Xe u) rfl,.x (i:=0) (l:=Qj [v]) (xs:=Xe v) rfl,.c [] cb,.t (by rw [hb]; rfl),.x (i:=0) (l:=Qj [v]) (xs:=Xe v) rfl,.x (i:=0) (l:=Qj [u]) (xs:=Xe u) rfl,.s (sz:=10) (l:=[A0 (v,u)]) (fun c hc=>by rw [List.mem_singleton.1 hc]; rfl),.i 1] rfl (by simp [Qa,Fv,hml2,h5]; omega)
theorem Que {a:Tm} (ha:Va a) {r0:List (List LV)}:∀ (k:Nat) (l:List Pt) (ms:List (Pt×Pt)),l.length≤k→l.length≤1000→ms.length+l.length≤1000000→(∀ p∈l,Sc p.c)→Zw Tryz.prog 143 [.one (.ow 0 0),.agg (ta a),.one (pts l)] [.blk 86 [.bool false,.nils,.bool false,.nils,.bool false,.nils,.bool false,.nils,.bool false,.nils,.nils,.int .i64 0,.row r0,.nils,.orow 1 10 none],.row false 212 10 (Xu ms)] [.one (.row (Qj (Yq (Ju a) l).1))] [.blk 86 [.bool false,.nils,.bool false,.nils,.bool false,.nils,.bool false,.nils,.bool false,.nils,.nils,.int .i64 0,.row r0,.nils,.orow 1 10 none],.row false 212 10 (Xu (ms++(Yq (Ju a) l).2))]
 := by
  intro k
  induction k with
  | zero=>?_
  | succ k ih=>?_
  all_goals
    intro l ms hk hn hms hl
    have hcl:=Fv l
    show Zw Tryz.prog 143 [.one (.ow 0 0),.agg (ta a),.one (.row (Qj l))] _ _ _
    by_cases hs:l.length<2
    · rw [Yw _ hs,List.append_nil]
      refine Z1 Tryz.func143 rfl ?_
      exact ed tt [] [0,1] [.t (by simp [hcl]; omega)] rfl trivial
    first
      | (exfalso; omega)
      |
       skip
       obtain ⟨k1,k2,k3,k4⟩:=Qlc hs hk
       obtain ⟨h,hh⟩:∃ h,h=(l.length+1) / 2:=⟨_,rfl⟩
       obtain ⟨u,hu,hul,_⟩:=Yc (Ju a) k (l.take ((l.length+1) / 2)) k1 k3
       obtain ⟨v,hv,hvl,_⟩:=Yc (Ju a) k (l.drop ((l.length+1) / 2)) k2 k4
       have g1:=Jx (Ju a) _ (l.take ((l.length+1) / 2)) (Nat.le_refl _)
       have g2:=Jx (Ju a) _ (l.drop ((l.length+1) / 2)) (Nat.le_refl _)
       have hlt:(l.take ((l.length+1) / 2)).length+(l.drop ((l.length+1) / 2)).length=l.length:=by rw [List.length_take,List.length_drop]; omega
       have c1:=ih (l.take ((l.length+1) / 2)) ms k1 (by omega) (by omega) fun p hp=>hl p (List.mem_of_mem_take hp)
       have c2:=ih (l.drop ((l.length+1) / 2)) (ms++(Yq (Ju a) (l.take ((l.length+1) / 2))).2) k2 (by omega) (by rw [List.length_append]; omega) fun p hp=>hl p (List.mem_of_mem_drop hp)
       have hpl:=U4 (Ju a) hs hu hv
       rw [hpl]
       rw [hu] at c1
       rw [hv] at c2
       generalize (Yq (Ju a) (l.take ((l.length+1) / 2))).2=G1 at *
       generalize (Yq (Ju a) (l.drop ((l.length+1) / 2))).2=G2 at *
       have hsu:=hl u (List.mem_of_mem_take hul)
       have hsv:=hl v (List.mem_of_mem_drop hvl)
       have cb:=Qng (t:=a) hsu hsv ha
       have htd:((l.length:Int)+1).tdiv 2=(((l.length+1) / 2:Nat):Int):=rfl
       have hg:∀ m,Xu (ms++(G1++G2++[m]))=Xu ((ms++G1)++G2)++[A0 m]:=fun m=>by simp [Xu]
       have hml:(Xu ((ms++G1)++G2)).length=ms.length+G1.length+G2.length:=by simp [Xu]; omega
       have hml2:(Xu (ms++(G1++G2))).length=ms.length+G1.length+G2.length:=by simp [Xu]; omega
       have h5:=eq_true (p:=∀ z,z∈Qj l→z.length=ti35.sz) (Qp9 l)
       have e1:(Qj l).take ((l.length+1) / 2)=Qj (l.take ((l.length+1) / 2)):=by simp [Qj,List.map_take]
       have e2:(Qj l).drop ((l.length+1) / 2)=Qj (l.drop ((l.length+1) / 2)):=by simp [Qj,List.map_drop]
       unfold Lo
       refine Z1 Tryz.func143 rfl ?_
       by_cases hb:Vl (Ju a) u v=true
       · rw [if_pos hb,hg]
         exact ed tt [] [0,1] [.f (by simp [hcl]; omega),.r 17 (eI (b:=(((l.length+1) / 2:Nat):Int)) (by rw [hcl]; rfl)),.i ((l.length+1) / 2),.r 22 (Qh0 e1),.c [0,1] c1,.i ((l.length+1) / 2),.r 28 (Qh0 e2),.c [0,1] c2,.x (i:=0) (l:=Qj [u]) (xs:=Xe u) rfl,.x (i:=0) (l:=Qj [v]) (xs:=Xe v) rfl,.c [] cb,.f (by rw [hb]; rfl),.x (i:=0) (l:=Qj [u]) (xs:=Xe u) rfl,.x (i:=0) (l:=Qj [v]) (xs:=Xe v) rfl,.s (sz:=10) (l:=[A0 (u,v)]) (fun c hc=>by rw [List.mem_singleton.1 hc]; rfl),.i 1] rfl (by simp [Qa,Fv,hml2,h5]; omega)
       · have hb:Vl (Ju a) u v=false:=by simpa using hb
         rw [if_neg (by simp [hb]),hg]
         exact ed tt [] [0,1] [.f (by simp [hcl]; omega),.r 17 (eI (b:=(((l.length+1) / 2:Nat):Int)) (by rw [hcl]; rfl)),.i ((l.length+1) / 2),.r 22 (Qh0 e1),.c [0,1] c1,.i ((l.length+1) / 2),.r 28 (Qh0 e2),.c [0,1] c2,.x (i:=0) (l:=Qj [u]) (xs:=Xe u) rfl,.x (i:=0) (l:=Qj [v]) (xs:=Xe v) rfl,.c [] cb,.t (by rw [hb]; rfl),.x (i:=0) (l:=Qj [v]) (xs:=Xe v) rfl,.x (i:=0) (l:=Qj [u]) (xs:=Xe u) rfl,.s (sz:=10) (l:=[A0 (v,u)]) (fun c hc=>by rw [List.mem_singleton.1 hc]; rfl),.i 1] rfl (by simp [Qa,Fv,hml2,h5]; omega)
theorem Qcf {l:List Pt} {a:Tm} {c:Cr} {r1:List (List LV)×List (List LV)} (hl:∀ p∈l,Sc p.c) (hn:l.length≤1000) (ha:Va a):Zw Tryz.prog 84 [.one (.ow 0 0),.agg (ta a)] [.blk 86 (Zv c (Qj l) r1)] [.one (.row (Z5 (bcT l a)))] [.blk 86 (Zv c (Qj l) (Bt l a))]:=by
  have cp:=Quf (r0:=Qj l) (c:=c) (r1:=r1.1) ha l.length l [] (Nat.le_refl _) hn (by show 0+l.length≤1000000; omega) hl
  have hms:=Jx (Ju a) l.length l (Nat.le_refl _)
  unfold bcT Bt
  obtain ⟨M,hM⟩:∃ M,M=(Yq (Ju a) l).2:=⟨_,rfl⟩
  have hmm:∀ m∈M,Sc m.1.c∧Sc m.2.c:=fun m hm=>by
    rw [hM] at hm
    exact ⟨hl _ (Fo m hm).1,hl _ (Fo m hm).2⟩
  rw [←hM] at cp hms ⊢
  rw [List.nil_append] at cp
  have hgl:(Xu M).length=M.length:=by simp [Xu]
  refine Z1 Tryz.func84 rfl ?_
  refine go tt [] rfl trivial ?_
  refine oz 0 14 212 10 rfl rfl ?_
  refine go tt [.c [] Qtw,.c [0,2] cp,.o 5 161 7] rfl trivial ?_
  refine lp (S:=Nat) 4 (fun L1 i=>(29,.v (.one (.int .i64 (i:Int))))::(5,.v (.one (.orow 3 7 none)))::L1) (fun i=>[.blk 86 [.bool true,pl c.now.p,sg c.now.lo.num,mg c.now.lo.num,sg (c.now.lo.den:Int),mg (c.now.lo.den:Int),sg c.now.hi.num,mg c.now.hi.num,sg (c.now.hi.den:Int),mg (c.now.hi.den:Int),.row (Tx c.l),.int .i64 c.ev,.row (Qj l),.row (Qj (Yq (Ju a) l).1),.orow 2 10 none],.blk 67 (ta a),.row false 212 10 (Xu M),.row false 161 7 (Z5 ((M.map fun m=>Xd (Ju a) m.1 m.2).take i))]) (fun i=>M.length-i) (fun i=>i≤M.length) 0 (Nat.zero_le _) rfl (fun _ _=>rfl) rfl fun i hi=>?_
  by_cases hlt:i<M.length
  · obtain ⟨m,hm⟩:∃ m,M[i]? = some m:=⟨_,List.getElem?_eq_getElem hlt⟩
    obtain ⟨s1,s2⟩:=hmm m (List.mem_of_getElem? hm)
    have hg:(Xu M)[i]? = some (A0 m):=Zm hm
    have hq:∀ y∈[Qa8 (Xd (Ju a) m.1 m.2)],y.length=7:=fun y hy=>by rw [List.mem_singleton.1 hy]; rfl
    have ht:(M.map fun m=>Xd (Ju a) m.1 m.2).take (i+1)=(M.map fun m=>Xd (Ju a) m.1 m.2).take i++[Xd (Ju a) m.1 m.2]:=by
      rw [List.take_succ,List.getElem?_map,hm]; rfl
    refine go tt [.t (decide_eq_true (by omega)),.i i,.x hg,.i 0,.i 1,.c [] (Qnj s1 s2 ha),.s (sz:=7) hq] rfl (by simp [Qa,hgl,Ui]; omega) ?_
    exact rd (i+1) (by omega) hlt (by rw [ht]; simp [Z5]; rfl)
  · obtain rfl:i=M.length:=by omega
    rw [List.take_of_length_le (by simp)]
    exact ed tt [2,3] [0] [.f (decide_eq_false (by omega))] rfl trivial
theorem Qq6 {l:List Pt} {a:Tm} (hl:∀ p∈l,Sc p.c) (hn:l.length≤1000) (ha:Va a):Zw Tryz.prog 84 [.one (.ow 0 0),.agg (ta a)] [.blk 86 (Qvo (.row (Qj l)) (.nils,.nils))] [.one (.row (Z5 (bcT l a)))] [.blk 86 (Qvo (.row (Qj l)) (.row (Bt l a).1,.row (Bt l a).2))]:=by
  have cp:=Que (r0:=Qj l)  ha l.length l [] (Nat.le_refl _) hn (by show 0+l.length≤1000000; omega) hl
  have hms:=Jx (Ju a) l.length l (Nat.le_refl _)
  unfold bcT Bt
  obtain ⟨M,hM⟩:∃ M,M=(Yq (Ju a) l).2:=⟨_,rfl⟩
  have hmm:∀ m∈M,Sc m.1.c∧Sc m.2.c:=fun m hm=>by
    rw [hM] at hm
    exact ⟨hl _ (Fo m hm).1,hl _ (Fo m hm).2⟩
  rw [←hM] at cp hms ⊢
  rw [List.nil_append] at cp
  have hgl:(Xu M).length=M.length:=by simp [Xu]
  refine Z1 Tryz.func84 rfl ?_
  refine go tt [] rfl trivial ?_
  refine oz 0 14 212 10 rfl rfl ?_
  refine go tt [.c [] Qtw,.c [0,2] cp,.o 5 161 7] rfl trivial ?_
  refine lp (S:=Nat) 4 (fun L1 i=>(29,.v (.one (.int .i64 (i:Int))))::(5,.v (.one (.orow 3 7 none)))::L1) (fun i=>[.blk 86 [.bool false,.nils,.bool false,.nils,.bool false,.nils,.bool false,.nils,.bool false,.nils,.nils,.int .i64 0,.row (Qj l),.row (Qj (Yq (Ju a) l).1),.orow 2 10 none],.blk 67 (ta a),.row false 212 10 (Xu M),.row false 161 7 (Z5 ((M.map fun m=>Xd (Ju a) m.1 m.2).take i))]) (fun i=>M.length-i) (fun i=>i≤M.length) 0 (Nat.zero_le _) rfl (fun _ _=>rfl) rfl fun i hi=>?_
  by_cases hlt:i<M.length
  · obtain ⟨m,hm⟩:∃ m,M[i]? = some m:=⟨_,List.getElem?_eq_getElem hlt⟩
    obtain ⟨s1,s2⟩:=hmm m (List.mem_of_getElem? hm)
    have hg:(Xu M)[i]? = some (A0 m):=Zm hm
    have hq:∀ y∈[Qa8 (Xd (Ju a) m.1 m.2)],y.length=7:=fun y hy=>by rw [List.mem_singleton.1 hy]; rfl
    have ht:(M.map fun m=>Xd (Ju a) m.1 m.2).take (i+1)=(M.map fun m=>Xd (Ju a) m.1 m.2).take i++[Xd (Ju a) m.1 m.2]:=by
      rw [List.take_succ,List.getElem?_map,hm]; rfl
    refine go tt [.t (decide_eq_true (by omega)),.i i,.x hg,.i 0,.i 1,.c [] (Qnj s1 s2 ha),.s (sz:=7) hq] rfl (by simp [Qa,hgl,Ui]; omega) ?_
    exact rd (i+1) (by omega) hlt (by rw [ht]; simp [Z5]; rfl)
  · obtain rfl:i=M.length:=by omega
    rw [List.take_of_length_le (by simp)]
    exact ed tt [2,3] [0] [.f (decide_eq_false (by omega))] rfl trivial
end Orr

namespace Orq
open Orr Go
structure Quiet {β:Type} (Bc:Tm→List Ct) (Br:Tm→β) (a b:Tm):Prop where
  va:Va a
  vb:Va b
  le:¬Uh b a
  n:∀ x∈Bc a,∃ o,Um x.p a o∧∀ u,o=some u→Uh b u
section
variable {β:Type} {Bc:Tm→List Ct} {Br:Tm→β} (S:Stab Bc Br)
include S
theorem Quiet.same {a b:Tm} (h:Quiet Bc Br a b):Bc b=Bc a∧Br b=Br a:=by
  refine S.st a b h.va h.vb fun x hx=>?_
  obtain ⟨o,o1,o2⟩:=h.n x hx
  exact Qc9 (S.ok.p _ h.va _ hx).dp h.va h.vb h.le o1 o2
end
theorem Q4g {p:List Int} (h:Cp p):(tms p).length≤67:=by
  obtain ⟨l,l1,l2,_⟩:=P7 h
  unfold tms; rw [l1]; exact l2
theorem Qqj:∀ {Ps:List (List Int)},(∀ p∈Ps,Cp p)→(Ps.flatMap tms).length≤67*Ps.length
  | [],_=>Nat.zero_le _
  |
   p::Ps,h=>by
   have h1:=Q4g (h p (by simp))
   have h2:=Qqj (Ps:=Ps) fun q hq=>h q (List.mem_cons_of_mem _ hq)
   rw [List.flatMap_cons,List.length_append,List.length_cons]; omega
theorem Zab (T:List Tm) (a:Tm):mu T a≤T.length:=List.length_filter_le _ _
theorem Q52 {β:Type} {Bc:Tm→List Ct} {Br:Tm→β} (S:Stab Bc Br) {Ps:List (List Int)} (hP:∀ p∈Ps,Cp p) (hPs:∀ a,Va a→∀ x∈Bc a,x.p∈Ps) (hl:Ps.length≤1000000) {t:Rat} (ht:Qs 900 t) {c:Cr} {r:β} (hS:KSt Bc Br c r) (h:Qu c.now t≤0) :
    ∃ (K:Nat) (c':Cr) (E:List Tm),K≤67000001∧goF Bc Br t K c r 0=some (c',Br (tq t),((E.length:Nat):Int))∧c'.now=tq t∧KSt Bc Br c' (Br (tq t))∧c'.ev=c.ev+((E.length:Nat):Int)∧E.length≤67000000∧Evs Bc t c.now E:=by
  have hm:=Qqj hP
  have hmu:=Zab (Ps.flatMap tms) c.now
  have hv:=hS.inv.ok.n
  obtain ⟨c',r',E,g1,g2,g3,g4,g5,g6⟩:=Q91 S ht hP hPs (mu (Ps.flatMap tms) c.now) c r 0 (Nat.le_refl _) hS fun h'=>by
    have:=(Ox hv.cut).2 h'; omega
  have hr:r'=Br (tq t):=by rw [g3.r,g2]
  rw [hr] at g1 g3
  rw [Int.zero_add] at g1
  exact ⟨_,c',E,by omega,g1,g2,g3,g4,by omega,g6⟩
theorem Q6a {β:Type} {Bc:Tm→List Ct} {Br:Tm→β} (S:Stab Bc Br) {a:Tm} (ha:Va a):KSt Bc Br ⟨a,(Q6 (Bc a)).map fresh,0⟩ (Br a):=by
  refine ⟨⟨⟨ha,fun w hw=>?_,?_⟩,fun w hw hk=>?_⟩,?_,rfl⟩
  · obtain ⟨x,hx,rfl⟩:=List.mem_map.1 hw
    exact ⟨S.ok.p _ ha x (Rh hx),fun t ht=>by cases ht⟩
  · show ((Q6 (Bc a)).map fresh).length≤1000
    rw [List.length_map,U7]; exact S.ok.n _ ha
  · obtain ⟨x,hx,rfl⟩:=List.mem_map.1 hw
    cases hk
  · show ((Q6 (Bc a)).map fresh).map (·.c)=Q6 (Bc a)
    rw [List.map_map]
    show (Q6 (Bc a)).map (fun x=>x)=_
    rw [List.map_id']
end Orq

namespace Orr
open Go Go.Proofs Orq
set_option maxRecDepth 10000
def Qtm (l:List Pt) (a:Tm):Cr:=⟨a,(Q6 (bcT l a)).map fresh,0⟩
theorem Qnp {zs:List (List LV)} {qs l:List Pt} {x y x' y':LV} {n d:Int} (hz:IsPts 4294967294 1073741824 zs qs) (hq:qs.length≤6) (hnl:J1 [] qs=(l,0)) (hl:∀ p∈l,Sc p.c) (hn:l.length≤1000) (h1:Xg x y n) (h2:Xg x' y' d) (bn:Qn n≤4294967295) (bd:Qn d≤4294967295) (ht:Qs 900 (Zy n d)) :
    Zw Tryz.prog 26 [.agg [x,y,x',y'],.one (.row zs)] [] [.one (.ow 0 0),.one (.int .i64 0)] [.blk 86 (Zv (Qtm l (tq (Zy n d))) (Qj l) (Bt l (tq (Zy n d))))]:=by
  have cn:=Q9i hz hq
  rw [hnl] at cn
  have co:=Q44 h1 h2 bn bd (ht.mono (by decide))
  have hv:=Q4k ht
  have hB:=I8 hl hn
  have cb:=Qq6 hl hn hv
  have cg:=Qq4 (T:=86) (r0:=Qj l) (r1:=Bt l (tq (Zy n d))) hv (hB.p _ hv) (hB.n _ hv)
  obtain ⟨b,l1,rfl,rfl,_⟩:=h1
  obtain ⟨b',l2,rfl,rfl,_⟩:=h2
  refine Z1 Tryz.func26 rfl ?_
  exact ed tt [] [2] [.c [] cn,.f rfl,.c [] co,.c [2] cb,.c [2] cg] rfl trivial
theorem Q1f {t:Rat} {l:List Pt} {K:Nat} {c c':Cr} {r1 r1':List (List LV)×List (List LV)} {n:Int} (ht:Qs 900 t) (hl:∀ p∈l,Sc p.c) (hn:l.length≤1000) (hc:CrOk c) (hev:0≤c.ev∧c.ev+K≤1000000000000000000) (h:Qu c.now t≤0) (hg:goF (bcT l) (Bt l) t K c r1 0=some (c',r1',n)) :
    Zw Tryz.prog 27 [.one (.ow 0 0),.agg (rl t)] [.blk 86 (Zv c (Qj l) r1)] [.one (.int .i64 n),.one (.int .i64 0)] [.blk 86 (Zv c' (Qj l) r1')]:=by
  have cg:=Q9p (T:=86) (r0:=Qj l) ht (I8 hl hn) (fun a c r1 ha _=>Qcf (c:=c) (r1:=r1) hl hn ha) hc hev h hg
  refine Z1 Tryz.func27 rfl ?_
  exact ed tt [] [0] [.c [] (Ge (ht.mono (by decide))),.c [0] cg] rfl trivial
theorem Qem {c:Cr} {r0 r2:List (List LV)} {w:Pt}:Zw Tryz.prog 28 [.one (.ow 0 0)] [.blk 86 (Zv c r0 ([Xe w],r2))] [.one (.int .i64 w.id),.one (.bool true)] [.blk 86 (Zv c r0 ([Xe w],r2))]:=by
  refine Z1 Tryz.func28 rfl ?_
  exact ed tt [] [0] [.f rfl,.x (i:=0) (xs:=Xe w) rfl] rfl trivial
theorem Qhc {c:Cr} {r0 r2:List (List LV)}:Zw Tryz.prog 28 [.one (.ow 0 0)] [.blk 86 (Zv c r0 ([],r2))] [.one (.int .i64 0),.one (.bool false)] [.blk 86 (Zv c r0 ([],r2))]:=by
  refine Z1 Tryz.func28 rfl ?_
  exact ed tt [] [0] [.t rfl] rfl trivial
end Orr

namespace Orr
open Go Go.Proofs Orq
set_option maxRecDepth 10000
theorem Qpv {l:List Pt} {id:Int} (h:has l id=true):Gm l id<l.length:=by
  rcases Nat.lt_or_ge (Gm l id) l.length with h1 | h1
  · exact h1
  · simp [has,List.getElem?_eq_none h1] at h
theorem Q1i {lx ly:List (List LV)} {px py:List Int} {x y:LV} {d id:Int} {l:List Pt} (hx:IsInts lx px) (hy:IsInts ly py) (hd:Xg x y d) (hk:Cs 4294967294 1073741824 (Crv.mk px py d)) (hl:l.length≤1000000) (h:has l id=true) :
    Qc Tryz.prog 102 [.agg [pts l],.agg [.row lx,.row ly,x,y,.int .i64 id]] [.agg [pts (l.set (Gm l id) (Pt.mk (Crv.norm (Crv.mk px py d)) id))],.one (.int .i64 0)]:=by
  have ca:=Qnr (l:=l) id (by omega)
  have cf:=Qnw hx hy hd hk id
  obtain ⟨b,r,rfl,rfl,_⟩:=hd
  obtain ⟨q,hq⟩:∃ q,q=Pt.mk (Crv.norm (Crv.mk px py d)) id:=⟨_,rfl⟩
  rw [←hq] at cf ⊢
  have hpl:=Qpv h
  rw [h] at ca
  have e:pts (l.set (Gm l id) q)=.row ((l.map Xe).set (Gm l id) (Xe q)):=by unfold pts; rw [List.map_set]
  rw [e]
  exact w tt Tryz.func102 rfl [.c [] ca,.f rfl,.s (Re l),.c [] cf,.i (Gm l id)] rfl rfl (by simp [Qa]; omega)
theorem Q1h {l:List Pt} {id:Int} (hl:l.length≤1000000) (h:has l id=true) :
    Qc Tryz.prog 103 [.agg [pts l],.one (.int .i64 id)] [.agg [pts (l.take (Gm l id)++l.drop (Gm l id+1))],.one (.int .i64 0)]:=by
  have ca:=Qnr (l:=l) id (by omega)
  have hpl:=Qpv h
  rw [h] at ca
  have s1:∀ c∈(l.map Xe).take (Gm l id),c.length=5:=fun c hc=>Re l c (List.mem_of_mem_take hc)
  have s3:∀ c∈(l.map Xe).drop (Gm l id+1),c.length=5:=fun c hc=>Re l c (List.mem_of_mem_drop hc)
  have e:pts (l.take (Gm l id)++l.drop (Gm l id+1))=.row ((l.map Xe).take (Gm l id)++(l.map Xe).drop (Gm l id+1)):=by unfold pts; rw [List.map_append,List.map_take,List.map_drop]
  rw [e]
  refine w tt Tryz.func103 rfl [.c [] ca,.f rfl,.i (Gm l id),.s s1,.i (Gm l id+1),.s s3] rfl ?_ ?_
  · simp
  · have h1:(List.map Xe l).length=l.length:=by simp
    have h2:∀ z∈List.map Xe l,z.length=ti35.sz:=Re l
    simp only [Qa,List.length_take,List.length_drop,h1]
    and_intros <;> first | exact h2 | omega
theorem Qum {l:List Pt} {id:Int} (hl:l.length≤1000000) (h:has l id=false) :
    Qc Tryz.prog 103 [.agg [pts l],.one (.int .i64 id)] [.agg [pts l],.one (.int .i64 5)]:=by
  have ca:=Qnr (l:=l) id (by omega)
  rw [h] at ca
  exact w tt Tryz.func103 rfl [.c [] ca,.t rfl] rfl rfl trivial
end Orr

namespace Orr
open Go Go.Proofs Orq
set_option maxRecDepth 10000
theorem Q09 {l:List Nat} (hl:l.length≤1000000000):Qc Tryz.prog 211 [.one (.row (lm l)),.one (.row (lm l))] [.one (.bool true)]:=by
  have hll:(lm l).length=l.length:=by simp [lm]
  refine Z1 Tryz.func211 rfl ?_
  refine go tt [.f (decide_eq_false (fun h=>h rfl))] rfl trivial ?_
  refine lp (S:=Nat) 0 (fun L1 i=>(5,.v (.one (.int .i64 (i:Int))))::L1) (fun _=>[]) (fun i=>l.length-i) (fun i=>i≤l.length) 0 (Nat.zero_le _) rfl (fun _ _=>rfl) rfl fun i hi=>?_
  by_cases h:i<l.length
  · have hx:(lm l)[i]? = some [.int .u32 ((l[i]:Nat):Int)]:=Zm (List.getElem?_eq_getElem h)
    refine go tt [.t (decide_eq_true (by omega)),.x hx,.x hx,.f (decide_eq_false (fun h=>h rfl))] rfl (by simp [Qa]; omega) ?_
    exact rd (i+1) (by omega) h rfl
  · exact en tt [.f (decide_eq_false (by omega))] rfl rfl trivial
theorem Q06 {z:Int} (hz:Qn z≤4294967295):Qc Tryz.prog 152 [.agg (Zq z),.agg (Zq z)] [.one (.bool true)] :=
  w tt Tryz.func152 rfl [.g 10 true (decide_eq_true rfl),.c [] (Q09 (l:=Qw z.natAbs) (by have:=X2 (x:=z.natAbs) (k:=4294967295) hz; omega))] rfl rfl trivial
theorem Q07 {p:List Int} (hp:Bd 4294967295 p) (hl:p.length≤1000000):Qc Tryz.prog 89 [pr p,pr p] [.one (.bool true)]:=by
  have hpl:(p.map Zq).length=p.length:=by simp
  show Qc Tryz.prog 89 [.one (.row (p.map Zq)),.one (.row (p.map Zq))] _
  refine Z1 Tryz.func89 rfl ?_
  refine go tt [.f (decide_eq_false (fun h=>h rfl))] rfl trivial ?_
  refine lp (S:=Nat) 0 (fun L1 i=>(13,.v (.one (.int .i64 (i:Int))))::L1) (fun _=>[]) (fun i=>p.length-i) (fun i=>i≤p.length) 0 (Nat.zero_le _) rfl (fun _ _=>rfl) rfl fun i hi=>?_
  by_cases h:i<p.length
  · have hx:=J8 (Xm h)
    refine go tt [.t (decide_eq_true (by omega)),.x hx,.x hx,.c [] (Q06 (Qq hp i)),.f rfl] rfl (by simp [Qa]; omega) ?_
    exact rd (i+1) (by omega) h rfl
  · exact en tt [.f (decide_eq_false (by omega))] rfl rfl trivial
theorem Qub {l:List Ct} (hl:∀ c∈l,Cp c.p) (hn:l.length≤1000000):Qc Tryz.prog 36 [.one (.row (Z5 l)),.one (.row (Z5 l))] [.one (.bool true)]:=by
  have hcl:=Ui l
  refine Z1 Tryz.func36 rfl ?_
  refine go tt [.f (decide_eq_false (fun h=>h rfl))] rfl trivial ?_
  refine lp (S:=Nat) 0 (fun L1 i=>(13,.v (.one (.int .i64 (i:Int))))::L1) (fun _=>[]) (fun i=>l.length-i) (fun i=>i≤l.length) 0 (Nat.zero_le _) rfl (fun _ _=>rfl) rfl fun i hi=>?_
  by_cases h:i<l.length
  · obtain ⟨c,hc⟩:∃ c,l[i]? = some c:=⟨_,List.getElem?_eq_getElem h⟩
    have hx:=Lk hc
    have hp:=hl c (List.mem_of_getElem? hc)
    refine go tt [.t (decide_eq_true (by omega)),.x hx,.x hx,.g 27 false (by simp),.x hx,.x hx,.g 40 false (by simp),.x hx,.x hx,.c [] (Q07 (Qd hp.b (by decide)) (by have:=hp.l; omega)),.f rfl] rfl (by simp [Qa]; omega) ?_
    exact rd (i+1) (by omega) h rfl
  · exact en tt [.f (decide_eq_false (by omega))] rfl rfl trivial
end Orr

namespace Orr
open Go Go.Proofs Orq
theorem Qy8 {x y:Int} (hx:-9223372036854775808≤x∧x≤9223372036854775807) (hy:-9223372036854775808≤y∧y≤9223372036854775807):Sc (Ue x y):=⟨Crv.nml _,((Qho hx hy).norm (by decide)).mono (by decide) (by decide)⟩
theorem Sc.pt {p:Pt} (h:Sc p.c):Qtb 4294967294 1073741824 p:=⟨h.n,h.c.mono (by decide) (by decide)⟩
end Orr

namespace Orr
open Go Go.Proofs
set_option maxRecDepth 10000
theorem Cs.up {s n s' n':Nat} {k:Crv} (h:Cs s n k) (hs:s≤s') (hn:n≤n'):Cs s' n' k:=⟨Qd h.x hs,Qd h.y hs,Nat.le_trans h.d hs,Nat.le_trans h.lx hn,Nat.le_trans h.ly hn⟩
end Orr

namespace Orr
open Go Go.Proofs Orq
set_option maxRecDepth 10000
end Orr

namespace Orr
open Go Go.Proofs Orq
set_option maxRecDepth 10000
theorem Qrs {l m:List Pt} (h:l.Perm m) (hd:Gs l):Gs m:=(h.pairwise_iff (fun h=>fun e=>h e.symm)).1 hd
end Orr

namespace Orr
open Go Go.Proofs Orq
set_option maxRecDepth 10000
end Orr
