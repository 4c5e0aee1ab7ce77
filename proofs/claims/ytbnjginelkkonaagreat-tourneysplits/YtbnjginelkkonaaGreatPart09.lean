/- R10 RawL NewsL KGoL SortQ BegL R11 R12 R13 R14 R15 R16 R17 R18 R19 KT TouL TouQ TW1 SplitL TW2 SD1 -/
import Derived.Test.YtbnjginelkkonaaGreatPart08
import Derived.Test.YtbnjginelkkonaaGreatPart05
set_option linter.all false

namespace Orr
open Go Go.Proofs
set_option maxRecDepth 10000
abbrev cl4 (k:Crv):List LV:=[pl k.x,pl k.y,sg k.d,mg k.d]
abbrev rcl (c:Crv):List LV:=[rp (Nv c.x c.d),rp (Nv c.y c.d)]++cl4 c
def rpt (p:Pt):List LV:=rcl p.c++[.int .i64 p.id]
def Q0 (l:List Pt):List (List LV):=l.map rpt
structure Rs (k:Crv):Prop where
  n:Nml k
  c:Cs 100000 16 k
theorem Rs.d0 {k:Crv} (h:Rs k):0<k.d:=h.n.2.2.1
theorem Qld {x:List Int} {d:Int} {s:Nat} (hx:Bd s x) (hd:Qm d≤s) (h1:1≤s):Rb s (Nv x d):=fun q hq=>by
  obtain ⟨z,hz,rfl⟩:=List.mem_map.1 hq
  rw [Fd]
  exact Qs.divInt (hx z hz) hd h1
theorem Qao {x:List Int} {d:Int} (tx:Qj x) (hd:d≠0):Vm (Nv x d) (d:Rat)=zp x:=by
  have hd':(d:Rat)≠0:=fun e=>hd (by exact_mod_cast e)
  unfold Vm
  rw [A8 (g:=fun i=>x.getD i 0) _ fun i _=>?_,Gk,O6,K6,tx]
  rw [Qx2]; grind
theorem Qgl {p:List Rat} {c:Int} (hp:Rb 40000000 p) (hc:Qm c≤40000000) (hl:p.length≤1000000):Qc Tryz.prog 278 [.one (rp p),.agg (ri c)] [.one (rp (Vm p (c:Rat)))] :=
  w tt Tryz.func278 rfl [.c [] (Uo (n:=1) (by decide)),.c [] (Vo (n:=c)),.c [] (Hb (p:=p) (c:=(c:Rat)) hp (Um hc (by omega)) hl)] rfl rfl trivial
theorem Q2t (x y:List Int) (d:Int):Xi (Nv x d)++Xi (Nv y d)=Xi (Nv (x++y) d):=by simp [Nv,Xi]
theorem Cu {z:List Int} {d:Int} {i:Nat} (h:i<z.length):(Nv z d)[i]? = some (((z.getD i 0:Int):Rat) / (d:Rat)):=Q2u (getD_some h)
theorem Qa2 (a b:Int) (hb:b≠0) {s:Nat} (h:Qm b≤s):Qm ((Int.gcd a b:Nat):Int)≤s:=by
  refine Nat.le_trans (X3 ?_) h
  simp only [Int.natAbs_natCast]
  exact Nat.le_of_dvd (by omega) (by simpa using Int.natAbs_dvd_natAbs.2 (Int.gcd_dvd_right a b))
theorem Q1k (a b:Int):(a*b) % ((Int.gcd a b:Nat):Int)=0:=Int.emod_eq_zero_of_dvd (Int.dvd_trans (Int.gcd_dvd_left ..) (Int.dvd_mul_right a b))
theorem Qbg {k:Crv} (hs:Rs k):Qc Tryz.prog 247 [.one (rp (Nv k.x k.d)),.one (rp (Nv k.y k.d))] [.agg (rcl k)]:=by
  have hlx:=hs.c.lx
  have hly:=hs.c.ly
  have hds:=hs.c.d
  have hxy:Bd 100000 (k.x++k.y):=fun z hz=>by rcases List.mem_append.1 hz with h | h; exact hs.c.x z h; exact hs.c.y z h
  have hfx:(Xi (Nv k.x k.d)).length=k.x.length:=by rw [Jo,Gk]
  have hfy:(Xi (Nv k.y k.d)).length=k.y.length:=by rw [Jo,Gk]
  have hfl:(Xi (Nv (k.x++k.y) k.d)).length=k.x.length+k.y.length:=by rw [Jo,Gk,List.length_append]
  have hd0:=hs.d0
  refine Z1 Tryz.func247 rfl ?_
  refine go tt [.c [] (Uo (n:=1) (by decide)),.s (sz:=4) (D0 _),.s (sz:=4) (D0 _)] rfl (by simp [Qa,hfx,hfy]; omega) ?_
  rw [Q2t]
  refine lp (S:=Nat) 3 (fun L1 i=>(15,.v (.one (.int .i64 (i:Int))))::L1) (fun i=>[.blk 110 [.nils,.nils,.nils,.nils,.bool false,.nils],.blk 47 (ri (lcd (k.x++k.y) k.d i)),.row false 49 4 (Xi (Nv (k.x++k.y) k.d))]) (fun i=>k.x.length+k.y.length-i) (fun i=>i≤k.x.length+k.y.length) 0 (Nat.zero_le _) rfl (fun _ _=>rfl) rfl fun i hi=>?_
  have hll:(k.x++k.y).length=k.x.length+k.y.length:=List.length_append
  by_cases h:i<k.x.length+k.y.length
  · have hlt:i<(k.x++k.y).length:=by omega
    have hqe:=Qld (x:=(k.x++k.y)) (d:=k.d) (s:=100000) hxy hs.c.d (by decide)
    have hqi:=hqe.get (Cu hlt)
    obtain ⟨D,hD⟩:∃ D,D=((((k.x++k.y).getD i 0:Int):Rat) / (k.d:Rat)):=⟨_,rfl⟩
    have hg:=Fg (Cu (d:=k.d) hlt)
    have es:lcd (k.x++k.y) k.d (i+1)=lcd (k.x++k.y) k.d i*(D.den:Int) / ((Int.gcd (lcd (k.x++k.y) k.d i) (D.den:Int):Nat):Int):=by rw [hD]; rfl
    rw [←hD] at hqi hg
    have hq2:=hqi.2
    have hli:=Nat.le_trans (Q1l (z:=(k.x++k.y)) hs.d0 (i:=i) (by omega)) hs.c.d
    have hg0:((Int.gcd (lcd (k.x++k.y) k.d i) (D.den:Int):Nat):Int)≠0:=by have:=Int.gcd_ne_zero_right (a:=(lcd (k.x++k.y) k.d i)) (Wh D); omega
    have hmu:=Q3 (lcd (k.x++k.y) k.d i) (D.den:Int)
    refine go tt [.t (decide_eq_true (by omega)),.i i,.x hg,.c [] (Yv (a:=lcd (k.x++k.y) k.d i) (b:=(D.den:Int)) (by omega) (by omega)),.i i,.x hg,.c [] (In (a:=lcd (k.x++k.y) k.d i) (b:=(D.den:Int)) (by omega) (by omega)),.c [] (Dn (by omega) (Nat.le_trans (Qa2 _ _ (Wh D) hq2) (by decide)) hg0 (Q1k _ _))] rfl (by simp [Qa,hfl]; omega) ?_
    exact rd (i+1) (by omega) h (by rw [es]; rfl)
  have e:lcd (k.x++k.y) k.d i=k.d:=by rw [show i=(k.x++k.y).length by omega]; exact Q1j hs.d0 hs.n.2.2.2
  rw [e]
  have hx:=Qgl (p:=Nv k.x k.d) (c:=k.d) ((Qld (s:=100000) hs.c.x hs.c.d (by decide)).mono (by omega)) (by omega) (by rw [Gk]; omega)
  have hy:=Qgl (p:=Nv k.y k.d) (c:=k.d) ((Qld (s:=100000) hs.c.y hs.c.d (by decide)).mono (by omega)) (by omega) (by rw [Gk]; omega)
  rw [Qao hs.n.1 (by omega)] at hx
  rw [Qao hs.n.2.1 (by omega)] at hy
  exact en tt [.f (decide_eq_false (by omega)),.c [] hx,.c [] (Q3y (p:=k.x) (Qd hs.c.x (by omega)) (by omega)),.c [] hy,.c [] (Q3y (p:=k.y) (Qd hs.c.y (by omega)) (by omega)),.c [] (Qtg (z:=k.d) (by omega))] rfl rfl trivial
theorem Qe9 (k:Crv):Zs 1 k.d'=((1:Int):Rat) / (k.d':Rat):=by
  unfold Zs; rw [if_neg k.d'_ne,Fd]
theorem Ep {x:List Int} {g d:Int} (hg:g≠0) (hd:d≠0) (hgd:g∣d) (tx:Qj x) (hx:∀ z∈x,g∣z):Vm (zp x) (((1:Int):Rat) / (d:Rat))=Nv (trim (x.map (· / g))) (d / g):=by
  have ht:Qj (x.map (· / g)):=Fv tx hg hx
  rw [show trim (x.map (· / g))=x.map (· / g) from ht]
  obtain ⟨e,rfl⟩:=hgd
  have he:e≠0:=fun h=>hd (by rw [h,Int.mul_zero])
  rw [Int.mul_ediv_cancel_left _ hg]
  have hgq:(g:Rat)≠0:=fun h=>hg (by exact_mod_cast h)
  have heq:(e:Rat)≠0:=fun h=>he (by exact_mod_cast h)
  unfold Vm
  rw [Ym]
  have hval:∀ i,i<x.length→(zp x).getD i 0*(((1:Int):Rat) / ((g*e:Int):Rat))=(((x.map (· / g)).getD i 0:Int):Rat) / (e:Rat):=fun i hi=>by
    rw [Db]
    have hz:=getD_some hi
    have hm:(x.map (· / g)).getD i 0=x.getD i 0 / g:=by simp [List.getD_eq_getElem?_getD,List.getElem?_eq_getElem hi]
    obtain ⟨w,hw⟩:=hx _ (List.mem_of_getElem? hz)
    rw [hm,hw,Int.mul_ediv_cancel_left _ hg,Rat.intCast_mul,Rat.intCast_mul]
    have:((1:Int):Rat)=1:=rfl
    rw [this]
    grind
  have htab:Ti (fun i=>(zp x).getD i 0*(((1:Int):Rat) / ((g*e:Int):Rat))) x.length=Nv (x.map (· / g)) e:=by
    apply List.ext_getElem?
    intro i
    by_cases hi:i<x.length
    · rw [Cu (by simpa using hi)]
      simp only [Ti,List.getElem?_map,List.getElem?_range hi,Option.map_some]
      rw [hval i hi]
    · rw [List.getElem?_eq_none (by rw [Cy]; omega),List.getElem?_eq_none (by rw [Gk]; simp; omega)]
  rw [htab]
  rcases Nat.eq_zero_or_pos x.length with h0 | h0
  · have:=List.eq_nil_of_length_eq_zero h0; subst this; rfl
  · have hl:(Nv (x.map (· / g)) e).length=x.length:=by rw [Gk,List.length_map]
    have:=Lt (l:=Nv (x.map (· / g)) e) (m:=x.length) (by omega) (fun j y hj hy=>by rw [List.getElem?_eq_none (by omega)] at hy; cases hy) (fun _=>⟨_,Cu (z:=x.map (· / g)) (d:=e) (i:=x.length-1) (by rw [List.length_map]; omega),fun h=>by
      have h3:(((x.map (· / g)).getD (x.length-1) 0:Int):Rat)=0:=by grind
      have h4:(x.map (· / g)).getD (x.length-1) 0=0:=by exact_mod_cast h3
      have:=Xd ht (by rw [List.length_map]; omega)
      rw [List.length_map] at this
      exact this h4⟩)
    rw [this,List.take_of_length_le (by omega)]
theorem Qxl {k:Crv} (hk:Cs 100000 16 k):Qs 40000000 (Zs 1 k.d'):=by
  have h1:=Qeg hk.d (by decide)
  rw [Qe9,Fd]
  exact Qs.divInt (by decide) (by omega) (by decide)
theorem Crv.g_dvd' (k:Crv) {z:Int} (h:z∈k.d'::(trim k.x++trim k.y)):k.g∣z:=Int.dvd_of_emod_eq_zero (k.g_dvd z h)
theorem Qxx (k:Crv):Vm (zp (trim k.x)) (Zs 1 k.d')=Nv k.norm.x k.norm.d:=by
  rw [Qe9]
  exact Ep k.g_ne k.d'_ne (k.g_dvd' (by simp)) (Xp _) (fun z hz=>k.g_dvd' (by simp [hz]))
theorem Qxy (k:Crv):Vm (zp (trim k.y)) (Zs 1 k.d')=Nv k.norm.y k.norm.d:=by
  rw [Qe9]
  exact Ep k.g_ne k.d'_ne (k.g_dvd' (by simp)) (Xp _) (fun z hz=>k.g_dvd' (by simp [hz]))
theorem Qo9 {k:Crv} (h:Cs 100000 16 k):Rs k.norm:=⟨k.nml,h.norm (by decide)⟩
theorem Q0m {k:Crv} (hk:Cs 100000 16 k):Qc Tryz.prog 205 [.agg (cl4 k)] [.agg (rcl (Crv.norm k))]:=by
  have hlx:=hk.lx
  have hly:=hk.ly
  have hkd:=hk.d
  have hrq:=Qxl hk
  have hdi:Qm k.d'≤100000:=Qeg hk.d (by decide)
  have hx:=Hb (p:=zp (trim k.x)) (c:=Zs 1 k.d') (Mx (Qd (Jj hk.x) (by omega)) (by omega)) hrq (by rw [Ym]; have:=Xc k.x; omega)
  have hy:=Hb (p:=zp (trim k.y)) (c:=Zs 1 k.d') (Mx (Qd (Jj hk.y) (by omega)) (by omega)) hrq (by rw [Ym]; have:=Xc k.y; omega)
  rw [Qxx] at hx
  rw [Qxy] at hy
  have c1:=Uo (n:=1) (by decide)
  have cm:=N0 (a:=1) (b:=k.d') (by decide) (by omega)
  by_cases h0:k.d=0
  · have e:k.d'=1:=by unfold Crv.d'; rw [if_pos h0]
    rw [e] at hx hy cm
    exact w tt Tryz.func205 rfl [.c [] (Qdj (z:=k.d) (by omega)),.c [] Vv,.t (decide_eq_true h0),.c [] c1,.c [] c1,.c [] cm,.c [] (Pv (p:=k.x) (Qd hk.x (by omega)) (by omega)),.c [] hx,.c [] (Pv (p:=k.y) (Qd hk.y (by omega)) (by omega)),.c [] hy,.c [] (Qbg (Qo9 hk))] rfl rfl trivial
  · have e:k.d'=k.d:=by unfold Crv.d'; rw [if_neg h0]
    rw [e] at hx hy cm
    exact w tt Tryz.func205 rfl [.c [] (Qdj (z:=k.d) (by omega)),.c [] Vv,.f (decide_eq_false h0),.c [] c1,.c [] cm,.c [] (Pv (p:=k.x) (Qd hk.x (by omega)) (by omega)),.c [] hx,.c [] (Pv (p:=k.y) (Qd hk.y (by omega)) (by omega)),.c [] hy,.c [] (Qbg (Qo9 hk))] rfl rfl trivial
theorem Qt5 {k:Crv} {id:Int} (hk:Cs 100000 16 k):Qc Tryz.prog 146 [.agg (cl4 k++[.int .i64 id])] [.agg (rpt ⟨Crv.norm k,id⟩)] :=
  w tt Tryz.func146 rfl [.c [] (Q0m hk)] rfl rfl trivial
theorem Qdw {k:Crv} (hk:Rs k):Qc Tryz.prog 328 [.agg (rcl k)] [.one (rp (zp k.x)),.one (rp (zp k.y)),.one (rp (zp [k.d]))]:=by
  have hlx:=hk.c.lx
  have hly:=hk.c.ly
  have hkd:=hk.c.d
  have hx:=Pv (p:=k.x) (Qd hk.c.x (by omega)) (by omega)
  have hy:=Pv (p:=k.y) (Qd hk.c.y (by omega)) (by omega)
  rw [show trim k.x=k.x from hk.n.1] at hx
  rw [show trim k.y=k.y from hk.n.2.1] at hy
  exact w tt Tryz.func328 rfl [.c [] (Qdj (z:=k.d) (by omega)),.c [] (Uo (n:=1) (by decide)),.c [] (Vo (n:=k.d)),.c [] hx,.c [] hy] rfl rfl trivial
theorem Qkz {p:List Int} {d:Int} (tp:Qj p) (hd:d≠0):Zr p [d]=Qx p d:=by
  refine Sa (Zx _ _) (Q9 _ _) fun m=>?_
  unfold Qx
  rw [Yh]
  unfold Zr
  by_cases h0:p.length=0
  · rw [if_pos (.inl h0),if_neg (by omega)]; rfl
  · rw [if_neg (by simp; exact fun h=>h0 (by rw [h]; rfl)),U9]
    show (Kq p [d] (List.replicate (p.length+1-1) 0) p.length).getD m 0=_
    have key:∀ i,i≤p.length→(Kq p [d] (List.replicate (p.length+1-1) 0) i).getD m 0=if m<i then p.getD m 0*d else 0:=by
      intro i
      induction i with
      | zero=>intro _; simp only [Kq]; rw [Jy,if_neg (by omega)]
      |
       succ i ih =>
       intro hi
       simp only [Kq]
       rw [Li _ _ _ _ _ _ (by rw [Kr,List.length_replicate]; show i+1≤_; omega),ih (by omega)]
       show (if i≤m∧m<i+1 then (if m<i then p.getD m 0*d else 0)+p.getD i 0*[d].getD (m-i) 0 else _)=_
       by_cases e:m=i
       · subst e
         rw [if_pos ⟨Nat.le_refl _,by omega⟩,if_neg (by omega),if_pos (by omega),Nat.sub_self]
         show 0+p.getD m 0*d=_
         omega
       · rw [if_neg (by omega)]
         by_cases h1:m<i
         · rw [if_pos h1,if_pos (by omega)]
         · rw [if_neg h1,if_neg (by omega)]
    rw [key _ (Nat.le_refl _)]
theorem Zbj {s:Nat} {d:Int} (h:Qm d≤s):Bd s [d]:=fun z hz=>by simp at hz; subst hz; exact h
theorem Qdt {p:List Int} {d:Int} (tp:Qj p) (hd:d≠0) (hp:Bd 9000000 p) (hs:Qm d≤9000000) (hl:p.length≤1000):Qc Tryz.prog 283 [.one (rp (zp p)),.one (rp (zp [d]))] [.one (rp (zp (Qx p d)))]:=by
  have h:=Qt0 (p:=p) (q:=[d]) (by omega) (by show 1≤1000000; decide) hp (Zbj hs) (by decide)
  rwa [Qkz tp hd] at h
theorem Rs.dn {k:Crv} (h:Rs k):k.d≠0:=by have:=h.d0; omega
theorem Qmy {p q:List Int} (hp:Bd 19000000 p) (hq:Bd 19000000 q) (hlp:p.length≤1000000) (hlq:q.length≤1000000):Qc Tryz.prog 208 [.one (rp (zp p)),.one (rp (zp q))] [.one (rp (zp (V0 p q)))]:=by
  have h:=Q5k (Mx hp (by decide)) (Mx hq (by decide)) (by rw [Ym]; exact hlp) (by rw [Ym]; exact hlq)
  rwa [Qpa] at h
theorem Iq {a b:Crv} (ha:Rs a) (hb:Rs b):Qc Tryz.prog 323 [.agg (rcl a),.agg (rcl b)] [.one (rp (zp (X8 a b)))] :=
  w tt Tryz.func323 rfl [.c [] (Qdw ha),.c [] (Qdw hb),.c [] (Qdt (p:=b.x) (d:=a.d) hb.n.1 ha.dn (Qd hb.c.x (by decide)) (Nat.le_trans ha.c.d (by decide)) (by have:=hb.c.lx; omega)),.c [] (Qdt (p:=a.x) (d:=b.d) ha.n.1 hb.dn (Qd ha.c.x (by decide)) (Nat.le_trans hb.c.d (by decide)) (by have:=ha.c.lx; omega)),.c [] (Qmy (p:=Qx b.x a.d) (q:=Qx a.x b.d) (Qd (Zk hb.c.x ha.c.d) (by decide)) (Qd (Zk ha.c.x hb.c.d) (by decide)) (by have:=Q7 b.x a.d; have:=hb.c.lx; omega) (by have:=Q7 a.x b.d; have:=ha.c.lx; omega))] rfl rfl trivial
theorem Tt {a b:Crv} (ha:Rs a) (hb:Rs b):Qc Tryz.prog 324 [.agg (rcl a),.agg (rcl b)] [.one (rp (zp (Xf a b)))] :=
  w tt Tryz.func324 rfl [.c [] (Qdw ha),.c [] (Qdw hb),.c [] (Qdt (p:=b.y) (d:=a.d) hb.n.2.1 ha.dn (Qd hb.c.y (by decide)) (Nat.le_trans ha.c.d (by decide)) (by have:=hb.c.ly; omega)),.c [] (Qdt (p:=a.y) (d:=b.d) ha.n.2.1 hb.dn (Qd ha.c.y (by decide)) (Nat.le_trans hb.c.d (by decide)) (by have:=ha.c.ly; omega)),.c [] (Qmy (p:=Qx b.y a.d) (q:=Qx a.y b.d) (Qd (Zk hb.c.y ha.c.d) (by decide)) (Qd (Zk ha.c.y hb.c.d) (by decide)) (by have:=Q7 b.y a.d; have:=hb.c.ly; omega) (by have:=Q7 a.y b.d; have:=ha.c.ly; omega))] rfl rfl trivial
theorem P8 {a b:Crv} (ha:Rs a) (hb:Rs b):Bd 200001 (X8 a b)∧(X8 a b).length≤16:=by
  refine ⟨Qd (Pq (Zk hb.c.x ha.c.d) (Zk ha.c.x hb.c.d)) (by omega),Nat.le_trans (Hl _ _) ?_⟩
  have:=Q7 b.x a.d; have:=Q7 a.x b.d; have:=ha.c.lx; have:=hb.c.lx; omega
theorem P7 {a b:Crv} (ha:Rs a) (hb:Rs b):Bd 200001 (Xf a b)∧(Xf a b).length≤16:=by
  refine ⟨Qd (Pq (Zk hb.c.y ha.c.d) (Zk ha.c.y hb.c.d)) (by omega),Nat.le_trans (Hl _ _) ?_⟩
  have:=Q7 b.y a.d; have:=Q7 a.y b.d; have:=ha.c.ly; have:=hb.c.ly; omega
end Orr

namespace Orr
open Go
structure RawInt where
  b:Bool
  l:List Nat
structure RawPt where
  x:List RawInt
  y:List RawInt
  d:RawInt
  id:Int
abbrev Lr (z:RawInt):List LV:=[.bool z.b,Q7j z.l]
structure RawInt.Ok (z:RawInt):Prop where
  u:∀ u∈z.l,u<4294967296
structure RawPt.Ok (z:RawPt):Prop where
  x:∀ a∈z.x,a.Ok
  y:∀ a∈z.y,a.Ok
  d:z.d.Ok
  id:-9223372036854775808≤z.id∧z.id≤9223372036854775807
def RawInt.cut (z:RawInt):RawInt:=⟨z.b,z.l.take 1⟩
def Jf (most:Int) (z:RawInt):Int:=match z.l with
  | []=>0
  | u::_=>if z.b=true then -((u:Int) % (most+1)) else (u:Int) % (most+1)
theorem Nc {most:Int} (h:0≤most) (z:RawInt):-most≤Jf most z∧Jf most z≤most:=by
  unfold Jf
  split
  · omega
  · rename_i u _ _
    have h1:=Int.emod_nonneg (u:Int) (b:=most+1) (by omega)
    have h2:=Int.emod_lt_of_pos (u:Int) (b:=most+1) (by omega)
    split <;> omega
def Z0 (most:Int) (l:List RawInt):List Int:=(l.take 3).map (Jf most)
def By (most:Int) (x y:List RawInt) (d:RawInt):Crv:=⟨Z0 most x,Z0 most y,Jf 3 d⟩
def P4 (most:Int) (z:RawPt):Pt:=⟨By most z.x z.y z.d,z.id % 1000⟩
theorem Ei (most:Int) (l:List RawInt):(Z0 most l).length≤3:=by unfold Z0; rw [List.length_map,List.length_take]; omega
theorem Qem {most:Int} {l:List RawInt} {i:Nat} {z:RawInt} (hi:i<3) (h:l[i]? = some z):Z0 most (l.take (i+1))=Z0 most (l.take i)++[Jf most z]:=by
  unfold Z0
  rw [List.take_take,List.take_take,Nat.min_eq_right (by omega),Nat.min_eq_right (by omega),List.take_succ,h]
  simp
theorem Eh (most:Int) {l:List RawInt} {i:Nat} (h:l.length≤i∨3≤i):Z0 most (l.take i)=Z0 most l:=by
  unfold Z0
  rw [List.take_take]
  rcases Nat.le_total 3 i with h3 | h3
  · rw [Nat.min_eq_left h3]
  · rcases h with h | h
    · rw [Nat.min_eq_right h3,List.take_of_length_le (l:=l) (i:=i) (by omega),List.take_of_length_le (l:=l) (i:=3) (by omega)]
    · rw [Nat.min_eq_right h3,show i=3 by omega]
theorem Ej {most:Int} {l:List RawInt} {z:Int} (hm:0≤most) (h:z∈Z0 most l):-most≤z∧z≤most:=by
  obtain ⟨a,_,rfl⟩:=List.mem_map.1 h
  exact Nc hm a
theorem Qbj {most:Int} (hm:0≤most∧most≤999) (x y:List RawInt) (d:RawInt):Cs 10 3 (By most x y d):=by
  have key:∀ z:Int,-999≤z∧z≤999→Qm z≤10:=fun z h=>Jz.2 (by omega)
  refine ⟨fun z hz=>?_,fun z hz=>?_,?_,Ei _ _,Ei _ _⟩
  · have:=Ej hm.1 hz; exact key _ (by omega)
  · have:=Ej hm.1 hz; exact key _ (by omega)
  · have:=Nc (most:=3) (by decide) d
    show Qm (Jf 3 d)≤10
    exact key _ (by omega)
def Yo (n:Nat):List Pt→List Pt→List Pt
  | out,[]=>out
  | out,p::l=>if out.length<n then (if out.any (fun x=>decide (x.id=p.id))=true then Yo n out l else Yo n (out++[p]) l) else out
theorem Ro {n:Nat}:∀ (l out:List Pt) (p:Pt),(Yo n out l).length<n→(Yo n out l).any (fun x=>decide (x.id=p.id))=true→Yo n out (l++[p])=Yo n out l
  |
   [],out,p,h,ha=>by
   simp only [Yo] at h ha
   show Yo n out [p]=out
   simp only [Yo]
   rw [if_pos h,if_pos ha]
  |
   x::l,out,p,h,ha=>by
   show Yo n out (x::(l++[p]))=Yo n out (x::l)
   simp only [Yo] at h ha ⊢
   split
   · rename_i h0
     rw [if_pos h0] at h ha
     split
     · rename_i h1
       rw [if_pos h1] at h ha
       exact Ro l out p h ha
     · rename_i h1
       rw [if_neg h1] at h ha
       exact Ro l _ p h ha
   · rfl
theorem Gt {n:Nat}:∀ (l out:List Pt) (p:Pt),(Yo n out l).length<n→(Yo n out l).any (fun x=>decide (x.id=p.id))=false→Yo n out (l++[p])=Yo n out l++[p]
  |
   [],out,p,h,ha=>by
   simp only [Yo] at h ha
   show Yo n out [p]=out++[p]
   simp only [Yo]
   rw [if_pos h,if_neg (by rw [ha]; simp)]
  |
   x::l,out,p,h,ha=>by
   show Yo n out (x::(l++[p]))=Yo n out (x::l)++[p]
   simp only [Yo] at h ha ⊢
   split
   · rename_i h0
     rw [if_pos h0] at h ha
     split
     · rename_i h1
       rw [if_pos h1] at h ha
       exact Gt l out p h ha
     · rename_i h1
       rw [if_neg h1] at h ha
       exact Gt l _ p h ha
   · rename_i h0
     rw [if_neg h0] at h
     omega
theorem D3 {n:Nat}:∀ (l m out:List Pt),n≤(Yo n out l).length→Yo n out (l++m)=Yo n out l
  |
   [],m,out,h=>by
   simp only [Yo] at h
   show Yo n out m=out
   match m with
   | []=>rfl
   | p::m=>simp only [Yo]; rw [if_neg (by omega)]
  |
   x::l,m,out,h=>by
   show Yo n out (x::(l++m))=Yo n out (x::l)
   simp only [Yo] at h ⊢
   split
   · rename_i h0
     rw [if_pos h0] at h
     split
     · rename_i h1
       rw [if_pos h1] at h
       exact D3 l m out h
     · rename_i h1
       rw [if_neg h1] at h
       exact D3 l m _ h
   · rfl
theorem Se {n:Nat}:∀ (l out:List Pt),out.length≤n→(Yo n out l).length≤n
  | [],out,h=>h
  |
   x::l,out,h=>by
   simp only [Yo]
   split
   · split
     · exact Se l out h
     · exact Se l _ (by rw [List.length_append]; show _+1≤_; omega)
   · exact h
theorem Bn {n:Nat}:∀ (l out:List Pt) {p:Pt},p∈Yo n out l→p∈out∨p∈l
  | [],out,p,h=>.inl h
  |
   x::l,out,p,h=>by
   simp only [Yo] at h
   split at h
   · split at h
     · rcases Bn l out h with h | h
       · exact .inl h
       · exact .inr (List.mem_cons_of_mem _ h)
     · rcases Bn l _ h with h | h
       · rcases List.mem_append.1 h with h | h
         · exact .inl h
         · exact .inr (by rw [List.mem_singleton.1 h]; exact List.mem_cons_self ..)
       · exact .inr (List.mem_cons_of_mem _ h)
   · exact .inl h
def Lo (n:Nat) (most:Int) (zs:List RawPt):List Pt:=Yo n [] (zs.map (P4 most))
def Pt.nrm (p:Pt):Pt:=⟨p.c.norm,p.id⟩
end Orr

namespace Orr
def Wu (l:List Pt):Prop:=l.Pairwise fun a b=>a.id<b.id
theorem Q1b (id:Int):has [] id=false:=rfl
theorem Qhe (p:Pt) (l:List Pt) (id:Int):has (p::l) id=if p.id<id then has l id else decide (p.id=id):=by
  by_cases h:p.id<id
  · rw [if_pos h]; unfold has; simp only [pos]; rw [if_pos h]; simp
  · rw [if_neg h]; unfold has; simp only [pos]; rw [if_neg h]; simp
theorem Qxd (p:Pt) (l:List Pt) (q:Pt):put (p::l) q=if p.id<q.id then p::put l q else q::p::l:=by
  unfold put
  simp only [pos]
  split <;> simp
theorem Qec:∀ {l:List Pt} {id:Int},Wu l→(has l id=true↔∃ p∈l,p.id=id)
  | [],id,_=>by simp [Q1b]
  |
   p::l,id,h=>by
   have h1:=List.pairwise_cons.1 h
   rw [Qhe]
   split
   · rename_i hlt
     rw [Qec h1.2]
     constructor
     · rintro ⟨x,hx,e⟩; exact ⟨x,List.mem_cons_of_mem _ hx,e⟩
     · rintro ⟨x,hx,e⟩
       rcases List.mem_cons.1 hx with rfl | hx
       · omega
       · exact ⟨x,hx,e⟩
   · rename_i hge
     rw [decide_eq_true_iff]
     constructor
     · intro e; exact ⟨p,List.mem_cons_self ..,e⟩
     · rintro ⟨x,hx,e⟩
       rcases List.mem_cons.1 hx with rfl | hx
       · exact e
       · have:=h1.1 x hx; omega
theorem Qak:∀ {l:List Pt} {q:Pt},Wu l→has l q.id=false→Wu (put l q)
  | [],q,_,_=>by simp [put,pos,Wu]
  |
   p::l,q,h,hn=>by
   have h1:=List.pairwise_cons.1 h
   rw [Qhe] at hn
   rw [Qxd]
   split
   · rename_i hlt
     rw [if_pos hlt] at hn
     refine List.pairwise_cons.2 ⟨fun x hx=>?_,Qak h1.2 hn⟩
     rcases Qo2 hx with rfl | hx
     · exact hlt
     · exact h1.1 x hx
   · rename_i hge
     rw [if_neg hge,decide_eq_false_iff_not] at hn
     refine List.pairwise_cons.2 ⟨fun x hx=>?_,h⟩
     rcases List.mem_cons.1 hx with rfl | hx
     · omega
     · have:=h1.1 x hx; omega
theorem Qoe {l:List Pt} {q p:Pt} (h:p=q∨p∈l):p∈put l q:=by
  unfold put
  rcases h with rfl | h
  · simp
  · rw [←List.take_append_drop (pos l q.id) l] at h
    simp only [List.mem_append,List.mem_cons] at h ⊢
    rcases h with h | h
    · exact .inl h
    · exact .inr (.inr h)
theorem Qxc {l:List Pt} {q:Pt} (h:l.length<6):S7 l q=if has l q.id=true then 6 else 0:=by
  unfold S7
  split
  · rfl
  · rw [if_neg (by omega)]
theorem Qcl:∀ (qs acc:List Pt),Wu acc→acc.length+qs.length≤6 →
    ((J0 acc qs).2=0∧Wu (J0 acc qs).1∧(J0 acc qs).1.length=acc.length+qs.length∧qs.Pairwise (fun a b=>a.id≠b.id)∧∀ q∈qs,∀ p∈acc,p.id≠q.id) ∨
    ((J0 acc qs).2=6∧¬(qs.Pairwise (fun a b=>a.id≠b.id)∧∀ q∈qs,∀ p∈acc,p.id≠q.id))
  | [],acc,hs,_=>.inl ⟨rfl,hs,rfl,List.Pairwise.nil,fun _ h=>absurd h (by simp)⟩
  |
   q::qs,acc,hs,hl=>by
   simp only [List.length_cons] at hl
   have he:=Qxc (l:=acc) (q:=q) (by omega)
   simp only [J0]
   cases hh:has acc q.id with
   |
    true =>
    rw [hh,if_pos rfl] at he
    rw [he,if_neg (by decide)]
    obtain ⟨p,hp,e⟩:=(Qec hs).1 hh
    exact .inr ⟨rfl,fun h=>h.2 q (List.mem_cons_self ..) p hp e⟩
   |
    false =>
    rw [hh,if_neg (by decide)] at he
    rw [he,if_pos rfl]
    have hno:∀ p∈acc,p.id≠q.id:=fun p hp e=>by
      have:=(Qec hs).2 ⟨p,hp,e⟩
      rw [hh] at this; cases this
    have hpl:=Qo1 acc q
    rcases Qcl qs (put acc q) (Qak hs hh) (by omega) with ⟨h1,h2,h3,h4,h5⟩ | ⟨h1,h2⟩
    · refine .inl ⟨h1,h2,by simp only [List.length_cons]; omega,List.pairwise_cons.2 ⟨fun x hx=>h5 x hx q (Qoe (.inl rfl)),h4⟩,fun x hx p hp=>?_⟩
      rcases List.mem_cons.1 hx with rfl | hx
      · exact hno p hp
      · exact h5 x hx p (Qoe (.inr hp))
    · refine .inr ⟨h1,fun h=>h2 ⟨(List.pairwise_cons.1 h.1).2,fun x hx p hp=>?_⟩⟩
      rcases Qo2 hp with rfl | hp
      · exact (List.pairwise_cons.1 h.1).1 x hx
      · exact h.2 x (List.mem_cons_of_mem _ hx) p hp
theorem Qra {qs:List Pt} (hl:qs.length≤6) :
    ((J0 [] qs).2=0∧Wu (J0 [] qs).1∧(J0 [] qs).1.length=qs.length∧qs.Pairwise (fun a b=>a.id≠b.id))∨((J0 [] qs).2=6∧¬qs.Pairwise (fun a b=>a.id≠b.id)):=by
  rcases Qcl qs [] List.Pairwise.nil (by simpa using hl) with ⟨h1,h2,h3,h4,_⟩ | ⟨h1,h2⟩
  · exact .inl ⟨h1,h2,by simpa using h3,h4⟩
  · exact .inr ⟨h1,fun h=>h2 ⟨h,fun _ _ _ hp=>absurd hp (by simp)⟩⟩
end Orr

namespace Orq
open Orr Go
theorem Q82 {a b c:Tm} (hb:Cut (Qt b)) (hc:Cut (Qt c)) (h:Yt a b) (h':Yt b c):Yt a c:=by
  obtain ⟨q,q1,q2⟩:=h
  obtain ⟨r,r1,r2⟩:=h'
  exact ⟨q,q1,hc.mono' (hb.lt q2 r1) (by omega)⟩
theorem Lc {a b:Tm} (ha:Cut (Qt a)) (hb:Cut (Qt b)) (h:¬Yt b a):Leq a (Qt b):=fun q hq=>by
  rcases ha.val q with e | e | e
  · exact absurd ⟨q,hq,e⟩ h
  · obtain ⟨r,r1,r2⟩:=hb.dn q hq
    exact absurd ⟨r,r2,ha.mono' r1 (by omega)⟩ h
  · exact e
theorem Qn5 {a b c:Tm} (_:Cut (Qt a)) (hb:Cut (Qt b)) (hc:Cut (Qt c)) (h:Yt a b) (h':¬Yt c b):Yt a c:=by
  obtain ⟨q,q1,q2⟩:=h
  refine ⟨q,q1,?_⟩
  have hl:=Lc hb hc h'
  rcases hc.val q with e | e | e
  · exact e
  · obtain ⟨r,r1,r2⟩:=hb.up q q2
    have h1:=hc.mono q r r1 (by omega)
    have:=hl r h1
    omega
  · have:=hl q e; omega
theorem Qeo {a b:Tm} (ha:Cut (Qt a)) (hb:Cut (Qt b)) (h:Yt a b):¬Yt b a:=fun h'=>Nd ha hb h h'
theorem Hq {p:List Int} {a b:Tm} {o:Option Tm} (ha:Cut (Qt a)) (hb:Cut (Qt b)) (hab:¬Yt b a) (h:Ya p a o) (ho:∀ t,o=some t→Yt b t):Ya p b o:=by
  have hl:=Lc ha hb hab
  cases o with
  |
   none =>
   rcases h with h | ⟨s,s0,h⟩
   · exact .inl h
   · exact .inr ⟨s,s0,fun c hc hbc=>h c hc fun q hq=>hl q (hbc q hq)⟩
  |
   some t =>
   obtain ⟨h1,h2,_,s,s0,h4,h5⟩:=h
   exact ⟨h1,h2,ho t rfl,s,s0,fun c hc hbc hm=>h4 c hc (fun q hq=>hl q (hbc q hq)) hm,h5⟩
theorem Qb7 {p:List Int} {a b:Tm} {o:Option Tm} (hp:Dp p) (ha:Va a) (hb:Va b) (hab:¬Yt b a) (h:Ya p a o) (ho:∀ t,o=some t→Yt b t):Hj (Jt b) p=Hj (Jt a) p:=by
  by_cases h0:p.length=0
  · obtain rfl:=List.eq_nil_of_length_eq_zero h0; rfl
  obtain ⟨ra,_⟩:=Bp ha hp h0
  obtain ⟨rb,_⟩:=Bp hb hp h0
  have hl:=Lc ha.cut hb.cut hab
  cases o with
  |
   none =>
   rcases h with h | ⟨s,s0,h⟩
   · exact absurd (by rw [h]; rfl) h0
   · exact (Co rb (h _ hb.cut hl)).trans (Co ra (h _ ha.cut fun _ h=>h)).symm
  |
   some t =>
   obtain ⟨h1,h2,h3,s,s0,h4,h5⟩:=h
   exact (Co rb (h4 _ hb.cut hl (ho t rfl))).trans (Co ra (h4 _ ha.cut (fun _ h=>h) h3)).symm
theorem H4 (t q:Rat):Qt (tq t) q=Zo t q:=Ga (t:=tq t) rfl q
theorem Iw {a:Tm} {t:Rat} (ha:Cut (Qt a)):0<Qt a t↔Yt (tq t) a:=by
  constructor
  · intro h
    have h1:Qt a t=1:=by rcases ha.val t with e | e | e <;> omega
    obtain ⟨r,r1,r2⟩:=ha.up t h1
    exact ⟨r,by rw [H4]; rcases Jx t r with ⟨e,e'⟩ | ⟨e,e'⟩ | ⟨e,e'⟩ <;> first | exact e | (exfalso; grind),r2⟩
  · rintro ⟨q,q1,q2⟩
    rw [H4] at q1
    have:t<q:=by rcases Jx t q with ⟨e,e'⟩ | ⟨e,e'⟩ | ⟨e,e'⟩ <;> first | exact e' | omega
    have:=ha.mono' this (by omega)
    omega
open Classical in
noncomputable def mu (T:List Tm) (a:Tm):Nat:=(T.filter fun t=>decide (Yt a t)).length
theorem Qbv {α:Type} {p q:α→Bool} (h:∀ x,p x=true→q x=true):∀ l:List α,(l.filter p).length≤(l.filter q).length
  | []=>Nat.le_refl _
  |
   x::l=>by
   have ih:=Qbv h l
   by_cases hp:p x=true
   · rw [List.filter_cons_of_pos hp,List.filter_cons_of_pos (h x hp)]; simp; exact ih
   · rw [List.filter_cons_of_neg hp]
     by_cases hq:q x=true
     · rw [List.filter_cons_of_pos hq]; simp; omega
     · rw [List.filter_cons_of_neg hq]; exact ih
theorem Qbw {α:Type} {p q:α→Bool} (h:∀ x,p x=true→q x=true) {y:α} (hp:p y=false) (hq:q y=true):∀ {l:List α},y∈l→(l.filter p).length<(l.filter q).length
  | [],hy=>by cases hy
  |
   x::l,hy=>by
   rcases List.mem_cons.1 hy with rfl | hy
   · rw [List.filter_cons_of_neg (by simp [hp]),List.filter_cons_of_pos hq]
     have:=Qbv h l
     simp; omega
   · have ih:=Qbw h hp hq hy
     by_cases hp:p x=true
     · rw [List.filter_cons_of_pos hp,List.filter_cons_of_pos (h x hp)]; simp; exact ih
     · rw [List.filter_cons_of_neg hp]
       by_cases hq:q x=true
       · rw [List.filter_cons_of_pos hq]; simp; omega
       · rw [List.filter_cons_of_neg hq]; exact ih
open Classical in
theorem Q4g {T:List Tm} {a b:Tm} (ha:Cut (Qt a)) (hb:Cut (Qt b)) (hT:∀ t∈T,Cut (Qt t)) (h:Yt a b) (hm:b∈T):mu T b<mu T a:=by
  have key:∀ l:List Tm,(∀ t∈l,Cut (Qt t))→l.filter (fun t=>decide (Yt b t))=l.filter (fun t=>decide (Cut (Qt t)∧Yt b t)):=fun l hl=>List.filter_congr fun x hx=>by simp [hl x hx]
  have key2:∀ l:List Tm,(∀ t∈l,Cut (Qt t))→l.filter (fun t=>decide (Yt a t))=l.filter (fun t=>decide (Cut (Qt t)∧Yt a t)):=fun l hl=>List.filter_congr fun x hx=>by simp [hl x hx]
  unfold mu
  rw [key T hT,key2 T hT]
  refine Qbw (fun x hx=>?_) (y:=b) ?_ ?_ hm
  · have hx:=of_decide_eq_true hx
    exact decide_eq_true ⟨hx.1,Q82 hb hx.1 h hx.2⟩
  · exact decide_eq_false fun hx=>Nd hb hb hx.2 hx.2
  · exact decide_eq_true ⟨hb,h⟩
def tms (p:List Int):List Tm:=(Nq p).getD []
structure KInv (c:Cr):Prop where
  ok:CrOk c
  k:∀ w∈c.l,w.known=true→Ya w.c.p c.now w.fails∧∀ t,w.fails=some t→t∈tms w.c.p
theorem O8 {p:List Int} (h:Cp p) {a:Tm} (ha:Va a):∃ r,El p a=some r∧Ya p a r∧∀ t,r=some t→t∈tms p:=by
  obtain ⟨l,l1,_,_,l3⟩:=Pk h
  obtain ⟨r,r1,r2,r3⟩:=l3 a ha
  refine ⟨r,?_,r2,fun t ht=>by unfold tms; rw [l1]; exact r3 t ht⟩
  unfold El; rw [l1]; exact r1
theorem Q7i {p:List Int} (h:Cp p):∀ t∈tms p,Va t:=by
  obtain ⟨l,l1,_,l2,_⟩:=Pk h
  unfold tms; rw [l1]; exact l2
theorem Qn9 {now:Tm} (hn:Va now):∀ {l:List Wt},(∀ w∈l,WtOk w)→(∀ w∈l,w.known=true→Ya w.c.p now w.fails∧∀ t,w.fails=some t→t∈tms w.c.p) →
    ∃ ws,Sr now l=some ws∧ws.map (·.c)=l.map (·.c)∧∀ w∈ws,w.known=true∧Ya w.c.p now w.fails∧∀ t,w.fails=some t→t∈tms w.c.p
  | [],_,_=>⟨[],rfl,rfl,fun w hw=>by cases hw⟩
  |
   w::l,h,h'=>by
   obtain ⟨ws,w1,w2,w3⟩:=Qn9 hn (fun v hv=>h v (List.mem_cons_of_mem _ hv)) (fun v hv=>h' v (List.mem_cons_of_mem _ hv))
   by_cases hk:w.known=true
   · refine ⟨w::ws,by simp only [Sr,hk,if_true,w1]; rfl,by simp [w2],fun v hv=>?_⟩
     rcases List.mem_cons.1 hv with rfl | hv
     · exact ⟨hk,h' v (by simp) hk⟩
     · exact w3 v hv
   · obtain ⟨r,r1,r2,r3⟩:=O8 (h w (by simp)).p hn
     refine ⟨⟨w.c,true,r⟩::ws,by simp only [Sr]; rw [if_neg hk,r1,w1]; rfl,by simp [w2],fun v hv=>?_⟩
     rcases List.mem_cons.1 hv with rfl | hv
     · exact ⟨rfl,r2,r3⟩
     · exact w3 v hv
theorem Qn1 {at_:Tm} (ha:Va at_) {x:Ct}:∀ {l:List Wt},(∀ w∈l,WtOk w)→∃ w,Fi l x at_=some w∧w.c=x
  | [],_=>⟨fresh x,rfl,rfl⟩
  |
   v::l,h=>by
   obtain ⟨w,w1,w2⟩:=Qn1 ha (x:=x) fun v hv=>h v (List.mem_cons_of_mem _ hv)
   simp only [Fi]
   split
   · cases hf:v.fails with
     | none=>exact ⟨_,rfl,rfl⟩
     |
      some t =>
      obtain ⟨c,c1,_⟩:=Ak ((h v (by simp)).f t hf) ha
      dsimp only
      rw [c1]
      show ∃ w,(if 0<c then some ⟨x,true,some t⟩ else Fi l x at_)=some w∧w.c=x
      split
      · exact ⟨_,rfl,rfl⟩
      · exact ⟨w,w1,w2⟩
   · exact ⟨w,w1,w2⟩
theorem Qv2 {at_:Tm} (ha:Va at_) {ol:List Wt} (ho:∀ w∈ol,WtOk w):∀ l:List Ct,∃ ws,Bv ol at_ l=some ws∧ws.map (·.c)=l
  | []=>⟨[],rfl,rfl⟩
  |
   x::l=>by
   obtain ⟨w,w1,w2⟩:=Qn1 ha (x:=x) ho
   obtain ⟨ws,s1,s2⟩:=Qv2 ha ho l
   exact ⟨w::ws,by simp only [Bv,w1,s1]; rfl,by simp [w2,s2]⟩
theorem Qq1 {out:List Ct} {c x:Ct}:x∈Na out c↔x=c∨x∈out:=by
  have h:x∈out↔x∈out.take (Sy out c out.length)∨x∈out.drop (Sy out c out.length):=by
    rw [←List.mem_append,List.take_append_drop]
  simp only [Na,List.mem_append,List.mem_cons,h]
  constructor
  · rintro (h | h | h)
    · exact .inr (.inl h)
    · exact .inl h
    · exact .inr (.inr h)
  · rintro (h | h | h)
    · exact .inr (.inl h)
    · exact .inl h
    · exact .inr (.inr h)
theorem Qbz:∀ (l acc:List Ct) {y:Ct},y∈l.foldl Na acc↔y∈l∨y∈acc
  | [],acc,y=>by simp
  |
   c::l,acc,y=>by
   simp only [List.foldl_cons]
   rw [Qbz l,Qq1,List.mem_cons]
   constructor
   · rintro (h | h | h)
     · exact .inl (.inr h)
     · exact .inl (.inl h)
     · exact .inr h
   · rintro ((h | h) | h)
     · exact .inr (.inl h)
     · exact .inl h
     · exact .inr (.inr h)
theorem Qc5 {l:List Ct} {x:Ct}:x∈Z4 l↔x∈l:=by unfold Z4; rw [Qbz]; simp
theorem Q6m {ws:List Wt} (hw:∀ w∈ws,WtOk w):∃ o,Qh1 ws=some o∧match o with
    | none=>∀ w∈ws,w.fails=none
    | some a=>Va a∧(∃ w∈ws,w.fails=some a)∧∀ w∈ws,∀ t,w.fails=some t→¬Yt t a:=by
  have hv:∀ t∈ws.filterMap (·.fails),Va t:=fun t ht=>by
    obtain ⟨w,w1,w2⟩:=List.mem_filterMap.1 ht
    exact (hw w w1).f t w2
  unfold Qh1
  cases hf:ws.filterMap (·.fails) with
  |
   nil =>
   refine ⟨none,rfl,fun w h=>?_⟩
   cases e:w.fails with
   | none=>rfl
   |
    some t =>
    have:t∈ws.filterMap (·.fails):=List.mem_filterMap.2 ⟨w,h,e⟩
    rw [hf] at this; cases this
  |
   cons b l =>
   rw [hf] at hv
   obtain ⟨m,m1,m2,m3⟩:=La l b hv
   refine ⟨some m,by show (Rq b l).map some=_; rw [m1]; rfl,hv m m2,?_,fun w h t e=>?_⟩
   · rw [←hf] at m2
     exact List.mem_filterMap.1 m2
   · exact m3 t (by rw [←hf]; exact List.mem_filterMap.2 ⟨w,h,e⟩)
theorem Q5m {t a:Tm} (ht:Va t) (ha:Va a) {c:Int} (h:Iv t a=some c) (h0:0<c):Yt a t:=by
  obtain ⟨c',c1,c2⟩:=Ak ht ha
  rw [h] at c1; injection c1 with c1; subst c1
  rcases c2 with ⟨e,_⟩ | ⟨e,_⟩ | ⟨_,e⟩
  · omega
  · omega
  · exact e
theorem Q1i {ol ws:List Wt} {now a:Tm} {l:List Ct} (hn:Va now) (ha:Va a) (hna:¬Yt a now) (ho:∀ w∈ol,WtOk w) (hk:∀ w∈ol,w.known=true→Ya w.c.p now w.fails∧∀ t,w.fails=some t→t∈tms w.c.p) (h:Bv ol a l=some ws) :
    ∀ w∈ws,w.known=true→Ya w.c.p a w.fails∧∀ t,w.fails=some t→t∈tms w.c.p:=by
  obtain ⟨h1,h2⟩:=Bw h
  intro w hw hkn
  obtain ⟨i,hi⟩:=List.getElem?_of_mem hw
  have hil:i<l.length:=by rw [←h1]; exact (List.getElem?_eq_some_iff.1 hi).1
  obtain ⟨v,h3,h4⟩:=h2 i _ (List.getElem?_eq_getElem hil)
  rw [hi] at h4; injection h4 with h4; subst h4
  rcases O3 h3 with e | ⟨v,v1,v2,v3,e,v5⟩
  · rw [e] at hkn; cases hkn
  · obtain ⟨k1,k2⟩:=hk v v1 v2
    rw [e]
    show Ya (l[i]).p a v.fails∧∀ t,v.fails=some t→t∈tms (l[i]).p
    rw [←v3]
    refine ⟨Hq hn.cut ha.cut hna k1 fun t ht=>?_,k2⟩
    obtain ⟨c,c1,c2⟩:=v5 t ht
    exact Q5m ((ho v v1).f t ht) ha c1 c2
structure Stab {β:Type} (Bc:Tm→List Ct) (Br:Tm→β):Prop where
  ok:BuildOk Bc
  fin:∃ Ps:List (List Int),(∀ p∈Ps,Cp p)∧∀ a,Va a→∀ x∈Bc a,x.p∈Ps
  st:∀ a b,Va a→Va b→(∀ x∈Bc a,Hj (Jt b) x.p=Hj (Jt a) x.p)→Bc b=Bc a∧Br b=Br a
structure KSt {β:Type} (Bc:Tm→List Ct) (Br:Tm→β) (c:Cr) (r1:β):Prop where
  inv:KInv c
  cs:c.l.map (·.c)=Z4 (Bc c.now)
  r:r1=Br c.now
inductive Evs (Bc:Tm→List Ct) (t:Rat):Tm→List Tm→Prop
  | nil {a:Tm} (h:∀ x∈Bc a,∃ o,Ya x.p a o∧∀ u,o=some u→Yt (tq t) u):Evs Bc t a []
  | cons {a e:Tm} {E:List Tm} (he:Va e) (h1:Yt a e) (h2:¬Yt (tq t) e) (h3:∀ x∈Bc a,∃ o,Ya x.p a o∧∀ u,o=some u→¬Yt u e) (h4:∃ x∈Bc a,Ya x.p a (some e)) (h5:Evs Bc t e E):Evs Bc t a (e::E)
theorem Q8t {β:Type} {Bc:Tm→List Ct} {Br:Tm→β} (S:Stab Bc Br) {t:Rat} (ht:Qs 900 t) {Ps:List (List Int)} (hP:∀ p∈Ps,Cp p) (hPs:∀ a,Va a→∀ x∈Bc a,x.p∈Ps) :
    ∀ (m:Nat) (c:Cr) (r1:β) (n:Int),mu (Ps.flatMap tms) c.now≤m→KSt Bc Br c r1→¬Yt (tq t) c.now →
    ∃ c' r' E,goF Bc Br t (m+1) c r1 n=some (c',r',n+(E.length:Nat))∧c'.now=tq t∧KSt Bc Br c' r'∧c'.ev=c.ev+(E.length:Nat)∧E.length≤m∧Evs Bc t c.now E:=by
  have hT:∀ t∈Ps.flatMap tms,Cut (Qt t):=fun u hu=>by
    obtain ⟨p,p1,p2⟩:=List.mem_flatMap.1 hu
    exact (Q7i (hP p p1) u p2).cut
  have hq:=Qy1 ht
  intro m
  induction m with
  | zero=>?_
  | succ m ih=>?_
  all_goals
    intro c r1 n hm hS hnow
    obtain ⟨⟨ok,kk⟩,hcs,hr⟩:=hS
    obtain ⟨ws,w1,w2,w3⟩:=Qn9 ok.n ok.l kk
    have ok':=As ok w1
    rw [hcs] at w2
    have hc_w:∀ x∈Bc c.now,∃ w∈ws,w.c=x:=fun x hx=>by
      have:x∈ws.map (·.c):=by rw [w2]; exact Qc5.2 hx
      exact List.mem_map.1 this
    have hw_c:∀ w∈ws,w.c∈Bc c.now:=fun w hw=>Qc5.1 (by rw [←w2]; exact List.mem_map_of_mem hw)
    obtain ⟨o,o1,o2⟩:=Q6m ok'.l
    -- the end
    have fin:(∀ w∈ws,∀ u,w.fails=some u→Yt (tq t) u)→KSt Bc Br ⟨tq t,ws,c.ev⟩ r1∧Evs Bc t c.now []:=fun hall=>by
      have hg:∀ x∈Bc c.now,Hj (Jt (tq t)) x.p=Hj (Jt c.now) x.p:=fun x hx=>by
        obtain ⟨w,hw,rfl⟩:=hc_w x hx
        exact Qb7 (S.ok.p _ ok.n _ hx).dp ok.n hq hnow (w3 w hw).2.1 (hall w hw)
      obtain ⟨s1,s2⟩:=S.st _ _ ok.n hq hg
      refine ⟨⟨⟨⟨hq,ok'.l,ok'.k⟩,fun w hw _=>⟨Hq ok.n.cut hq.cut hnow (w3 w hw).2.1 (hall w hw),(w3 w hw).2.2⟩⟩,?_,?_⟩,.nil fun x hx=>?_⟩
      · show ws.map (·.c)=Z4 (Bc (tq t)); rw [w2,s1]
      · show r1=Br (tq t); rw [s2,hr]
      · obtain ⟨w,hw,rfl⟩:=hc_w x hx
        exact ⟨_,(w3 w hw).2.1,hall w hw⟩
  · cases o with
    |
     none =>
     obtain ⟨f1,f2⟩:=fin fun w hw u hu=>by rw [o2 w hw] at hu; cases hu
     exact ⟨_,_,[],by simp only [goF]; rw [w1]; simp only [Option.bind_some]; rw [o1]; simp,rfl,f1,by simp,by simp,f2⟩
    |
     some a =>
     obtain ⟨va,⟨w,hw,hwa⟩,hmin⟩:=o2
     by_cases h0:0<Qt a t
     · obtain ⟨f1,f2⟩:=fin fun v hv u hu=>by
         have hu':=(ok'.l v hv).f u hu
         exact Qn5 hq.cut va.cut hu'.cut ((Iw va.cut).1 h0) (hmin v hv u hu)
       exact ⟨_,_,[],by simp only [goF]; rw [w1]; simp only [Option.bind_some]; rw [o1]; simp [h0],rfl,f1,by simp,by simp,f2⟩
     · exfalso
       obtain ⟨k1,k2,k3⟩:=w3 w hw
       rw [hwa] at k2
       have:a∈Ps.flatMap tms:=List.mem_flatMap.2 ⟨_,hPs _ ok.n _ (hw_c w hw),k3 a hwa⟩
       have:=Q4g ok.n.cut va.cut hT k2.2.2.1 this
       omega
  · cases o with
    |
     none =>
     obtain ⟨f1,f2⟩:=fin fun w hw u hu=>by rw [o2 w hw] at hu; cases hu
     exact ⟨_,_,[],by simp only [goF]; rw [w1]; simp only [Option.bind_some]; rw [o1]; simp,rfl,f1,by simp,by simp,f2⟩
    |
     some a =>
     obtain ⟨va,⟨w,hw,hwa⟩,hmin⟩:=o2
     by_cases h0:0<Qt a t
     · obtain ⟨f1,f2⟩:=fin fun v hv u hu=>by
         have hu':=(ok'.l v hv).f u hu
         exact Qn5 hq.cut va.cut hu'.cut ((Iw va.cut).1 h0) (hmin v hv u hu)
       exact ⟨_,_,[],by simp only [goF]; rw [w1]; simp only [Option.bind_some]; rw [o1]; simp [h0],rfl,f1,by simp,by simp,f2⟩
     · obtain ⟨k1,k2,k3⟩:=w3 w hw
       rw [hwa] at k2
       have hna:=Qeo ok.n.cut va.cut k2.2.2.1
       have hmem:a∈Ps.flatMap tms:=List.mem_flatMap.2 ⟨_,hPs _ ok.n _ (hw_c w hw),k3 a hwa⟩
       have hlt:=Q4g ok.n.cut va.cut hT k2.2.2.1 hmem
       obtain ⟨w2',l1,l2⟩:=Qv2 va ok'.l (Z4 (Bc a))
       have hl:=Q1i ok.n va hna ok'.l (fun v hv _=>(w3 v hv).2) l1
       have hS':KSt Bc Br ⟨a,w2',c.ev+1⟩ (Br a):=⟨⟨Orr.lay_ok _ ok' va (S.ok.p a va) (S.ok.n a va) l1,hl⟩,l2,rfl⟩
       obtain ⟨c',r',E,g1,g2,g3,g4,g5,g6⟩:=ih ⟨a,w2',c.ev+1⟩ (Br a) (n+1) (by show mu _ a≤m; omega) hS' (fun h=>h0 ((Iw va.cut).2 h))
       refine ⟨c',r',a::E,?_,g2,g3,by rw [g4]; simp; omega,by simp; omega,.cons va k2.2.2.1 (fun h=>h0 ((Iw va.cut).2 h)) (fun x hx=>?_) ⟨w.c,hw_c w hw,k2⟩ g6⟩
       · conv=>lhs; unfold goF
         rw [w1]; simp only [Option.bind_some]; rw [o1]; simp only [Option.bind_some]; rw [if_neg h0,l1]; simp only [Option.bind_some]
         rw [g1]; simp; omega
       · obtain ⟨v,hv,rfl⟩:=hc_w x hx
         exact ⟨_,(w3 v hv).2.1,hmin v hv⟩
end Orq

namespace Orq
open Orr Go
theorem Qhc {a:Tm} (ha:Va a):∀ (L:List (List Int)),(∀ p∈L,Dp p)→∃ y,Qt a y=-1∧∀ q,Qt a q=-1→q≤y→∀ p∈L,Hj (Jt a) p=Qo (Qh p q)
  |
   [],_=>by
   obtain ⟨y,hy⟩:=ha.cut.hi
   exact ⟨y,hy,fun q _ _ p hp=>by cases hp⟩
  |
   p::L,h=>by
   obtain ⟨y,y1,y2⟩:=Qhc ha L (fun q hq=>h q (List.mem_cons_of_mem _ hq))
   by_cases h0:p.length=0
   · obtain rfl:=List.eq_nil_of_length_eq_zero h0
     refine ⟨y,y1,fun q q1 q2 r hr=>?_⟩
     rcases List.mem_cons.1 hr with rfl | hr
     · rw [Oo]; exact (Za.2 rfl).symm
     · exact y2 q q1 q2 r hr
   · obtain ⟨⟨z,z1,z2⟩,_⟩:=Bp ha (h p (by simp)) h0
     refine ⟨if y≤z then y else z,by split <;> assumption,fun q q1 q2 r hr=>?_⟩
     rcases List.mem_cons.1 hr with rfl | hr
     · rw [←Qg]; exact (z2 q q1 (by grind)).symm
     · exact y2 q q1 (by grind) r hr
section Srt
variable {α:Type} {lt:α→α→Bool} {R:α→α→Prop}
theorem Qcq {out:List α} {x:α}:∀ k,k≤out.length→(∀ j y,Y0 lt out x k≤j→j<k→out[j]? = some y→lt x y=true)∧(0<Y0 lt out x k→∃ y,out[Y0 lt out x k-1]? = some y∧lt x y=false)
  | 0,_=>⟨fun j y _ h=>by omega,fun h=>by simp [Y0] at h⟩
  |
   k+1,hk=>by
   obtain ⟨y,hy⟩:∃ y,out[k]? = some y:=⟨_,List.getElem?_eq_getElem (by omega)⟩
   by_cases h:lt x y=true
   · rw [Ce hy h]
     obtain ⟨h1,h2⟩:=Qcq (out:=out) (x:=x) k (by omega)
     refine ⟨fun j z a1 a2 a3=>?_,h2⟩
     by_cases e:j=k
     · subst e; rw [hy] at a3; injection a3 with a3; subst a3; exact h
     · exact h1 j z a1 (by omega) a3
   · have h:lt x y=false:=by simpa using h
     rw [Sz hy h]
     exact ⟨fun j z a1 a2 _=>by omega,fun _=>⟨y,by simpa using hy,h⟩⟩
theorem Q1f (tr:∀ x y z,R x y→R y z→R x z) {out:List α} {x:α} (ho:out.Pairwise R) (h1:∀ y∈out,lt x y=true→R x y) (h2:∀ y∈out,lt x y=false→R y x):(Wi lt out x).Pairwise R:=by
  obtain ⟨s1,s2⟩:=Qcq (lt:=lt) (out:=out) (x:=x) out.length (Nat.le_refl _)
  have hle:=Qe2 lt out x out.length
  unfold Wi
  obtain ⟨k,hk⟩:∃ k,k=Y0 lt out x out.length:=⟨_,rfl⟩
  rw [←hk] at s1 s2 hle ⊢
  have hd:(out.take k++out.drop k).Pairwise R:=by rw [List.take_append_drop]; exact ho
  obtain ⟨d1,d2,d3⟩:=List.pairwise_append.1 hd
  have hR:∀ y∈out.drop k,R x y:=fun y hy=>by
    obtain ⟨i,hi⟩:=List.getElem?_of_mem hy
    rw [List.getElem?_drop] at hi
    have:k+i<out.length:=(List.getElem?_eq_some_iff.1 hi).1
    exact h1 y (List.mem_of_mem_drop hy) (s1 (k+i) y (by omega) this hi)
  have hL:∀ y∈out.take k,R y x:=fun y hy=>by
    obtain ⟨i,hi⟩:=List.getElem?_of_mem hy
    have hik:i<k:=by have:=(List.getElem?_eq_some_iff.1 hi).1; simp at this; omega
    rw [List.getElem?_take_of_lt hik] at hi
    obtain ⟨z,z1,z2⟩:=s2 (by omega)
    have hz:=h2 z (List.mem_of_getElem? z1) z2
    by_cases e:i=k-1
    · subst e; rw [hi] at z1; injection z1 with z1; subst z1; exact hz
    · have hp:=List.pairwise_iff_getElem.1 ho i (k-1) (by omega) (by omega) (by omega)
      obtain ⟨_,e1⟩:=List.getElem?_eq_some_iff.1 hi
      obtain ⟨_,e2⟩:=List.getElem?_eq_some_iff.1 z1
      rw [e1,e2] at hp
      exact tr _ _ _ hp hz
  refine List.pairwise_append.2 ⟨d1,List.pairwise_cons.2 ⟨hR,d2⟩,fun y hy z hz=>?_⟩
  rcases List.mem_cons.1 hz with rfl | hz
  · exact hL y hy
  · exact d3 y hy z hz
theorem foldG_pw (tr:∀ x y z,R x y→R y z→R x z) {S:α→Prop} (h1:∀ x y,S x→S y→lt x y=true→R x y) {D:α→α→Prop} (h2:∀ x y,S x→S y→D y x→lt x y=false→R y x) :
    ∀ (l acc:List α),acc.Pairwise R→(∀ x∈acc,S x)→(∀ x∈l,S x)→l.Pairwise D→(∀ x∈acc,∀ y∈l,D x y)→(l.foldl (Wi lt) acc).Pairwise R
  | [],acc,ha,_,_,_,_=>ha
  |
   x::l,acc,ha,hs,hl,hd,hx=>by
   rw [List.pairwise_cons] at hd
   refine foldG_pw tr h1 h2 l (Wi lt acc x) ?_ ?_ (fun y hy=>hl y (List.mem_cons_of_mem _ hy)) hd.2 ?_
   · exact Q1f tr ha (fun y hy=>h1 x y (hl x (by simp)) (hs y hy)) (fun y hy=>h2 x y (hl x (by simp)) (hs y hy) (hx y hy x (by simp)))
   · intro y hy
     rcases Ou.1 hy with rfl | hy
     · exact hl _ (by simp)
     · exact hs y hy
   · intro y hy z hz
     rcases Ou.1 hy with rfl | hy
     · exact hd.1 z hz
     · exact hx y hy z (List.mem_cons_of_mem _ hz)
end Srt
def px (p:Pt) (q:Rat):Rat:=Qh p.c.x q / (p.c.d:Rat)
def py (p:Pt) (q:Rat):Rat:=Qh p.c.y q / (p.c.d:Rat)
theorem Qc3 {u v:Rat} {c d:Int} (hc:0<c) (hd:0<d):Qo (v*(c:Rat)-u*(d:Rat))=Qo (v / (d:Rat)-u / (c:Rat)):=by
  have hc':(0:Rat)<(c:Rat):=by exact_mod_cast hc
  have hd':(0:Rat)<(d:Rat):=by exact_mod_cast hd
  have e:v*(c:Rat)-u*(d:Rat)=((c:Rat)*(d:Rat))*(v / (d:Rat)-u / (c:Rat)):=by
    rw [Rat.div_def,Rat.div_def]
    have h1:=Rat.mul_inv_cancel (c:Rat) (by grind)
    have h2:=Rat.mul_inv_cancel (d:Rat) (by grind)
    grind
  rw [e,Rz (Rat.mul_pos hc' hd')]
theorem Qrt {x y:Pt} (hx:Sc x.c) (hy:Sc y.c) (q:Rat):Qo (Qh (X8 x.c y.c) q)=Qo (px y q-px x q):=by
  unfold X8 px; rw [Uc,X6,X6]; exact Qc3 hx.n.2.2.1 hy.n.2.2.1
theorem Qrs {x y:Pt} (hx:Sc x.c) (hy:Sc y.c) (q:Rat):Qo (Qh (Xf x.c y.c) q)=Qo (py y q-py x q):=by
  unfold Xf py; rw [Uc,X6,X6]; exact Qc3 hx.n.2.2.1 hy.n.2.2.1
def Qa0 (l:List Pt):List (List Int):=l.flatMap fun x=>l.flatMap fun y=>[X8 x.c y.c,Xf x.c y.c]
theorem G8 {l:List Pt} {x y:Pt} (hx:x∈l) (hy:y∈l):X8 x.c y.c∈Qa0 l∧Xf x.c y.c∈Qa0 l :=
  ⟨List.mem_flatMap.2 ⟨x,hx,List.mem_flatMap.2 ⟨y,hy,by simp⟩⟩,List.mem_flatMap.2 ⟨x,hx,List.mem_flatMap.2 ⟨y,hy,by simp⟩⟩⟩
theorem Qdh {l:List Pt} (hl:∀ p∈l,Sc p.c):∀ p∈Qa0 l,Cp p:=fun p hp=>by
  obtain ⟨x,hx,hp⟩:=List.mem_flatMap.1 hp
  obtain ⟨y,hy,hp⟩:=List.mem_flatMap.1 hp
  simp at hp
  rcases hp with rfl | rfl
  · exact Tw (hl x hx) (hl y hy)
  · exact Tv (hl x hx) (hl y hy)
theorem Qse (l:List Pt):(Qa0 l).length=l.length*(l.length*2):=by
  have h1:∀ (x:Pt) (m:List Pt),(m.flatMap fun y=>[X8 x.c y.c,Xf x.c y.c]).length=m.length*2:=fun x m=>by
    induction m with
    | nil=>rfl
    | cons y m ih=>rw [List.flatMap_cons,List.length_append,ih,List.length_cons]; simp; omega
  have h2:∀ m:List Pt,(m.flatMap fun x=>l.flatMap fun y=>[X8 x.c y.c,Xf x.c y.c]).length=m.length*(l.length*2):=fun m=>by
    induction m with
    | nil=>simp
    | cons y m ih=>rw [List.flatMap_cons,List.length_append,ih,List.length_cons,h1,Nat.add_mul,Nat.one_mul,Nat.add_comm]
  exact h2 l
end Orq

namespace Orr
open Go
section
variable {α:Type} {lt:α→α→Bool}
theorem Qq2 (out:List α) (c:α):(Wi lt out c).Perm (c::out):=by
  unfold Wi
  exact (List.perm_middle).trans (by rw [List.take_append_drop])
theorem Oh:∀ (l acc:List α),(l.foldl (Wi lt) acc).Perm (l++acc)
  | [],acc=>List.Perm.refl _
  |
   c::l,acc=>by
   simp only [List.foldl_cons]
   exact (Oh l _).trans (((Qq2 acc c).append_left l).trans List.perm_middle)
theorem Qls (l:List α):(Z5 lt l).Perm l:=by
  have:=Oh (lt:=lt) l []
  rwa [List.append_nil] at this
end
def W9 (a b:Pt):Bool:=decide (a.id<b.id)
def Pt.m5 (p:Pt):Pt:=⟨p.c,p.id % 5⟩
def P5 (O:List Pt) (i:Nat):List Pt:=(O.take i).map Pt.m5++O.drop i
theorem Qwg (O:List Pt):P5 O 0=O:=by simp [P5]
theorem At (O:List Pt) (i:Nat):(P5 O i).length=O.length:=by
  unfold P5; rw [List.length_append,List.length_map,List.length_take,List.length_drop]; omega
theorem Qog {O:List Pt} {i:Nat} {p:Pt} (h:O[i]? = some p):(P5 O i).set i p.m5=P5 O (i+1):=by
  have hi:=(List.getElem?_eq_some_iff.1 h).1
  have hl:((O.take i).map Pt.m5).length=i:=by rw [List.length_map,List.length_take]; omega
  unfold P5
  rw [List.set_append,if_neg (by omega),hl,Nat.sub_self,List.take_succ,h,Option.toList_some,List.map_append,List.append_assoc]
  congr 1
  rw [List.drop_eq_getElem_cons hi]
  have:O[i]=p:=by
    have:=(List.getElem?_eq_some_iff.1 h).2
    exact this
  rfl
theorem Q1s {O:List Pt} {i:Nat} {p:Pt} (h:O[i]? = some p):(P5 O i)[i]? = some p:=by
  have hi:=(List.getElem?_eq_some_iff.1 h).1
  have hl:((O.take i).map Pt.m5).length=i:=by rw [List.length_map,List.length_take]; omega
  unfold P5
  rw [List.getElem?_append_right (by omega),hl,Nat.sub_self,List.getElem?_drop]
  exact h
theorem Qof {O:List Pt} {i k:Nat} {p:Pt} (hk:k<i) (h:O[k]? = some p):(P5 O i)[k]? = some p.m5:=by
  have hi:=(List.getElem?_eq_some_iff.1 h).1
  unfold P5
  rw [List.getElem?_append_left (by rw [List.length_map,List.length_take]; omega),List.getElem?_map,List.getElem?_take,if_pos hk,h]; rfl
theorem Qhv {O:List Pt} {e i:Nat} (h:e≤i) (hi:i≤O.length):(P5 O i).take e=(O.take e).map Pt.m5:=by
  unfold P5
  rw [List.take_append_of_le_length (by rw [List.length_map,List.length_take]; omega),←List.map_take,List.take_take,Nat.min_eq_left h]
def Yb (O:List Pt) (e:Nat):List Pt:=(O.take e).map Pt.m5
def Mp (O:List Pt) (e:Nat):List Pt:=(Yb O e).map Pt.nrm
def Gl (l:List Pt):Prop:=l.Pairwise fun a b=>a.id≠b.id
theorem Qqk {O:List Pt} {i:Nat} {p:Pt} (h:O[i]? = some p):Yb O (i+1)=Yb O i++[p.m5]:=by
  unfold Yb; rw [List.take_succ,h,Option.toList_some,List.map_append]; rfl
theorem Qqq {O:List Pt} {i:Nat} {p:Pt} (h:O[i]? = some p) (hd:Gl (Yb O i)) (hn:∀ k x,k<i→O[k]? = some x→x.m5.id≠p.m5.id):Gl (Yb O (i+1)):=by
  rw [Qqk h]
  refine List.pairwise_append.2 ⟨hd,List.pairwise_singleton _ _,fun a ha b hb=>?_⟩
  rw [List.mem_singleton.1 hb]
  obtain ⟨x,hx,rfl⟩:=List.mem_map.1 ha
  obtain ⟨k,hk,rfl⟩:=List.mem_iff_getElem.1 hx
  rw [List.length_take] at hk
  rw [List.getElem_take]
  exact hn k _ (by omega) (List.getElem?_eq_getElem (by omega))
theorem Qbl {O:List Pt} {e:Nat} (h:Gl (Yb O e)):Gl (Mp O e):=List.Pairwise.map Pt.nrm (fun _ _ h=>h) h
theorem Ek (O:List Pt) (e:Nat):(Mp O e).length=(Yb O e).length:=by unfold Mp; rw [List.length_map]
theorem Bh {O:List Pt} {e:Nat} (h:e≤O.length):(Yb O e).length=e:=by unfold Yb; rw [List.length_map,List.length_take]; omega
def Qpr (p:Pt):Prop:=Cs 10 3 p.c
theorem Qcg {n:Nat} {most:Int} (hm:0≤most∧most≤999) {l:List RawPt}:∀ p∈Lo n most l,Qpr p:=fun p hp=>by
  rcases Bn _ _ hp with h | h
  · cases h
  · obtain ⟨z,_,rfl⟩:=List.mem_map.1 h
    exact Qbj hm _ _ _
theorem Qgu {O:List Pt} (h:∀ p∈O,Qpr p) (e:Nat):∀ p∈Yb O e,Qpr p:=fun p hp=>by
  obtain ⟨x,hx,rfl⟩:=List.mem_map.1 hp
  exact h x (List.mem_of_mem_take hx)
theorem Qnf {O:List Pt} (h:∀ p∈O,Qpr p) (e:Nat):∀ p∈Mp O e,Nml p.c∧Cs 10 3 p.c:=fun p hp=>by
  obtain ⟨x,hx,rfl⟩:=List.mem_map.1 hp
  exact ⟨x.c.nml,(Qgu h e x hx).norm (by decide)⟩
theorem Qcd {s n:Nat}:∀ {l:List Pt},(∀ p∈l,Cs s n p.c)→IsPts s n (l.map X5) (l.map Pt.nrm)
  | [],_=>trivial
  | p::l,h=>⟨⟨p.c.x.map Zv,p.c.y.map Zv,_,_,_,_,p.c.d,rfl,Xb _,Xb _,Qf _,h p (List.mem_cons_self ..),rfl⟩,Qcd fun x hx=>h x (List.mem_cons_of_mem _ hx)⟩
theorem Qc6:∀ {l m:List Pt},Wu l→Wu m→(∀ x,x∈l↔x∈m)→l=m
  | [],[],_,_,_=>rfl
  | [],b::m,_,_,h=>absurd ((h b).2 (List.mem_cons_self ..)) (by simp)
  | a::l,[],_,_,h=>absurd ((h a).1 (List.mem_cons_self ..)) (by simp)
  |
   a::l,b::m,h1,h2,h=>by
   have h1':=List.pairwise_cons.1 h1
   have h2':=List.pairwise_cons.1 h2
   have hab:a=b:=by
     rcases List.mem_cons.1 ((h a).1 (List.mem_cons_self ..)) with e | e
     · exact e
     · rcases List.mem_cons.1 ((h b).2 (List.mem_cons_self ..)) with e2 | e2
       · exact e2.symm
       · have:=h2'.1 a e; have:=h1'.1 b e2; omega
   subst hab
   congr 1
   refine Qc6 h1'.2 h2'.2 fun x=>⟨fun hx=>?_,fun hx=>?_⟩
   · rcases List.mem_cons.1 ((h x).1 (List.mem_cons_of_mem _ hx)) with e | e
     · have:=h1'.1 x hx; rw [e] at this; omega
     · exact e
   · rcases List.mem_cons.1 ((h x).2 (List.mem_cons_of_mem _ hx)) with e | e
     · have:=h2'.1 x hx; rw [e] at this; omega
     · exact e
theorem Qfl {l:List Pt} (h:Gl l):Wu (Z5 W9 l) :=
  Orq.foldG_pw (R:=fun a b:Pt=>a.id<b.id) (S:=fun _=>True) (D:=fun a b:Pt=>a.id≠b.id) (fun x y z h1 h2=>Int.lt_trans h1 h2) (fun x y _ _ h=>of_decide_eq_true h) (fun x y _ _ h1 h=>by have:=of_decide_eq_false h; omega) l [] .nil (fun x hx=>by cases hx) (fun _ _=>trivial) h (fun x hx=>by cases hx)
theorem Qxe (l:List Pt) (q:Pt):(put l q).Perm (q::l):=by
  unfold put
  exact List.perm_middle.trans (by rw [List.take_append_drop])
theorem Qcm:∀ (qs acc:List Pt),(J0 acc qs).2=0→(J0 acc qs).1.Perm (qs++acc)
  | [],acc,_=>List.Perm.refl _
  |
   q::qs,acc,h=>by
   simp only [J0] at h ⊢
   split
   · rename_i h0
     rw [if_pos h0] at h
     refine (Qcm qs _ h).trans ?_
     exact ((Qxe acc q).append_left qs).trans List.perm_middle
   · rename_i h0
     rw [if_neg h0] at h
     exact absurd h h0
theorem Qrb {qs:List Pt} (hl:qs.length≤6) (hd:Gl qs):(J0 [] qs).2=0∧(J0 [] qs).1=Z5 W9 qs:=by
  rcases Qra hl with ⟨h1,h2,_,_⟩ | ⟨_,h2⟩
  · refine ⟨h1,Qc6 h2 (Qfl hd) fun x=>?_⟩
    have h3:=Qcm qs [] h1
    rw [List.append_nil] at h3
    rw [h3.mem_iff,Mf]
  · exact absurd hd h2
end Orr

namespace Orr
open Go Go.Proofs
set_option maxRecDepth 10000
theorem Q1e {α:Type} {f:α→List LV} {lt:α→α→Bool} {O:List α} {c:α} {k:Nat} (hp:Y0 lt O c O.length=k):(O.map f).take k++(f c::(O.map f).drop k)=(Wi lt O c).map f:=by
  simp [Wi,hp,List.map_take,List.map_drop]
theorem Qhi {α:Type} {f:α→List LV} {lt:α→α→Bool} {O:List α} {c:α} {k:Nat} (hp:Y0 lt O c O.length=k):(O.map f).take k++([f c]++((O.map f).drop k).take ((O.map f).length-k))=(Wi lt O c).map f:=by
  rw [List.take_of_length_le (l:=(O.map f).drop k) (by simp)]
  exact Q1e hp
theorem Qhj {lt:Pt→Pt→Bool} {O:List Pt} {c:Pt} {k:Nat} (hp:Y0 lt O c O.length=k):(Q0 O).take k++([rpt c]++((Q0 O).drop k).take ((Q0 O).length-k))=Q0 (Wi lt O c):=Qhi hp
theorem J8 (l:List Pt):(Q0 l).length=l.length:=by simp [Q0]
theorem Cn (l:List Pt):∀ c∈Q0 l,c.length=7:=fun c hc=>by obtain ⟨x,_,rfl⟩:=List.mem_map.1 hc; rfl
theorem Gi {l:List Pt} {i:Nat} {c:Pt} (h:l[i]? = some c):(Q0 l)[i]? = some (rpt c):=Zq h
theorem Qm2 {l:List Pt} (hn:l.length≤1000000):Qc Tryz.prog 86 [.one (.row (Q0 l))] [.one (.row (Q0 (Z5 W9 l)))]:=by
  have hcl:=J8 l
  refine Z1 Tryz.func86 rfl ?_
  refine go tt [.o 3 112 7] rfl trivial ?_
  refine lp (S:=Nat) 1 (fun L1 i=>(8,.v (.one (.int .i64 (i:Int))))::(3,.v (.one (.orow 0 7 none)))::L1) (fun i=>[.row false 112 7 (Q0 (Z5 W9 (l.take i)))]) (fun i=>l.length-i) (fun i=>i≤l.length) 0 (Nat.zero_le _) rfl (fun _ _=>rfl) rfl fun i hi=>?_
  by_cases hlt:i<l.length
  · obtain ⟨c,hc⟩:∃ c,l[i]? = some c:=⟨_,List.getElem?_eq_getElem hlt⟩
    have hst:Z5 W9 (l.take (i+1))=Wi W9 (Z5 W9 (l.take i)) c:=Nn hc
    obtain ⟨O,hO⟩:∃ O,O=Z5 W9 (l.take i):=⟨_,rfl⟩
    have hOl:O.length=i:=by rw [hO,Vg,List.length_take]; omega
    have hrl:=J8 O
    rw [←hO] at hst ⊢
    refine go tt [.t (decide_eq_true (by omega))] rfl trivial ?_
    refine lp (S:=Nat) 1 (fun L1 k=>(5,.v (.one (.int .i64 (k:Int))))::L1) (fun _=>[.row false 112 7 (Q0 O)]) id (fun k=>k≤O.length∧Y0 W9 O c k=Y0 W9 O c O.length) (Q0 O).length ⟨by omega,by rw [hrl]⟩ rfl (fun _ _=>rfl) rfl fun k ⟨hk,hp⟩=>?_
    have h7:=Cn O
    have h7z:∀ y∈[rpt c],y.length=7:=fun y hy=>by rw [List.mem_singleton.1 hy]; rfl
    cases k with
    |
     zero =>
     have hp:Y0 W9 O c O.length=0:=by rw [←hp]; rfl
     refine go tt [.g 15 false (by simp),.f rfl,.i 0,.x (Gi hc),.lo,.i 0,.s (sz:=7) (fun y hy=>h7 y (List.mem_of_mem_take hy)),.s (sz:=7) (fun y hy=>(List.mem_append.1 hy).elim (h7z y) fun hy=>h7 y (List.mem_of_mem_take hy))] rfl (by simp [Qa]; omega) ?_
     exact rd (i+1) (by omega) hlt (by rw [hst,←Qhj hp]; rfl)
    |
     succ k =>
     obtain ⟨x,hx⟩:∃ x,O[k]? = some x:=⟨_,List.getElem?_eq_getElem (by omega)⟩
     by_cases hlc:W9 c x=true
     · refine go tt [.g 15 true (by simp),.x (Gi hc),.r 23 (eI (b:=(k:Int)) (by simp)),.i k,.x (Gi hx),.t hlc,.r 30 (eI (b:=(k:Int)) (by simp))] rfl (by simp [Qa]; omega) ?_
       exact rd k (by simp) ⟨by omega,by rw [←hp,Ce hx hlc]⟩ rfl
     · have hlc:W9 c x=false:=by simpa using hlc
       have hp:Y0 W9 O c O.length=k+1:=by rw [←hp,Sz hx hlc]
       refine go tt [.g 15 true (by simp),.x (Gi hc),.r 23 (eI (b:=(k:Int)) (by simp)),.i k,.x (Gi hx),.f hlc,.i (k+1),.x (Gi hc),.lo,.i (k+1),.s (sz:=7) (fun y hy=>h7 y (List.mem_of_mem_drop (List.mem_of_mem_take hy))),.s (sz:=7) (fun y hy=>(List.mem_append.1 hy).elim (h7z y) fun hy=>h7 y (List.mem_of_mem_drop (List.mem_of_mem_take hy)))] rfl (by simp [Qa]; omega) ?_
       exact rd (i+1) (by omega) hlt (by rw [hst,←Qhj hp]; rfl)
  · obtain rfl:i=l.length:=by omega
    rw [List.take_length]
    exact en tt [.f (decide_eq_false (by omega))] rfl rfl trivial
end Orr

namespace Orr
open Go Go.Proofs
set_option maxRecDepth 10000
def rct (c:Ct):List LV:=[.int .i64 c.kind,.int .i64 c.i0,.int .i64 c.i1,.int .i64 c.i2,.int .i64 c.i3,rp (zp c.p),.int .i64 c.want,.row [],.bool false]
def Jm (l:List Ct):List (List LV):=l.map rct
theorem Rx (l:List Ct):(Jm l).length=l.length:=by simp [Jm]
theorem Qik (l:List Ct):∀ c∈Jm l,c.length=9:=fun c hc=>by obtain ⟨x,_,rfl⟩:=List.mem_map.1 hc; rfl
theorem Ma {l:List Ct} {i:Nat} {c:Ct} (h:l[i]? = some c):(Jm l)[i]? = some (rct c):=Zq h
theorem Qhh {lt:Ct→Ct→Bool} {O:List Ct} {c:Ct} {k:Nat} (hp:Y0 lt O c O.length=k):(Jm O).take k++([rct c]++((Jm O).drop k).take ((Jm O).length-k))=Jm (Wi lt O c):=Qhi hp
theorem Q0n {k i0 i1 i2 i3 l j0 j1 j2 j3:Int}:Qc Tryz.prog 312 [.agg [.int .i64 k,.int .i64 i0,.int .i64 i1,.int .i64 i2,.int .i64 i3],.agg [.int .i64 l,.int .i64 j0,.int .i64 j1,.int .i64 j2,.int .i64 j3]] [.one (.bool (Xz [k,i0,i1,i2,i3] [l,j0,j1,j2,j3]))]:=by
  by_cases hk:k=l
  · subst hk
    rw [show Xz [k,i0,i1,i2,i3] [k,j0,j1,j2,j3]=Xz [i0,i1,i2,i3] [j0,j1,j2,j3] from by simp [Xz]]
    refine Z1 Tryz.func312 rfl ?_
    refine go tt [.f (by simp)] rfl trivial ?_
    refine lp (S:=Nat) 2 (fun L1 i=>(5,.v (.one (.int .i64 (i:Int))))::L1) (fun _=>[.blk 159 [.int .i64 k,.int .i64 i0,.int .i64 i1,.int .i64 i2,.int .i64 i3],.blk 159 [.int .i64 k,.int .i64 j0,.int .i64 j1,.int .i64 j2,.int .i64 j3]]) (fun i=>4-i) (fun i=>i≤4∧Xz ([i0,i1,i2,i3].drop i) ([j0,j1,j2,j3].drop i)=Xz [i0,i1,i2,i3] [j0,j1,j2,j3]) 0 ⟨by omega,rfl⟩ rfl (fun _ _=>rfl) rfl fun i ⟨hi,he⟩=>?_
    rw [←he]
    rcases (show i=0∨i=1∨i=2∨i=3∨i=4 by omega) with rfl | rfl | rfl | rfl | rfl
    · by_cases h:i0=j0
      · exact go tt [.t rfl,.i 0,.i 0,.f (by simpa using h)] rfl (by simp [Qa]) (rd 1 (by omega) ⟨by omega,by simp [Xz,h]⟩ rfl)
      · exact en tt [.t rfl,.i 0,.i 0,.t (by simpa using h),.i 0,.i 0] rfl (by simp [Xz,h]) trivial
    · by_cases h:i1=j1
      · exact go tt [.t rfl,.i 1,.i 1,.f (by simpa using h)] rfl (by simp [Qa]) (rd 2 (by omega) ⟨by omega,by simp [Xz,h]⟩ rfl)
      · exact en tt [.t rfl,.i 1,.i 1,.t (by simpa using h),.i 1,.i 1] rfl (by simp [Xz,h]) trivial
    · by_cases h:i2=j2
      · exact go tt [.t rfl,.i 2,.i 2,.f (by simpa using h)] rfl (by simp [Qa]) (rd 3 (by omega) ⟨by omega,by simp [Xz,h]⟩ rfl)
      · exact en tt [.t rfl,.i 2,.i 2,.t (by simpa using h),.i 2,.i 2] rfl (by simp [Xz,h]) trivial
    · by_cases h:i3=j3
      · exact go tt [.t rfl,.i 3,.i 3,.f (by simpa using h)] rfl (by simp [Qa]) (rd 4 (by omega) ⟨by omega,by simp [Xz,h]⟩ rfl)
      · exact en tt [.t rfl,.i 3,.i 3,.t (by simpa using h),.i 3,.i 3] rfl (by simp [Xz,h]) trivial
    · exact en tt [.f rfl] rfl (by simp [Xz]) trivial
  · exact w tt Tryz.func312 rfl [.t (by simpa using hk)] rfl (by simp [Xz,hk]) trivial
theorem Q0q {l:List Ct} (hn:l.length≤1000000):Qc Tryz.prog 289 [.one (.row (Jm l))] [.one (.row (Jm (Z5 Km l)))]:=by
  have hcl:=Rx l
  refine Z1 Tryz.func289 rfl ?_
  refine go tt [.o 3 265 9] rfl trivial ?_
  refine lp (S:=Nat) 1 (fun L1 i=>(8,.v (.one (.int .i64 (i:Int))))::(3,.v (.one (.orow 0 9 none)))::L1) (fun i=>[.row false 265 9 (Jm (Z5 Km (l.take i)))]) (fun i=>l.length-i) (fun i=>i≤l.length) 0 (Nat.zero_le _) rfl (fun _ _=>rfl) rfl fun i hi=>?_
  by_cases hlt:i<l.length
  · obtain ⟨c,hc⟩:∃ c,l[i]? = some c:=⟨_,List.getElem?_eq_getElem hlt⟩
    have hst:Z5 Km (l.take (i+1))=Wi Km (Z5 Km (l.take i)) c:=Nn hc
    obtain ⟨O,hO⟩:∃ O,O=Z5 Km (l.take i):=⟨_,rfl⟩
    have hOl:O.length=i:=by rw [hO,Vg,List.length_take]; omega
    have hrl:=Rx O
    rw [←hO] at hst ⊢
    refine go tt [.t (decide_eq_true (by omega))] rfl trivial ?_
    refine lp (S:=Nat) 1 (fun L1 k=>(5,.v (.one (.int .i64 (k:Int))))::L1) (fun _=>[.row false 265 9 (Jm O)]) id (fun k=>k≤O.length∧Y0 Km O c k=Y0 Km O c O.length) (Jm O).length ⟨by omega,by rw [hrl]⟩ rfl (fun _ _=>rfl) rfl fun k ⟨hk,hp⟩=>?_
    have h7:=Qik O
    have h7z:∀ y∈[rct c],y.length=9:=fun y hy=>by rw [List.mem_singleton.1 hy]; rfl
    cases k with
    |
     zero =>
     have hp:Y0 Km O c O.length=0:=by rw [←hp]; rfl
     refine go tt [.g 15 false (by simp),.f rfl,.i 0,.x (Ma hc),.lo,.i 0,.s (sz:=9) (fun y hy=>h7 y (List.mem_of_mem_take hy)),.s (sz:=9) (fun y hy=>(List.mem_append.1 hy).elim (h7z y) fun hy=>h7 y (List.mem_of_mem_take hy))] rfl (by simp [Qa]; omega) ?_
     exact rd (i+1) (by omega) hlt (by rw [hst,←Qhh hp]; rfl)
    |
     succ k =>
     obtain ⟨x,hx⟩:∃ x,O[k]? = some x:=⟨_,List.getElem?_eq_getElem (by omega)⟩
     have cb:=Q0n (k:=c.kind) (i0:=c.i0) (i1:=c.i1) (i2:=c.i2) (i3:=c.i3) (l:=x.kind) (j0:=x.i0) (j1:=x.i1) (j2:=x.i2) (j3:=x.i3)
     by_cases hlc:Km c x=true
     · refine go tt [.g 15 true (by simp),.x (Ma hc),.r 23 (eI (b:=(k:Int)) (by simp)),.i k,.x (Ma hx),.c [] cb,.t hlc,.r 30 (eI (b:=(k:Int)) (by simp))] rfl (by simp [Qa]; omega) ?_
       exact rd k (by simp) ⟨by omega,by rw [←hp,Ce hx hlc]⟩ rfl
     · have hlc:Km c x=false:=by simpa using hlc
       have hp:Y0 Km O c O.length=k+1:=by rw [←hp,Sz hx hlc]
       refine go tt [.g 15 true (by simp),.x (Ma hc),.r 23 (eI (b:=(k:Int)) (by simp)),.i k,.x (Ma hx),.c [] cb,.f hlc,.i (k+1),.x (Ma hc),.lo,.i (k+1),.s (sz:=9) (fun y hy=>h7 y (List.mem_of_mem_drop (List.mem_of_mem_take hy))),.s (sz:=9) (fun y hy=>(List.mem_append.1 hy).elim (h7z y) fun hy=>h7 y (List.mem_of_mem_drop (List.mem_of_mem_take hy)))] rfl (by simp [Qa]; omega) ?_
       exact rd (i+1) (by omega) hlt (by rw [hst,←Qhh hp]; rfl)
  · obtain rfl:i=l.length:=by omega
    rw [List.take_length]
    exact en tt [.f (decide_eq_false (by omega))] rfl rfl trivial
end Orr

namespace Orr
open Go Go.Proofs
set_option maxRecDepth 10000
abbrev sgq (q:Rat):List Int→Int:=fun p=>Zw p q
abbrev rzc:List LV:=[.int .i64 0,.int .i64 0,.int .i64 0,.int .i64 0,.int .i64 0,.nils,.int .i64 0,.nils,.bool false]
theorem Qt6 {l:List Ct} (hn:l.length≤1000000):Qc Tryz.prog 148 [.one (.row []),.one (.row (Jm l))] [.one (.row (Jm l))]:=by
  have hcl:=Rx l
  refine Z1 Tryz.func148 rfl ?_
  refine go tt [] rfl trivial ?_
  refine lp (S:=Nat) 0 (fun L1 i=>(9,.v (.one (.int .i64 (i:Int))))::L1) (fun _=>[]) (fun i=>l.length-i) (fun i=>i≤l.length) 0 (Nat.zero_le _) rfl (fun _ _=>rfl) rfl fun i hi=>?_
  by_cases hlt:i<l.length
  · refine go tt [.t (decide_eq_true (by omega))] rfl trivial ?_
    refine lp (S:=Nat) 0 (fun L1 k=>(14,.v (.one (.int .i64 (k:Int))))::L1) (fun _=>[]) (fun k=>0-k) (fun k=>k=0) 0 rfl rfl (fun _ _=>rfl) rfl fun k hk=>?_
    subst hk
    exact go tt [.f rfl] rfl (by simp [Qa]; omega) (rd (i+1) (by omega) hlt rfl)
  · exact en tt [.f (decide_eq_false (by omega))] rfl rfl trivial
end Orr

namespace Orr
open Go Go.Proofs
set_option maxRecDepth 10000
theorem Q1p (l:List Nat) (n:Nat):(lm l).take (min l.length n)=lm (l.take n):=by
  rw [lm,lm,←List.map_take]
  rcases Nat.le_total l.length n with h | h
  · rw [Nat.min_eq_left h,List.take_length,List.take_of_length_le h]
  · rw [Nat.min_eq_right h]
theorem Q5h {l:List Nat} {n:Nat} (hn:n≤1000):Qc Tryz.prog 246 [.one (.row (lm l)),.one (.int .i64 (n:Int))] [.one (.row (lm (l.take n)))]:=by
  rw [←Q1p]
  have hll:(lm l).length=l.length:=by simp [lm]
  exact w tt Tryz.func246 rfl [.r 9 (eI (b:=((min l.length n:Nat):Int)) (by omega)),.i (min l.length n)] rfl rfl (by simp [Qa,hll]; omega)
theorem Qtq {z:RawInt}:Qc Tryz.prog 203 [.agg (Lr z),.one (.int .i64 1)] [.agg (Lr z.cut)] :=
  w tt Tryz.func203 rfl [.c [] (Q5h (l:=z.l) (n:=1) (by decide))] rfl rfl trivial
def My (l:List RawInt):List (List LV):=l.map Lr
theorem Mb (l:List RawInt):(My l).length=l.length:=by simp [My]
theorem Qmw {l:List RawInt}:Qc Tryz.prog 202 [.one (.row (My l)),.one (.int .i64 3),.one (.int .i64 1)] [.one (.row (My ((l.take 3).map RawInt.cut)))]:=by
  have hll:=Mb l
  refine Z1 Tryz.func202 rfl (ln 0 rfl rfl fun hzl=>?_)
  rw [hll] at hzl
  refine go tt [.o 7 29 2] rfl trivial ?_
  refine lp (S:=Nat) 1 (fun L1 i=>(8,.v (.one (.int .i64 (i:Int))))::(7,.v (.one (.orow 0 2 none)))::L1) (fun i=>[.row false 29 2 (My ((l.take i).map RawInt.cut))]) (fun i=>3-i) (fun i=>i≤3∧i≤l.length) 0 ⟨by decide,Nat.zero_le _⟩ rfl (fun _ _=>rfl) rfl fun i ⟨hi,hi2⟩=>?_
  have hil:(My ((l.take i).map RawInt.cut)).length=i:=by rw [Mb,List.length_map,List.length_take]; omega
  by_cases h1:i<l.length
  · by_cases h2:i<3
    · obtain ⟨z,hz⟩:∃ z,l[i]? = some z:=⟨_,List.getElem?_eq_getElem h1⟩
      have hm:∀ y∈[Lr z.cut],y.length=2:=fun y hy=>by rw [List.mem_singleton.1 hy]; rfl
      refine go tt [.g 13 true (decide_eq_true (by omega)),.t (decide_eq_true (by omega)),.x (Zq (f:=Lr) hz),.c [] Qtq,.s (sz:=2) hm] rfl (by simp [Qa,hil,-List.map_take]; omega) ?_
      exact rd (i+1) (by omega) ⟨h2,h1⟩ (by rw [List.take_succ,hz]; simp [My]; rfl)
    · have e:i=3:=by omega
      have e2:l.take 3=l.take i:=by rw [e]
      rw [e2]
      exact en tt [.g 13 true (decide_eq_true (by omega)),.f (decide_eq_false (by omega))] rfl rfl trivial
  · have e:l.take i=l.take 3:=by rw [List.take_of_length_le (by omega),List.take_of_length_le (by omega)]
    rw [e]
    exact en tt [.g 13 false (decide_eq_false (by omega)),.f rfl] rfl rfl trivial
abbrev rcw (z:RawPt):List LV:=[.row (My z.x),.row (My z.y),.bool z.d.b,.row (lm z.d.l)]
def RawPt.cut (z:RawPt):RawPt:=⟨(z.x.take 3).map RawInt.cut,(z.y.take 3).map RawInt.cut,z.d.cut,z.id⟩
theorem Q77 {z:RawPt}:Qc Tryz.prog 144 [.agg (rcw z),.one (.int .i64 3),.one (.int .i64 1)] [.agg (rcw z.cut)] :=
  w tt Tryz.func144 rfl [.c [] (Qmw (l:=z.x)),.c [] (Qmw (l:=z.y)),.c [] (Qtq (z:=z.d))] rfl rfl trivial
theorem Ba {z:RawInt} (hz:z.Ok) {most:Int} (hm:0≤most∧most≤999):Qc Tryz.prog 204 [.agg (Lr z),.one (.int .i64 most)] [.agg (Zv (Jf most z))]:=by
  obtain ⟨b,l⟩:=z
  have hb:=Nc hm.1 ⟨b,l⟩
  have hs:Qm (Jf most ⟨b,l⟩)≤100000000:=Nat.le_trans (Jz.2 (show (Jf most ⟨b,l⟩).natAbs<2^10 by omega)) (by decide)
  cases l with
  | nil=>exact w tt Tryz.func204 rfl [.t rfl] rfl (by simp [Jf,Fm]) trivial
  |
   cons u l =>
   have hu:=hz.u u (List.mem_cons_self ..)
   have co:=Uo (n:=Jf most ⟨b,u::l⟩) (by omega)
   have ct:=Qtg hs
   have hr:Int.tmod (u:Int) (most+1)=(u:Int) % (most+1):=Int.tmod_eq_emod_of_nonneg (by omega)
   have h1:=Int.emod_nonneg (u:Int) (b:=most+1) (by omega)
   have h2:=Int.emod_lt_of_pos (u:Int) (b:=most+1) (by omega)
   cases b with
   |
    true =>
    rw [show Jf most ⟨true,u::l⟩=-((u:Int) % (most+1)) from rfl] at co ct ⊢
    exact w tt Tryz.func204 rfl [.f (decide_eq_false (by simp [lm]; try omega)),.x (l:=lm (u::l)) (i:=0) (xs:=[.int .u32 (u:Int)]) rfl,.r 18 (eI hr),.t rfl,.c [] co,.c [] ct] rfl rfl (by simp [Qa]; omega)
   |
    false =>
    rw [show Jf most ⟨false,u::l⟩=(u:Int) % (most+1) from rfl] at co ct ⊢
    exact w tt Tryz.func204 rfl [.f (decide_eq_false (by simp [lm]; try omega)),.x (l:=lm (u::l)) (i:=0) (xs:=[.int .u32 (u:Int)]) rfl,.r 18 (eI hr),.f rfl,.c [] co,.c [] ct] rfl rfl (by simp [Qa]; omega)
end Orr

namespace Orr
open Go Go.Proofs
set_option maxRecDepth 10000
theorem oz2 {P:Program} [Mo P] {n:Nat} {Q:Exit→Sg→List OB→Prop} {L L':Sg} {B B':List OB} (d off T sz:Nat) {it:List It} (hs:Jh it=true) (h:Qri (P:=P) d L B [.oc d off T sz]=some (L',B',[],[])) (k:AK P n Q it L' B'):AK P n Q it L B:=AK.sub (Qe3 h EqOk.nil) hs k
theorem pz {P:Program} [Mo P] {n:Nat} {Q:Exit→Sg→List OB→Prop} {L L':Sg} {B B':List OB} (i:Nat) {it:List It} (hs:Jh it=true) (h:Qxb [i] L B=some (L',B')) (k:AK P n Q it L' B'):AK P n Q it L B:=AK.sub (Ax h) hs k
def Hm (l:List Int):List (List LV):=l.map Zv
theorem Qq7 (l:List Int):(Hm l).length=l.length:=by simp [Hm]
theorem Lf {most:Int} {l:List RawInt} {i:Nat} {a:RawInt} (hi:i<3) (h:l[i]? = some a):Hm (Z0 most (l.take (i+1)))=Hm (Z0 most (l.take i))++[Zv (Jf most a)]:=by
  rw [Qem hi h]; simp [Hm]
theorem Qel {most:Int} {l:List RawInt} {i:Nat} (hi:i≤3) (h:i≤l.length):(Hm (Z0 most (l.take i))).length=i:=by
  rw [Qq7]; unfold Z0; rw [List.length_map,List.length_take,List.length_take]; omega
theorem Qsy {z:RawPt} (hz:z.Ok) {most:Int} (hm:0≤most∧most≤999):Qc Tryz.prog 145 [.agg (rcw z),.one (.int .i64 most)] [.agg (cl4 (By most z.x z.y z.d))]:=by
  have hxl:=Mb z.x
  have hyl:=Mb z.y
  obtain ⟨D,hD⟩:∃ D,D=Jf 3 z.d:=⟨_,rfl⟩
  have cd:=Ba hz.d (most:=3) (by decide)
  have hx0:∀ {i:Nat},z.x.length≤i∨3≤i→Z0 most (z.x.take i)=Z0 most z.x:=Eh most
  have hy0:∀ {i:Nat},z.y.length≤i∨3≤i→Z0 most (z.y.take i)=Z0 most z.y:=Eh most
  unfold By
  rw [←hD] at cd ⊢
  refine Z1 Tryz.func145 rfl ?_
  refine go tt [.c [] cd] rfl trivial ?_
  refine oz2 5 0 29 2 rfl rfl ?_
  refine lp (S:=Nat) 4 (fun L1 i=>(6,.v (.one (.int .i64 (i:Int))))::L1) (fun i=>[.blk 31 (rcw z),.blk 31 [.nils,.nils,.bool false,.nils],.blk 31 [.orow 3 2 none,.nils,sg D,mg D],.row false 29 2 (Hm (Z0 most (z.x.take i)))]) (fun i=>3-i) (fun i=>i≤3∧i≤z.x.length) 0 ⟨by decide,Nat.zero_le _⟩ rfl (fun _ _=>rfl) rfl fun i ⟨hi,hi2⟩=>?_
  have hll:=Qel (most:=most) hi hi2
  by_cases hr:i<z.x.length∧i<3
  · obtain ⟨a,ha⟩:∃ a,z.x[i]? = some a:=⟨_,List.getElem?_eq_getElem hr.1⟩
    have hs:∀ y∈[Zv (Jf most a)],y.length=2:=fun y hy=>by rw [List.mem_singleton.1 hy]; rfl
    refine go tt [.g 17 true (decide_eq_true (by omega)),.t (decide_eq_true (by omega)),.x (Zq (f:=Lr) ha),.c [] (Ba (hz.x a (List.mem_of_getElem? ha)) hm),.s (sz:=2) hs] rfl (by simp [Qa,hll]; omega) ?_
    exact rd (i+1) (by omega) ⟨hr.2,hr.1⟩ (by rw [Lf hr.2 ha]; rfl)
  have hg1:decide ((i:Int)<((My z.x).length:Int))=true→i<z.x.length:=fun h=>by have:=of_decide_eq_true h; omega
  rw [hx0 (by omega)]
  clear hll
  have hfin:∀ {j:Nat},j≤3∧j≤z.y.length→¬(j<z.y.length∧j<3)→Hm (Z0 most (z.y.take j))=Hm (Z0 most z.y):=fun h1 h2=>by rw [hy0 (by omega)]
  by_cases hxx:i<z.x.length
  · refine go tt [.g 17 true (decide_eq_true (by omega)),.f (decide_eq_false (by omega))] rfl trivial ?_
    refine pz 3 rfl rfl ?_
    refine oz2 5 1 29 2 rfl rfl ?_
    refine lp (S:=Nat) 5 (fun L1 j=>(7,.v (.one (.int .i64 (j:Int))))::L1) (fun j=>[.blk 31 (rcw z),.blk 31 [.nils,.nils,.bool false,.nils],.blk 31 [.row (Hm (Z0 most z.x)),.orow 4 2 none,sg D,mg D],.gone,.row false 29 2 (Hm (Z0 most (z.y.take j)))]) (fun j=>3-j) (fun j=>j≤3∧j≤z.y.length) 0 ⟨by decide,Nat.zero_le _⟩ rfl (fun _ _=>rfl) rfl fun j ⟨hj,hj2⟩=>?_
    have hll:=Qel (most:=most) hj hj2
    by_cases hr:j<z.y.length∧j<3
    · obtain ⟨a,ha⟩:∃ a,z.y[j]? = some a:=⟨_,List.getElem?_eq_getElem hr.1⟩
      have hs:∀ y∈[Zv (Jf most a)],y.length=2:=fun y hy=>by rw [List.mem_singleton.1 hy]; rfl
      refine go tt [.g 40 true (decide_eq_true (by omega)),.t (decide_eq_true (by omega)),.x (Zq (f:=Lr) ha),.c [] (Ba (hz.y a (List.mem_of_getElem? ha)) hm),.s (sz:=2) hs] rfl (by simp [Qa,hll]; omega) ?_
      exact rd (j+1) (by omega) ⟨hr.2,hr.1⟩ (by rw [Lf hr.2 ha]; rfl)
    rw [hfin ⟨hj,hj2⟩ hr]
    by_cases hyy:j<z.y.length
    · exact ed tt [4] [] [.g 40 true (decide_eq_true (by omega)),.f (decide_eq_false (by omega))] rfl trivial
    · exact ed tt [4] [] [.g 40 false (decide_eq_false (by omega)),.f rfl] rfl trivial
  · refine go tt [.g 17 false (decide_eq_false (by omega)),.f rfl] rfl trivial ?_
    refine pz 3 rfl rfl ?_
    refine oz2 5 1 29 2 rfl rfl ?_
    refine lp (S:=Nat) 5 (fun L1 j=>(7,.v (.one (.int .i64 (j:Int))))::L1) (fun j=>[.blk 31 (rcw z),.blk 31 [.nils,.nils,.bool false,.nils],.blk 31 [.row (Hm (Z0 most z.x)),.orow 4 2 none,sg D,mg D],.gone,.row false 29 2 (Hm (Z0 most (z.y.take j)))]) (fun j=>3-j) (fun j=>j≤3∧j≤z.y.length) 0 ⟨by decide,Nat.zero_le _⟩ rfl (fun _ _=>rfl) rfl fun j ⟨hj,hj2⟩=>?_
    have hll:=Qel (most:=most) hj hj2
    by_cases hr:j<z.y.length∧j<3
    · obtain ⟨a,ha⟩:∃ a,z.y[j]? = some a:=⟨_,List.getElem?_eq_getElem hr.1⟩
      have hs:∀ y∈[Zv (Jf most a)],y.length=2:=fun y hy=>by rw [List.mem_singleton.1 hy]; rfl
      refine go tt [.g 40 true (decide_eq_true (by omega)),.t (decide_eq_true (by omega)),.x (Zq (f:=Lr) ha),.c [] (Ba (hz.y a (List.mem_of_getElem? ha)) hm),.s (sz:=2) hs] rfl (by simp [Qa,hll]; omega) ?_
      exact rd (j+1) (by omega) ⟨hr.2,hr.1⟩ (by rw [Lf hr.2 ha]; rfl)
    rw [hfin ⟨hj,hj2⟩ hr]
    by_cases hyy:j<z.y.length
    · exact ed tt [4] [] [.g 40 true (decide_eq_true (by omega)),.f (decide_eq_false (by omega))] rfl trivial
    · exact ed tt [4] [] [.g 40 false (decide_eq_false (by omega)),.f rfl] rfl trivial
theorem Qmp {n d:Int} (hn:-9223372036854775808≤n∧n≤9223372036854775807) (hd:-9223372036854775808≤d∧d≤9223372036854775807):Qc Tryz.prog 32 [.one (.int .i64 n),.one (.int .i64 d)] [.agg (fr (Zs (Uj n 61-30) (1+Uj d 6)))]:=by
  have h1:Uj n 61=n % 61:=rfl
  have h2:Uj d 6=d % 6:=rfl
  exact w tt Tryz.func32 rfl [.c [] (Nz (v:=n) (n:=61) hn (by decide)),.c [] (Nz (v:=d) (n:=6) hd (by decide)),.c [] (Q8b (n:=Uj n 61-30) (d:=1+Uj d 6) (by omega) (by omega))] rfl rfl (by simp [Qa]; omega)
end Orr

namespace Orr
open Go Go.Proofs
set_option maxRecDepth 10000
def rwq (z:RawPt):List LV:=rcw z++[.int .i64 z.id]
def Cq (l:List RawPt):List (List LV):=l.map rwq
theorem Qrr (l:List RawPt):(Cq l).length=l.length:=by simp [Cq]
theorem Qfi {l:List RawPt} {i:Nat} {z:RawPt} (h:l[i]? = some z):(Cq l)[i]? = some (rwq z):=Zq h
theorem Q5o {most:Int} (hm:0≤most∧most≤999) (z:RawPt):Cs 100000 16 (P4 most z).c:=(Qbj hm z.x z.y z.d).mono (by decide) (by decide)
def H1 (n:Nat) (most:Int) (zs:List RawPt) (i:Nat):List Pt:=Lo n most (zs.take i)
theorem Qw9 (n:Nat) (most:Int) (zs:List RawPt) (i:Nat):(H1 n most zs i).length≤n:=Se _ _ (Nat.zero_le _)
theorem Q2c {n:Nat} {most:Int} {zs:List RawPt} {i:Nat} {z:RawPt} (h:zs[i]? = some z) (hl:(H1 n most zs i).length<n) (ha:(H1 n most zs i).any (fun x=>decide (x.id=(P4 most z).id))=true):H1 n most zs (i+1)=H1 n most zs i:=by
  unfold H1 Lo at *
  rw [List.take_succ,h,Option.toList_some,List.map_append]
  exact Ro _ _ _ hl ha
theorem Qxa {n:Nat} {most:Int} {zs:List RawPt} {i:Nat} {z:RawPt} (h:zs[i]? = some z) (hl:(H1 n most zs i).length<n) (ha:(H1 n most zs i).any (fun x=>decide (x.id=(P4 most z).id))=false):H1 n most zs (i+1)=H1 n most zs i++[P4 most z]:=by
  unfold H1 Lo at *
  rw [List.take_succ,h,Option.toList_some,List.map_append]
  exact Gt _ _ _ hl ha
theorem Qw8 {n:Nat} {most:Int} {zs:List RawPt} {i:Nat} (h:¬(i<zs.length∧(H1 n most zs i).length<n)):H1 n most zs i=Lo n most zs:=by
  by_cases h1:i<zs.length
  · have hl:n≤(H1 n most zs i).length:=Nat.le_of_not_lt fun h2=>h ⟨h1,h2⟩
    unfold H1 Lo at *
    conv=>rhs; rw [←List.take_append_drop i zs,List.map_append]
    exact (D3 _ _ _ hl).symm
  · unfold H1; rw [List.take_of_length_le (by omega)]
theorem Qsg {f:Pt→Bool} {l:List Pt} {k:Nat} {x:Pt} (h:l[k]? = some x):(l.take (k+1)).any f=((l.take k).any f || f x):=by
  rw [List.take_succ,h]; simp
theorem Qp3 {zs:List RawPt} (hz:∀ z∈zs,z.Ok):Xa Tryz.prog 85 [.one (.row (Cq zs)),.one (.int .i64 4)] [] [.one (.orow 0 5 none),.one (.orow 1 7 none)] [.row false 35 5 (Qr (Lo 4 20 zs)),.row false 112 7 (Q0 ((Lo 4 20 zs).map Pt.nrm))]:=by
  have hzl:=Qrr zs
  refine Z1 Tryz.func85 rfl (ln 0 rfl rfl fun hz63=>?_)
  rw [hzl] at hz63
  refine go tt [.o 6 35 5,.o 7 112 7] rfl trivial ?_
  refine lp (S:=Nat) 2 (fun L1 i=>(8,.v (.one (.int .i64 (i:Int))))::(6,.v (.one (.orow 0 5 none)))::(7,.v (.one (.orow 1 7 none)))::L1) (fun i=>[.row false 35 5 (Qr (H1 4 20 zs i)),.row false 112 7 (Q0 ((H1 4 20 zs i).map Pt.nrm))]) (fun i=>zs.length-i) (fun i=>i≤zs.length) 0 (Nat.zero_le _) rfl (fun _ _=>rfl) rfl fun i hi=>?_
  have hOl:=Qw9 4 20 zs i
  have hend:=Qw8 (n:=4) (most:=20) (zs:=zs) (i:=i)
  by_cases h1:i<zs.length
  · by_cases h2:(H1 4 20 zs i).length<4
    · obtain ⟨z,hzi⟩:∃ z,zs[i]? = some z:=⟨_,List.getElem?_eq_getElem h1⟩
      have hzok:=hz z (List.mem_of_getElem? hzi)
      have hin:=Q2c hzi h2
      have hout:=Qxa hzi h2
      obtain ⟨O,hO⟩:∃ O,O=H1 4 20 zs i:=⟨_,rfl⟩
      rw [←hO] at hOl h2 hin hout ⊢
      have hpl:=Fs O
      have hrl:(Q0 (O.map Pt.nrm)).length=O.length:=by rw [J8,List.length_map]
      obtain ⟨p,hp⟩:∃ p,p=P4 20 z:=⟨_,rfl⟩
      have hid:Uj z.id 1000=p.id:=by rw [hp]; rfl
      have cw:=Nz (v:=z.id) (n:=1000) hzok.id (by decide)
      have cl:=Qsy hzok (most:=20) (by decide)
      have ecl:cl4 (By 20 z.x z.y z.d)=cl4 p.c:=by rw [hp]; rfl
      rw [hid] at cw
      rw [ecl] at cl
      rw [←hp] at hin hout
      refine go tt [.g 16 true (decide_eq_true (by omega)),.t (decide_eq_true (by omega)),.x (Qfi hzi),.c [] (Q77 (z:=z)),.x (Qfi hzi),.c [] cw,.f rfl,.t rfl,.x (Qfi hzi),.c [] cl] rfl trivial ?_
      refine lp (S:=Nat) 3 (fun L1 k=>(57,.v (.one (.int .i64 (k:Int))))::(10,.v (.one (.bool ((O.take k).any (fun x=>decide (x.id=p.id))))))::L1) (fun _=>[.row false 35 5 (Qr O),.row false 112 7 (Q0 (O.map Pt.nrm)),.blk 35 [pl p.c.x,pl p.c.y,sg p.c.d,mg p.c.d,.int .i64 p.id]]) (fun k=>O.length-k) (fun k=>k≤O.length) 0 (Nat.zero_le _) rfl (fun _ _=>rfl) rfl fun k hk=>?_
      by_cases hk2:k<O.length
      · obtain ⟨x,hx⟩:∃ x,O[k]? = some x:=⟨_,List.getElem?_eq_getElem hk2⟩
        have ha:=Qsg (f:=fun x=>decide (x.id=p.id)) hx
        cases hb:(O.take k).any (fun x=>decide (x.id=p.id)) with
        |
         true =>
         rw [hb,Bool.true_or] at ha
         exact go tt [.t (decide_eq_true (by omega)),.g 61 true rfl] rfl (by simp [Qa]; omega) (rd (k+1) (by omega) hk2 (by rw [ha]; rfl))
        |
         false =>
         rw [hb,Bool.false_or] at ha
         exact go tt [.t (decide_eq_true (by omega)),.g 61 false rfl,.i k,.x (Pc hx)] rfl (by simp [Qa,hpl]; omega) (rd (k+1) (by omega) hk2 (by rw [ha]; rfl))
      have hk3:O.take k=O:=List.take_of_length_le (by omega)
      rw [hk3]
      cases hb:O.any (fun x=>decide (x.id=p.id)) with
      |
       true =>
       refine go tt [.f (decide_eq_false (by omega)),.f rfl] rfl (by simp [Qa]; omega) ?_
       exact rd (i+1) (by omega) h1 (by rw [hin hb]; rfl)
      |
       false =>
       have cf:=Qt5 (k:=p.c) (id:=p.id) (by rw [hp]; exact Q5o (by decide) z)
       have hm1:∀ y∈[X5 p],y.length=5:=fun y hy=>by rw [List.mem_singleton.1 hy]; rfl
       have hm2:∀ y∈[rpt p.nrm],y.length=7:=fun y hy=>by rw [List.mem_singleton.1 hy]; rfl
       have e1:Qr (O++[p])=Qr O++[X5 p]:=by simp [Qr]
       have e2:Q0 ((O++[p]).map Pt.nrm)=Q0 (O.map Pt.nrm)++[rpt p.nrm]:=by simp [Q0]
       refine go tt [.f (decide_eq_false (by omega)),.t rfl,.s (sz:=5) hm1,.c [] cf,.s (sz:=7) hm2] rfl (by simp [Qa,hpl,hrl]; omega) ?_
       exact rd (i+1) (by omega) h1 (by rw [hout hb,e1,e2]; rfl)
    · rw [hend (fun h=>h2 h.2)]
      rw [hend (fun h=>h2 h.2)] at h2
      have hpl:=Fs (Lo 4 20 zs)
      exact ed tt [] [0,1] [.g 16 true (decide_eq_true (by omega)),.f (decide_eq_false (by omega))] rfl trivial
  · rw [hend (fun h=>h1 h.1)]
    exact ed tt [] [0,1] [.g 16 false (decide_eq_false (by omega)),.f rfl] rfl trivial
end Orr

namespace Orr
open Go Go.Proofs
set_option maxRecDepth 10000
abbrev plZ (M:List Pt) (q:Rat):List LV:=.row (Q0 M)::(fr q++[.nils,.nils,.nils,.bool false,.nils,.bool false,.nils,.bool false,.nils,.bool false,.nils,.int .i64 0,.nils])
abbrev plB (M:List Pt) (q:Rat) (c:List (List Int)) (w:List Ct):List LV:=.row (Q0 M)::(fr q++(aq q c++[.row (Jm w),.int .i64 0,.nils]))
end Orr

namespace Orr
open Go Go.Proofs Orq
set_option maxRecDepth 10000
theorem Q04 {O:List Pt} {e j:Nat} (h:Gl (Yb O e)) (hj:j≤e):Gl (Yb O j):=by
  have:Yb O j=(Yb O e).take j:=by unfold Yb; rw [←List.map_take,List.take_take,Nat.min_eq_left hj]
  rw [this]
  exact List.Pairwise.sublist (List.take_sublist _ _) h
theorem Q5q (O:List Pt):∃ e,e≤O.length∧Gl (Yb O e)∧(e<O.length→¬Gl (Yb O (e+1))):=by
  have key:∀ k,Gl (Yb O k)∨∃ e,e<k∧Gl (Yb O e)∧¬Gl (Yb O (e+1)):=by
    intro k
    induction k with
    | zero=>exact .inl List.Pairwise.nil
    |
     succ k ih =>
     rcases ih with h | ⟨e,h1,h2,h3⟩
     · by_cases h4:Gl (Yb O (k+1))
       · exact .inl h4
       · exact .inr ⟨k,Nat.lt_succ_self k,h,h4⟩
     · exact .inr ⟨e,by omega,h2,h3⟩
  rcases key O.length with h | ⟨e,h1,h2,h3⟩
  · exact ⟨O.length,Nat.le_refl _,h,fun h=>absurd h (Nat.lt_irrefl _)⟩
  · exact ⟨e,by omega,h2,fun _=>h3⟩
theorem Qe4 {O:List Pt} {i:Nat} {p:Pt} (h:O[i]? = some p):(Qr (P5 O i)).set i [pl p.c.x,pl p.c.y,sg p.c.d,mg p.c.d,.int .i64 p.m5.id]=Qr (P5 O (i+1)):=by
  rw [←Qog h]; simp only [Qr,List.map_set]; rfl
theorem Qba {O:List Pt} {i:Nat} {p:Pt} (h:O[i]? = some p):(Q0 ((P5 O i).map Pt.nrm)).set i [rp (Nv p.nrm.c.x p.nrm.c.d),rp (Nv p.nrm.c.y p.nrm.c.d),pl p.nrm.c.x,pl p.nrm.c.y,sg p.nrm.c.d,mg p.nrm.c.d,.int .i64 p.m5.id]=Q0 ((P5 O (i+1)).map Pt.nrm):=by
  rw [←Qog h]; simp only [Q0,List.map_set]; rfl
theorem Qrk {O:List Pt} {e i:Nat} (h:e≤i) (hi:i≤O.length):(Qr (P5 O i)).take e=Qr (Yb O e):=by
  unfold Qr; rw [←List.map_take,Qhv h hi]; rfl
theorem Qlj {O:List Pt} {e i:Nat} (h:e≤i) (hi:i≤O.length):(Q0 ((P5 O i).map Pt.nrm)).take e=Q0 (Mp O e):=by
  unfold Q0; rw [←List.map_take,←List.map_take,Qhv h hi]; rfl
theorem Qhu {O:List Pt}:P5 O O.length=Yb O O.length:=by unfold P5 Yb; simp
abbrev Ws (n d:Int):Rat:=Zs (Uj n 61-30) (1+Uj d 6)
theorem Lu (n d:Int):Qs 100 (Ws n d):=by
  have h1:Uj n 61=n % 61:=rfl
  have h2:Uj d 6=d % 6:=rfl
  unfold Ws Zs
  rw [if_neg (by omega)]
  exact Qs.divInt (Nat.le_trans (Jz.2 (show (Uj n 61-30).natAbs<2^10 by omega)) (by decide)) (Nat.le_trans (Jz.2 (show (1+Uj d 6).natAbs<2^10 by omega)) (by decide)) (by decide)
theorem Q2d {n:Nat} {most:Int} {l:List RawPt}:∀ p∈Lo n most l,0≤p.id∧p.id<1000:=fun p hp=>by
  rcases Bn _ _ hp with h | h
  · cases h
  · obtain ⟨z,_,rfl⟩:=List.mem_map.1 h
    exact ⟨Int.emod_nonneg _ (by decide),Int.emod_lt_of_pos _ (by decide)⟩
end Orr

namespace Orr
open Go Go.Proofs
set_option maxRecDepth 10000
def S8 (q:Rat) (a b:Pt):Bool:=if Sh (Xf b.c a.c) q≠0 then decide (0<Sh (Xf b.c a.c) q) else if Sh (X8 b.c a.c) q≠0 then decide (0<Sh (X8 b.c a.c) q) else decide (a.id<b.id)
theorem Qt4 {a b:Pt} {q:Rat} {c:List (List Int)} (ha:Rs a.c) (hb:Rs b.c) (hq:Qs 1000000 q):Qc Tryz.prog 313 [.agg (rpt a),.agg (rpt b),.agg (aq q c)] [.one (.bool (S8 q a b))]:=by
  have c1:=Be (p:=Xf b.c a.c) (c:=c) (Qd (P7 hb ha).1 (by decide)) (Nat.le_trans (P7 hb ha).2 (by decide)) hq
  have c2:=Be (p:=X8 b.c a.c) (c:=c) (Qd (P8 hb ha).1 (by decide)) (Nat.le_trans (P8 hb ha).2 (by decide)) hq
  by_cases h1:Sh (Xf b.c a.c) q≠0
  · exact w tt Tryz.func313 rfl [.c [] (Tt hb ha),.c [] c1,.t (decide_eq_true h1)] rfl (by unfold S8; rw [if_pos h1]) trivial
  by_cases h2:Sh (X8 b.c a.c) q≠0
  · exact w tt Tryz.func313 rfl [.c [] (Tt hb ha),.c [] c1,.f (decide_eq_false h1),.c [] (Iq hb ha),.c [] c2,.t (decide_eq_true h2)] rfl (by unfold S8; rw [if_neg h1,if_pos h2]) trivial
  · exact w tt Tryz.func313 rfl [.c [] (Tt hb ha),.c [] c1,.f (decide_eq_false h1),.c [] (Iq hb ha),.c [] c2,.f (decide_eq_false h2)] rfl (by unfold S8; rw [if_neg h1,if_neg h2]) trivial
abbrev rgm (m:Pt×Pt):List LV:=rpt m.1++rpt m.2
def Ry (l:List (Pt×Pt)):List (List LV):=l.map rgm
theorem Fq (l:List (Pt×Pt)):(Ry l).length=l.length:=by simp [Ry]
theorem Cm (l:List (Pt×Pt)):∀ c∈Ry l,c.length=14:=fun c hc=>by obtain ⟨x,_,rfl⟩:=List.mem_map.1 hc; rfl
abbrev Q85:Pt:=⟨⟨[],[],0⟩,0⟩
def L9 (bt:Pt→Pt→Bool):Nat→List Pt→Pt×List (Pt×Pt)
  | 0,l=>(l.headD Q85,[])
  |
   k+1,l=>if l.length≤1 then (l.headD Q85,[]) else
   if bt (L9 bt k (l.take ((l.length+1) / 2))).1 (L9 bt k (l.drop ((l.length+1) / 2))).1=true
   then ((L9 bt k (l.take ((l.length+1) / 2))).1,((L9 bt k (l.take ((l.length+1) / 2))).2++(L9 bt k (l.drop ((l.length+1) / 2))).2)++[((L9 bt k (l.take ((l.length+1) / 2))).1,(L9 bt k (l.drop ((l.length+1) / 2))).1)])
   else ((L9 bt k (l.drop ((l.length+1) / 2))).1,((L9 bt k (l.take ((l.length+1) / 2))).2++(L9 bt k (l.drop ((l.length+1) / 2))).2)++[((L9 bt k (l.drop ((l.length+1) / 2))).1,(L9 bt k (l.take ((l.length+1) / 2))).1)])
theorem Ix {l:List Pt} {k:Nat} (h2:¬l.length≤1) (hk:l.length≤k+1):(l.take ((l.length+1) / 2)).length≤k∧(l.drop ((l.length+1) / 2)).length≤k∧0<(l.take ((l.length+1) / 2)).length∧0<(l.drop ((l.length+1) / 2)).length∧(l.take ((l.length+1) / 2)).length+(l.drop ((l.length+1) / 2)).length=l.length:=by
  rw [List.length_take,List.length_drop]; omega
theorem Dk (bt:Pt→Pt→Bool):∀ (k:Nat) (l:List Pt),0<l.length→l.length≤k→(L9 bt k l).1∈l∧(∀ m∈(L9 bt k l).2,m.1∈l∧m.2∈l)∧(L9 bt k l).2.length+1=l.length
  | 0,l,h0,hk=>by omega
  |
   k+1,l,h0,hk=>by
   by_cases h1:l.length≤1
   · obtain ⟨p,rfl⟩:=List.length_eq_one_iff.1 (show l.length=1 by omega)
     refine ⟨by simp [L9],fun m hm=>by simp [L9] at hm,rfl⟩
   · obtain ⟨k1,k2,k3,k4,k5⟩:=Ix h1 hk
     obtain ⟨a1,a2,a3⟩:=Dk bt k _ k3 k1
     obtain ⟨b1,b2,b3⟩:=Dk bt k _ k4 k2
     simp only [L9,if_neg h1]
     split
     all_goals
       refine ⟨?_,fun m hm=>?_,by simp only [List.length_append,List.length_singleton]; omega⟩
       · first | exact List.mem_of_mem_take a1 | exact List.mem_of_mem_drop b1
       · rcases List.mem_append.1 hm with hm | hm
         · rcases List.mem_append.1 hm with hm | hm
           · exact ⟨List.mem_of_mem_take (a2 m hm).1,List.mem_of_mem_take (a2 m hm).2⟩
           · exact ⟨List.mem_of_mem_drop (b2 m hm).1,List.mem_of_mem_drop (b2 m hm).2⟩
         · rw [List.mem_singleton.1 hm]
           first | exact ⟨List.mem_of_mem_take a1,List.mem_of_mem_drop b1⟩ | exact ⟨List.mem_of_mem_drop b1,List.mem_of_mem_take a1⟩
theorem Q2l {l m:List (List LV)} (h:l=m):TV.one (LV.row l)=.one (.row m):=h ▸ rfl
theorem M6 {q:Rat} {c:List (List Int)} (hq:Qs 1000000 q):∀ (k:Nat) (l:List Pt),0<l.length→l.length≤k→l.length≤1000→(∀ p∈l,Rs p.c)→Qc Tryz.prog 290 [.one (.row (Q0 l)),.agg (aq q c)] [.agg (rpt (L9 (S8 q) k l).1),.one (.row (Ry (L9 (S8 q) k l).2))]
  | 0,l,h0,hk,_,_=>by omega
  |
   k+1,l,h0,hk,hn,hl=>by
   have hcl:=J8 l
   by_cases h1:l.length≤1
   · obtain ⟨p,rfl⟩:=List.length_eq_one_iff.1 (show l.length=1 by omega)
     exact w tt Tryz.func290 rfl [.t rfl,.x (Gi (l:=[p]) (i:=0) rfl)] rfl rfl trivial
   · obtain ⟨k1,k2,k3,k4,k5⟩:=Ix h1 hk
     obtain ⟨a1,a2,a3⟩:=Dk (S8 q) k _ k3 k1
     obtain ⟨b1,b2,b3⟩:=Dk (S8 q) k _ k4 k2
     have c1:=M6 (c:=c) hq k (l.take ((l.length+1) / 2)) k3 k1 (by omega) fun p hp=>hl p (List.mem_of_mem_take hp)
     have c2:=M6 (c:=c) hq k (l.drop ((l.length+1) / 2)) k4 k2 (by omega) fun p hp=>hl p (List.mem_of_mem_drop hp)
     have hA:=hl _ (List.mem_of_mem_take a1)
     have hB:=hl _ (List.mem_of_mem_drop b1)
     have cb:=Qt4 (c:=c) hA hB hq
     have e1:(Q0 l).take ((l.length+1) / 2)=Q0 (l.take ((l.length+1) / 2)):=by simp [Q0,List.map_take]
     have e2:(Q0 l).drop ((l.length+1) / 2)=Q0 (l.drop ((l.length+1) / 2)):=by simp [Q0,List.map_drop]
     have htd:((l.length:Int)+1).tdiv 2=(((l.length+1) / 2:Nat):Int):=rfl
     have h7:=eq_true (p:=∀ z,z∈Q0 l→z.length=ti112.sz) (Cn l)
     simp only [L9,if_neg h1]
     generalize L9 (S8 q) k (l.take ((l.length+1) / 2))=A at *
     generalize L9 (S8 q) k (l.drop ((l.length+1) / 2))=B at *
     have g1:=Fq A.2
     have g2:=Fq B.2
     have gap:∀ m,Ry (A.2++B.2++[m])=(Ry A.2++Ry B.2)++[rgm m]:=fun m=>by simp [Ry]
     by_cases hb:S8 q A.1 B.1=true
     · rw [if_pos hb]
       dsimp only
       rw [gap]
       exact w tt Tryz.func290 rfl [.f (decide_eq_false (by omega)),.r 21 (eI (b:=(((l.length+1) / 2:Nat):Int)) (by rw [hcl]; rfl)),.i ((l.length+1) / 2),.r 25 (Q2l e1),.c [] c1,.i ((l.length+1) / 2),.r 33 (Q2l e2),.c [] c2,.s (sz:=14) (Cm A.2),.s (sz:=14) (Cm B.2),.c [] cb,.t hb,.s (sz:=14) (l:=[rgm (A.1,B.1)]) (fun c hc=>by rw [List.mem_singleton.1 hc]; rfl)] rfl rfl (by simp [Qa,J8,Fq,h7]; omega)
     · have hb:S8 q A.1 B.1=false:=by simpa using hb
       rw [if_neg (by rw [hb]; decide)]
       dsimp only
       rw [gap]
       exact w tt Tryz.func290 rfl [.f (decide_eq_false (by omega)),.r 21 (eI (b:=(((l.length+1) / 2:Nat):Int)) (by rw [hcl]; rfl)),.i ((l.length+1) / 2),.r 25 (Q2l e1),.c [] c1,.i ((l.length+1) / 2),.r 33 (Q2l e2),.c [] c2,.s (sz:=14) (Cm A.2),.s (sz:=14) (Cm B.2),.c [] cb,.f hb,.s (sz:=14) (l:=[rgm (B.1,A.1)]) (fun c hc=>by rw [List.mem_singleton.1 hc]; rfl)] rfl rfl (by simp [Qa,J8,Fq,h7]; omega)
theorem Qt7 {a b:Pt} {q:Rat} {c:List (List Int)} (ha:Rs a.c) (hb:Rs b.c) (hq:Qs 1000000 q):Qc Tryz.prog 311 [.one (.int .i64 2),.agg (aq q c),.one (.row [rpt a,rpt b])] [.agg (rct (Z9 (sgq q) a b)),.one (.bool true)]:=by
  have hfl:=Ey (Xf b.c a.c)
  have x0:[rpt a,rpt b][0]? = some (rpt a):=rfl
  have x1:[rpt a,rpt b][1]? = some (rpt b):=rfl
  refine Z1 Tryz.func311 rfl ?_
  refine go tt [.g 14 false rfl,.g 18 false rfl,.x (l:=[[.int .i64 0],[.int .i64 2],[.int .i64 2],[.int .i64 3],[.int .i64 4],[.int .i64 4]]) (i:=2) (xs:=[.int .i64 2]) rfl,.f rfl] rfl trivial ?_
  refine lp (S:=Nat) 3 (fun L1 i=>(33,.v (.one (.int .i64 (i:Int))))::L1) (fun i=>[.blk 102 (aq q c),.blk 265 rzc,.blk 265 [.int .i64 2,.int .i64 (if 0<i then a.id else 0),.int .i64 (if 1<i then b.id else 0),.int .i64 0,.int .i64 0,.nils,.int .i64 0,.nils,.bool false]]) (fun i=>2-i) (fun i=>i≤2) 0 (by decide) rfl (fun _ _=>rfl) rfl fun i hi=>?_
  rcases (show i=0∨i=1∨i=2 by omega) with rfl | rfl | rfl
  · exact go tt [.t rfl,.x x0,.i 0] rfl (by simp [Qa]) (rd 1 (by omega) (by omega) rfl)
  · exact go tt [.t rfl,.x x1,.i 1] rfl (by simp [Qa]) (rd 2 (by omega) (by omega) rfl)
  by_cases h0:(Xf b.c a.c).length=0
  · have e:Wl a b=X8 b.c a.c:=if_neg (by omega)
    exact en tt [.f rfl,.f rfl,.t rfl,.x x1,.x x0,.c [] (Tt hb ha),.t (decide_eq_true (by omega)),.x x1,.x x0,.c [] (Iq hb ha),.c [] (Be (p:=X8 b.c a.c) (c:=c) (Qd (P8 hb ha).1 (by decide)) (Nat.le_trans (P8 hb ha).2 (by decide)) hq)] rfl (by unfold Z9; rw [e]; rfl) trivial
  · have e:Wl a b=Xf b.c a.c:=if_pos (by omega)
    exact en tt [.f rfl,.f rfl,.t rfl,.x x1,.x x0,.c [] (Tt hb ha),.f (decide_eq_false (by omega)),.c [] (Be (p:=Xf b.c a.c) (c:=c) (Qd (P7 hb ha).1 (by decide)) (Nat.le_trans (P7 hb ha).2 (by decide)) hq)] rfl (by unfold Z9; rw [e]; rfl) trivial
theorem Q0r {a b:Pt} {q:Rat} {c:List (List Int)} (ha:Rs a.c) (hb:Rs b.c) (hq:Qs 1000000 q):Qc Tryz.prog 288 [.one (.int .i64 2),.agg (aq q c),.one (.row [rpt a,rpt b])] [.agg (rct (Z9 (sgq q) a b))] :=
  w tt Tryz.func288 rfl [.c [] (Qt7 ha hb hq)] rfl rfl trivial
def Mw (q:Rat) (l:List Pt):List Ct:=if l.length=0 then [] else Z5 Km ((L9 (S8 q) (Z5 W9 l).length (Z5 W9 l)).2.map fun m=>Z9 (sgq q) m.1 m.2)
theorem Qrm (q:Rat) {l:List Pt} (hn:l.length≤1000):(Mw q l).length≤1000000:=by
  unfold Mw
  split
  · exact Nat.zero_le _
  · have hs:(Z5 W9 l).length=l.length:=Vg _ _
    obtain ⟨_,_,h3⟩:=Dk (S8 q) (Z5 W9 l).length (Z5 W9 l) (by omega) (Nat.le_refl _)
    rw [Vg,List.length_map]; omega
theorem Qdv {l:List Pt} {q:Rat} {cs:List (List Int)} (hl:∀ p∈l,Rs p.c) (hn:l.length≤1000) (hq:Qs 1000000 q):Qc Tryz.prog 257 [.one (.row (Q0 l)),.agg (aq q cs)] [.one (.row (Jm (Mw q l)))]:=by
  have hcl:=J8 l
  by_cases h0:l.length=0
  · have e:Mw q l=[]:=if_pos h0
    rw [e]
    exact w tt Tryz.func257 rfl [.t (decide_eq_true (by omega))] rfl rfl trivial
  have e:Mw q l=Z5 Km ((L9 (S8 q) (Z5 W9 l).length (Z5 W9 l)).2.map fun m=>Z9 (sgq q) m.1 m.2):=if_neg h0
  rw [e]
  have c1:=Qm2 (l:=l) (by omega)
  have hML:(Z5 W9 l).length=l.length:=Vg _ _
  have hMl:∀ p∈Z5 W9 l,Rs p.c:=fun p hp=>hl p (Mf.1 hp)
  obtain ⟨M,hM⟩:∃ M,M=Z5 W9 l:=⟨_,rfl⟩
  rw [←hM] at c1 hML hMl ⊢
  have c2:=M6 (c:=cs) hq M.length M (by omega) (Nat.le_refl _) (by omega) hMl
  obtain ⟨b1,b2,b3⟩:=Dk (S8 q) M.length M (by omega) (Nat.le_refl _)
  generalize L9 (S8 q) M.length M=B at *
  have gl:=Fq B.2
  obtain ⟨C,hC⟩:∃ C,C=B.2.map fun m=>Z9 (sgq q) m.1 m.2:=⟨_,rfl⟩
  rw [←hC]
  have hCl:C.length=B.2.length:=by rw [hC,List.length_map]
  have c3:=Q0q (l:=C) (by omega)
  refine Z1 Tryz.func257 rfl ?_
  refine go tt [.f (decide_eq_false (by omega)),.c [] c1,.c [] c2,.o 7 265 9] rfl trivial ?_
  refine lp (S:=Nat) 3 (fun L1 i=>(21,.v (.one (.int .i64 (i:Int))))::(7,.v (.one (.orow 2 9 none)))::L1) (fun i=>[.blk 102 (aq q cs),.blk 112 (rpt B.1),.row false 265 9 (Jm (C.take i))]) (fun i=>B.2.length-i) (fun i=>i≤B.2.length) 0 (Nat.zero_le _) rfl (fun _ _=>rfl) rfl fun i hi=>?_
  have htl:(Jm (C.take i)).length=i:=by rw [Rx,List.length_take]; omega
  by_cases hlt:i<B.2.length
  · obtain ⟨m,hm⟩:∃ m,B.2[i]? = some m:=⟨_,List.getElem?_eq_getElem hlt⟩
    obtain ⟨m1,m2⟩:=b2 m (List.mem_of_getElem? hm)
    have hg:(Ry B.2)[i]? = some (rgm m):=Zq hm
    have hs:C.take (i+1)=C.take i++[Z9 (sgq q) m.1 m.2]:=by
      rw [hC,List.take_succ,List.getElem?_map,hm]; rfl
    have hm9:∀ y∈[rct (Z9 (sgq q) m.1 m.2)],y.length=9:=fun y hy=>by rw [List.mem_singleton.1 hy]; rfl
    refine go tt [.t (decide_eq_true (by omega)),.x hg,.i 0,.x hg,.i 1,.c [] (Q0r (hMl _ m1) (hMl _ m2) hq),.s (sz:=9) hm9] rfl (by simp [Qa,htl]; omega) ?_
    exact rd (i+1) (by omega) hlt (by rw [hs]; simp [Jm]; rfl)
  · have e:C.take i=C:=List.take_of_length_le (by omega)
    rw [e]
    exact en tt [.f (decide_eq_false (by omega)),.c [] c3] rfl rfl (by simp [Qa] <;> omega)
theorem Qqf {l:List Pt} {q:Rat} {cs:List (List Int)} (hl:∀ p∈l,Rs p.c) (hn:l.length≤1000) (hq:Qs 1000000 q):Qc Tryz.prog 209 [.one (.int .i64 1),.one (.row (Q0 l)),.agg (aq q cs)] [.one (.row (Jm (Mw q l)))] :=
  w tt Tryz.func209 rfl [.f rfl,.t rfl,.c [] (Qdv hl hn hq)] rfl rfl trivial
theorem Qjl {l:List Pt} {q:Rat} {cs:List (List Int)} (hl:∀ p∈l,Rs p.c) (hn:l.length≤1000) (hq:Qs 1000000 q):Qc Tryz.prog 149 [.one (.int .i64 1),.one (.row (Q0 l)),.agg (aq q cs)] [.one (.row (Jm (Mw q l)))] :=
  w tt Tryz.func149 rfl [.c [] (Qqf hl hn hq)] rfl rfl trivial
theorem Qjx {M:List Pt} {q:Rat} {c:List (List Int)} (hM:∀ p∈M,Rs p.c) (hl:M.length≤1000) (hq:Qs 1000000 q) (hC:Ql7 q c):Xa Tryz.prog 91 [.one (.ow 0 0)] [.blk 134 (plZ M q)] [] [.blk 134 (plB M q c (Mw q M))]:=by
  refine Z1 Tryz.func91 rfl ?_
  exact ed tt [] [0] [.c [] (Qgi hq hC),.c [] (Qjl (cs:=c) hM hl hq),.c [] (Qt6 (Qrm q hl))] rfl trivial
end Orr

namespace Orr
open Go Go.Proofs Orq
set_option maxRecDepth 10000
abbrev Xw (c:Cr) (r0:List (List LV)) (r1:List (List LV)×List (List LV)):List LV:=.bool true::pl c.now.p::sg c.now.lo.num::mg c.now.lo.num::sg (c.now.lo.den:Int)::mg (c.now.lo.den:Int)::sg c.now.hi.num::mg c.now.hi.num::sg (c.now.hi.den:Int)::mg (c.now.hi.den:Int)::.row (Tj c.l)::.int .i64 c.ev::[.row r0,.row r1.1,.row r1.2]
abbrev Qul (r0:LV) (r1:LV×LV):List LV:=[.bool false,.nils,.bool false,.nils,.bool false,.nils,.bool false,.nils,.bool false,.nils,.nils,.int .i64 0,r0,r1.1,r1.2]
theorem Qju {T:Nat} {c:Cr} {r0:List (List LV)} {r1:List (List LV)×List (List LV)} (hc:Va c.now):Xa Tryz.prog 134 [.one (.ow 0 0)] [.blk T (Xw c r0 r1)] [.agg (ta c.now)] [.blk T (Xw c r0 r1)]:=by
  have cl:=Tq (b:=c.now) (l:=[]) hc.tb (fun t ht=>by cases ht) (by decide) rfl
  refine Z1 Tryz.func134 rfl ?_
  exact ed tt [] [0] [.f rfl,.c [] cl] rfl trivial
theorem Il {T:Nat} {c:Cr} {r0:List (List LV)} {r1:List (List LV)×List (List LV)} (hc:CrOk c):Xa Tryz.prog 37 [.one (.ow 0 0)] [.blk T (Xw c r0 r1)] [.one (.row (Z2 (Z4 (c.l.map (·.c)))))] [.blk T (Xw c r0 r1)]:=by
  have hk:=hc.k
  have hw:=Ui c.l
  refine Z1 Tryz.func37 rfl ?_
  refine go tt [.o 3 161 7] rfl trivial ?_
  refine lp (S:=Nat) 2 (fun L1 i=>(11,.v (.one (.int .i64 (i:Int))))::(3,.v (.one (.orow 1 7 none)))::L1) (fun i=>[.blk T (Xw c r0 r1),.row false 161 7 (Z2 ((c.l.map (·.c)).take i))]) (fun i=>c.l.length-i) (fun i=>i≤c.l.length) 0 (Nat.zero_le _) rfl (fun _ _=>rfl) rfl fun i hi=>?_
  by_cases hlt:i<c.l.length
  · obtain ⟨x,hx⟩:∃ x,c.l[i]? = some x:=⟨_,List.getElem?_eq_getElem hlt⟩
    have hm:∀ y∈[Qaa x.c],y.length=7:=fun y hy=>by rw [List.mem_singleton.1 hy]; rfl
    have hg:(c.l.map (·.c)).take (i+1)=(c.l.map (·.c)).take i++[x.c]:=by
      rw [List.take_succ,List.getElem?_map,hx]; rfl
    have hl:decide ((i:Int)<((Tj c.l).length:Int))=true:=by simp [hw]; omega
    obtain ⟨xc,xk,xf⟩:=x
    cases xf <;> (refine go tt [.t hl,.x (Y6 hx),.s (sz:=7) hm] rfl (by simp [Qa,Uk]; omega) ?_; exact rd (i+1) (by omega) hlt (by rw [hg]; simp [Z2]; rfl))
  · obtain rfl:i=c.l.length:=by omega
    have e:(c.l.map (·.c)).take c.l.length=c.l.map (·.c):=List.take_of_length_le (by simp)
    rw [e]
    have cs:=Qjs (l:=c.l.map (·.c)) (fun x hx=>by
      obtain ⟨w,hw,rfl⟩:=List.mem_map.1 hx
      exact Dp.pb (hc.l w hw).p.dp) (by simp; omega)
    exact ed tt [] [0] [.f (by simp [hw]),.c [] cs] rfl trivial
theorem Q0a {T:Nat} {c:Cr} {r0:List (List LV)} {r1:List (List LV)×List (List LV)} {x:Ct} {at_:Tm} {w:Wt} (hc:CrOk c) (hx:Cp x.p) (ha:Va at_) (h:Fi c.l x at_=some w):Xa Tryz.prog 173 [.one (.ow 0 0),.agg (Qaa x),.agg (ta at_)] [.blk T (Xw c r0 r1)] [.agg (wl w)] [.blk T (Xw c r0 r1)]:=by
  have hk:=hc.k
  have hw:=Ui c.l
  refine Z1 Tryz.func173 rfl ?_
  refine go tt [] rfl trivial ?_
  refine lp (S:=Nat) 4 (fun L1 i=>(14,.v (.one (.int .i64 (i:Int))))::L1) (fun _=>[.blk T (Xw c r0 r1),.blk 161 (Qaa x),.blk 67 (ta at_),.blk 164 [.int .i64 0,.int .i64 0,.int .i64 0,.int .i64 0,.int .i64 0,.nils,.int .i64 0,.bool false,.bool false,.nils,.bool false,.nils,.bool false,.nils,.bool false,.nils,.bool false,.nils]]) (fun i=>c.l.length-i) (fun i=>i≤c.l.length∧Fi (c.l.drop i) x at_=some w) 0 ⟨Nat.zero_le _,h⟩ rfl (fun _ _=>rfl) rfl fun i ⟨hi,hf⟩=>?_
  by_cases hlt:i<c.l.length
  · obtain ⟨v,hv⟩:∃ v,c.l[i]? = some v:=⟨_,List.getElem?_eq_getElem hlt⟩
    have hdr:c.l.drop i=v::c.l.drop (i+1):=by
      rw [List.drop_eq_getElem_cons hlt]; congr 1
      have:=List.getElem?_eq_getElem hlt; rw [hv] at this; injection this with this; exact this.symm
    have hvo:=hc.l v (List.mem_of_getElem? hv)
    rw [hdr] at hf
    simp only [Fi] at hf
    have hl:decide ((i:Int)<((Tj c.l).length:Int))=true:=by simp [hw]; omega
    by_cases A:Qx3 v.c x=true
    · have A':(!decide ([v.c.kind,v.c.i0,v.c.i1,v.c.i2,v.c.i3]=[x.kind,x.i0,x.i1,x.i2,x.i3]))=false:=by
        unfold Qx3 at A; rw [A]; rfl
      by_cases B:v.known=true
      · have B':(!v.known)=false:=by rw [B]; rfl
        have cs:=Qz1 (p:=v.c.p) (q:=x.p) (Dp.pb hvo.p.dp).ln (Dp.pb hx.dp).ln (Dp.pb hvo.p.dp).bd (Dp.pb hx.dp).bd
        rw [hvo.p.t,hx.t] at cs
        by_cases C:v.c.p=x.p
        · have C':(!decide (v.c.p=x.p))=false:=by simp [C]
          rw [if_pos ⟨A,B,C⟩] at hf
          obtain ⟨vc,vk,vf⟩:=v
          cases vf with
          |
           none =>
           injection hf with hf; subst hf
           exact ed tt [] [0] [.t hl,.x (Y6 hv),.g 24 false A',.g 29 false B',.c [] cs,.f C',.g 41 true rfl,.t rfl] rfl trivial
          |
           some t =>
           obtain ⟨r,r1',hf⟩:=Option.bind_eq_some_iff.1 hf
           have cc:=Qdi (hvo.f t rfl).tb ha.tb r1'
           by_cases D:0<r
           · rw [if_pos D] at hf
             injection hf with hf; subst hf
             exact ed tt [] [0] [.t hl,.x (Y6 hv),.g 24 false A',.g 29 false B',.c [] cs,.f C',.g 41 false rfl,.c [] cc,.t (by simpa using D)] rfl trivial
           · rw [if_neg D] at hf
             refine go tt [.t hl,.x (Y6 hv),.g 24 false A',.g 29 false B',.c [] cs,.f C',.g 41 false rfl,.c [] cc,.f (by simpa using D)] rfl (by simp [Qa]; omega) ?_
             exact rd (i+1) (by omega) ⟨hlt,hf⟩ rfl
        · rw [if_neg fun h=>C h.2.2] at hf
          refine go tt [.t hl,.x (Y6 hv),.g 24 false A',.g 29 false B',.c [] cs,.t (by simp [C])] rfl (by simp [Qa]; omega) ?_
          exact rd (i+1) (by omega) ⟨hlt,hf⟩ rfl
      · rw [if_neg fun h=>B h.2.1] at hf
        refine go tt [.t hl,.x (Y6 hv),.g 24 false A',.g 29 true (by simpa using B),.t rfl] rfl (by simp [Qa]; omega) ?_
        exact rd (i+1) (by omega) ⟨hlt,hf⟩ rfl
    · rw [if_neg fun h=>A h.1] at hf
      refine go tt [.t hl,.x (Y6 hv),.g 24 true (by rw [show decide ([v.c.kind,v.c.i0,v.c.i1,v.c.i2,v.c.i3]=[x.kind,x.i0,x.i1,x.i2,x.i3])=false from Bool.eq_false_iff.2 A]; rfl),.g 29 true rfl,.t rfl] rfl (by simp [Qa]; omega) ?_
      exact rd (i+1) (by omega) ⟨hlt,hf⟩ rfl
  · obtain rfl:i=c.l.length:=by omega
    rw [List.drop_length] at hf
    simp only [Fi] at hf
    injection hf with hf; subst hf
    exact ed tt [] [0] [.f (by simp [hw])] rfl trivial
theorem Q0c {T:Nat} {c:Cr} {r0:List (List LV)} {r1:List (List LV)×List (List LV)} {at_:Tm} {l:List Ct} {ws:List Wt} (hc:CrOk c) (ha:Va at_) (hl:∀ x∈l,Cp x.p) (hn:l.length≤1000) (h:Bv c.l at_ (Z4 l)=some ws):Xa Tryz.prog 124 [.one (.ow 0 0),.agg (ta at_),.one (.bool true),.one (.row (Z2 l))] [.blk T (Xw c r0 r1)] [] [.blk T (Xw ⟨at_,ws,c.ev⟩ r0 r1)]:=by
  have cs:=Qjs (l:=l) (fun x hx=>Dp.pb (hl x hx).dp) (by omega)
  have cl:=Tq (b:=at_) (l:=[]) ha.tb (fun t ht=>by cases ht) (by decide) rfl
  obtain ⟨h1,h2⟩:=Bw h
  have hs:(Z4 l).length=l.length:=U8 l
  refine Z1 Tryz.func124 rfl ?_
  refine go tt [.o 8 164 18,.c [] cs] rfl trivial ?_
  refine lp (S:=Nat) 3 (fun L1 i=>(15,.v (.one (.int .i64 (i:Int))))::(8,.v (.one (.orow 2 18 none)))::L1) (fun i=>[.blk T (Xw c r0 r1),.blk 67 (ta at_),.row false 164 18 (Tj (ws.take i))]) (fun i=>ws.length-i) (fun i=>i≤ws.length) 0 (Nat.zero_le _) rfl (fun _ _=>rfl) rfl fun i hi=>?_
  by_cases hlt:i<ws.length
  · obtain ⟨x,hx⟩:∃ x,(Z4 l)[i]? = some x:=⟨_,List.getElem?_eq_getElem (by omega)⟩
    obtain ⟨w,hw,hw'⟩:=h2 i x hx
    have hm:∀ y∈[wl w],y.length=18:=fun y hy=>by rw [List.mem_singleton.1 hy]; rfl
    have hlt':decide ((i:Int)<((Z2 (Z4 l)).length:Int))=true:=by simp [Z2]; omega
    have ck:=Q0a (T:=T) (r0:=r0) (r1:=r1) hc (hl x (Me (List.mem_of_getElem? hx))) ha hw
    have hg:=L6 hw'
    obtain ⟨wc,wk,wf⟩:=w
    cases wf <;> (refine go tt [.t hlt',.x (Dr hx),.t rfl,.c [0] ck,.s (sz:=18) hm] rfl (by simp [Qa,Ui]; omega) ?_; exact rd (i+1) (by omega) hlt (by rw [hg]; rfl))
  · obtain rfl:i=ws.length:=by omega
    rw [List.take_length]
    have hge:decide ((ws.length:Int)<((Z2 (Z4 l)).length:Int))=false:=by simp [Z2]; omega
    exact ed tt [] [0] [.f hge,.p 2,.c [] cl] rfl trivial
theorem Q0b {T:Nat} {r0:List (List LV)} {r1:List (List LV)×List (List LV)} {at_:Tm} {l:List Ct} (ha:Va at_) (hl:∀ x∈l,Cp x.p) (hn:l.length≤1000):Xa Tryz.prog 124 [.one (.ow 0 0),.agg (ta at_),.one (.bool false),.one (.row (Z2 l))] [.blk T (Qul (.row r0) (.row r1.1,.row r1.2))] [] [.blk T (Xw ⟨at_,(Z4 l).map fresh,0⟩ r0 r1)]:=by
  have cs:=Qjs (l:=l) (fun x hx=>Dp.pb (hl x hx).dp) (by omega)
  have cl:=Tq (b:=at_) (l:=[]) ha.tb (fun t ht=>by cases ht) (by decide) rfl
  have hs:(Z4 l).length=l.length:=U8 l
  refine Z1 Tryz.func124 rfl ?_
  refine go tt [.o 8 164 18,.c [] cs] rfl trivial ?_
  refine lp (S:=Nat) 3 (fun L1 i=>(15,.v (.one (.int .i64 (i:Int))))::(8,.v (.one (.orow 2 18 none)))::L1) (fun i=>[.blk T (Qul (.row r0) (.row r1.1,.row r1.2)),.blk 67 (ta at_),.row false 164 18 (Tj (((Z4 l).map fresh).take i))]) (fun i=>l.length-i) (fun i=>i≤l.length) 0 (Nat.zero_le _) rfl (fun _ _=>rfl) rfl fun i hi=>?_
  by_cases hlt:i<l.length
  · obtain ⟨x,hx⟩:∃ x,(Z4 l)[i]? = some x:=⟨_,List.getElem?_eq_getElem (by omega)⟩
    have hm:∀ y∈[wl (fresh x)],y.length=18:=fun y hy=>by rw [List.mem_singleton.1 hy]; rfl
    have hlt':decide ((i:Int)<((Z2 (Z4 l)).length:Int))=true:=by simp [Z2]; omega
    have hg:=L6 (l:=(Z4 l).map fresh) (i:=i) (w:=fresh x) (by rw [List.getElem?_map,hx]; rfl)
    refine go tt [.t hlt',.x (Dr hx),.z 20,.f rfl,.s (sz:=18) hm] rfl (by simp [Qa,Ui]; omega) ?_
    exact rd (i+1) (by omega) hlt (by rw [hg]; rfl)
  · obtain rfl:i=l.length:=by omega
    rw [List.take_of_length_le (by simp; omega)]
    have hge:decide ((l.length:Int)<((Z2 (Z4 l)).length:Int))=false:=by simp [Z2]; omega
    exact ed tt [] [0] [.f hge,.p 2,.c [] cl] rfl trivial
theorem Qp4 {T:Nat} {r0:List (List LV)} {r1:List (List LV)×List (List LV)} {at_:Tm} {l:List Ct} (ha:Va at_) (hl:∀ x∈l,Cp x.p) (hn:l.length≤1000):Xa Tryz.prog 79 [.one (.ow 0 0),.agg (ta at_),.one (.row (Z2 l))] [.blk T (Qul (.row r0) (.row r1.1,.row r1.2))] [] [.blk T (Xw ⟨at_,(Z4 l).map fresh,0⟩ r0 r1)]:=by
  have cl:=Q0b (T:=T) (r0:=r0) (r1:=r1) ha hl hn
  refine Z1 Tryz.func79 rfl ?_
  exact ed tt [] [0] [.g 12 false rfl,.c [0] cl] rfl trivial
theorem Q0d {T:Nat} {c:Cr} {r0:List (List LV)} {r1:List (List LV)×List (List LV)} {ws:List Wt} (hc:CrOk c) (h:Sr c.now c.l=some ws):Xa Tryz.prog 195 [.one (.ow 0 0)] [.blk T (Xw c r0 r1)] [] [.blk T (Xw { c with l:=ws } r0 r1)]:=by
  have hk:=hc.k
  have hw:=Ui c.l
  obtain ⟨h1,h2⟩:=Lh h
  refine Z1 Tryz.func195 rfl ?_
  refine go tt [.o 2 164 18,.c [0] (Qju hc.n)] rfl trivial ?_
  refine lp (S:=Nat) 3 (fun L1 i=>(13,.v (.one (.int .i64 (i:Int))))::(2,.v (.one (.orow 1 18 none)))::L1) (fun i=>[.blk T (Xw c r0 r1),.row false 164 18 (Tj (ws.take i)),.blk 67 (ta c.now)]) (fun i=>c.l.length-i) (fun i=>i≤c.l.length) 0 (Nat.zero_le _) rfl (fun _ _=>rfl) rfl fun i hi=>?_
  by_cases hlt:i<c.l.length
  · obtain ⟨w,hx⟩:∃ w,c.l[i]? = some w:=⟨_,List.getElem?_eq_getElem hlt⟩
    obtain ⟨v,hv,h3⟩:=h2 i w hx
    have hm:∀ y∈[wl v],y.length=18:=fun y hy=>by rw [List.mem_singleton.1 hy]; rfl
    have hg:=L6 hv
    have hl:decide ((i:Int)<((Tj c.l).length:Int))=true:=by simp [hw]; omega
    rcases h3 with ⟨k1,rfl⟩ | ⟨k1,r,k2,rfl⟩
    · obtain ⟨vc,vk,vf⟩:=v
      cases vf <;> (refine go tt [.t hl,.x (Y6 hx),.f (by rw [show vk=true from k1]; rfl),.s (sz:=18) hm] rfl (by simp [Qa,Ui]; omega) ?_; exact rd (i+1) (by omega) hlt (by rw [hg]; rfl))
    · have cg:=Qss (hc.l w (List.mem_of_getElem? hx)).p hc.n k2
      obtain ⟨wc,wk,wf⟩:=w
      cases r <;> cases wf <;> (refine go tt [.t hl,.x (Y6 hx),.t (by rw [show wk=false from k1]; rfl),.c [] cg,.s (sz:=18) hm] rfl (by simp [Qa,Ui]; omega) ?_; exact rd (i+1) (by omega) hlt (by rw [hg]; rfl))
  · obtain rfl:i=c.l.length:=by omega
    rw [←h1,List.take_length]
    exact ed tt [1] [0] [.f (by simp [hw,h1])] rfl trivial
theorem Q0e {T:Nat} {c:Cr} {r0:List (List LV)} {r1:List (List LV)×List (List LV)} {ws:List Wt} {r:Option Tm} (hc:CrOk c) (h:Sr c.now c.l=some ws) (hr:Qh1 ws=some r):Xa Tryz.prog 135 [.one (.ow 0 0)] [.blk T (Xw c r0 r1)] [.agg (ota r),.one (.bool r.isSome)] [.blk T (Xw { c with l:=ws } r0 r1)]:=by
  have hcl:=Q0d (T:=T) (r0:=r0) (r1:=r1) hc h
  have hc':=As hc h
  have hk:=hc'.k
  have hw:=Ui ws
  have hvb:∀ t∈ws.filterMap (·.fails),Tb t:=fun t ht=>by
    obtain ⟨w,w1,w2⟩:=List.mem_filterMap.1 ht
    exact ((hc'.l w w1).f t w2).tb
  refine Z1 Tryz.func135 rfl ?_
  refine go tt [.c [0] hcl,.o 4 67 9] rfl trivial ?_
  refine lp (S:=Nat) 3 (fun L1 i=>(14,.v (.one (.int .i64 (i:Int))))::(4,.v (.one (.orow 2 9 none)))::L1) (fun i=>[.blk T (Xw { c with l:=ws } r0 r1),.blk 67 zTm,.row false 67 9 (tal ((ws.take i).filterMap (·.fails)))]) (fun i=>ws.length-i) (fun i=>i≤ws.length) 0 (Nat.zero_le _) rfl (fun _ _=>rfl) rfl fun i hi=>?_
  by_cases hlt:i<ws.length
  · obtain ⟨w,hx⟩:∃ w,ws[i]? = some w:=⟨_,List.getElem?_eq_getElem hlt⟩
    have hl:decide ((i:Int)<((Tj ws).length:Int))=true:=by simp [hw]; omega
    have hfl:((ws.take i).filterMap (·.fails)).length≤i:=Nat.le_trans (List.length_filterMap_le _ _) (by rw [List.length_take]; omega)
    have hg:(ws.take (i+1)).filterMap (·.fails)=(ws.take i).filterMap (·.fails)++(match w.fails with | none=>[] | some t=>[t]):=by
      rw [List.take_succ,hx,List.filterMap_append]
      show _++List.filterMap (·.fails) [w]=_
      cases hwf:w.fails <;> simp [hwf]
    obtain ⟨wc,wk,wf⟩:=w
    have hk:ws.length≤1000:=hk
    cases wf with
    |
     none =>
     refine go tt [.t hl,.x (Y6 hx),.f rfl] rfl (by simp [Qa]; omega) ?_
     exact rd (i+1) (by omega) hlt (by rw [hg]; simp; rfl)
    |
     some t =>
     refine go tt [.t hl,.x (Y6 hx),.t rfl,.s (l:=[ta t]) (sz:=9) (fun c hc=>by rw [List.mem_singleton.1 hc]; rfl)] rfl (by simp [Qa]; omega) ?_
     exact rd (i+1) (by omega) hlt (by rw [hg]; simp [tal]; rfl)
  · obtain rfl:i=ws.length:=by omega
    rw [List.take_length]
    have hf:decide ((ws.length:Int)<((Tj ws).length:Int))=false:=by simp [hw]
    have hln:(ws.filterMap (·.fails)).length≤1000:=Nat.le_trans (List.length_filterMap_le _ _) hk
    unfold Qh1 at hr
    cases hfm:ws.filterMap (·.fails) with
    |
     nil =>
     rw [hfm] at hr
     injection hr with hr; subst hr
     exact ed tt [] [0] [.f hf,.p 2,.c [] Qsv] rfl trivial
    |
     cons b l =>
     rw [hfm] at hr hvb hln
     obtain ⟨m,m1,rfl⟩:=Option.map_eq_some_iff.1 hr
     have cl:=Tq (hvb b (List.mem_cons_self ..)) (fun t ht=>hvb t (List.mem_cons_of_mem _ ht)) (by simp at hln; omega) m1
     exact ed tt [] [0] [.f hf,.p 2,.c [] cl] rfl trivial
theorem Q8h {T:Nat} {t:Rat} {Bc:Tm→List Ct} {Br:Tm→List (List LV)×List (List LV)} {r0:List (List LV)} (ht:Qs 900 t) (hB:BuildOk Bc)
    (hb:∀ a c r1,Va a→CrOk c→Xa Tryz.prog 84 [.one (.ow 0 0),.agg (ta a)] [.blk T (Xw c r0 r1)] [.one (.row (Z2 (Bc a)))] [.blk T (Xw c r0 (Br a))])
    {K:Nat} {c c':Cr} {r1 r1':List (List LV)×List (List LV)} {n:Int} (hc:CrOk c) (hev:0≤c.ev∧c.ev+K≤1000000000000000000) (h:Qt c.now t≤0) (hg:goF Bc Br t K c r1 0=some (c',r1',n)) :
    Xa Tryz.prog 81 [.one (.ow 0 0),.agg (rl t),.one (.ofn 84 [.ow 0 0] [])] [.blk T (Xw c r0 r1)] [.one (.int .i64 n),.one (.int .i64 0)] [.blk T (Xw c' r0 r1')]:=by
  have qt:Qb t:=ht.mono (by decide)
  have c1:=Dl hc.n.tb qt
  refine Z1 Tryz.func81 rfl ?_
  refine go tt [.c [0] (Qju hc.n),.c [] c1,.f (by simpa using h)] rfl trivial ?_
  refine lp (S:=Nat×Cr×(List (List LV)×List (List LV))×Int) 2 (fun L1 s=>(8,.v (.one (.int .i64 s.2.2.2)))::L1) (fun s=>[.blk T (Xw s.2.1 r0 s.2.2.1),.blk 41 (rl t)]) (fun s=>s.1) (fun s=>CrOk s.2.1∧(0≤s.2.1.ev∧s.2.1.ev+s.1≤1000000000000000000)∧(0≤s.2.2.2∧s.2.2.2+s.1≤1000000000000000000)∧goF Bc Br t s.1 s.2.1 s.2.2.1 s.2.2.2=some (c',r1',n)) (K,c,r1,0) ⟨hc,hev,⟨Int.le_refl 0,by dsimp only; omega⟩,hg⟩ rfl (fun _ _=>rfl) rfl fun ⟨k,x,r,m⟩ ⟨j1,j2,j3,j4⟩=>?_
  dsimp only at j1 j2 j3 j4 ⊢
  cases k with
  | zero=>cases j4
  |
   succ k =>
   simp only [goF] at j4
   obtain ⟨ws,w1,j4⟩:=Option.bind_eq_some_iff.1 j4
   obtain ⟨o,o1,j4⟩:=Option.bind_eq_some_iff.1 j4
   have cn:=Q0e (T:=T) (r0:=r0) (r1:=r) j1 w1 o1
   have ca:=Q3w (Qf t.num) (Qf (t.den:Int)) (Nat.le_trans ht.1 (by decide)) (Nat.le_trans ht.2 (by decide)) (by rw [Rw]; exact ht.mono (by decide))
   rw [Rw] at ca
   cases o with
   |
    none =>
    injection j4 with j4; injection j4 with e1 j4; injection j4 with e2 e3
    subst e1; subst e2; subst e3
    exact ed tt [] [0] [.c [0] cn,.g 25 true rfl,.t rfl,.c [] ca] rfl trivial
   |
    some a =>
    have ha:=Q6n j1 w1 o1
    dsimp only at j4
    have cc:=Dl ha.tb qt
    by_cases h0:0<Qt a t
    · rw [if_pos h0] at j4
      injection j4 with j4; injection j4 with e1 j4; injection j4 with e2 e3
      subst e1; subst e2; subst e3
      exact ed tt [] [0] [.c [0] cn,.g 25 false rfl,.c [] cc,.t (by simpa using h0),.c [] ca] rfl trivial
    · rw [if_neg h0] at j4
      obtain ⟨w2,l1,j4⟩:=Option.bind_eq_some_iff.1 j4
      have j1':=As j1 w1
      have cl:=Tq (b:=a) (l:=[]) ha.tb (fun t ht=>by cases ht) (by decide) rfl
      have cb:=hb a { x with l:=ws } r ha j1'
      have cy:=Q0c (T:=T) (r0:=r0) (r1:=Br a) j1' ha (hB.p a ha) (hB.n a ha) l1
      have hf:decide (0<Qt a t)=false:=by simpa using h0
      refine go tt [.c [0] cn,.g 25 false rfl,.c [] cc,.f hf,.c [] cl,.c [0] cb,.c [0] cy] rfl (by simp [Qa]; omega) ?_
      exact rd (k,⟨a,w2,x.ev+1⟩,Br a,m+1) (by dsimp only; omega) ⟨lay_ok _ j1' ha (hB.p a ha) (hB.n a ha) l1,by dsimp only; omega,by dsimp only; omega,j4⟩ rfl
theorem Qp7 {T:Nat} {t:Rat} {c:Cr} {r0:List (List LV)} {r1:List (List LV)×List (List LV)} (ht:Qb t) (hc:Va c.now) (h:0<Qt c.now t) :
    Xa Tryz.prog 81 [.one (.ow 0 0),.agg (rl t),.one (.ofn 84 [.ow 0 0] [])] [.blk T (Xw c r0 r1)] [.one (.int .i64 0),.one (.int .i64 8)] [.blk T (Xw c r0 r1)]:=by
  refine Z1 Tryz.func81 rfl ?_
  exact ed tt [] [0] [.c [0] (Qju hc),.c [] (Dl hc.tb ht),.t (by simpa using h)] rfl trivial
theorem Pu {T:Nat} {c:Cr} {r0:List (List LV)} {r1:List (List LV)×List (List LV)}:Xa Tryz.prog 34 [.one (.ow 0 0)] [.blk T (Xw c r0 r1)] [.one (.int .i64 c.ev)] [.blk T (Xw c r0 r1)]:=by
  refine Z1 Tryz.func34 rfl ?_
  exact ed tt [] [0] [] rfl trivial
end Orr

namespace Orr
open Go
def Du (q:List Int→Int) (a b:Pt):Pt×Pt:=if Vn q a b=true then (a,b) else (b,a)
def Hw (q:List Int→Int):Nat→List Pt→List Pt×List (Pt×Pt)
  | 0,l=>(l,[])
  |
   k+1,l=>if l.length<2 then (l,[]) else
   match (Hw q k (l.take ((l.length+1) / 2))).1,(Hw q k (l.drop ((l.length+1) / 2))).1 with
   | a::_,b::_=>([(Du q a b).1],(Hw q k (l.take ((l.length+1) / 2))).2++(Hw q k (l.drop ((l.length+1) / 2))).2++[Du q a b])
   | _,_=>([],[])
theorem Wn (q:List Int→Int):∀ (k:Nat) (l:List Pt),l.length≤k→Hw q k l=Hw q l.length l
  | 0,l,h=>by rw [show l.length=0 by omega]
  |
   k+1,l,h=>by
   cases hl:l.length with
   | zero=>simp [Hw,hl]
   |
    succ m =>
    simp only [Hw]
    by_cases h2:l.length<2
    · rw [if_pos h2,if_pos h2]
    · rw [if_neg h2,if_neg h2]
      have h3:(l.take ((l.length+1) / 2)).length≤m:=by rw [List.length_take]; omega
      have h4:(l.drop ((l.length+1) / 2)).length≤m:=by rw [List.length_drop]; omega
      rw [Wn q k (l.take ((l.length+1) / 2)) (by omega),Wn q k (l.drop ((l.length+1) / 2)) (by omega),Wn q m (l.take ((l.length+1) / 2)) h3,Wn q m (l.drop ((l.length+1) / 2)) h4]
termination_by k=>k
def Yq (q:List Int→Int) (l:List Pt):List Pt×List (Pt×Pt):=Hw q l.length l
theorem Yz (q:List Int→Int) {l:List Pt} (h:l.length<2):Yq q l=(l,[]):=by
  unfold Yq
  cases hl:l.length with
  | zero=>rfl
  | succ m=>simp only [Hw]; rw [if_pos h]
theorem U5 (q:List Int→Int) {l:List Pt} (h:¬l.length<2) {a b:Pt} (ha:(Yq q (l.take ((l.length+1) / 2))).1=[a]) (hb:(Yq q (l.drop ((l.length+1) / 2))).1=[b]) :
    Yq q l=([(Du q a b).1],(Yq q (l.take ((l.length+1) / 2))).2++(Yq q (l.drop ((l.length+1) / 2))).2++[Du q a b]):=by
  unfold Yq at ha hb ⊢
  obtain ⟨m,hm⟩:∃ m,l.length=m+1:=⟨l.length-1,by omega⟩
  have h3:(l.take ((l.length+1) / 2)).length≤m:=by rw [List.length_take]; omega
  have h4:(l.drop ((l.length+1) / 2)).length≤m:=by rw [List.length_drop]; omega
  rw [←Wn q m _ h3] at ha ⊢
  rw [←Wn q m _ h4] at hb ⊢
  rw [show Hw q l.length l=Hw q (m+1) l by rw [hm]]
  simp only [Hw]
  rw [if_neg h,ha,hb]
theorem Yd (q:List Int→Int):∀ (k:Nat) (l:List Pt),l.length≤k→0<l.length→∃ a,(Yq q l).1=[a]∧a∈l∧∀ m∈(Yq q l).2,m.1∈l∧m.2∈l
  | 0,l,h,h0=>by omega
  |
   k+1,l,h,h0=>by
   by_cases h2:l.length<2
   · rw [Yz q h2]
     match l,h0,h2 with
     | [a],_,_=>exact ⟨a,rfl,by simp,by simp⟩
   · obtain ⟨a,ha,hal,ham⟩:=Yd q k (l.take ((l.length+1) / 2)) (by rw [List.length_take]; omega) (by rw [List.length_take]; omega)
     obtain ⟨b,hb,hbl,hbm⟩:=Yd q k (l.drop ((l.length+1) / 2)) (by rw [List.length_drop]; omega) (by rw [List.length_drop]; omega)
     rw [U5 q h2 ha hb]
     have hd:(Du q a b).1∈l∧(Du q a b).2∈l:=by
       unfold Du; split
       · exact ⟨List.mem_of_mem_take hal,List.mem_of_mem_drop hbl⟩
       · exact ⟨List.mem_of_mem_drop hbl,List.mem_of_mem_take hal⟩
     refine ⟨_,rfl,hd.1,fun m hm=>?_⟩
     rcases List.mem_append.1 hm with hm | hm
     · rcases List.mem_append.1 hm with hm | hm
       · exact ⟨List.mem_of_mem_take (ham m hm).1,List.mem_of_mem_take (ham m hm).2⟩
       · exact ⟨List.mem_of_mem_drop (hbm m hm).1,List.mem_of_mem_drop (hbm m hm).2⟩
     · rw [List.mem_singleton.1 hm]; exact hd
theorem Jw (q:List Int→Int):∀ (k:Nat) (l:List Pt),l.length≤k→(Yq q l).2.length≤l.length-1
  | 0,l,h=>by rw [Yz q (by omega)]; simp
  |
   k+1,l,h=>by
   by_cases h2:l.length<2
   · rw [Yz q h2]; simp
   · obtain ⟨a,ha,_⟩:=Yd q l.length (l.take ((l.length+1) / 2)) (by rw [List.length_take]; omega) (by rw [List.length_take]; omega)
     obtain ⟨b,hb,_⟩:=Yd q l.length (l.drop ((l.length+1) / 2)) (by rw [List.length_drop]; omega) (by rw [List.length_drop]; omega)
     rw [U5 q h2 ha hb]
     have h3:=Jw q k (l.take ((l.length+1) / 2)) (by rw [List.length_take]; omega)
     have h4:=Jw q k (l.drop ((l.length+1) / 2)) (by rw [List.length_drop]; omega)
     rw [List.length_take] at h3
     rw [List.length_drop] at h4
     simp only [List.length_append,List.length_singleton]
     omega
abbrev E6 (m:Pt×Pt):List LV:=[pl m.1.c.x,pl m.1.c.y,sg m.1.c.d,mg m.1.c.d,.int .i64 m.1.id,pl m.2.c.x,pl m.2.c.y,sg m.2.c.d,mg m.2.c.d,.int .i64 m.2.id]
end Orr

namespace Orq
open Orr Go
def Bx (q:Rat) (x y:Pt):Prop:=py y q<py x q∨py y q=py x q∧(px y q<px x q∨px y q=px x q∧x.id<y.id)
theorem Qv7 (q:Rat) (x:Pt):¬Bx q x x:=by unfold Bx; grind
theorem Q1n (q:Rat) (x y z:Pt) (h:Bx q x y) (h':Bx q y z):Bx q x z:=by unfold Bx at *; grind
theorem Qv8 {q:Rat} {x y:Pt} (h:x.id≠y.id) (h':¬Bx q x y):Bx q y x:=by unfold Bx at *; grind
theorem Qpy {a:Tm} (ha:Va a) {x y:Pt} (hx:Sc x.c) (hy:Sc y.c) {q:Rat} (h1:Hj (Jt a) (Xf y.c x.c)=Qo (Qh (Xf y.c x.c) q)) (h2:Hj (Jt a) (X8 y.c x.c)=Qo (Qh (X8 y.c x.c) q)):Vn (Jt a) x y=true↔Bx q x y:=by
  rw [Qrs hy hx] at h1
  rw [Qrt hy hx] at h2
  have d1:=(Tv hy hx).dp
  have d2:=(Tw hy hx).dp
  unfold Vn
  simp only [Gw]
  have t1:=Zc (py x q-py y q)
  have t2:=Zc (px x q-px y q)
  by_cases e1:(Xf y.c x.c).length=0
  · rw [if_neg (by omega)]
    rw [List.eq_nil_of_length_eq_zero e1,Oo] at h1
    have:py x q=py y q:=by grind
    by_cases e2:(X8 y.c x.c).length=0
    · rw [if_neg (by omega)]
      rw [List.eq_nil_of_length_eq_zero e2,Oo] at h2
      unfold Bx
      simp only [decide_eq_true_eq]
      grind
    · rw [if_pos (by omega)]
      have:=(Bp ha d2 e2).2
      unfold Bx
      simp only [decide_eq_true_eq]
      grind
  · rw [if_pos (by omega)]
    have:=(Bp ha d1 e1).2
    unfold Bx
    simp only [decide_eq_true_eq]
    grind
theorem Qgd {l:List Pt} (hl:∀ p∈l,Sc p.c) {a:Tm} (ha:Va a):∃ y,Qt a y=-1∧∀ q,Qt a q=-1→q≤y→∀ u∈l,∀ v∈l,(Vn (Jt a) u v=true↔Bx q u v):=by
  obtain ⟨y,y1,y2⟩:=Qhc ha (Qa0 l) fun p hp=>(Qdh hl p hp).dp
  refine ⟨y,y1,fun q q1 q2 u hu v hv=>?_⟩
  have h:=y2 q q1 q2
  exact Qpy ha (hl u hu) (hl v hv) (h _ (G8 hv hu).2) (h _ (G8 hv hu).1)
theorem Qkr {a b:Tm} {x y:Pt} (h:Hj (Jt b) (Wl x y)=Hj (Jt a) (Wl x y)):Vn (Jt b) x y=Vn (Jt a) x y:=by
  unfold Wl Rk at h
  unfold Vn
  simp only [Gw]
  by_cases e1:0<(Xf y.c x.c).length
  · rw [if_pos e1,if_pos e1]; rw [if_pos e1] at h; rw [h]
  · rw [if_neg e1,if_neg e1]; rw [if_neg e1] at h; rw [h]
theorem Qkg {l:List Pt} {k:Nat} (h2:¬l.length<2) (hk:l.length≤k+1):(l.take ((l.length+1) / 2)).length≤k∧(l.drop ((l.length+1) / 2)).length≤k∧0<(l.take ((l.length+1) / 2)).length∧0<(l.drop ((l.length+1) / 2)).length:=by
  rw [List.length_take,List.length_drop]; omega
theorem Ln {sa sb:List Int→Int}:∀ (k:Nat) (l:List Pt),l.length≤k→l.Pairwise (fun x y=>x.id≠y.id)→(∀ u∈l,∀ v∈l,u.id≠v.id→Vn sa u v=false→Vn sa v u=true)→(∀ u∈l,∀ v∈l,Vn sb v u=true→Vn sb u v=false)→(∀ m∈(Yq sa l).2,Vn sb m.1 m.2=Vn sa m.1 m.2)→Yq sb l=Yq sa l
  | 0,l,hk,_,_,_,_=>by rw [Yz _ (by omega),Yz _ (by omega)]
  |
   k+1,l,hk,hd,h1,h2,hm=>by
   by_cases hs:l.length<2
   · rw [Yz _ hs,Yz _ hs]
   · obtain ⟨k1,k2,k3,k4⟩:=Qkg hs hk
     obtain ⟨a,ha,hal,_⟩:=Yd sa k (l.take ((l.length+1) / 2)) k1 k3
     obtain ⟨b,hb,hbl,_⟩:=Yd sa k (l.drop ((l.length+1) / 2)) k2 k4
     have hpl:=U5 sa hs ha hb
     rw [hpl] at hm
     have hd':=hd
     rw [←List.take_append_drop ((l.length+1) / 2) l] at hd'
     obtain ⟨d1,d2,d3⟩:=List.pairwise_append.1 hd'
     have i1:=Ln k _ k1 d1 (fun u hu v hv=>h1 u (List.mem_of_mem_take hu) v (List.mem_of_mem_take hv)) (fun u hu v hv=>h2 u (List.mem_of_mem_take hu) v (List.mem_of_mem_take hv)) fun m hm'=>hm m (by simp [hm'])
     have i2:=Ln k _ k2 d2 (fun u hu v hv=>h1 u (List.mem_of_mem_drop hu) v (List.mem_of_mem_drop hv)) (fun u hu v hv=>h2 u (List.mem_of_mem_drop hu) v (List.mem_of_mem_drop hv)) fun m hm'=>hm m (by simp [hm'])
     have hal':=List.mem_of_mem_take hal
     have hbl':=List.mem_of_mem_drop hbl
     have e:Du sb a b=Du sa a b:=by
       have hmem:=hm (Du sa a b) (by simp)
       unfold Du at hmem ⊢
       by_cases h:Vn sa a b=true
       · rw [if_pos h] at hmem ⊢
         rw [if_pos (hmem.trans h)]
       · rw [if_neg h] at hmem ⊢
         have h:Vn sa a b=false:=by simpa using h
         have:=h2 a hal' b hbl' (hmem.trans (h1 a hal' b hbl' (d3 a hal b hbl) h))
         rw [if_neg (by simp [this])]
     rw [hpl,U5 sb hs (by rw [i1]; exact ha) (by rw [i2]; exact hb),i1,i2,e]
end Orq
namespace Orr
open Orq Go
def bcT (l:List Pt) (a:Tm):List Ct:=(Yq (Jt a) l).2.map fun m=>Z9 (Jt a) m.1 m.2
def Ih (l:List Pt) (a:Tm):List (List LV)×List (List LV):=((Yq (Jt a) l).1.map X5,(Yq (Jt a) l).2.map E6)
theorem Fn {sg:List Int→Int} {l:List Pt}:∀ m∈(Yq sg l).2,m.1∈l∧m.2∈l:=fun m hm=>by
  by_cases h:0<l.length
  · obtain ⟨_,_,_,h3⟩:=Yd sg l.length l (Nat.le_refl _) h
    exact h3 m hm
  · rw [Yz _ (by omega)] at hm; cases hm
theorem Q4x {l:List Pt} (hl:∀ p∈l,Sc p.c) {a:Tm}:∀ x∈bcT l a,Cp x.p:=fun x hx=>by
  obtain ⟨m,hm,rfl⟩:=List.mem_map.1 hx
  obtain ⟨h1,h2⟩:=Fn m hm
  exact Qbn (Tv (hl _ h2) (hl _ h1)) (Tw (hl _ h2) (hl _ h1))
theorem Qje {l:List Pt} (hl:∀ p∈l,Sc p.c) (hn:l.length≤1000):BuildOk (bcT l) :=
  ⟨fun a _=>Q4x hl,fun a _=>by
    unfold bcT; rw [List.length_map]
    have:=Jw (Jt a) l.length l (Nat.le_refl _); omega⟩
theorem Qzq {l:List Pt} {a:Tm}:∀ x∈bcT l a,x.p∈Qa0 l:=fun x hx=>by
  obtain ⟨m,hm,rfl⟩:=List.mem_map.1 hx
  obtain ⟨h1,h2⟩:=Fn m hm
  show Wl m.1 m.2∈Qa0 l
  unfold Wl Rk; split
  · exact (G8 h2 h1).2
  · exact (G8 h2 h1).1
theorem Q9k {l:List Pt} (hl:∀ p∈l,Sc p.c) (hn:l.length≤1000) (hd:l.Pairwise fun x y=>x.id≠y.id):Stab (bcT l) (Ih l):=by
  refine ⟨Qje hl hn,⟨Qa0 l,Qdh hl,fun a _ x hx=>?_⟩,fun a b ha hb h=>?_⟩
  · obtain ⟨m,hm,rfl⟩:=List.mem_map.1 hx
    obtain ⟨h1,h2⟩:=Fn m hm
    show Wl m.1 m.2∈Qa0 l
    unfold Wl Rk; split
    · exact (G8 h2 h1).2
    · exact (G8 h2 h1).1
  · obtain ⟨y,y1,y2⟩:=Qgd hl ha
    obtain ⟨z,z1,z2⟩:=Qgd hl hb
    have ga:=y2 y y1 Rat.le_refl
    have gb:=z2 z z1 Rat.le_refl
    have e:Yq (Jt b) l=Yq (Jt a) l:=Ln l.length l (Nat.le_refl _) hd (fun u hu v hv hne hf=>(ga v hv u hu).2 (Qv8 hne fun h=>by
      rw [(ga u hu v hv).2 h] at hf; cases hf)) (fun u hu v hv ht=>by
      cases hb':Vn (Jt b) u v
      · rfl
      · exact absurd (Q1n z u v u ((gb u hu v hv).1 hb') ((gb v hv u hu).1 ht)) (Qv7 z u)) fun m hm=>Qkr (h (Z9 (Jt a) m.1 m.2) (List.mem_map.2 ⟨m,hm,rfl⟩))
    refine ⟨?_,by unfold Ih; rw [e]⟩
    unfold bcT
    rw [e]
    refine List.map_congr_left fun m hm=>?_
    have:=h (Z9 (Jt a) m.1 m.2) (List.mem_map.2 ⟨m,hm,rfl⟩)
    unfold Z9
    rw [show Hj (Jt b) (Wl m.1 m.2)=Hj (Jt a) (Wl m.1 m.2) from this]
end Orr

namespace Orr
open Go Go.Proofs Orq
set_option maxRecDepth 10000
def Xq (l:List (Pt×Pt)):List (List LV):=l.map E6
theorem Qg5 {l m:List (List LV)} (h:l=m):TV.one (LV.row l)=.one (.row m):=h ▸ rfl
theorem oz {P:Program} [Mo P] {n:Nat} {Q:Exit→Sg→List OB→Prop} {L L':Sg} {B B':List OB} (d off T sz:Nat) {it:List It} (hs:Jh it=true) (h:Qri (P:=P) d L B [.oc d off T sz]=some (L',B',[],[])) (k:AK P n Q it L' B'):AK P n Q it L B:=AK.sub (Qe3 h EqOk.nil) hs k
theorem Qml {a b:Pt} {t:Tm} (ha:Sc a.c) (hb:Sc b.c) (ht:Va t):Qc Tryz.prog 132 [.one (.int .i64 2),.agg (ta t),.one (.row [X5 a,X5 b])] [.agg (Qaa (Z9 (Jt t) a b)),.one (.int .i64 0)]:=by
  have h1:=Tv hb ha
  have h2:=Tw hb ha
  refine Z1 Tryz.func132 rfl ?_
  refine go tt [.c [] Qqb,.f rfl] rfl trivial ?_
  refine lp (S:=Nat) 3 (fun L1 i=>(22,.v (.one (.int .i64 (i:Int))))::L1) (fun i=>[.blk 67 (ta t),.blk 161 zCt,.blk 161 [.int .i64 2,.int .i64 (if 1≤i then a.id else 0),.int .i64 (if 2≤i then b.id else 0),.int .i64 0,.int .i64 0,.nils,.int .i64 0]]) (fun i=>2-i) (fun i=>i≤2) 0 (Nat.zero_le _) rfl (fun _ _=>rfl) rfl fun i hi=>?_
  rcases (show i=0∨i=1∨i=2 by omega) with rfl | rfl | rfl
  · refine go tt [.t rfl,.x (i:=0) (xs:=X5 a) rfl,.i 0] rfl (by simp [Qa]) ?_
    exact rd 1 (by omega) (by omega) rfl
  · refine go tt [.t rfl,.x (i:=1) (xs:=X5 b) rfl,.i 1] rfl (by simp [Qa]) ?_
    exact rd 2 (by omega) (by omega) rfl
  · exact en tt [.f rfl,.f rfl,.t rfl,.x (i:=1) (xs:=X5 b) rfl,.x (i:=0) (xs:=X5 a) rfl,.c [] (Qmh hb.n ha.n hb.cb ha.cb),.x (i:=1) (xs:=X5 b) rfl,.x (i:=0) (xs:=X5 a) rfl,.c [] (Qmo hb.n ha.n hb.cb ha.cb),.c [] Qtm,.c [] (Q3x (Qbn h1 h2).dp ht)] rfl rfl trivial
theorem Qtf {a:Tm} (ha:Va a) {c:Cr} {r0 r1:List (List LV)}:∀ (k:Nat) (l:List Pt) (ms:List (Pt×Pt)),l.length≤k→l.length≤1000→ms.length+l.length≤1000000→(∀ p∈l,Sc p.c)→Xa Tryz.prog 143 [.one (.ow 0 0),.agg (ta a),.one (pts l)] [.blk 86 [.bool true,pl c.now.p,sg c.now.lo.num,mg c.now.lo.num,sg (c.now.lo.den:Int),mg (c.now.lo.den:Int),sg c.now.hi.num,mg c.now.hi.num,sg (c.now.hi.den:Int),mg (c.now.hi.den:Int),.row (Tj c.l),.int .i64 c.ev,.row r0,.row r1,.orow 1 10 none],.row false 212 10 (Xq ms)] [.one (.row (Qr (Yq (Jt a) l).1))] [.blk 86 [.bool true,pl c.now.p,sg c.now.lo.num,mg c.now.lo.num,sg (c.now.lo.den:Int),mg (c.now.lo.den:Int),sg c.now.hi.num,mg c.now.hi.num,sg (c.now.hi.den:Int),mg (c.now.hi.den:Int),.row (Tj c.l),.int .i64 c.ev,.row r0,.row r1,.orow 1 10 none],.row false 212 10 (Xq (ms++(Yq (Jt a) l).2))]
 := by
  intro k
  induction k with
  | zero=>?_
  | succ k ih=>?_
  all_goals
    intro l ms hk hn hms hl
    have hcl:=Fs l
    show Xa Tryz.prog 143 [.one (.ow 0 0),.agg (ta a),.one (.row (Qr l))] _ _ _
    by_cases hs:l.length<2
    · rw [Yz _ hs,List.append_nil]
      refine Z1 Tryz.func143 rfl ?_
      exact ed tt [] [0,1] [.t (by simp [hcl]; omega)] rfl trivial
    first
      | (exfalso; omega)
      |
       skip
       obtain ⟨k1,k2,k3,k4⟩:=Qkg hs hk
       obtain ⟨h,hh⟩:∃ h,h=(l.length+1) / 2:=⟨_,rfl⟩
       obtain ⟨u,hu,hul,_⟩:=Yd (Jt a) k (l.take ((l.length+1) / 2)) k1 k3
       obtain ⟨v,hv,hvl,_⟩:=Yd (Jt a) k (l.drop ((l.length+1) / 2)) k2 k4
       have g1:=Jw (Jt a) _ (l.take ((l.length+1) / 2)) (Nat.le_refl _)
       have g2:=Jw (Jt a) _ (l.drop ((l.length+1) / 2)) (Nat.le_refl _)
       have hlt:(l.take ((l.length+1) / 2)).length+(l.drop ((l.length+1) / 2)).length=l.length:=by rw [List.length_take,List.length_drop]; omega
       have c1:=ih (l.take ((l.length+1) / 2)) ms k1 (by omega) (by omega) fun p hp=>hl p (List.mem_of_mem_take hp)
       have c2:=ih (l.drop ((l.length+1) / 2)) (ms++(Yq (Jt a) (l.take ((l.length+1) / 2))).2) k2 (by omega) (by rw [List.length_append]; omega) fun p hp=>hl p (List.mem_of_mem_drop hp)
       have hpl:=U5 (Jt a) hs hu hv
       rw [hpl]
       rw [hu] at c1
       rw [hv] at c2
       generalize (Yq (Jt a) (l.take ((l.length+1) / 2))).2=G1 at *
       generalize (Yq (Jt a) (l.drop ((l.length+1) / 2))).2=G2 at *
       have hsu:=hl u (List.mem_of_mem_take hul)
       have hsv:=hl v (List.mem_of_mem_drop hvl)
       have cb:=Qmi (t:=a) hsu hsv ha
       have htd:((l.length:Int)+1).tdiv 2=(((l.length+1) / 2:Nat):Int):=rfl
       have hg:∀ m,Xq (ms++(G1++G2++[m]))=Xq ((ms++G1)++G2)++[E6 m]:=fun m=>by simp [Xq]
       have hml:(Xq ((ms++G1)++G2)).length=ms.length+G1.length+G2.length:=by simp [Xq]; omega
       have hml2:(Xq (ms++(G1++G2))).length=ms.length+G1.length+G2.length:=by simp [Xq]; omega
       have h5:=eq_true (p:=∀ z,z∈Qr l→z.length=ti35.sz) (Qo8 l)
       have e1:(Qr l).take ((l.length+1) / 2)=Qr (l.take ((l.length+1) / 2)):=by simp [Qr,List.map_take]
       have e2:(Qr l).drop ((l.length+1) / 2)=Qr (l.drop ((l.length+1) / 2)):=by simp [Qr,List.map_drop]
       unfold Du
       refine Z1 Tryz.func143 rfl ?_
       by_cases hb:Vn (Jt a) u v=true
       · rw [if_pos hb,hg]
         exact ed tt [] [0,1] [.f (by simp [hcl]; omega),.r 17 (eI (b:=(((l.length+1) / 2:Nat):Int)) (by rw [hcl]; rfl)),.i ((l.length+1) / 2),.r 22 (Qg5 e1),.c [0,1] c1,.i ((l.length+1) / 2),.r 28 (Qg5 e2),.c [0,1] c2,.x (i:=0) (l:=Qr [u]) (xs:=X5 u) rfl,.x (i:=0) (l:=Qr [v]) (xs:=X5 v) rfl,.c [] cb,.f (by rw [hb]; rfl),.x (i:=0) (l:=Qr [u]) (xs:=X5 u) rfl,.x (i:=0) (l:=Qr [v]) (xs:=X5 v) rfl,.s (sz:=10) (l:=[E6 (u,v)]) (fun c hc=>by rw [List.mem_singleton.1 hc]; rfl),.i 1] rfl (by simp [Qa,Fs,hml2,h5]; omega)
       · have hb:Vn (Jt a) u v=false:=by simpa using hb
         rw [if_neg (by simp [hb]),hg]
         exact ed tt [] [0,1] [.f (by simp [hcl]; omega),.r 17 (eI (b:=(((l.length+1) / 2:Nat):Int)) (by rw [hcl]; rfl)),.i ((l.length+1) / 2),.r 22 (Qg5 e1),.c [0,1] c1,.i ((l.length+1) / 2),.r 28 (Qg5 e2),.c [0,1] c2,.x (i:=0) (l:=Qr [u]) (xs:=X5 u) rfl,.x (i:=0) (l:=Qr [v]) (xs:=X5 v) rfl,.c [] cb,.t (by rw [hb]; rfl),.x (i:=0) (l:=Qr [v]) (xs:=X5 v) rfl,.x (i:=0) (l:=Qr [u]) (xs:=X5 u) rfl,.s (sz:=10) (l:=[E6 (v,u)]) (fun c hc=>by rw [List.mem_singleton.1 hc]; rfl),.i 1] rfl (by simp [Qa,Fs,hml2,h5]; omega)
theorem Qte {a:Tm} (ha:Va a) {r0:List (List LV)}:∀ (k:Nat) (l:List Pt) (ms:List (Pt×Pt)),l.length≤k→l.length≤1000→ms.length+l.length≤1000000→(∀ p∈l,Sc p.c)→Xa Tryz.prog 143 [.one (.ow 0 0),.agg (ta a),.one (pts l)] [.blk 86 [.bool false,.nils,.bool false,.nils,.bool false,.nils,.bool false,.nils,.bool false,.nils,.nils,.int .i64 0,.row r0,.nils,.orow 1 10 none],.row false 212 10 (Xq ms)] [.one (.row (Qr (Yq (Jt a) l).1))] [.blk 86 [.bool false,.nils,.bool false,.nils,.bool false,.nils,.bool false,.nils,.bool false,.nils,.nils,.int .i64 0,.row r0,.nils,.orow 1 10 none],.row false 212 10 (Xq (ms++(Yq (Jt a) l).2))]
 := by
  intro k
  induction k with
  | zero=>?_
  | succ k ih=>?_
  all_goals
    intro l ms hk hn hms hl
    have hcl:=Fs l
    show Xa Tryz.prog 143 [.one (.ow 0 0),.agg (ta a),.one (.row (Qr l))] _ _ _
    by_cases hs:l.length<2
    · rw [Yz _ hs,List.append_nil]
      refine Z1 Tryz.func143 rfl ?_
      exact ed tt [] [0,1] [.t (by simp [hcl]; omega)] rfl trivial
    first
      | (exfalso; omega)
      |
       skip
       obtain ⟨k1,k2,k3,k4⟩:=Qkg hs hk
       obtain ⟨h,hh⟩:∃ h,h=(l.length+1) / 2:=⟨_,rfl⟩
       obtain ⟨u,hu,hul,_⟩:=Yd (Jt a) k (l.take ((l.length+1) / 2)) k1 k3
       obtain ⟨v,hv,hvl,_⟩:=Yd (Jt a) k (l.drop ((l.length+1) / 2)) k2 k4
       have g1:=Jw (Jt a) _ (l.take ((l.length+1) / 2)) (Nat.le_refl _)
       have g2:=Jw (Jt a) _ (l.drop ((l.length+1) / 2)) (Nat.le_refl _)
       have hlt:(l.take ((l.length+1) / 2)).length+(l.drop ((l.length+1) / 2)).length=l.length:=by rw [List.length_take,List.length_drop]; omega
       have c1:=ih (l.take ((l.length+1) / 2)) ms k1 (by omega) (by omega) fun p hp=>hl p (List.mem_of_mem_take hp)
       have c2:=ih (l.drop ((l.length+1) / 2)) (ms++(Yq (Jt a) (l.take ((l.length+1) / 2))).2) k2 (by omega) (by rw [List.length_append]; omega) fun p hp=>hl p (List.mem_of_mem_drop hp)
       have hpl:=U5 (Jt a) hs hu hv
       rw [hpl]
       rw [hu] at c1
       rw [hv] at c2
       generalize (Yq (Jt a) (l.take ((l.length+1) / 2))).2=G1 at *
       generalize (Yq (Jt a) (l.drop ((l.length+1) / 2))).2=G2 at *
       have hsu:=hl u (List.mem_of_mem_take hul)
       have hsv:=hl v (List.mem_of_mem_drop hvl)
       have cb:=Qmi (t:=a) hsu hsv ha
       have htd:((l.length:Int)+1).tdiv 2=(((l.length+1) / 2:Nat):Int):=rfl
       have hg:∀ m,Xq (ms++(G1++G2++[m]))=Xq ((ms++G1)++G2)++[E6 m]:=fun m=>by simp [Xq]
       have hml:(Xq ((ms++G1)++G2)).length=ms.length+G1.length+G2.length:=by simp [Xq]; omega
       have hml2:(Xq (ms++(G1++G2))).length=ms.length+G1.length+G2.length:=by simp [Xq]; omega
       have h5:=eq_true (p:=∀ z,z∈Qr l→z.length=ti35.sz) (Qo8 l)
       have e1:(Qr l).take ((l.length+1) / 2)=Qr (l.take ((l.length+1) / 2)):=by simp [Qr,List.map_take]
       have e2:(Qr l).drop ((l.length+1) / 2)=Qr (l.drop ((l.length+1) / 2)):=by simp [Qr,List.map_drop]
       unfold Du
       refine Z1 Tryz.func143 rfl ?_
       by_cases hb:Vn (Jt a) u v=true
       · rw [if_pos hb,hg]
         exact ed tt [] [0,1] [.f (by simp [hcl]; omega),.r 17 (eI (b:=(((l.length+1) / 2:Nat):Int)) (by rw [hcl]; rfl)),.i ((l.length+1) / 2),.r 22 (Qg5 e1),.c [0,1] c1,.i ((l.length+1) / 2),.r 28 (Qg5 e2),.c [0,1] c2,.x (i:=0) (l:=Qr [u]) (xs:=X5 u) rfl,.x (i:=0) (l:=Qr [v]) (xs:=X5 v) rfl,.c [] cb,.f (by rw [hb]; rfl),.x (i:=0) (l:=Qr [u]) (xs:=X5 u) rfl,.x (i:=0) (l:=Qr [v]) (xs:=X5 v) rfl,.s (sz:=10) (l:=[E6 (u,v)]) (fun c hc=>by rw [List.mem_singleton.1 hc]; rfl),.i 1] rfl (by simp [Qa,Fs,hml2,h5]; omega)
       · have hb:Vn (Jt a) u v=false:=by simpa using hb
         rw [if_neg (by simp [hb]),hg]
         exact ed tt [] [0,1] [.f (by simp [hcl]; omega),.r 17 (eI (b:=(((l.length+1) / 2:Nat):Int)) (by rw [hcl]; rfl)),.i ((l.length+1) / 2),.r 22 (Qg5 e1),.c [0,1] c1,.i ((l.length+1) / 2),.r 28 (Qg5 e2),.c [0,1] c2,.x (i:=0) (l:=Qr [u]) (xs:=X5 u) rfl,.x (i:=0) (l:=Qr [v]) (xs:=X5 v) rfl,.c [] cb,.t (by rw [hb]; rfl),.x (i:=0) (l:=Qr [v]) (xs:=X5 v) rfl,.x (i:=0) (l:=Qr [u]) (xs:=X5 u) rfl,.s (sz:=10) (l:=[E6 (v,u)]) (fun c hc=>by rw [List.mem_singleton.1 hc]; rfl),.i 1] rfl (by simp [Qa,Fs,hml2,h5]; omega)
theorem Qp6 {l:List Pt} {a:Tm} {c:Cr} {r1:List (List LV)×List (List LV)} (hl:∀ p∈l,Sc p.c) (hn:l.length≤1000) (ha:Va a):Xa Tryz.prog 84 [.one (.ow 0 0),.agg (ta a)] [.blk 86 (Xw c (Qr l) r1)] [.one (.row (Z2 (bcT l a)))] [.blk 86 (Xw c (Qr l) (Ih l a))]:=by
  have cp:=Qtf (r0:=Qr l) (c:=c) (r1:=r1.1) ha l.length l [] (Nat.le_refl _) hn (by show 0+l.length≤1000000; omega) hl
  have hms:=Jw (Jt a) l.length l (Nat.le_refl _)
  unfold bcT Ih
  obtain ⟨M,hM⟩:∃ M,M=(Yq (Jt a) l).2:=⟨_,rfl⟩
  have hmm:∀ m∈M,Sc m.1.c∧Sc m.2.c:=fun m hm=>by
    rw [hM] at hm
    exact ⟨hl _ (Fn m hm).1,hl _ (Fn m hm).2⟩
  rw [←hM] at cp hms ⊢
  rw [List.nil_append] at cp
  have hgl:(Xq M).length=M.length:=by simp [Xq]
  refine Z1 Tryz.func84 rfl ?_
  refine go tt [] rfl trivial ?_
  refine oz 0 14 212 10 rfl rfl ?_
  refine go tt [.c [] Qsx,.c [0,2] cp,.o 5 161 7] rfl trivial ?_
  refine lp (S:=Nat) 4 (fun L1 i=>(29,.v (.one (.int .i64 (i:Int))))::(5,.v (.one (.orow 3 7 none)))::L1) (fun i=>[.blk 86 [.bool true,pl c.now.p,sg c.now.lo.num,mg c.now.lo.num,sg (c.now.lo.den:Int),mg (c.now.lo.den:Int),sg c.now.hi.num,mg c.now.hi.num,sg (c.now.hi.den:Int),mg (c.now.hi.den:Int),.row (Tj c.l),.int .i64 c.ev,.row (Qr l),.row (Qr (Yq (Jt a) l).1),.orow 2 10 none],.blk 67 (ta a),.row false 212 10 (Xq M),.row false 161 7 (Z2 ((M.map fun m=>Z9 (Jt a) m.1 m.2).take i))]) (fun i=>M.length-i) (fun i=>i≤M.length) 0 (Nat.zero_le _) rfl (fun _ _=>rfl) rfl fun i hi=>?_
  by_cases hlt:i<M.length
  · obtain ⟨m,hm⟩:∃ m,M[i]? = some m:=⟨_,List.getElem?_eq_getElem hlt⟩
    obtain ⟨s1,s2⟩:=hmm m (List.mem_of_getElem? hm)
    have hg:(Xq M)[i]? = some (E6 m):=Zq hm
    have hq:∀ y∈[Qaa (Z9 (Jt a) m.1 m.2)],y.length=7:=fun y hy=>by rw [List.mem_singleton.1 hy]; rfl
    have ht:(M.map fun m=>Z9 (Jt a) m.1 m.2).take (i+1)=(M.map fun m=>Z9 (Jt a) m.1 m.2).take i++[Z9 (Jt a) m.1 m.2]:=by
      rw [List.take_succ,List.getElem?_map,hm]; rfl
    refine go tt [.t (decide_eq_true (by omega)),.i i,.x hg,.i 0,.i 1,.c [] (Qml s1 s2 ha),.s (sz:=7) hq] rfl (by simp [Qa,hgl,Uk]; omega) ?_
    exact rd (i+1) (by omega) hlt (by rw [ht]; simp [Z2]; rfl)
  · obtain rfl:i=M.length:=by omega
    rw [List.take_of_length_le (by simp)]
    exact ed tt [2,3] [0] [.f (decide_eq_false (by omega))] rfl trivial
theorem Qp5 {l:List Pt} {a:Tm} (hl:∀ p∈l,Sc p.c) (hn:l.length≤1000) (ha:Va a):Xa Tryz.prog 84 [.one (.ow 0 0),.agg (ta a)] [.blk 86 (Qul (.row (Qr l)) (.nils,.nils))] [.one (.row (Z2 (bcT l a)))] [.blk 86 (Qul (.row (Qr l)) (.row (Ih l a).1,.row (Ih l a).2))]:=by
  have cp:=Qte (r0:=Qr l)  ha l.length l [] (Nat.le_refl _) hn (by show 0+l.length≤1000000; omega) hl
  have hms:=Jw (Jt a) l.length l (Nat.le_refl _)
  unfold bcT Ih
  obtain ⟨M,hM⟩:∃ M,M=(Yq (Jt a) l).2:=⟨_,rfl⟩
  have hmm:∀ m∈M,Sc m.1.c∧Sc m.2.c:=fun m hm=>by
    rw [hM] at hm
    exact ⟨hl _ (Fn m hm).1,hl _ (Fn m hm).2⟩
  rw [←hM] at cp hms ⊢
  rw [List.nil_append] at cp
  have hgl:(Xq M).length=M.length:=by simp [Xq]
  refine Z1 Tryz.func84 rfl ?_
  refine go tt [] rfl trivial ?_
  refine oz 0 14 212 10 rfl rfl ?_
  refine go tt [.c [] Qsx,.c [0,2] cp,.o 5 161 7] rfl trivial ?_
  refine lp (S:=Nat) 4 (fun L1 i=>(29,.v (.one (.int .i64 (i:Int))))::(5,.v (.one (.orow 3 7 none)))::L1) (fun i=>[.blk 86 [.bool false,.nils,.bool false,.nils,.bool false,.nils,.bool false,.nils,.bool false,.nils,.nils,.int .i64 0,.row (Qr l),.row (Qr (Yq (Jt a) l).1),.orow 2 10 none],.blk 67 (ta a),.row false 212 10 (Xq M),.row false 161 7 (Z2 ((M.map fun m=>Z9 (Jt a) m.1 m.2).take i))]) (fun i=>M.length-i) (fun i=>i≤M.length) 0 (Nat.zero_le _) rfl (fun _ _=>rfl) rfl fun i hi=>?_
  by_cases hlt:i<M.length
  · obtain ⟨m,hm⟩:∃ m,M[i]? = some m:=⟨_,List.getElem?_eq_getElem hlt⟩
    obtain ⟨s1,s2⟩:=hmm m (List.mem_of_getElem? hm)
    have hg:(Xq M)[i]? = some (E6 m):=Zq hm
    have hq:∀ y∈[Qaa (Z9 (Jt a) m.1 m.2)],y.length=7:=fun y hy=>by rw [List.mem_singleton.1 hy]; rfl
    have ht:(M.map fun m=>Z9 (Jt a) m.1 m.2).take (i+1)=(M.map fun m=>Z9 (Jt a) m.1 m.2).take i++[Z9 (Jt a) m.1 m.2]:=by
      rw [List.take_succ,List.getElem?_map,hm]; rfl
    refine go tt [.t (decide_eq_true (by omega)),.i i,.x hg,.i 0,.i 1,.c [] (Qml s1 s2 ha),.s (sz:=7) hq] rfl (by simp [Qa,hgl,Uk]; omega) ?_
    exact rd (i+1) (by omega) hlt (by rw [ht]; simp [Z2]; rfl)
  · obtain rfl:i=M.length:=by omega
    rw [List.take_of_length_le (by simp)]
    exact ed tt [2,3] [0] [.f (decide_eq_false (by omega))] rfl trivial
end Orr

namespace Orq
open Orr Go
theorem Qeu {p:List Int} {a a':Tm} (h:∀ q,Qt a q=Qt a' q) {o:Option Tm} (hn:Ya p a o):Ya p a' o:=by
  have e:Qt a=Qt a':=funext h
  unfold Ya Leq Yt at *
  rw [←e]; exact hn
theorem Ql0 {a b:Tm} (ha:Cut (Qt a)) (hb:Cut (Qt b)) (h:¬Yt a b) (h':¬Yt b a):∀ q,Qt a q=Qt b q:=by
  rcases tri ha hb with h1 | h1 | h1
  · exact absurd h1 h
  · exact h1
  · exact absurd h1 h'
theorem Qpg {a b b':Tm} (h:∀ q,Qt b q=Qt b' q):Yt a b↔Yt a b':=by
  unfold Yt; simp only [h]
theorem Pi {a b b':Tm} (h:∀ q,Qt b q=Qt b' q):Yt b a↔Yt b' a:=by
  unfold Yt; simp only [h]
theorem Rv {p:List Int} {a:Tm} (ha:Va a) {t t':Tm} (h:Ya p a (some t)) (h':Ya p a (some t')):∀ q,Qt t q=Qt t' q:=by
  obtain ⟨_,v,l,s,s0,h4,h5⟩:=h
  obtain ⟨_,v',l',s',s0',h4',h5'⟩:=h'
  have es:s=s':=Co (h4 _ ha.cut (fun _ h=>h) l) (h4' _ ha.cut (fun _ h=>h) l')
  refine Ql0 v.cut v'.cut (fun hlt=>?_) fun hlt=>?_
  · have:=Co (h4' _ v.cut (Lc ha.cut v.cut (Qeo ha.cut v.cut l)) hlt) h5
    omega
  · have:=Co (h4 _ v'.cut (Lc ha.cut v'.cut (Qeo ha.cut v'.cut l')) hlt) h5'
    omega
theorem Yy {p:List Int} {a:Tm} (ha:Va a) {t:Tm} (h:Ya p a (some t)) (h':Ya p a none):False:=by
  obtain ⟨h1,v,l,s,s0,h4,h5⟩:=h
  rcases h' with h' | ⟨s',s0',h'⟩
  · exact h1 h'
  · have e1:=Co (h' _ ha.cut fun _ h=>h) (h4 _ ha.cut (fun _ h=>h) l)
    have e2:=Co (h' _ v.cut (Lc ha.cut v.cut (Qeo ha.cut v.cut l))) h5
    omega
structure Quiet {β:Type} (Bc:Tm→List Ct) (Br:Tm→β) (a b:Tm):Prop where
  va:Va a
  vb:Va b
  le:¬Yt b a
  n:∀ x∈Bc a,∃ o,Ya x.p a o∧∀ u,o=some u→Yt b u
section
variable {β:Type} {Bc:Tm→List Ct} {Br:Tm→β} (S:Stab Bc Br)
include S
theorem Quiet.same {a b:Tm} (h:Quiet Bc Br a b):Bc b=Bc a∧Br b=Br a:=by
  refine S.st a b h.va h.vb fun x hx=>?_
  obtain ⟨o,o1,o2⟩:=h.n x hx
  exact Qb7 (S.ok.p _ h.va _ hx).dp h.va h.vb h.le o1 o2
theorem Qc9 {a b:Tm} (ha:Va a) (hb:Va b) (h:∀ q,Qt a q=Qt b q):Quiet Bc Br a b:=by
  refine ⟨ha,hb,fun h'=>Nd hb.cut hb.cut ((Qpg h).1 h') ((Qpg h).1 h'),fun x hx=>?_⟩
  obtain ⟨r,_,r2,_⟩:=O8 (S.ok.p _ ha _ hx) ha
  refine ⟨r,r2,fun u hu=>?_⟩
  subst hu
  obtain ⟨q,q1,q2⟩:=r2.2.2.1
  exact ⟨q,by rw [←h]; exact q1,q2⟩
theorem Qqv {t:Rat} {a:Tm} {E:List Tm} (hE:Evs Bc t a E):∀ {b:Tm} {E':List Tm},Quiet Bc Br a b→Evs Bc t b E'→E.length=E'.length:=by
  induction hE with
  |
   @nil a h =>
   intro b E' hq hE'
   have hs:=(Quiet.same S hq).1
   cases hE' with
   | nil _=>rfl
   |
    cons he h1 h2 h3 h4 h5 =>
    exfalso
    obtain ⟨x,hx,hx2⟩:=h4
    rw [hs] at hx
    obtain ⟨o,o1,o2⟩:=h x hx
    obtain ⟨o',o1',o2'⟩:=hq.n x hx
    cases o with
    |
     none =>
     cases o' with
     | none=>exact Yy hq.vb hx2 (Hq hq.va.cut hq.vb.cut hq.le o1' o2')
     | some u=>exact Yy hq.va o1' o1
    |
     some u =>
     cases o' with
     | none=>exact Yy hq.va o1 o1'
     |
      some u' =>
      have e1:=Rv hq.va o1 o1'
      have e2:=Rv hq.vb (Hq hq.va.cut hq.vb.cut hq.le o1' o2') hx2
      obtain ⟨q,q1,q2⟩:=o2 u rfl
      exact h2 ⟨q,q1,by rw [←e2,←e1]; exact q2⟩
  |
   @cons a e E he h1 h2 h3 h4 h5 ih =>
   intro b E' hq hE'
   have hs:=(Quiet.same S hq).1
   -- next Kc from b on are those from a on
   have nx:∀ x∈Bc a,∀ u,Ya x.p a (some u)→Yt b u∧Ya x.p b (some u):=fun x hx u hu=>by
     obtain ⟨o',o1',o2'⟩:=hq.n x hx
     cases o' with
     | none=>exact (Yy hq.va hu o1').elim
     |
      some u' =>
      have e1:=Rv hq.va o1' hu
      have hb':=o2' u' rfl
      have hb2:Yt b u:=by obtain ⟨q,q1,q2⟩:=hb'; exact ⟨q,q1,by rw [←e1]; exact q2⟩
      exact ⟨hb2,Hq hq.va.cut hq.vb.cut hq.le hu fun v hv=>by injection hv with hv; subst hv; exact hb2⟩
   obtain ⟨x0,hx0,hn0⟩:=h4
   obtain ⟨hb0,hnb0⟩:=nx x0 hx0 e hn0
   cases hE' with
   |
    nil h' =>
    exfalso
    obtain ⟨o,o1,o2⟩:=h' x0 (by rw [hs]; exact hx0)
    cases o with
    | none=>exact Yy hq.vb hnb0 o1
    |
     some u =>
     have e1:=Rv hq.vb o1 hnb0
     obtain ⟨q,q1,q2⟩:=o2 u rfl
     exact h2 ⟨q,q1,by rw [←e1]; exact q2⟩
   |
    @cons _ e' E'' he' h1' h2' h3' h4' h5' =>
    obtain ⟨x1,hx1,hn1⟩:=h4'
    rw [hs] at hx1
    -- e is not above e'
    have a1:¬Yt e' e:=fun hlt=>by
      obtain ⟨o,o1,o2⟩:=h3 x1 hx1
      cases o with
      |
       none =>
       obtain ⟨o',o1',o2'⟩:=hq.n x1 hx1
       cases o' with
       | none=>exact Yy hq.vb hn1 (Hq hq.va.cut hq.vb.cut hq.le o1' o2')
       | some u=>exact Yy hq.va o1' o1
      |
       some u =>
       have e2:=Rv hq.vb (nx x1 hx1 u o1).2 hn1
       exact o2 u rfl ((Pi e2).2 hlt)
    have a2:¬Yt e e':=fun hlt=>by
      obtain ⟨o,o1,o2⟩:=h3' x0 (by rw [hs]; exact hx0)
      cases o with
      | none=>exact Yy hq.vb hnb0 o1
      |
       some u =>
       have e2:=Rv hq.vb o1 hnb0
       exact o2 u rfl ((Pi e2).2 hlt)
    have:=ih (Qc9 S he he' (Ql0 he.cut he'.cut a2 a1)) h5'
    simp [this]
theorem Qnq {t1 t2:Rat} (h12:t1≤t2) (ht:Va (tq t1)) {a:Tm} {E1:List Tm} (h:Evs Bc t1 a E1):∀ {E2 E:List Tm},Va a→¬Yt (tq t1) a→Evs Bc t2 (tq t1) E2→Evs Bc t2 a E→E.length=E1.length+E2.length:=by
  have lt12:∀ {u:Tm},Yt (tq t2) u→Yt (tq t1) u:=fun ⟨q,q1,q2⟩=>⟨q,by
    rw [H4] at q1 ⊢
    rcases Jx t1 q with ⟨e,h⟩ | ⟨e,h⟩ | ⟨e,h⟩ <;> rcases Jx t2 q with ⟨e',h'⟩ | ⟨e',h'⟩ | ⟨e',h'⟩ <;> grind,q2⟩
  induction h with
  |
   @nil a h =>
   intro E2 E ha hle h2 h'
   have:=Qqv S h' ⟨ha,ht,hle,h⟩ h2
   simp [this]
  |
   @cons a e E1 he b1 b2 b3 b4 b5 ih =>
   intro E2 E ha hle h2 h'
   obtain ⟨x0,hx0,hn0⟩:=b4
   cases h' with
   |
    nil g =>
    exfalso
    obtain ⟨o,o1,o2⟩:=g x0 hx0
    cases o with
    | none=>exact Yy ha hn0 o1
    |
     some u =>
     have e1:=Rv ha o1 hn0
     obtain ⟨q,q1,q2⟩:=lt12 (o2 u rfl)
     exact b2 ⟨q,q1,by rw [←e1]; exact q2⟩
   |
    @cons _ e' E'' he' c1 c2 c3 c4 c5 =>
    obtain ⟨x1,hx1,hn1⟩:=c4
    have a1:¬Yt e' e:=fun hlt=>by
      obtain ⟨o,o1,o2⟩:=b3 x1 hx1
      cases o with
      | none=>exact Yy ha hn1 o1
      | some u=>exact o2 u rfl ((Pi (Rv ha o1 hn1)).2 hlt)
    have a2:¬Yt e e':=fun hlt=>by
      obtain ⟨o,o1,o2⟩:=c3 x0 hx0
      cases o with
      | none=>exact Yy ha hn0 o1
      | some u=>exact o2 u rfl ((Pi (Rv ha o1 hn0)).2 hlt)
    have eq:=Ql0 he'.cut he.cut a1 a2
    -- told from e on
    have hE:∃ E3,Evs Bc t2 e E3∧E3.length=E''.length:=by
      have hs:=(Quiet.same S (Qc9 S he' he eq)).1
      cases c5 with
      | nil g=>exact ⟨[],.nil fun x hx=>by
          rw [hs] at hx
          obtain ⟨o,o1,o2⟩:=g x hx
          exact ⟨o,Qeu eq o1,o2⟩,rfl⟩
      |
       @cons _ f F hf d1 d2 d3 d4 d5 =>
       refine ⟨f::F,.cons hf ((Pi eq).1 d1) d2 (fun x hx=>?_) ?_ d5,rfl⟩
       · rw [hs] at hx
         obtain ⟨o,o1,o2⟩:=d3 x hx
         exact ⟨o,Qeu eq o1,o2⟩
       · obtain ⟨x,hx,hxn⟩:=d4
         exact ⟨x,by rw [hs]; exact hx,Qeu eq hxn⟩
    obtain ⟨E3,h3,h4⟩:=hE
    have:=ih he b2 h2 h3
    simp only [List.length_cons]
    omega
end
theorem Q3a {p:List Int} (h:Cp p):(tms p).length≤67:=by
  obtain ⟨l,l1,l2,_⟩:=Pk h
  unfold tms; rw [l1]; exact l2
theorem Qpj:∀ {Ps:List (List Int)},(∀ p∈Ps,Cp p)→(Ps.flatMap tms).length≤67*Ps.length
  | [],_=>Nat.zero_le _
  |
   p::Ps,h=>by
   have h1:=Q3a (h p (by simp))
   have h2:=Qpj (Ps:=Ps) fun q hq=>h q (List.mem_cons_of_mem _ hq)
   rw [List.flatMap_cons,List.length_append,List.length_cons]; omega
theorem Q83 (T:List Tm) (a:Tm):mu T a≤T.length:=List.length_filter_le _ _
theorem Q4u {β:Type} {Bc:Tm→List Ct} {Br:Tm→β} (S:Stab Bc Br) {Ps:List (List Int)} (hP:∀ p∈Ps,Cp p) (hPs:∀ a,Va a→∀ x∈Bc a,x.p∈Ps) (hl:Ps.length≤1000000) {t:Rat} (ht:Qs 900 t) {c:Cr} {r:β} (hS:KSt Bc Br c r) (h:Qt c.now t≤0) :
    ∃ (K:Nat) (c':Cr) (E:List Tm),K≤67000001∧goF Bc Br t K c r 0=some (c',Br (tq t),((E.length:Nat):Int))∧c'.now=tq t∧KSt Bc Br c' (Br (tq t))∧c'.ev=c.ev+((E.length:Nat):Int)∧E.length≤67000000∧Evs Bc t c.now E:=by
  have hm:=Qpj hP
  have hmu:=Q83 (Ps.flatMap tms) c.now
  have hv:=hS.inv.ok.n
  obtain ⟨c',r',E,g1,g2,g3,g4,g5,g6⟩:=Q8t S ht hP hPs (mu (Ps.flatMap tms) c.now) c r 0 (Nat.le_refl _) hS fun h'=>by
    have:=(Iw hv.cut).2 h'; omega
  have hr:r'=Br (tq t):=by rw [g3.r,g2]
  rw [hr] at g1 g3
  rw [Int.zero_add] at g1
  exact ⟨_,c',E,by omega,g1,g2,g3,g4,by omega,g6⟩
theorem Q42 {β:Type} {Bc:Tm→List Ct} {Br:Tm→β} (S:Stab Bc Br) {a:Tm} (ha:Va a):KSt Bc Br ⟨a,(Z4 (Bc a)).map fresh,0⟩ (Br a):=by
  refine ⟨⟨⟨ha,fun w hw=>?_,?_⟩,fun w hw hk=>?_⟩,?_,rfl⟩
  · obtain ⟨x,hx,rfl⟩:=List.mem_map.1 hw
    exact ⟨S.ok.p _ ha x (Me hx),fun t ht=>by cases ht⟩
  · show ((Z4 (Bc a)).map fresh).length≤1000
    rw [List.length_map,U8]; exact S.ok.n _ ha
  · obtain ⟨x,hx,rfl⟩:=List.mem_map.1 hw
    cases hk
  · show ((Z4 (Bc a)).map fresh).map (·.c)=Z4 (Bc a)
    rw [List.map_map]
    show (Z4 (Bc a)).map (fun x=>x)=_
    rw [List.map_id']
end Orq

namespace Orr
open Go Go.Proofs Orq
set_option maxRecDepth 10000
def Qsm (l:List Pt) (a:Tm):Cr:=⟨a,(Z4 (bcT l a)).map fresh,0⟩
theorem Qmq {zs:List (List LV)} {qs l:List Pt} {x y x' y':LV} {n d:Int} (hz:IsPts 4294967294 1073741824 zs qs) (hq:qs.length≤6) (hnl:J0 [] qs=(l,0)) (hl:∀ p∈l,Sc p.c) (hn:l.length≤1000) (h1:Xy x y n) (h2:Xy x' y' d) (bn:Qm n≤4294967295) (bd:Qm d≤4294967295) (ht:Qs 900 (Zs n d)) :
    Xa Tryz.prog 26 [.agg [x,y,x',y'],.one (.row zs)] [] [.one (.ow 0 0),.one (.int .i64 0)] [.blk 86 (Xw (Qsm l (tq (Zs n d))) (Qr l) (Ih l (tq (Zs n d))))]:=by
  have cn:=Q79 hz hq
  rw [hnl] at cn
  have co:=Q3w h1 h2 bn bd (ht.mono (by decide))
  have hv:=Qy1 ht
  have hB:=Qje hl hn
  have cb:=Qp5 hl hn hv
  have cg:=Qp4 (T:=86) (r0:=Qr l) (r1:=Ih l (tq (Zs n d))) hv (hB.p _ hv) (hB.n _ hv)
  obtain ⟨b,l1,rfl,rfl,_⟩:=h1
  obtain ⟨b',l2,rfl,rfl,_⟩:=h2
  refine Z1 Tryz.func26 rfl ?_
  exact ed tt [] [2] [.c [] cn,.f rfl,.c [] co,.c [2] cb,.c [2] cg] rfl trivial
theorem Qdm {t:Rat} {l:List Pt} {K:Nat} {c c':Cr} {r1 r1':List (List LV)×List (List LV)} {n:Int} (ht:Qs 900 t) (hl:∀ p∈l,Sc p.c) (hn:l.length≤1000) (hc:CrOk c) (hev:0≤c.ev∧c.ev+K≤1000000000000000000) (h:Qt c.now t≤0) (hg:goF (bcT l) (Ih l) t K c r1 0=some (c',r1',n)) :
    Xa Tryz.prog 27 [.one (.ow 0 0),.agg (rl t)] [.blk 86 (Xw c (Qr l) r1)] [.one (.int .i64 n),.one (.int .i64 0)] [.blk 86 (Xw c' (Qr l) r1')]:=by
  have cg:=Q8h (T:=86) (r0:=Qr l) ht (Qje hl hn) (fun a c r1 ha _=>Qp6 (c:=c) (r1:=r1) hl hn ha) hc hev h hg
  refine Z1 Tryz.func27 rfl ?_
  exact ed tt [] [0] [.c [] (F0 (ht.mono (by decide))),.c [0] cg] rfl trivial
theorem Qdn {c:Cr} {r0 r2:List (List LV)} {w:Pt}:Xa Tryz.prog 28 [.one (.ow 0 0)] [.blk 86 (Xw c r0 ([X5 w],r2))] [.one (.int .i64 w.id),.one (.bool true)] [.blk 86 (Xw c r0 ([X5 w],r2))]:=by
  refine Z1 Tryz.func28 rfl ?_
  exact ed tt [] [0] [.f rfl,.x (i:=0) (xs:=X5 w) rfl] rfl trivial
theorem Qgh {c:Cr} {r0 r2:List (List LV)}:Xa Tryz.prog 28 [.one (.ow 0 0)] [.blk 86 (Xw c r0 ([],r2))] [.one (.int .i64 0),.one (.bool false)] [.blk 86 (Xw c r0 ([],r2))]:=by
  refine Z1 Tryz.func28 rfl ?_
  exact ed tt [] [0] [.t rfl] rfl trivial
end Orr

namespace Orr
open Go Go.Proofs Orq
set_option maxRecDepth 10000
end Orr
