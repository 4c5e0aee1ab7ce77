/- ALeast21 Read Last Read2 -/
import Derived.Test.YtaffmkgbfgjgeaaGreatPart09
import Derived.Test.YtaffmkgbfgjgeaaGreatPart05
import Derived.Test.YtaffmkgbfgjgeaaGreatPart00
import Derived.Test.YtaffmkgbfgjgeaaGreatPart02
import Derived.Test.YtaffmkgbfgjgeaaGreatPart08
import Derived.Deep.Slices
import Derived.ProofKit
import Derived.OpenShut
import Derived.WideKeyArgs
import Derived.SizedLaws
set_option linter.all false

namespace Orr
open Go Go.Proofs
theorem Qr1 {l:List Pt} {q:Rat} {c:List (List Int)} (hn:l.length≤1000) (hl:∀ x∈l,Rs x.c) (hq:Qs 1000000 q):∃ w:List Ct,w.length≤1000000∧Q8 Tryz.prog 147 [.one (Kq l),.agg [Zm ((zp [-(q).num,((q).den:Int)])),Kk c,dl ((dig ((q).num).natAbs)),sg ((q).num),dl ((dig (((q).den:Int)).natAbs)),sg (((q).den:Int)),dl ((dig ((q).num).natAbs)),sg ((q).num),dl ((dig (((q).den:Int)).natAbs)),sg (((q).den:Int))]] (.one (Fl w)):=by
 have hM:∀ x∈Xe Vt l,Rs x.c:=fun x hx=>hl x (Mh.1 hx)
 have hML:=W6 (lt:=Vt) l
 by_cases h2:(Xe Vt l).length<2
 ·exact ⟨[],by decide,Nc rfl hM hn hq h2⟩
 obtain ⟨a,b,m,h3⟩:=Qi8 h2
 refine ⟨_,?_,Nl rfl hM hn hq h3 rfl⟩
 rw [W6]
 exact Qf3 (i:=(Xe Vt l).length) (Ji _) (by omega)
theorem Qkl {n:Nat} {most:Int} {l:List RawPt} {e:Nat} {x:Pt} (hm:0≤most∧most≤999) (hx:x∈Dy (Jw n most l) e):Rs x.c:=by
 have:=Qlq (Qcz hm) e x hx
 exact ⟨this.1,this.2.mono (by decide) (by decide)⟩
theorem Qh1 (x:Nat):((x:Int)).tdiv 2=((x / 2:Nat):Int):=by
 rw [Int.tdiv_eq_ediv_of_nonneg (by omega)]; omega
theorem Qpr {q:Rat} {M:List Pt} (h:M.length<2):Um (Rw q M)=Um []:=by rw [(Qde q h).1]
theorem Qny {q:Rat} {M m:List Pt} {a b:Pt} (h:M=a::b::m):Um (Rw q M)=Um [(Z3 q (a,b) (Q9 M)).1,(Z3 q (a,b) (Q9 M)).2]:=by rw [(Nw q h).1]
set_option maxRecDepth 20000 in
theorem Qgv {g:Nat} {c0 c1 c2 c3 c4 c5 c6 c7 c8 c9 c10 c11 y0:LV}:Wt Tryz.prog 35 [.one (.ow g 0)] [.blk g 108 [c0,c1,c2,c3,c4,c5,c6,c7,c8,c9,c10,c11,y0,Um ([])]] fun r B=>r=.tup [.one (.int .i64 0),.one (.int .i64 0),.one (.bool false)]∧B=[.blk g 108 [c0,c1,c2,c3,c4,c5,c6,c7,c8,c9,c10,c11,y0,Um ([])]]:=by
 refine X2 tt 7 [0] Tryz.func35 Tryz.ntmps35 rfl rfl rfl ?_
 refine Qf tt 1 [] (Qj (m:=([]).length) Wn rfl (Kl _) rfl) rfl ?_
 refine Xf tt 3 [] (rfl) rfl rfl ?_
 refine Re ?_
 exact ⟨_,[],_,Qr4 Tryz.results35 (V6 rfl rfl) (V6 rfl rfl) (V6 rfl rfl),rfl,⟨rfl,rfl⟩⟩
set_option maxRecDepth 40000 in
theorem Qa9 {l:List RawPt} {n d:Int} (hl:∀ z∈l,z.Ok) (hln:l.length≤140737488355327) (hn:-9223372036854775808≤n∧n≤9223372036854775807) (hd:-9223372036854775808≤d∧d≤9223372036854775807):Q8 Tryz.prog 7 [.one (I0 l),.one (.int .i64 n),.one (.int .i64 d)] (.one (.bool true)):=by
 refine X2 tt 0 [] Tryz.func7 Tryz.ntmps7 rfl rfl rfl ?_
 have hqs:=Qco n d
 obtain ⟨c,hRC⟩:∃ c,Qh4 (Qe n d) c:=⟨_,Qzc (hqs.mono (by decide))⟩
 have hOn:(Jw 4 20 l).length≤4:=Ss _ _ (K7 _)
 skip
 refine Qr tt 4 rfl ?_
 refine Zn (Vs (Bin:=[]) Tryz.func34 rfl rfl rfl rfl (Qaz hl hln hn hd hRC (fun e he _=>Qr1 (by rw [W6,Lj,Qgb he]; omega) (fun x hx=>Qkl (by decide) (Mh.1 hx)) (hqs.mono (by decide)))) rfl fun r_ B_ hr_=>ko ?_)
 obtain ⟨M,gs,gp,w,hM4,hMs,hMo,hw,rfl,rfl⟩:=hr_
 have hMr:∀ x∈M,Rs x.c:=fun x hx=>⟨(hMo x hx).1,(hMo x hx).2.mono (by decide) (by decide)⟩
 refine Qr tt 9 rfl ?_
 refine Xb tt 1 [] (rfl) rfl rfl ?_
 by_cases h2:M.length<2
 ·have hpb:=Qpr (q:=(Qe n d)) h2
  refine Qw tt rfl ?_
  refine X5 (fun _ k_=>Jp (ys:=[.bool true,pl ([-((Qe n d)).num,(((Qe n d)).den:Int)]),sg ((((Qe n d))).num),mg ((((Qe n d))).num),sg (((((Qe n d))).den:Int)),mg (((((Qe n d))).den:Int)),sg ((((Qe n d))).num),mg ((((Qe n d))).num),sg (((((Qe n d))).den:Int)),mg (((((Qe n d))).den:Int)),Ms ((Z9 (Yn ((Qe n d)) M))),.int .i64 0,Um M,Um ([])]) 0 rfl rfl (by rw [hpb]) (Qo k_)) rfl ?_
  refine Zn (Vs (Bin:=[.blk gs 108 [.bool true,pl ([-((Qe n d)).num,(((Qe n d)).den:Int)]),sg ((((Qe n d))).num),mg ((((Qe n d))).num),sg (((((Qe n d))).den:Int)),mg (((((Qe n d))).den:Int)),sg ((((Qe n d))).num),mg ((((Qe n d))).num),sg (((((Qe n d))).den:Int)),mg (((((Qe n d))).den:Int)),Ms ((Z9 (Yn ((Qe n d)) M))),.int .i64 0,Um M,Um ([])]]) Tryz.func35 rfl rfl rfl rfl (Qgv) rfl fun r_ B_ hr_=>ko ?_)
  obtain ⟨rfl,rfl⟩:=hr_
  refine Xd tt 12 [1] rfl ?_
  refine Qf tt 1 [] (Qj (m:=M.length) Vc rfl (Xu _) rfl) rfl ?_
  refine Qf tt 0 [] (Qr3 (b:=false) qUa rfl rfl (by rw [decide_eq_false (show ¬(1:Int)<_ by omega)]; rfl) rfl) rfl ?_
  refine Xb tt 2 [] (rfl) rfl rfl ?_
  refine Xf tt 0 [] (rfl) rfl rfl ?_
  refine kl tt 1 [] Tryz.func36 rfl rfl rfl (Mw) rfl rfl ?_
  exact Xq tt [] rfl (rfl)
 obtain ⟨a,b,m,hM2⟩:=Qi8 h2
 obtain ⟨hsin,hleast⟩:=Qja (q:=(Qe n d)) hM2 hMs (fun x hx=>(hMr x hx).d0)
 have hpb:=Qny (q:=(Qe n d)) hM2
 have hpc:=(Nw (Qe n d) hM2).2
 generalize (Z3 (Qe n d) (a,b) (Q9 M))=s at hsin hleast hpb hpc
 obtain ⟨i0,k0,hik,hgi,hgk⟩:=C8 M.length (Ji _) hsin
 have hsl:=Db hMs hgi hgk hik
 have hs1:=hMr s.1 (Y6 hgi)
 have hs2:=hMr s.2 (Y6 hgk)
 have hk0:=(Wz.1 hgk).1
 have hdl:=Qm7 (q:=(Qe n d)) hMs hsin hM4
 rw [←hpc] at hdl
 have hcl1:=Hl (Yn (Qe n d) M)
 have hcl2:=Hl (Z9 (Yn (Qe n d) M))
 have hcpb:∀ c∈Z9 (Yn (Qe n d) M),Pb c.p:=fun c hc=>Qf1 _ (fun x hx=>⟨(hMo x hx).1,(hMo x hx).2.mono (by decide) (by decide)⟩) c (Qng hc)
 have hmm:M.length*(M.length-1)≤4*3:=qXr hM4 (by omega)
 refine Qw tt rfl ?_
 refine X5 (fun _ k_=>Jp (ys:=[.bool true,pl ([-((Qe n d)).num,(((Qe n d)).den:Int)]),sg ((((Qe n d))).num),mg ((((Qe n d))).num),sg (((((Qe n d))).den:Int)),mg (((((Qe n d))).den:Int)),sg ((((Qe n d))).num),mg ((((Qe n d))).num),sg (((((Qe n d))).den:Int)),mg (((((Qe n d))).den:Int)),Ms ((Z9 (Yn ((Qe n d)) M))),.int .i64 0,Um M,Um ([s.1,s.2])]) 0 rfl rfl (by rw [hpb]) (Qo k_)) rfl ?_
 refine Zn (Vs (Bin:=[.blk gs 108 [.bool true,pl ([-((Qe n d)).num,(((Qe n d)).den:Int)]),sg ((((Qe n d))).num),mg ((((Qe n d))).num),sg (((((Qe n d))).den:Int)),mg (((((Qe n d))).den:Int)),sg ((((Qe n d))).num),mg ((((Qe n d))).num),sg (((((Qe n d))).den:Int)),mg (((((Qe n d))).den:Int)),Ms ((Z9 (Yn ((Qe n d)) M))),.int .i64 0,Um M,Um ([s.1,s.2])]]) Tryz.func35 rfl rfl rfl rfl (Qah) rfl fun r_ B_ hr_=>ko ?_)
 obtain ⟨rfl,rfl⟩:=hr_
 refine Xd tt 12 [1] rfl ?_
 refine Qf tt 1 [] (Qj (m:=M.length) Vc rfl (Xu _) rfl) rfl ?_
 refine Qf tt 0 [] (Qr3 (b:=false) qUa rfl rfl (by rw [decide_eq_true (show (1:Int)<_ by omega)]; rfl) rfl) rfl ?_
 refine Xb tt 2 [] (rfl) rfl rfl ?_
 refine Xb tt 2 [] (rfl) rfl rfl ?_
 refine Zx 1 rfl rfl ?_
 refine Zn (Vs (Bin:=[.blk gp 93 [Kq M,dl ((dig (((Qe n d)).num).natAbs)),sg (((Qe n d)).num),dl ((dig ((((Qe n d)).den:Int)).natAbs)),sg ((((Qe n d)).den:Int)),Zm ((zp [-((Qe n d)).num,(((Qe n d)).den:Int)])),Kk c,dl ((dig (((Qe n d)).num).natAbs)),sg (((Qe n d)).num),dl ((dig ((((Qe n d)).den:Int)).natAbs)),sg ((((Qe n d)).den:Int)),dl ((dig (((Qe n d)).num).natAbs)),sg (((Qe n d)).num),dl ((dig ((((Qe n d)).den:Int)).natAbs)),sg ((((Qe n d)).den:Int)),Fl w,.int .i64 0,.nils]]) Tryz.func37 rfl rfl rfl rfl ((by have h_:=Bb (g:=gp) (M:=M) (ys:=[dl ((dig (((Qe n d)).num).natAbs)),sg (((Qe n d)).num),dl ((dig ((((Qe n d)).den:Int)).natAbs)),sg ((((Qe n d)).den:Int)),Zm ((zp [-((Qe n d)).num,(((Qe n d)).den:Int)])),Kk c,dl ((dig (((Qe n d)).num).natAbs)),sg (((Qe n d)).num),dl ((dig ((((Qe n d)).den:Int)).natAbs)),sg ((((Qe n d)).den:Int)),dl ((dig (((Qe n d)).num).natAbs)),sg (((Qe n d)).num),dl ((dig ((((Qe n d)).den:Int)).natAbs)),sg ((((Qe n d)).den:Int)),Fl w,.int .i64 0,.nils]) (id:=s.1.id) (by omega); rwa [Qhp hMs hgi] at h_)) rfl fun r_ B_ hr_=>ko ?_)
 obtain ⟨rfl,rfl⟩:=hr_
 refine Qr tt 2 rfl ?_
 refine Zn (Vs (Bin:=[.blk gp 93 [Kq M,dl ((dig (((Qe n d)).num).natAbs)),sg (((Qe n d)).num),dl ((dig ((((Qe n d)).den:Int)).natAbs)),sg ((((Qe n d)).den:Int)),Zm ((zp [-((Qe n d)).num,(((Qe n d)).den:Int)])),Kk c,dl ((dig (((Qe n d)).num).natAbs)),sg (((Qe n d)).num),dl ((dig ((((Qe n d)).den:Int)).natAbs)),sg ((((Qe n d)).den:Int)),dl ((dig (((Qe n d)).num).natAbs)),sg (((Qe n d)).num),dl ((dig ((((Qe n d)).den:Int)).natAbs)),sg ((((Qe n d)).den:Int)),Fl w,.int .i64 0,.nils]]) Tryz.func37 rfl rfl rfl rfl ((by have h_:=Bb (g:=gp) (M:=M) (ys:=[dl ((dig (((Qe n d)).num).natAbs)),sg (((Qe n d)).num),dl ((dig ((((Qe n d)).den:Int)).natAbs)),sg ((((Qe n d)).den:Int)),Zm ((zp [-((Qe n d)).num,(((Qe n d)).den:Int)])),Kk c,dl ((dig (((Qe n d)).num).natAbs)),sg (((Qe n d)).num),dl ((dig ((((Qe n d)).den:Int)).natAbs)),sg ((((Qe n d)).den:Int)),dl ((dig (((Qe n d)).num).natAbs)),sg (((Qe n d)).num),dl ((dig ((((Qe n d)).den:Int)).natAbs)),sg ((((Qe n d)).den:Int)),Fl w,.int .i64 0,.nils]) (id:=s.2.id) (by omega); rwa [Qhp hMs hgk] at h_)) rfl fun r_ B_ hr_=>ko ?_)
 obtain ⟨rfl,rfl⟩:=hr_
 refine Qr tt 5 rfl ?_
 refine Qf tt 0 [] ((Qd rfl rfl (decide_eq_false (by omega)) (Qv tt rfl rfl))) rfl ?_
 refine Qf tt 0 [] ((Qd rfl rfl (decide_eq_false (by omega)) (Qv tt rfl rfl))) rfl ?_
 refine Qf tt 1 [] (Zu rfl (decide_eq_false (by omega)) rfl rfl) rfl ?_
 refine Qf tt 0 [] ((Qd rfl rfl (decide_eq_false (by omega)) (Qv tt rfl rfl))) rfl ?_
 refine Qf tt 0 [] ((Qd rfl rfl (decide_eq_false (by omega)) (Qv tt rfl rfl))) rfl ?_
 refine Qf tt 0 [] ((Qd rfl rfl (decide_eq_false (by omega)) (Qv tt rfl rfl))) rfl ?_
 refine Qf tt 0 [] (Zu rfl (decide_eq_false (by omega)) rfl rfl) rfl ?_
 refine Xb tt 4 [0] (decide_eq_false (by omega)) rfl rfl ?_
 refine kw (Zs Tryz.func38 rfl rfl rfl rfl (So (hqs.mono (by decide)) hRC) rfl) ?_
 refine Zn (Ql Tryz.zeroValue36 rfl rfl fun g1=>ko ?_)
 refine Xd tt 5 [0,1] rfl ?_
 refine Qf tt 1 [] (Qj (m:=M.length) Vc rfl (Xu _) rfl) rfl ?_
 refine Qk [7,8,10,11,13,14,15,72,73] rfl rfl ?_
 refine Zj (fun m L B=>∃ i,i≤M.length∧m=M.length-i∧L=[(7,.one (.ow gs 0)),(8,.one (.ow gp 0)),(10,.one (.int .i64 s.1.id)),(11,.one (.int .i64 s.2.id)),(13,.one (.int .i64 (((i0:Nat):Int)))),(14,.one (.int .i64 (((k0:Nat):Int)))),(15,.one (.ow g1 0)),(72,.one (.int .i64 (((M.length:Nat):Int)))),(73,.one (.int .i64 (((i:Nat):Int))))]∧B=[.blk g1 36 [Zm ((zp [-((Qe n d)).num,(((Qe n d)).den:Int)])),Kk c,dl ((dig (((Qe n d)).num).natAbs)),sg (((Qe n d)).num),dl ((dig ((((Qe n d)).den:Int)).natAbs)),sg ((((Qe n d)).den:Int)),dl ((dig (((Qe n d)).num).natAbs)),sg (((Qe n d)).num),dl ((dig ((((Qe n d)).den:Int)).natAbs)),sg ((((Qe n d)).den:Int))],.blk gp 93 [Kq M,dl ((dig (((Qe n d)).num).natAbs)),sg (((Qe n d)).num),dl ((dig ((((Qe n d)).den:Int)).natAbs)),sg ((((Qe n d)).den:Int)),Zm ((zp [-((Qe n d)).num,(((Qe n d)).den:Int)])),Kk c,dl ((dig (((Qe n d)).num).natAbs)),sg (((Qe n d)).num),dl ((dig ((((Qe n d)).den:Int)).natAbs)),sg ((((Qe n d)).den:Int)),dl ((dig (((Qe n d)).num).natAbs)),sg (((Qe n d)).num),dl ((dig ((((Qe n d)).den:Int)).natAbs)),sg ((((Qe n d)).den:Int)),Fl w,.int .i64 0,.nils],.blk gs 108 [.bool true,pl ([-((Qe n d)).num,(((Qe n d)).den:Int)]),sg ((((Qe n d))).num),mg ((((Qe n d))).num),sg (((((Qe n d))).den:Int)),mg (((((Qe n d))).den:Int)),sg ((((Qe n d))).num),mg ((((Qe n d))).num),sg (((((Qe n d))).den:Int)),mg (((((Qe n d))).den:Int)),Ms ((Z9 (Yn ((Qe n d)) M))),.int .i64 0,Um M,Um ([s.1,s.2])]]) (m:=_) ⟨0,K7 _,rfl,rfl,rfl⟩ ?_
 rintro m L B ⟨i,hp0,hm,rfl,rfl⟩
 refine Qw tt rfl ?_
 by_cases hlt:i<M.length
 ·obtain ⟨x,hx⟩:∃ x,M[i]? = some x:=⟨_,Xv hlt⟩
  have hxr:=hMr x (Y6 hx)
  refine Qr tt 1 rfl ?_
  refine Xf tt 3 [] (decide_eq_true (by omega)) rfl rfl ?_
  refine Qf tt 1 [] (Q6 (r:=((i+1:Nat):Int)) rfl rfl (Qm (by omega) (by omega)) rfl) rfl ?_
  refine Qk [7,8,10,11,13,14,15,16,72,73,17] rfl rfl ?_
  refine Zj (fun m L B=>∃ k,i+1≤k∧k≤M.length∧m=M.length-k∧L=[(7,.one (.ow gs 0)),(8,.one (.ow gp 0)),(10,.one (.int .i64 s.1.id)),(11,.one (.int .i64 s.2.id)),(13,.one (.int .i64 (((i0:Nat):Int)))),(14,.one (.int .i64 (((k0:Nat):Int)))),(15,.one (.ow g1 0)),(16,.one (.int .i64 (((i:Nat):Int)))),(72,.one (.int .i64 (((M.length:Nat):Int)))),(73,.one (.int .i64 (((i:Nat):Int)))),(17,.one (.int .i64 (((k:Nat):Int))))]∧B=[.blk g1 36 [Zm ((zp [-((Qe n d)).num,(((Qe n d)).den:Int)])),Kk c,dl ((dig (((Qe n d)).num).natAbs)),sg (((Qe n d)).num),dl ((dig ((((Qe n d)).den:Int)).natAbs)),sg ((((Qe n d)).den:Int)),dl ((dig (((Qe n d)).num).natAbs)),sg (((Qe n d)).num),dl ((dig ((((Qe n d)).den:Int)).natAbs)),sg ((((Qe n d)).den:Int))],.blk gp 93 [Kq M,dl ((dig (((Qe n d)).num).natAbs)),sg (((Qe n d)).num),dl ((dig ((((Qe n d)).den:Int)).natAbs)),sg ((((Qe n d)).den:Int)),Zm ((zp [-((Qe n d)).num,(((Qe n d)).den:Int)])),Kk c,dl ((dig (((Qe n d)).num).natAbs)),sg (((Qe n d)).num),dl ((dig ((((Qe n d)).den:Int)).natAbs)),sg ((((Qe n d)).den:Int)),dl ((dig (((Qe n d)).num).natAbs)),sg (((Qe n d)).num),dl ((dig ((((Qe n d)).den:Int)).natAbs)),sg ((((Qe n d)).den:Int)),Fl w,.int .i64 0,.nils],.blk gs 108 [.bool true,pl ([-((Qe n d)).num,(((Qe n d)).den:Int)]),sg ((((Qe n d))).num),mg ((((Qe n d))).num),sg (((((Qe n d))).den:Int)),mg (((((Qe n d))).den:Int)),sg ((((Qe n d))).num),mg ((((Qe n d))).num),sg (((((Qe n d))).den:Int)),mg (((((Qe n d))).den:Int)),Ms ((Z9 (Yn ((Qe n d)) M))),.int .i64 0,Um M,Um ([s.1,s.2])]]) (m:=_) ⟨i+1,Ji _,by omega,rfl,rfl,rfl⟩ ?_
  rintro m L B ⟨k,hq0,hq1,hm,rfl,rfl⟩
  refine Qw tt rfl ?_
  by_cases hk:k<M.length
  ·obtain ⟨y,hy⟩:∃ y,M[k]? = some y:=⟨_,Xv hk⟩
   have hyr:=hMr y (Y6 hy)
   obtain ⟨hg0,hg1⟩:¬Kx (Xj s.1.c s.2.c x.c y.c) (Qe n d)<0∧(Kx (Xj s.1.c s.2.c x.c y.c) (Qe n d)=0→Lex s (x,y)):=hleast (x,y) (Qgr hx hy (by omega))
   have hfs:=Wv hs1 hs2 hxr hyr
   by_cases hz:Kx (Xj s.1.c s.2.c x.c y.c) (Qe n d)=0
   refine Qw tt rfl ?_
   ·have hlex:s.1.id<x.id∨s.1.id=x.id∧s.2.id≤y.id:=hg1 hz
    have hx1:¬x.id<s.1.id:=by omega
    by_cases he:x.id=s.1.id
    refine Qw tt rfl ?_
    ·skip
     refine Xd tt 5 [1] rfl ?_
     refine Qf tt 1 [] (Qj (m:=M.length) Vc rfl (Xu _) rfl) rfl ?_
     refine Xf tt 0 [] (decide_eq_true (by omega)) rfl rfl ?_
     refine Qx 34 Qp rfl rfl rfl ?_
     refine Xd tt 5 [1] rfl ?_
     refine kd (Qi (i0) Vc Kn rfl rfl (rfl) (Qg hgi) rfl rfl) rfl ?_
     refine Xd tt 7 [1] rfl ?_
     refine kd (Qi (k0) Vc Kn rfl rfl (rfl) (Qg hgk) rfl rfl) rfl ?_
     refine Xd tt 7 [1] rfl ?_
     refine kd (Qi (i) Vc Kn rfl rfl (rfl) (Qg hx) rfl rfl) rfl ?_
     refine Xd tt 7 [1] rfl ?_
     refine kd (Qi (k) Vc Kn rfl rfl (rfl) (Qg hy) rfl rfl) rfl ?_
     refine Qr tt 2 rfl ?_
     refine Ye tt 1 [0] qGg rfl rfl rfl (Vx (a:=s.1.c) (b:=s.2.c) (c:=x.c) (e:=y.c) (hs1) (hs2) (hxr) (hyr)) rfl rfl ?_
     refine Qw tt rfl ?_
     refine kl tt 4 [] qGf rfl rfl rfl (W7 (p:=(Xj s.1.c s.2.c x.c y.c)) (q:=((Qe n d))) (c:=c) (hfs.1) (hfs.2) (hqs.mono (by decide))) rfl rfl ?_
     refine Qf tt 0 [] ((Qd rfl rfl (decide_eq_false hg0) (Qv tt rfl rfl))) rfl ?_
     refine Qf tt 0 [] ((Qd rfl rfl (decide_eq_false hg0) (Qv tt rfl rfl))) rfl ?_
     refine Qf tt 0 [] ((Qd rfl rfl (decide_eq_false hg0) (Qv tt rfl rfl))) rfl ?_
     refine Qf tt 0 [] ((Qd rfl rfl (decide_eq_true hz) (Qv tt rfl rfl))) rfl ?_
     refine Qf tt 0 [] ((Qd rfl rfl (decide_eq_true hz) (Qv tt rfl rfl))) rfl ?_
     refine Qf tt 0 [] ((Qd rfl rfl (decide_eq_true hz) (Qv tt rfl rfl))) rfl ?_
     refine Qf tt 0 [] ((Qd rfl rfl (decide_eq_true hz) (F0 tt 1 rfl rfl))) rfl ?_
     refine Qf tt 0 [] ((Qd rfl rfl (decide_eq_true hz) (Qv tt rfl rfl))) rfl ?_
     refine Qf tt 0 [] ((Qd rfl rfl (decide_eq_true hz) (Qi (i) Vc Kn rfl rfl (rfl) (Qg hx) rfl rfl))) rfl ?_
     refine Qf tt 0 [] ((Qd rfl rfl (decide_eq_true hz) (Qv tt rfl rfl))) rfl ?_
     refine Qf tt 0 [] ((Qd rfl rfl (decide_eq_true hz) (Qv tt rfl rfl))) rfl ?_
     refine Qf tt 0 [] ((Qd rfl rfl (decide_eq_true hz) (Qv tt rfl rfl))) rfl ?_
     refine Qf tt 0 [] ((Qd rfl rfl (decide_eq_true hz) (Qv tt rfl rfl))) rfl ?_
     refine Qf tt 0 [] ((Qd rfl rfl (decide_eq_true hz) (Qv tt rfl rfl))) rfl ?_
     refine Qf tt 0 [] ((Qd rfl rfl (decide_eq_false hx1) (Qv tt rfl rfl))) rfl ?_
     refine Qf tt 0 [] ((Qd rfl rfl (decide_eq_false hx1) (Qv tt rfl rfl))) rfl ?_
     refine Qf tt 0 [] ((Qd rfl rfl (decide_eq_false hx1) (Qv tt rfl rfl))) rfl ?_
     refine Qf tt 0 [] ((Qd rfl rfl (decide_eq_false hx1) (F0 tt 1 rfl rfl))) rfl ?_
     refine Qf tt 0 [] ((Qd rfl rfl (decide_eq_false hx1) (Qv tt rfl rfl))) rfl ?_
     refine Qf tt 0 [] ((Qd rfl rfl (decide_eq_false hx1) (Qi (i) Vc Kn rfl rfl (rfl) (Qg hx) rfl rfl))) rfl ?_
     refine Qf tt 0 [] ((Qd rfl rfl (decide_eq_false hx1) (Qv tt rfl rfl))) rfl ?_
     refine Qf tt 0 [] ((Qd rfl rfl (decide_eq_false hx1) (Qv tt rfl rfl))) rfl ?_
     refine Qf tt 0 [] ((Qd rfl rfl (decide_eq_false hx1) (Qv tt rfl rfl))) rfl ?_
     refine Qf tt 0 [] ((Qd rfl rfl (decide_eq_false hx1) (Qv tt rfl rfl))) rfl ?_
     refine Qf tt 0 [] ((Qd rfl rfl (decide_eq_false hx1) (Qv tt rfl rfl))) rfl ?_
     refine Qf tt 0 [] ((Qd rfl rfl (decide_eq_true he) (Qv tt rfl rfl))) rfl ?_
     refine Qf tt 0 [] ((Qd rfl rfl (decide_eq_true he) (Qv tt rfl rfl))) rfl ?_
     refine Qf tt 0 [] ((Qd rfl rfl (decide_eq_true he) (Qv tt rfl rfl))) rfl ?_
     refine Qf tt 0 [] ((Qd rfl rfl (decide_eq_true he) (F0 tt 1 rfl rfl))) rfl ?_
     refine Qf tt 0 [] ((Qd rfl rfl (decide_eq_true he) (Qv tt rfl rfl))) rfl ?_
     refine Qf tt 0 [] ((Qd rfl rfl (decide_eq_true he) (Qi (k) Vc Kn rfl rfl (rfl) (Qg hy) rfl rfl))) rfl ?_
     refine Qf tt 0 [] ((Qd rfl rfl (decide_eq_true he) (Qv tt rfl rfl))) rfl ?_
     refine Qf tt 0 [] ((Qd rfl rfl (decide_eq_true he) (Qv tt rfl rfl))) rfl ?_
     refine Qf tt 0 [] ((Qd rfl rfl (decide_eq_true he) (Qv tt rfl rfl))) rfl ?_
     refine Qf tt 0 [] ((Qd rfl rfl (decide_eq_true he) (Qv tt rfl rfl))) rfl ?_
     refine Qf tt 0 [] ((Qd rfl rfl (decide_eq_false hx1) (Zp rfl (decide_eq_true he) rfl rfl))) rfl ?_
     refine Qf tt 0 [] ((Qd rfl rfl (decide_eq_true hz) (Zu rfl (decide_eq_false hx1) rfl rfl))) rfl ?_
     refine Qf tt 0 [] ((Qd rfl rfl (decide_eq_false hg0) (Zp rfl (decide_eq_true hz) rfl rfl))) rfl ?_
     refine Qf tt 0 [] (Zu rfl (decide_eq_false hg0) rfl rfl) rfl ?_
     refine Xb tt 1 [] (decide_eq_false (by omega)) rfl rfl ?_
     refine Qf tt 1 [] (Q6 (r:=((k+1:Nat):Int)) rfl rfl (Qm (by omega) (by omega)) rfl) rfl ?_
     refine Qk [7,8,10,11,13,14,15,16,72,73,17] rfl rfl ?_
     refine Q7 ?_
     refine ⟨_,?_,k+1,by omega,by omega,rfl,rfl,rfl⟩
     omega
    skip
    refine Xd tt 5 [1] rfl ?_
    refine Qf tt 1 [] (Qj (m:=M.length) Vc rfl (Xu _) rfl) rfl ?_
    refine Xf tt 0 [] (decide_eq_true (by omega)) rfl rfl ?_
    refine Qx 34 Qp rfl rfl rfl ?_
    refine Xd tt 5 [1] rfl ?_
    refine kd (Qi (i0) Vc Kn rfl rfl (rfl) (Qg hgi) rfl rfl) rfl ?_
    refine Xd tt 7 [1] rfl ?_
    refine kd (Qi (k0) Vc Kn rfl rfl (rfl) (Qg hgk) rfl rfl) rfl ?_
    refine Xd tt 7 [1] rfl ?_
    refine kd (Qi (i) Vc Kn rfl rfl (rfl) (Qg hx) rfl rfl) rfl ?_
    refine Xd tt 7 [1] rfl ?_
    refine kd (Qi (k) Vc Kn rfl rfl (rfl) (Qg hy) rfl rfl) rfl ?_
    refine Qr tt 2 rfl ?_
    refine Ye tt 1 [0] qGg rfl rfl rfl (Vx (a:=s.1.c) (b:=s.2.c) (c:=x.c) (e:=y.c) (hs1) (hs2) (hxr) (hyr)) rfl rfl ?_
    refine Qw tt rfl ?_
    refine kl tt 4 [] qGf rfl rfl rfl (W7 (p:=(Xj s.1.c s.2.c x.c y.c)) (q:=((Qe n d))) (c:=c) (hfs.1) (hfs.2) (hqs.mono (by decide))) rfl rfl ?_
    refine Qf tt 0 [] ((Qd rfl rfl (decide_eq_false hg0) (Qv tt rfl rfl))) rfl ?_
    refine Qf tt 0 [] ((Qd rfl rfl (decide_eq_false hg0) (Qv tt rfl rfl))) rfl ?_
    refine Qf tt 0 [] ((Qd rfl rfl (decide_eq_false hg0) (Qv tt rfl rfl))) rfl ?_
    refine Qf tt 0 [] ((Qd rfl rfl (decide_eq_true hz) (Qv tt rfl rfl))) rfl ?_
    refine Qf tt 0 [] ((Qd rfl rfl (decide_eq_true hz) (Qv tt rfl rfl))) rfl ?_
    refine Qf tt 0 [] ((Qd rfl rfl (decide_eq_true hz) (Qv tt rfl rfl))) rfl ?_
    refine Qf tt 0 [] ((Qd rfl rfl (decide_eq_true hz) (F0 tt 1 rfl rfl))) rfl ?_
    refine Qf tt 0 [] ((Qd rfl rfl (decide_eq_true hz) (Qv tt rfl rfl))) rfl ?_
    refine Qf tt 0 [] ((Qd rfl rfl (decide_eq_true hz) (Qi (i) Vc Kn rfl rfl (rfl) (Qg hx) rfl rfl))) rfl ?_
    refine Qf tt 0 [] ((Qd rfl rfl (decide_eq_true hz) (Qv tt rfl rfl))) rfl ?_
    refine Qf tt 0 [] ((Qd rfl rfl (decide_eq_true hz) (Qv tt rfl rfl))) rfl ?_
    refine Qf tt 0 [] ((Qd rfl rfl (decide_eq_true hz) (Qv tt rfl rfl))) rfl ?_
    refine Qf tt 0 [] ((Qd rfl rfl (decide_eq_true hz) (Qv tt rfl rfl))) rfl ?_
    refine Qf tt 0 [] ((Qd rfl rfl (decide_eq_true hz) (Qv tt rfl rfl))) rfl ?_
    refine Qf tt 0 [] ((Qd rfl rfl (decide_eq_false hx1) (Qv tt rfl rfl))) rfl ?_
    refine Qf tt 0 [] ((Qd rfl rfl (decide_eq_false hx1) (Qv tt rfl rfl))) rfl ?_
    refine Qf tt 0 [] ((Qd rfl rfl (decide_eq_false hx1) (Qv tt rfl rfl))) rfl ?_
    refine Qf tt 0 [] ((Qd rfl rfl (decide_eq_false hx1) (F0 tt 1 rfl rfl))) rfl ?_
    refine Qf tt 0 [] ((Qd rfl rfl (decide_eq_false hx1) (Qv tt rfl rfl))) rfl ?_
    refine Qf tt 0 [] ((Qd rfl rfl (decide_eq_false hx1) (Qi (i) Vc Kn rfl rfl (rfl) (Qg hx) rfl rfl))) rfl ?_
    refine Qf tt 0 [] ((Qd rfl rfl (decide_eq_false hx1) (Qv tt rfl rfl))) rfl ?_
    refine Qf tt 0 [] ((Qd rfl rfl (decide_eq_false hx1) (Qv tt rfl rfl))) rfl ?_
    refine Qf tt 0 [] ((Qd rfl rfl (decide_eq_false hx1) (Qv tt rfl rfl))) rfl ?_
    refine Qf tt 0 [] ((Qd rfl rfl (decide_eq_false hx1) (Qv tt rfl rfl))) rfl ?_
    refine Qf tt 0 [] ((Qd rfl rfl (decide_eq_false hx1) (Qv tt rfl rfl))) rfl ?_
    refine Qf tt 0 [] (Qh rfl rfl (decide_eq_false he) rfl) rfl ?_
    refine Qf tt 0 [] (Qh rfl rfl (decide_eq_false he) rfl) rfl ?_
    refine Qf tt 0 [] (Qh rfl rfl (decide_eq_false he) rfl) rfl ?_
    refine Qf tt 0 [] (Qh rfl rfl (decide_eq_false he) rfl) rfl ?_
    refine Qf tt 0 [] (Qh rfl rfl (decide_eq_false he) rfl) rfl ?_
    refine Qf tt 0 [] (Qh rfl rfl (decide_eq_false he) rfl) rfl ?_
    refine Qf tt 0 [] (Qh rfl rfl (decide_eq_false he) rfl) rfl ?_
    refine Qf tt 0 [] (Qh rfl rfl (decide_eq_false he) rfl) rfl ?_
    refine Qf tt 0 [] (Qh rfl rfl (decide_eq_false he) rfl) rfl ?_
    refine Qf tt 0 [] (Qh rfl rfl (decide_eq_false he) rfl) rfl ?_
    refine Qf tt 0 [] ((Qd rfl rfl (decide_eq_false hx1) (Zu rfl (decide_eq_false he) rfl rfl))) rfl ?_
    refine Qf tt 0 [] ((Qd rfl rfl (decide_eq_true hz) (Zu rfl (decide_eq_false hx1) rfl rfl))) rfl ?_
    refine Qf tt 0 [] ((Qd rfl rfl (decide_eq_false hg0) (Zp rfl (decide_eq_true hz) rfl rfl))) rfl ?_
    refine Qf tt 0 [] (Zu rfl (decide_eq_false hg0) rfl rfl) rfl ?_
    refine Xb tt 1 [] (rfl) rfl rfl ?_
    refine Qf tt 1 [] (Q6 (r:=((k+1:Nat):Int)) rfl rfl (Qm (by omega) (by omega)) rfl) rfl ?_
    refine Qk [7,8,10,11,13,14,15,16,72,73,17] rfl rfl ?_
    refine Q7 ?_
    refine ⟨_,?_,k+1,by omega,by omega,rfl,rfl,rfl⟩
    omega
   skip
   refine Xd tt 5 [1] rfl ?_
   refine Qf tt 1 [] (Qj (m:=M.length) Vc rfl (Xu _) rfl) rfl ?_
   refine Xf tt 0 [] (decide_eq_true (by omega)) rfl rfl ?_
   refine Qx 34 Qp rfl rfl rfl ?_
   refine Xd tt 5 [1] rfl ?_
   refine kd (Qi (i0) Vc Kn rfl rfl (rfl) (Qg hgi) rfl rfl) rfl ?_
   refine Xd tt 7 [1] rfl ?_
   refine kd (Qi (k0) Vc Kn rfl rfl (rfl) (Qg hgk) rfl rfl) rfl ?_
   refine Xd tt 7 [1] rfl ?_
   refine kd (Qi (i) Vc Kn rfl rfl (rfl) (Qg hx) rfl rfl) rfl ?_
   refine Xd tt 7 [1] rfl ?_
   refine kd (Qi (k) Vc Kn rfl rfl (rfl) (Qg hy) rfl rfl) rfl ?_
   refine Qr tt 2 rfl ?_
   refine Ye tt 1 [0] qGg rfl rfl rfl (Vx (a:=s.1.c) (b:=s.2.c) (c:=x.c) (e:=y.c) (hs1) (hs2) (hxr) (hyr)) rfl rfl ?_
   refine Qw tt rfl ?_
   refine kl tt 4 [] qGf rfl rfl rfl (W7 (p:=(Xj s.1.c s.2.c x.c y.c)) (q:=((Qe n d))) (c:=c) (hfs.1) (hfs.2) (hqs.mono (by decide))) rfl rfl ?_
   refine Qf tt 0 [] ((Qd rfl rfl (decide_eq_false hg0) (Qv tt rfl rfl))) rfl ?_
   refine Qf tt 0 [] ((Qd rfl rfl (decide_eq_false hg0) (Qv tt rfl rfl))) rfl ?_
   refine Qf tt 0 [] ((Qd rfl rfl (decide_eq_false hg0) (Qv tt rfl rfl))) rfl ?_
   refine Qf tt 0 [] (K6 rfl rfl (decide_eq_false hz) rfl) rfl ?_
   refine Qf tt 0 [] (K6 rfl rfl (decide_eq_false hz) rfl) rfl ?_
   refine Qf tt 0 [] (K6 rfl rfl (decide_eq_false hz) rfl) rfl ?_
   refine Qf tt 0 [] (K6 rfl rfl (decide_eq_false hz) rfl) rfl ?_
   refine Qf tt 0 [] (K6 rfl rfl (decide_eq_false hz) rfl) rfl ?_
   refine Qf tt 0 [] (K6 rfl rfl (decide_eq_false hz) rfl) rfl ?_
   refine Qf tt 0 [] (K6 rfl rfl (decide_eq_false hz) rfl) rfl ?_
   refine Qf tt 0 [] (K6 rfl rfl (decide_eq_false hz) rfl) rfl ?_
   refine Qf tt 0 [] (K6 rfl rfl (decide_eq_false hz) rfl) rfl ?_
   refine Qf tt 0 [] (K6 rfl rfl (decide_eq_false hz) rfl) rfl ?_
   refine Qf tt 0 [] (K6 rfl rfl (decide_eq_false hz) rfl) rfl ?_
   refine Qf tt 0 [] (Jo rfl rfl rfl) rfl ?_
   refine Qf tt 0 [] (Jo rfl rfl rfl) rfl ?_
   refine Qf tt 0 [] (Jo rfl rfl rfl) rfl ?_
   refine Qf tt 0 [] (Jo rfl rfl rfl) rfl ?_
   refine Qf tt 0 [] (Jo rfl rfl rfl) rfl ?_
   refine Qf tt 0 [] (Jo rfl rfl rfl) rfl ?_
   refine Qf tt 0 [] (Jo rfl rfl rfl) rfl ?_
   refine Qf tt 0 [] (Jo rfl rfl rfl) rfl ?_
   refine Qf tt 0 [] (Jo rfl rfl rfl) rfl ?_
   refine Qf tt 0 [] (Jo rfl rfl rfl) rfl ?_
   refine Qf tt 0 [] (Jo rfl rfl rfl) rfl ?_
   refine Qf tt 0 [] (Jo rfl rfl rfl) rfl ?_
   refine Qf tt 0 [] (Jo rfl rfl rfl) rfl ?_
   refine Qf tt 0 [] (Jo rfl rfl rfl) rfl ?_
   refine Qf tt 0 [] (Jo rfl rfl rfl) rfl ?_
   refine Qf tt 0 [] (Jo rfl rfl rfl) rfl ?_
   refine Qf tt 0 [] (Jo rfl rfl rfl) rfl ?_
   refine Qf tt 0 [] (Jo rfl rfl rfl) rfl ?_
   refine Qf tt 0 [] (Jo rfl rfl rfl) rfl ?_
   refine Qf tt 0 [] (Jo rfl rfl rfl) rfl ?_
   refine Qf tt 0 [] (Jo rfl rfl rfl) rfl ?_
   refine Qf tt 0 [] (Jo rfl rfl rfl) rfl ?_
   refine Qf tt 0 [] (K6 rfl rfl (decide_eq_false hz) rfl) rfl ?_
   refine Qf tt 0 [] ((Qd rfl rfl (decide_eq_false hg0) (Zu rfl (decide_eq_false hz) rfl rfl))) rfl ?_
   refine Qf tt 0 [] (Zu rfl (decide_eq_false hg0) rfl rfl) rfl ?_
   refine Xb tt 1 [] (rfl) rfl rfl ?_
   refine Qf tt 1 [] (Q6 (r:=((k+1:Nat):Int)) rfl rfl (Qm (by omega) (by omega)) rfl) rfl ?_
   refine Qk [7,8,10,11,13,14,15,16,72,73,17] rfl rfl ?_
   refine Q7 ?_
   refine ⟨_,?_,k+1,by omega,by omega,rfl,rfl,rfl⟩
   omega
  skip
  refine Xd tt 5 [1] rfl ?_
  refine Qf tt 1 [] (Qj (m:=M.length) Vc rfl (Xu _) rfl) rfl ?_
  refine Xb tt 0 [] (decide_eq_false (by omega)) rfl rfl ?_
  refine Qf tt 1 [] (Q6 (r:=((i+1:Nat):Int)) rfl rfl (Qm (by omega) (by omega)) rfl) rfl ?_
  refine Qk [7,8,10,11,13,14,15,72,73] rfl rfl ?_
  refine Q7 ?_
  refine ⟨_,?_,i+1,by omega,rfl,rfl,rfl⟩
  omega
 skip
 refine Qr tt 1 rfl ?_
 refine Xb tt 0 [] (decide_eq_false (by omega)) rfl rfl ?_
 refine kc (Qoe Qp 19 [165,166,167,168,169,170,171,172,173,174,175,176,177,178,179,180,181,182,183] [[],[0],[1],[2],[3],[],[5],[6],[7],[8],[],[10],[11],[12],[13],[14],[9,15],[16],[17]] [.one (.ow gs 0),.one (.ow gs 0),.one (.ow gs 0),.one (cts ((Z9 (Z9 (Yn (Qe n d) M))))),.one (.int .i64 (((((Z9 (Z9 (Yn (Qe n d) M)))).length:Nat):Int))),.one (.ow gp 0),.one (.ow gp 0),.one (.ow gp 0),.one (Kq M),.one (.int .i64 (((M.length:Nat):Int))),.one (.ow gp 0),.one (.ow gp 0),.one (.ow gp 0),.one (Kq M),.one (.int .i64 (((M.length:Nat):Int))),.one (.int .i64 (((M.length-1:Nat):Int))),.one (.int .i64 (((M.length*(M.length-1):Nat):Int))),.one (.int .i64 (((M.length*(M.length-1) / 2:Nat):Int))),.one (.int .i64 (((M.length*(M.length-1) / 2-1:Nat):Int)))] 3 (fun u B=>u=.one (cts ((Z9 (Z9 (Yn (Qe n d) M)))))∧B=[.blk gs 108 [.bool true,pl ([-((Qe n d)).num,(((Qe n d)).den:Int)]),sg ((((Qe n d))).num),mg ((((Qe n d))).num),sg (((((Qe n d))).den:Int)),mg (((((Qe n d))).den:Int)),sg ((((Qe n d))).num),mg ((((Qe n d))).num),sg (((((Qe n d))).den:Int)),mg (((((Qe n d))).den:Int)),Ms ((Z9 (Yn ((Qe n d)) M))),.int .i64 0,Um M,Um ([s.1,s.2])],.blk g1 36 [Zm ((zp [-((Qe n d)).num,(((Qe n d)).den:Int)])),Kk c,dl ((dig (((Qe n d)).num).natAbs)),sg (((Qe n d)).num),dl ((dig ((((Qe n d)).den:Int)).natAbs)),sg ((((Qe n d)).den:Int)),dl ((dig (((Qe n d)).num).natAbs)),sg (((Qe n d)).num),dl ((dig ((((Qe n d)).den:Int)).natAbs)),sg ((((Qe n d)).den:Int))],.blk gp 93 [Kq M,dl ((dig (((Qe n d)).num).natAbs)),sg (((Qe n d)).num),dl ((dig ((((Qe n d)).den:Int)).natAbs)),sg ((((Qe n d)).den:Int)),Zm ((zp [-((Qe n d)).num,(((Qe n d)).den:Int)])),Kk c,dl ((dig (((Qe n d)).num).natAbs)),sg (((Qe n d)).num),dl ((dig ((((Qe n d)).den:Int)).natAbs)),sg ((((Qe n d)).den:Int)),dl ((dig (((Qe n d)).num).natAbs)),sg (((Qe n d)).num),dl ((dig ((((Qe n d)).den:Int)).natAbs)),sg ((((Qe n d)).den:Int)),Fl w,.int .i64 0,.nils]]) rfl rfl (.one (cts ((Z9 (Z9 (Yn (Qe n d) M)))))) rfl (fun _ _ h_=>h_.1) rfl ⟨Zd rfl rfl,Kv rfl rfl rfl,W8 Cx rfl rfl,?_,Qj (m:=((Z9 (Z9 (Yn (Qe n d) M)))).length) qWe rfl (Sw _) rfl,Zd rfl rfl,Kv rfl rfl rfl,W8 Er rfl rfl,Jm 1 qFd qUz rfl rfl rfl rfl rfl,Qj (m:=M.length) Vc rfl (Xu _) rfl,Zd rfl rfl,Kv rfl rfl rfl,W8 Er rfl rfl,Jm 1 qFd qUz rfl rfl rfl rfl rfl,Qj (m:=M.length) Vc rfl (Xu _) rfl,Xs (r:=((M.length-1:Nat):Int)) rfl rfl (Qm (by omega) (by omega)) rfl,Qbo (r:=((M.length*(M.length-1):Nat):Int)) rfl rfl (Qm (by push_cast; rfl) (by omega)) rfl,Hb (r:=((M.length*(M.length-1) / 2:Nat):Int)) rfl rfl (by decide) (by rw [Qh1]; exact Xz (by omega) (by omega)) rfl,Xs (r:=((M.length*(M.length-1) / 2-1:Nat):Int)) rfl rfl (Qm (by omega) (by omega)) rfl,trivial⟩ ?_ ?_)
 ·refine Rz fun N k_=>?_
  refine Qam 2 rfl ?_
  refine Vs (Bin:=[.blk gs 108 [.bool true,pl ([-((Qe n d)).num,(((Qe n d)).den:Int)]),sg ((((Qe n d))).num),mg ((((Qe n d))).num),sg (((((Qe n d))).den:Int)),mg (((((Qe n d))).den:Int)),sg ((((Qe n d))).num),mg ((((Qe n d))).num),sg (((((Qe n d))).den:Int)),mg (((((Qe n d))).den:Int)),Ms ((Z9 (Yn ((Qe n d)) M))),.int .i64 0,Um M,Um ([s.1,s.2])]]) Tryz.func40 rfl rfl rfl rfl (Ea (ws:=Z9 (Yn (Qe n d) M)) (by omega) hcpb) rfl fun r_ B_ hr_=>?_
  obtain ⟨rfl,rfl⟩:=hr_
  exact Qo (k_ _ _ ⟨rfl,rfl⟩)
 ·rintro u_ B_ ⟨rfl,rfl⟩
  exact ⟨Zd rfl rfl,Kv rfl rfl rfl,W8 Cx rfl rfl,trivial,Qj (m:=((Z9 (Z9 (Yn (Qe n d) M)))).length) qWe rfl (Sw _) rfl,Zd rfl rfl,Kv rfl rfl rfl,W8 Er rfl rfl,Jm 2 qFd qUz rfl rfl rfl rfl rfl,Qj (m:=M.length) Vc rfl (Xu _) rfl,Zd rfl rfl,Kv rfl rfl rfl,W8 Er rfl rfl,Jm 2 qFd qUz rfl rfl rfl rfl rfl,Qj (m:=M.length) Vc rfl (Xu _) rfl,Xs (r:=((M.length-1:Nat):Int)) rfl rfl (Qm (by omega) (by omega)) rfl,Qbo (r:=((M.length*(M.length-1):Nat):Int)) rfl rfl (Qm (by push_cast; rfl) (by omega)) rfl,Hb (r:=((M.length*(M.length-1) / 2:Nat):Int)) rfl rfl (by decide) (by rw [Qh1]; exact Xz (by omega) (by omega)) rfl,Xs (r:=((M.length*(M.length-1) / 2-1:Nat):Int)) rfl rfl (Qm (by omega) (by omega)) rfl,trivial⟩
 rintro u_ B_ ⟨rfl,rfl⟩
 refine ⟨_,rfl,kn ?_⟩
 refine Qr tt 2 rfl ?_
 refine Qf tt 0 [] ((Qd rfl rfl (decide_eq_true (by omega)) (Zs Tryz.func36 rfl rfl rfl rfl (Mw) rfl))) rfl ?_
 refine Qf tt 1 [] (Zp rfl (decide_eq_true (by omega)) rfl rfl) rfl ?_
 exact Xq tt [] rfl (rfl)
end Orr

namespace Orr
open Go Go.Proofs
variable {H:Type} {enc:TypeId×Value→H} {w:World} {base:Nat} {spare:Nat→Bool} {held:Bool}
theorem Hs {α:Type} {l:List α} {n i:Nat} (h:l.length=n) (hi:i<n):∃ x,l[i]? = some x:=⟨l[i]'(by omega),Xv (by omega)⟩
end Orr

namespace Orr
open Go Go.Proofs Go.ChangeShapes Go.WideShapes Go.ChangeAt Go.RowKit Go.WideElems
theorem Quk {w:World} {a:Addr} {v:Value} (h:w.cell? a=some v):a.spot=none∧a.block<w.heap.size:=by
  simp only [World.cell?] at h
  split at h
  · rename_i c t fr hc
    split at h
    · cases h
    · rename_i hs
      refine ⟨by cases e:a.spot with | none=>rfl | some _=>simp [e] at hs,?_⟩
      exact (qVs.1 hc).1
  · cases h
theorem Quo {a:Addr} (h:a.spot=none) (n m:Nat):(a.add n).add m=⟨a.block,a.off+n+m,none⟩:=by
  obtain ⟨b,o,s⟩:=a
  simp only at h
  subst h
  simp only [Addr.add]
  split
  · rename_i h; subst h
    split
    · rename_i h; subst h; simp
    · simp
  · split
    · rename_i h; subst h; simp
    · simp
theorem Qtt {w w':World} {Bo:List Y8} (h:Moved w w' [] Bo) {p:MemPlace} (hp:p.block<w.heap.size):w.sameAt w' p:=by
  cases p with
  | cell b off=>simp only [World.sameAt,World.cell?]; rw [h.keep b hp (by simp)]
  | map b=>exact h.keep b hp (by simp)
theorem Qto {w w':World} {Bo:List Y8} (h:Moved w w' [] Bo) (may:MemPlace→Prop):w.keptBut w' may:=by
  refine ⟨h.io.1,h.io.2,fun i hi=>?_⟩
  rw [h.keep i hi (by simp)]
  cases w.heap[i]? with
  | none=>rfl
  | some o=>cases o <;> simp
end Orr

namespace Orr
open Go Go.Proofs Go.ChangeShapes Go.WideShapes Go.ChangeAt Go.RowKit Go.WideElems
theorem Pe {H:Type} {P:Program} {e:TypeId}:∀ {l:List (DataW H)} {i:Nat} {d:DataW H},l[i]? = some d→∀ n∈d.weights P e,n∈DataW.weightsAll P e l
  | [],i,d,h,_,_=>by simp at h
  |
   x::l,0,d,h,n,hn=>by
   simp at h; subst h
   simp only [DataW.weightsAll,Yz]; exact .inl hn
  |
   x::l,i+1,d,h,n,hn=>by
   simp only [DataW.weightsAll,Yz]
   exact .inr (Pe (i:=i) (by simpa using h) n hn)
theorem R6 {H:Type} {P:Program} {t:TypeId} {fs:Array Field} {parts:List (DataW H)} (hu:P.underlying t=some (.struct fs)) (hz:((DataW.agg parts).weights P t).all (· ≤ reachBytes)=true) {i:Nat} {f:Field} {d:DataW H} (hf:fs[i]? = some f) (hd:parts[i]? = some d) :
    (d.weights P f.type).all (· ≤ reachBytes)=true:=by
  rw [Bv] at hz ⊢
  intro n hn
  refine hz n ?_
  simp only [DataW.weights,hu]
  exact DataW.weights_mem_each (j:=i) (by rw [Sd]; simp [hf]) hd n hn
variable {H:Type} {enc:TypeId×Value→H} {w:World}
abbrev O0:Nat→Prop:=Qy (fun _=>False) []
def Els (w:World) (cs:List Value) (ls:List LV):Prop:=cs.length=ls.length∧∀ (j:Nat) (u:LV),ls[j]? = some u→∃ v,cs[j]? = some v∧LRep w O0 v u
theorem Co {α:Type} {rw_:α→List LV} {Ok:α→Prop} {t e sz:Nat} (hu:Tryz.prog.underlying t=some (.slice e)) (hc:Tryz.prog.cellsOf e=sz) (hsz:0<sz) (hb:1≤Tryz.prog.bytesOf e) (hw:∀ z,(rw_ z).length=sz)
    (elem:∀ fuel cs x,DataW.trod enc Tryz.prog w 0 (fun _=>true) true fuel e cs=some x→(x.1.weights Tryz.prog e).all (· ≤ reachBytes)=true→∃ z,Ok z∧Els w cs (rw_ z))
    {fuel:Nat} {cs:List Value} {x:DataW H×List MemPlace} (h:DataW.trod enc Tryz.prog w 0 (fun _=>true) true fuel t cs=some x) (hz:(x.1.weights Tryz.prog t).all (· ≤ reachBytes)=true) :
    ∃ (v:Value) (l:List α),cs=[v]∧(∀ z∈l,Ok z)∧l.length<2^47∧LRep w O0 v (.row (l.map rw_)):=by
  rcases Go.Deep.open_slice hu h with ⟨rfl,_⟩ | ⟨a',len,cap,m,n,D,Pl,rfl,_,hlc,hcap,hm,rfl,hr⟩
  · refine ⟨_,[],rfl,by simp,Nat.two_pow_pos 47,?_⟩
    exact LRep.row none 0 0 0 0 [] (fun _ _=>.bool true) (Ji _) (by decide) (by decide) (by simp) (by simp) (by simp) (by simp)
  · simp only [if_true] at hm
    subst hm
    rw [Bv] at hz
    have hlen:len<2^47:=by
      have h0:=hz ((len+(m-len))*Tryz.prog.bytesOf e) (by simp [DataW.weights,hu])
      have h1:len≤(len+(m-len))*Tryz.prog.bytesOf e:=by
        have:=qXr (Nat.le_add_right len (m-len)) hb
        omega
      have h2:(len+(m-len))*Tryz.prog.bytesOf e≤reachBytes:=by simpa using h0
      exact B9 (Xa h1 h2) reachBytes_lt
    have hel:∀ i,i<len→((D i).weights Tryz.prog e).all (· ≤ reachBytes)=true:=fun i hi=>by
      rw [Bv]
      intro k hk
      refine hz k ?_
      simp only [DataW.weights,hu]
      refine W0 _ (Yz.2 (.inl (Pe (i:=i) ?_ k hk)))
      rw [Sd,qJm hi]; rfl
    have hone:∀ i,i<len→∃ z cs',Ok z∧Els w cs' (rw_ z)∧∀ j,j<sz→w.cell? ((a'.add (i*sz)).add j)=cs'[j]? := fun i hi=>by
      obtain ⟨cs',hcs,htr⟩:=hr i (by omega)
      rw [hc] at hcs
      obtain ⟨_,hl,hcell⟩:=World.cells?_some hcs
      obtain ⟨z,hz1,hz2⟩:=elem _ _ _ htr (hel i hi)
      refine ⟨z,cs',hz1,hz2,fun j hj=>?_⟩
      rw [hcell j (by omega)]
    have hspot:0<len→a'.spot=none∧a'.block<w.heap.size:=fun h0=>by
      obtain ⟨z,cs',_,⟨hl,_⟩,h3⟩:=hone 0 h0
      have h4:=h3 0 hsz
      have:(a'.add (0*sz)).add 0=a':=by simp [Addr.add]
      rw [this,Xv (by rw [hl,hw]; exact hsz)] at h4
      exact Quk h4
    obtain ⟨l,hll,hl⟩:∃ l:List α,l.length=len∧∀ i z,l[i]? = some z→Ok z∧∃ cs',Els w cs' (rw_ z)∧∀ j,j<sz→w.cell? ((a'.add (i*sz)).add j)=cs'[j]? := by
      have:∀ k,k≤len→∃ l:List α,l.length=k∧∀ i z,l[i]? = some z→Ok z∧∃ cs',Els w cs' (rw_ z)∧∀ j,j<sz→w.cell? ((a'.add (i*sz)).add j)=cs'[j]? := by
        intro k
        induction k with
        | zero=>intro _; exact ⟨[],rfl,fun i z h=>by simp at h⟩
        |
         succ k ih =>
         intro hk
         obtain ⟨l,h1,h2⟩:=ih (by omega)
         obtain ⟨z,cs',h3,h4,h5⟩:=hone k (by omega)
         refine ⟨l++[z],by simp [h1],fun i y hy=>?_⟩
         rcases Mp i l.length with hi | hi
         · rw [qXa hi] at hy; exact h2 i y hy
         · rw [qXj hi] at hy
           have:i-l.length=0:=by
             rcases H9 (i-l.length) with h | h
             · exact h
             · rw [Eu (by rw [List.length_singleton]; exact h)] at hy; cases hy
           rw [this] at hy
           simp at hy
           subst hy
           have:i=k:=by omega
           subst this
           exact ⟨h3,cs',h4,h5⟩
      exact this len (Ji _)
    refine ⟨_,l,rfl,fun z hz=>?_,by rw [hll]; exact hlen,?_⟩
    · obtain ⟨i,hi⟩:=qZn.1 hz
      exact (hl i z hi).1
    · have key:LRep w O0 (.slice (some a') (l.map rw_).length m) (.row (l.map rw_)):=by
        have hgl:∀ i c,(l.map rw_)[i]? = some c→∃ z,l[i]? = some z∧c=rw_ z∧i<len:=fun i c h=>by
          rw [Sd] at h
          cases e:l[i]? with
          | none=>rw [e] at h; cases h
          | some z=>rw [e] at h; simp at h; exact ⟨z,rfl,h.symm,by have:=(Wz.1 e).1; omega⟩
        have hcl:∀ i c,(l.map rw_)[i]? = some c→∃ cs':List Value,Els w cs' c∧∀ j,j<sz→w.cell? ⟨a'.block,a'.off+i*sz+j,none⟩=cs'[j]? := fun i c h=>by
          obtain ⟨z,hz,rfl,hi⟩:=hgl i c h
          obtain ⟨_,cs',h1,h2⟩:=hl i z hz
          refine ⟨cs',h1,fun j hj=>?_⟩
          rw [←h2 j hj,Quo (hspot (by omega)).1]
        refine LRep.row (some a') m sz a'.block a'.off (l.map rw_) (fun i j=>(w.cell? ⟨a'.block,a'.off+i*sz+j,none⟩).getD (.bool true)) (by rw [Zw]; omega) ?_ (by rw [Zw]; omega) ?_ ?_ ?_ ?_
        · have:maxLen=2^63-1:=by rfl
          omega
        · intro c hc2
          obtain ⟨z,_,rfl⟩:=Wa.1 hc2
          exact hw z
        · intro h0
          rw [Zw,hll] at h0
          obtain ⟨hs,hb⟩:=hspot h0
          refine ⟨?_,hb,by simp [O0,Qy]⟩
          obtain ⟨b,o,s⟩:=a'
          simp only at hs
          rw [hs]
        · intro i c hi j hj
          obtain ⟨z,_,rfl,_⟩:=hgl i c hi
          obtain ⟨cs',⟨h1,_⟩,h2⟩:=hcl i _ hi
          have hjs:j<sz:=by rw [←hw z]; exact hj
          rw [h2 j hjs,Xv (by rw [h1]; exact hj)]; rfl
        · intro i c hi j u hu2
          obtain ⟨z,_,rfl,_⟩:=hgl i c hi
          obtain ⟨cs',⟨h1,h3⟩,h2⟩:=hcl i _ hi
          obtain ⟨v,hv,hr2⟩:=h3 j u hu2
          have hjs:j<sz:=by rw [←hw z]; exact (Wz.1 hu2).1
          show LRep w O0 ((w.cell? ⟨a'.block,a'.off+i*sz+j,none⟩).getD (.bool true)) u
          rw [h2 j hjs,hv]; exact hr2
      rw [Zw,hll] at key
      exact key
abbrev Q0h (x:Nat):List LV:=[.int .u32 (x:Int)]
theorem Qsc:∀ fuel cs x,DataW.trod enc Tryz.prog w 0 (fun _=>true) true fuel 276 cs=some x→(x.1.weights Tryz.prog 276).all (· ≤ reachBytes)=true→∃ z:Nat,z<4294967296∧Els w cs (Q0h z):=by
  intro fuel cs x h _
  obtain ⟨n,rfl,_,hwf⟩:=DataW.trod_int Tryz.underlying276 h
  have hn:0≤n∧n<4294967296:=by
    have:0≤n∧n≤4294967295:=by simpa [Lit.wf,IntKind.min,IntKind.max,IntKind.signed,IntKind.bits] using hwf
    omega
  refine ⟨n.toNat,by omega,rfl,fun j u hu=>?_⟩
  match j,hu with
  |
   0,hu =>
   simp at hu; subst hu
   refine ⟨_,rfl,?_⟩
   rw [show max n 0=n by omega]
   exact .int _ _
  | j+1,hu=>simp at hu
set_option maxRecDepth 20000 in
theorem Ii:∀ fuel cs x,DataW.trod enc Tryz.prog w 0 (fun _=>true) true fuel 55 cs=some x→(x.1.weights Tryz.prog 55).all (· ≤ reachBytes)=true→∃ z:RawInt,z.Ok∧Els w cs (Qj4 z):=by
  intro fuel cs x h hz
  obtain ⟨xs,n,_,rfl,hl,hxs,hf⟩:=DataW.trod_struct Tryz.underlying55 h
  have hl:cs.length=2:=hl
  match cs,hl with
  |
   [v0,v1],_ =>
   obtain ⟨z0,hz0⟩:=Hs (i:=0) hxs (by decide)
   obtain ⟨z1,hz1⟩:=Hs (i:=1) hxs (by decide)
   have h0:=hf 0 _ rfl
   have h1:=hf 1 _ rfl
   rw [hz0] at h0; rw [hz1] at h1
   obtain ⟨b,e0,_⟩:=DataW.trod_bool qUa h0
   have f0:v0=.bool b:=(List.cons.inj (show [v0]=[Value.bool b] from e0)).1
   have hw1:=R6 Tryz.underlying55 hz (i:=1) rfl (d:=z1.1) (by rw [Sd,hz1]; rfl)
   obtain ⟨v,l,e1,hlo,_,hrep⟩:=Co (sz:=1) (Ok:=fun u:Nat=>u<4294967296) (rw_:=Q0h) Tryz.underlying53 (by kernel_rfl) (by decide) (of_decide_eq_true (by kernel_rfl)) (fun _=>rfl) Qsc h1 hw1
   have f1:v1=v:=(List.cons.inj (show [v1]=[v] from e1)).1
   subst f0 f1
   refine ⟨⟨b,l⟩,⟨hlo⟩,rfl,fun j u hu=>?_⟩
   match j,hu with
   | 0,hu=>simp at hu; subst hu; exact ⟨_,rfl,.bool _⟩
   | 1,hu=>simp at hu; subst hu; exact ⟨_,rfl,hrep⟩
   | j+2,hu=>simp at hu
set_option maxRecDepth 20000 in
theorem Qjg:∀ fuel cs x,DataW.trod enc Tryz.prog w 0 (fun _=>true) true fuel 76 cs=some x→(x.1.weights Tryz.prog 76).all (· ≤ reachBytes)=true→∃ z:RawPt,z.Ok∧Els w cs (rwp z):=by
  intro fuel cs x h hz
  obtain ⟨xs,n,_,rfl,hl,hxs,hf⟩:=DataW.trod_struct Tryz.underlying76 h
  have hl:cs.length=5:=hl
  match cs,hl with
  |
   [v0,v1,v2,v3,v4],_ =>
   obtain ⟨z0,hz0⟩:=Hs (i:=0) hxs (by decide)
   obtain ⟨z1,hz1⟩:=Hs (i:=1) hxs (by decide)
   have h0:=hf 0 _ rfl
   have h1:=hf 1 _ rfl
   rw [hz0] at h0; rw [hz1] at h1
   obtain ⟨id,e4,_,hwf⟩:=DataW.trod_int qFp h1
   have f4:v4=.int .i64 id:=(List.cons.inj (show [v4]=[Value.int .i64 id] from e4)).1
   have hw0:=R6 Tryz.underlying76 hz (i:=0) rfl (d:=z0.1) (by rw [Sd,hz0]; rfl)
   obtain ⟨ys,n2,_,e5,_,hys,hg⟩:=DataW.trod_struct qFw h0
   rw [e5] at hw0
   obtain ⟨y0,hy0⟩:=Hs (i:=0) hys (by decide)
   obtain ⟨y1,hy1⟩:=Hs (i:=1) hys (by decide)
   obtain ⟨y2,hy2⟩:=Hs (i:=2) hys (by decide)
   have g0:=hg 0 _ rfl
   have g1:=hg 1 _ rfl
   have g2:=hg 2 _ rfl
   rw [hy0] at g0; rw [hy1] at g1; rw [hy2] at g2
   have w0:=R6 qFw hw0 (i:=0) rfl (d:=y0.1) (by rw [Sd,hy0]; rfl)
   have w1:=R6 qFw hw0 (i:=1) rfl (d:=y1.1) (by rw [Sd,hy1]; rfl)
   have w2:=R6 qFw hw0 (i:=2) rfl (d:=y2.1) (by rw [Sd,hy2]; rfl)
   obtain ⟨u0,lx,e0,hx,_,rx⟩:=Co (sz:=2) (Ok:=RawInt.Ok) (rw_:=Qj4) Tryz.underlying52 (by kernel_rfl) (by decide) (of_decide_eq_true (by kernel_rfl)) (fun _=>rfl) Ii g0 w0
   obtain ⟨u1,ly,e1,hy,_,ry⟩:=Co (sz:=2) (Ok:=RawInt.Ok) (rw_:=Qj4) Tryz.underlying52 (by kernel_rfl) (by decide) (of_decide_eq_true (by kernel_rfl)) (fun _=>rfl) Ii g1 w1
   obtain ⟨d,hd,hde⟩:=Ii _ _ _ g2 w2
   have f0:v0=u0:=(List.cons.inj (show [v0]=[u0] from e0)).1
   have f1:v1=u1:=(List.cons.inj (show [v1]=[u1] from e1)).1
   have hde2:Els w [v2,v3] (Qj4 d):=hde
   subst f0 f1 f4
   obtain ⟨q2,hq2,r2⟩:=hde2.2 0 _ rfl
   obtain ⟨q3,hq3,r3⟩:=hde2.2 1 _ rfl
   simp at hq2 hq3
   subst hq2 hq3
   refine ⟨⟨lx,ly,d,id⟩,⟨hx,hy,hd,by simpa [Lit.wf,IntKind.min,IntKind.max,IntKind.signed,IntKind.bits] using hwf⟩,rfl,fun j u hu=>?_⟩
   match j,hu with
   | 0,hu=>simp at hu; subst hu; exact ⟨_,rfl,rx⟩
   | 1,hu=>simp at hu; subst hu; exact ⟨_,rfl,ry⟩
   | 2,hu=>simp at hu; subst hu; exact ⟨_,rfl,r2⟩
   | 3,hu=>simp at hu; subst hu; exact ⟨_,rfl,r3⟩
   | 4,hu=>simp at hu; subst hu; exact ⟨_,rfl,.int _ _⟩
   | j+5,hu=>simp at hu
set_option maxRecDepth 20000 in
theorem Qki {f:FuncId} {fn:Func} {s:ChangeSpec} (hp:fn.params = #[22,3,3]) (hr:fn.resultTypes = #[4]) (hv:s.vars=[])
    (hs:∀ (H:Type) (d1 d2 d3:DataW H),s.fn H [d1,d2,d3]={ results:=[.lit (.bool true)],args:=[d1,d2,d3] })
    (hlaid:laidOutB Tryz.prog=true) (hr22:Tryz.prog.readableRec 22=true) (hs22:22<Tryz.prog.types.size)
    (law:∀ (zs:List RawPt) (n d:Int),(∀ z∈zs,z.Ok)→zs.length<2^47→(-2^63≤n∧n≤2^63-1)→(-2^63≤d∧d≤2^63-1)→Q8 Tryz.prog f [.one (I0 zs),.one (.int .i64 n),.one (.int .i64 d)] (.one (.bool true)))
    {H:Type} {enc:TypeId×Value→H} {W:World} {base:Nat} {args:Array Value} {ds gs:List (DataW H)} {Qky:List MemPlace} {fresh handsOn:Bool}
    (hval:∀ (j:Nat) t v,fn.params[j]? = some t→args[j]? = some v→Value.okWide Tryz.prog W .any base t v)
    (hW:DataW.Whole enc Tryz.prog fn.params.toList s.vars false W args.toList ds gs Qky)
    (hz:(DataW.weightsEach Tryz.prog (fn.params.toList++s.plain.varTypes Tryz.prog) (ds++gs)).all (· ≤ reachBytes)=true) :
    Calls Tryz.prog f args W fun e W'=>∃ v,e=.returned v∧s.post enc Tryz.prog fn false fresh handsOn false W args v W':=by
  have hW':=hW
  obtain ⟨p,q,hA0,hV,rfl,hfz,hnd⟩:=hW
  have hA:DataW.TrodAll enc Tryz.prog W 0 (fun _=>true) true fn.params.toList args.toList ds p:=hA0
  rw [hv] at hV
  obtain ⟨rfl,rfl⟩:=trodVars_none hV
  have hlt:=hW'.lt
  rw [hp] at hA hval hz
  obtain ⟨v0,vs0,d0,ds0,p0,q0,hargs0,rfl,rfl,h0,r0⟩:=trodAll_cons hA
  obtain ⟨v1,vs1,d1,ds1,p1,q1,rfl,rfl,rfl,h1,r1⟩:=trodAll_cons r0
  obtain ⟨v2,vs2,d2,ds2,p2,q2,rfl,rfl,rfl,h2,r2⟩:=trodAll_cons r1
  obtain ⟨rfl,rfl,rfl⟩:=trodAll_nil r2
  obtain rfl:args = #[v0,v1,v2]:=by cases args; simp_all
  obtain ⟨n,rfl,rfl,rfl,w1⟩:=open_int qFp (hval 1 3 v1 rfl rfl) h1
  obtain ⟨d,rfl,rfl,rfl,w2⟩:=open_int qFp (hval 2 3 v2 rfl rfl) h2
  have hv0:=hval 0 22 v0 rfl rfl
  obtain ⟨a,len,cap,rfl⟩:=okWide_slice Tryz.underlying22 hv0
  have hz0:(d0.weights Tryz.prog 22).all (· ≤ reachBytes)=true:=by
    rw [Bv] at hz ⊢
    intro k hk
    exact hz k (DataW.weights_mem_each (j:=0) rfl rfl k hk)
  have h0':=h0
  obtain ⟨fu,h0'⟩:=h0'
  obtain ⟨v,zs,e0,hok,hlen,hrep⟩:=Co (sz:=5) (Ok:=RawPt.Ok) (rw_:=rwp) Tryz.underlying22 (by kernel_rfl) (by decide) (of_decide_eq_true (by kernel_rfl)) (fun _=>rfl) Qjg h0' hz0
  have f0:Value.slice a len cap=v:=(List.cons.inj (show [Value.slice a len cap]=[v] from e0)).1
  subst f0
  have hn1:-2^63≤n∧n≤2^63-1:=by simpa [Lit.wf,IntKind.min,IntKind.max,IntKind.signed,IntKind.bits] using w1
  have hd1:-2^63≤d∧d≤2^63-1:=by simpa [Lit.wf,IntKind.min,IntKind.max,IntKind.signed,IntKind.bits] using w2
  have hrep:LRep W (Qy (fun _=>False) []) (.slice a len cap) (I0 zs):=hrep
  have hcall:=law zs n d hok hlen hn1 hd1 (fun _=>False) W [.slice a len cap,.int .i64 n,.int .i64 d] [] (fun _ h=>h.elim) ⟨by simp,by simp⟩ ⟨hrep.x,(LRep.int .i64 n).x,(LRep.int .i64 d).x,trivial⟩ rfl
  refine hcall.mono fun e W' ⟨v,r,Bout,Bo,he,hpost,har,hbs,hm,hh⟩=>?_
  obtain ⟨rfl,rfl⟩:=hpost
  obtain rfl:v=.bool true:=by
    have h:LRep _ _ v (.bool true):=har
    cases h
    rfl
  refine ⟨_,he,?_⟩
  refine ⟨[d0,.lit (.int .i64 n),.lit (.int .i64 d)],[],_,[],p0++([]++([]++[])),[],hW',?_,?_,?_,Qto hm _,fun h=>by cases h⟩
  · rw [hr,qXh,hs]
    exact trodAll_cons_mk (shut_bool qUa true) trodAll_mk0
  · rw [hp,qXh,hs]
    have hb:∀ p∈p0,p.block<W.heap.size:=fun p hp=>hlt p (by simp [hp])
    exact trodAll_cons_mk (Trod_stays hlaid hr22 hs22 h0 (fun p hp=>Qtt hm (hb p hp)) (fun p hp=>by simpa using hb p hp)) (trodAll_cons_mk (shut_int qFp w1) (trodAll_cons_mk (shut_int qFp w2) trodAll_mk0))
  · rw [hv,qXh,hs]
    rfl
end Orr
