/- AMatches19 Read Last Read2 -/
import Derived.Test.YtaffmkgbfgjgeaaGreatPart09
import Derived.Test.YtaffmkgbfgjgeaaGreatPart05
import Derived.Test.YtaffmkgbfgjgeaaGreatPart00
import Derived.Test.YtaffmkgbfgjgeaaGreatPart02
import Derived.Test.YtaffmkgbfgjgeaaGreatPart08
import Derived.Deep.Slices
import Derived.ProofKit
import Derived.OpenShut
import Derived.WideKeyArgs
import Derived.SizedLaws
set_option linter.all false

namespace Orr
open Go Go.Proofs
theorem Qqb {l:List Pt} {q:Rat} {c:List (List Int)} (hn:l.length≤1000) (hl:∀ x∈l,Rs x.c) (hq:Qs 1000000 q):∃ w:List Ct,w.length≤1000000∧Za Tryz.prog 145 [.one (Kr l),.agg [Zp ((zp [-(q).num,((q).den:Int)])),Kw c,dl ((dig ((q).num).natAbs)),sg ((q).num),dl ((dig (((q).den:Int)).natAbs)),sg (((q).den:Int)),dl ((dig ((q).num).natAbs)),sg ((q).num),dl ((dig (((q).den:Int)).natAbs)),sg (((q).den:Int))]] (.one (Gl w)):=by
 have hM:∀ x∈Zf V9 l,Rs x.c:=fun x hx=>hl x (Ps.1 hx)
 have hML:=Y8 (lt:=V9) l
 by_cases h0:l.length=0
 ·exact ⟨[],by decide,M0 h0⟩
 refine ⟨_,?_,M1 rfl hM hn hq (by omega)⟩
 rw [Y8,Qk1]
 have:=Vz q _ (Zf V9 l) (X2 _)
 omega
theorem Qis {n:Nat} {most:Int} {l:List RawPt} {e:Nat} {x:Pt} (hm:0≤most∧most≤999) (hx:x∈Co (Jt n most l) e):Rs x.c:=by
 have:=Qjr (Qa6 hm) e x hx
 exact ⟨this.1,this.2.mono (by decide) (by decide)⟩
theorem Qh6 {S:List (Pt×Pt)} {k:Nat} {y:Pt×Pt} (id:Int) (h:S[k]? = some y):Gq (S.take (k+1)) id=Gq (S.take k) id+if y.2.id=id then 1 else 0:=by
 unfold Gq
 rw [qXq,h,qYh,List.countP_append]
 congr 1
 by_cases e:y.2.id=id
 ·rw [if_pos e,List.countP_cons_of_pos (by simp [e])]; rfl
 rw [if_neg e,List.countP_cons_of_neg (by simp [e])]; rfl
theorem Qoi (S:List (Pt×Pt)) (id:Int):Gq S id≤S.length:=List.countP_le_length
set_option maxRecDepth 40000 in
theorem Ld {l:List RawPt} {n d:Int} (hl:∀ z∈l,z.Ok) (hln:l.length≤140737488355327) (hn:-9223372036854775808≤n∧n≤9223372036854775807) (hd:-9223372036854775808≤d∧d≤9223372036854775807):Za Tryz.prog 8 [.one (I7 l),.one (.int .i64 n),.one (.int .i64 d)] (.one (.bool true)):=by
 refine X4 tt 0 [] Tryz.func8 Tryz.ntmps8 rfl rfl rfl ?_
 have hqs:=Qbu n d
 obtain ⟨c,hRC⟩:∃ c,Qek (Qe n d) c:=⟨_,Qx5 (hqs.mono (by decide))⟩
 have hOn:(Jt 4 20 l).length≤4:=Sm _ _ (K6 _)
 skip
 refine Qr tt 4 rfl ?_
 refine Zn (Yh (Bin:=[]) Tryz.func41 rfl rfl rfl rfl (Ow hl hln hn hd hRC (fun e he _=>Qqb (by rw [Y8,D0,Qes he]; omega) (fun x hx=>Qis (by decide) (Ps.1 hx)) (hqs.mono (by decide)))) rfl fun r_ B_ hr_=>ko ?_)
 obtain ⟨M,gs,gp,w,hM4,hMs,hMo,hw,rfl,rfl⟩:=hr_
 refine Qr tt 9 rfl ?_
 refine Z8 tt 1 [] (rfl) rfl rfl ?_
 by_cases h0:M.length=0
 ·have hM0:M=[]:=P5 h0
  have hpl:Qx (Qe n d) M=([],[]):=by rw [hM0]; exact Kn _ (by decide)
  have hgl:(Qx (Qe n d) M).2.length=0:=by rw [hpl]; rfl
  have hcpb:∀ c∈Z7 (Td (Qe n d) (Qx (Qe n d) M).2),Pb c.p:=by rw [hpl]; exact fun c hc=>absurd (Qbv hc) (by simp [Td])
  have hsl:=Y8 (lt:=Wy) (Qx (Qe n d) M).2
  have hcl1:=Kz (Td (Qe n d) (Qx (Qe n d) M).2)
  have hcl2:=Kz (Z7 (Td (Qe n d) (Qx (Qe n d) M).2))
  have hmk:=Bp (Qe n d) (Qx (Qe n d) M).2
  refine Qq tt rfl ?_
  refine X5 (fun _ k_=>Vn (ys:=[.bool true,pl ([-((Qe n d)).num,(((Qe n d)).den:Int)]),sg ((((Qe n d))).num),mg ((((Qe n d))).num),sg (((((Qe n d))).den:Int)),mg (((((Qe n d))).den:Int)),sg ((((Qe n d))).num),mg ((((Qe n d))).num),sg (((((Qe n d))).den:Int)),mg (((((Qe n d))).den:Int)),T4 ((Z7 (Td ((Qe n d)) (Qx ((Qe n d)) M).2))),.int .i64 0,V5 M,V5 ([]),Mj ((Qx (Qe n d) M).2)]) 0 rfl rfl (by rw [hpl]) (Qo k_)) rfl ?_
  refine Zn (Yh (Bin:=[.blk gs 122 [.bool true,pl ([-((Qe n d)).num,(((Qe n d)).den:Int)]),sg ((((Qe n d))).num),mg ((((Qe n d))).num),sg (((((Qe n d))).den:Int)),mg (((((Qe n d))).den:Int)),sg ((((Qe n d))).num),mg ((((Qe n d))).num),sg (((((Qe n d))).den:Int)),mg (((((Qe n d))).den:Int)),T4 ((Z7 (Td ((Qe n d)) (Qx ((Qe n d)) M).2))),.int .i64 0,V5 M,V5 ([]),Mj ((Qx (Qe n d) M).2)]]) Tryz.func42 rfl rfl rfl rfl (Hs (by omega)) rfl fun r_ B_ hr_=>ko ?_)
  obtain ⟨rfl,rfl⟩:=hr_
  refine Qr tt 2 rfl ?_
  refine Zn (Yh (Bin:=[.blk gs 122 [.bool true,pl ([-((Qe n d)).num,(((Qe n d)).den:Int)]),sg ((((Qe n d))).num),mg ((((Qe n d))).num),sg (((((Qe n d))).den:Int)),mg (((((Qe n d))).den:Int)),sg ((((Qe n d))).num),mg ((((Qe n d))).num),sg (((((Qe n d))).den:Int)),mg (((((Qe n d))).den:Int)),T4 ((Z7 (Td ((Qe n d)) (Qx ((Qe n d)) M).2))),.int .i64 0,V5 M,V5 ([]),Mj ((Qx (Qe n d) M).2)]]) Tryz.func43 rfl rfl rfl rfl (N6) rfl fun r_ B_ hr_=>ko ?_)
  obtain ⟨rfl,rfl⟩:=hr_
  refine Qr tt 6 rfl ?_
  refine Qf tt 4 [1] (Qh (m:=((Zf Wy (Qx (Qe n d) M).2)).length) Iw rfl (S4 _) rfl) rfl ?_
  refine Qf tt 0 [] (Qh (m:=M.length) Ue rfl (Yz _) rfl) rfl ?_
  refine Qf tt 0 [] (Z9 (r:=((((M.length:Nat):Int))-1)) rfl rfl (Qm rfl (by omega)) rfl) rfl ?_
  refine Qf tt 2 [] (Io (r:=0) rfl rfl (by split <;> omega) rfl) rfl ?_
  refine Qf tt 0 [] ((Qc rfl rfl (decide_eq_false (by omega)) (Qw tt rfl rfl))) rfl ?_
  refine Qf tt 0 [] ((Qc rfl rfl (decide_eq_false (by omega)) (Qw tt rfl rfl))) rfl ?_
  refine Qf tt 0 [] ((Qc rfl rfl (decide_eq_false (by omega)) (Qw tt rfl rfl))) rfl ?_
  refine Qf tt 0 [] ((Qc rfl rfl (decide_eq_false (by omega)) (Qw tt rfl rfl))) rfl ?_
  refine Qf tt 0 [] ((Qc rfl rfl (decide_eq_false (by omega)) (Wv tt 1 rfl rfl))) rfl ?_
  refine Qf tt 0 [] ((Qc rfl rfl (decide_eq_false (by omega)) (Qh (m:=M.length) Ue rfl (Yz _) rfl))) rfl ?_
  refine Qf tt 0 [] ((Qc rfl rfl (decide_eq_false (by omega)) (Qw tt rfl rfl))) rfl ?_
  refine Qf tt 0 [] ((Qc rfl rfl (decide_eq_false (by omega)) (Qor (b:=false) qUe rfl rfl (by rw [decide_eq_false (show ¬(0:Int)<_ by omega)]; rfl) rfl))) rfl ?_
  refine Qf tt 1 [] (Zw rfl (decide_eq_false (by omega)) rfl rfl) rfl ?_
  refine Qf tt 0 [] ((Qc rfl rfl (rfl) (Qw tt rfl rfl))) rfl ?_
  refine Qf tt 0 [] ((Qc rfl rfl (rfl) (Qw tt rfl rfl))) rfl ?_
  refine kw ((Qc rfl rfl (rfl) (Qw tt rfl rfl))) ?_
  refine Zn (Nq rfl rfl (rfl) (ko ?_))
  refine Zn (Yh (Bin:=[.blk gs 122 [.bool true,pl ([-((Qe n d)).num,(((Qe n d)).den:Int)]),sg ((((Qe n d))).num),mg ((((Qe n d))).num),sg (((((Qe n d))).den:Int)),mg (((((Qe n d))).den:Int)),sg ((((Qe n d))).num),mg ((((Qe n d))).num),sg (((((Qe n d))).den:Int)),mg (((((Qe n d))).den:Int)),T4 ((Z7 (Td ((Qe n d)) (Qx ((Qe n d)) M).2))),.int .i64 0,V5 M,V5 ([]),Mj ((Qx (Qe n d) M).2)]]) Tryz.func40 rfl rfl rfl rfl (T9 (ws:=Z7 (Td (Qe n d) (Qx (Qe n d) M).2)) (by rw [Kz,Bp]; omega) hcpb) rfl fun r_ B_ hr_=>ko ?_)
  obtain ⟨rfl,rfl⟩:=hr_
  refine Qq tt rfl ?_
  refine Qf tt 0 [] ((Qc rfl rfl (rfl) (Qh (m:=((Z7 (Z7 (Td (Qe n d) (Qx (Qe n d) M).2)))).length) qWb rfl (S3 _) rfl))) rfl ?_
  refine Qf tt 0 [] ((Qc rfl rfl (rfl) (Qw tt rfl rfl))) rfl ?_
  refine Qf tt 0 [] ((Qc rfl rfl (rfl) (Qh (m:=((Zf Wy (Qx (Qe n d) M).2)).length) Iw rfl (S4 _) rfl))) rfl ?_
  refine Qf tt 0 [] ((Qc rfl rfl (rfl) (Qw tt rfl rfl))) rfl ?_
  refine Qf tt 0 [] (Zw rfl (rfl) rfl rfl) rfl ?_
  refine Z8 tt 4 [1] (decide_eq_false (by omega)) rfl rfl ?_
  refine Qf tt 1 [] (Qh (m:=M.length) Ue rfl (Yz _) rfl) rfl ?_
  refine Qj [7,8,10,67,68] rfl rfl ?_
  refine Zl (fun m L B=>∃ i,i≤M.length∧m=M.length-i∧L=[(7,.one (.ow gs 0)),(8,.one (.ow gp 0)),(10,.one (ims ((Zf Wy (Qx (Qe n d) M).2)))),(67,.one (.int .i64 (((M.length:Nat):Int)))),(68,.one (.int .i64 (((i:Nat):Int))))]∧B=[.blk gs 122 [.bool true,pl ([-((Qe n d)).num,(((Qe n d)).den:Int)]),sg ((((Qe n d))).num),mg ((((Qe n d))).num),sg (((((Qe n d))).den:Int)),mg (((((Qe n d))).den:Int)),sg ((((Qe n d))).num),mg ((((Qe n d))).num),sg (((((Qe n d))).den:Int)),mg (((((Qe n d))).den:Int)),T4 ((Z7 (Td ((Qe n d)) (Qx ((Qe n d)) M).2))),.int .i64 0,V5 M,V5 ([]),Mj ((Qx (Qe n d) M).2)],.blk gp 119 [Kr M,dl ((dig (((Qe n d)).num).natAbs)),sg (((Qe n d)).num),dl ((dig ((((Qe n d)).den:Int)).natAbs)),sg ((((Qe n d)).den:Int)),Zp ((zp [-((Qe n d)).num,(((Qe n d)).den:Int)])),Kw c,dl ((dig (((Qe n d)).num).natAbs)),sg (((Qe n d)).num),dl ((dig ((((Qe n d)).den:Int)).natAbs)),sg ((((Qe n d)).den:Int)),dl ((dig (((Qe n d)).num).natAbs)),sg (((Qe n d)).num),dl ((dig ((((Qe n d)).den:Int)).natAbs)),sg ((((Qe n d)).den:Int)),Gl w,.int .i64 0,.nils]]) (m:=_) ⟨0,K6 _,rfl,rfl,rfl⟩ ?_
  rintro m L B ⟨i,hp0,hm,rfl,rfl⟩
  refine Qq tt rfl ?_
  skip
  skip
  refine Qr tt 1 rfl ?_
  refine Z8 tt 0 [] (decide_eq_false (by omega)) rfl rfl ?_
  refine kl tt 1 [] Tryz.func44 rfl rfl rfl (Mb) rfl rfl ?_
  exact Xp tt [] rfl (rfl)
 obtain ⟨w0,hw0,_⟩:=Vv (Qe n d) _ M (X2 _) (by omega)
 have hgl:=Qou hw0
 have hsl:=Y8 (lt:=Wy) (Qx (Qe n d) M).2
 have hcl1:=Kz (Td (Qe n d) (Qx (Qe n d) M).2)
 have hcl2:=Kz (Z7 (Td (Qe n d) (Qx (Qe n d) M).2))
 have hmk:=Bp (Qe n d) (Qx (Qe n d) M).2
 have hcpb:∀ c∈Z7 (Td (Qe n d) (Qx (Qe n d) M).2),Pb c.p:=fun c hc=>Qok (fun x hx=>⟨(hMo x hx).1,(hMo x hx).2.mono (by decide) (by decide)⟩) c (Qbv hc)
 refine Qq tt rfl ?_
 refine X5 (fun _ k_=>Vn (ys:=[.bool true,pl ([-((Qe n d)).num,(((Qe n d)).den:Int)]),sg ((((Qe n d))).num),mg ((((Qe n d))).num),sg (((((Qe n d))).den:Int)),mg (((((Qe n d))).den:Int)),sg ((((Qe n d))).num),mg ((((Qe n d))).num),sg (((((Qe n d))).den:Int)),mg (((((Qe n d))).den:Int)),T4 ((Z7 (Td ((Qe n d)) (Qx ((Qe n d)) M).2))),.int .i64 0,V5 M,V5 ([w0]),Mj ((Qx (Qe n d) M).2)]) 0 rfl rfl (by rw [hw0]) (Qo k_)) rfl ?_
 refine Zn (Yh (Bin:=[.blk gs 122 [.bool true,pl ([-((Qe n d)).num,(((Qe n d)).den:Int)]),sg ((((Qe n d))).num),mg ((((Qe n d))).num),sg (((((Qe n d))).den:Int)),mg (((((Qe n d))).den:Int)),sg ((((Qe n d))).num),mg ((((Qe n d))).num),sg (((((Qe n d))).den:Int)),mg (((((Qe n d))).den:Int)),T4 ((Z7 (Td ((Qe n d)) (Qx ((Qe n d)) M).2))),.int .i64 0,V5 M,V5 ([w0]),Mj ((Qx (Qe n d) M).2)]]) Tryz.func42 rfl rfl rfl rfl (Hs (by omega)) rfl fun r_ B_ hr_=>ko ?_)
 obtain ⟨rfl,rfl⟩:=hr_
 refine Qr tt 2 rfl ?_
 refine Zn (Yh (Bin:=[.blk gs 122 [.bool true,pl ([-((Qe n d)).num,(((Qe n d)).den:Int)]),sg ((((Qe n d))).num),mg ((((Qe n d))).num),sg (((((Qe n d))).den:Int)),mg (((((Qe n d))).den:Int)),sg ((((Qe n d))).num),mg ((((Qe n d))).num),sg (((((Qe n d))).den:Int)),mg (((((Qe n d))).den:Int)),T4 ((Z7 (Td ((Qe n d)) (Qx ((Qe n d)) M).2))),.int .i64 0,V5 M,V5 ([w0]),Mj ((Qx (Qe n d) M).2)]]) Tryz.func43 rfl rfl rfl rfl (Rh) rfl fun r_ B_ hr_=>ko ?_)
 obtain ⟨rfl,rfl⟩:=hr_
 refine Qr tt 6 rfl ?_
 refine Qf tt 4 [1] (Qh (m:=((Zf Wy (Qx (Qe n d) M).2)).length) Iw rfl (S4 _) rfl) rfl ?_
 refine Qf tt 0 [] (Qh (m:=M.length) Ue rfl (Yz _) rfl) rfl ?_
 refine Qf tt 0 [] (Z9 (r:=((((M.length:Nat):Int))-1)) rfl rfl (Qm rfl (by omega)) rfl) rfl ?_
 refine Qf tt 2 [] (Io (r:=((M.length-1:Nat):Int)) rfl rfl (by split <;> omega) rfl) rfl ?_
 refine Qf tt 0 [] ((Qc rfl rfl (decide_eq_false (by omega)) (Qw tt rfl rfl))) rfl ?_
 refine Qf tt 0 [] ((Qc rfl rfl (decide_eq_false (by omega)) (Qw tt rfl rfl))) rfl ?_
 refine Qf tt 0 [] ((Qc rfl rfl (decide_eq_false (by omega)) (Qw tt rfl rfl))) rfl ?_
 refine Qf tt 0 [] ((Qc rfl rfl (decide_eq_false (by omega)) (Qw tt rfl rfl))) rfl ?_
 refine Qf tt 0 [] ((Qc rfl rfl (decide_eq_false (by omega)) (Wv tt 1 rfl rfl))) rfl ?_
 refine Qf tt 0 [] ((Qc rfl rfl (decide_eq_false (by omega)) (Qh (m:=M.length) Ue rfl (Yz _) rfl))) rfl ?_
 refine Qf tt 0 [] ((Qc rfl rfl (decide_eq_false (by omega)) (Qw tt rfl rfl))) rfl ?_
 refine Qf tt 0 [] ((Qc rfl rfl (decide_eq_false (by omega)) (Qor (b:=false) qUe rfl rfl (by rw [decide_eq_true (show (0:Int)<_ by omega)]; rfl) rfl))) rfl ?_
 refine Qf tt 1 [] (Zw rfl (decide_eq_false (by omega)) rfl rfl) rfl ?_
 refine Qf tt 0 [] ((Qc rfl rfl (rfl) (Qw tt rfl rfl))) rfl ?_
 refine Qf tt 0 [] ((Qc rfl rfl (rfl) (Qw tt rfl rfl))) rfl ?_
 refine kw ((Qc rfl rfl (rfl) (Qw tt rfl rfl))) ?_
 refine Zn (Nq rfl rfl (rfl) (ko ?_))
 refine Zn (Yh (Bin:=[.blk gs 122 [.bool true,pl ([-((Qe n d)).num,(((Qe n d)).den:Int)]),sg ((((Qe n d))).num),mg ((((Qe n d))).num),sg (((((Qe n d))).den:Int)),mg (((((Qe n d))).den:Int)),sg ((((Qe n d))).num),mg ((((Qe n d))).num),sg (((((Qe n d))).den:Int)),mg (((((Qe n d))).den:Int)),T4 ((Z7 (Td ((Qe n d)) (Qx ((Qe n d)) M).2))),.int .i64 0,V5 M,V5 ([w0]),Mj ((Qx (Qe n d) M).2)]]) Tryz.func40 rfl rfl rfl rfl (T9 (ws:=Z7 (Td (Qe n d) (Qx (Qe n d) M).2)) (by rw [Kz,Bp]; omega) hcpb) rfl fun r_ B_ hr_=>ko ?_)
 obtain ⟨rfl,rfl⟩:=hr_
 refine Qq tt rfl ?_
 refine Qf tt 0 [] ((Qc rfl rfl (rfl) (Qh (m:=((Z7 (Z7 (Td (Qe n d) (Qx (Qe n d) M).2)))).length) qWb rfl (S3 _) rfl))) rfl ?_
 refine Qf tt 0 [] ((Qc rfl rfl (rfl) (Qw tt rfl rfl))) rfl ?_
 refine Qf tt 0 [] ((Qc rfl rfl (rfl) (Qh (m:=((Zf Wy (Qx (Qe n d) M).2)).length) Iw rfl (S4 _) rfl))) rfl ?_
 refine Qf tt 0 [] ((Qc rfl rfl (rfl) (Qw tt rfl rfl))) rfl ?_
 refine Qf tt 0 [] (Zw rfl (rfl) rfl rfl) rfl ?_
 refine Z8 tt 4 [1] (decide_eq_false (by omega)) rfl rfl ?_
 refine Qf tt 1 [] (Qh (m:=M.length) Ue rfl (Yz _) rfl) rfl ?_
 refine Qj [7,8,10,11,67,68] rfl rfl ?_
 refine Zl (fun m L B=>∃ i,i≤M.length∧m=M.length-i∧L=[(7,.one (.ow gs 0)),(8,.one (.ow gp 0)),(10,.one (ims ((Zf Wy (Qx (Qe n d) M).2)))),(11,.one (.int .i64 w0.id)),(67,.one (.int .i64 (((M.length:Nat):Int)))),(68,.one (.int .i64 (((i:Nat):Int))))]∧B=[.blk gs 122 [.bool true,pl ([-((Qe n d)).num,(((Qe n d)).den:Int)]),sg ((((Qe n d))).num),mg ((((Qe n d))).num),sg (((((Qe n d))).den:Int)),mg (((((Qe n d))).den:Int)),sg ((((Qe n d))).num),mg ((((Qe n d))).num),sg (((((Qe n d))).den:Int)),mg (((((Qe n d))).den:Int)),T4 ((Z7 (Td ((Qe n d)) (Qx ((Qe n d)) M).2))),.int .i64 0,V5 M,V5 ([w0]),Mj ((Qx (Qe n d) M).2)],.blk gp 119 [Kr M,dl ((dig (((Qe n d)).num).natAbs)),sg (((Qe n d)).num),dl ((dig ((((Qe n d)).den:Int)).natAbs)),sg ((((Qe n d)).den:Int)),Zp ((zp [-((Qe n d)).num,(((Qe n d)).den:Int)])),Kw c,dl ((dig (((Qe n d)).num).natAbs)),sg (((Qe n d)).num),dl ((dig ((((Qe n d)).den:Int)).natAbs)),sg ((((Qe n d)).den:Int)),dl ((dig (((Qe n d)).num).natAbs)),sg (((Qe n d)).num),dl ((dig ((((Qe n d)).den:Int)).natAbs)),sg ((((Qe n d)).den:Int)),Gl w,.int .i64 0,.nils]]) (m:=_) ⟨0,K6 _,rfl,rfl,rfl⟩ ?_
 rintro m L B ⟨i,hp0,hm,rfl,rfl⟩
 refine Qq tt rfl ?_
 by_cases hlt:i<M.length
 ·obtain ⟨x,hx⟩:∃ x,M[i]? = some x:=⟨_,Xx hlt⟩
  have hls:=Qic (q:=(Qe n d)) hMs hw0 (Vo hx)
  refine Qr tt 1 rfl ?_
  refine Xh tt 4 [] (decide_eq_true (by omega)) rfl rfl ?_
  refine Qf tt 1 [] (Qh (m:=((Zf Wy (Qx (Qe n d) M).2)).length) Iw rfl (S4 _) rfl) rfl ?_
  refine Qj [7,8,10,11,13,67,68,72,73,14] rfl rfl ?_
  refine Zl (fun m L B=>∃ k,k≤(Zf Wy (Qx (Qe n d) M).2).length∧m=(Zf Wy (Qx (Qe n d) M).2).length-k∧L=[(7,.one (.ow gs 0)),(8,.one (.ow gp 0)),(10,.one (ims ((Zf Wy (Qx (Qe n d) M).2)))),(11,.one (.int .i64 w0.id)),(13,.one (.int .i64 (((i:Nat):Int)))),(67,.one (.int .i64 (((M.length:Nat):Int)))),(68,.one (.int .i64 (((i:Nat):Int)))),(72,.one (.int .i64 (((((Zf Wy (Qx (Qe n d) M).2)).length:Nat):Int)))),(73,.one (.int .i64 (((k:Nat):Int)))),(14,.one (.int .i64 ((((Gq ((Zf Wy (Qx (Qe n d) M).2).take k) x.id):Nat):Int))))]∧B=[.blk gs 122 [.bool true,pl ([-((Qe n d)).num,(((Qe n d)).den:Int)]),sg ((((Qe n d))).num),mg ((((Qe n d))).num),sg (((((Qe n d))).den:Int)),mg (((((Qe n d))).den:Int)),sg ((((Qe n d))).num),mg ((((Qe n d))).num),sg (((((Qe n d))).den:Int)),mg (((((Qe n d))).den:Int)),T4 ((Z7 (Td ((Qe n d)) (Qx ((Qe n d)) M).2))),.int .i64 0,V5 M,V5 ([w0]),Mj ((Qx (Qe n d) M).2)],.blk gp 119 [Kr M,dl ((dig (((Qe n d)).num).natAbs)),sg (((Qe n d)).num),dl ((dig ((((Qe n d)).den:Int)).natAbs)),sg ((((Qe n d)).den:Int)),Zp ((zp [-((Qe n d)).num,(((Qe n d)).den:Int)])),Kw c,dl ((dig (((Qe n d)).num).natAbs)),sg (((Qe n d)).num),dl ((dig ((((Qe n d)).den:Int)).natAbs)),sg ((((Qe n d)).den:Int)),dl ((dig (((Qe n d)).num).natAbs)),sg (((Qe n d)).num),dl ((dig ((((Qe n d)).den:Int)).natAbs)),sg ((((Qe n d)).den:Int)),Gl w,.int .i64 0,.nils]]) (m:=_) ⟨0,K6 _,rfl,rfl,rfl⟩ ?_
  rintro m L B ⟨k,hq0,hm,rfl,rfl⟩
  refine Qq tt rfl ?_
  have hbd:=Qoi ((Zf Wy (Qx (Qe n d) M).2).take k) x.id
  rw [Kd] at hbd
  by_cases hk:k<(Zf Wy (Qx (Qe n d) M).2).length
  ·obtain ⟨y,hy⟩:∃ y,(Zf Wy (Qx (Qe n d) M).2)[k]? = some y:=⟨_,Xx hk⟩
   have hlt2:=Qh6 x.id hy
   by_cases he:y.2.id=x.id
   refine Qq tt rfl ?_
   ·have hnx:Gq ((Zf Wy (Qx (Qe n d) M).2).take (k+1)) x.id=(Gq ((Zf Wy (Qx (Qe n d) M).2).take k) x.id)+1:=by rw [hlt2,if_pos he]
    refine Qr tt 1 rfl ?_
    refine Xh tt 2 [] (decide_eq_true (by omega)) rfl rfl ?_
    refine Qy 13 Qp rfl rfl rfl ?_
    refine Qr tt 2 rfl ?_
    refine kd (Qi (k) Iw qWm rfl rfl (rfl) (Qg hy) rfl rfl) rfl ?_
    refine Qq tt rfl ?_
    refine kd (Zo 1 qWa Xw rfl rfl rfl (by decide) rfl rfl) rfl ?_
    refine Xu tt 6 [1] rfl ?_
    refine kd (Qi (i) Ue Uf rfl rfl (rfl) (Qg hx) rfl rfl) rfl ?_
    refine Qr tt 2 rfl ?_
    refine Qr tt 1 rfl ?_
    refine Xh tt 1 [] (decide_eq_true he) rfl rfl ?_
    refine Qf tt 1 [] (Zb (r:=(((Gq ((Zf Wy (Qx (Qe n d) M).2).take k) x.id)+1:Nat):Int)) rfl rfl (Qm (by omega) (by omega)) rfl) rfl ?_
    refine Qf tt 1 [] (Zb (r:=((k+1:Nat):Int)) rfl rfl (Qm (by omega) (by omega)) rfl) rfl ?_
    refine X5 (fun _ k_=>Xs 14 (y:=.one (.int .i64 (((Gq ((Zf Wy (Qx (Qe n d) M).2).take (k+1)) x.id:Nat):Int)))) rfl (by rw [hnx]) (Qo k_)) rfl ?_
    refine Qj [7,8,10,11,13,67,68,72,73,14] rfl rfl ?_
    refine Q8 ?_
    refine ⟨_,?_,k+1,by omega,rfl,rfl,rfl⟩
    omega
   have hnx:Gq ((Zf Wy (Qx (Qe n d) M).2).take (k+1)) x.id=(Gq ((Zf Wy (Qx (Qe n d) M).2).take k) x.id):=by rw [hlt2,if_neg he]; rfl
   refine Qr tt 1 rfl ?_
   refine Xh tt 2 [] (decide_eq_true (by omega)) rfl rfl ?_
   refine Qy 13 Qp rfl rfl rfl ?_
   refine Qr tt 2 rfl ?_
   refine kd (Qi (k) Iw qWm rfl rfl (rfl) (Qg hy) rfl rfl) rfl ?_
   refine Qq tt rfl ?_
   refine kd (Zo 1 qWa Xw rfl rfl rfl (by decide) rfl rfl) rfl ?_
   refine Xu tt 6 [1] rfl ?_
   refine kd (Qi (i) Ue Uf rfl rfl (rfl) (Qg hx) rfl rfl) rfl ?_
   refine Qr tt 2 rfl ?_
   refine Qr tt 1 rfl ?_
   refine Z8 tt 0 [] (decide_eq_false he) rfl rfl ?_
   refine Qf tt 1 [] (Zb (r:=((k+1:Nat):Int)) rfl rfl (Qm (by omega) (by omega)) rfl) rfl ?_
   refine X5 (fun _ k_=>Xs 14 (y:=.one (.int .i64 (((Gq ((Zf Wy (Qx (Qe n d) M).2).take (k+1)) x.id:Nat):Int)))) rfl (by rw [hnx]) (Qo k_)) rfl ?_
   refine Qj [7,8,10,11,13,67,68,72,73,14] rfl rfl ?_
   refine Q8 ?_
   refine ⟨_,?_,k+1,by omega,rfl,rfl,rfl⟩
   omega
  have hall:(Gq ((Zf Wy (Qx (Qe n d) M).2).take k) x.id)=if x.id=w0.id then 0 else 1:=by rw [Y0 (by omega),←hls]; unfold Gq; exact (Tn _).countP_eq _
  by_cases he:x.id=w0.id
  refine Qq tt rfl ?_
  ·rw [if_pos he] at hall
   refine Qr tt 1 rfl ?_
   refine Z8 tt 5 [1] (decide_eq_false (by omega)) rfl rfl ?_
   refine Qf tt 5 [] (Qi (i) Ue Uf rfl rfl (rfl) (Qg hx) rfl rfl) rfl ?_
   refine Qf tt 0 [] ((Qc rfl rfl (decide_eq_true he) (Qw tt rfl rfl))) rfl ?_
   refine Qf tt 0 [] ((Qc rfl rfl (decide_eq_true he) (Qw tt rfl rfl))) rfl ?_
   refine Qf tt 1 [] (Zs rfl (decide_eq_true he) rfl rfl) rfl ?_
   refine Qf tt 0 [] ((Qc rfl rfl (decide_eq_false (by rw [hall]; decide)) (Qw tt rfl rfl))) rfl ?_
   refine Qf tt 0 [] ((Qc rfl rfl (decide_eq_false (by rw [hall]; decide)) (Qw tt rfl rfl))) rfl ?_
   refine Qf tt 0 [] ((Qc rfl rfl (decide_eq_false (by rw [hall]; decide)) (Qw tt rfl rfl))) rfl ?_
   refine Qf tt 0 [] ((Qc rfl rfl (decide_eq_false (by rw [hall]; decide)) (Wv tt 1 rfl rfl))) rfl ?_
   refine Qf tt 0 [] ((Qc rfl rfl (decide_eq_false (by rw [hall]; decide)) (Qw tt rfl rfl))) rfl ?_
   refine Qf tt 0 [] ((Qc rfl rfl (decide_eq_false (by rw [hall]; decide)) (Qi (i) Ue Uf rfl rfl (rfl) (Qg hx) rfl rfl))) rfl ?_
   refine Qf tt 0 [] ((Qc rfl rfl (decide_eq_false (by rw [hall]; decide)) (Qw tt rfl rfl))) rfl ?_
   refine Qf tt 0 [] ((Qc rfl rfl (decide_eq_false (by rw [hall]; decide)) (Qw tt rfl rfl))) rfl ?_
   refine Qf tt 0 [] ((Qc rfl rfl (decide_eq_false (by rw [hall]; decide)) (Qw tt rfl rfl))) rfl ?_
   refine Qf tt 0 [] ((Qc rfl rfl (decide_eq_false (by rw [hall]; decide)) (Qw tt rfl rfl))) rfl ?_
   refine Qf tt 0 [] ((Qc rfl rfl (decide_eq_false (by rw [hall]; decide)) (Qw tt rfl rfl))) rfl ?_
   refine Qf tt 0 [] (Z4 rfl rfl (decide_eq_false (fun h=>h he)) rfl) rfl ?_
   refine Qf tt 0 [] (Z4 rfl rfl (decide_eq_false (fun h=>h he)) rfl) rfl ?_
   refine Qf tt 0 [] ((Qc rfl rfl (decide_eq_false (by rw [hall]; decide)) (Zw rfl (decide_eq_false (fun h=>h he)) rfl rfl))) rfl ?_
   refine Qf tt 0 [] (Zw rfl (decide_eq_false (by rw [hall]; decide)) rfl rfl) rfl ?_
   refine Z8 tt 0 [] (rfl) rfl rfl ?_
   refine Qf tt 1 [] (Zb (r:=((i+1:Nat):Int)) rfl rfl (Qm (by omega) (by omega)) rfl) rfl ?_
   refine Qj [7,8,10,11,67,68] rfl rfl ?_
   refine Q8 ?_
   refine ⟨_,?_,i+1,by omega,rfl,rfl,rfl⟩
   omega
  rw [if_neg he] at hall
  refine Qr tt 1 rfl ?_
  refine Z8 tt 5 [1] (decide_eq_false (by omega)) rfl rfl ?_
  refine Qf tt 5 [] (Qi (i) Ue Uf rfl rfl (rfl) (Qg hx) rfl rfl) rfl ?_
  refine Qf tt 0 [] (Z4 rfl rfl (decide_eq_false he) rfl) rfl ?_
  refine Qf tt 0 [] (Z4 rfl rfl (decide_eq_false he) rfl) rfl ?_
  refine Qf tt 1 [] (Zw rfl (decide_eq_false he) rfl rfl) rfl ?_
  refine Qf tt 0 [] ((Qc rfl rfl (rfl) (Qw tt rfl rfl))) rfl ?_
  refine Qf tt 0 [] ((Qc rfl rfl (rfl) (Qw tt rfl rfl))) rfl ?_
  refine Qf tt 0 [] ((Qc rfl rfl (rfl) (Qw tt rfl rfl))) rfl ?_
  refine Qf tt 0 [] ((Qc rfl rfl (rfl) (Wv tt 1 rfl rfl))) rfl ?_
  refine Qf tt 0 [] ((Qc rfl rfl (rfl) (Qw tt rfl rfl))) rfl ?_
  refine Qf tt 0 [] ((Qc rfl rfl (rfl) (Qi (i) Ue Uf rfl rfl (rfl) (Qg hx) rfl rfl))) rfl ?_
  refine Qf tt 0 [] ((Qc rfl rfl (rfl) (Qw tt rfl rfl))) rfl ?_
  refine Qf tt 0 [] ((Qc rfl rfl (rfl) (Qw tt rfl rfl))) rfl ?_
  refine Qf tt 0 [] ((Qc rfl rfl (rfl) (Qw tt rfl rfl))) rfl ?_
  refine Qf tt 0 [] ((Qc rfl rfl (rfl) (Qw tt rfl rfl))) rfl ?_
  refine Qf tt 0 [] ((Qc rfl rfl (rfl) (Qw tt rfl rfl))) rfl ?_
  refine Qf tt 0 [] ((Qc rfl rfl (decide_eq_true he) (Qw tt rfl rfl))) rfl ?_
  refine Qf tt 0 [] ((Qc rfl rfl (decide_eq_true he) (Qw tt rfl rfl))) rfl ?_
  refine Qf tt 0 [] ((Qc rfl rfl (rfl) (Zs rfl (decide_eq_true he) rfl rfl))) rfl ?_
  refine Qf tt 0 [] (Zw rfl (rfl) rfl rfl) rfl ?_
  refine Z8 tt 0 [] (decide_eq_false (by rw [hall]; decide)) rfl rfl ?_
  refine Qf tt 1 [] (Zb (r:=((i+1:Nat):Int)) rfl rfl (Qm (by omega) (by omega)) rfl) rfl ?_
  refine Qj [7,8,10,11,67,68] rfl rfl ?_
  refine Q8 ?_
  refine ⟨_,?_,i+1,by omega,rfl,rfl,rfl⟩
  omega
 skip
 refine Qr tt 1 rfl ?_
 refine Z8 tt 0 [] (decide_eq_false (by omega)) rfl rfl ?_
 refine kl tt 1 [] Tryz.func44 rfl rfl rfl (Mb) rfl rfl ?_
 exact Xp tt [] rfl (rfl)
end Orr

namespace Orr
open Go Go.Proofs
variable {H:Type} {enc:TypeId×Value→H} {w:World} {base:Nat} {spare:Nat→Bool} {held:Bool}
theorem Ha {α:Type} {l:List α} {n i:Nat} (h:l.length=n) (hi:i<n):∃ x,l[i]? = some x:=⟨l[i]'(by omega),Xx (by omega)⟩
end Orr

namespace Orr
open Go Go.Proofs Go.ChangeShapes Go.WideShapes Go.ChangeAt Go.RowKit Go.WideElems
theorem Qq5 {w:World} {a:Addr} {v:Value} (h:w.cell? a=some v):a.spot=none∧a.block<w.heap.size:=by
  simp only [World.cell?] at h
  split at h
  · rename_i c t fr hc
    split at h
    · cases h
    · rename_i hs
      refine ⟨by cases e:a.spot with | none=>rfl | some _=>simp [e] at hs,?_⟩
      exact (qVq.1 hc).1
  · cases h
theorem Qq3 {a:Addr} (h:a.spot=none) (n m:Nat):(a.add n).add m=⟨a.block,a.off+n+m,none⟩:=by
  obtain ⟨b,o,s⟩:=a
  simp only at h
  subst h
  simp only [Addr.add]
  split
  · rename_i h; subst h
    split
    · rename_i h; subst h; simp
    · simp
  · split
    · rename_i h; subst h; simp
    · simp
theorem Qsu {w w':World} {Bo:List Va} (h:Moved w w' [] Bo) {p:MemPlace} (hp:p.block<w.heap.size):w.sameAt w' p:=by
  cases p with
  | cell b off=>simp only [World.sameAt,World.cell?]; rw [h.keep b hp (by simp)]
  | map b=>exact h.keep b hp (by simp)
theorem Qrl {w w':World} {Bo:List Va} (h:Moved w w' [] Bo) (may:MemPlace→Prop):w.keptBut w' may:=by
  refine ⟨h.io.1,h.io.2,fun i hi=>?_⟩
  rw [h.keep i hi (by simp)]
  cases w.heap[i]? with
  | none=>rfl
  | some o=>cases o <;> simp
end Orr

namespace Orr
open Go Go.Proofs Go.ChangeShapes Go.WideShapes Go.ChangeAt Go.RowKit Go.WideElems
theorem Pe {H:Type} {P:Program} {e:TypeId}:∀ {l:List (DataW H)} {i:Nat} {d:DataW H},l[i]? = some d→∀ n∈d.weights P e,n∈DataW.weightsAll P e l
  | [],i,d,h,_,_=>by simp at h
  |
   x::l,0,d,h,n,hn=>by
   simp at h; subst h
   simp only [DataW.weightsAll,Y7]; exact .inl hn
  |
   x::l,i+1,d,h,n,hn=>by
   simp only [DataW.weightsAll,Y7]
   exact .inr (Pe (i:=i) (by simpa using h) n hn)
theorem Re {H:Type} {P:Program} {t:TypeId} {fs:Array Field} {parts:List (DataW H)} (hu:P.underlying t=some (.struct fs)) (hz:((DataW.agg parts).weights P t).all (· ≤ reachBytes)=true) {i:Nat} {f:Field} {d:DataW H} (hf:fs[i]? = some f) (hd:parts[i]? = some d) :
    (d.weights P f.type).all (· ≤ reachBytes)=true:=by
  rw [C4] at hz ⊢
  intro n hn
  refine hz n ?_
  simp only [DataW.weights,hu]
  exact DataW.weights_mem_each (j:=i) (by rw [S1]; simp [hf]) hd n hn
variable {H:Type} {enc:TypeId×Value→H} {w:World}
abbrev O0:Nat→Prop:=Q3 (fun _=>False) []
def Els (w:World) (cs:List Value) (ls:List LV):Prop:=cs.length=ls.length∧∀ (j:Nat) (u:LV),ls[j]? = some u→∃ v,cs[j]? = some v∧LRep w O0 v u
theorem B8 {α:Type} {rw_:α→List LV} {Ok:α→Prop} {t e sz:Nat} (hu:Tryz.prog.underlying t=some (.slice e)) (hc:Tryz.prog.cellsOf e=sz) (hsz:0<sz) (hb:1≤Tryz.prog.bytesOf e) (hw:∀ z,(rw_ z).length=sz)
    (elem:∀ fuel cs x,DataW.trod enc Tryz.prog w 0 (fun _=>true) true fuel e cs=some x→(x.1.weights Tryz.prog e).all (· ≤ reachBytes)=true→∃ z,Ok z∧Els w cs (rw_ z))
    {fuel:Nat} {cs:List Value} {x:DataW H×List MemPlace} (h:DataW.trod enc Tryz.prog w 0 (fun _=>true) true fuel t cs=some x) (hz:(x.1.weights Tryz.prog t).all (· ≤ reachBytes)=true) :
    ∃ (v:Value) (l:List α),cs=[v]∧(∀ z∈l,Ok z)∧l.length<2^47∧LRep w O0 v (.row (l.map rw_)):=by
  rcases Go.Deep.open_slice hu h with ⟨rfl,_⟩ | ⟨a',len,cap,m,n,D,Pl,rfl,_,hlc,hcap,hm,rfl,hr⟩
  · refine ⟨_,[],rfl,by simp,Nat.two_pow_pos 47,?_⟩
    exact LRep.row none 0 0 0 0 [] (fun _ _=>.bool true) (X2 _) (by decide) (by decide) (by simp) (by simp) (by simp) (by simp)
  · simp only [if_true] at hm
    subst hm
    rw [C4] at hz
    have hlen:len<2^47:=by
      have h0:=hz ((len+(m-len))*Tryz.prog.bytesOf e) (by simp [DataW.weights,hu])
      have h1:len≤(len+(m-len))*Tryz.prog.bytesOf e:=by
        have:=qJd (Nat.le_add_right len (m-len)) hb
        omega
      have h2:(len+(m-len))*Tryz.prog.bytesOf e≤reachBytes:=by simpa using h0
      exact qZu (Xd h1 h2) reachBytes_lt
    have hel:∀ i,i<len→((D i).weights Tryz.prog e).all (· ≤ reachBytes)=true:=fun i hi=>by
      rw [C4]
      intro k hk
      refine hz k ?_
      simp only [DataW.weights,hu]
      refine Ge _ (Y7.2 (.inl (Pe (i:=i) ?_ k hk)))
      rw [S1,qJj hi]; rfl
    have hone:∀ i,i<len→∃ z cs',Ok z∧Els w cs' (rw_ z)∧∀ j,j<sz→w.cell? ((a'.add (i*sz)).add j)=cs'[j]? := fun i hi=>by
      obtain ⟨cs',hcs,htr⟩:=hr i (by omega)
      rw [hc] at hcs
      obtain ⟨_,hl,hcell⟩:=World.cells?_some hcs
      obtain ⟨z,hz1,hz2⟩:=elem _ _ _ htr (hel i hi)
      refine ⟨z,cs',hz1,hz2,fun j hj=>?_⟩
      rw [hcell j (by omega)]
    have hspot:0<len→a'.spot=none∧a'.block<w.heap.size:=fun h0=>by
      obtain ⟨z,cs',_,⟨hl,_⟩,h3⟩:=hone 0 h0
      have h4:=h3 0 hsz
      have:(a'.add (0*sz)).add 0=a':=by simp [Addr.add]
      rw [this,Xx (by rw [hl,hw]; exact hsz)] at h4
      exact Qq5 h4
    obtain ⟨l,hll,hl⟩:∃ l:List α,l.length=len∧∀ i z,l[i]? = some z→Ok z∧∃ cs',Els w cs' (rw_ z)∧∀ j,j<sz→w.cell? ((a'.add (i*sz)).add j)=cs'[j]? := by
      have:∀ k,k≤len→∃ l:List α,l.length=k∧∀ i z,l[i]? = some z→Ok z∧∃ cs',Els w cs' (rw_ z)∧∀ j,j<sz→w.cell? ((a'.add (i*sz)).add j)=cs'[j]? := by
        intro k
        induction k with
        | zero=>intro _; exact ⟨[],rfl,fun i z h=>by simp at h⟩
        |
         succ k ih =>
         intro hk
         obtain ⟨l,h1,h2⟩:=ih (by omega)
         obtain ⟨z,cs',h3,h4,h5⟩:=hone k (by omega)
         refine ⟨l++[z],by simp [h1],fun i y hy=>?_⟩
         rcases Mq i l.length with hi | hi
         · rw [qZy hi] at hy; exact h2 i y hy
         · rw [qXh hi] at hy
           have:i-l.length=0:=by
             rcases Hl (i-l.length) with h | h
             · exact h
             · rw [Eh (by rw [List.length_singleton]; exact h)] at hy; cases hy
           rw [this] at hy
           simp at hy
           subst hy
           have:i=k:=by omega
           subst this
           exact ⟨h3,cs',h4,h5⟩
      exact this len (X2 _)
    refine ⟨_,l,rfl,fun z hz=>?_,by rw [hll]; exact hlen,?_⟩
    · obtain ⟨i,hi⟩:=qZr.1 hz
      exact (hl i z hi).1
    · have key:LRep w O0 (.slice (some a') (l.map rw_).length m) (.row (l.map rw_)):=by
        have hgl:∀ i c,(l.map rw_)[i]? = some c→∃ z,l[i]? = some z∧c=rw_ z∧i<len:=fun i c h=>by
          rw [S1] at h
          cases e:l[i]? with
          | none=>rw [e] at h; cases h
          | some z=>rw [e] at h; simp at h; exact ⟨z,rfl,h.symm,by have:=(Uy.1 e).1; omega⟩
        have hcl:∀ i c,(l.map rw_)[i]? = some c→∃ cs':List Value,Els w cs' c∧∀ j,j<sz→w.cell? ⟨a'.block,a'.off+i*sz+j,none⟩=cs'[j]? := fun i c h=>by
          obtain ⟨z,hz,rfl,hi⟩:=hgl i c h
          obtain ⟨_,cs',h1,h2⟩:=hl i z hz
          refine ⟨cs',h1,fun j hj=>?_⟩
          rw [←h2 j hj,Qq3 (hspot (by omega)).1]
        refine LRep.row (some a') m sz a'.block a'.off (l.map rw_) (fun i j=>(w.cell? ⟨a'.block,a'.off+i*sz+j,none⟩).getD (.bool true)) (by rw [Zr]; omega) ?_ (by rw [Zr]; omega) ?_ ?_ ?_ ?_
        · have:maxLen=2^63-1:=by rfl
          omega
        · intro c hc2
          obtain ⟨z,_,rfl⟩:=Ww.1 hc2
          exact hw z
        · intro h0
          rw [Zr,hll] at h0
          obtain ⟨hs,hb⟩:=hspot h0
          refine ⟨?_,hb,by simp [O0,Q3]⟩
          obtain ⟨b,o,s⟩:=a'
          simp only at hs
          rw [hs]
        · intro i c hi j hj
          obtain ⟨z,_,rfl,_⟩:=hgl i c hi
          obtain ⟨cs',⟨h1,_⟩,h2⟩:=hcl i _ hi
          have hjs:j<sz:=by rw [←hw z]; exact hj
          rw [h2 j hjs,Xx (by rw [h1]; exact hj)]; rfl
        · intro i c hi j u hu2
          obtain ⟨z,_,rfl,_⟩:=hgl i c hi
          obtain ⟨cs',⟨h1,h3⟩,h2⟩:=hcl i _ hi
          obtain ⟨v,hv,hr2⟩:=h3 j u hu2
          have hjs:j<sz:=by rw [←hw z]; exact (Uy.1 hu2).1
          show LRep w O0 ((w.cell? ⟨a'.block,a'.off+i*sz+j,none⟩).getD (.bool true)) u
          rw [h2 j hjs,hv]; exact hr2
      rw [Zr,hll] at key
      exact key
abbrev Qzd (x:Nat):List LV:=[.int .u32 (x:Int)]
theorem Qqd:∀ fuel cs x,DataW.trod enc Tryz.prog w 0 (fun _=>true) true fuel 276 cs=some x→(x.1.weights Tryz.prog 276).all (· ≤ reachBytes)=true→∃ z:Nat,z<4294967296∧Els w cs (Qzd z):=by
  intro fuel cs x h _
  obtain ⟨n,rfl,_,hwf⟩:=DataW.trod_int Tryz.underlying276 h
  have hn:0≤n∧n<4294967296:=by
    have:0≤n∧n≤4294967295:=by simpa [Lit.wf,IntKind.min,IntKind.max,IntKind.signed,IntKind.bits] using hwf
    omega
  refine ⟨n.toNat,by omega,rfl,fun j u hu=>?_⟩
  match j,hu with
  |
   0,hu =>
   simp at hu; subst hu
   refine ⟨_,rfl,?_⟩
   rw [show max n 0=n by omega]
   exact .int _ _
  | j+1,hu=>simp at hu
set_option maxRecDepth 20000 in
theorem Ic:∀ fuel cs x,DataW.trod enc Tryz.prog w 0 (fun _=>true) true fuel 55 cs=some x→(x.1.weights Tryz.prog 55).all (· ≤ reachBytes)=true→∃ z:RawInt,z.Ok∧Els w cs (Qip z):=by
  intro fuel cs x h hz
  obtain ⟨xs,n,_,rfl,hl,hxs,hf⟩:=DataW.trod_struct Tryz.underlying55 h
  have hl:cs.length=2:=hl
  match cs,hl with
  |
   [v0,v1],_ =>
   obtain ⟨z0,hz0⟩:=Ha (i:=0) hxs (by decide)
   obtain ⟨z1,hz1⟩:=Ha (i:=1) hxs (by decide)
   have h0:=hf 0 _ rfl
   have h1:=hf 1 _ rfl
   rw [hz0] at h0; rw [hz1] at h1
   obtain ⟨b,e0,_⟩:=DataW.trod_bool qUe h0
   have f0:v0=.bool b:=(List.cons.inj (show [v0]=[Value.bool b] from e0)).1
   have hw1:=Re Tryz.underlying55 hz (i:=1) rfl (d:=z1.1) (by rw [S1,hz1]; rfl)
   obtain ⟨v,l,e1,hlo,_,hrep⟩:=B8 (sz:=1) (Ok:=fun u:Nat=>u<4294967296) (rw_:=Qzd) Tryz.underlying53 (by kernel_rfl) (by decide) (of_decide_eq_true (by kernel_rfl)) (fun _=>rfl) Qqd h1 hw1
   have f1:v1=v:=(List.cons.inj (show [v1]=[v] from e1)).1
   subst f0 f1
   refine ⟨⟨b,l⟩,⟨hlo⟩,rfl,fun j u hu=>?_⟩
   match j,hu with
   | 0,hu=>simp at hu; subst hu; exact ⟨_,rfl,.bool _⟩
   | 1,hu=>simp at hu; subst hu; exact ⟨_,rfl,hrep⟩
   | j+2,hu=>simp at hu
set_option maxRecDepth 20000 in
theorem Qie:∀ fuel cs x,DataW.trod enc Tryz.prog w 0 (fun _=>true) true fuel 76 cs=some x→(x.1.weights Tryz.prog 76).all (· ≤ reachBytes)=true→∃ z:RawPt,z.Ok∧Els w cs (rwp z):=by
  intro fuel cs x h hz
  obtain ⟨xs,n,_,rfl,hl,hxs,hf⟩:=DataW.trod_struct Tryz.underlying76 h
  have hl:cs.length=5:=hl
  match cs,hl with
  |
   [v0,v1,v2,v3,v4],_ =>
   obtain ⟨z0,hz0⟩:=Ha (i:=0) hxs (by decide)
   obtain ⟨z1,hz1⟩:=Ha (i:=1) hxs (by decide)
   have h0:=hf 0 _ rfl
   have h1:=hf 1 _ rfl
   rw [hz0] at h0; rw [hz1] at h1
   obtain ⟨id,e4,_,hwf⟩:=DataW.trod_int qFu h1
   have f4:v4=.int .i64 id:=(List.cons.inj (show [v4]=[Value.int .i64 id] from e4)).1
   have hw0:=Re Tryz.underlying76 hz (i:=0) rfl (d:=z0.1) (by rw [S1,hz0]; rfl)
   obtain ⟨ys,n2,_,e5,_,hys,hg⟩:=DataW.trod_struct qFz h0
   rw [e5] at hw0
   obtain ⟨y0,hy0⟩:=Ha (i:=0) hys (by decide)
   obtain ⟨y1,hy1⟩:=Ha (i:=1) hys (by decide)
   obtain ⟨y2,hy2⟩:=Ha (i:=2) hys (by decide)
   have g0:=hg 0 _ rfl
   have g1:=hg 1 _ rfl
   have g2:=hg 2 _ rfl
   rw [hy0] at g0; rw [hy1] at g1; rw [hy2] at g2
   have w0:=Re qFz hw0 (i:=0) rfl (d:=y0.1) (by rw [S1,hy0]; rfl)
   have w1:=Re qFz hw0 (i:=1) rfl (d:=y1.1) (by rw [S1,hy1]; rfl)
   have w2:=Re qFz hw0 (i:=2) rfl (d:=y2.1) (by rw [S1,hy2]; rfl)
   obtain ⟨u0,lx,e0,hx,_,rx⟩:=B8 (sz:=2) (Ok:=RawInt.Ok) (rw_:=Qip) Tryz.underlying52 (by kernel_rfl) (by decide) (of_decide_eq_true (by kernel_rfl)) (fun _=>rfl) Ic g0 w0
   obtain ⟨u1,ly,e1,hy,_,ry⟩:=B8 (sz:=2) (Ok:=RawInt.Ok) (rw_:=Qip) Tryz.underlying52 (by kernel_rfl) (by decide) (of_decide_eq_true (by kernel_rfl)) (fun _=>rfl) Ic g1 w1
   obtain ⟨d,hd,hde⟩:=Ic _ _ _ g2 w2
   have f0:v0=u0:=(List.cons.inj (show [v0]=[u0] from e0)).1
   have f1:v1=u1:=(List.cons.inj (show [v1]=[u1] from e1)).1
   have hde2:Els w [v2,v3] (Qip d):=hde
   subst f0 f1 f4
   obtain ⟨q2,hq2,r2⟩:=hde2.2 0 _ rfl
   obtain ⟨q3,hq3,r3⟩:=hde2.2 1 _ rfl
   simp at hq2 hq3
   subst hq2 hq3
   refine ⟨⟨lx,ly,d,id⟩,⟨hx,hy,hd,by simpa [Lit.wf,IntKind.min,IntKind.max,IntKind.signed,IntKind.bits] using hwf⟩,rfl,fun j u hu=>?_⟩
   match j,hu with
   | 0,hu=>simp at hu; subst hu; exact ⟨_,rfl,rx⟩
   | 1,hu=>simp at hu; subst hu; exact ⟨_,rfl,ry⟩
   | 2,hu=>simp at hu; subst hu; exact ⟨_,rfl,r2⟩
   | 3,hu=>simp at hu; subst hu; exact ⟨_,rfl,r3⟩
   | 4,hu=>simp at hu; subst hu; exact ⟨_,rfl,.int _ _⟩
   | j+5,hu=>simp at hu
set_option maxRecDepth 20000 in
theorem Qhy {f:FuncId} {fn:Func} {s:ChangeSpec} (hp:fn.params = #[22,3,3]) (hr:fn.resultTypes = #[4]) (hv:s.vars=[])
    (hs:∀ (H:Type) (d1 d2 d3:DataW H),s.fn H [d1,d2,d3]={ results:=[.lit (.bool true)],args:=[d1,d2,d3] })
    (hlaid:laidOutB Tryz.prog=true) (hr22:Tryz.prog.readableRec 22=true) (hs22:22<Tryz.prog.types.size)
    (law:∀ (zs:List RawPt) (n d:Int),(∀ z∈zs,z.Ok)→zs.length<2^47→(-2^63≤n∧n≤2^63-1)→(-2^63≤d∧d≤2^63-1)→Za Tryz.prog f [.one (I7 zs),.one (.int .i64 n),.one (.int .i64 d)] (.one (.bool true)))
    {H:Type} {enc:TypeId×Value→H} {W:World} {base:Nat} {args:Array Value} {ds gs:List (DataW H)} {Qhc:List MemPlace} {fresh handsOn:Bool}
    (hval:∀ (j:Nat) t v,fn.params[j]? = some t→args[j]? = some v→Value.okWide Tryz.prog W .any base t v)
    (hW:DataW.Whole enc Tryz.prog fn.params.toList s.vars false W args.toList ds gs Qhc)
    (hz:(DataW.weightsEach Tryz.prog (fn.params.toList++s.plain.varTypes Tryz.prog) (ds++gs)).all (· ≤ reachBytes)=true) :
    Calls Tryz.prog f args W fun e W'=>∃ v,e=.returned v∧s.post enc Tryz.prog fn false fresh handsOn false W args v W':=by
  have hW':=hW
  obtain ⟨p,q,hA0,hV,rfl,hfz,hnd⟩:=hW
  have hA:DataW.TrodAll enc Tryz.prog W 0 (fun _=>true) true fn.params.toList args.toList ds p:=hA0
  rw [hv] at hV
  obtain ⟨rfl,rfl⟩:=trodVars_none hV
  have hlt:=hW'.lt
  rw [hp] at hA hval hz
  obtain ⟨v0,vs0,d0,ds0,p0,q0,hargs0,rfl,rfl,h0,r0⟩:=trodAll_cons hA
  obtain ⟨v1,vs1,d1,ds1,p1,q1,rfl,rfl,rfl,h1,r1⟩:=trodAll_cons r0
  obtain ⟨v2,vs2,d2,ds2,p2,q2,rfl,rfl,rfl,h2,r2⟩:=trodAll_cons r1
  obtain ⟨rfl,rfl,rfl⟩:=trodAll_nil r2
  obtain rfl:args = #[v0,v1,v2]:=by cases args; simp_all
  obtain ⟨n,rfl,rfl,rfl,w1⟩:=open_int qFu (hval 1 3 v1 rfl rfl) h1
  obtain ⟨d,rfl,rfl,rfl,w2⟩:=open_int qFu (hval 2 3 v2 rfl rfl) h2
  have hv0:=hval 0 22 v0 rfl rfl
  obtain ⟨a,len,cap,rfl⟩:=okWide_slice Tryz.underlying22 hv0
  have hz0:(d0.weights Tryz.prog 22).all (· ≤ reachBytes)=true:=by
    rw [C4] at hz ⊢
    intro k hk
    exact hz k (DataW.weights_mem_each (j:=0) rfl rfl k hk)
  have h0':=h0
  obtain ⟨fu,h0'⟩:=h0'
  obtain ⟨v,zs,e0,hok,hlen,hrep⟩:=B8 (sz:=5) (Ok:=RawPt.Ok) (rw_:=rwp) Tryz.underlying22 (by kernel_rfl) (by decide) (of_decide_eq_true (by kernel_rfl)) (fun _=>rfl) Qie h0' hz0
  have f0:Value.slice a len cap=v:=(List.cons.inj (show [Value.slice a len cap]=[v] from e0)).1
  subst f0
  have hn1:-2^63≤n∧n≤2^63-1:=by simpa [Lit.wf,IntKind.min,IntKind.max,IntKind.signed,IntKind.bits] using w1
  have hd1:-2^63≤d∧d≤2^63-1:=by simpa [Lit.wf,IntKind.min,IntKind.max,IntKind.signed,IntKind.bits] using w2
  have hrep:LRep W (Q3 (fun _=>False) []) (.slice a len cap) (I7 zs):=hrep
  have hcall:=law zs n d hok hlen hn1 hd1 (fun _=>False) W [.slice a len cap,.int .i64 n,.int .i64 d] [] (fun _ h=>h.elim) ⟨by simp,by simp⟩ ⟨hrep.x,(LRep.int .i64 n).x,(LRep.int .i64 d).x,trivial⟩ rfl
  refine hcall.mono fun e W' ⟨v,r,Bout,Bo,he,hpost,har,hbs,hm,hh⟩=>?_
  obtain ⟨rfl,rfl⟩:=hpost
  obtain rfl:v=.bool true:=by
    have h:LRep _ _ v (.bool true):=har
    cases h
    rfl
  refine ⟨_,he,?_⟩
  refine ⟨[d0,.lit (.int .i64 n),.lit (.int .i64 d)],[],_,[],p0++([]++([]++[])),[],hW',?_,?_,?_,Qrl hm _,fun h=>by cases h⟩
  · rw [hr,qXg,hs]
    exact trodAll_cons_mk (shut_bool qUe true) trodAll_mk0
  · rw [hp,qXg,hs]
    have hb:∀ p∈p0,p.block<W.heap.size:=fun p hp=>hlt p (by simp [hp])
    exact trodAll_cons_mk (Trod_stays hlaid hr22 hs22 h0 (fun p hp=>Qsu hm (hb p hp)) (fun p hp=>by simpa using hb p hp)) (trodAll_cons_mk (shut_int qFu w1) (trodAll_cons_mk (shut_int qFu w2) trodAll_mk0))
  · rw [hv,qXg,hs]
    rfl
end Orr
