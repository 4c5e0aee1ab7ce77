/- Limb Bits Whole KnuthM KnuthN KnuthD -/
import Derived.Test.YtaffmkgbfgjgeaaGreatPart00
import Derived.Test.YtaffmkgbfgjgeaaGreatPart02
import Derived.Test.YtaffmkgbfgjgeaaGreatPart01
set_option linter.all false

namespace Orr
open Go Go.Proofs
variable (Ob:Nat→Prop) (W:World)
set_option maxHeartbeats 1000000 in
theorem Qfs (hO:∀ b,Ob b→b<W.heap.size) (A:Option Addr) (c:Nat) (l:List Nat) (hx0:Rel.row32.at_ W Ob [.slice A l.length c] l) :
  Calls Tryz.prog 309 #[.slice A l.length c] W fun e w'=>∃ r,e=.returned r∧Grow W w'∧∃ A' m c',Cut l m∧r=.slice A' m c'∧Rel.row32.at_ w' Ob [.slice A' m c'] (l.take m):=by
 obtain ⟨_,hlc,hc47⟩:=Jv hx0
 refine enter (vs:=[(.slice A l.length c)]) (Ob:=Ob) (K:=fun b=>b<W.heap.size) (Fs:=[(Rel.row32).fact [.slice A l.length c] (l)]) Eg rfl Tryz.ntmps309 rfl (fun _ h=>h) hO (by simp only [Vw,No,or_false,forall_eq_or_imp,forall_eq,false_imp_iff,implies_true]; exact hx0) fun a h=>?_
 refine Ql (Qt ?_)
 refine Qd h rfl rfl fun a h=>?_
 refine wpList_nil ?_
 refine Ql (Qt ?_)
 refine Qa h rfl rfl fun a h=>?_
 refine Zz h rfl Jc rfl fun a h=>?_
 refine Qd h rfl rfl fun a h=>?_
 refine wpList_nil ?_
 refine Ql ?_
 refine wp_block ?_
 refine Gc (fun m a w'=>m≤l.length∧(∀ j,m≤j→j<l.length→l[j]? = some 0)∧St (fun b=>b<W.heap.size) Ob W w' a 21 [(0,.slice A l.length c),(3,.int .i64 (m:Int))] [Rel.row32.fact [.slice A l.length c] l] []) (m:=l.length) (⟨X2 _,fun j h1 h2=>absurd h2 (by omega),h.consL (t:=0) rfl (h.consL (t:=3) rfl h.nilL)⟩) ?_
 clear h
 rintro m a w ⟨hm,hz,h⟩
 by_cases h0:0<m
 ·obtain ⟨b,o,rfl,_,_,hc⟩:=Yn (h.fact 0 rfl) (i:=m-1) (by omega)
  have hx1:l[m-1]? = some (l[m-1]'(by omega)):=Xx (by omega)
  refine Ql (Ql (Qt ?_))
  refine Qa h rfl rfl fun a h=>?_
  refine Zk h rfl rfl rfl rfl fun a h=>?_
  refine Qa h rfl rfl fun a h=>?_
  refine Zx h rfl rfl (by simpa using h0) ?_
  refine Qa h rfl rfl fun a h=>?_
  refine Zx h rfl rfl (by simpa using h0) ?_
  refine Qa h rfl rfl fun a h=>?_
  refine Zx h rfl rfl (by simpa using h0) ?_
  refine Vk h rfl rfl (by omega) rfl fun a h=>?_
  refine Zx h rfl rfl (by simpa using h0) ?_
  refine Q5 (m-1) h rfl rfl Jc Y4 (by omega) (by omega) rfl fun a h=>?_
  refine Zx h rfl rfl (by simpa using h0) ?_
  refine Xc h rfl Sz (hc _ _ hx1) rfl fun a h=>?_
  refine Zx h rfl rfl (by simpa using h0) ?_
  refine Zk h rfl rfl rfl rfl fun a h=>?_
  refine Hg h rfl (by simpa using h0) rfl rfl fun a h=>?_
  refine wpList_nil ?_
  refine Yo h rfl (fun hb_if1=>?_) (fun hb_if1=>?_)
  ·try simp only [decide_eq_true_eq,decide_eq_false_iff_not,Vc,Vb] at hb_if1
   refine wp_skip ?_
   refine wp_block ?_
   refine Qt ?_
   refine Qa h rfl rfl fun a h=>?_
   refine Vk h rfl rfl (by omega) rfl fun a h=>?_
   refine Qd h rfl rfl fun a h=>?_
   refine wpList_nil ?_
   refine ⟨m-1,by omega,by omega,fun j h1 h2=>?_,h.consL (t:=0) rfl ((h.consL (t:=3) rfl h.nilL).respell (by congr 1; omega))⟩
   by_cases e:j=m-1
   ·rw [e,hx1]; congr 1; omega
   exact hz j (by omega) h2
  try simp only [decide_eq_true_eq,decide_eq_false_iff_not,Vc,Vb] at hb_if1
  have hne:l[m-1]'(by omega)≠0:=by omega
  refine wp_exit ?_
  repeat refine Xt ?_
  refine Z6 ?_
  refine Ql (Qt ?_)
  refine Qa h rfl rfl fun a h=>?_
  refine Qa h rfl rfl fun a h=>?_
  refine Of (i:=m) h rfl rfl Jc Y4 (by omega) rfl fun a h=>?_
  refine Qd h rfl rfl fun a h=>?_
  refine wpList_nil ?_
  refine wp_ret ?_
  refine Vp Tryz.results309 h (Zj h rfl) ⟨_,rfl,h.grow0,_,m,c,⟨hm,hz,fun hp=>?_⟩,rfl,Qgf (h.out 0 rfl) m hm⟩
  first | exact ⟨_,hx1,hne⟩ | omega
 skip
 refine Ql (Ql (Qt ?_))
 refine Qa h rfl rfl fun a h=>?_
 refine Zk h rfl rfl rfl rfl fun a h=>?_
 refine Qa h rfl rfl fun a h=>?_
 refine Zv h rfl rfl (by simpa using h0) rfl fun a h=>?_
 refine Zv h rfl rfl (by simpa using h0) rfl fun a h=>?_
 refine Zv h rfl rfl (by simpa using h0) rfl fun a h=>?_
 refine Zv h rfl rfl (by simpa using h0) rfl fun a h=>?_
 refine Zv h rfl rfl (by simpa using h0) rfl fun a h=>?_
 refine Zv h rfl rfl (by simpa using h0) rfl fun a h=>?_
 refine Rt h rfl (by simpa using h0) rfl rfl fun a h=>?_
 refine wpList_nil ?_
 refine Yp h rfl (rfl) ?_
 refine wp_exit ?_
 repeat refine Xt ?_
 refine Z6 ?_
 refine Ql (Qt ?_)
 refine Qa h rfl rfl fun a h=>?_
 refine Qa h rfl rfl fun a h=>?_
 refine Of (i:=m) h rfl rfl Jc Y4 (by omega) rfl fun a h=>?_
 refine Qd h rfl rfl fun a h=>?_
 refine wpList_nil ?_
 refine wp_ret ?_
 refine Vp Tryz.results309 h (Zj h rfl) ⟨_,rfl,h.grow0,_,m,c,⟨hm,hz,fun hp=>?_⟩,rfl,Qgf (h.out 0 rfl) m hm⟩
 first | exact ⟨_,hx1,hne⟩ | omega
theorem Jb (hO:∀ b,Ob b→b<W.heap.size) {A:Option Addr} {n c x:Nat} (hx0:Rel.natA.at_ W Ob [.slice A n c] x) :
  Calls Tryz.prog 309 #[.slice A n c] W (Ms W Ob (Rel.natN.sliceF x)):=by
 obtain ⟨l,h1,h2,rfl⟩:=hx0
 obtain ⟨rfl,_,_⟩:=Jv h1
 refine (Qfs Ob W hO A c l h1).mono fun e w' ⟨r,he,hg,A',m,c',hc,hr,hrow⟩=>?_
 exact ⟨r,he,hg,A',m,c',hr,l.take m,hrow,Qq7 hc h2,Qq8 hc⟩
set_option maxHeartbeats 1000000 in
theorem Fr (hO:∀ b,Ob b→b<W.heap.size) {A:Option Addr} {n c x:Nat} (hx0:Rel.natA.at_ W Ob [.slice A n c] x) (hs:sz x≤4294967296) :
  Calls Tryz.prog 267 #[.slice A n c] W (Ms W Ob (Rel.natN.sliceF x)):=by
 refine enter (vs:=[(.slice A n c)]) (Ob:=Ob) (K:=fun b=>b<W.heap.size) (Fs:=[(Rel.natA).fact [.slice A n c] (x)]) qFp rfl Tryz.ntmps267 rfl (fun _ h=>h) hO (by simp only [Vw,No,or_false,forall_eq_or_imp,forall_eq,false_imp_iff,implies_true]; exact hx0) fun a h=>?_
 refine Ql (Qt ?_)
 refine Qd h rfl rfl fun a h=>?_
 refine wpList_nil ?_
 refine Ql (Qt ?_)
 refine Qa h rfl rfl fun a h=>?_
 refine Q9 h Eg rfl rfl rfl (Jb _ _ (fun b=>h.owns_lt) (h.fact 0 rfl)) rfl fun r w a hg hF h=>?_
 obtain ⟨A1,n2,c3,e5,f4⟩:=hF
 subst e5
 have h:=h.add (f:=(Rel.natN).fact [(.slice A1 n2 c3)] (x)) f4
 obtain ⟨l,hl1,hl2,hl3⟩:=h.fact 0 rfl
 obtain ⟨en,_,_⟩:=Jv hl1
 have hlen:=K9 hl2
 have h33:(2:Nat)^33=8589934592:=by decide
 have h47:(2:Nat)^47=140737488355328:=by decide
 refine Qmt (Bo:=[]) (zs:=[.int .u32 0]) (m:=0) (cs:=[]) h rfl rfl Jc qUj rfl rfl Y4 qWl rfl rfl ⟨rfl,.inl ⟨rfl,rfl,rfl⟩⟩ (Qbx hl1) (Qgv l) (by rw [hl3] at hlen; omega) rfl fun v1 w Bo a ho h=>?_
 obtain ⟨A1,c1,ev,hrow⟩:=Qde h ho hl2.1 (by rw [hl3] at hlen; omega)
 subst ev
 replace h:=h.tailB
 have h:=h.add (f:=Rel.natN.fact [.slice A1 l.length c1] x) ⟨l,hrow,hl2,hl3⟩
 refine Qd h rfl rfl fun a h=>?_
 refine wpList_nil ?_
 refine wp_ret ?_
 exact Vp Tryz.results267 h (Zj h rfl) ⟨_,rfl,h.grow0,_,_,_,rfl,h.out 0 rfl⟩
set_option maxHeartbeats 1000000 in
theorem Ih (hO:∀ b,Ob b→b<W.heap.size) {A:Option Addr} {n c x:Nat} {A':Option Addr} {n' c' y:Nat} (hx0:Rel.natA.at_ W Ob [.slice A n c] x) (hx1:Rel.natA.at_ W Ob [.slice A' n' c'] y) :
  Calls Tryz.prog 318 #[.slice A n c,.slice A' n' c'] W (Ms W Ob (Yg (.int .i64 (Tx x y)))):=by
 refine enter (vs:=[(.slice A n c),(.slice A' n' c')]) (Ob:=Ob) (K:=fun b=>b<W.heap.size) (Fs:=[(Rel.natA).fact [.slice A n c] (x),(Rel.natA).fact [(.slice A' n' c')] (y)]) Tryz.func318 rfl Tryz.ntmps318 rfl (fun _ h=>h) hO (by simp only [Vw,No,or_false,forall_eq_or_imp,forall_eq,false_imp_iff,implies_true]; exact ⟨hx0,hx1⟩) fun a h=>?_
 refine Ql (Qt ?_)
 refine Qd h rfl rfl fun a h=>?_
 refine wpList_nil ?_
 refine Ql (Qt ?_)
 refine Qa h rfl rfl fun a h=>?_
 refine Q9 h Eg rfl rfl rfl (Jb _ _ (fun b=>h.owns_lt) (h.fact 0 rfl)) rfl fun r w a hg hF h=>?_
 obtain ⟨A1,n2,c3,e5,f4⟩:=hF
 subst e5
 have h:=h.add (f:=(Rel.natN).fact [(.slice A1 n2 c3)] (x)) f4
 refine Qa h rfl rfl fun a h=>?_
 refine Q9 h Eg rfl rfl rfl (Jb _ _ (fun b=>h.owns_lt) (h.fact 2 rfl)) rfl fun r w a hg hF h=>?_
 obtain ⟨A6,n7,c8,e10,f9⟩:=hF
 subst e10
 have h:=h.add (f:=(Rel.natN).fact [(.slice A6 n7 c8)] (y)) f9
 refine Qd h rfl rfl fun a h=>?_
 refine Qd h rfl rfl fun a h=>?_
 refine wpList_nil ?_
 refine Ql (Ql (Qt ?_))
 refine Qa h rfl rfl fun a h=>?_
 refine Zz h rfl Jc rfl fun a h=>?_
 refine Qa h rfl rfl fun a h=>?_
 refine Zz h rfl Jc rfl fun a h=>?_
 obtain ⟨l,hl1,hl2,hl3⟩:=h.fact 1 rfl
 obtain ⟨r,hr1,hr2,hr3⟩:=h.fact 0 rfl
 have h:=h.add (f:=Rel.row32.fact [(.slice A1 n2 c3)] l) hl1
 obtain ⟨el,_,_⟩:=Jv hl1
 have h:=h.add (f:=Rel.row32.fact [(.slice A6 n7 c8)] r) hr1
 obtain ⟨er,_,_⟩:=Jv hr1
 refine Zk h rfl rfl rfl rfl fun a h=>?_
 refine wpList_nil ?_
 refine Yo h rfl (fun hb_if1=>?_) (fun hb_if1=>?_)
 ·try simp only [decide_eq_true_eq,decide_eq_false_iff_not,Vc,Vb] at hb_if1
  refine Ql (Ql (Qt ?_))
  refine Qa h rfl rfl fun a h=>?_
  refine Zz h rfl Jc rfl fun a h=>?_
  refine Qa h rfl rfl fun a h=>?_
  refine Zz h rfl Jc rfl fun a h=>?_
  refine Zk h rfl rfl rfl rfl fun a h=>?_
  refine wpList_nil ?_
  refine Yo h rfl (fun hb_if2=>?_) (fun hb_if2=>?_)
  ·try simp only [decide_eq_true_eq,decide_eq_false_iff_not,Vc,Vb] at hb_if2
   refine Ql (Qt ?_)
   refine Qd h rfl rfl fun a h=>?_
   refine wpList_nil ?_
   refine wp_ret ?_
   exact Vp qGl h (Zj h rfl) ⟨_,rfl,h.grow0,congrArg _ ((Lv (hl3 ▸ hr3 ▸ F4 hl2 hr2 (by omega))).symm)⟩
  try simp only [decide_eq_true_eq,decide_eq_false_iff_not,Vc,Vb] at hb_if2
  refine wp_skip ?_
  refine Ql (Qt ?_)
  refine Qd h rfl rfl fun a h=>?_
  refine wpList_nil ?_
  refine wp_ret ?_
  exact Vp qGl h (Zj h rfl) ⟨_,rfl,h.grow0,congrArg _ ((Lu (hl3 ▸ hr3 ▸ F4 hr2 hl2 (by omega))).symm)⟩
 try simp only [decide_eq_true_eq,decide_eq_false_iff_not,Vc,Vb] at hb_if1
 refine wp_skip ?_
 refine Ql (Ql (Qt ?_))
 refine Qa h rfl rfl fun a h=>?_
 refine Zz h rfl Jc rfl fun a h=>?_
 refine Vk h rfl rfl (by omega) rfl fun a h=>?_
 refine Qd h rfl rfl fun a h=>?_
 refine wpList_nil ?_
 refine wp_block ?_
 refine Gc (fun m a w'=>m≤l.length∧l.drop m=r.drop m∧St (fun b=>b<W.heap.size) Ob W w' a 45 [(0,(.slice A1 n2 c3)),(1,(.slice A6 n7 c8)),(5,.int .i64 ((m:Int)-1))] [Rel.row32.fact [(.slice A6 n7 c8)] r,Rel.row32.fact [(.slice A1 n2 c3)] l] []) (m:=n2) (⟨by omega,by rw [Ll (by omega),Ll (by omega)],((h.consL (t:=0) rfl (h.consL (t:=1) rfl (h.consL (t:=5) rfl h.nilL))).noFacts.add (h.fact 1 rfl)).add (h.fact 0 rfl)⟩) ?_
 clear h
 rintro m a w ⟨hm,hd,h⟩
 by_cases h0:0<m
 ·obtain ⟨b1,o1,rfl,_,_,hc1⟩:=Yn (h.fact 1 rfl) (i:=m-1) (by omega)
  obtain ⟨b2,o2,rfl,_,_,hc2⟩:=Yn (h.fact 0 rfl) (i:=m-1) (by omega)
  obtain ⟨x1,hx1⟩:∃ x,l[m-1]? = some x:=⟨_,Xx (by omega)⟩
  obtain ⟨y1,hy1⟩:∃ y,r[m-1]? = some y:=⟨_,Xx (by omega)⟩
  rw [show m=(m-1)+1 from by omega] at hd
  refine Ql (Ql (Qt ?_))
  refine Qa h rfl rfl fun a h=>?_
  refine Zk h rfl rfl rfl rfl fun a h=>?_
  refine wpList_nil ?_
  refine K3 h rfl (by simp; omega) ?_
  refine wp_skip ?_
  refine Ql ?_
  refine wp_block ?_
  refine Ql (Ql ?_)
  refine Gf Qp 8 [some 27,some 28,some 29,some 30,some 31,some 32,some 33,some 34] [[],[],[0,1],[2],[],[],[4,5],[6]] [(Yg (.slice (some ⟨b1,o1,none⟩) n2 c3)),(Yg (.int .i64 ((m:Int)-1))),(Yg (.pointer (some ⟨b1,(o1+(m-1)*1),none⟩))),(Yg (.int .u32 (x1:Int))),(Yg (.slice (some ⟨b2,o2,none⟩) n7 c8)),(Yg (.int .i64 ((m:Int)-1))),(Yg (.pointer (some ⟨b2,(o2+(m-1)*1),none⟩))),(Yg (.int .u32 (y1:Int)))] rfl h rfl ⟨?_,?_,?_,?_,?_,?_,?_,?_,trivial⟩ ?_
  ·intro dp hdp0 hdp dv Fx a w h
   refine Qa h rfl rfl fun a h=>?_
   refine wpList_nil ⟨rfl,?_⟩
   exact ⟨_,h.drawEnd (F':=[]) rfl rfl⟩
  ·intro dp hdp0 hdp dv Fx a w h
   refine Qa h rfl rfl fun a h=>?_
   refine wpList_nil ⟨rfl,?_⟩
   exact ⟨_,h.drawEnd (F':=[]) rfl rfl⟩
  ·intro dp hdp0 hdp dv Fx a w h
   have e11:dv 0=(.slice (some ⟨b1,o1,none⟩) n2 c3):=h.fact 0 rfl
   have e12:dv 1=(.int .i64 ((m:Int)-1)):=h.fact 1 rfl
   replace h:=(h.spellE (t:=28) e12 rfl (h.spellE (t:=27) e11 rfl h))
   refine Q5 (m-1) h rfl rfl Jc Y4 (by omega) (by omega) rfl fun a h=>?_
   refine wpList_nil ⟨rfl,?_⟩
   exact ⟨_,h.drawEnd (F':=[_,_]) rfl rfl⟩
  ·intro dp hdp0 hdp dv Fx a w h
   have e13:dv 2=(.pointer (some ⟨b1,(o1+(m-1)*1),none⟩)):=h.fact 0 rfl
   replace h:=(h.spellE (t:=29) e13 rfl h)
   refine Xc h rfl Sz (X8 (h.fact 2 rfl) hx1) rfl fun a h=>?_
   refine wpList_nil ⟨rfl,?_⟩
   exact ⟨_,h.drawEnd (F':=[_]) rfl rfl⟩
  ·intro dp hdp0 hdp dv Fx a w h
   refine Qa h rfl rfl fun a h=>?_
   refine wpList_nil ⟨rfl,?_⟩
   exact ⟨_,h.drawEnd (F':=[]) rfl rfl⟩
  ·intro dp hdp0 hdp dv Fx a w h
   refine Qa h rfl rfl fun a h=>?_
   refine wpList_nil ⟨rfl,?_⟩
   exact ⟨_,h.drawEnd (F':=[]) rfl rfl⟩
  ·intro dp hdp0 hdp dv Fx a w h
   have e14:dv 4=(.slice (some ⟨b2,o2,none⟩) n7 c8):=h.fact 0 rfl
   have e15:dv 5=(.int .i64 ((m:Int)-1)):=h.fact 1 rfl
   replace h:=(h.spellE (t:=32) e15 rfl (h.spellE (t:=31) e14 rfl h))
   refine Q5 (m-1) h rfl rfl Jc Y4 (by omega) (by omega) rfl fun a h=>?_
   refine wpList_nil ⟨rfl,?_⟩
   exact ⟨_,h.drawEnd (F':=[_,_]) rfl rfl⟩
  ·intro dp hdp0 hdp dv Fx a w h
   have e16:dv 6=(.pointer (some ⟨b2,(o2+(m-1)*1),none⟩)):=h.fact 0 rfl
   replace h:=(h.spellE (t:=33) e16 rfl h)
   refine Xc h rfl Sz (X8 (h.fact 1 rfl) hy1) rfl fun a h=>?_
   refine wpList_nil ⟨rfl,?_⟩
   exact ⟨_,h.drawEnd (F':=[_]) rfl rfl⟩
  intro dv a w h
  have e17:dv 3=(.int .u32 (x1:Int)):=h.fact 3 rfl
  have e18:dv 7=(.int .u32 (y1:Int)):=h.fact 7 rfl
  have h2:=(h.spellE (t:=34) e18 rfl (h.spellE (t:=30) e17 rfl (h.consL (t:=24) rfl (h.consL (t:=5) rfl (h.consL (t:=1) rfl (h.consL (t:=0) rfl h.nilL))))))
  have h3:=h2.noFacts
  have h3:=h3.add (h2.fact 9 rfl)
  have h3:=h3.add (h2.fact 8 rfl)
  clear h2
  replace h:=h3
  clear h3
  refine Zk h rfl rfl rfl rfl fun a h=>?_
  refine wpList_nil ?_
  refine Yo h rfl (fun hb_if4=>?_) (fun hb_if4=>?_)
  ·try simp only [decide_eq_true_eq,decide_eq_false_iff_not,Vc,Vb] at hb_if4
   refine Ql (Qt ?_)
   refine Qd h rfl rfl fun a h=>?_
   refine wpList_nil ?_
   refine wp_ret ?_
   exact Vp qGl h (Zj h rfl) ⟨_,rfl,h.grow0,congrArg _ ((Lv (hl3 ▸ hr3 ▸ Qk4 hl2.1 hd hx1 hy1 (by omega))).symm)⟩
  try simp only [decide_eq_true_eq,decide_eq_false_iff_not,Vc,Vb] at hb_if4
  refine wp_skip ?_
  refine Ql ?_
  refine Gf Qp 8 [some 36,some 37,some 38,some 39,some 40,some 41,some 42,some 43] [[],[],[0,1],[2],[],[],[4,5],[6]] [(Yg (.slice (some ⟨b1,o1,none⟩) n2 c3)),(Yg (.int .i64 ((m:Int)-1))),(Yg (.pointer (some ⟨b1,(o1+(m-1)*1),none⟩))),(Yg (.int .u32 (x1:Int))),(Yg (.slice (some ⟨b2,o2,none⟩) n7 c8)),(Yg (.int .i64 ((m:Int)-1))),(Yg (.pointer (some ⟨b2,(o2+(m-1)*1),none⟩))),(Yg (.int .u32 (y1:Int)))] rfl h rfl ⟨?_,?_,?_,?_,?_,?_,?_,?_,trivial⟩ ?_
  ·intro dp hdp0 hdp dv Fx a w h
   refine Qa h rfl rfl fun a h=>?_
   refine wpList_nil ⟨rfl,?_⟩
   exact ⟨_,h.drawEnd (F':=[]) rfl rfl⟩
  ·intro dp hdp0 hdp dv Fx a w h
   refine Qa h rfl rfl fun a h=>?_
   refine wpList_nil ⟨rfl,?_⟩
   exact ⟨_,h.drawEnd (F':=[]) rfl rfl⟩
  ·intro dp hdp0 hdp dv Fx a w h
   have e19:dv 0=(.slice (some ⟨b1,o1,none⟩) n2 c3):=h.fact 0 rfl
   have e20:dv 1=(.int .i64 ((m:Int)-1)):=h.fact 1 rfl
   replace h:=(h.spellE (t:=37) e20 rfl (h.spellE (t:=36) e19 rfl h))
   refine Q5 (m-1) h rfl rfl Jc Y4 (by omega) (by omega) rfl fun a h=>?_
   refine wpList_nil ⟨rfl,?_⟩
   exact ⟨_,h.drawEnd (F':=[_,_]) rfl rfl⟩
  ·intro dp hdp0 hdp dv Fx a w h
   have e21:dv 2=(.pointer (some ⟨b1,(o1+(m-1)*1),none⟩)):=h.fact 0 rfl
   replace h:=(h.spellE (t:=38) e21 rfl h)
   refine Xc h rfl Sz (X8 (h.fact 2 rfl) hx1) rfl fun a h=>?_
   refine wpList_nil ⟨rfl,?_⟩
   exact ⟨_,h.drawEnd (F':=[_]) rfl rfl⟩
  ·intro dp hdp0 hdp dv Fx a w h
   refine Qa h rfl rfl fun a h=>?_
   refine wpList_nil ⟨rfl,?_⟩
   exact ⟨_,h.drawEnd (F':=[]) rfl rfl⟩
  ·intro dp hdp0 hdp dv Fx a w h
   refine Qa h rfl rfl fun a h=>?_
   refine wpList_nil ⟨rfl,?_⟩
   exact ⟨_,h.drawEnd (F':=[]) rfl rfl⟩
  ·intro dp hdp0 hdp dv Fx a w h
   have e22:dv 4=(.slice (some ⟨b2,o2,none⟩) n7 c8):=h.fact 0 rfl
   have e23:dv 5=(.int .i64 ((m:Int)-1)):=h.fact 1 rfl
   replace h:=(h.spellE (t:=41) e23 rfl (h.spellE (t:=40) e22 rfl h))
   refine Q5 (m-1) h rfl rfl Jc Y4 (by omega) (by omega) rfl fun a h=>?_
   refine wpList_nil ⟨rfl,?_⟩
   exact ⟨_,h.drawEnd (F':=[_,_]) rfl rfl⟩
  ·intro dp hdp0 hdp dv Fx a w h
   have e24:dv 6=(.pointer (some ⟨b2,(o2+(m-1)*1),none⟩)):=h.fact 0 rfl
   replace h:=(h.spellE (t:=42) e24 rfl h)
   refine Xc h rfl Sz (X8 (h.fact 1 rfl) hy1) rfl fun a h=>?_
   refine wpList_nil ⟨rfl,?_⟩
   exact ⟨_,h.drawEnd (F':=[_]) rfl rfl⟩
  intro dv a w h
  have e25:dv 3=(.int .u32 (x1:Int)):=h.fact 3 rfl
  have e26:dv 7=(.int .u32 (y1:Int)):=h.fact 7 rfl
  have h2:=(h.spellE (t:=43) e26 rfl (h.spellE (t:=39) e25 rfl (h.consL (t:=35) rfl (h.consL (t:=24) rfl (h.consL (t:=5) rfl (h.consL (t:=1) rfl (h.consL (t:=0) rfl h.nilL)))))))
  have h3:=h2.noFacts
  have h3:=h3.add (h2.fact 9 rfl)
  have h3:=h3.add (h2.fact 8 rfl)
  clear h2
  replace h:=h3
  clear h3
  refine Zk h rfl rfl rfl rfl fun a h=>?_
  refine wpList_nil ?_
  refine Yo h rfl (fun hb_if5=>?_) (fun hb_if5=>?_)
  ·try simp only [decide_eq_true_eq,decide_eq_false_iff_not,Vc,Vb] at hb_if5
   refine Ql (Qt ?_)
   refine Qd h rfl rfl fun a h=>?_
   refine wpList_nil ?_
   refine wp_ret ?_
   exact Vp qGl h (Zj h rfl) ⟨_,rfl,h.grow0,congrArg _ ((Lu (hl3 ▸ hr3 ▸ Qk4 hr2.1 hd.symm hy1 hx1 (by omega))).symm)⟩
  try simp only [decide_eq_true_eq,decide_eq_false_iff_not,Vc,Vb] at hb_if5
  refine wp_skip ?_
  refine Qt ?_
  refine Qa h rfl rfl fun a h=>?_
  refine Vk h rfl rfl (by omega) rfl fun a h=>?_
  refine Qd h rfl rfl fun a h=>?_
  refine wpList_nil ?_
  have e:x1=y1:=by omega
  subst e
  exact ⟨m-1,by omega,by omega,Qls hd hx1 hy1,h.consL (t:=0) rfl (h.consL (t:=1) rfl ((h.consL (t:=5) rfl h.nilL).respell (by congr 1; omega)))⟩
 have hm0:m=0:=by omega
 subst hm0
 refine Ql (Ql (Qt ?_))
 refine Qa h rfl rfl fun a h=>?_
 refine Zk h rfl rfl rfl rfl fun a h=>?_
 refine wpList_nil ?_
 refine Yp h rfl (by simp) ?_
 refine wp_exit ?_
 repeat refine Xt ?_
 refine Z6 ?_
 refine Ql (Qt ?_)
 refine Qd h rfl rfl fun a h=>?_
 refine wpList_nil ?_
 refine wp_ret ?_
 exact Vp qGl h (Zj h rfl) ⟨_,rfl,h.grow0,congrArg _ ((Qjn (hl3 ▸ hr3 ▸ by simp at hd; rw [hd])).symm)⟩
set_option maxHeartbeats 1000000 in
theorem Ig (hO:∀ b,Ob b→b<W.heap.size) {A:Option Addr} {n c x:Nat} {A':Option Addr} {n' c' y:Nat} (hx0:Rel.natA.at_ W Ob [.slice A n c] x) (hx1:Rel.natA.at_ W Ob [.slice A' n' c'] y) (hsx:sz x≤4294967296) (hsy:sz y≤4294967296) :
  Calls Tryz.prog 320 #[.slice A n c,.slice A' n' c'] W (Ms W Ob (Rel.natN.sliceF (x+y))):=by
 refine enter (vs:=[(.slice A n c),(.slice A' n' c')]) (Ob:=Ob) (K:=fun b=>b<W.heap.size) (Fs:=[(Rel.natA).fact [.slice A n c] (x),(Rel.natA).fact [(.slice A' n' c')] (y)]) Tryz.func320 rfl Tryz.ntmps320 rfl (fun _ h=>h) hO (by simp only [Vw,No,or_false,forall_eq_or_imp,forall_eq,false_imp_iff,implies_true]; exact ⟨hx0,hx1⟩) fun a h=>?_
 refine Ql (Qt ?_)
 refine Qd h rfl rfl fun a h=>?_
 refine wpList_nil ?_
 refine Ql (Qt ?_)
 refine Qa h rfl rfl fun a h=>?_
 refine Q9 h Eg rfl rfl rfl (Jb _ _ (fun b=>h.owns_lt) (h.fact 0 rfl)) rfl fun r w a hg hF h=>?_
 obtain ⟨A1,n2,c3,e5,f4⟩:=hF
 subst e5
 have h:=h.add (f:=(Rel.natN).fact [(.slice A1 n2 c3)] (x)) f4
 refine Qa h rfl rfl fun a h=>?_
 refine Q9 h Eg rfl rfl rfl (Jb _ _ (fun b=>h.owns_lt) (h.fact 2 rfl)) rfl fun r w a hg hF h=>?_
 obtain ⟨A6,n7,c8,e10,f9⟩:=hF
 subst e10
 have h:=h.add (f:=(Rel.natN).fact [(.slice A6 n7 c8)] (y)) f9
 refine Qd h rfl rfl fun a h=>?_
 refine Qd h rfl rfl fun a h=>?_
 refine wpList_nil ?_
 refine Ql (Ql (Qt ?_))
 refine Qa h rfl rfl fun a h=>?_
 refine Zz h rfl Jc rfl fun a h=>?_
 refine Qa h rfl rfl fun a h=>?_
 refine Zz h rfl Jc rfl fun a h=>?_
 obtain ⟨l,hl1,hl2,hl3⟩:=h.fact 1 rfl
 obtain ⟨r,hr1,hr2,hr3⟩:=h.fact 0 rfl
 have h:=h.add (f:=Rel.row32.fact [(.slice A1 n2 c3)] l) hl1
 obtain ⟨el,_,_⟩:=Jv hl1
 have h:=h.add (f:=Rel.row32.fact [(.slice A6 n7 c8)] r) hr1
 obtain ⟨er,_,_⟩:=Jv hr1
 have hszl:=K9 hl2
 have hszr:=K9 hr2
 rw [hl3] at hszl
 rw [hr3] at hszr
 have h38:(2:Nat)^38=274877906944:=by decide
 have h47:(2:Nat)^47=140737488355328:=by decide
 have h63:(2:Nat)^63=9223372036854775808:=by decide
 refine Zk h rfl rfl rfl rfl fun a h=>?_
 refine wpList_nil ?_
 refine Yo h rfl (fun hb_if1=>?_) (fun hb_if1=>?_)
 ·try simp only [decide_eq_true_eq,decide_eq_false_iff_not,Vc,Vb] at hb_if1
  refine Qt ?_
  refine Qa h rfl rfl fun a h=>?_
  refine Qa h rfl rfl fun a h=>?_
  refine Qd h rfl rfl fun a h=>?_
  refine Qd h rfl rfl fun a h=>?_
  refine wpList_nil ?_
  refine Ql (Qt ?_)
  refine Qa h rfl rfl fun a h=>?_
  refine Zz h rfl Jc rfl fun a h=>?_
  refine Z2 h rfl rfl (by omega) rfl fun a h=>?_
  refine F8 (m:=(n7+1)) (zs:=[(.int .u32 0)]) h (rfl) (rfl) Jc qUj rfl Y4 qWl rfl rfl (by omega) rfl fun g11 w a h=>?_
  replace h:=h.respellB (Ws _)
  refine Qd h rfl rfl fun a h=>?_
  refine wpList_nil ?_
  refine Ql (Qt ?_)
  refine Qd h rfl rfl fun a h=>?_
  refine wpList_nil ?_
  refine Ql (Ql (Qt ?_))
  refine Qa h rfl rfl fun a h=>?_
  refine Zz h rfl Jc rfl fun a h=>?_
  refine Qa h rfl rfl fun a h=>?_
  refine wpList_nil ?_
  refine wp_block ?_
  refine Gc (fun m a w'=>∃ i o cy,i≤n7∧m=n7-i∧o.length=n7+1∧cy≤1∧(∀ x∈o,x<4294967296)∧val (o.take i)+cy*4294967296^i=val (r.take i)+val (l.take i)∧St (fun b=>b<W.heap.size) Ob W w' a 63 [(0,(.slice A6 n7 c8)),(1,(.slice A1 n2 c3)),(5,.slice (some ⟨g11,0,none⟩) (n7+1) (n7+1)),(6,.int .u64 ((cy:Nat):Int)),(25,(.slice A6 n7 c8)),(26,.int .i64 (n7:Int)),(27,.int .i64 (i:Int))] [Rel.row32.fact [(.slice A6 n7 c8)] r,Rel.row32.fact [(.slice A1 n2 c3)] l] [(g11,276,Y1 o)]) (m:=_) (⟨0,List.replicate (n7+1) 0,0,by omega,rfl,by simp,by omega,by simp,by simp [val],(((h.consL (t:=0) rfl (h.consL (t:=1) rfl (h.consL (t:=5) rfl (h.consL (t:=6) rfl (h.consL (t:=25) rfl (h.consL (t:=26) rfl (h.consL (t:=27) rfl h.nilL))))))).noFacts.add (h.fact 1 rfl)).add (h.fact 0 rfl))⟩) ?_
  clear h
  rintro m a w ⟨i,o,cy,hi,hm,hol,hcy,ho,heq,h⟩
  by_cases hlt:i<n7
  ·obtain ⟨b1,o1,rfl,_,_,_⟩:=Yn (h.fact 0 rfl) (i:=i) (by omega)
   obtain ⟨x1,hx1⟩:∃ x,r[i]? = some x:=⟨_,Xx (by omega)⟩
   have hx1b:=Wh (h.fact 0 rfl) _ (Vo hx1)
   refine Ql (Qt ?_)
   refine Zk h rfl rfl rfl rfl fun a h=>?_
   refine wpList_nil ?_
   refine Ql ?_
   refine K3 h rfl (by simp; omega) ?_
   refine wp_skip ?_
   refine Ql ?_
   refine wp_block ?_
   refine Ql (Qt ?_)
   refine Qa h rfl rfl fun a h=>?_
   refine Q5 (i) h rfl rfl Jc Y4 (rfl) (by omega) rfl fun a h=>?_
   refine Xc h rfl Sz (X8 (h.fact 0 rfl) hx1) rfl fun a h=>?_
   refine Qd h rfl rfl fun a h=>?_
   refine Qd h rfl rfl fun a h=>?_
   refine wpList_nil ?_
   refine Ql (Qt ?_)
   refine Qa h rfl rfl fun a h=>?_
   refine X9 (p:=x1) h rfl (by omega) Uo Fy rfl fun a h=>?_
   refine Qa h rfl rfl fun a h=>?_
   refine Fh (p:=x1) (q:=cy) h rfl rfl (by omega) rfl fun a h=>?_
   refine Qd h rfl rfl fun a h=>?_
   refine wpList_nil ?_
   refine Ql (Ql (Qt ?_))
   refine Qa h rfl rfl fun a h=>?_
   refine Qa h rfl rfl fun a h=>?_
   refine Zz h rfl Jc rfl fun a h=>?_
   refine Zk h rfl rfl rfl rfl fun a h=>?_
   refine wpList_nil ?_
   refine Yo h rfl (fun hb_if3=>?_) (fun hb_if3=>?_)
   ·try simp only [decide_eq_true_eq,decide_eq_false_iff_not,Vc,Vb] at hb_if3
    obtain ⟨b2,o2,rfl,_,_,_⟩:=Yn (h.fact 1 rfl) (i:=i) (by omega)
    obtain ⟨y1,hy1⟩:∃ y,l[i]? = some y:=⟨_,Xx (by omega)⟩
    have hy1b:=Wh (h.fact 1 rfl) _ (Vo hy1)
    refine Qt ?_
    refine Qa h rfl rfl fun a h=>?_
    refine Qa h rfl rfl fun a h=>?_
    refine Qa h rfl rfl fun a h=>?_
    refine Q5 (i) h rfl rfl Jc Y4 (rfl) (by omega) rfl fun a h=>?_
    refine Xc h rfl Sz (X8 (h.fact 1 rfl) hy1) rfl fun a h=>?_
    refine X9 (p:=y1) h rfl (by omega) Uo Fy rfl fun a h=>?_
    refine Fh (p:=x1+cy) (q:=y1) h rfl rfl (by omega) rfl fun a h=>?_
    refine Qd h rfl rfl fun a h=>?_
    refine wpList_nil ?_
    refine Qt ?_
    refine Qa h rfl rfl fun a h=>?_
    refine Qa h rfl rfl fun a h=>?_
    refine Qa h rfl rfl fun a h=>?_
    refine Jh (p:=(x1+cy)+y1) h rfl Fy Uo rfl fun a h=>?_
    refine Qa h rfl rfl fun a h=>?_
    refine V7 (p:=(x1+cy)+y1) (m:=32) h rfl rfl (by omega) rfl fun a h=>?_
    refine Q5 (i) h rfl rfl Jc Y4 (rfl) (by omega) rfl fun a h=>?_
    refine J1 (i:=i) h rfl rfl Y4 (by omega) fun w h=>?_
    refine Qd h rfl rfl fun a h=>?_
    refine wpList_nil ?_
    refine Qt ?_
    refine Z2 h rfl rfl (by omega) rfl fun a h=>?_
    refine Qa h rfl rfl fun a h=>?_
    refine wpList_nil ?_
    have hstep:=T5 (o:=o) (l:=r) (r:=l) (i:=i) (x:=x1) (y:=y1) (s:=(x1+cy)+y1) (cy:=cy) (by omega) hx1 (.inl hy1) heq (by omega)
    refine ⟨_,by omega,i+1,o.set i (((x1+cy)+y1) % 4294967296),((x1+cy)+y1) / 4294967296,by omega,rfl,by rw [H6]; omega,by omega,Vi ho _ _ (by omega),hstep,(h.consL (t:=0) rfl (h.consL (t:=1) rfl (h.consL (t:=5) rfl (h.consL (t:=6) rfl (h.consL (t:=25) rfl (h.consL (t:=26) rfl (h.consL (t:=27) rfl h.nilL)))))))⟩
   try simp only [decide_eq_true_eq,decide_eq_false_iff_not,Vc,Vb] at hb_if3
   refine wp_skip ?_
   refine Qt ?_
   refine Qa h rfl rfl fun a h=>?_
   refine Qa h rfl rfl fun a h=>?_
   refine Qa h rfl rfl fun a h=>?_
   refine Jh (p:=x1+cy) h rfl Fy Uo rfl fun a h=>?_
   refine Qa h rfl rfl fun a h=>?_
   refine V7 (p:=x1+cy) (m:=32) h rfl rfl (by omega) rfl fun a h=>?_
   refine Q5 (i) h rfl rfl Jc Y4 (rfl) (by omega) rfl fun a h=>?_
   refine J1 (i:=i) h rfl rfl Y4 (by omega) fun w h=>?_
   refine Qd h rfl rfl fun a h=>?_
   refine wpList_nil ?_
   refine Qt ?_
   refine Z2 h rfl rfl (by omega) rfl fun a h=>?_
   refine Qa h rfl rfl fun a h=>?_
   refine wpList_nil ?_
   have hstep:=T5 (o:=o) (l:=r) (r:=l) (i:=i) (x:=x1) (y:=0) (s:=x1+cy) (cy:=cy) (by omega) hx1 (.inr ⟨by omega,rfl⟩) heq (by omega)
   refine ⟨_,by omega,i+1,o.set i ((x1+cy) % 4294967296),(x1+cy) / 4294967296,by omega,rfl,by rw [H6]; omega,by omega,Vi ho _ _ (by omega),hstep,(h.consL (t:=0) rfl (h.consL (t:=1) rfl (h.consL (t:=5) rfl (h.consL (t:=6) rfl (h.consL (t:=25) rfl (h.consL (t:=26) rfl (h.consL (t:=27) rfl h.nilL)))))))⟩
  skip
  refine Ql (Qt ?_)
  refine Zk h rfl rfl rfl rfl fun a h=>?_
  refine wpList_nil ?_
  refine Ql ?_
  refine Yp h rfl (by simp; omega) ?_
  refine wp_exit ?_
  repeat refine Xt ?_
  refine Z6 ?_
  refine Ql (Qt ?_)
  refine Qa h rfl rfl fun a h=>?_
  refine Qa h rfl rfl fun a h=>?_
  refine Zz h rfl Jc rfl fun a h=>?_
  refine Qa h rfl rfl fun a h=>?_
  refine Jh (p:=cy) h rfl Fy Uo rfl fun a h=>?_
  refine Q5 (n7) h rfl rfl Jc Y4 (rfl) (by omega) rfl fun a h=>?_
  refine J1 (i:=n7) h rfl rfl Y4 (by omega) fun w h=>?_
  have hfin:val (o.set n7 (cy % 4294967296))=x+y:=by
   have hie:i=n7:=by omega
   subst hie
   have h1:=Hy o i (cy % 4294967296) (by omega)
   rw [show i+1=(o.set i (cy % 4294967296)).length from by rw [H6]; omega,qJu] at h1
   rw [Y0 (l:=r) (by omega),Y0 (l:=l) (by omega)] at heq
   rw [h1,show cy % 4294967296=cy from by omega,O7,heq,hr3,hl3]
   exact qVj _ _
  have hrow:=Yj (r:=o.set n7 (cy % 4294967296)) (n7+1) h (fun _ _=>rfl) (Vi ho _ _ (by omega)) (by rw [H6,hol]; omega) (by rw [H6,hol]; exact X2 _) (by omega)
  rw [H6,hol] at hrow
  replace h:=h.publish
  have h:=h.add (f:=Rel.natA.fact [.slice (some ⟨g11,0,none⟩) (n7+1) (n7+1)] (x+y)) ⟨_,hrow,Vi ho _ _ (by omega),hfin⟩
  refine wpList_nil ?_
  refine Ql (Qt ?_)
  refine Qa h rfl rfl fun a h=>?_
  refine Q9 h Eg rfl rfl rfl (Jb _ _ (fun b=>h.owns_lt) (h.fact 0 rfl)) rfl fun r w a hg hF h=>?_
  obtain ⟨A12,n13,c14,e16,f15⟩:=hF
  subst e16
  have h:=h.add (f:=(Rel.natN).fact [(.slice A12 n13 c14)] ((x+y))) f15
  refine Qd h rfl rfl fun a h=>?_
  refine wpList_nil ?_
  refine wp_ret ?_
  exact Vp Tryz.results320 h (Zj h rfl) ⟨_,rfl,h.grow0,_,_,_,rfl,h.out 0 rfl⟩
 try simp only [decide_eq_true_eq,decide_eq_false_iff_not,Vc,Vb] at hb_if1
 refine wp_skip ?_
 refine Ql (Qt ?_)
 refine Qa h rfl rfl fun a h=>?_
 refine Zz h rfl Jc rfl fun a h=>?_
 refine Z2 h rfl rfl (by omega) rfl fun a h=>?_
 refine F8 (m:=(n2+1)) (zs:=[(.int .u32 0)]) h (rfl) (rfl) Jc qUj rfl Y4 qWl rfl rfl (by omega) rfl fun g17 w a h=>?_
 replace h:=h.respellB (Ws _)
 refine Qd h rfl rfl fun a h=>?_
 refine wpList_nil ?_
 refine Ql (Qt ?_)
 refine Qd h rfl rfl fun a h=>?_
 refine wpList_nil ?_
 refine Ql (Ql (Qt ?_))
 refine Qa h rfl rfl fun a h=>?_
 refine Zz h rfl Jc rfl fun a h=>?_
 refine Qa h rfl rfl fun a h=>?_
 refine wpList_nil ?_
 refine wp_block ?_
 refine Gc (fun m a w'=>∃ i o cy,i≤n2∧m=n2-i∧o.length=n2+1∧cy≤1∧(∀ x∈o,x<4294967296)∧val (o.take i)+cy*4294967296^i=val (l.take i)+val (r.take i)∧St (fun b=>b<W.heap.size) Ob W w' a 63 [(0,(.slice A1 n2 c3)),(1,(.slice A6 n7 c8)),(5,.slice (some ⟨g17,0,none⟩) (n2+1) (n2+1)),(6,.int .u64 ((cy:Nat):Int)),(25,(.slice A1 n2 c3)),(26,.int .i64 (n2:Int)),(27,.int .i64 (i:Int))] [Rel.row32.fact [(.slice A1 n2 c3)] l,Rel.row32.fact [(.slice A6 n7 c8)] r] [(g17,276,Y1 o)]) (m:=_) (⟨0,List.replicate (n2+1) 0,0,by omega,rfl,by simp,by omega,by simp,by simp [val],(((h.consL (t:=0) rfl (h.consL (t:=1) rfl (h.consL (t:=5) rfl (h.consL (t:=6) rfl (h.consL (t:=25) rfl (h.consL (t:=26) rfl (h.consL (t:=27) rfl h.nilL))))))).noFacts.add (h.fact 0 rfl)).add (h.fact 1 rfl))⟩) ?_
 clear h
 rintro m a w ⟨i,o,cy,hi,hm,hol,hcy,ho,heq,h⟩
 by_cases hlt:i<n2
 ·obtain ⟨b1,o1,rfl,_,_,_⟩:=Yn (h.fact 0 rfl) (i:=i) (by omega)
  obtain ⟨x1,hx1⟩:∃ x,l[i]? = some x:=⟨_,Xx (by omega)⟩
  have hx1b:=Wh (h.fact 0 rfl) _ (Vo hx1)
  refine Ql (Qt ?_)
  refine Zk h rfl rfl rfl rfl fun a h=>?_
  refine wpList_nil ?_
  refine Ql ?_
  refine K3 h rfl (by simp; omega) ?_
  refine wp_skip ?_
  refine Ql ?_
  refine wp_block ?_
  refine Ql (Qt ?_)
  refine Qa h rfl rfl fun a h=>?_
  refine Q5 (i) h rfl rfl Jc Y4 (rfl) (by omega) rfl fun a h=>?_
  refine Xc h rfl Sz (X8 (h.fact 0 rfl) hx1) rfl fun a h=>?_
  refine Qd h rfl rfl fun a h=>?_
  refine Qd h rfl rfl fun a h=>?_
  refine wpList_nil ?_
  refine Ql (Qt ?_)
  refine Qa h rfl rfl fun a h=>?_
  refine X9 (p:=x1) h rfl (by omega) Uo Fy rfl fun a h=>?_
  refine Qa h rfl rfl fun a h=>?_
  refine Fh (p:=x1) (q:=cy) h rfl rfl (by omega) rfl fun a h=>?_
  refine Qd h rfl rfl fun a h=>?_
  refine wpList_nil ?_
  refine Ql (Ql (Qt ?_))
  refine Qa h rfl rfl fun a h=>?_
  refine Qa h rfl rfl fun a h=>?_
  refine Zz h rfl Jc rfl fun a h=>?_
  refine Zk h rfl rfl rfl rfl fun a h=>?_
  refine wpList_nil ?_
  refine Yo h rfl (fun hb_if3=>?_) (fun hb_if3=>?_)
  ·try simp only [decide_eq_true_eq,decide_eq_false_iff_not,Vc,Vb] at hb_if3
   obtain ⟨b2,o2,rfl,_,_,_⟩:=Yn (h.fact 1 rfl) (i:=i) (by omega)
   obtain ⟨y1,hy1⟩:∃ y,r[i]? = some y:=⟨_,Xx (by omega)⟩
   have hy1b:=Wh (h.fact 1 rfl) _ (Vo hy1)
   refine Qt ?_
   refine Qa h rfl rfl fun a h=>?_
   refine Qa h rfl rfl fun a h=>?_
   refine Qa h rfl rfl fun a h=>?_
   refine Q5 (i) h rfl rfl Jc Y4 (rfl) (by omega) rfl fun a h=>?_
   refine Xc h rfl Sz (X8 (h.fact 1 rfl) hy1) rfl fun a h=>?_
   refine X9 (p:=y1) h rfl (by omega) Uo Fy rfl fun a h=>?_
   refine Fh (p:=x1+cy) (q:=y1) h rfl rfl (by omega) rfl fun a h=>?_
   refine Qd h rfl rfl fun a h=>?_
   refine wpList_nil ?_
   refine Qt ?_
   refine Qa h rfl rfl fun a h=>?_
   refine Qa h rfl rfl fun a h=>?_
   refine Qa h rfl rfl fun a h=>?_
   refine Jh (p:=(x1+cy)+y1) h rfl Fy Uo rfl fun a h=>?_
   refine Qa h rfl rfl fun a h=>?_
   refine V7 (p:=(x1+cy)+y1) (m:=32) h rfl rfl (by omega) rfl fun a h=>?_
   refine Q5 (i) h rfl rfl Jc Y4 (rfl) (by omega) rfl fun a h=>?_
   refine J1 (i:=i) h rfl rfl Y4 (by omega) fun w h=>?_
   refine Qd h rfl rfl fun a h=>?_
   refine wpList_nil ?_
   refine Qt ?_
   refine Z2 h rfl rfl (by omega) rfl fun a h=>?_
   refine Qa h rfl rfl fun a h=>?_
   refine wpList_nil ?_
   have hstep:=T5 (o:=o) (l:=l) (r:=r) (i:=i) (x:=x1) (y:=y1) (s:=(x1+cy)+y1) (cy:=cy) (by omega) hx1 (.inl hy1) heq (by omega)
   refine ⟨_,by omega,i+1,o.set i (((x1+cy)+y1) % 4294967296),((x1+cy)+y1) / 4294967296,by omega,rfl,by rw [H6]; omega,by omega,Vi ho _ _ (by omega),hstep,(h.consL (t:=0) rfl (h.consL (t:=1) rfl (h.consL (t:=5) rfl (h.consL (t:=6) rfl (h.consL (t:=25) rfl (h.consL (t:=26) rfl (h.consL (t:=27) rfl h.nilL)))))))⟩
  try simp only [decide_eq_true_eq,decide_eq_false_iff_not,Vc,Vb] at hb_if3
  refine wp_skip ?_
  refine Qt ?_
  refine Qa h rfl rfl fun a h=>?_
  refine Qa h rfl rfl fun a h=>?_
  refine Qa h rfl rfl fun a h=>?_
  refine Jh (p:=x1+cy) h rfl Fy Uo rfl fun a h=>?_
  refine Qa h rfl rfl fun a h=>?_
  refine V7 (p:=x1+cy) (m:=32) h rfl rfl (by omega) rfl fun a h=>?_
  refine Q5 (i) h rfl rfl Jc Y4 (rfl) (by omega) rfl fun a h=>?_
  refine J1 (i:=i) h rfl rfl Y4 (by omega) fun w h=>?_
  refine Qd h rfl rfl fun a h=>?_
  refine wpList_nil ?_
  refine Qt ?_
  refine Z2 h rfl rfl (by omega) rfl fun a h=>?_
  refine Qa h rfl rfl fun a h=>?_
  refine wpList_nil ?_
  have hstep:=T5 (o:=o) (l:=l) (r:=r) (i:=i) (x:=x1) (y:=0) (s:=x1+cy) (cy:=cy) (by omega) hx1 (.inr ⟨by omega,rfl⟩) heq (by omega)
  refine ⟨_,by omega,i+1,o.set i ((x1+cy) % 4294967296),(x1+cy) / 4294967296,by omega,rfl,by rw [H6]; omega,by omega,Vi ho _ _ (by omega),hstep,(h.consL (t:=0) rfl (h.consL (t:=1) rfl (h.consL (t:=5) rfl (h.consL (t:=6) rfl (h.consL (t:=25) rfl (h.consL (t:=26) rfl (h.consL (t:=27) rfl h.nilL)))))))⟩
 skip
 refine Ql (Qt ?_)
 refine Zk h rfl rfl rfl rfl fun a h=>?_
 refine wpList_nil ?_
 refine Ql ?_
 refine Yp h rfl (by simp; omega) ?_
 refine wp_exit ?_
 repeat refine Xt ?_
 refine Z6 ?_
 refine Ql (Qt ?_)
 refine Qa h rfl rfl fun a h=>?_
 refine Qa h rfl rfl fun a h=>?_
 refine Zz h rfl Jc rfl fun a h=>?_
 refine Qa h rfl rfl fun a h=>?_
 refine Jh (p:=cy) h rfl Fy Uo rfl fun a h=>?_
 refine Q5 (n2) h rfl rfl Jc Y4 (rfl) (by omega) rfl fun a h=>?_
 refine J1 (i:=n2) h rfl rfl Y4 (by omega) fun w h=>?_
 have hfin:val (o.set n2 (cy % 4294967296))=x+y:=by
  have hie:i=n2:=by omega
  subst hie
  have h1:=Hy o i (cy % 4294967296) (by omega)
  rw [show i+1=(o.set i (cy % 4294967296)).length from by rw [H6]; omega,qJu] at h1
  rw [Y0 (l:=l) (by omega),Y0 (l:=r) (by omega)] at heq
  rw [h1,show cy % 4294967296=cy from by omega,O7,heq,hl3,hr3]
 have hrow:=Yj (r:=o.set n2 (cy % 4294967296)) (n2+1) h (fun _ _=>rfl) (Vi ho _ _ (by omega)) (by rw [H6,hol]; omega) (by rw [H6,hol]; exact X2 _) (by omega)
 rw [H6,hol] at hrow
 replace h:=h.publish
 have h:=h.add (f:=Rel.natA.fact [.slice (some ⟨g17,0,none⟩) (n2+1) (n2+1)] (x+y)) ⟨_,hrow,Vi ho _ _ (by omega),hfin⟩
 refine wpList_nil ?_
 refine Ql (Qt ?_)
 refine Qa h rfl rfl fun a h=>?_
 refine Q9 h Eg rfl rfl rfl (Jb _ _ (fun b=>h.owns_lt) (h.fact 0 rfl)) rfl fun r w a hg hF h=>?_
 obtain ⟨A18,n19,c20,e22,f21⟩:=hF
 subst e22
 have h:=h.add (f:=(Rel.natN).fact [(.slice A18 n19 c20)] ((x+y))) f21
 refine Qd h rfl rfl fun a h=>?_
 refine wpList_nil ?_
 refine wp_ret ?_
 exact Vp Tryz.results320 h (Zj h rfl) ⟨_,rfl,h.grow0,_,_,_,rfl,h.out 0 rfl⟩
set_option maxHeartbeats 1000000 in
theorem Qfq (hO:∀ b,Ob b→b<W.heap.size) {A:Option Addr} {n c x:Nat} {A':Option Addr} {n' c' y:Nat} (hx0:Rel.natA.at_ W Ob [.slice A n c] x) (hx1:Rel.natA.at_ W Ob [.slice A' n' c'] y) (hsx:sz x≤4294967296) :
  Calls Tryz.prog 321 #[.slice A n c,.slice A' n' c'] W (Ms W Ob (if y≤x then Qjd (Rel.natN.sliceF (x-y)) (Yg (.bool true)) else Qjd (Yg (.slice none 0 0)) (Yg (.bool false)))):=by
 refine enter (vs:=[(.slice A n c),(.slice A' n' c')]) (Ob:=Ob) (K:=fun b=>b<W.heap.size) (Fs:=[(Rel.natA).fact [.slice A n c] (x),(Rel.natA).fact [(.slice A' n' c')] (y)]) Tryz.func321 rfl Tryz.ntmps321 rfl (fun _ h=>h) hO (by simp only [Vw,No,or_false,forall_eq_or_imp,forall_eq,false_imp_iff,implies_true]; exact ⟨hx0,hx1⟩) fun a h=>?_
 refine Ql (Qt ?_)
 refine Qd h rfl rfl fun a h=>?_
 refine Qd h rfl rfl fun a h=>?_
 refine wpList_nil ?_
 refine Ql (Qt ?_)
 refine Qa h rfl rfl fun a h=>?_
 refine Q9 h Eg rfl rfl rfl (Jb _ _ (fun b=>h.owns_lt) (h.fact 0 rfl)) rfl fun r w a hg hF h=>?_
 obtain ⟨A1,n2,c3,e5,f4⟩:=hF
 subst e5
 have h:=h.add (f:=(Rel.natN).fact [(.slice A1 n2 c3)] (x)) f4
 refine Qa h rfl rfl fun a h=>?_
 refine Q9 h Eg rfl rfl rfl (Jb _ _ (fun b=>h.owns_lt) (h.fact 2 rfl)) rfl fun r w a hg hF h=>?_
 obtain ⟨A6,n7,c8,e10,f9⟩:=hF
 subst e10
 have h:=h.add (f:=(Rel.natN).fact [(.slice A6 n7 c8)] (y)) f9
 refine Qd h rfl rfl fun a h=>?_
 refine Qd h rfl rfl fun a h=>?_
 refine wpList_nil ?_
 refine Ql (Ql (Qt ?_))
 refine Qa h rfl rfl fun a h=>?_
 refine Qa h rfl rfl fun a h=>?_
 refine Q9 h Tryz.func318 rfl rfl rfl (Ih _ _ (fun b=>h.owns_lt) (J7 (h.fact 1 rfl)) (J7 (h.fact 0 rfl))) rfl fun r w a hg hF h=>?_
 obtain rfl:=hF
 refine Zk h rfl rfl rfl rfl fun a h=>?_
 refine wpList_nil ?_
 refine Yo h rfl (fun hb_if1=>?_) (fun hb_if1=>?_)
 ·try simp only [decide_eq_true_eq,decide_eq_false_iff_not,Vc,Vb] at hb_if1
  refine Ql (Qt ?_)
  refine Qd h rfl rfl fun a h=>?_
  refine Qd h rfl rfl fun a h=>?_
  refine wpList_nil ?_
  refine wp_ret ?_
  rw [if_neg (by unfold Tx at hb_if1; split at hb_if1 <;> omega)]
  exact Qsm Tryz.results321 h (Zj h rfl) (Zj h rfl) ⟨_,rfl,h.grow0,_,_,rfl,rfl,rfl⟩
 try simp only [decide_eq_true_eq,decide_eq_false_iff_not,Vc,Vb] at hb_if1
 refine wp_skip ?_
 refine Ql (Qt ?_)
 refine Qa h rfl rfl fun a h=>?_
 refine Zz h rfl Jc rfl fun a h=>?_
 obtain ⟨l,hl1,hl2,hl3⟩:=h.fact 1 rfl
 obtain ⟨r,hr1,hr2,hr3⟩:=h.fact 0 rfl
 have h:=h.add (f:=Rel.row32.fact [(.slice A1 n2 c3)] l) hl1
 obtain ⟨el,_,_⟩:=Jv hl1
 have h:=h.add (f:=Rel.row32.fact [(.slice A6 n7 c8)] r) hr1
 obtain ⟨er,_,_⟩:=Jv hr1
 have hszl:=K9 hl2
 have hszr:=K9 hr2
 rw [hl3] at hszl
 rw [hr3] at hszr
 have h38:(2:Nat)^38=274877906944:=by decide
 have h47:(2:Nat)^47=140737488355328:=by decide
 have h63:(2:Nat)^63=9223372036854775808:=by decide
 refine F8 (m:=n2) (zs:=[(.int .u32 0)]) h (rfl) (rfl) Jc qUj rfl Y4 qWl rfl rfl (by omega) rfl fun g11 w a h=>?_
 replace h:=h.respellB (Ws _)
 refine Qd h rfl rfl fun a h=>?_
 refine wpList_nil ?_
 refine Ql (Qt ?_)
 refine Qd h rfl rfl fun a h=>?_
 refine wpList_nil ?_
 refine Ql (Ql (Qt ?_))
 refine Qa h rfl rfl fun a h=>?_
 refine Zz h rfl Jc rfl fun a h=>?_
 refine Qa h rfl rfl fun a h=>?_
 refine wpList_nil ?_
 refine wp_block ?_
 refine Gc (fun m a w'=>∃ i o cy,i≤n2∧o.length=n2∧cy≤1∧(∀ x∈o,x<4294967296)∧val (o.take i)+val (r.take i)=val (l.take i)+cy*4294967296^i∧m=n2-i∧St (fun b=>b<W.heap.size) Ob W w' a 54 [(0,(.slice A1 n2 c3)),(1,(.slice A6 n7 c8)),(6,(.slice (some ⟨g11,0,none⟩) n2 n2)),(7,(.int .u64 ((cy:Nat):Int))),(22,(.slice A1 n2 c3)),(23,(.int .i64 (n2:Int))),(24,(.int .i64 (i:Int)))] [(Rel.row32).fact [(.slice A1 n2 c3)] (l),(Rel.row32).fact [(.slice A6 n7 c8)] (r)] [(g11,276,Y1 o)]) (m:=_) (⟨0,List.replicate n2 0,0,by omega,by simp,by omega,by simp,by simp [val],rfl,(((h.consL (t:=0) rfl (h.consL (t:=1) rfl (h.consL (t:=6) rfl (h.consL (t:=7) rfl (h.consL (t:=22) rfl (h.consL (t:=23) rfl (h.consL (t:=24) rfl h.nilL))))))).noFacts.add (h.fact 0 rfl)).add (h.fact 1 rfl))⟩) ?_
 clear h
 rintro m a w ⟨i,o,cy,hp0,hp1,hp2,hp3,hp4,hm,h⟩
 by_cases hlt:i<n2
 ·obtain ⟨b1,o1,rfl,_,_,_⟩:=Yn (h.fact 0 rfl) (i:=i) (by omega)
  obtain ⟨x1,hx1⟩:∃ x,l[i]? = some x:=⟨_,Xx (by omega)⟩
  have hx1b:=Wh (h.fact 0 rfl) _ (Vo hx1)
  refine Ql (Qt ?_)
  refine Zk h rfl rfl rfl rfl fun a h=>?_
  refine wpList_nil ?_
  refine Ql ?_
  refine K3 h rfl (by simp; omega) ?_
  refine wp_skip ?_
  refine Ql ?_
  refine wp_block ?_
  refine Ql (Qt ?_)
  refine Qa h rfl rfl fun a h=>?_
  refine Q5 (i) h rfl rfl Jc Y4 (rfl) (by omega) rfl fun a h=>?_
  refine Xc h rfl Sz (X8 (h.fact 0 rfl) hx1) rfl fun a h=>?_
  refine Qd h rfl rfl fun a h=>?_
  refine Qd h rfl rfl fun a h=>?_
  refine wpList_nil ?_
  refine Ql (Qt ?_)
  refine Qa h rfl rfl fun a h=>?_
  refine X9 (p:=x1) h rfl (by omega) Uo Fy rfl fun a h=>?_
  refine Qa h rfl rfl fun a h=>?_
  refine Hw (p:=x1) (q:=cy) h rfl rfl (by omega) rfl fun a h=>?_
  refine Qd h rfl rfl fun a h=>?_
  refine wpList_nil ?_
  refine Ql (Ql (Qt ?_))
  refine Qa h rfl rfl fun a h=>?_
  refine Qa h rfl rfl fun a h=>?_
  refine Zz h rfl Jc rfl fun a h=>?_
  refine Zk h rfl rfl rfl rfl fun a h=>?_
  refine wpList_nil ?_
  refine Yo h rfl (fun hb_if3=>?_) (fun hb_if3=>?_)
  ·try simp only [decide_eq_true_eq,decide_eq_false_iff_not,Vc,Vb] at hb_if3
   obtain ⟨b2,o2,rfl,_,_,_⟩:=Yn (h.fact 1 rfl) (i:=i) (by omega)
   obtain ⟨y1,hy1⟩:∃ y,r[i]? = some y:=⟨_,Xx (by omega)⟩
   have hy1b:=Wh (h.fact 1 rfl) _ (Vo hy1)
   refine Qt ?_
   refine Qa h rfl rfl fun a h=>?_
   refine Qa h rfl rfl fun a h=>?_
   refine Qa h rfl rfl fun a h=>?_
   refine Q5 (i) h rfl rfl Jc Y4 (rfl) (by omega) rfl fun a h=>?_
   refine Xc h rfl Sz (X8 (h.fact 1 rfl) hy1) rfl fun a h=>?_
   refine X9 (p:=y1) h rfl (by omega) Uo Fy rfl fun a h=>?_
   refine Hw (p:=(x1+18446744073709551616-(cy)) % 18446744073709551616) (q:=y1) h rfl rfl (by omega) rfl fun a h=>?_
   refine Qd h rfl rfl fun a h=>?_
   refine wpList_nil ?_
   refine Qt ?_
   refine Qa h rfl rfl fun a h=>?_
   refine Qa h rfl rfl fun a h=>?_
   refine Qa h rfl rfl fun a h=>?_
   refine Jh (p:=((x1+18446744073709551616-(cy)) % 18446744073709551616+18446744073709551616-(y1)) % 18446744073709551616) h rfl Fy Uo rfl fun a h=>?_
   refine Qa h rfl rfl fun a h=>?_
   refine V7 (p:=((x1+18446744073709551616-(cy)) % 18446744073709551616+18446744073709551616-(y1)) % 18446744073709551616) (m:=63) h rfl rfl (by omega) rfl fun a h=>?_
   refine Q5 (i) h rfl rfl Jc Y4 (rfl) (by omega) rfl fun a h=>?_
   refine J1 (i:=i) h rfl rfl Y4 (by omega) fun w h=>?_
   refine Qd h rfl rfl fun a h=>?_
   refine wpList_nil ?_
   refine Qt ?_
   refine Z2 h rfl rfl (by omega) rfl fun a h=>?_
   refine Qa h rfl rfl fun a h=>?_
   refine wpList_nil ?_
   have hstep:=Qgq (o:=o) (l:=l) (r:=r) (i:=i) (x:=x1) (y:=y1) (s:=((x1+18446744073709551616-(cy)) % 18446744073709551616+18446744073709551616-(y1)) % 18446744073709551616) (b:=cy) (by omega) hx1 (.inl hy1) hx1b (by omega) hp2 hp4 (by omega)
   rw [show (9223372036854775808:Nat)=2^63 from by decide] at hstep
   refine ⟨_,?_,i+1,o.set i ((((x1+18446744073709551616-(cy)) % 18446744073709551616+18446744073709551616-(y1)) % 18446744073709551616) % 4294967296),(((x1+18446744073709551616-(cy)) % 18446744073709551616+18446744073709551616-(y1)) % 18446744073709551616) / 2^63,by omega,by rw [H6]; omega,hstep.2,Vi hp3 _ _ (by omega),hstep.1,rfl,(((h.consL (t:=0) rfl (h.consL (t:=1) rfl (h.consL (t:=6) rfl (h.consL (t:=7) rfl (h.consL (t:=22) rfl (h.consL (t:=23) rfl (h.consL (t:=24) rfl h.nilL))))))).noFacts.add (h.fact 1 rfl)).add (h.fact 0 rfl))⟩
   omega
  try simp only [decide_eq_true_eq,decide_eq_false_iff_not,Vc,Vb] at hb_if3
  refine wp_skip ?_
  refine Qt ?_
  refine Qa h rfl rfl fun a h=>?_
  refine Qa h rfl rfl fun a h=>?_
  refine Qa h rfl rfl fun a h=>?_
  refine Jh (p:=(x1+18446744073709551616-(cy)) % 18446744073709551616) h rfl Fy Uo rfl fun a h=>?_
  refine Qa h rfl rfl fun a h=>?_
  refine V7 (p:=(x1+18446744073709551616-(cy)) % 18446744073709551616) (m:=63) h rfl rfl (by omega) rfl fun a h=>?_
  refine Q5 (i) h rfl rfl Jc Y4 (rfl) (by omega) rfl fun a h=>?_
  refine J1 (i:=i) h rfl rfl Y4 (by omega) fun w h=>?_
  refine Qd h rfl rfl fun a h=>?_
  refine wpList_nil ?_
  refine Qt ?_
  refine Z2 h rfl rfl (by omega) rfl fun a h=>?_
  refine Qa h rfl rfl fun a h=>?_
  refine wpList_nil ?_
  have hstep:=Qgq (o:=o) (l:=l) (r:=r) (i:=i) (x:=x1) (y:=0) (s:=(x1+18446744073709551616-(cy)) % 18446744073709551616) (b:=cy) (by omega) hx1 (.inr ⟨by omega,rfl⟩) hx1b (by omega) hp2 hp4 (by omega)
  rw [show (9223372036854775808:Nat)=2^63 from by decide] at hstep
  refine ⟨_,?_,i+1,o.set i (((x1+18446744073709551616-(cy)) % 18446744073709551616) % 4294967296),((x1+18446744073709551616-(cy)) % 18446744073709551616) / 2^63,by omega,by rw [H6]; omega,hstep.2,Vi hp3 _ _ (by omega),hstep.1,rfl,(((h.consL (t:=0) rfl (h.consL (t:=1) rfl (h.consL (t:=6) rfl (h.consL (t:=7) rfl (h.consL (t:=22) rfl (h.consL (t:=23) rfl (h.consL (t:=24) rfl h.nilL))))))).noFacts.add (h.fact 1 rfl)).add (h.fact 0 rfl))⟩
  omega
 skip
 refine Ql (Qt ?_)
 refine Zk h rfl rfl rfl rfl fun a h=>?_
 refine wpList_nil ?_
 refine Ql ?_
 refine Yp h rfl (by simp; omega) ?_
 refine wp_exit ?_
 repeat refine Xt ?_
 refine Z6 ?_
 refine Ql (Qt ?_)
 refine Qa h rfl rfl fun a h=>?_
 have hie:i=n2:=by omega
 have hlo:=F3 o hp3
 have hlr:=F3 r hr2.1
 have hll:=F3 l hl2.1
 have hle:y≤x:=by unfold Tx at hb_if1; split at hb_if1 <;> omega
 have hnl:r.length≤l.length:=by
  apply Classical.byContradiction; intro hno
  have:=F4 hl2 hr2 (by omega); omega
 have hfin:val o=x-y:=by
  rw [Y0 (l:=o) (by omega),Y0 (l:=l) (by omega),Y0 (l:=r) (by omega),hl3,hr3] at hp4
  have hc:cy=0:=by
   apply Classical.byContradiction; intro hc
   have hc1:cy=1:=by omega
   rw [hc1,hie,show n2=o.length from by omega,Nat.one_mul] at hp4
   omega
  rw [hc,qYr] at hp4; omega
 have hrow:=Yj (r:=o) n2 h (fun _ _=>rfl) hp3 (by omega) (by omega) (by omega)
 rw [hp1] at hrow
 replace h:=h.publish
 have h:=h.add (f:=Rel.natA.fact [.slice (some ⟨g11,0,none⟩) n2 n2] (x-y)) ⟨_,hrow,hp3,hfin⟩
 refine Q9 h Eg rfl rfl rfl (Jb _ _ (fun b=>h.owns_lt) (h.fact 0 rfl)) rfl fun r w a hg hF h=>?_
 obtain ⟨A12,n13,c14,e16,f15⟩:=hF
 subst e16
 have h:=h.add (f:=(Rel.natN).fact [(.slice A12 n13 c14)] ((x-y))) f15
 refine Qd h rfl rfl fun a h=>?_
 refine Qd h rfl rfl fun a h=>?_
 refine wpList_nil ?_
 refine wp_ret ?_
 rw [if_pos hle]
 exact Qsm Tryz.results321 h (Zj h rfl) (Zj h rfl) ⟨_,rfl,h.grow0,_,_,rfl,⟨_,_,_,rfl,h.out 0 rfl⟩,rfl⟩
set_option maxHeartbeats 1000000 in
theorem Qob (hO:∀ b,Ob b→b<W.heap.size) {A:Option Addr} {n c x:Nat} {A':Option Addr} {n' c' y:Nat} (hx0:Rel.natA.at_ W Ob [.slice A n c] x) (hx1:Rel.natA.at_ W Ob [.slice A' n' c'] y) (hsx:sz x≤4294967296) (hsy:sz y≤4294967296) :
  Calls Tryz.prog 250 #[.slice A n c,.slice A' n' c'] W (Ms W Ob (Rel.natN.sliceF (x*y))):=by
 refine enter (vs:=[(.slice A n c),(.slice A' n' c')]) (Ob:=Ob) (K:=fun b=>b<W.heap.size) (Fs:=[(Rel.natA).fact [.slice A n c] (x),(Rel.natA).fact [(.slice A' n' c')] (y)]) Tryz.func250 rfl Tryz.ntmps250 rfl (fun _ h=>h) hO (by simp only [Vw,No,or_false,forall_eq_or_imp,forall_eq,false_imp_iff,implies_true]; exact ⟨hx0,hx1⟩) fun a h=>?_
 refine Ql (Qt ?_)
 refine Qd h rfl rfl fun a h=>?_
 refine wpList_nil ?_
 refine Ql (Qt ?_)
 refine Qa h rfl rfl fun a h=>?_
 refine Q9 h Eg rfl rfl rfl (Jb _ _ (fun b=>h.owns_lt) (h.fact 0 rfl)) rfl fun r w a hg hF h=>?_
 obtain ⟨A1,n2,c3,e5,f4⟩:=hF
 subst e5
 have h:=h.add (f:=(Rel.natN).fact [(.slice A1 n2 c3)] (x)) f4
 refine Qa h rfl rfl fun a h=>?_
 refine Q9 h Eg rfl rfl rfl (Jb _ _ (fun b=>h.owns_lt) (h.fact 2 rfl)) rfl fun r w a hg hF h=>?_
 obtain ⟨A6,n7,c8,e10,f9⟩:=hF
 subst e10
 have h:=h.add (f:=(Rel.natN).fact [(.slice A6 n7 c8)] (y)) f9
 refine Qd h rfl rfl fun a h=>?_
 refine Qd h rfl rfl fun a h=>?_
 refine wpList_nil ?_
 refine Ql (Qt ?_)
 refine Qa h rfl rfl fun a h=>?_
 refine Zz h rfl Jc rfl fun a h=>?_
 refine Qa h rfl rfl fun a h=>?_
 refine Zz h rfl Jc rfl fun a h=>?_
 obtain ⟨l,hl1,hl2,hl3⟩:=h.fact 1 rfl
 obtain ⟨r,hr1,hr2,hr3⟩:=h.fact 0 rfl
 have h:=h.add (f:=Rel.row32.fact [(.slice A1 n2 c3)] l) hl1
 obtain ⟨el,_,_⟩:=Jv hl1
 have h:=h.add (f:=Rel.row32.fact [(.slice A6 n7 c8)] r) hr1
 obtain ⟨er,_,_⟩:=Jv hr1
 have hszl:=K9 hl2
 have hszr:=K9 hr2
 rw [hl3] at hszl
 rw [hr3] at hszr
 have h38:(2:Nat)^38=274877906944:=by decide
 have h47:(2:Nat)^47=140737488355328:=by decide
 have h63:(2:Nat)^63=9223372036854775808:=by decide
 refine Z2 h rfl rfl (by omega) rfl fun a h=>?_
 refine F8 (m:=(n2+n7)) (zs:=[(.int .u32 0)]) h (rfl) (rfl) Jc qUj rfl Y4 qWl rfl rfl (by omega) rfl fun g11 w a h=>?_
 replace h:=h.respellB (Ws _)
 refine Qd h rfl rfl fun a h=>?_
 refine wpList_nil ?_
 refine Ql (Ql (Qt ?_))
 refine Qa h rfl rfl fun a h=>?_
 refine Zz h rfl Jc rfl fun a h=>?_
 refine Qa h rfl rfl fun a h=>?_
 refine wpList_nil ?_
 refine wp_block ?_
 refine Gc (fun m a w'=>∃ i o,i≤n2∧o.length=(n2+n7)∧(∀ x∈o,x<4294967296)∧(∀ j,i+n7≤j→j<(n2+n7)→o[j]? = some 0)∧val o=val (l.take i)*val r∧m=n2-i∧St (fun b=>b<W.heap.size) Ob W w' a 75 [(0,(.slice A1 n2 c3)),(1,(.slice A6 n7 c8)),(5,(.slice (some ⟨g11,0,none⟩) (n2+n7) (n2+n7))),(22,(.slice A1 n2 c3)),(23,(.int .i64 (n2:Int))),(24,(.int .i64 (i:Int)))] [(Rel.row32).fact [(.slice A1 n2 c3)] (l),(Rel.row32).fact [(.slice A6 n7 c8)] (r)] [(g11,276,Y1 o)]) (m:=_) (⟨0,List.replicate (n2+n7) 0,by omega,by simp,by simp,fun j h1 h2=>by rw [qYu,if_pos h2],by simp [val,Qb4],rfl,(((h.consL (t:=0) rfl (h.consL (t:=1) rfl (h.consL (t:=5) rfl (h.consL (t:=22) rfl (h.consL (t:=23) rfl (h.consL (t:=24) rfl h.nilL)))))).noFacts.add (h.fact 0 rfl)).add (h.fact 1 rfl))⟩) ?_
 clear h
 rintro m a w ⟨i,o,hp0,hp1,hp2,hp3,hp4,hm,h⟩
 by_cases hlt:i<n2
 ·obtain ⟨b1,o1,rfl,_,_,_⟩:=Yn (h.fact 0 rfl) (i:=i) (by omega)
  obtain ⟨x1,hx1⟩:∃ x,l[i]? = some x:=⟨_,Xx (by omega)⟩
  have hx1b:=Wh (h.fact 0 rfl) _ (Vo hx1)
  refine Ql (Qt ?_)
  refine Zk h rfl rfl rfl rfl fun a h=>?_
  refine wpList_nil ?_
  refine Ql ?_
  refine K3 h rfl (by simp; omega) ?_
  refine wp_skip ?_
  refine Ql ?_
  refine wp_block ?_
  refine Ql (Qt ?_)
  refine Qa h rfl rfl fun a h=>?_
  refine Q5 (i) h rfl rfl Jc Y4 (rfl) (by omega) rfl fun a h=>?_
  refine Xc h rfl Sz (X8 (h.fact 0 rfl) hx1) rfl fun a h=>?_
  refine Qd h rfl rfl fun a h=>?_
  refine Qd h rfl rfl fun a h=>?_
  refine wpList_nil ?_
  refine Ql (Qt ?_)
  refine Qd h rfl rfl fun a h=>?_
  refine wpList_nil ?_
  refine Ql (Ql (Qt ?_))
  refine Qa h rfl rfl fun a h=>?_
  refine Zz h rfl Jc rfl fun a h=>?_
  refine Qa h rfl rfl fun a h=>?_
  refine wpList_nil ?_
  refine wp_block ?_
  refine Gc (fun m a w'=>∃ k o' cy,k≤n7∧o'.length=(n2+n7)∧cy<4294967296∧(∀ x∈o',x<4294967296)∧(∀ j,i+n7≤j→j<(n2+n7)→o'[j]? = some 0)∧val o'+cy*4294967296^(i+k)=val (l.take i)*val r+4294967296^i*x1*val (r.take k)∧m=n7-k∧St (fun b=>b<W.heap.size) Ob W w' a 75 [(0,(.slice (some ⟨b1,o1,none⟩) n2 c3)),(1,(.slice A6 n7 c8)),(5,(.slice (some ⟨g11,0,none⟩) (n2+n7) (n2+n7))),(22,(.slice (some ⟨b1,o1,none⟩) n2 c3)),(23,(.int .i64 (n2:Int))),(24,(.int .i64 (i:Int))),(6,(.int .i64 (i:Int))),(7,(.int .u32 (x1:Int))),(8,(.int .u64 ((cy:Nat):Int))),(29,(.slice A6 n7 c8)),(30,(.int .i64 (n7:Int))),(31,(.int .i64 (k:Int)))] [(Rel.row32).fact [(.slice (some ⟨b1,o1,none⟩) n2 c3)] (l),(Rel.row32).fact [(.slice A6 n7 c8)] (r)] [(g11,276,Y1 o')]) (m:=_) (⟨0,o,0,by omega,hp1,by omega,hp2,hp3,by simp [hp4,val],rfl,(((h.consL (t:=0) rfl (h.consL (t:=1) rfl (h.consL (t:=5) rfl (h.consL (t:=22) rfl (h.consL (t:=23) rfl (h.consL (t:=24) rfl (h.consL (t:=6) rfl (h.consL (t:=7) rfl (h.consL (t:=8) rfl (h.consL (t:=29) rfl (h.consL (t:=30) rfl (h.consL (t:=31) rfl h.nilL)))))))))))).noFacts.add (h.fact 1 rfl)).add (h.fact 0 rfl))⟩) ?_
  clear h
  rintro m a w ⟨k,o',cy,hq0,hq1,hq2,hq3,hq4,hq5,hm2,h⟩
  by_cases hlt2:k<n7
  ·obtain ⟨b2,o2,rfl,_,_,_⟩:=Yn (h.fact 1 rfl) (i:=k) (by omega)
   obtain ⟨y1,hy1⟩:∃ y,r[k]? = some y:=⟨_,Xx (by omega)⟩
   have hy1b:=Wh (h.fact 1 rfl) _ (Vo hy1)
   obtain ⟨z1,hz1⟩:∃ z,o'[i+k]? = some z:=⟨_,Xx (by omega)⟩
   have hz1b:=hq3 _ (Vo hz1)
   have hxy:=Su hx1b hy1b
   refine Ql (Qt ?_)
   refine Zk h rfl rfl rfl rfl fun a h=>?_
   refine wpList_nil ?_
   refine Ql ?_
   refine K3 h rfl (by simp; omega) ?_
   refine wp_skip ?_
   refine Ql ?_
   refine wp_block ?_
   refine Ql (Qt ?_)
   refine Qa h rfl rfl fun a h=>?_
   refine Q5 (k) h rfl rfl Jc Y4 (rfl) (by omega) rfl fun a h=>?_
   refine Xc h rfl Sz (X8 (h.fact 1 rfl) hy1) rfl fun a h=>?_
   refine Qd h rfl rfl fun a h=>?_
   refine Qd h rfl rfl fun a h=>?_
   refine wpList_nil ?_
   refine Ql (Qt ?_)
   refine Qa h rfl rfl fun a h=>?_
   refine X9 (p:=x1) h rfl (by omega) Uo Fy rfl fun a h=>?_
   refine Qa h rfl rfl fun a h=>?_
   refine X9 (p:=y1) h rfl (by omega) Uo Fy rfl fun a h=>?_
   refine Qdv (p:=x1) (q:=y1) h rfl rfl (by omega) rfl fun a h=>?_
   refine Qa h rfl rfl fun a h=>?_
   refine Qa h rfl rfl fun a h=>?_
   refine Qa h rfl rfl fun a h=>?_
   refine Z2 h rfl rfl (by omega) rfl fun a h=>?_
   refine Q5 (i+k) h rfl rfl Jc Y4 (by omega) (by omega) rfl fun a h=>?_
   refine Xc h rfl Sz (h.u32s_cell hz1) rfl fun a h=>?_
   refine X9 (p:=z1) h rfl (by omega) Uo Fy rfl fun a h=>?_
   refine Fh (p:=x1*y1) (q:=z1) h rfl rfl (by omega) rfl fun a h=>?_
   refine Qa h rfl rfl fun a h=>?_
   refine Fh (p:=(x1*y1)+z1) (q:=cy) h rfl rfl (by omega) rfl fun a h=>?_
   refine Qd h rfl rfl fun a h=>?_
   refine wpList_nil ?_
   refine Qt ?_
   refine Qa h rfl rfl fun a h=>?_
   refine Qa h rfl rfl fun a h=>?_
   refine Qa h rfl rfl fun a h=>?_
   refine Z2 h rfl rfl (by omega) rfl fun a h=>?_
   refine Qa h rfl rfl fun a h=>?_
   refine Jh (p:=((x1*y1)+z1)+cy) h rfl Fy Uo rfl fun a h=>?_
   refine Qa h rfl rfl fun a h=>?_
   refine V7 (p:=((x1*y1)+z1)+cy) (m:=32) h rfl rfl (by omega) rfl fun a h=>?_
   refine Q5 (i+k) h rfl rfl Jc Y4 (by omega) (by omega) rfl fun a h=>?_
   refine J1 (i:=i+k) h rfl rfl Y4 (by omega) fun w h=>?_
   refine Qd h rfl rfl fun a h=>?_
   refine wpList_nil ?_
   refine Qt ?_
   refine Z2 h rfl rfl (by omega) rfl fun a h=>?_
   refine Qa h rfl rfl fun a h=>?_
   refine wpList_nil ?_
   have hstep:=Qon (s:=((x1*y1)+z1)+cy) (r:=r) (x:=x1) (y:=y1) hz1 hy1 hq5 (by omega)
   rw [show (((x1*y1)+z1)+cy) / 4294967296=(((x1*y1)+z1)+cy) / 2^32 from by rw [show (2:Nat)^32=4294967296 from by decide]] at hstep
   refine ⟨_,?_,k+1,o'.set (i+k) ((((x1*y1)+z1)+cy) % 4294967296),(((x1*y1)+z1)+cy) / 2^32,by omega,by rw [H6]; omega,by omega,Vi hq3 _ _ (by omega),fun j h1 h2=>by rw [qJf (by omega)]; exact hq4 j h1 h2,hstep,rfl,(((h.consL (t:=0) rfl (h.consL (t:=1) rfl (h.consL (t:=5) rfl (h.consL (t:=22) rfl (h.consL (t:=23) rfl (h.consL (t:=24) rfl (h.consL (t:=6) rfl (h.consL (t:=7) rfl (h.consL (t:=8) rfl (h.consL (t:=29) rfl (h.consL (t:=30) rfl (h.consL (t:=31) rfl h.nilL)))))))))))).noFacts.add (h.fact 1 rfl)).add (h.fact 0 rfl))⟩
   omega
  skip
  refine Ql (Qt ?_)
  refine Zk h rfl rfl rfl rfl fun a h=>?_
  refine wpList_nil ?_
  refine Ql ?_
  refine Yp h rfl (by simp; omega) ?_
  refine wp_exit ?_
  repeat refine Xt ?_
  refine Z6 ?_
  refine Ql (Qt ?_)
  refine Qa h rfl rfl fun a h=>?_
  refine Zz h rfl Jc rfl fun a h=>?_
  refine Zk h rfl rfl rfl rfl fun a h=>?_
  refine wpList_nil ?_
  refine Yo h rfl (fun hb_if3=>?_) (fun hb_if3=>?_)
  ·try simp only [decide_eq_true_eq,decide_eq_false_iff_not,Vc,Vb] at hb_if3
   have hkk:k=r.length:=by omega
   subst hkk
   refine Qt ?_
   refine Qa h rfl rfl fun a h=>?_
   refine Qa h rfl rfl fun a h=>?_
   refine Qa h rfl rfl fun a h=>?_
   refine Zz h rfl Jc rfl fun a h=>?_
   refine Z2 h rfl rfl (by omega) rfl fun a h=>?_
   refine Qa h rfl rfl fun a h=>?_
   refine Jh (p:=cy) h rfl Fy Uo rfl fun a h=>?_
   refine Q5 (i+n7) h rfl rfl Jc Y4 (by omega) (by omega) rfl fun a h=>?_
   refine J1 (i:=i+n7) h rfl rfl Y4 (by omega) fun w h=>?_
   refine wpList_nil ?_
   refine Qt ?_
   refine Z2 h rfl rfl (by omega) rfl fun a h=>?_
   refine Qa h rfl rfl fun a h=>?_
   refine wpList_nil ?_
   refine ⟨_,?_,i+1,o'.set (i+n7) (cy % 4294967296),by omega,by rw [H6]; omega,Vi hq3 _ _ (by omega),fun j h1 h2=>by rw [qJf (by omega)]; exact hq4 j (by omega) h2,by rw [er]; exact Qom (by rw [←er]; exact hq4 _ (by omega) (by omega)) hx1 hq2 rfl hq5,rfl,(((h.consL (t:=0) rfl (h.consL (t:=1) rfl (h.consL (t:=5) rfl (h.consL (t:=22) rfl (h.consL (t:=23) rfl (h.consL (t:=24) rfl h.nilL)))))).noFacts.add (h.fact 1 rfl)).add (h.fact 0 rfl))⟩
   omega
  try simp only [decide_eq_true_eq,decide_eq_false_iff_not,Vc,Vb] at hb_if3
  refine wp_skip ?_
  refine Qt ?_
  refine Z2 h rfl rfl (by omega) rfl fun a h=>?_
  refine Qa h rfl rfl fun a h=>?_
  refine wpList_nil ?_
  have hr0:r=[]:=P5 (by omega)
  refine ⟨_,?_,i+1,o',by omega,hq1,hq3,fun j h1 h2=>hq4 j (by omega) h2,by rw [hr0] at hq5 ⊢; simp only [List.take_nil,val,qXz,Vl] at hq5 ⊢; omega,rfl,(((h.consL (t:=0) rfl (h.consL (t:=1) rfl (h.consL (t:=5) rfl (h.consL (t:=22) rfl (h.consL (t:=23) rfl (h.consL (t:=24) rfl h.nilL)))))).noFacts.add (h.fact 1 rfl)).add (h.fact 0 rfl))⟩
  omega
 skip
 refine Ql (Qt ?_)
 refine Zk h rfl rfl rfl rfl fun a h=>?_
 refine wpList_nil ?_
 refine Ql ?_
 refine Yp h rfl (by simp; omega) ?_
 refine wp_exit ?_
 repeat refine Xt ?_
 refine Z6 ?_
 refine Ql (Qt ?_)
 refine Qa h rfl rfl fun a h=>?_
 have hfin:val o=x*y:=by
  rw [Y0 (l:=l) (by omega),hl3,hr3] at hp4; exact hp4
 have hrow:=Yj (r:=o) (n2+n7) h (fun _ _=>rfl) hp2 (by omega) (by omega) (by omega)
 rw [hp1] at hrow
 replace h:=h.publish
 have h:=h.add (f:=Rel.natA.fact [.slice (some ⟨g11,0,none⟩) (n2+n7) (n2+n7)] (x*y)) ⟨_,hrow,hp2,hfin⟩
 refine Q9 h Eg rfl rfl rfl (Jb _ _ (fun b=>h.owns_lt) (h.fact 0 rfl)) rfl fun r w a hg hF h=>?_
 obtain ⟨A12,n13,c14,e16,f15⟩:=hF
 subst e16
 have h:=h.add (f:=(Rel.natN).fact [(.slice A12 n13 c14)] ((x*y))) f15
 refine Qd h rfl rfl fun a h=>?_
 refine wpList_nil ?_
 refine wp_ret ?_
 exact Vp Tryz.results250 h (Zj h rfl) ⟨_,rfl,h.grow0,_,_,_,rfl,h.out 0 rfl⟩
set_option maxHeartbeats 1000000 in
theorem Qoe (hO:∀ b,Ob b→b<W.heap.size) {A:Option Addr} {n c x v:Nat} {l:List Nat} (hx0:Rel.row32.at_ W Ob [.slice A n c] l) (hv:val l=x) (hl:n<274877906944) (hv0:0<v) (hvb:v<4294967296) :
  Calls Tryz.prog 332 #[.slice A n c,.int .u32 (v:Int)] W (Ms W Ob (Qjd (Rel.natN.sliceF (x / v)) (Yg (.int .u32 ((x % v:Nat):Int))))):=by
 obtain ⟨en,_,_⟩:=Jv hx0
 refine enter (vs:=[(.slice A n c),(.int .u32 (v:Int))]) (Ob:=Ob) (K:=fun b=>b<W.heap.size) (Fs:=[(Rel.row32).fact [.slice A n c] (l)]) Tryz.func332 rfl Tryz.ntmps332 rfl (fun _ h=>h) hO (by simp only [Vw,No,or_false,forall_eq_or_imp,forall_eq,false_imp_iff,implies_true]; exact hx0) fun a h=>?_
 refine Ql (Qt ?_)
 refine Qd h rfl rfl fun a h=>?_
 refine Qd h rfl rfl fun a h=>?_
 refine wpList_nil ?_
 refine Ql (Qt ?_)
 refine Qa h rfl rfl fun a h=>?_
 refine Zz h rfl Jc rfl fun a h=>?_
 have h38:(2:Nat)^38=274877906944:=by decide
 have h47:(2:Nat)^47=140737488355328:=by decide
 have h63:(2:Nat)^63=9223372036854775808:=by decide
 refine F8 (m:=n) (zs:=[(.int .u32 0)]) h (rfl) (rfl) Jc qUj rfl Y4 qWl rfl rfl (by omega) rfl fun g1 w a h=>?_
 replace h:=h.respellB (Ws _)
 refine Qd h rfl rfl fun a h=>?_
 refine wpList_nil ?_
 refine Ql (Qt ?_)
 refine Qd h rfl rfl fun a h=>?_
 refine wpList_nil ?_
 refine Ql (Ql (Qt ?_))
 refine Qa h rfl rfl fun a h=>?_
 refine Zz h rfl Jc rfl fun a h=>?_
 refine Vk h rfl rfl (by omega) rfl fun a h=>?_
 refine Qd h rfl rfl fun a h=>?_
 refine wpList_nil ?_
 refine wp_block ?_
 refine Gc (fun m a w'=>∃ k o r,k≤n∧o.length=n∧r<v∧(∀ x∈o,x<4294967296)∧val (l.drop k)=v*val (o.drop k)+r∧m=k∧St (fun b=>b<W.heap.size) Ob W w' a 44 [(0,(.slice A n c)),(1,(.int .u32 (v:Int))),(6,(.slice (some ⟨g1,0,none⟩) n n)),(7,(.int .u64 ((r:Nat):Int))),(8,(.int .i64 ((k:Int)-1)))] [(Rel.row32).fact [.slice A n c] (l)] [(g1,276,Y1 o)]) (m:=_) (⟨n,List.replicate n 0,0,by omega,by simp,by omega,by simp,by rw [Ll (by omega),Ll (by simp)]; simp [val],rfl,((h.consL (t:=0) rfl (h.consL (t:=1) rfl (h.consL (t:=6) rfl (h.consL (t:=7) rfl (h.consL (t:=8) rfl h.nilL))))).noFacts.add (h.fact 0 rfl))⟩) ?_
 clear h
 rintro m a w ⟨k,o,r,hp0,hp1,hp2,hp3,hp4,hm,h⟩
 by_cases h0:0<k
 ·obtain ⟨k,rfl⟩:∃ j,k=j+1:=⟨k-1,by omega⟩
  obtain ⟨b1,o1,rfl,_,_,_⟩:=Yn (h.fact 0 rfl) (i:=k) (by omega)
  obtain ⟨x1,hx1⟩:∃ x,l[k]? = some x:=⟨_,Xx (by omega)⟩
  have hx1b:=Wh (h.fact 0 rfl) _ (Vo hx1)
  replace h:=((h.consL (t:=0) rfl (h.consL (t:=1) rfl (h.consL (t:=6) rfl (h.consL (t:=7) rfl ((h.consL (t:=8) rfl h.nilL).respell (show Value.int .i64 _=.int .i64 (k:Int) by congr 1; omega)))))))
  refine Ql (Ql (Qt ?_))
  refine Qa h rfl rfl fun a h=>?_
  refine Zk h rfl rfl rfl rfl fun a h=>?_
  refine wpList_nil ?_
  refine K3 h rfl (by simp) ?_
  refine wp_skip ?_
  refine Ql ?_
  refine wp_block ?_
  refine Ql (Qt ?_)
  refine Qa h rfl rfl fun a h=>?_
  refine Cc (p:=r) (m:=32) h rfl rfl (by omega) (by omega) rfl fun a h=>?_
  refine Qa h rfl rfl fun a h=>?_
  refine Qa h rfl rfl fun a h=>?_
  refine Q5 (k) h rfl rfl Jc Y4 (rfl) (by omega) rfl fun a h=>?_
  refine Xc h rfl Sz (X8 (h.fact 0 rfl) hx1) rfl fun a h=>?_
  refine X9 (p:=x1) h rfl (by omega) Uo Fy rfl fun a h=>?_
  refine Qi6 (k':=r) (p:=(r)*2^32) (q:=x1) h rfl rfl (by omega) (by omega) (by omega) rfl fun a h=>?_
  refine Qd h rfl rfl fun a h=>?_
  refine wpList_nil ?_
  refine Qao Qp 13 [some 28,some 29,some 30,some 31,some 32,some 33,some 34,some 35,some 36,some 37,some 38,some 39,none] [[],[],[],[],[3],[2,4],[5],[],[],[8],[7,9],[0,1],[6,11]] [(Yg (.slice (some ⟨g1,0,none⟩) n n)),(Yg (.int .i64 (k:Int))),(Yg (.int .u64 ((((r)*2^32)+x1:Nat):Int))),(Yg (.int .u32 (v:Int))),(Yg (.int .u64 ((v:Nat):Int))),(Yg (.int .u64 (((((r)*2^32)+x1) / v:Nat):Int))),(Yg (.int .u32 ((((((r)*2^32)+x1) / v) % 4294967296:Nat):Int))),(Yg (.int .u64 ((((r)*2^32)+x1:Nat):Int))),(Yg (.int .u32 (v:Int))),(Yg (.int .u64 ((v:Nat):Int))),(Yg (.int .u64 (((((r)*2^32)+x1) % v:Nat):Int))),(Yg (.pointer (some ⟨g1,(0+(k)*1),none⟩))),U2] (fun p _=>[(g1,276,Y1 (cond (p 12) (o.set k (((r*2^32)+x1) / v % 4294967296)) o))]) rfl h (fun _=>rfl) rfl ⟨?_,?_,?_,?_,?_,?_,?_,?_,?_,?_,?_,?_,?_,trivial⟩ ?_
  ·intro dp hdp0 hdp dv Fx a w h
   refine Qa h rfl rfl fun a h=>?_
   refine wpList_nil ⟨rfl,?_⟩
   exact ⟨_,h.drawEnd (F':=[]) rfl rfl⟩
  ·intro dp hdp0 hdp dv Fx a w h
   refine Qa h rfl rfl fun a h=>?_
   refine wpList_nil ⟨rfl,?_⟩
   exact ⟨_,h.drawEnd (F':=[]) rfl rfl⟩
  ·intro dp hdp0 hdp dv Fx a w h
   refine Qa h rfl rfl fun a h=>?_
   refine wpList_nil ⟨rfl,?_⟩
   exact ⟨_,h.drawEnd (F':=[]) rfl rfl⟩
  ·intro dp hdp0 hdp dv Fx a w h
   refine Qa h rfl rfl fun a h=>?_
   refine wpList_nil ⟨rfl,?_⟩
   exact ⟨_,h.drawEnd (F':=[]) rfl rfl⟩
  ·intro dp hdp0 hdp dv Fx a w h
   have e2:dv 3=(.int .u32 (v:Int)):=h.fact 0 rfl
   replace h:=(h.spellE (t:=31) e2 rfl h)
   refine X9 (p:=v) h rfl (by omega) Uo Fy rfl fun a h=>?_
   refine wpList_nil ⟨rfl,?_⟩
   exact ⟨_,h.drawEnd (F':=[_]) rfl rfl⟩
  ·intro dp hdp0 hdp dv Fx a w h
   have e3:dv 2=(.int .u64 ((((r)*2^32)+x1:Nat):Int)):=h.fact 0 rfl
   have e4:dv 4=(.int .u64 ((v:Nat):Int)):=h.fact 1 rfl
   replace h:=(h.spellE (t:=32) e4 rfl (h.spellE (t:=30) e3 rfl h))
   refine Qkx (p:=((r)*2^32)+x1) (q:=v) h rfl rfl (by omega) (by omega) rfl fun a h=>?_
   refine wpList_nil ⟨rfl,?_⟩
   exact ⟨_,h.drawEnd (F':=[_,_]) rfl rfl⟩
  ·intro dp hdp0 hdp dv Fx a w h
   have e5:dv 5=(.int .u64 (((((r)*2^32)+x1) / v:Nat):Int)):=h.fact 0 rfl
   replace h:=(h.spellE (t:=33) e5 rfl h)
   refine Jh (p:=(((r)*2^32)+x1) / v) h rfl Fy Uo rfl fun a h=>?_
   refine wpList_nil ⟨rfl,?_⟩
   exact ⟨_,h.drawEnd (F':=[_]) rfl rfl⟩
  ·intro dp hdp0 hdp dv Fx a w h
   refine Qa h rfl rfl fun a h=>?_
   refine wpList_nil ⟨rfl,?_⟩
   exact ⟨_,h.drawEnd (F':=[]) rfl rfl⟩
  ·intro dp hdp0 hdp dv Fx a w h
   refine Qa h rfl rfl fun a h=>?_
   refine wpList_nil ⟨rfl,?_⟩
   exact ⟨_,h.drawEnd (F':=[]) rfl rfl⟩
  ·intro dp hdp0 hdp dv Fx a w h
   have e6:dv 8=(.int .u32 (v:Int)):=h.fact 0 rfl
   replace h:=(h.spellE (t:=36) e6 rfl h)
   refine X9 (p:=v) h rfl (by omega) Uo Fy rfl fun a h=>?_
   refine wpList_nil ⟨rfl,?_⟩
   exact ⟨_,h.drawEnd (F':=[_]) rfl rfl⟩
  ·intro dp hdp0 hdp dv Fx a w h
   have e7:dv 7=(.int .u64 ((((r)*2^32)+x1:Nat):Int)):=h.fact 0 rfl
   have e8:dv 9=(.int .u64 ((v:Nat):Int)):=h.fact 1 rfl
   replace h:=(h.spellE (t:=37) e8 rfl (h.spellE (t:=35) e7 rfl h))
   refine Qky (p:=((r)*2^32)+x1) (q:=v) h rfl rfl (by omega) rfl fun a h=>?_
   refine wpList_nil ⟨rfl,?_⟩
   exact ⟨_,h.drawEnd (F':=[_,_]) rfl rfl⟩
  ·intro dp hdp0 hdp dv Fx a w h
   have e9:dv 0=(.slice (some ⟨g1,0,none⟩) n n):=h.fact 0 rfl
   have e10:dv 1=(.int .i64 (k:Int)):=h.fact 1 rfl
   replace h:=(h.spellE (t:=29) e10 rfl (h.spellE (t:=28) e9 rfl h))
   refine Q5 (k) h rfl rfl Jc Y4 (rfl) (by omega) rfl fun a h=>?_
   refine wpList_nil ⟨rfl,?_⟩
   exact ⟨_,h.drawEnd (F':=[_,_]) rfl rfl⟩
  ·intro dp hdp0 hdp dv Fx a w h
   simp only [hdp0,cond_false] at h
   have e11:dv 6=(.int .u32 ((((((r)*2^32)+x1) / v) % 4294967296:Nat):Int)):=h.fact 0 rfl
   have e12:dv 11=(.pointer (some ⟨g1,(0+(k)*1),none⟩)):=h.fact 1 rfl
   replace h:=(h.spellE (t:=39) e12 rfl (h.spellE (t:=34) e11 rfl h))
   refine J1 (i:=k) h rfl rfl Y4 (by omega) fun w h=>?_
   refine wpList_nil ⟨rfl,?_⟩
   exact ⟨undef,h.drawEnd0 (F':=[_,_]) trivial⟩
  intro dp hdp dv a w h
  have hdp12:=hdp 12 (by omega)
  try simp only [hdp12,cond_true] at h
  have e13:dv 10=(.int .u64 (((((r)*2^32)+x1) % v:Nat):Int)):=h.fact 10 rfl
  have h2:=(h.spellE (t:=38) e13 rfl (h.consL (t:=9) rfl (h.consL (t:=17) rfl (h.consL (t:=8) rfl (h.consL (t:=7) rfl (h.consL (t:=6) rfl (h.consL (t:=1) rfl (h.consL (t:=0) rfl h.nilL))))))))
  have h3:=h2.noFacts
  have h3:=h3.add (h2.fact 13 rfl)
  clear h2
  replace h:=h3
  clear h3
  refine Qd h rfl rfl fun a h=>?_
  refine wpList_nil ?_
  refine Qt ?_
  refine Qa h rfl rfl fun a h=>?_
  refine Vk h rfl rfl (by omega) rfl fun a h=>?_
  refine Qd h rfl rfl fun a h=>?_
  refine wpList_nil ?_
  have hstep:=Qop (s:=(r*2^32)+x1) (o:=o) hx1 hx1b (by omega) (by omega) hp2 hp4 (by omega)
  refine ⟨_,?_,k,o.set k ((((r*2^32)+x1) / v) % 4294967296),((r*2^32)+x1) % v,by omega,by rw [H6]; omega,hstep.2.1,Vi hp3 _ _ (by omega),hstep.2.2,rfl,((h.consL (t:=0) rfl (h.consL (t:=1) rfl (h.consL (t:=6) rfl (h.consL (t:=7) rfl ((h.consL (t:=8) rfl h.nilL).respell (by congr 1)))))).noFacts.add (h.fact 0 rfl))⟩
  omega
 skip
 refine Ql (Ql (Qt ?_))
 refine Qa h rfl rfl fun a h=>?_
 refine Zk h rfl rfl rfl rfl fun a h=>?_
 refine wpList_nil ?_
 refine Yp h rfl (by simp; omega) ?_
 refine wp_exit ?_
 repeat refine Xt ?_
 refine Z6 ?_
 refine Ql (Qt ?_)
 refine Qa h rfl rfl fun a h=>?_
 have hk0:k=0:=by omega
 subst hk0
 rw [qXf,qXf,hv] at hp4
 have hq:val o=x / v:=by rw [hp4,Nat.mul_add_div (by omega),Nat.div_eq_of_lt hp2,Mp]
 have hr:r=x % v:=by rw [hp4,Nat.mul_add_mod,qJg hp2]
 have hrb:((r % 4294967296:Nat):Int)=((x % v:Nat):Int):=by rw [qJg (by omega),hr]
 have hrow:=Yj (r:=o) n h (fun _ _=>rfl) hp3 (by omega) (by omega) (by omega)
 rw [hp1] at hrow
 replace h:=h.publish
 have h:=h.add (f:=Rel.natA.fact [.slice (some ⟨g1,0,none⟩) n n] (x / v)) ⟨_,hrow,hp3,hq⟩
 refine Q9 h Eg rfl rfl rfl (Jb _ _ (fun b=>h.owns_lt) (h.fact 0 rfl)) rfl fun r w a hg hF h=>?_
 obtain ⟨A14,n15,c16,e18,f17⟩:=hF
 subst e18
 have h:=h.add (f:=(Rel.natN).fact [(.slice A14 n15 c16)] ((x / v))) f17
 refine Qa h rfl rfl fun a h=>?_
 refine Jh (p:=r) h rfl Fy Uo rfl fun a h=>?_
 refine Qd h rfl rfl fun a h=>?_
 refine Qd h rfl rfl fun a h=>?_
 refine wpList_nil ?_
 refine wp_ret ?_
 exact Qsm Tryz.results332 h (Zj h rfl) (Zj h rfl) ⟨_,rfl,h.grow0,_,_,rfl,⟨_,_,_,rfl,h.out 0 rfl⟩,congrArg (Value.int .u32) hrb⟩
end Orr

namespace Orr
open Go Go.Proofs
variable (Ob:Nat→Prop) (W:World)
set_option maxHeartbeats 1000000 in
theorem E1 (hO:∀ b,Ob b→b<W.heap.size) {x:Nat} (hs:x<4294967296) :
  Calls Tryz.prog 329 #[.int .u32 (x:Int)] W (Ms W Ob (Yg (.int .i64 ((sz x:Nat):Int)))):=by
 refine enter (vs:=[(.int .u32 (x:Int))]) (Ob:=Ob) (K:=fun b=>b<W.heap.size) (Fs:=[]) Tryz.func329 rfl Tryz.ntmps329 rfl (fun _ h=>h) hO (fun f hf=>by cases hf) fun a h=>?_
 refine Ql (Qt ?_)
 refine Qd h rfl rfl fun a h=>?_
 refine wpList_nil ?_
 refine Ql (Ql (Qt ?_))
 refine Qa h rfl rfl fun a h=>?_
 refine Zk h rfl rfl rfl rfl fun a h=>?_
 refine wpList_nil ?_
 refine Yo h rfl (fun hb_if1=>?_) (fun hb_if1=>?_)
 ·try simp only [decide_eq_true_eq,decide_eq_false_iff_not,Vc,Vb] at hb_if1
  refine Ql (Qt ?_)
  refine Qa h rfl rfl fun a h=>?_
  refine Qdy (p:=x) (m:=16) h rfl rfl (by decide) rfl fun a h=>?_
  refine Qd h rfl rfl fun a h=>?_
  refine wpList_nil ?_
  refine Qt ?_
  refine Qd h rfl rfl fun a h=>?_
  refine wpList_nil ?_
  refine Ql (Ql (Qt ?_))
  refine Qa h rfl rfl fun a h=>?_
  refine Zk h rfl rfl rfl rfl fun a h=>?_
  refine wpList_nil ?_
  refine Yo h rfl (fun hb_if2=>?_) (fun hb_if2=>?_)
  ·try simp only [decide_eq_true_eq,decide_eq_false_iff_not,Vc,Vb] at hb_if2
   refine Ql (Qt ?_)
   refine Qa h rfl rfl fun a h=>?_
   refine Qdy (p:=(x) / 2^16) (m:=8) h rfl rfl (by decide) rfl fun a h=>?_
   refine Qd h rfl rfl fun a h=>?_
   refine wpList_nil ?_
   refine Qt ?_
   refine Qa h rfl rfl fun a h=>?_
   refine Z2 h rfl rfl (by omega) rfl fun a h=>?_
   refine Qd h rfl rfl fun a h=>?_
   refine wpList_nil ?_
   refine Ql (Qt ?_)
   refine Qa h rfl rfl fun a h=>?_
   refine Qa h rfl rfl fun a h=>?_
   refine Qd0 (p:=((x) / 2^16) / 2^8) h rfl (by omega) Uo qUr rfl fun a h=>?_
   have hyb:((x) / 2^16) / 2^8<256:=by omega
   have hszy:sz (((x) / 2^16) / 2^8)≤8:=Ks.2 (by omega)
   refine Ek (i:=((x) / 2^16) / 2^8) (v:=sz (((x) / 2^16) / 2^8)) h rfl rfl qGk (by revert hyb; generalize ((x) / 2^16) / 2^8=i; revert i; set_option maxRecDepth 100000 in decide) rfl fun a h=>?_
   refine Cd (p:=sz (((x) / 2^16) / 2^8)) h rfl (by omega) qUr qWj rfl fun a h=>?_
   refine Z2 h rfl rfl (by omega) rfl fun a h=>?_
   refine Qd h rfl rfl fun a h=>?_
   refine wpList_nil ?_
   refine wp_ret ?_
   have e2:(2:Nat)^16=65536:=by decide
   have e3:(2:Nat)^8=256:=by decide
   have q1 := @Kc x 16
   have q2 := @Kc x 8
   have q3 := @Kc (x / 2^16) 8
   exact Vp Tryz.results329 h (Zj h rfl) ⟨_,rfl,h.grow0,congrArg _ (by omega)⟩
  try simp only [decide_eq_true_eq,decide_eq_false_iff_not,Vc,Vb] at hb_if2
  refine wp_skip ?_
  refine Ql (Qt ?_)
  refine Qa h rfl rfl fun a h=>?_
  refine Qa h rfl rfl fun a h=>?_
  refine Qd0 (p:=(x) / 2^16) h rfl (by omega) Uo qUr rfl fun a h=>?_
  have hyb:(x) / 2^16<256:=by omega
  have hszy:sz ((x) / 2^16)≤8:=Ks.2 (by omega)
  refine Ek (i:=(x) / 2^16) (v:=sz ((x) / 2^16)) h rfl rfl qGk (by revert hyb; generalize (x) / 2^16=i; revert i; set_option maxRecDepth 100000 in decide) rfl fun a h=>?_
  refine Cd (p:=sz ((x) / 2^16)) h rfl (by omega) qUr qWj rfl fun a h=>?_
  refine Z2 h rfl rfl (by omega) rfl fun a h=>?_
  refine Qd h rfl rfl fun a h=>?_
  refine wpList_nil ?_
  refine wp_ret ?_
  have e2:(2:Nat)^16=65536:=by decide
  have e3:(2:Nat)^8=256:=by decide
  have q1 := @Kc x 16
  have q2 := @Kc x 8
  have q3 := @Kc (x / 2^16) 8
  exact Vp Tryz.results329 h (Zj h rfl) ⟨_,rfl,h.grow0,congrArg _ (by omega)⟩
 try simp only [decide_eq_true_eq,decide_eq_false_iff_not,Vc,Vb] at hb_if1
 refine wp_skip ?_
 refine Ql (Ql (Qt ?_))
 refine Qa h rfl rfl fun a h=>?_
 refine Zk h rfl rfl rfl rfl fun a h=>?_
 refine wpList_nil ?_
 refine Yo h rfl (fun hb_if2=>?_) (fun hb_if2=>?_)
 ·try simp only [decide_eq_true_eq,decide_eq_false_iff_not,Vc,Vb] at hb_if2
  refine Ql (Qt ?_)
  refine Qa h rfl rfl fun a h=>?_
  refine Qdy (p:=x) (m:=8) h rfl rfl (by decide) rfl fun a h=>?_
  refine Qd h rfl rfl fun a h=>?_
  refine wpList_nil ?_
  refine Qt ?_
  refine Qa h rfl rfl fun a h=>?_
  refine Z2 h rfl rfl (by omega) rfl fun a h=>?_
  refine Qd h rfl rfl fun a h=>?_
  refine wpList_nil ?_
  refine Ql (Qt ?_)
  refine Qa h rfl rfl fun a h=>?_
  refine Qa h rfl rfl fun a h=>?_
  refine Qd0 (p:=(x) / 2^8) h rfl (by omega) Uo qUr rfl fun a h=>?_
  have hyb:(x) / 2^8<256:=by omega
  have hszy:sz ((x) / 2^8)≤8:=Ks.2 (by omega)
  refine Ek (i:=(x) / 2^8) (v:=sz ((x) / 2^8)) h rfl rfl qGk (by revert hyb; generalize (x) / 2^8=i; revert i; set_option maxRecDepth 100000 in decide) rfl fun a h=>?_
  refine Cd (p:=sz ((x) / 2^8)) h rfl (by omega) qUr qWj rfl fun a h=>?_
  refine Z2 h rfl rfl (by omega) rfl fun a h=>?_
  refine Qd h rfl rfl fun a h=>?_
  refine wpList_nil ?_
  refine wp_ret ?_
  have e2:(2:Nat)^16=65536:=by decide
  have e3:(2:Nat)^8=256:=by decide
  have q1 := @Kc x 16
  have q2 := @Kc x 8
  have q3 := @Kc (x / 2^16) 8
  exact Vp Tryz.results329 h (Zj h rfl) ⟨_,rfl,h.grow0,congrArg _ (by omega)⟩
 try simp only [decide_eq_true_eq,decide_eq_false_iff_not,Vc,Vb] at hb_if2
 refine wp_skip ?_
 refine Ql (Qt ?_)
 refine Qa h rfl rfl fun a h=>?_
 refine Qa h rfl rfl fun a h=>?_
 refine Qd0 (p:=x) h rfl (by omega) Uo qUr rfl fun a h=>?_
 have hyb:x<256:=by omega
 have hszy:sz (x)≤8:=Ks.2 (by omega)
 refine Ek (i:=x) (v:=sz (x)) h rfl rfl qGk (by revert hyb; generalize x=i; revert i; set_option maxRecDepth 100000 in decide) rfl fun a h=>?_
 refine Cd (p:=sz (x)) h rfl (by omega) qUr qWj rfl fun a h=>?_
 refine Z2 h rfl rfl (by omega) rfl fun a h=>?_
 refine Qd h rfl rfl fun a h=>?_
 refine wpList_nil ?_
 refine wp_ret ?_
 have e2:(2:Nat)^16=65536:=by decide
 have e3:(2:Nat)^8=256:=by decide
 have q1 := @Kc x 16
 have q2 := @Kc x 8
 have q3 := @Kc (x / 2^16) 8
 exact Vp Tryz.results329 h (Zj h rfl) ⟨_,rfl,h.grow0,congrArg _ (by omega)⟩
set_option maxHeartbeats 1000000 in
theorem Qlz (hO:∀ b,Ob b→b<W.heap.size) {A:Option Addr} {n c x:Nat} (hx0:Rel.natA.at_ W Ob [.slice A n c] x) (hs:sz x≤4294967296) :
  Calls Tryz.prog 305 #[.slice A n c] W (Ms W Ob (Yg (.int .i64 ((sz x:Nat):Int)))):=by
 refine enter (vs:=[(.slice A n c)]) (Ob:=Ob) (K:=fun b=>b<W.heap.size) (Fs:=[(Rel.natA).fact [.slice A n c] (x)]) Tryz.func305 rfl Tryz.ntmps305 rfl (fun _ h=>h) hO (by simp only [Vw,No,or_false,forall_eq_or_imp,forall_eq,false_imp_iff,implies_true]; exact hx0) fun a h=>?_
 refine Ql (Qt ?_)
 refine Qd h rfl rfl fun a h=>?_
 refine wpList_nil ?_
 refine Ql (Qt ?_)
 refine Qa h rfl rfl fun a h=>?_
 refine Q9 h Eg rfl rfl rfl (Jb _ _ (fun b=>h.owns_lt) (h.fact 0 rfl)) rfl fun r w a hg hF h=>?_
 obtain ⟨A1,n2,c3,e5,f4⟩:=hF
 subst e5
 have h:=h.add (f:=(Rel.natN).fact [(.slice A1 n2 c3)] (x)) f4
 refine Qd h rfl rfl fun a h=>?_
 refine wpList_nil ?_
 refine Ql (Ql (Qt ?_))
 refine Qa h rfl rfl fun a h=>?_
 refine Zz h rfl Jc rfl fun a h=>?_
 obtain ⟨l,h1,h2,h3⟩:=h.fact 0 rfl
 have h:=h.add (f:=Rel.row32.fact [(.slice A1 n2 c3)] l) h1
 obtain ⟨en,_,_⟩:=Jv h1
 have hlen:=K9 h2
 rw [h3] at hlen
 have h38:(2:Nat)^38=274877906944:=by decide
 refine Zk h rfl rfl rfl rfl fun a h=>?_
 refine wpList_nil ?_
 refine Yo h rfl (fun hb_if1=>?_) (fun hb_if1=>?_)
 ·try simp only [decide_eq_true_eq,decide_eq_false_iff_not,Vc,Vb] at hb_if1
  refine Ql (Qt ?_)
  refine Qd h rfl rfl fun a h=>?_
  refine wpList_nil ?_
  refine wp_ret ?_
  exact Vp Tryz.results305 h (Zj h rfl) ⟨_,rfl,h.grow0,congrArg _ (by rw [show x=0 from h3 ▸ (Fe h2).2 (P5 (by omega))]; rfl)⟩
 try simp only [decide_eq_true_eq,decide_eq_false_iff_not,Vc,Vb] at hb_if1
 refine wp_skip ?_
 refine Ql (Qt ?_)
 refine Qa h rfl rfl fun a h=>?_
 refine Zz h rfl Jc rfl fun a h=>?_
 have hn0:0<n2:=by omega
 obtain ⟨b1,o1,rfl,_,_,_⟩:=Yn (h.fact 0 rfl) (i:=n2-1) (by omega)
 obtain ⟨y,hy⟩:∃ y,l[n2-1]? = some y:=⟨_,Xx (by omega)⟩
 have hyb:=Wh (h.fact 0 rfl) _ (Vo hy)
 have hsy:sz y≤32:=Ks.2 (by omega)
 refine Vk h rfl rfl (by omega) rfl fun a h=>?_
 refine Qs5 h rfl rfl (by omega) rfl fun a h=>?_
 refine Qa h rfl rfl fun a h=>?_
 refine Qa h rfl rfl fun a h=>?_
 refine Zz h rfl Jc rfl fun a h=>?_
 refine Vk h rfl rfl (by omega) rfl fun a h=>?_
 refine Q5 (n2-1) h rfl rfl Jc Y4 (by omega) (by omega) rfl fun a h=>?_
 refine Xc h rfl Sz (X8 (h.fact 0 rfl) hy) rfl fun a h=>?_
 refine Q9 h Tryz.func329 rfl rfl rfl (E1 _ _ (fun b=>h.owns_lt) (by omega)) rfl fun r w a hg hF h=>?_
 obtain rfl:=hF
 refine Z2 h rfl rfl (by omega) rfl fun a h=>?_
 refine Qd h rfl rfl fun a h=>?_
 refine wpList_nil ?_
 refine wp_ret ?_
 have hz:=Qja h2 (y:=y) (by rw [←en]; exact hy)
 rw [h3] at hz
 exact Vp Tryz.results305 h (Zj h rfl) ⟨_,rfl,h.grow0,congrArg _ (by omega)⟩
end Orr

namespace Orr
open Go Go.Proofs
variable (Ob:Nat→Prop) (W:World)
theorem Sr (hO:∀ b,Ob b→b<W.heap.size) {A:Option Addr} {n c x:Nat} {A':Option Addr} {n' c' y:Nat} (hx0:Rel.natA.at_ W Ob [.slice A n c] x) (hx1:Rel.natA.at_ W Ob [.slice A' n' c'] y) (hsx:sz x≤4294967296) (hle:y≤x) :
  Calls Tryz.prog 321 #[.slice A n c,.slice A' n' c'] W (Ms W Ob (Qjd (Rel.natN.sliceF (x-y)) (Yg (.bool true)))):=by
 have:=Qfq Ob W hO hx0 hx1 hsx
 rwa [if_pos hle] at this
theorem Qfr (hO:∀ b,Ob b→b<W.heap.size) {A:Option Addr} {n c x:Nat} {A':Option Addr} {n' c' y:Nat} (hx0:Rel.natA.at_ W Ob [.slice A n c] x) (hx1:Rel.natA.at_ W Ob [.slice A' n' c'] y) (hsx:sz x≤4294967296) (hle:x<y) :
  Calls Tryz.prog 321 #[.slice A n c,.slice A' n' c'] W (Ms W Ob (Qjd (Yg (.slice none 0 0)) (Yg (.bool false)))):=by
 have:=Qfq Ob W hO hx0 hx1 hsx
 rwa [if_neg (by omega)] at this
set_option maxHeartbeats 1000000 in
theorem X3 (hO:∀ b,Ob b→b<W.heap.size) {A:Option Addr} {n c x:Nat} {b:Bool} (hx0:Rel.natN.at_ W Ob [.slice A n c] x) :
  Calls Tryz.prog 249 #[.slice A n c,.bool b] W (Ms W Ob (Rel.intN.aggF (Q4 b x))):=by
 have hn:=(Sv hx0).1
 refine enter (vs:=[(.slice A n c),(.bool b)]) (Ob:=Ob) (K:=fun b=>b<W.heap.size) (Fs:=[(Rel.natN).fact [(.slice A n c)] (x)]) qWt rfl Tryz.ntmps249 rfl (fun _ h=>h) hO (by simp only [Vw,No,or_false,forall_eq_or_imp,forall_eq,false_imp_iff,implies_true]; exact hx0) fun a h=>?_
 rcases b with _ | _
 ·skip
  refine Ql (Qt ?_)
  refine Jl h Ko rfl fun g1 w a h=>?_
  refine wpList_nil ?_
  refine Ql (Qt ?_)
  refine Qa h rfl rfl fun a h=>?_
  refine Qa h rfl rfl fun a h=>?_
  refine Zv h rfl rfl (rfl) rfl fun a h=>?_
  refine Zv h rfl rfl (rfl) rfl fun a h=>?_
  refine Zv h rfl rfl (rfl) rfl fun a h=>?_
  refine Rt h rfl (rfl) rfl rfl fun a h=>?_
  refine Qa h rfl rfl fun a h=>?_
  refine Od h rfl (Qte rfl) rfl fun a h=>?_
  refine Z3 h 0 rfl rfl rfl Yf rfl rfl rfl rfl fun w h=>?_
  refine wpList_nil ?_
  refine wp_ret ?_
  have h:=h.add (f:=(Rel.intN).fact [(.bool false),(.slice A n c)] (Q4 false x)) (Qjx (by rw [H5]; exact h.fact 0 rfl) (by rw [M9]; simp; try omega))
  exact Vp Tryz.results249 h (Ju h 0 rfl rfl H9 Yf rfl) ⟨_,rfl,h.grow0,_,rfl,h.out 0 rfl⟩
 skip
 refine Ql (Qt ?_)
 refine Jl h Ko rfl fun g2 w a h=>?_
 refine wpList_nil ?_
 refine Ql (Qt ?_)
 refine Qa h rfl rfl fun a h=>?_
 refine Qa h rfl rfl fun a h=>?_
 refine Zx h rfl rfl (rfl) ?_
 refine Qa h rfl rfl fun a h=>?_
 refine Zx h rfl rfl (rfl) ?_
 refine Zz h rfl Jc rfl fun a h=>?_
 refine Zx h rfl rfl (rfl) ?_
 refine Zk h rfl rfl rfl rfl fun a h=>?_
 refine Hg h rfl (rfl) rfl rfl fun a h=>?_
 refine Qa h rfl rfl fun a h=>?_
 refine Od h rfl (Qte rfl) rfl fun a h=>?_
 refine Z3 h 0 rfl rfl rfl Yf rfl rfl rfl rfl fun w h=>?_
 refine wpList_nil ?_
 refine wp_ret ?_
 have h:=h.add (f:=(Rel.intN).fact [(.bool (decide (0<(n:Int)))),(.slice A n c)] (Q4 true x)) (Qjx (by rw [H5]; exact h.fact 0 rfl) (by rw [M9]; simp; try omega))
 exact Vp Tryz.results249 h (Ju h 0 rfl rfl H9 Yf rfl) ⟨_,rfl,h.grow0,_,rfl,h.out 0 rfl⟩
set_option maxHeartbeats 1000000 in
theorem Qjf (hO:∀ b,Ob b→b<W.heap.size) {b0:Bool} {A0:Option Addr} {n0 c0:Nat} {z0:Int} (hx0:Rel.intA.at_ W Ob [.bool b0,.slice A0 n0 c0] z0) (hs0:Xj z0≤4294967295) :
  Calls Tryz.prog 251 #[.agg #[.bool b0,.slice A0 n0 c0]] W (Ms W Ob (Rel.intN.aggF z0)):=by
 obtain ⟨hx1,hz0⟩:=Yb hx0
 have hs0':sz z0.natAbs≤4294967295:=hs0
 refine enter (vs:=[(.agg #[(.bool b0),(.slice A0 n0 c0)])]) (Ob:=Ob) (K:=fun b=>b<W.heap.size) (Fs:=[(Rel.intA).fact [(.bool b0),(.slice A0 n0 c0)] (z0),(Rel.natA).fact [(.slice A0 n0 c0)] (z0.natAbs)]) qUl rfl Tryz.ntmps251 rfl (fun _ h=>h) hO (by simp only [Vw,No,or_false,forall_eq_or_imp,forall_eq,false_imp_iff,implies_true]; exact ⟨hx0,hx1⟩) fun a h=>?_
 refine Ql (Qt ?_)
 refine V2 h rfl rfl fun g1 w a h=>?_
 refine Jl h Ko rfl fun g2 w a h=>?_
 refine wpList_nil ?_
 refine Ql ?_
 refine Gf Qp 5 [some 3,some 4,some 5,some 6,some 7] [[],[0],[1],[],[3]] [(Yg (.pointer (some ⟨g1,1,none⟩))),(Yg (.slice A0 n0 c0)),(Rel.natN.sliceF (z0.natAbs)),(Yg (.pointer (some ⟨g1,0,none⟩))),(Yg (.bool b0))] rfl h rfl ⟨?_,?_,?_,?_,?_,trivial⟩ ?_
 ·intro dp hdp0 hdp dv Fx a w h
  refine Qu h rfl (Ja) rfl fun a h=>?_
  refine wpList_nil ⟨rfl,?_⟩
  exact ⟨_,h.drawEnd (F':=[]) rfl rfl⟩
 ·intro dp hdp0 hdp dv Fx a w h
  have e8:dv 0=(.pointer (some ⟨g1,1,none⟩)):=h.fact 0 rfl
  replace h:=(h.spellE (t:=3) e8 rfl h)
  refine Zh h 1 rfl rfl Nn rfl rfl fun a h=>?_
  refine wpList_nil ⟨rfl,?_⟩
  exact ⟨_,h.drawEnd (F':=[_]) rfl rfl⟩
 ·intro dp hdp0 hdp dv Fx a w h
  have e9:dv 1=(.slice A0 n0 c0):=h.fact 0 rfl
  replace h:=(h.spellE (t:=4) e9 rfl h)
  refine Q9 h qFp rfl rfl rfl (Fr _ _ (fun b=>h.owns_lt) (h.fact 2 rfl) (by omega)) rfl fun r w a hg hF h=>?_
  obtain ⟨A10,n11,c12,e14,f13⟩:=hF
  subst e14
  have h:=h.add (f:=(Rel.natN).fact [(.slice A10 n11 c12)] (z0.natAbs)) f13
  refine wpList_nil ⟨rfl,?_⟩
  exact ⟨_,h.drawEnd (F':=[_,_]) rfl ⟨_,_,_,rfl,h.fact 0 rfl⟩⟩
 ·intro dp hdp0 hdp dv Fx a w h
  refine Qu h rfl (Jn) rfl fun a h=>?_
  refine wpList_nil ⟨rfl,?_⟩
  exact ⟨_,h.drawEnd (F':=[]) rfl rfl⟩
 ·intro dp hdp0 hdp dv Fx a w h
  have e15:dv 3=(.pointer (some ⟨g1,0,none⟩)):=h.fact 0 rfl
  replace h:=(h.spellE (t:=6) e15 rfl h)
  refine Zh h 1 rfl rfl Mn rfl rfl fun a h=>?_
  refine wpList_nil ⟨rfl,?_⟩
  exact ⟨_,h.drawEnd (F':=[_]) rfl rfl⟩
 intro dv a w h
 obtain ⟨A16,n17,c18,e20,f19⟩:=(h.fact 2 rfl)
 have e21:dv 4=(.bool b0):=h.fact 4 rfl
 have h2:=(h.spellE (t:=7) e21 rfl (h.spellE (t:=5) e20 rfl (h.consL (t:=2) rfl (h.consL (t:=1) rfl (h.consL (t:=0) rfl h.nilL)))))
 have h3:=h2.noFacts
 have h3:=h3.add (h2.fact 6 rfl)
 have h3:=h3.add (h2.fact 5 rfl)
 clear h2
 replace h:=h3
 clear h3
 have h:=h.add (f:=(Rel.natN).fact [(.slice A16 n17 c18)] (z0.natAbs)) f19
 refine Q9 h qWt rfl rfl rfl (X3 _ _ (fun b=>h.owns_lt) (h.fact 0 rfl)) rfl fun r w a hg hF h=>?_
 obtain ⟨cs22,e24,f23⟩:=hF
 obtain ⟨b25,A26,n27,c28,rfl⟩:=Xk f23
 subst e24
 have h:=h.add (f:=(Rel.intN).fact [(.bool b25),(.slice A26 n27 c28)] (Q4 b0 (z0.natAbs))) f23
 refine Z3 h 0 rfl rfl rfl Yf rfl rfl rfl rfl fun w h=>?_
 refine wpList_nil ?_
 refine wp_ret ?_
 exact Vp Tryz.results251 h (Ju h 0 rfl rfl H9 Yf rfl) ⟨_,rfl,h.grow0,_,rfl,(by rw [show z0=Q4 b0 (z0.natAbs) from hz0]; exact h.out 0 rfl)⟩
set_option maxHeartbeats 1000000 in
theorem Qm2 (hO:∀ b,Ob b→b<W.heap.size) {b0:Bool} {A0:Option Addr} {n0 c0:Nat} {z0:Int} (hx0:Rel.intA.at_ W Ob [.bool b0,.slice A0 n0 c0] z0) (hs0:Xj z0≤4294967295) :
  Calls Tryz.prog 194 #[.agg #[.bool b0,.slice A0 n0 c0]] W (Ms W Ob (Rel.intN.aggF (-z0))):=by
 obtain ⟨hx1,hz0⟩:=Yb hx0
 have hs0':sz z0.natAbs≤4294967295:=hs0
 refine enter (vs:=[(.agg #[(.bool b0),(.slice A0 n0 c0)])]) (Ob:=Ob) (K:=fun b=>b<W.heap.size) (Fs:=[(Rel.intA).fact [(.bool b0),(.slice A0 n0 c0)] (z0),(Rel.natA).fact [(.slice A0 n0 c0)] (z0.natAbs)]) qGq rfl Tryz.ntmps194 rfl (fun _ h=>h) hO (by simp only [Vw,No,or_false,forall_eq_or_imp,forall_eq,false_imp_iff,implies_true]; exact ⟨hx0,hx1⟩) fun a h=>?_
 refine Ql (Qt ?_)
 refine V2 h rfl rfl fun g1 w a h=>?_
 refine Jl h Ko rfl fun g2 w a h=>?_
 refine wpList_nil ?_
 refine Ql ?_
 refine Gf Qp 6 [some 3,some 4,some 5,some 6,some 7,some 8] [[],[0],[1],[],[3],[4]] [(Yg (.pointer (some ⟨g1,1,none⟩))),(Yg (.slice A0 n0 c0)),(Rel.natN.sliceF (z0.natAbs)),(Yg (.pointer (some ⟨g1,0,none⟩))),(Yg (.bool b0)),(Yg (.bool (!b0)))] rfl h rfl ⟨?_,?_,?_,?_,?_,?_,trivial⟩ ?_
 ·intro dp hdp0 hdp dv Fx a w h
  refine Qu h rfl (Ja) rfl fun a h=>?_
  refine wpList_nil ⟨rfl,?_⟩
  exact ⟨_,h.drawEnd (F':=[]) rfl rfl⟩
 ·intro dp hdp0 hdp dv Fx a w h
  have e8:dv 0=(.pointer (some ⟨g1,1,none⟩)):=h.fact 0 rfl
  replace h:=(h.spellE (t:=3) e8 rfl h)
  refine Zh h 1 rfl rfl Nn rfl rfl fun a h=>?_
  refine wpList_nil ⟨rfl,?_⟩
  exact ⟨_,h.drawEnd (F':=[_]) rfl rfl⟩
 ·intro dp hdp0 hdp dv Fx a w h
  have e9:dv 1=(.slice A0 n0 c0):=h.fact 0 rfl
  replace h:=(h.spellE (t:=4) e9 rfl h)
  refine Q9 h qFp rfl rfl rfl (Fr _ _ (fun b=>h.owns_lt) (h.fact 2 rfl) (by omega)) rfl fun r w a hg hF h=>?_
  obtain ⟨A10,n11,c12,e14,f13⟩:=hF
  subst e14
  have h:=h.add (f:=(Rel.natN).fact [(.slice A10 n11 c12)] (z0.natAbs)) f13
  refine wpList_nil ⟨rfl,?_⟩
  exact ⟨_,h.drawEnd (F':=[_,_]) rfl ⟨_,_,_,rfl,h.fact 0 rfl⟩⟩
 ·intro dp hdp0 hdp dv Fx a w h
  refine Qu h rfl (Jn) rfl fun a h=>?_
  refine wpList_nil ⟨rfl,?_⟩
  exact ⟨_,h.drawEnd (F':=[]) rfl rfl⟩
 ·intro dp hdp0 hdp dv Fx a w h
  have e15:dv 3=(.pointer (some ⟨g1,0,none⟩)):=h.fact 0 rfl
  replace h:=(h.spellE (t:=6) e15 rfl h)
  refine Zh h 1 rfl rfl Mn rfl rfl fun a h=>?_
  refine wpList_nil ⟨rfl,?_⟩
  exact ⟨_,h.drawEnd (F':=[_]) rfl rfl⟩
 ·intro dp hdp0 hdp dv Fx a w h
  have e16:dv 4=(.bool b0):=h.fact 0 rfl
  replace h:=(h.spellE (t:=7) e16 rfl h)
  refine Qi5 h rfl rfl fun a h=>?_
  refine wpList_nil ⟨rfl,?_⟩
  exact ⟨_,h.drawEnd (F':=[_]) rfl rfl⟩
 intro dv a w h
 obtain ⟨A17,n18,c19,e21,f20⟩:=(h.fact 2 rfl)
 have e22:dv 5=(.bool (!b0)):=h.fact 5 rfl
 have h2:=(h.spellE (t:=8) e22 rfl (h.spellE (t:=5) e21 rfl (h.consL (t:=2) rfl (h.consL (t:=1) rfl (h.consL (t:=0) rfl h.nilL)))))
 have h3:=h2.noFacts
 have h3:=h3.add (h2.fact 7 rfl)
 have h3:=h3.add (h2.fact 6 rfl)
 clear h2
 replace h:=h3
 clear h3
 have h:=h.add (f:=(Rel.natN).fact [(.slice A17 n18 c19)] (z0.natAbs)) f20
 refine Q9 h qWt rfl rfl rfl (X3 _ _ (fun b=>h.owns_lt) (h.fact 0 rfl)) rfl fun r w a hg hF h=>?_
 obtain ⟨cs23,e25,f24⟩:=hF
 obtain ⟨b26,A27,n28,c29,rfl⟩:=Xk f24
 subst e25
 have h:=h.add (f:=(Rel.intN).fact [(.bool b26),(.slice A27 n28 c29)] (Q4 (!b0) (z0.natAbs))) f24
 refine Z3 h 0 rfl rfl rfl Yf rfl rfl rfl rfl fun w h=>?_
 refine wpList_nil ?_
 refine wp_ret ?_
 exact Vp Tryz.results194 h (Ju h 0 rfl rfl H9 Yf rfl) ⟨_,rfl,h.grow0,_,rfl,(by rw [show -z0=Q4 (!b0) (z0.natAbs) from by unfold Q4; cases b0 <;> simp at hz0 ⊢ <;> omega]; exact h.out 0 rfl)⟩
set_option maxHeartbeats 1000000 in
theorem Qm1 (hO:∀ b,Ob b→b<W.heap.size) {b0:Bool} {A0:Option Addr} {n0 c0:Nat} {z0:Int} {b1:Bool} {A1:Option Addr} {n1 c1:Nat} {z1:Int} (hx0:Rel.intA.at_ W Ob [.bool b0,.slice A0 n0 c0] z0) (hx1:Rel.intA.at_ W Ob [.bool b1,.slice A1 n1 c1] z1) (hs0:Xj z0≤4294967295) (hs1:Xj z1≤4294967295) :
  Calls Tryz.prog 169 #[.agg #[.bool b0,.slice A0 n0 c0],.agg #[.bool b1,.slice A1 n1 c1]] W (Ms W Ob (Rel.intN.aggF (z0*z1))):=by
 obtain ⟨hx2,hz0⟩:=Yb hx0
 obtain ⟨hx3,hz1⟩:=Yb hx1
 have hs0':sz z0.natAbs≤4294967295:=hs0
 have hs1':sz z1.natAbs≤4294967295:=hs1
 refine enter (vs:=[(.agg #[(.bool b0),(.slice A0 n0 c0)]),(.agg #[(.bool b1),(.slice A1 n1 c1)])]) (Ob:=Ob) (K:=fun b=>b<W.heap.size) (Fs:=[(Rel.intA).fact [(.bool b0),(.slice A0 n0 c0)] (z0),(Rel.intA).fact [(.bool b1),(.slice A1 n1 c1)] (z1),(Rel.natA).fact [(.slice A0 n0 c0)] (z0.natAbs),(Rel.natA).fact [(.slice A1 n1 c1)] (z1.natAbs)]) qFg rfl Tryz.ntmps169 rfl (fun _ h=>h) hO (by simp only [Vw,No,or_false,forall_eq_or_imp,forall_eq,false_imp_iff,implies_true]; exact ⟨hx0,hx1,hx2,hx3⟩) fun a h=>?_
 refine Ql (Qt ?_)
 refine V2 h rfl rfl fun g1 w a h=>?_
 refine V2 h rfl rfl fun g2 w a h=>?_
 refine Jl h Ko rfl fun g3 w a h=>?_
 refine wpList_nil ?_
 refine Ql ?_
 refine Gf Qp 10 [some 5,some 6,some 7,some 8,some 9,some 10,some 11,some 12,some 13,some 14] [[],[0],[],[2],[1,3],[],[5],[],[7],[6,8]] [(Yg (.pointer (some ⟨g1,1,none⟩))),(Yg (.slice A0 n0 c0)),(Yg (.pointer (some ⟨g2,1,none⟩))),(Yg (.slice A1 n1 c1)),(Rel.natN.sliceF ((z0.natAbs)*(z1.natAbs))),(Yg (.pointer (some ⟨g1,0,none⟩))),(Yg (.bool b0)),(Yg (.pointer (some ⟨g2,0,none⟩))),(Yg (.bool b1)),(Yg (.bool (!(b0 == b1))))] rfl h rfl ⟨?_,?_,?_,?_,?_,?_,?_,?_,?_,?_,trivial⟩ ?_
 ·intro dp hdp0 hdp dv Fx a w h
  refine Qu h rfl (Ja) rfl fun a h=>?_
  refine wpList_nil ⟨rfl,?_⟩
  exact ⟨_,h.drawEnd (F':=[]) rfl rfl⟩
 ·intro dp hdp0 hdp dv Fx a w h
  have e9:dv 0=(.pointer (some ⟨g1,1,none⟩)):=h.fact 0 rfl
  replace h:=(h.spellE (t:=5) e9 rfl h)
  refine Zh h 2 rfl rfl Nn rfl rfl fun a h=>?_
  refine wpList_nil ⟨rfl,?_⟩
  exact ⟨_,h.drawEnd (F':=[_]) rfl rfl⟩
 ·intro dp hdp0 hdp dv Fx a w h
  refine Qu h rfl (Ja) rfl fun a h=>?_
  refine wpList_nil ⟨rfl,?_⟩
  exact ⟨_,h.drawEnd (F':=[]) rfl rfl⟩
 ·intro dp hdp0 hdp dv Fx a w h
  have e10:dv 2=(.pointer (some ⟨g2,1,none⟩)):=h.fact 0 rfl
  replace h:=(h.spellE (t:=7) e10 rfl h)
  refine Zh h 1 rfl rfl Nn rfl rfl fun a h=>?_
  refine wpList_nil ⟨rfl,?_⟩
  exact ⟨_,h.drawEnd (F':=[_]) rfl rfl⟩
 ·intro dp hdp0 hdp dv Fx a w h
  have e11:dv 1=(.slice A0 n0 c0):=h.fact 0 rfl
  have e12:dv 3=(.slice A1 n1 c1):=h.fact 1 rfl
  replace h:=(h.spellE (t:=8) e12 rfl (h.spellE (t:=6) e11 rfl h))
  refine Q9 h Tryz.func250 rfl rfl rfl (Qob _ _ (fun b=>h.owns_lt) (h.fact 4 rfl) (h.fact 5 rfl) (by omega) (by omega)) rfl fun r w a hg hF h=>?_
  obtain ⟨A13,n14,c15,e17,f16⟩:=hF
  subst e17
  have h:=h.add (f:=(Rel.natN).fact [(.slice A13 n14 c15)] ((z0.natAbs)*(z1.natAbs))) f16
  refine wpList_nil ⟨rfl,?_⟩
  exact ⟨_,h.drawEnd (F':=[_,_,_]) rfl ⟨_,_,_,rfl,h.fact 0 rfl⟩⟩
 ·intro dp hdp0 hdp dv Fx a w h
  refine Qu h rfl (Jn) rfl fun a h=>?_
  refine wpList_nil ⟨rfl,?_⟩
  exact ⟨_,h.drawEnd (F':=[]) rfl rfl⟩
 ·intro dp hdp0 hdp dv Fx a w h
  have e18:dv 5=(.pointer (some ⟨g1,0,none⟩)):=h.fact 0 rfl
  replace h:=(h.spellE (t:=10) e18 rfl h)
  refine Zh h 2 rfl rfl Mn rfl rfl fun a h=>?_
  refine wpList_nil ⟨rfl,?_⟩
  exact ⟨_,h.drawEnd (F':=[_]) rfl rfl⟩
 ·intro dp hdp0 hdp dv Fx a w h
  refine Qu h rfl (Jn) rfl fun a h=>?_
  refine wpList_nil ⟨rfl,?_⟩
  exact ⟨_,h.drawEnd (F':=[]) rfl rfl⟩
 ·intro dp hdp0 hdp dv Fx a w h
  have e19:dv 7=(.pointer (some ⟨g2,0,none⟩)):=h.fact 0 rfl
  replace h:=(h.spellE (t:=12) e19 rfl h)
  refine Zh h 1 rfl rfl Mn rfl rfl fun a h=>?_
  refine wpList_nil ⟨rfl,?_⟩
  exact ⟨_,h.drawEnd (F':=[_]) rfl rfl⟩
 ·intro dp hdp0 hdp dv Fx a w h
  have e20:dv 6=(.bool b0):=h.fact 0 rfl
  have e21:dv 8=(.bool b1):=h.fact 1 rfl
  replace h:=(h.spellE (t:=13) e21 rfl (h.spellE (t:=11) e20 rfl h))
  refine Dc h rfl rfl qUe rfl fun a h=>?_
  refine wpList_nil ⟨rfl,?_⟩
  exact ⟨_,h.drawEnd (F':=[_,_]) rfl rfl⟩
 intro dv a w h
 obtain ⟨A22,n23,c24,e26,f25⟩:=(h.fact 4 rfl)
 have e27:dv 9=(.bool (!(b0 == b1))):=h.fact 9 rfl
 have h2:=(h.spellE (t:=14) e27 rfl (h.spellE (t:=9) e26 rfl (h.consL (t:=4) rfl (h.consL (t:=3) rfl (h.consL (t:=2) rfl (h.consL (t:=1) rfl (h.consL (t:=0) rfl h.nilL)))))))
 have h3:=h2.noFacts
 have h3:=h3.add (h2.fact 13 rfl)
 have h3:=h3.add (h2.fact 12 rfl)
 have h3:=h3.add (h2.fact 11 rfl)
 have h3:=h3.add (h2.fact 10 rfl)
 clear h2
 replace h:=h3
 clear h3
 have h:=h.add (f:=(Rel.natN).fact [(.slice A22 n23 c24)] ((z0.natAbs)*(z1.natAbs))) f25
 refine Q9 h qWt rfl rfl rfl (X3 _ _ (fun b=>h.owns_lt) (h.fact 0 rfl)) rfl fun r w a hg hF h=>?_
 obtain ⟨cs28,e30,f29⟩:=hF
 obtain ⟨b31,A32,n33,c34,rfl⟩:=Xk f29
 subst e30
 have h:=h.add (f:=(Rel.intN).fact [(.bool b31),(.slice A32 n33 c34)] (Q4 (!(b0 == b1)) ((z0.natAbs)*(z1.natAbs)))) f29
 refine Z3 h 0 rfl rfl rfl Yf rfl rfl rfl rfl fun w h=>?_
 refine wpList_nil ?_
 refine wp_ret ?_
 exact Vp Tryz.results169 h (Ju h 0 rfl rfl H9 Yf rfl) ⟨_,rfl,h.grow0,_,rfl,(by rw [show z0*z1=Q4 (!(b0 == b1)) ((z0.natAbs)*(z1.natAbs)) from Qh7 hz0 hz1]; exact h.out 0 rfl)⟩
set_option maxHeartbeats 1000000 in
theorem Qb5 (hO:∀ b,Ob b→b<W.heap.size) {b0:Bool} {A0:Option Addr} {n0 c0:Nat} {z0:Int} {b1:Bool} {A1:Option Addr} {n1 c1:Nat} {z1:Int} (hx0:Rel.intA.at_ W Ob [.bool b0,.slice A0 n0 c0] z0) (hx1:Rel.intA.at_ W Ob [.bool b1,.slice A1 n1 c1] z1) (hs0:Xj z0≤4294967295) (hs1:Xj z1≤4294967295) :
  Calls Tryz.prog 295 #[.agg #[.bool b0,.slice A0 n0 c0],.agg #[.bool b1,.slice A1 n1 c1]] W (Ms W Ob (Rel.intN.aggF (z0+z1))):=by
 obtain ⟨hx2,hz0⟩:=Yb hx0
 obtain ⟨hx3,hz1⟩:=Yb hx1
 have hs0':sz z0.natAbs≤4294967295:=hs0
 have hs1':sz z1.natAbs≤4294967295:=hs1
 refine enter (vs:=[(.agg #[(.bool b0),(.slice A0 n0 c0)]),(.agg #[(.bool b1),(.slice A1 n1 c1)])]) (Ob:=Ob) (K:=fun b=>b<W.heap.size) (Fs:=[(Rel.intA).fact [(.bool b0),(.slice A0 n0 c0)] (z0),(Rel.intA).fact [(.bool b1),(.slice A1 n1 c1)] (z1),(Rel.natA).fact [(.slice A0 n0 c0)] (z0.natAbs),(Rel.natA).fact [(.slice A1 n1 c1)] (z1.natAbs)]) Tryz.func295 rfl Tryz.ntmps295 rfl (fun _ h=>h) hO (by simp only [Vw,No,or_false,forall_eq_or_imp,forall_eq,false_imp_iff,implies_true]; exact ⟨hx0,hx1,hx2,hx3⟩) fun a h=>?_
 rcases Mq z0.natAbs z1.natAbs with hlt | hle
 ·skip
  refine Ql (Qt ?_)
  refine V2 h rfl rfl fun g1 w a h=>?_
  refine V2 h rfl rfl fun g2 w a h=>?_
  refine Jl h Ko rfl fun g3 w a h=>?_
  refine wpList_nil ?_
  refine Ql (Ql (Qt ?_))
  refine Qu h rfl (Jn) rfl fun a h=>?_
  refine Zh h 2 rfl rfl Mn rfl rfl fun a h=>?_
  refine Qu h rfl (Jn) rfl fun a h=>?_
  refine Zh h 1 rfl rfl Mn rfl rfl fun a h=>?_
  refine Qi1 h rfl rfl qUe rfl fun a h=>?_
  refine wpList_nil ?_
  refine Yo h rfl (fun hb_if1=>?_) (fun hb_if1=>?_)
  ·try simp only [decide_eq_true_eq,decide_eq_false_iff_not,Vc,Vb] at hb_if1
   refine Ql ?_
   refine Gf Qp 7 [some 14,some 15,some 16,some 17,some 18,some 19,some 20] [[],[0],[],[2],[1,3],[],[5]] [(Yg (.pointer (some ⟨g1,1,none⟩))),(Yg (.slice A0 n0 c0)),(Yg (.pointer (some ⟨g2,1,none⟩))),(Yg (.slice A1 n1 c1)),(Rel.natN.sliceF ((z0.natAbs)+(z1.natAbs))),(Yg (.pointer (some ⟨g1,0,none⟩))),(Yg (.bool b0))] rfl h rfl ⟨?_,?_,?_,?_,?_,?_,?_,trivial⟩ ?_
   ·intro dp hdp0 hdp dv Fx a w h
    refine Qu h rfl (Ja) rfl fun a h=>?_
    refine wpList_nil ⟨rfl,?_⟩
    exact ⟨_,h.drawEnd (F':=[]) rfl rfl⟩
   ·intro dp hdp0 hdp dv Fx a w h
    have e9:dv 0=(.pointer (some ⟨g1,1,none⟩)):=h.fact 0 rfl
    replace h:=(h.spellE (t:=14) e9 rfl h)
    refine Zh h 2 rfl rfl Nn rfl rfl fun a h=>?_
    refine wpList_nil ⟨rfl,?_⟩
    exact ⟨_,h.drawEnd (F':=[_]) rfl rfl⟩
   ·intro dp hdp0 hdp dv Fx a w h
    refine Qu h rfl (Ja) rfl fun a h=>?_
    refine wpList_nil ⟨rfl,?_⟩
    exact ⟨_,h.drawEnd (F':=[]) rfl rfl⟩
   ·intro dp hdp0 hdp dv Fx a w h
    have e10:dv 2=(.pointer (some ⟨g2,1,none⟩)):=h.fact 0 rfl
    replace h:=(h.spellE (t:=16) e10 rfl h)
    refine Zh h 1 rfl rfl Nn rfl rfl fun a h=>?_
    refine wpList_nil ⟨rfl,?_⟩
    exact ⟨_,h.drawEnd (F':=[_]) rfl rfl⟩
   ·intro dp hdp0 hdp dv Fx a w h
    have e11:dv 1=(.slice A0 n0 c0):=h.fact 0 rfl
    have e12:dv 3=(.slice A1 n1 c1):=h.fact 1 rfl
    replace h:=(h.spellE (t:=17) e12 rfl (h.spellE (t:=15) e11 rfl h))
    refine Q9 h Tryz.func320 rfl rfl rfl (Ig _ _ (fun b=>h.owns_lt) (h.fact 4 rfl) (h.fact 5 rfl) (by omega) (by omega)) rfl fun r w a hg hF h=>?_
    obtain ⟨A13,n14,c15,e17,f16⟩:=hF
    subst e17
    have h:=h.add (f:=(Rel.natN).fact [(.slice A13 n14 c15)] ((z0.natAbs)+(z1.natAbs))) f16
    refine wpList_nil ⟨rfl,?_⟩
    exact ⟨_,h.drawEnd (F':=[_,_,_]) rfl ⟨_,_,_,rfl,h.fact 0 rfl⟩⟩
   ·intro dp hdp0 hdp dv Fx a w h
    refine Qu h rfl (Jn) rfl fun a h=>?_
    refine wpList_nil ⟨rfl,?_⟩
    exact ⟨_,h.drawEnd (F':=[]) rfl rfl⟩
   ·intro dp hdp0 hdp dv Fx a w h
    have e18:dv 5=(.pointer (some ⟨g1,0,none⟩)):=h.fact 0 rfl
    replace h:=(h.spellE (t:=19) e18 rfl h)
    refine Zh h 2 rfl rfl Mn rfl rfl fun a h=>?_
    refine wpList_nil ⟨rfl,?_⟩
    exact ⟨_,h.drawEnd (F':=[_]) rfl rfl⟩
   intro dv a w h
   obtain ⟨A19,n20,c21,e23,f22⟩:=(h.fact 4 rfl)
   have e24:dv 6=(.bool b0):=h.fact 6 rfl
   have h2:=(h.spellE (t:=20) e24 rfl (h.spellE (t:=18) e23 rfl (h.consL (t:=13) rfl (h.consL (t:=4) rfl (h.consL (t:=3) rfl (h.consL (t:=2) rfl (h.consL (t:=1) rfl (h.consL (t:=0) rfl h.nilL))))))))
   have h3:=h2.noFacts
   have h3:=h3.add (h2.fact 10 rfl)
   have h3:=h3.add (h2.fact 9 rfl)
   have h3:=h3.add (h2.fact 8 rfl)
   have h3:=h3.add (h2.fact 7 rfl)
   clear h2
   replace h:=h3
   clear h3
   have h:=h.add (f:=(Rel.natN).fact [(.slice A19 n20 c21)] ((z0.natAbs)+(z1.natAbs))) f22
   refine Q9 h qWt rfl rfl rfl (X3 _ _ (fun b=>h.owns_lt) (h.fact 0 rfl)) rfl fun r w a hg hF h=>?_
   obtain ⟨cs25,e27,f26⟩:=hF
   obtain ⟨b28,A29,n30,c31,rfl⟩:=Xk f26
   subst e27
   have h:=h.add (f:=(Rel.intN).fact [(.bool b28),(.slice A29 n30 c31)] (Q4 b0 ((z0.natAbs)+(z1.natAbs)))) f26
   refine Z3 h 0 rfl rfl rfl Yf rfl rfl rfl rfl fun w h=>?_
   refine wpList_nil ?_
   refine wp_ret ?_
   exact Vp Tryz.results295 h (Ju h 0 rfl rfl H9 Yf rfl) ⟨_,rfl,h.grow0,_,rfl,(by rw [show z0+z1=Q4 b0 ((z0.natAbs)+(z1.natAbs)) from by first | exact Rz hz0 hz1 hb_if1 | exact To hz0 hz1 hb_if1 hle | exact Hx hz0 hz1 hb_if1 hlt]; exact h.out 0 rfl)⟩
  try simp only [decide_eq_true_eq,decide_eq_false_iff_not,Vc,Vb] at hb_if1
  refine wp_skip ?_
  refine Ql (Ql (Qt ?_))
  refine Qu h rfl (Ja) rfl fun a h=>?_
  refine Zh h 2 rfl rfl Nn rfl rfl fun a h=>?_
  refine Qu h rfl (Ja) rfl fun a h=>?_
  refine Zh h 1 rfl rfl Nn rfl rfl fun a h=>?_
  refine Q9 h Tryz.func321 rfl rfl rfl (Qfr _ _ (fun b=>h.owns_lt) (h.fact 2 rfl) (h.fact 3 rfl) (by omega) (by omega)) rfl fun r w a hg hF h=>?_
  obtain ⟨y32,y33,e34,t35,t36⟩:=hF
  obtain rfl:=t35
  obtain rfl:=t36
  subst e34
  refine Qa h rfl rfl fun a h=>?_
  refine Z5 (vs:=[(.slice none 0 0),(.bool false)]) h rfl rfl rfl fun a h=>?_
  refine Z5 (vs:=[(.slice none 0 0),(.bool false)]) h rfl rfl rfl fun a h=>?_
  refine Qd h rfl rfl fun a h=>?_
  refine Qd h rfl rfl fun a h=>?_
  refine wpList_nil ?_
  refine Ql (Qt ?_)
  refine Qa h rfl rfl fun a h=>?_
  refine wpList_nil ?_
  refine Yp h rfl (rfl) ?_
  refine wp_skip ?_
  refine Ql (Qt ?_)
  refine Qu h rfl (Ja) rfl fun a h=>?_
  refine Zh h 1 rfl rfl Nn rfl rfl fun a h=>?_
  refine Qu h rfl (Ja) rfl fun a h=>?_
  refine Zh h 2 rfl rfl Nn rfl rfl fun a h=>?_
  refine Q9 h Tryz.func321 rfl rfl rfl (Sr _ _ (fun b=>h.owns_lt) (h.fact 3 rfl) (h.fact 2 rfl) (by omega) (by omega)) rfl fun r w a hg hF h=>?_
  obtain ⟨y37,y38,e39,t40,t41⟩:=hF
  obtain ⟨A42,n43,c44,e46,f45⟩:=t40
  subst e46
  obtain rfl:=t41
  subst e39
  have h:=h.add (f:=(Rel.natN).fact [(.slice A42 n43 c44)] ((z1.natAbs)-(z0.natAbs))) f45
  refine Qa h rfl rfl fun a h=>?_
  refine Z5 (vs:=[(.slice A42 n43 c44),(.bool true)]) h rfl rfl rfl fun a h=>?_
  refine Z5 (vs:=[(.slice A42 n43 c44),(.bool true)]) h rfl rfl rfl fun a h=>?_
  refine Qd h rfl rfl fun a h=>?_
  refine Qd h rfl rfl fun a h=>?_
  refine wpList_nil ?_
  refine Ql (Qt ?_)
  refine Qa h rfl rfl fun a h=>?_
  refine Qu h rfl (Jn) rfl fun a h=>?_
  refine Zh h 1 rfl rfl Mn rfl rfl fun a h=>?_
  refine Q9 h qWt rfl rfl rfl (X3 _ _ (fun b=>h.owns_lt) (h.fact 0 rfl)) rfl fun r w a hg hF h=>?_
  obtain ⟨cs47,e49,f48⟩:=hF
  obtain ⟨b50,A51,n52,c53,rfl⟩:=Xk f48
  subst e49
  have h:=h.add (f:=(Rel.intN).fact [(.bool b50),(.slice A51 n52 c53)] (Q4 b1 ((z1.natAbs)-(z0.natAbs)))) f48
  refine Z3 h 0 rfl rfl rfl Yf rfl rfl rfl rfl fun w h=>?_
  refine wpList_nil ?_
  refine wp_ret ?_
  exact Vp Tryz.results295 h (Ju h 0 rfl rfl H9 Yf rfl) ⟨_,rfl,h.grow0,_,rfl,(by rw [show z0+z1=Q4 b1 ((z1.natAbs)-(z0.natAbs)) from by first | exact Rz hz0 hz1 hb_if1 | exact To hz0 hz1 hb_if1 hle | exact Hx hz0 hz1 hb_if1 hlt]; exact h.out 0 rfl)⟩
 skip
 refine Ql (Qt ?_)
 refine V2 h rfl rfl fun g54 w a h=>?_
 refine V2 h rfl rfl fun g55 w a h=>?_
 refine Jl h Ko rfl fun g56 w a h=>?_
 refine wpList_nil ?_
 refine Ql (Ql (Qt ?_))
 refine Qu h rfl (Jn) rfl fun a h=>?_
 refine Zh h 2 rfl rfl Mn rfl rfl fun a h=>?_
 refine Qu h rfl (Jn) rfl fun a h=>?_
 refine Zh h 1 rfl rfl Mn rfl rfl fun a h=>?_
 refine Qi1 h rfl rfl qUe rfl fun a h=>?_
 refine wpList_nil ?_
 refine Yo h rfl (fun hb_if1=>?_) (fun hb_if1=>?_)
 ·try simp only [decide_eq_true_eq,decide_eq_false_iff_not,Vc,Vb] at hb_if1
  refine Ql ?_
  refine Gf Qp 7 [some 14,some 15,some 16,some 17,some 18,some 19,some 20] [[],[0],[],[2],[1,3],[],[5]] [(Yg (.pointer (some ⟨g54,1,none⟩))),(Yg (.slice A0 n0 c0)),(Yg (.pointer (some ⟨g55,1,none⟩))),(Yg (.slice A1 n1 c1)),(Rel.natN.sliceF ((z0.natAbs)+(z1.natAbs))),(Yg (.pointer (some ⟨g54,0,none⟩))),(Yg (.bool b0))] rfl h rfl ⟨?_,?_,?_,?_,?_,?_,?_,trivial⟩ ?_
  ·intro dp hdp0 hdp dv Fx a w h
   refine Qu h rfl (Ja) rfl fun a h=>?_
   refine wpList_nil ⟨rfl,?_⟩
   exact ⟨_,h.drawEnd (F':=[]) rfl rfl⟩
  ·intro dp hdp0 hdp dv Fx a w h
   have e62:dv 0=(.pointer (some ⟨g54,1,none⟩)):=h.fact 0 rfl
   replace h:=(h.spellE (t:=14) e62 rfl h)
   refine Zh h 2 rfl rfl Nn rfl rfl fun a h=>?_
   refine wpList_nil ⟨rfl,?_⟩
   exact ⟨_,h.drawEnd (F':=[_]) rfl rfl⟩
  ·intro dp hdp0 hdp dv Fx a w h
   refine Qu h rfl (Ja) rfl fun a h=>?_
   refine wpList_nil ⟨rfl,?_⟩
   exact ⟨_,h.drawEnd (F':=[]) rfl rfl⟩
  ·intro dp hdp0 hdp dv Fx a w h
   have e63:dv 2=(.pointer (some ⟨g55,1,none⟩)):=h.fact 0 rfl
   replace h:=(h.spellE (t:=16) e63 rfl h)
   refine Zh h 1 rfl rfl Nn rfl rfl fun a h=>?_
   refine wpList_nil ⟨rfl,?_⟩
   exact ⟨_,h.drawEnd (F':=[_]) rfl rfl⟩
  ·intro dp hdp0 hdp dv Fx a w h
   have e64:dv 1=(.slice A0 n0 c0):=h.fact 0 rfl
   have e65:dv 3=(.slice A1 n1 c1):=h.fact 1 rfl
   replace h:=(h.spellE (t:=17) e65 rfl (h.spellE (t:=15) e64 rfl h))
   refine Q9 h Tryz.func320 rfl rfl rfl (Ig _ _ (fun b=>h.owns_lt) (h.fact 4 rfl) (h.fact 5 rfl) (by omega) (by omega)) rfl fun r w a hg hF h=>?_
   obtain ⟨A66,n67,c68,e70,f69⟩:=hF
   subst e70
   have h:=h.add (f:=(Rel.natN).fact [(.slice A66 n67 c68)] ((z0.natAbs)+(z1.natAbs))) f69
   refine wpList_nil ⟨rfl,?_⟩
   exact ⟨_,h.drawEnd (F':=[_,_,_]) rfl ⟨_,_,_,rfl,h.fact 0 rfl⟩⟩
  ·intro dp hdp0 hdp dv Fx a w h
   refine Qu h rfl (Jn) rfl fun a h=>?_
   refine wpList_nil ⟨rfl,?_⟩
   exact ⟨_,h.drawEnd (F':=[]) rfl rfl⟩
  ·intro dp hdp0 hdp dv Fx a w h
   have e71:dv 5=(.pointer (some ⟨g54,0,none⟩)):=h.fact 0 rfl
   replace h:=(h.spellE (t:=19) e71 rfl h)
   refine Zh h 2 rfl rfl Mn rfl rfl fun a h=>?_
   refine wpList_nil ⟨rfl,?_⟩
   exact ⟨_,h.drawEnd (F':=[_]) rfl rfl⟩
  intro dv a w h
  obtain ⟨A72,n73,c74,e76,f75⟩:=(h.fact 4 rfl)
  have e77:dv 6=(.bool b0):=h.fact 6 rfl
  have h2:=(h.spellE (t:=20) e77 rfl (h.spellE (t:=18) e76 rfl (h.consL (t:=13) rfl (h.consL (t:=4) rfl (h.consL (t:=3) rfl (h.consL (t:=2) rfl (h.consL (t:=1) rfl (h.consL (t:=0) rfl h.nilL))))))))
  have h3:=h2.noFacts
  have h3:=h3.add (h2.fact 10 rfl)
  have h3:=h3.add (h2.fact 9 rfl)
  have h3:=h3.add (h2.fact 8 rfl)
  have h3:=h3.add (h2.fact 7 rfl)
  clear h2
  replace h:=h3
  clear h3
  have h:=h.add (f:=(Rel.natN).fact [(.slice A72 n73 c74)] ((z0.natAbs)+(z1.natAbs))) f75
  refine Q9 h qWt rfl rfl rfl (X3 _ _ (fun b=>h.owns_lt) (h.fact 0 rfl)) rfl fun r w a hg hF h=>?_
  obtain ⟨cs78,e80,f79⟩:=hF
  obtain ⟨b81,A82,n83,c84,rfl⟩:=Xk f79
  subst e80
  have h:=h.add (f:=(Rel.intN).fact [(.bool b81),(.slice A82 n83 c84)] (Q4 b0 ((z0.natAbs)+(z1.natAbs)))) f79
  refine Z3 h 0 rfl rfl rfl Yf rfl rfl rfl rfl fun w h=>?_
  refine wpList_nil ?_
  refine wp_ret ?_
  exact Vp Tryz.results295 h (Ju h 0 rfl rfl H9 Yf rfl) ⟨_,rfl,h.grow0,_,rfl,(by rw [show z0+z1=Q4 b0 ((z0.natAbs)+(z1.natAbs)) from by first | exact Rz hz0 hz1 hb_if1 | exact To hz0 hz1 hb_if1 hle | exact Hx hz0 hz1 hb_if1 hlt]; exact h.out 0 rfl)⟩
 try simp only [decide_eq_true_eq,decide_eq_false_iff_not,Vc,Vb] at hb_if1
 refine wp_skip ?_
 refine Ql (Ql (Qt ?_))
 refine Qu h rfl (Ja) rfl fun a h=>?_
 refine Zh h 2 rfl rfl Nn rfl rfl fun a h=>?_
 refine Qu h rfl (Ja) rfl fun a h=>?_
 refine Zh h 1 rfl rfl Nn rfl rfl fun a h=>?_
 refine Q9 h Tryz.func321 rfl rfl rfl (Sr _ _ (fun b=>h.owns_lt) (h.fact 2 rfl) (h.fact 3 rfl) (by omega) (by omega)) rfl fun r w a hg hF h=>?_
 obtain ⟨y85,y86,e87,t88,t89⟩:=hF
 obtain ⟨A90,n91,c92,e94,f93⟩:=t88
 subst e94
 obtain rfl:=t89
 subst e87
 have h:=h.add (f:=(Rel.natN).fact [(.slice A90 n91 c92)] ((z0.natAbs)-(z1.natAbs))) f93
 refine Qa h rfl rfl fun a h=>?_
 refine Z5 (vs:=[(.slice A90 n91 c92),(.bool true)]) h rfl rfl rfl fun a h=>?_
 refine Z5 (vs:=[(.slice A90 n91 c92),(.bool true)]) h rfl rfl rfl fun a h=>?_
 refine Qd h rfl rfl fun a h=>?_
 refine Qd h rfl rfl fun a h=>?_
 refine wpList_nil ?_
 refine Ql (Qt ?_)
 refine Qa h rfl rfl fun a h=>?_
 refine wpList_nil ?_
 refine K3 h rfl (rfl) ?_
 refine Ql (Qt ?_)
 refine Qa h rfl rfl fun a h=>?_
 refine Qu h rfl (Jn) rfl fun a h=>?_
 refine Zh h 2 rfl rfl Mn rfl rfl fun a h=>?_
 refine Q9 h qWt rfl rfl rfl (X3 _ _ (fun b=>h.owns_lt) (h.fact 0 rfl)) rfl fun r w a hg hF h=>?_
 obtain ⟨cs95,e97,f96⟩:=hF
 obtain ⟨b98,A99,n100,c101,rfl⟩:=Xk f96
 subst e97
 have h:=h.add (f:=(Rel.intN).fact [(.bool b98),(.slice A99 n100 c101)] (Q4 b0 ((z0.natAbs)-(z1.natAbs)))) f96
 refine Z3 h 0 rfl rfl rfl Yf rfl rfl rfl rfl fun w h=>?_
 refine wpList_nil ?_
 refine wp_ret ?_
 exact Vp Tryz.results295 h (Ju h 0 rfl rfl H9 Yf rfl) ⟨_,rfl,h.grow0,_,rfl,(by rw [show z0+z1=Q4 b0 ((z0.natAbs)-(z1.natAbs)) from by first | exact Rz hz0 hz1 hb_if1 | exact To hz0 hz1 hb_if1 hle | exact Hx hz0 hz1 hb_if1 hlt]; exact h.out 0 rfl)⟩
set_option maxHeartbeats 1000000 in
theorem Qm3 (hO:∀ b,Ob b→b<W.heap.size) {b0:Bool} {A0:Option Addr} {n0 c0:Nat} {z0:Int} {b1:Bool} {A1:Option Addr} {n1 c1:Nat} {z1:Int} (hx0:Rel.intA.at_ W Ob [.bool b0,.slice A0 n0 c0] z0) (hx1:Rel.intA.at_ W Ob [.bool b1,.slice A1 n1 c1] z1) (hs0:Xj z0≤4294967295) (hs1:Xj z1≤4294967295) :
  Calls Tryz.prog 256 #[.agg #[.bool b0,.slice A0 n0 c0],.agg #[.bool b1,.slice A1 n1 c1]] W (Ms W Ob (Rel.intN.aggF (z0-z1))):=by
 obtain ⟨hx2,hz0⟩:=Yb hx0
 obtain ⟨hx3,hz1⟩:=Yb hx1
 have hs0':sz z0.natAbs≤4294967295:=hs0
 have hs1':sz z1.natAbs≤4294967295:=hs1
 refine enter (vs:=[(.agg #[(.bool b0),(.slice A0 n0 c0)]),(.agg #[(.bool b1),(.slice A1 n1 c1)])]) (Ob:=Ob) (K:=fun b=>b<W.heap.size) (Fs:=[(Rel.intA).fact [(.bool b0),(.slice A0 n0 c0)] (z0),(Rel.intA).fact [(.bool b1),(.slice A1 n1 c1)] (z1),(Rel.natA).fact [(.slice A0 n0 c0)] (z0.natAbs),(Rel.natA).fact [(.slice A1 n1 c1)] (z1.natAbs)]) Tryz.func256 rfl Tryz.ntmps256 rfl (fun _ h=>h) hO (by simp only [Vw,No,or_false,forall_eq_or_imp,forall_eq,false_imp_iff,implies_true]; exact ⟨hx0,hx1,hx2,hx3⟩) fun a h=>?_
 refine Ql (Qt ?_)
 refine V2 h rfl rfl fun g1 w a h=>?_
 refine V2 h rfl rfl fun g2 w a h=>?_
 refine Jl h Ko rfl fun g3 w a h=>?_
 refine wpList_nil ?_
 refine Ql (Qt ?_)
 refine Qu h rfl (Jn) rfl fun a h=>?_
 refine Zh h 1 rfl rfl Mn rfl rfl fun a h=>?_
 refine Qi5 h rfl rfl fun a h=>?_
 refine Qu h rfl (Jn) rfl fun a h=>?_
 refine Z3 h 1 rfl rfl rfl qFs rfl rfl rfl rfl fun w h=>?_
 refine wpList_nil ?_
 refine Ql (Qt ?_)
 refine Y9 h 2 rfl rfl H9 Yf rfl rfl fun a h=>?_
 refine Y9 h 1 rfl rfl H9 Yf rfl rfl fun a h=>?_
 have h:=h.add (f:=(Rel.intA).fact [(.bool (!b1)),(.slice A1 n1 c1)] (-z1)) (Qrj (h.fact 3 rfl) (Qfi hz1))
 have hs2:Xj (-z1)≤4294967295:=by rw [Xg]; exact hs1
 refine Q9 h Tryz.func295 rfl rfl rfl (Qb5 _ _ (fun b=>h.owns_lt) (h.fact 1 rfl) (h.fact 0 rfl) (by omega) (by omega)) rfl fun r w a hg hF h=>?_
 obtain ⟨cs4,e6,f5⟩:=hF
 obtain ⟨b7,A8,n9,c10,rfl⟩:=Xk f5
 subst e6
 have h:=h.add (f:=(Rel.intN).fact [(.bool b7),(.slice A8 n9 c10)] ((z0)+(-z1))) f5
 refine Z3 h 0 rfl rfl rfl Yf rfl rfl rfl rfl fun w h=>?_
 refine wpList_nil ?_
 refine wp_ret ?_
 exact Vp Tryz.results256 h (Ju h 0 rfl rfl H9 Yf rfl) ⟨_,rfl,h.grow0,_,rfl,(by rw [show z0-z1=(z0)+(-z1) from Int.sub_eq_add_neg]; exact h.out 0 rfl)⟩
set_option maxHeartbeats 1000000 in
theorem Qqg (hO:∀ b,Ob b→b<W.heap.size) {z:Int} (h1:-9223372036854775808≤z) (h2:z≤9223372036854775807) :
  Calls Tryz.prog 191 #[.int .i64 z] W (Ms W Ob (Rel.intN.aggF z)):=by
 have e32:(2:Nat)^32=4294967296:=by decide
 refine enter (vs:=[(.int .i64 z)]) (Ob:=Ob) (K:=fun b=>b<W.heap.size) (Fs:=[]) qFn rfl Tryz.ntmps191 rfl (fun _ h=>h) hO (fun f hf=>by cases hf) fun a h=>?_
 rcases Int.lt_or_le z 0 with hneg | hpos
 ·obtain ⟨m,rfl⟩:∃ m:Nat,z=-(m:Int):=⟨z.natAbs,by omega⟩
  refine Ql (Qt ?_)
  refine Jl h Ko rfl fun g1 w a h=>?_
  refine wpList_nil ?_
  refine Ql (Qt ?_)
  refine Qa h rfl rfl fun a h=>?_
  refine F1 h rfl qWj Fy rfl fun a h=>?_
  replace h:=h.respell (u:=.int .u64 (((18446744073709551616-m:Nat)):Int)) (by congr 1; simp only [Ur]; omega)
  refine Qd h rfl rfl fun a h=>?_
  refine wpList_nil ?_
  refine Ql (Ql (Qt ?_))
  refine Qa h rfl rfl fun a h=>?_
  refine Zk h rfl rfl rfl rfl fun a h=>?_
  refine wpList_nil ?_
  refine K3 h rfl (by first | (simp; done) | (simp; omega)) ?_
  refine Qt ?_
  refine Qa h rfl rfl fun a h=>?_
  refine Qpz h rfl rfl fun a h=>?_
  replace h:=h.respell (u:=.int .u64 ((m:Nat):Int)) (by congr 1; simp only [Ur]; omega)
  refine Qd h rfl rfl fun a h=>?_
  refine wpList_nil ?_
  refine Ql (Qt ?_)
  refine Qa h rfl rfl fun a h=>?_
  refine Jh (p:=m) h rfl Fy Uo rfl fun a h=>?_
  refine Qa h rfl rfl fun a h=>?_
  refine V7 (p:=m) (m:=32) h rfl rfl (by omega) rfl fun a h=>?_
  refine Jh (p:=(m) / 2^32) h rfl Fy Uo rfl fun a h=>?_
  refine V3 h rfl (Vd (zs:=[(.int .u32 0)]) Jc Y4 qWl rfl rfl (by decide) (by decide) (by decide) rfl) rfl fun g2 w a h=>?_
  have hl:∀ x∈[m % 4294967296,m / 2^32 % 4294967296],x<4294967296:=by intro x hx; simp at hx; omega
  have hrow:=Yj (r:=[m % 4294967296,m / 2^32 % 4294967296]) 2 h (fun i hi=>by rcases i with _ | _ | i <;> first | rfl | (simp at hi; omega)) hl (show 2<2^47 by decide) (X2 _) (by decide)
  replace h:=h.publish
  have h:=h.add (f:=(Rel.natA).fact [.slice (some ⟨g2,0,none⟩) 2 2] (m)) (⟨_,hrow,hl,by simp only [val]; omega⟩)
  have hsm:sz m≤64:=Ks.2 (by omega)
  refine Q9 h qFp rfl rfl rfl (Fr _ _ (fun b=>h.owns_lt) (h.fact 0 rfl) (by omega)) rfl fun r w a hg hF h=>?_
  obtain ⟨A3,n4,c5,e7,f6⟩:=hF
  subst e7
  have h:=h.add (f:=(Rel.natN).fact [(.slice A3 n4 c5)] (m)) f6
  refine Qa h rfl rfl fun a h=>?_
  refine Zk h rfl rfl rfl rfl fun a h=>?_
  replace h:=h.respell (u:=.bool true) (congrArg _ (by first | (simp; done) | (simp; omega)))
  refine Q9 h qWt rfl rfl rfl (X3 _ _ (fun b=>h.owns_lt) (h.fact 0 rfl)) rfl fun r w a hg hF h=>?_
  obtain ⟨cs8,e10,f9⟩:=hF
  obtain ⟨b11,A12,n13,c14,rfl⟩:=Xk f9
  subst e10
  have h:=h.add (f:=(Rel.intN).fact [(.bool b11),(.slice A12 n13 c14)] (Q4 true (m))) f9
  refine Z3 h 0 rfl rfl rfl Yf rfl rfl rfl rfl fun w h=>?_
  refine wpList_nil ?_
  refine wp_ret ?_
  exact Vp Tryz.results191 h (Ju h 0 rfl rfl H9 Yf rfl) ⟨_,rfl,h.grow0,_,rfl,(by rw [show (-(m:Int))=Q4 true (m) from (by first | (simp [Q4]; done) | (simp [Q4]; omega))]; exact h.out 0 rfl)⟩
 obtain ⟨m,rfl⟩:∃ m:Nat,z=(m:Int):=⟨z.natAbs,by omega⟩
 refine Ql (Qt ?_)
 refine Jl h Ko rfl fun g15 w a h=>?_
 refine wpList_nil ?_
 refine Ql (Qt ?_)
 refine Qa h rfl rfl fun a h=>?_
 refine X9 (p:=m) h rfl (by omega) qWj Fy rfl fun a h=>?_
 refine Qd h rfl rfl fun a h=>?_
 refine wpList_nil ?_
 refine Ql (Ql (Qt ?_))
 refine Qa h rfl rfl fun a h=>?_
 refine Zk h rfl rfl rfl rfl fun a h=>?_
 refine wpList_nil ?_
 refine Yp h rfl (by first | (simp; done) | (simp; omega)) ?_
 refine wp_skip ?_
 refine Ql (Qt ?_)
 refine Qa h rfl rfl fun a h=>?_
 refine Jh (p:=m) h rfl Fy Uo rfl fun a h=>?_
 refine Qa h rfl rfl fun a h=>?_
 refine V7 (p:=m) (m:=32) h rfl rfl (by omega) rfl fun a h=>?_
 refine Jh (p:=(m) / 2^32) h rfl Fy Uo rfl fun a h=>?_
 refine V3 h rfl (Vd (zs:=[(.int .u32 0)]) Jc Y4 qWl rfl rfl (by decide) (by decide) (by decide) rfl) rfl fun g16 w a h=>?_
 have hl:∀ x∈[m % 4294967296,m / 2^32 % 4294967296],x<4294967296:=by intro x hx; simp at hx; omega
 have hrow:=Yj (r:=[m % 4294967296,m / 2^32 % 4294967296]) 2 h (fun i hi=>by rcases i with _ | _ | i <;> first | rfl | (simp at hi; omega)) hl (show 2<2^47 by decide) (X2 _) (by decide)
 replace h:=h.publish
 have h:=h.add (f:=(Rel.natA).fact [.slice (some ⟨g16,0,none⟩) 2 2] (m)) (⟨_,hrow,hl,by simp only [val]; omega⟩)
 have hsm:sz m≤64:=Ks.2 (by omega)
 refine Q9 h qFp rfl rfl rfl (Fr _ _ (fun b=>h.owns_lt) (h.fact 0 rfl) (by omega)) rfl fun r w a hg hF h=>?_
 obtain ⟨A17,n18,c19,e21,f20⟩:=hF
 subst e21
 have h:=h.add (f:=(Rel.natN).fact [(.slice A17 n18 c19)] (m)) f20
 refine Qa h rfl rfl fun a h=>?_
 refine Zk h rfl rfl rfl rfl fun a h=>?_
 replace h:=h.respell (u:=.bool false) (congrArg _ (by first | (simp; done) | (simp; omega)))
 refine Q9 h qWt rfl rfl rfl (X3 _ _ (fun b=>h.owns_lt) (h.fact 0 rfl)) rfl fun r w a hg hF h=>?_
 obtain ⟨cs22,e24,f23⟩:=hF
 obtain ⟨b25,A26,n27,c28,rfl⟩:=Xk f23
 subst e24
 have h:=h.add (f:=(Rel.intN).fact [(.bool b25),(.slice A26 n27 c28)] (Q4 false (m))) f23
 refine Z3 h 0 rfl rfl rfl Yf rfl rfl rfl rfl fun w h=>?_
 refine wpList_nil ?_
 refine wp_ret ?_
 exact Vp Tryz.results191 h (Ju h 0 rfl rfl H9 Yf rfl) ⟨_,rfl,h.grow0,_,rfl,(by rw [show (m:Int)=Q4 false (m) from (by first | (simp [Q4]; done) | (simp [Q4]; omega))]; exact h.out 0 rfl)⟩
set_option maxHeartbeats 1000000 in
theorem Oj (hO:∀ b,Ob b→b<W.heap.size) {b0:Bool} {A0:Option Addr} {n0 c0:Nat} {z0:Int} (hx0:Rel.intA.at_ W Ob [.bool b0,.slice A0 n0 c0] z0) (hs0:Xj z0≤4294967295) :
  Calls Tryz.prog 317 #[.agg #[.bool b0,.slice A0 n0 c0]] W (Ms W Ob (Yg (.int .i64 (Int.sign z0)))):=by
 obtain ⟨hx1,hz0⟩:=Yb hx0
 have hs0':sz z0.natAbs≤4294967295:=hs0
 have hsg:=Qs0 z0
 have hsz := @Nh z0.natAbs
 refine enter (vs:=[(.agg #[(.bool b0),(.slice A0 n0 c0)])]) (Ob:=Ob) (K:=fun b=>b<W.heap.size) (Fs:=[(Rel.intA).fact [(.bool b0),(.slice A0 n0 c0)] (z0),(Rel.natA).fact [(.slice A0 n0 c0)] (z0.natAbs)]) Tryz.func317 rfl Tryz.ntmps317 rfl (fun _ h=>h) hO (by simp only [Vw,No,or_false,forall_eq_or_imp,forall_eq,false_imp_iff,implies_true]; exact ⟨hx0,hx1⟩) fun a h=>?_
 refine Ql (Qt ?_)
 refine V2 h rfl rfl fun g1 w a h=>?_
 refine Qd h rfl rfl fun a h=>?_
 refine wpList_nil ?_
 refine Ql ?_
 refine wp_block ?_
 refine Ql (Qt ?_)
 refine Qu h rfl (Ja) rfl fun a h=>?_
 refine Zh h 0 rfl rfl Nn rfl rfl fun a h=>?_
 refine Q9 h Tryz.func305 rfl rfl rfl (Qlz _ _ (fun b=>h.owns_lt) (h.fact 1 rfl) (by omega)) rfl fun r w a hg hF h=>?_
 obtain rfl:=hF
 refine Zk h rfl rfl rfl rfl fun a h=>?_
 refine Qd h rfl rfl fun a h=>?_
 refine wpList_nil ?_
 refine Yo h rfl (fun hb_if1=>?_) (fun hb_if1=>?_)
 ·try simp only [decide_eq_true_eq,decide_eq_false_iff_not,Vc,Vb] at hb_if1
  refine Ql (Qt ?_)
  refine Qd h rfl rfl fun a h=>?_
  refine wpList_nil ?_
  refine wp_ret ?_
  exact Vp Tryz.results317 h (Zj h rfl) ⟨_,rfl,h.grow0,congrArg _ (by rw [hsg]; (try rw [hb_if2] at hz0); (try simp only [if_true,if_false,qXd] at hz0); split <;> (try split) <;> omega)⟩
 try simp only [decide_eq_true_eq,decide_eq_false_iff_not,Vc,Vb] at hb_if1
 refine Ql (Qt ?_)
 refine Qu h rfl (Jn) rfl fun a h=>?_
 refine Zh h 0 rfl rfl Mn rfl rfl fun a h=>?_
 refine Qd h rfl rfl fun a h=>?_
 refine wpList_nil ?_
 refine Yo h rfl (fun hb_if2=>?_) (fun hb_if2=>?_)
 ·try simp only [decide_eq_true_eq,decide_eq_false_iff_not,Vc,Vb] at hb_if2
  refine Ql (Qt ?_)
  refine Qd h rfl rfl fun a h=>?_
  refine wpList_nil ?_
  refine wp_ret ?_
  exact Vp Tryz.results317 h (Zj h rfl) ⟨_,rfl,h.grow0,congrArg _ (by rw [hsg]; (try rw [hb_if2] at hz0); (try simp only [if_true,if_false,qXd] at hz0); split <;> (try split) <;> omega)⟩
 try simp only [decide_eq_true_eq,decide_eq_false_iff_not,Vc,Vb] at hb_if2
 refine wp_skip ?_
 refine Ql (Qt ?_)
 refine Qd h rfl rfl fun a h=>?_
 refine wpList_nil ?_
 refine wp_ret ?_
 exact Vp Tryz.results317 h (Zj h rfl) ⟨_,rfl,h.grow0,congrArg _ (by rw [hsg]; (try rw [hb_if2] at hz0); (try simp only [if_true,if_false,qXd] at hz0); split <;> (try split) <;> omega)⟩
set_option maxHeartbeats 1000000 in
theorem Qmz (hO:∀ b,Ob b→b<W.heap.size) {b0:Bool} {A0:Option Addr} {n0 c0:Nat} {z0:Int} {b1:Bool} {A1:Option Addr} {n1 c1:Nat} {z1:Int} (hx0:Rel.intA.at_ W Ob [.bool b0,.slice A0 n0 c0] z0) (hx1:Rel.intA.at_ W Ob [.bool b1,.slice A1 n1 c1] z1) (hs0:Xj z0≤4294967295) (hs1:Xj z1≤4294967295) :
  Calls Tryz.prog 291 #[.agg #[.bool b0,.slice A0 n0 c0],.agg #[.bool b1,.slice A1 n1 c1]] W (Ms W Ob (Yg (.int .i64 (Mx z0 z1)))):=by
 obtain ⟨hx2,hz0⟩:=Yb hx0
 obtain ⟨hx3,hz1⟩:=Yb hx1
 have hs0':sz z0.natAbs≤4294967295:=hs0
 have hs1':sz z1.natAbs≤4294967295:=hs1
 have hg0:=Nf z0
 have hg1:=Nf z1
 refine enter (vs:=[(.agg #[(.bool b0),(.slice A0 n0 c0)]),(.agg #[(.bool b1),(.slice A1 n1 c1)])]) (Ob:=Ob) (K:=fun b=>b<W.heap.size) (Fs:=[(Rel.intA).fact [(.bool b0),(.slice A0 n0 c0)] (z0),(Rel.intA).fact [(.bool b1),(.slice A1 n1 c1)] (z1),(Rel.natA).fact [(.slice A0 n0 c0)] (z0.natAbs),(Rel.natA).fact [(.slice A1 n1 c1)] (z1.natAbs)]) Tryz.func291 rfl Tryz.ntmps291 rfl (fun _ h=>h) hO (by simp only [Vw,No,or_false,forall_eq_or_imp,forall_eq,false_imp_iff,implies_true]; exact ⟨hx0,hx1,hx2,hx3⟩) fun a h=>?_
 refine Ql (Qt ?_)
 refine V2 h rfl rfl fun g1 w a h=>?_
 refine V2 h rfl rfl fun g2 w a h=>?_
 refine Qd h rfl rfl fun a h=>?_
 refine wpList_nil ?_
 refine Ql ?_
 refine Gf Qp 3 [some 7,some 8,some 9] [[],[0],[]] [(Yg (.agg #[(.bool b0),(.slice A0 n0 c0)])),(Yg (.int .i64 (Int.sign (z0)))),(Yg (.agg #[(.bool b1),(.slice A1 n1 c1)]))] rfl h rfl ⟨?_,?_,?_,trivial⟩ ?_
 ·intro dp hdp0 hdp dv Fx a w h
  refine Y9 h 1 rfl rfl H9 Yf rfl rfl fun a h=>?_
  refine wpList_nil ⟨rfl,?_⟩
  exact ⟨_,h.drawEnd (F':=[]) rfl rfl⟩
 ·intro dp hdp0 hdp dv Fx a w h
  have e3:dv 0=(.agg #[(.bool b0),(.slice A0 n0 c0)]):=h.fact 0 rfl
  replace h:=(h.spellE (t:=7) e3 rfl h)
  refine Q9 h Tryz.func317 rfl rfl rfl (Oj _ _ (fun b=>h.owns_lt) (h.fact 1 rfl) (by omega)) rfl fun r w a hg hF h=>?_
  obtain rfl:=hF
  refine wpList_nil ⟨rfl,?_⟩
  exact ⟨_,h.drawEnd (F':=[_]) rfl rfl⟩
 ·intro dp hdp0 hdp dv Fx a w h
  refine Y9 h 0 rfl rfl H9 Yf rfl rfl fun a h=>?_
  refine wpList_nil ⟨rfl,?_⟩
  exact ⟨_,h.drawEnd (F':=[]) rfl rfl⟩
 intro dv a w h
 have e4:dv 1=(.int .i64 (Int.sign (z0))):=h.fact 1 rfl
 have e5:dv 2=(.agg #[(.bool b1),(.slice A1 n1 c1)]):=h.fact 2 rfl
 have h2:=(h.spellE (t:=9) e5 rfl (h.spellE (t:=8) e4 rfl (h.consL (t:=4) rfl (h.consL (t:=3) rfl (h.consL (t:=2) rfl (h.consL (t:=1) rfl (h.consL (t:=0) rfl h.nilL)))))))
 have h3:=h2.noFacts
 have h3:=h3.add (h2.fact 6 rfl)
 have h3:=h3.add (h2.fact 5 rfl)
 have h3:=h3.add (h2.fact 4 rfl)
 have h3:=h3.add (h2.fact 3 rfl)
 clear h2
 replace h:=h3
 clear h3
 refine Q9 h Tryz.func317 rfl rfl rfl (Oj _ _ (fun b=>h.owns_lt) (h.fact 1 rfl) (by omega)) rfl fun r w a hg hF h=>?_
 obtain rfl:=hF
 refine Qd h rfl rfl fun a h=>?_
 refine Qd h rfl rfl fun a h=>?_
 refine wpList_nil ?_
 refine Ql ?_
 refine wp_block ?_
 refine Ql (Qt ?_)
 refine Qa h rfl rfl fun a h=>?_
 refine Qa h rfl rfl fun a h=>?_
 refine Zk h rfl rfl rfl rfl fun a h=>?_
 refine Qd h rfl rfl fun a h=>?_
 refine wpList_nil ?_
 refine Yo h rfl (fun hb_if1=>?_) (fun hb_if1=>?_)
 ·try simp only [decide_eq_true_eq,decide_eq_false_iff_not,Vc,Vb] at hb_if1
  refine Ql (Qt ?_)
  refine Qd h rfl rfl fun a h=>?_
  refine wpList_nil ?_
  refine wp_ret ?_
  exact Vp Tryz.results291 h (Zj h rfl) ⟨_,rfl,h.grow0,congrArg _ (by unfold Mx; (try unfold Tx); split <;> (try split) <;> (try split) <;> (try split) <;> omega)⟩
 try simp only [decide_eq_true_eq,decide_eq_false_iff_not,Vc,Vb] at hb_if1
 refine Ql (Qt ?_)
 refine Qa h rfl rfl fun a h=>?_
 refine Qa h rfl rfl fun a h=>?_
 refine Zk h rfl rfl rfl rfl fun a h=>?_
 refine Qd h rfl rfl fun a h=>?_
 refine wpList_nil ?_
 refine Yo h rfl (fun hb_if2=>?_) (fun hb_if2=>?_)
 ·try simp only [decide_eq_true_eq,decide_eq_false_iff_not,Vc,Vb] at hb_if2
  refine Ql (Qt ?_)
  refine Qd h rfl rfl fun a h=>?_
  refine wpList_nil ?_
  refine wp_ret ?_
  exact Vp Tryz.results291 h (Zj h rfl) ⟨_,rfl,h.grow0,congrArg _ (by unfold Mx; (try unfold Tx); split <;> (try split) <;> (try split) <;> (try split) <;> omega)⟩
 try simp only [decide_eq_true_eq,decide_eq_false_iff_not,Vc,Vb] at hb_if2
 refine Ql (Qt ?_)
 refine Qa h rfl rfl fun a h=>?_
 refine Zk h rfl rfl rfl rfl fun a h=>?_
 refine Qd h rfl rfl fun a h=>?_
 refine wpList_nil ?_
 refine Yo h rfl (fun hb_if3=>?_) (fun hb_if3=>?_)
 ·try simp only [decide_eq_true_eq,decide_eq_false_iff_not,Vc,Vb] at hb_if3
  refine Ql (Qt ?_)
  refine Qu h rfl (Ja) rfl fun a h=>?_
  refine Zh h 0 rfl rfl Nn rfl rfl fun a h=>?_
  refine Qu h rfl (Ja) rfl fun a h=>?_
  refine Zh h 1 rfl rfl Nn rfl rfl fun a h=>?_
  refine Q9 h Tryz.func318 rfl rfl rfl (Ih _ _ (fun b=>h.owns_lt) (h.fact 3 rfl) (h.fact 2 rfl)) rfl fun r w a hg hF h=>?_
  obtain rfl:=hF
  refine Qd h rfl rfl fun a h=>?_
  refine wpList_nil ?_
  refine wp_ret ?_
  exact Vp Tryz.results291 h (Zj h rfl) ⟨_,rfl,h.grow0,congrArg _ (by unfold Mx; (try unfold Tx); split <;> (try split) <;> (try split) <;> (try split) <;> omega)⟩
 try simp only [decide_eq_true_eq,decide_eq_false_iff_not,Vc,Vb] at hb_if3
 refine wp_skip ?_
 refine Ql (Qt ?_)
 refine Qu h rfl (Ja) rfl fun a h=>?_
 refine Zh h 1 rfl rfl Nn rfl rfl fun a h=>?_
 refine Qu h rfl (Ja) rfl fun a h=>?_
 refine Zh h 0 rfl rfl Nn rfl rfl fun a h=>?_
 refine Q9 h Tryz.func318 rfl rfl rfl (Ih _ _ (fun b=>h.owns_lt) (h.fact 2 rfl) (h.fact 3 rfl)) rfl fun r w a hg hF h=>?_
 obtain rfl:=hF
 refine Qd h rfl rfl fun a h=>?_
 refine wpList_nil ?_
 refine wp_ret ?_
 exact Vp Tryz.results291 h (Zj h rfl) ⟨_,rfl,h.grow0,congrArg _ (by unfold Mx; (try unfold Tx); split <;> (try split) <;> (try split) <;> (try split) <;> omega)⟩
end Orr

namespace Orr
theorem Qlt {B X Y q top nx Yr h3 Xr p:Nat} (hY:Y=(top*B+nx)*p+Yr) (hX:X=h3*p+Xr) (hXr:Xr<p) (hq:q*Y≤X) {head x2:Nat} (h3e:h3=head*B+x2) (hx2:x2<B) (ht:0<top) :
    q≤head / top:=by
  rw [Nat.le_div_iff_mul_le ht]
  rcases Mq head (q*top) with h | h
  · exfalso
    have h1:(head+1)*B*p≤q*top*B*p:=O8 _ (O8 _ h)
    have h2:q*top*B*p≤q*Y:=by
      rw [hY,qJb]
      have:q*((top*B+nx)*p)=q*top*B*p+q*nx*p:=by grind
      omega
    have h4:h3*p+p≤(head+1)*B*p:=by
      have:(h3+1)*p≤(head+1)*B*p:=O8 _ (by rw [h3e,qJl]; omega)
      have e:(h3+1)*p=h3*p+p:=by grind
      omega
    omega
  · exact h
theorem Qnz {B X Y q top nx Yr h3 Xr p g r head x2:Nat} (hY:Y=(top*B+nx)*p+Yr) (hX:X=h3*p+Xr) (hXr:Xr<p) (hq:q*Y≤X) (h3e:h3=head*B+x2) (hg:g*top+r=head)
    (hc:g*nx>r*B+x2) (hle:q≤g):q≤g-1:=by
  rcases Nat.eq_or_lt_of_le hle with h | h
  · exfalso
    subst h
    have h1:h3+1≤q*(top*B+nx):=by
      have e:q*(top*B+nx)=q*top*B+q*nx:=by grind
      have e2:head*B=q*top*B+r*B:=by rw [←hg]; grind
      rw [h3e,e,e2]; omega
    have h2:(h3+1)*p≤q*(top*B+nx)*p:=O8 _ h1
    have h4:q*(top*B+nx)*p≤q*Y:=by
      have:q*((top*B+nx)*p)=q*(top*B+nx)*p:=by grind
      rw [hY,qJb q ((top*B+nx)*p) Yr,this]; exact Nat.le_add_right _ _
    have e:(h3+1)*p=h3*p+p:=by grind
    omega
  · omega
theorem Qre {B X Y top nx Yr h3 Xr p g r head x2:Nat} (hY:Y=(top*B+nx)*p+Yr) (hYr:Yr<p) (hX:X=h3*p+Xr) (h3e:h3=head*B+x2) (hg:g*top+r=head) (ht:0<top)
    (hc:g*nx≤r*B+x2) (hgB:g≤B):(g-1)*Y≤X:=by
  rcases Hl g with h0 | h0
  · subst h0; simp
  · obtain ⟨k,rfl⟩:∃ k,g=k+1:=⟨g-1,by omega⟩
    simp only [qYz]
    have h1:(k+1)*(top*B+nx)≤h3:=by
      have e:(k+1)*(top*B+nx)=(k+1)*top*B+(k+1)*nx:=by grind
      have e2:head*B=(k+1)*top*B+r*B:=by rw [←hg]; grind
      rw [h3e,e,e2]; omega
    have h2:(k+1)*(top*B+nx)*p≤h3*p:=O8 _ h1
    have h3':k*Yr≤k*p:=qXa _ (by omega)
    have h5:B≤top*B:=Nat.le_mul_of_pos_left _ ht
    have h4:k*p≤(top*B+nx)*p:=O8 _ (by omega)
    have e1:k*Y=k*(top*B+nx)*p+k*Yr:=by rw [hY]; grind
    have e2:(k+1)*(top*B+nx)*p=k*(top*B+nx)*p+(top*B+nx)*p:=by grind
    omega
theorem Qfw {o x y:List Nat} {i u w g c b p s:Nat} (ho:i<o.length) (hu:x[i]? = some u) (hw:y[i]? = some w) (hub:u<4294967296) (hb:b≤1)
    (h:val (o.take i)+g*val (y.take i)=val (x.take i)+(c+b)*4294967296^i) (hp:p=g*w+c)
    (hs:s=((u+18446744073709551616-p % 4294967296) % 18446744073709551616+18446744073709551616-b) % 18446744073709551616) :
    val ((o.set i (s % 4294967296)).take (i+1))+g*val (y.take (i+1))=val (x.take (i+1))+(p / 4294967296+s / 9223372036854775808)*4294967296^(i+1)∧s / 9223372036854775808≤1:=by
  rw [Hy o i _ ho,Xi x i u hu,Xi y i w hw,Nc]
  have ep:p=4294967296*(p / 4294967296)+p % 4294967296:=(qXi p 4294967296).symm
  have hpl:p % 4294967296<4294967296:=Tv _ (by decide)
  generalize p / 4294967296=ph at *
  generalize p % 4294967296=pl at *
  have key:s % 4294967296+pl+b=u+(s / 9223372036854775808)*4294967296∧s / 9223372036854775808≤1:=by omega
  refine ⟨?_,key.2⟩
  have k1:=key.1
  generalize s % 4294967296=m at *
  generalize s / 9223372036854775808=b' at *
  generalize (4294967296:Nat)^i=P at *
  clear hs hub hu hw ho hpl key
  have e1:g*(val (y.take i)+P*w)=g*val (y.take i)+P*(g*w):=by grind
  have e2:g*w+c=4294967296*ph+pl:=by omega
  have e3:P*(g*w)+P*c=P*(4294967296*ph)+P*pl:=by rw [←qJb,←qJb,e2]
  have e4:P*m+P*pl+P*b=P*u+P*(b'*4294967296):=by rw [←qJb,←qJb,←qJb,k1]
  grind
end Orr

namespace Orr
theorem Qda {o x y:List Nat} {i u w g c b:Nat} (ho:i<o.length) (hu:x[i]? = some u) (hw:y[i]? = some w) (hub:u<4294967296) (hb:b≤1)
    (h:val (o.take i)+g*val (y.take i)=val (x.take i)+(c+b)*4294967296^i) {p s:Nat} (hp:p=g*w+c)
    (hs:s=((u+18446744073709551616-p % 4294967296) % 18446744073709551616+18446744073709551616-b) % 18446744073709551616) :
    val ((o.set i (s % 4294967296)).take (i+1))+g*val (y.take (i+1))=val (x.take (i+1))+(p / 2^32+s / 2^63)*4294967296^(i+1)∧s / 2^63≤1 :=
  Qfw ho hu hw hub hb h hp hs
theorem Ku {l:List Nat} {k c:Nat} (hl:l.length=k+1) (hc:l[k]? = some c):val l=val (l.take k)+4294967296^k*c:=by
  rw [←Xi l k c hc,Y0 (by omega)]
theorem U0 {l:List Nat} (hb:∀ u∈l,u<4294967296) {k:Nat} (hk:k≤l.length):val (l.take k)<4294967296^k:=by
  have:=F3 (l.take k) (fun u hu=>hb u (Rx hu))
  rwa [Kd,Nb hk] at this
theorem N8 {o x:List Nat} {i:Nat} (h:o.drop i=x.drop i):o[i]? = x[i]? := by
  have:=congrArg (·[0]?) h
  simpa using this
theorem Qaq {o x:List Nat} {i v:Nat} (h:o.drop i=x.drop i):(o.set i v).drop (i+1)=x.drop (i+1):=by
  rw [Av o i v (i+1) (by omega)]
  have:=congrArg (List.drop 1) h
  simpa [List.drop_drop] using this
structure Dig (x l:List Nat) (n top nx xn x1 x2:Nat):Prop where
  hn:2≤n
  hl:l.length=n
  hx:x.length=n+1
  lb:∀ u∈l,u<4294967296
  xb:∀ u∈x,u<4294967296
  ltop:l[n-1]? = some top
  lnx:l[n-2]? = some nx
  xn:x[n]? = some xn
  x1:x[n-1]? = some x1
  x2:x[n-2]? = some x2
  top0:0<top
  lt:val x<val l*4294967296
section
variable {x l:List Nat} {n top nx xn x1 x2:Nat} (D:Dig x l n top nx xn x1 x2)
include D
theorem Dig.parts:∃ p Yr Xr,val l=(top*4294967296+nx)*p+Yr∧Yr<p∧val x=((xn*2^32+x1)*4294967296+x2)*p+Xr∧Xr<p:=by
  obtain ⟨hn,hl,hx,lb,xb,ltop,lnx,exn,ex1,ex2,_,_⟩:=D
  obtain ⟨k,rfl⟩:∃ k,n=k+2:=⟨n-2,by omega⟩
  simp only [show k+2-1=k+1 from by omega,qYz] at *
  refine ⟨4294967296^k,val (l.take k),val (x.take k),?_,U0 lb (by omega),?_,U0 xb (by omega)⟩
  · rw [Ku hl ltop,Xi l k nx lnx,Nc]
    generalize (4294967296:Nat)^k=p
    grind
  · have e32:(2:Nat)^32=4294967296:=by decide
    have q1:(4294967296:Nat)^(k+1)=4294967296^k*4294967296:=Nc _ _
    have q2:(4294967296:Nat)^(k+2)=4294967296^k*4294967296*4294967296:=by rw [←q1]; exact Nc _ _
    rw [Ku hx exn,Xi x (k+1) x1 ex1,Xi x k x2 ex2,q1,q2,e32]
    clear q1 q2
    generalize (4294967296:Nat)^k=p
    grind
theorem Dig.Ypos:0<val l:=by
  obtain ⟨p,Yr,Xr,hY,hYr,_,_⟩:=D.parts
  have h1:0<top*4294967296+nx:=by have:=D.top0; omega
  have:=qVr h1 (show 0<p by omega)
  omega
theorem Dig.qlt:val x / val l<4294967296:=Nat.div_lt_of_lt_mul D.lt
theorem Dig.qle:val x / val l*val l≤val x:=Nat.div_mul_le_self _ _
theorem Dig.bnd:top<4294967296∧nx<4294967296∧xn<4294967296∧x1<4294967296∧x2<4294967296 :=
  ⟨D.lb _ (Vo D.ltop),D.lb _ (Vo D.lnx),D.xb _ (Vo D.xn),D.xb _ (Vo D.x1),D.xb _ (Vo D.x2)⟩
theorem Dig.head_le:xn*2^32+x1<top*4294967296+4294967296:=by
  obtain ⟨p,Yr,Xr,hY,hYr,hX,hXr⟩:=D.parts
  have hlt:=D.lt
  have hb:=D.bnd
  have e32:(2:Nat)^32=4294967296:=by decide
  rw [e32] at hX ⊢
  rcases Mq xn (top+1) with h | h
  · omega
  · exfalso
    have h1:val l<(top+1)*4294967296*p:=by
      have h2:(top*4294967296+nx+1)*p≤(top+1)*4294967296*p:=O8 _ (by omega)
      have e:(top*4294967296+nx+1)*p=(top*4294967296+nx)*p+p:=by grind
      omega
    have h3:(top+1)*4294967296*4294967296*p≤((xn*4294967296+x1)*4294967296+x2)*p:=O8 _ (by omega)
    have h4:val l*4294967296<(top+1)*4294967296*p*4294967296:=qXx h1 (by decide)
    have e2:(top+1)*4294967296*p*4294967296=(top+1)*4294967296*4294967296*p:=by
      generalize (4294967296:Nat)=B; grind
    omega
theorem Dig.start:val x / val l≤(xn*2^32+x1) / top:=by
  obtain ⟨p,Yr,Xr,hY,hYr,hX,hXr⟩:=D.parts
  exact Qlt hY hX hXr D.qle rfl D.bnd.2.2.2.2 D.top0
theorem Dig.fin {g r:Nat} (hg:g*top+r=xn*2^32+x1) (hc:g*nx≤r*2^32+x2) (hB:g≤4294967296):(g-1)*val l≤val x:=by
  obtain ⟨p,Yr,Xr,hY,hYr,hX,hXr⟩:=D.parts
  have e32:(2:Nat)^32=4294967296:=by decide
  rw [e32] at hc
  exact Qre hY hYr hX rfl hg D.top0 hc hB
theorem Dig.round {g r:Nat} (hg:g*top+r=xn*2^32+x1) (hq:val x / val l≤g) (hc:4294967296≤g∨r*2^32+x2<g*nx) :
    1≤g∧val x / val l≤g-1∧(g-1)*top+(r+top)=xn*2^32+x1∧(4294967296≤r+top→(g-1-1)*val l≤val x∧g-1≤4294967296):=by
  have e32:(2:Nat)^32=4294967296:=by decide
  have hb:=D.bnd
  have h1:1≤g:=by
    rcases hc with h | h
    · omega
    · rcases Hl g with h0 | h0
      · subst h0; simp at h
      · exact h0
  have h2:val x / val l≤g-1:=by
    rcases hc with h | h
    · have:=D.qlt; omega
    · obtain ⟨p,Yr,Xr,hY,hYr,hX,hXr⟩:=D.parts
      rw [e32] at h
      exact Qnz hY hX hXr D.qle rfl hg h hq
  obtain ⟨k,rfl⟩:∃ k,g=k+1:=⟨g-1,by omega⟩
  simp only [qYz] at h2 ⊢
  have h3:k*top+(r+top)=xn*2^32+x1:=by rw [←hg,qJl]; omega
  refine ⟨h1,h2,h3,fun hr=>?_⟩
  have hk:k<4294967296:=by
    have hh:=D.head_le
    rcases Mq k 4294967296 with h | h
    · exact h
    · have:=O8 top h
      omega
  refine ⟨D.fin h3 ?_ (by omega),by omega⟩
  have h4:=Su hk hb.2.1
  rw [e32]
  have h5:4294967296*4294967296≤(r+top)*4294967296:=O8 _ hr
  omega
theorem Dig.fin0 {o:List Nat} {g c b s:Nat} (ho:o.length=n+1) (hc:c<4294967296) (hb:b≤1) (hq:val x / val l≤g)
    (h:val (o.take n)+g*val l=val (x.take n)+(c+b)*4294967296^n)
    (hs:s=((xn+18446744073709551616-c) % 18446744073709551616+18446744073709551616-b) % 18446744073709551616) (hs0:s / 2^63=0) :
    g % 4294967296=val x / val l∧val (o.set n (s % 4294967296))=val x % val l:=by
  have hbd:=D.bnd
  have e63:(2:Nat)^63=9223372036854775808:=by decide
  rw [e63] at hs0
  have hs1:s=xn-c-b∧c+b≤xn:=by omega
  have hsB:s % 4294967296=xn-c-b:=by omega
  have hset:(o.set n (s % 4294967296))[n]? = some (s % 4294967296):=by rw [qXr (by omega)]
  have ev:val (o.set n (s % 4294967296))=val (o.take n)+4294967296^n*(xn-c-b):=by
    rw [Ku (by rw [H6]; exact ho) hset,Ub,hsB]
  have eX:=Ku D.hx D.xn
  have key:val (o.set n (s % 4294967296))+g*val l=val x:=by
    rw [ev,eX]
    obtain ⟨m,rfl⟩:∃ m,xn=m+(c+b):=⟨xn-(c+b),by omega⟩
    rw [show m+(c+b)-c-b=m from by omega]
    generalize (4294967296:Nat)^n=p at *
    have:p*(m+(c+b))=p*m+(c+b)*p:=by grind
    omega
  have hg:g≤val x / val l:=by
    rw [Nat.le_div_iff_mul_le D.Ypos]; omega
  have hgq:g=val x / val l:=by omega
  have hgB:=D.qlt
  have hdm:=qXi (val x) (val l)
  rw [←hgq] at hdm hgB ⊢
  refine ⟨qJg hgB,?_⟩
  rw [O7] at hdm
  omega
theorem Dig.fin1 {o:List Nat} {g c b s:Nat} (ho:o.length=n+1) (hob:∀ u∈o,u<4294967296) (hc:c<4294967296) (hb:b≤1) (hg1:(g-1)*val l≤val x)
    (h:val (o.take n)+g*val l=val (x.take n)+(c+b)*4294967296^n)
    (hs:s=((xn+18446744073709551616-c) % 18446744073709551616+18446744073709551616-b) % 18446744073709551616) (hs0:¬s / 2^63=0) :
    g=val x / val l+1∧val (o.set n (s % 4294967296))+val l=val x % val l+4294967296^n*4294967296:=by
  have hbd:=D.bnd
  have e63:(2:Nat)^63=9223372036854775808:=by decide
  rw [e63] at hs0
  have hsB:s % 4294967296+(c+b)=xn+4294967296:=by omega
  have hset:(o.set n (s % 4294967296))[n]? = some (s % 4294967296):=by rw [qXr (by omega)]
  have hm:s % 4294967296<4294967296:=Tv _ (by decide)
  have ev:val (o.set n (s % 4294967296))=val (o.take n)+4294967296^n*(s % 4294967296):=by
    rw [Ku (by rw [H6]; exact ho) hset,Ub]
  have eX:=Ku D.hx D.xn
  have hlt:val (o.take n)<4294967296^n:=U0 hob (by omega)
  have key:val (o.set n (s % 4294967296))+g*val l=val x+4294967296^n*4294967296:=by
    rw [ev,eX]
    generalize (4294967296:Nat)^n=p at *
    have e1:p*(s % 4294967296+(c+b))=p*(xn+4294967296):=by rw [hsB]
    rw [qJb p (s % 4294967296) (c+b),qJb p xn,O7 p (c+b)] at e1
    omega
  have hvlt:val (o.set n (s % 4294967296))<4294967296^n*4294967296:=by
    have:=F3 (o.set n (s % 4294967296)) (Vi hob _ _ hm)
    rwa [H6,ho,Nc] at this
  have hq1:g-1≤val x / val l:=(Nat.le_div_iff_mul_le D.Ypos).2 hg1
  have hq2:val x / val l<g:=by
    rw [qVk D.Ypos]; omega
  have hgq:g=val x / val l+1:=by omega
  refine ⟨hgq,?_⟩
  have hdm:=qXi (val x) (val l)
  rw [hgq,qJl] at key
  rw [O7] at hdm
  omega
theorem Dig.fin2 {o1 o2:List Nat} {v bk:Nat} (h1:o1.length=n+1) (h1b:∀ u∈o1,u<4294967296) (h2:o2.length=n+1) (h2b:∀ u∈o2,u<4294967296) (hv:o1[n]? = some v) (hbk:bk≤1)
    (hk:val o1+val l=val x % val l+4294967296^n*4294967296) (h:val (o2.take n)+bk*4294967296^n=val (o1.take n)+val l) :
    val (o2.set n ((v+bk) % 4294967296))=val x % val l:=by
  have hset:(o2.set n ((v+bk) % 4294967296))[n]? = some ((v+bk) % 4294967296):=by rw [qXr (by omega)]
  rw [Ku (by rw [H6]; exact h2) hset,Ub]
  rw [Ku h1 hv] at hk
  have hvb:=h1b _ (Vo hv)
  have hlt:val (o2.take n)<4294967296^n:=U0 h2b (by omega)
  have hY:val l<4294967296^n:=by have:=F3 l D.lb; rwa [D.hl] at this
  have hR:val x % val l<val l:=Tv _ D.Ypos
  generalize (4294967296:Nat)^n=p at *
  have e:val (o2.take n)+p*(v+bk)=val x % val l+p*4294967296:=by
    rw [qJb,O7 p bk]; omega
  have hvk:v+bk=4294967296:=by
    rcases Nat.lt_trichotomy (v+bk) 4294967296 with h' | h' | h'
    · have:=qXa p h'
      rw [Nat.mul_succ] at this
      omega
    · exact h'
    · omega
  rw [hvk] at e ⊢
  simp
  omega
end
end Orr
namespace Orr
open Go
theorem Qjs {g:Nat} (h1:1≤g) (h2:g<18446744073709551616):(g+18446744073709551616-1) % 18446744073709551616=g-1:=by omega
theorem Qyb {g q:Nat} (h:g=q+1) (hq:q<4294967296):IntKind.u32.wrap (((g % 4294967296:Nat):Int)-1)=(q:Int):=by
  subst h
  simp [IntKind.wrap,IntKind.bits,IntKind.signed]
  omega
end Orr

namespace Orr
def Lq (o:List Nat) (i n:Nat):List Nat:=(o.drop i).take (n+1)
theorem P1 (o:List Nat) (i n:Nat):o.take i++Lq o i n++o.drop (i+n+1)=o:=by
  unfold Lq
  rw [P6,show o.drop (i+n+1)=(o.drop i).drop (n+1) from by rw [List.drop_drop]; congr 1]
  rw [Iy,Iy]
theorem Er {o:List Nat} {i n:Nat} (h:i+n<o.length):(Lq o i n).length=n+1:=by
  unfold Lq
  rw [Kd,Na]; omega
theorem Qtb {o:List Nat} {i n x:Nat} (h:x∈Lq o i n):x∈o:=Pr (Rx h)
theorem P0 (p w q:List Nat):val (p++w++q)=val p+4294967296^p.length*(val w+4294967296^w.length*val q):=by
  rw [P6,Uq,Uq]
structure Rest (o l:List Nat) (la n m:Nat):Prop where
  ol:o.length=la+1
  ob:∀ u∈o,u<4294967296
  ll:l.length=n
  lb:∀ u∈l,u<4294967296
  n2:2≤n
  top:4294967296^(n-1)≤val l
  hm:m+n≤la+1
  lt:val o<val l*4294967296^m
section
variable {o l:List Nat} {la n m:Nat}
theorem Rest.zero (R:Rest o l la n (m+1)):val (o.drop (m+n+1))=0:=by
  have hlen:=Er (o:=o) (i:=m) (n:=n) (by have:=R.ol; have:=R.hm; omega)
  have h1:=P0 (o.take m) (Lq o m n) (o.drop (m+n+1))
  rw [P1,hlen,Kd,Nb (by have:=R.ol; have:=R.hm; omega)] at h1
  have hY:val l<4294967296^n:=by have:=F3 l R.lb; rwa [R.ll] at this
  have hlt:=R.lt
  rcases Hl (val (o.drop (m+n+1))) with h | h
  · exact h
  · exfalso
    have h2:4294967296^m*(4294967296^(n+1)*1)≤4294967296^m*(val (Lq o m n)+4294967296^(n+1)*val (o.drop (m+n+1))) :=
      qXa _ (Xd (qXa _ h) (Nat.le_add_left _ _))
    have h3:val l*4294967296^(m+1)<4294967296^n*4294967296^(m+1):=qXx hY (qXt (by decide))
    have e:(4294967296:Nat)^n*4294967296^(m+1)=4294967296^m*(4294967296^(n+1)*1):=by
      rw [qYp,←qJn,←qJn]; congr 1; omega
    omega
theorem Rest.dig (R:Rest o l la n (m+1)):∃ top nx xn x1 x2,Dig (Lq o m n) l n top nx xn x1 x2:=by
  have hwl:=Er (o:=o) (i:=m) (n:=n) (by have:=R.ol; have:=R.hm; omega)
  have hz:=R.zero
  obtain ⟨ol,ob,ll,lb,n2,htop,hm,hlt⟩:=R
  have g1:∀ k,k<n+1→∃ u,(Lq o m n)[k]? = some u:=fun k hk=>⟨_,Xx (by omega)⟩
  have g2:∀ k,k<n→∃ u,l[k]? = some u:=fun k hk=>⟨_,Xx (by omega)⟩
  obtain ⟨top,ht⟩:=g2 (n-1) (by omega)
  obtain ⟨nx,hnx⟩:=g2 (n-2) (by omega)
  obtain ⟨xn,hxn⟩:=g1 n (by omega)
  obtain ⟨x1,hx1⟩:=g1 (n-1) (by omega)
  obtain ⟨x2,hx2⟩:=g1 (n-2) (by omega)
  have h1:=P0 (o.take m) (Lq o m n) (o.drop (m+n+1))
  rw [P1,hz,Kd,Nb (by omega)] at h1
  refine ⟨top,nx,xn,x1,x2,n2,ll,hwl,lb,fun u hu=>ob u (Qtb hu),ht,hnx,hxn,hx1,hx2,?_,?_⟩
  · rcases Hl top with h0 | h0
    · exfalso
      subst h0
      have e:=Ku (l:=l) (k:=n-1) (by omega) ht
      have:=U0 lb (k:=n-1) (by omega)
      omega
    · exact h0
  · rcases Mq (val (Lq o m n)) (val l*4294967296) with h | h
    · exact h
    · exfalso
      have h2:4294967296^m*(val l*4294967296)≤4294967296^m*(val (Lq o m n)):=qXa _ h
      have e:val l*(4294967296:Nat)^(m+1)=4294967296^m*(val l*4294967296):=by
        rw [Nc]; generalize (4294967296:Nat)^m=p; grind
      simp only [qXz,Mp] at h1
      omega
theorem Rest.next (R:Rest o l la n (m+1)) {w':List Nat} (hw:w'.length=(Lq o m n).length) (hb:∀ u∈w',u<4294967296) (hv:val w'=val (Lq o m n) % val l) {X0:Nat} {q:List Nat} (hq:m<q.length)
    (hX:val (q.drop (m+1))*4294967296^(m+1)*val l+val o=X0) :
    Rest (o.take m++w'++o.drop (m+n+1)) l la n m∧val ((q.set m (val (Lq o m n) / val l)).drop m)*4294967296^m*val l+val (o.take m++w'++o.drop (m+n+1))=X0:=by
  have hwl:=Er (o:=o) (i:=m) (n:=n) (by have:=R.ol; have:=R.hm; omega)
  have hz:=R.zero
  obtain ⟨ol,ob,ll,lb,n2,htop,hm,hlt⟩:=R
  have hY:0<val l:=qZv (qXt (by decide)) htop
  have h1:=P0 (o.take m) (Lq o m n) (o.drop (m+n+1))
  have h2:=P0 (o.take m) w' (o.drop (m+n+1))
  rw [P1,hz,Kd,Nb (by omega)] at h1
  rw [hz,Kd,Nb (by omega)] at h2
  simp only [qXz,Mp] at h1 h2
  have hp:=U0 ob (k:=m) (by omega)
  have hr:val w'<val l:=by rw [hv]; exact Tv _ hY
  have hdm:=qXi (val (Lq o m n)) (val l)
  rw [←hv] at hdm
  refine ⟨⟨?_,?_,ll,lb,n2,htop,by omega,?_⟩,?_⟩
  · simp only [Fl,Kd,Na,hw,hwl]; omega
  · intro u hu
    rcases Y7.1 hu with hu | hu
    · rcases Y7.1 hu with hu | hu
      · exact ob u (Rx hu)
      · exact hb u hu
    · exact ob u (Pr hu)
  · rw [h2]
    have:4294967296^m*(val w'+1)≤4294967296^m*val l:=qXa _ hr
    rw [O7 (val l)]
    rw [qJb] at this
    omega
  · have hset:(q.set m (val (Lq o m n) / val l))[m]? = some (val (Lq o m n) / val l):=by rw [qXr hq]
    rw [Pd _ m _ hset,Av q m _ (m+1) (by omega),h2,←hX,h1,Nc]
    generalize val (Lq o m n) / val l=d at *
    generalize (4294967296:Nat)^m=p at *
    generalize val (q.drop (m+1))=Q at *
    have e:p*val (Lq o m n)=p*(val l*d)+p*val w':=by rw [←hdm,qJb]
    rw [e]
    clear h1 h2 hX hset hp hdm hv hz hwl hlt
    generalize val (o.take m)=A
    generalize (4294967296:Nat)=B
    grind
end
theorem Qio {x y:Nat} {X Y:List Nat} {la n s:Nat} (hX:val X=x*2^s) (hY:val Y=y*2^s) (hXl:X.length=la+1) (hXb:∀ u∈X,u<4294967296) (hYl:Y.length=n) (hYb:∀ u∈Y,u<4294967296) (hn:2≤n)
    (hx:x<4294967296^la) (hy:4294967296^(n-1)≤y) (hle:n≤la):Rest X Y la n (la-n+1):=by
  have hs:0<2^s:=qXt (by decide)
  refine ⟨hXl,hXb,hYl,hYb,hn,?_,by omega,?_⟩
  · rw [hY]
    have:=qJd hy hs
    omega
  · rw [hX,hY]
    have h1:x*2^s<4294967296^la*2^s:=qXx hx hs
    have h2:4294967296^(n-1)*2^s*4294967296^(la-n+1)≤y*2^s*4294967296^(la-n+1):=O8 _ (O8 _ hy)
    have e:4294967296^(n-1)*2^s*4294967296^(la-n+1)=4294967296^la*2^s:=by
      rw [Nat.mul_right_comm,←qJn]; congr 2; omega
    omega
theorem Qpc {x y s r:Nat} {q:List Nat} (hy:0<y) (h:val q*(y*2^s)+r=x*2^s) (hr:r<y*2^s):val q=x / y∧r=x % y*2^s:=by
  have hs:0<2^s:=qXt (by decide)
  have e1:x*2^s / (y*2^s)=val q:=by
    rw [←h,O7,Nat.mul_add_div (qVr hy hs),Nat.div_eq_of_lt hr,Mp]
  have e2:x*2^s % (y*2^s)=r:=by
    rw [←h,O7 (val q),Nat.mul_add_mod,qJg hr]
  rw [Nat.mul_div_mul_right _ _ hs] at e1
  rw [Nat.mul_mod_mul_right] at e2
  exact ⟨e1.symm,e2.symm⟩
end Orr
namespace Orr
theorem Qjc {o:List Nat} {n:Nat} (hn:n≤o.length) (h:val o<4294967296^n):val (o.take n)=val o:=by
  have h1:val o=val (o.take n)+4294967296^(o.take n).length*val (o.drop n):=by rw [←Uq,Iy]
  rw [Kd,Nb hn] at h1
  rcases Hl (val (o.drop n)) with h0 | h0
  · rw [h0] at h1; omega
  · have:=qXa (4294967296^n) h0
    omega
theorem Qd8 (o:List Nat) (n:Nat):∀ i,i<(o.take n).length→(Y1 o)[i]? = (Y1 (o.take n))[i]? := by
  intro i hi
  rw [W7,W7,Ei,if_pos (by rw [Kd] at hi; omega)]
end Orr
