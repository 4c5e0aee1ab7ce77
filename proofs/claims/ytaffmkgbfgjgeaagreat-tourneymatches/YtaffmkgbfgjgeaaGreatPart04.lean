/- Knuth Whole2 Za PolyL RatL CrvL CrowdL PredL CertL PairL DigL -/
import Derived.Test.YtaffmkgbfgjgeaaGreatPart03
import Derived.Test.YtaffmkgbfgjgeaaGreatPart00
import Derived.Test.YtaffmkgbfgjgeaaGreatPart02
import Derived.Test.YtaffmkgbfgjgeaaGreatPart01
set_option linter.all false

namespace Orr
open Go Go.Proofs
variable (Ob:Nat→Prop) (W:World)
set_option maxHeartbeats 1000000 in
theorem Qlc (hO:∀ b,Ob b→b<W.heap.size) {x:Nat} (hs:x<4294967296) :
  Calls Tryz.prog 333 #[.int .u32 (x:Int)] W (Ms W Ob (Yg (.int .i64 ((32-sz x:Nat):Int)))):=by
 have hsz:sz x≤32:=Ks.2 (by omega)
 refine enter (vs:=[(.int .u32 (x:Int))]) (Ob:=Ob) (K:=fun b=>b<W.heap.size) (Fs:=[]) Tryz.func333 rfl Tryz.ntmps333 rfl (fun _ h=>h) hO (fun f hf=>by cases hf) fun a h=>?_
 refine Ql (Qt ?_)
 refine Qd h rfl rfl fun a h=>?_
 refine wpList_nil ?_
 refine Ql (Qt ?_)
 refine Qa h rfl rfl fun a h=>?_
 refine Q9 h Tryz.func329 rfl rfl rfl (E1 _ _ (fun b=>h.owns_lt) (by omega)) rfl fun r w a hg hF h=>?_
 obtain rfl:=hF
 refine Vk h rfl rfl (by omega) rfl fun a h=>?_
 refine Qd h rfl rfl fun a h=>?_
 refine wpList_nil ?_
 refine wp_ret ?_
 exact Vp Tryz.results333 h (Zj h rfl) ⟨_,rfl,h.grow0,congrArg _ (by omega)⟩
set_option maxHeartbeats 1000000 in
theorem Qoc (hO:∀ b,Ob b→b<W.heap.size) {A:Option Addr} {n c x s:Nat} (hx0:Rel.natA.at_ W Ob [.slice A n c] x) (hsx:sz x≤4294967400) (hs:s≤31) :
  Calls Tryz.prog 338 #[.slice A n c,.int .i64 (s:Int)] W (Ms W Ob (Rel.natN.sliceF (x*2^s))):=by
 refine enter (vs:=[(.slice A n c),(.int .i64 (s:Int))]) (Ob:=Ob) (K:=fun b=>b<W.heap.size) (Fs:=[(Rel.natA).fact [.slice A n c] (x)]) Tryz.func338 rfl Tryz.ntmps338 rfl (fun _ h=>h) hO (by simp only [Vw,No,or_false,forall_eq_or_imp,forall_eq,false_imp_iff,implies_true]; exact hx0) fun a h=>?_
 refine Ql (Qt ?_)
 refine Qd h rfl rfl fun a h=>?_
 refine wpList_nil ?_
 refine Ql (Qt ?_)
 refine Qa h rfl rfl fun a h=>?_
 refine Q9 h Eg rfl rfl rfl (Jb _ _ (fun b=>h.owns_lt) (h.fact 0 rfl)) rfl fun r w a hg hF h=>?_
 obtain ⟨A1,n2,c3,e5,f4⟩:=hF
 subst e5
 have h:=h.add (f:=(Rel.natN).fact [(.slice A1 n2 c3)] (x)) f4
 refine Qd h rfl rfl fun a h=>?_
 refine wpList_nil ?_
 refine Ql (Qt ?_)
 refine Qa h rfl rfl fun a h=>?_
 refine Qi3 (r:=(s:Int)) h rfl rfl (by split <;> omega) rfl fun a h=>?_
 refine Qi2 (r:=(s:Int)) h rfl rfl (by split <;> omega) rfl fun a h=>?_
 refine Qd h rfl rfl fun a h=>?_
 refine wpList_nil ?_
 refine Ql (Ql (Qt ?_))
 refine Qa h rfl rfl fun a h=>?_
 refine Zz h rfl Jc rfl fun a h=>?_
 obtain ⟨l,hl1,hl2,hl3⟩:=h.fact 0 rfl
 have h:=h.add (f:=Rel.row32.fact [(.slice A1 n2 c3)] l) hl1
 obtain ⟨el,_,_⟩:=Jv hl1
 have hszl:=K9 hl2
 rw [hl3] at hszl
 have h38:(2:Nat)^38=274877906944:=by decide
 have h47:(2:Nat)^47=140737488355328:=by decide
 have h63:(2:Nat)^63=9223372036854775808:=by decide
 refine Zk h rfl rfl rfl rfl fun a h=>?_
 refine wpList_nil ?_
 refine Yo h rfl (fun hb_if1=>?_) (fun hb_if1=>?_)
 ·try simp only [decide_eq_true_eq,decide_eq_false_iff_not,Vc,Vb] at hb_if1
  refine Ql (Qt ?_)
  refine Qd h rfl rfl fun a h=>?_
  refine wpList_nil ?_
  refine wp_ret ?_
  exact Vp Tryz.results338 h (Zj h rfl) ⟨_,rfl,h.grow0,_,_,_,rfl,by rw [show x=0 from hl3 ▸ (Fe hl2).2 (P5 (by omega)),qYr]; exact Bu⟩
 try simp only [decide_eq_true_eq,decide_eq_false_iff_not,Vc,Vb] at hb_if1
 refine wp_skip ?_
 refine Ql (Qt ?_)
 refine Qa h rfl rfl fun a h=>?_
 refine Qdw h rfl rfl (by omega) rfl fun a h=>?_
 replace h:=h.respell (u:=.int .i64 (0:Int)) (congrArg _ (Qt2 hs))
 refine Qa h rfl rfl fun a h=>?_
 refine Qdx h rfl rfl (by omega) rfl fun a h=>?_
 replace h:=h.respell (u:=.int .i64 (s:Int)) (congrArg _ (Qt3 hs))
 refine X9 (p:=s) h rfl (by omega) qWj Tryz.runUnderlying319 rfl fun a h=>?_
 refine Qd h rfl rfl fun a h=>?_
 refine Qd h rfl rfl fun a h=>?_
 refine wpList_nil ?_
 refine Ql (Qt ?_)
 refine Qa h rfl rfl fun a h=>?_
 refine Zz h rfl Jc rfl fun a h=>?_
 refine Qa h rfl rfl fun a h=>?_
 refine Z2 h rfl rfl (by omega) rfl fun a h=>?_
 refine Z2 h rfl rfl (by omega) rfl fun a h=>?_
 refine F8 (m:=(n2+1)) (zs:=[(.int .u32 0)]) h (rfl) (rfl) Jc qUj rfl Y4 qWl rfl rfl (by omega) rfl fun g6 w a h=>?_
 replace h:=h.respellB (Ws _)
 refine Qd h rfl rfl fun a h=>?_
 refine wpList_nil ?_
 refine Ql (Ql (Qt ?_))
 refine Qa h rfl rfl fun a h=>?_
 refine Zz h rfl Jc rfl fun a h=>?_
 refine Qa h rfl rfl fun a h=>?_
 refine wpList_nil ?_
 refine wp_block ?_
 refine Gc (fun m a w'=>∃ i o,i≤n2∧o.length=n2+1∧(∀ x∈o,x<4294967296)∧(∃ z,o[i]? = some z∧z<2^s)∧val (o.take (i+1))=val (l.take i)*2^s∧m=n2-i∧St (fun b=>b<W.heap.size) Ob W w' a 67 [(0,(.slice A1 n2 c3)),(5,(.int .i64 0)),(6,(.int .u64 ((s:Nat):Int))),(7,(.slice (some ⟨g6,0,none⟩) (n2+1) (n2+1))),(30,(.slice A1 n2 c3)),(31,(.int .i64 (n2:Int))),(32,(.int .i64 (i:Int)))] [(Rel.row32).fact [(.slice A1 n2 c3)] (l)] [(g6,276,Y1 o)]) (m:=_) (⟨0,List.replicate (n2+1) 0,by omega,by simp,by simp,⟨0,by simp,qXt (by decide)⟩,by simp [val],rfl,((h.consL (t:=0) rfl (h.consL (t:=5) rfl (h.consL (t:=6) rfl (h.consL (t:=7) rfl (h.consL (t:=30) rfl (h.consL (t:=31) rfl (h.consL (t:=32) rfl h.nilL))))))).noFacts.add (h.fact 0 rfl))⟩) ?_
 clear h
 rintro m a w ⟨i,o,hp0,hp1,hp2,hp3,hp4,hm,h⟩
 by_cases hlt:i<n2
 ·obtain ⟨b1,o1,rfl,_,_,_⟩:=Yn (h.fact 0 rfl) (i:=i) (by omega)
  obtain ⟨x1,hx1⟩:∃ x,l[i]? = some x:=⟨_,Xx (by omega)⟩
  have hx1b:=Wh (h.fact 0 rfl) _ (Vo hx1)
  obtain ⟨z,hz,hzs⟩:=hp3
  have hzb:=hp2 _ (Vo hz)
  have hstep:=Qpp hs hx1 hx1b hz hzs (by omega) hp4
  have hxs:=Qvt hs hx1b
  refine Ql (Qt ?_)
  refine Zk h rfl rfl rfl rfl fun a h=>?_
  refine wpList_nil ?_
  refine Ql ?_
  refine K3 h rfl (by simp; omega) ?_
  refine wp_skip ?_
  refine Ql ?_
  refine wp_block ?_
  refine Ql (Qt ?_)
  refine Qa h rfl rfl fun a h=>?_
  refine Q5 (i) h rfl rfl Jc Y4 (rfl) (by omega) rfl fun a h=>?_
  refine Xc h rfl Sz (X8 (h.fact 0 rfl) hx1) rfl fun a h=>?_
  refine Qd h rfl rfl fun a h=>?_
  refine Qd h rfl rfl fun a h=>?_
  refine wpList_nil ?_
  refine Ql (Qt ?_)
  refine Qa h rfl rfl fun a h=>?_
  refine X9 (p:=x1) h rfl (by omega) Uo Fy rfl fun a h=>?_
  refine Qa h rfl rfl fun a h=>?_
  refine Cc (p:=x1) (m:=s) h rfl rfl (by omega) (by omega) rfl fun a h=>?_
  refine Qd h rfl rfl fun a h=>?_
  refine wpList_nil ?_
  refine Ql (Qt ?_)
  refine Qa h rfl rfl fun a h=>?_
  refine Qa h rfl rfl fun a h=>?_
  refine Qa h rfl rfl fun a h=>?_
  refine Z2 h rfl rfl (by omega) rfl fun a h=>?_
  refine Qa h rfl rfl fun a h=>?_
  refine Qa h rfl rfl fun a h=>?_
  refine Qa h rfl rfl fun a h=>?_
  refine Z2 h rfl rfl (by omega) rfl fun a h=>?_
  refine Q5 (i) h rfl rfl Jc Y4 (by omega) (by omega) rfl fun a h=>?_
  refine Xc h rfl Sz (h.u32s_cell hz) rfl fun a h=>?_
  refine Qa h rfl rfl fun a h=>?_
  refine Jh (p:=(x1)*2^s) h rfl Fy Uo rfl fun a h=>?_
  refine Qs6 (s:=s) (p:=z) (q:=(x1)*2^s % 4294967296) h rfl rfl hstep.2.2.2 hzs (by omega) (Tv _ (by decide)) hstep.1 rfl fun a h=>?_
  refine Q5 (i) h rfl rfl Jc Y4 (by omega) (by omega) rfl fun a h=>?_
  refine J1 (i:=i) h rfl rfl Y4 (by omega) fun w h=>?_
  refine wpList_nil ?_
  refine Qt ?_
  refine Qa h rfl rfl fun a h=>?_
  refine Qa h rfl rfl fun a h=>?_
  refine Qa h rfl rfl fun a h=>?_
  refine Z2 h rfl rfl (by omega) rfl fun a h=>?_
  refine Z2 h rfl rfl (by omega) rfl fun a h=>?_
  refine Qa h rfl rfl fun a h=>?_
  refine V7 (p:=(x1)*2^s) (m:=32) h rfl rfl (by omega) rfl fun a h=>?_
  refine Jh (p:=((x1)*2^s) / 2^32) h rfl Fy Uo rfl fun a h=>?_
  refine Q5 (i+1) h rfl rfl Jc Y4 (by omega) (by omega) rfl fun a h=>?_
  refine J1 (i:=i+1) h rfl rfl Y4 (by rw [H6]; omega) fun w h=>?_
  refine wpList_nil ?_
  refine Qt ?_
  refine Z2 h rfl rfl (by omega) rfl fun a h=>?_
  refine Qa h rfl rfl fun a h=>?_
  refine wpList_nil ?_
  refine ⟨_,?_,i+1,(o.set i (z+(x1)*2^s % 4294967296)).set (i+1) (((x1)*2^s) / 2^32 % 4294967296),by omega,by simp only [H6]; omega,Vi (Vi hp2 _ _ hstep.1) _ _ (Tv _ (by decide)),⟨_,by rw [qXr (by rw [H6]; omega)],qZu (Nat.mod_le _ _) hstep.2.1⟩,hstep.2.2.1,rfl,((h.consL (t:=0) rfl (h.consL (t:=5) rfl (h.consL (t:=6) rfl (h.consL (t:=7) rfl (h.consL (t:=30) rfl (h.consL (t:=31) rfl (h.consL (t:=32) rfl h.nilL))))))).noFacts.add (h.fact 0 rfl))⟩
  omega
 skip
 refine Ql (Qt ?_)
 refine Zk h rfl rfl rfl rfl fun a h=>?_
 refine wpList_nil ?_
 refine Ql ?_
 refine Yp h rfl (by simp; omega) ?_
 refine wp_exit ?_
 repeat refine Xt ?_
 refine Z6 ?_
 refine Ql (Qt ?_)
 refine Qa h rfl rfl fun a h=>?_
 have hie:i=n2:=by omega
 have hlen:=hp1
 rw [Y0 (l:=o) (by omega),Y0 (l:=l) (by omega),hl3] at hp4
 have hrow:=Yj (r:=o) ((n2+1)) h (fun _ _=>rfl) hp2 (by omega) (by omega) (by omega)
 replace h:=h.publish
 have h:=h.add (f:=Rel.natA.fact [.slice (some ⟨g6,0,none⟩) (n2+1) (n2+1)] (x*2^s)) ⟨_,hlen ▸ hrow,hp2,hp4⟩
 refine Q9 h Eg rfl rfl rfl (Jb _ _ (fun b=>h.owns_lt) (h.fact 0 rfl)) rfl fun r w a hg hF h=>?_
 obtain ⟨A7,n8,c9,e11,f10⟩:=hF
 subst e11
 have h:=h.add (f:=(Rel.natN).fact [(.slice A7 n8 c9)] ((x*2^s))) f10
 refine Qd h rfl rfl fun a h=>?_
 refine wpList_nil ?_
 refine wp_ret ?_
 exact Vp Tryz.results338 h (Zj h rfl) ⟨_,rfl,h.grow0,_,_,_,rfl,h.out 0 rfl⟩
set_option maxHeartbeats 1000000 in
theorem Qod (hO:∀ b,Ob b→b<W.heap.size) {A:Option Addr} {n c x s:Nat} (hx0:Rel.natA.at_ W Ob [.slice A n c] x) (hsx:sz x≤4294967400) (hs:s≤31) :
  Calls Tryz.prog 336 #[.slice A n c,.int .i64 (s:Int)] W (Ms W Ob (Rel.natN.sliceF (x / 2^s))):=by
 refine enter (vs:=[(.slice A n c),(.int .i64 (s:Int))]) (Ob:=Ob) (K:=fun b=>b<W.heap.size) (Fs:=[(Rel.natA).fact [.slice A n c] (x)]) Tryz.func336 rfl Tryz.ntmps336 rfl (fun _ h=>h) hO (by simp only [Vw,No,or_false,forall_eq_or_imp,forall_eq,false_imp_iff,implies_true]; exact hx0) fun a h=>?_
 refine Ql (Qt ?_)
 refine Qd h rfl rfl fun a h=>?_
 refine wpList_nil ?_
 refine Ql (Qt ?_)
 refine Qa h rfl rfl fun a h=>?_
 refine Q9 h Eg rfl rfl rfl (Jb _ _ (fun b=>h.owns_lt) (h.fact 0 rfl)) rfl fun r w a hg hF h=>?_
 obtain ⟨A1,n2,c3,e5,f4⟩:=hF
 subst e5
 have h:=h.add (f:=(Rel.natN).fact [(.slice A1 n2 c3)] (x)) f4
 refine Qd h rfl rfl fun a h=>?_
 refine wpList_nil ?_
 refine Ql (Qt ?_)
 refine Qa h rfl rfl fun a h=>?_
 refine Qi3 (r:=(s:Int)) h rfl rfl (by split <;> omega) rfl fun a h=>?_
 refine Qi2 (r:=(s:Int)) h rfl rfl (by split <;> omega) rfl fun a h=>?_
 refine Qd h rfl rfl fun a h=>?_
 refine wpList_nil ?_
 refine Ql (Qt ?_)
 refine Qa h rfl rfl fun a h=>?_
 refine Qdw h rfl rfl (by omega) rfl fun a h=>?_
 replace h:=h.respell (u:=.int .i64 (0:Int)) (congrArg _ (Qt2 hs))
 refine Qa h rfl rfl fun a h=>?_
 refine Qdx h rfl rfl (by omega) rfl fun a h=>?_
 replace h:=h.respell (u:=.int .i64 (s:Int)) (congrArg _ (Qt3 hs))
 refine X9 (p:=s) h rfl (by omega) qWj Tryz.runUnderlying319 rfl fun a h=>?_
 refine Qd h rfl rfl fun a h=>?_
 refine Qd h rfl rfl fun a h=>?_
 refine wpList_nil ?_
 refine Ql (Ql (Qt ?_))
 refine Qa h rfl rfl fun a h=>?_
 refine Qa h rfl rfl fun a h=>?_
 refine Zz h rfl Jc rfl fun a h=>?_
 obtain ⟨l,hl1,hl2,hl3⟩:=h.fact 0 rfl
 have h:=h.add (f:=Rel.row32.fact [(.slice A1 n2 c3)] l) hl1
 obtain ⟨el,_,_⟩:=Jv hl1
 have hszl:=K9 hl2
 rw [hl3] at hszl
 have h38:(2:Nat)^38=274877906944:=by decide
 have h47:(2:Nat)^47=140737488355328:=by decide
 have h63:(2:Nat)^63=9223372036854775808:=by decide
 refine Zk h rfl rfl rfl rfl fun a h=>?_
 refine wpList_nil ?_
 refine Yo h rfl (fun hb_if1=>?_) (fun hb_if1=>?_)
 ·try simp only [decide_eq_true_eq,decide_eq_false_iff_not,Vc,Vb] at hb_if1
  refine Ql (Qt ?_)
  refine Qd h rfl rfl fun a h=>?_
  refine wpList_nil ?_
  refine wp_ret ?_
  exact Vp Tryz.results336 h (Zj h rfl) ⟨_,rfl,h.grow0,_,_,_,rfl,by rw [show x=0 from hl3 ▸ (Fe hl2).2 (P5 (by omega)),Nat.zero_div]; exact Bu⟩
 try simp only [decide_eq_true_eq,decide_eq_false_iff_not,Vc,Vb] at hb_if1
 refine wp_skip ?_
 refine Ql (Qt ?_)
 refine Qa h rfl rfl fun a h=>?_
 refine Zz h rfl Jc rfl fun a h=>?_
 refine Qa h rfl rfl fun a h=>?_
 refine Vk h rfl rfl (by omega) rfl fun a h=>?_
 replace h:=h.respell (u:=.int .i64 (n2:Int)) (congrArg _ (by omega))
 refine F8 (m:=n2) (zs:=[(.int .u32 0)]) h (rfl) (rfl) Jc qUj rfl Y4 qWl rfl rfl (by omega) rfl fun g6 w a h=>?_
 replace h:=h.respellB (Ws _)
 refine Qd h rfl rfl fun a h=>?_
 refine wpList_nil ?_
 refine Ql (Ql (Qt ?_))
 refine Qa h rfl rfl fun a h=>?_
 refine Zz h rfl Jc rfl fun a h=>?_
 refine Qa h rfl rfl fun a h=>?_
 refine wpList_nil ?_
 refine wp_block ?_
 refine Gc (fun m a w'=>∃ i o,i≤n2∧o.length=n2∧(∀ x∈o,x<4294967296)∧val (o.take i)=val l / 2^s % 4294967296^i∧m=n2-i∧St (fun b=>b<W.heap.size) Ob W w' a 69 [(0,(.slice A1 n2 c3)),(5,(.int .i64 0)),(6,(.int .u64 ((s:Nat):Int))),(7,(.slice (some ⟨g6,0,none⟩) n2 n2)),(30,(.int .i64 (n2:Int))),(31,(.int .i64 (i:Int)))] [(Rel.row32).fact [(.slice A1 n2 c3)] (l)] [(g6,276,Y1 o)]) (m:=_) (⟨0,List.replicate n2 0,by omega,by simp,by simp,by simp [val]; omega,rfl,((h.consL (t:=0) rfl (h.consL (t:=5) rfl (h.consL (t:=6) rfl (h.consL (t:=7) rfl (h.consL (t:=30) rfl (h.consL (t:=31) rfl h.nilL)))))).noFacts.add (h.fact 0 rfl))⟩) ?_
 clear h
 rintro m a w ⟨i,o,hp0,hp1,hp2,hp3,hm,h⟩
 by_cases hlt:i<n2
 ·obtain ⟨b1,o1,rfl,_,_,_⟩:=Yn (h.fact 0 rfl) (i:=i) (by omega)
  obtain ⟨x1,hx1⟩:∃ x,l[i]? = some x:=⟨_,Xx (by omega)⟩
  have hx1b:=Wh (h.fact 0 rfl) _ (Vo hx1)
  refine Ql (Qt ?_)
  refine Zk h rfl rfl rfl rfl fun a h=>?_
  refine wpList_nil ?_
  refine Ql ?_
  refine K3 h rfl (by simp; omega) ?_
  refine wp_skip ?_
  refine Ql ?_
  refine wp_block ?_
  refine Ql (Qt ?_)
  refine Qa h rfl rfl fun a h=>?_
  refine Qd h rfl rfl fun a h=>?_
  refine wpList_nil ?_
  refine Ql (Qt ?_)
  refine Qa h rfl rfl fun a h=>?_
  refine Qa h rfl rfl fun a h=>?_
  refine Qa h rfl rfl fun a h=>?_
  refine Z2 h rfl rfl (by omega) rfl fun a h=>?_
  refine Q5 (i) h rfl rfl Jc Y4 (by omega) (by omega) rfl fun a h=>?_
  refine Xc h rfl Sz (X8 (h.fact 0 rfl) hx1) rfl fun a h=>?_
  refine X9 (p:=x1) h rfl (by omega) Uo Fy rfl fun a h=>?_
  refine Qd h rfl rfl fun a h=>?_
  refine wpList_nil ?_
  refine Ql (Ql (Qt ?_))
  refine Qa h rfl rfl fun a h=>?_
  refine Qa h rfl rfl fun a h=>?_
  refine Z2 h rfl rfl (by omega) rfl fun a h=>?_
  refine Z2 h rfl rfl (by omega) rfl fun a h=>?_
  refine Qa h rfl rfl fun a h=>?_
  refine Zz h rfl Jc rfl fun a h=>?_
  refine Zk h rfl rfl rfl rfl fun a h=>?_
  refine wpList_nil ?_
  refine Yo h rfl (fun hb_if3=>?_) (fun hb_if3=>?_)
  ·try simp only [decide_eq_true_eq,decide_eq_false_iff_not,Vc,Vb] at hb_if3
   obtain ⟨y1,hy1⟩:∃ y,l[i+1]? = some y:=⟨_,Xx (by omega)⟩
   have hy1b:=Wh (h.fact 0 rfl) _ (Vo hy1)
   refine Qt ?_
   refine Qa h rfl rfl fun a h=>?_
   refine Qa h rfl rfl fun a h=>?_
   refine Qa h rfl rfl fun a h=>?_
   refine Qa h rfl rfl fun a h=>?_
   refine Z2 h rfl rfl (by omega) rfl fun a h=>?_
   refine Z2 h rfl rfl (by omega) rfl fun a h=>?_
   refine Q5 (i+1) h rfl rfl Jc Y4 (by omega) (by omega) rfl fun a h=>?_
   refine Xc h rfl Sz (X8 (h.fact 0 rfl) hy1) rfl fun a h=>?_
   refine X9 (p:=y1) h rfl (by omega) Uo Fy rfl fun a h=>?_
   refine Cc (p:=y1) (m:=32) h rfl rfl (by omega) (by omega) rfl fun a h=>?_
   refine Qvv (k':=y1) (p:=x1) (q:=y1*2^32) h rfl rfl (by omega) (by omega) (by omega) rfl fun a h=>?_
   refine Qd h rfl rfl fun a h=>?_
   refine wpList_nil ?_
   refine Qt ?_
   refine Qa h rfl rfl fun a h=>?_
   refine Qa h rfl rfl fun a h=>?_
   refine Qa h rfl rfl fun a h=>?_
   refine Qa h rfl rfl fun a h=>?_
   refine V7 (p:=x1+y1*2^32) (m:=s) h rfl rfl (by omega) rfl fun a h=>?_
   refine Jh (p:=(x1+y1*2^32) / 2^s) h rfl Fy Uo rfl fun a h=>?_
   refine Q5 (i) h rfl rfl Jc Y4 (rfl) (by omega) rfl fun a h=>?_
   refine J1 (i:=i) h rfl rfl Y4 (by omega) fun w h=>?_
   refine wpList_nil ?_
   refine Qt ?_
   refine Z2 h rfl rfl (by omega) rfl fun a h=>?_
   refine Qa h rfl rfl fun a h=>?_
   refine wpList_nil ?_
   have hstep:=Qgj hs hx1 (.inl hy1) (by omega) hl2.1 hp3
   refine ⟨_,?_,i+1,o.set i (((x1+y1*2^32) / 2^s) % 4294967296),by omega,by simp only [H6]; omega,Vi hp2 _ _ (Tv _ (by decide)),hstep,rfl,((h.consL (t:=0) rfl (h.consL (t:=5) rfl (h.consL (t:=6) rfl (h.consL (t:=7) rfl (h.consL (t:=30) rfl (h.consL (t:=31) rfl h.nilL)))))).noFacts.add (h.fact 0 rfl))⟩
   omega
  try simp only [decide_eq_true_eq,decide_eq_false_iff_not,Vc,Vb] at hb_if3
  refine wp_skip ?_
  refine Qt ?_
  refine Qa h rfl rfl fun a h=>?_
  refine Qa h rfl rfl fun a h=>?_
  refine Qa h rfl rfl fun a h=>?_
  refine Qa h rfl rfl fun a h=>?_
  refine V7 (p:=x1) (m:=s) h rfl rfl (by omega) rfl fun a h=>?_
  refine Jh (p:=(x1) / 2^s) h rfl Fy Uo rfl fun a h=>?_
  refine Q5 (i) h rfl rfl Jc Y4 (rfl) (by omega) rfl fun a h=>?_
  refine J1 (i:=i) h rfl rfl Y4 (by omega) fun w h=>?_
  refine wpList_nil ?_
  refine Qt ?_
  refine Z2 h rfl rfl (by omega) rfl fun a h=>?_
  refine Qa h rfl rfl fun a h=>?_
  refine wpList_nil ?_
  have hstep:=Qgj (y:=0) hs hx1 (.inr ⟨by omega,rfl⟩) (by omega) hl2.1 hp3
  rw [qYr,Mp] at hstep
  refine ⟨_,?_,i+1,o.set i (((x1) / 2^s) % 4294967296),by omega,by simp only [H6]; omega,Vi hp2 _ _ (Tv _ (by decide)),hstep,rfl,((h.consL (t:=0) rfl (h.consL (t:=5) rfl (h.consL (t:=6) rfl (h.consL (t:=7) rfl (h.consL (t:=30) rfl (h.consL (t:=31) rfl h.nilL)))))).noFacts.add (h.fact 0 rfl))⟩
  omega
 skip
 refine Ql (Qt ?_)
 refine Zk h rfl rfl rfl rfl fun a h=>?_
 refine wpList_nil ?_
 refine Ql ?_
 refine Yp h rfl (by simp; omega) ?_
 refine wp_exit ?_
 repeat refine Xt ?_
 refine Z6 ?_
 refine Ql (Qt ?_)
 refine Qa h rfl rfl fun a h=>?_
 have hie:i=n2:=by omega
 have hlen:=hp1
 have hvl:=F3 l hl2.1
 rw [Y0 (l:=o) (by omega),show i=l.length from by omega,qJg (qZu (qYk _ _) hvl),hl3] at hp3
 have hrow:=Yj (r:=o) (n2) h (fun _ _=>rfl) hp2 (by omega) (by omega) (by omega)
 replace h:=h.publish
 have h:=h.add (f:=Rel.natA.fact [.slice (some ⟨g6,0,none⟩) n2 n2] (x / 2^s)) ⟨_,hlen ▸ hrow,hp2,hp3⟩
 refine Q9 h Eg rfl rfl rfl (Jb _ _ (fun b=>h.owns_lt) (h.fact 0 rfl)) rfl fun r w a hg hF h=>?_
 obtain ⟨A7,n8,c9,e11,f10⟩:=hF
 subst e11
 have h:=h.add (f:=(Rel.natN).fact [(.slice A7 n8 c9)] ((x / 2^s))) f10
 refine Qd h rfl rfl fun a h=>?_
 refine wpList_nil ?_
 refine wp_ret ?_
 exact Vp Tryz.results336 h (Zj h rfl) ⟨_,rfl,h.grow0,_,_,_,rfl,h.out 0 rfl⟩
set_option maxHeartbeats 1000000 in
theorem Qa4 (hO:∀ b,Ob b→b<W.heap.size) {A:Option Addr} {m c x s n:Nat} (hx0:Rel.natA.at_ W Ob [.slice A m c] x) (hsx:sz x≤4294967400) (hs:s≤31) (hn:n<274877906944) (hv:x*2^s<4294967296^n) :
  Calls Tryz.prog 334 #[.slice A m c,.int .i64 (s:Int),.int .i64 (n:Int)] W fun e w'=>∃ r,e=.returned r∧Grow W w'∧∃ g cs,W.heap.size≤g∧w'.heap[g]? = some (.cells cs.toArray 276 (0,0))∧r=.slice (some ⟨g,0,none⟩) n n∧∃ l,cs=Y1 l∧l.length=n∧(∀ u∈l,u<4294967296)∧val l=x*2^s:=by
 have h38:(2:Nat)^38=274877906944:=by decide
 refine enter (vs:=[(.slice A m c),(.int .i64 (s:Int)),(.int .i64 (n:Int))]) (Ob:=Ob) (K:=fun b=>b<W.heap.size) (Fs:=[(Rel.natA).fact [.slice A m c] (x)]) Tryz.func334 rfl Tryz.ntmps334 rfl (fun _ h=>h) hO (by simp only [Vw,No,or_false,forall_eq_or_imp,forall_eq,false_imp_iff,implies_true]; exact hx0) fun a h=>?_
 refine Ql (Qt ?_)
 refine Qd h rfl rfl fun a h=>?_
 refine wpList_nil ?_
 refine Ql (Qt ?_)
 refine Qa h rfl rfl fun a h=>?_
 refine F8 (m:=n) (zs:=[(.int .u32 0)]) h (rfl) (rfl) Jc qUj rfl Y4 qWl rfl rfl (by omega) rfl fun g1 w a h=>?_
 replace h:=h.respellB (Ws _)
 refine Qd h rfl rfl fun a h=>?_
 refine wpList_nil ?_
 refine Ql (Qt ?_)
 refine Qa h rfl rfl fun a h=>?_
 refine Qa h rfl rfl fun a h=>?_
 refine Qa h rfl rfl fun a h=>?_
 refine Q9 h Tryz.func338 rfl rfl rfl (Qoc _ _ (fun b=>h.owns_lt) (h.fact 0 rfl) (by omega) (by omega)) rfl fun r w a hg hF h=>?_
 obtain ⟨A2,n3,c4,e6,f5⟩:=hF
 subst e6
 have h:=h.add (f:=(Rel.natN).fact [(.slice A2 n3 c4)] ((x)*2^(s))) f5
 obtain ⟨l,hl1,hl2,hl3⟩:=h.fact 0 rfl
 obtain ⟨el,_,_⟩:=Jv hl1
 have hle:l.length≤n:=Qia hl2 (by rw [hl3]; exact hv)
 subst el
 refine Qs4 (m':=l.length) h 0 rfl rfl rfl Jc Y4 rfl (fun _=>rfl) (Nb hle) (Qbx hl1) (by rw [We,We,qZn]; omega) (Qgv l) rfl fun w a h=>?_
 replace h:=h.respellB (cs':=Y1 (l++List.replicate (n-l.length) 0)) (by rw [Ci _ _ (by rw [qZn]; exact hle),List.drop_replicate])
 refine wpList_nil ?_
 refine Ql (Qt ?_)
 refine Qa h rfl rfl fun a h=>?_
 refine Qd h rfl rfl fun a h=>?_
 refine wpList_nil ?_
 refine wp_ret ?_
 refine Vp Tryz.results334 h (Zj h rfl) ⟨_,rfl,h.grow0,_,_,Nat.le_of_not_lt (h.own _ _ _ (Fm ..)).1,h.own0,rfl,_,rfl,by simp; omega,fun u hu=>?_,by rw [Qta,hl3]⟩
 rcases Y7.1 hu with hu | hu
 ·exact hl2.1 u hu
 have:=qZx hu; omega
set_option maxHeartbeats 1000000 in
theorem Qh1 (hO:∀ b,Ob b→b<W.heap.size) {g n c cx top nx xn x1 x2:Nat} {A:Option Addr} {pre x post ly:List Nat} (hg:W.heap[g]? = some (.cells (Y1 (pre++x++post)).toArray 276 (0,0))) (hgO:¬Ob g) (hx0:Rel.row32.at_ W (Q3 Ob [(g,276,Y1 (pre++x++post))]) [.slice A n c] ly)
  (hn38:n<274877906944) (D:Dig x ly n top nx xn x1 x2) :
  Calls Tryz.prog 335 #[.slice (some ⟨g,pre.length,none⟩) x.length cx,.slice A n c] W fun e w'=>∃ r,e=.returned r∧∃ cs',Qjh W w' g 276 cs'∧∃ x',cs'=Y1 (pre++x'++post)∧x'.length=x.length∧(∀ u∈x',u<4294967296)∧r=.int .u32 ((val x / val ly:Nat):Int)∧val x'=val x % val ly:=by
 have hxl:=D.hx
 have hxb:=D.xb
 have hll:=D.hl
 have hn2:=D.hn
 have hbd:=D.bnd
 have e32:(2:Nat)^32=4294967296:=by decide
 have hhd:x1+xn*2^32<18446744073709551616:=by omega
 obtain ⟨b1,o1,rfl,_,_,_⟩:=Yn hx0 (i:=0) (by omega)
 refine Qnx (vs:=[(.slice (some ⟨g,pre.length,none⟩) x.length cx),(.slice (some ⟨b1,o1,none⟩) n c)]) (Ob:=Ob) (Fs:=[(Rel.row32).fact [.slice (some ⟨b1,o1,none⟩) n c] (ly)]) (g:=g) (E:=276) (cs:=Y1 (pre++x++post)) Tryz.func335 rfl Tryz.ntmps335 rfl hO hg hgO (by simp only [Vw,No,or_false,forall_eq_or_imp,forall_eq,false_imp_iff,implies_true]; exact hx0) fun a h=>?_
 refine Ql (Qt ?_)
 refine Qd h rfl rfl fun a h=>?_
 refine wpList_nil ?_
 refine Ql (Qt ?_)
 refine Qa h rfl rfl fun a h=>?_
 refine Zz h rfl Jc rfl fun a h=>?_
 refine Qd h rfl rfl fun a h=>?_
 refine wpList_nil ?_
 refine Ql ?_
 refine Gf Qp 13 [some 24,some 25,some 26,some 27,some 28,some 29,some 30,some 31,some 32,some 33,some 34,some 35,some 6] [[],[],[1],[0,2],[3],[4],[],[],[7],[6,8],[9],[10],[5]] [(Yg (.slice (some ⟨b1,o1,none⟩) n c)),(Yg (.int .i64 (n:Int))),(Yg (.int .i64 ((n:Int)-1))),(Yg (.pointer (some ⟨b1,(o1+(n-1)*1),none⟩))),(Yg (.int .u32 (top:Int))),(Yg (.int .u64 ((top:Nat):Int))),(Yg (.slice (some ⟨b1,o1,none⟩) n c)),(Yg (.int .i64 (n:Int))),(Yg (.int .i64 ((n:Int)-2))),(Yg (.pointer (some ⟨b1,(o1+(n-2)*1),none⟩))),(Yg (.int .u32 (nx:Int))),(Yg (.int .u64 ((nx:Nat):Int))),(Yg (.int .u64 ((top:Nat):Int)))] rfl h rfl ⟨?_,?_,?_,?_,?_,?_,?_,?_,?_,?_,?_,?_,?_,trivial⟩ ?_
 ·intro dp hdp0 hdp dv Fx a w h
  refine Qa h rfl rfl fun a h=>?_
  refine wpList_nil ⟨rfl,?_⟩
  exact ⟨_,h.drawEnd (F':=[]) rfl rfl⟩
 ·intro dp hdp0 hdp dv Fx a w h
  refine Qa h rfl rfl fun a h=>?_
  refine wpList_nil ⟨rfl,?_⟩
  exact ⟨_,h.drawEnd (F':=[]) rfl rfl⟩
 ·intro dp hdp0 hdp dv Fx a w h
  have e1:dv 1=(.int .i64 (n:Int)):=h.fact 0 rfl
  replace h:=(h.spellE (t:=25) e1 rfl h)
  refine Vk h rfl rfl (by omega) rfl fun a h=>?_
  refine wpList_nil ⟨rfl,?_⟩
  exact ⟨_,h.drawEnd (F':=[_]) rfl rfl⟩
 ·intro dp hdp0 hdp dv Fx a w h
  have e2:dv 0=(.slice (some ⟨b1,o1,none⟩) n c):=h.fact 0 rfl
  have e3:dv 2=(.int .i64 ((n:Int)-1)):=h.fact 1 rfl
  replace h:=(h.spellE (t:=26) e3 rfl (h.spellE (t:=24) e2 rfl h))
  refine Q5 (n-1) h rfl rfl Jc Y4 (by omega) (by omega) rfl fun a h=>?_
  refine wpList_nil ⟨rfl,?_⟩
  exact ⟨_,h.drawEnd (F':=[_,_]) rfl rfl⟩
 ·intro dp hdp0 hdp dv Fx a w h
  have e4:dv 3=(.pointer (some ⟨b1,(o1+(n-1)*1),none⟩)):=h.fact 0 rfl
  replace h:=(h.spellE (t:=27) e4 rfl h)
  refine Xc h rfl Sz (X8 (h.fact 1 rfl) D.ltop) rfl fun a h=>?_
  refine wpList_nil ⟨rfl,?_⟩
  exact ⟨_,h.drawEnd (F':=[_]) rfl rfl⟩
 ·intro dp hdp0 hdp dv Fx a w h
  have e5:dv 4=(.int .u32 (top:Int)):=h.fact 0 rfl
  replace h:=(h.spellE (t:=28) e5 rfl h)
  refine X9 (p:=top) h rfl (by omega) Uo Fy rfl fun a h=>?_
  refine wpList_nil ⟨rfl,?_⟩
  exact ⟨_,h.drawEnd (F':=[_]) rfl rfl⟩
 ·intro dp hdp0 hdp dv Fx a w h
  refine Qa h rfl rfl fun a h=>?_
  refine wpList_nil ⟨rfl,?_⟩
  exact ⟨_,h.drawEnd (F':=[]) rfl rfl⟩
 ·intro dp hdp0 hdp dv Fx a w h
  refine Qa h rfl rfl fun a h=>?_
  refine wpList_nil ⟨rfl,?_⟩
  exact ⟨_,h.drawEnd (F':=[]) rfl rfl⟩
 ·intro dp hdp0 hdp dv Fx a w h
  have e6:dv 7=(.int .i64 (n:Int)):=h.fact 0 rfl
  replace h:=(h.spellE (t:=31) e6 rfl h)
  refine Vk h rfl rfl (by omega) rfl fun a h=>?_
  refine wpList_nil ⟨rfl,?_⟩
  exact ⟨_,h.drawEnd (F':=[_]) rfl rfl⟩
 ·intro dp hdp0 hdp dv Fx a w h
  have e7:dv 6=(.slice (some ⟨b1,o1,none⟩) n c):=h.fact 0 rfl
  have e8:dv 8=(.int .i64 ((n:Int)-2)):=h.fact 1 rfl
  replace h:=(h.spellE (t:=32) e8 rfl (h.spellE (t:=30) e7 rfl h))
  refine Q5 (n-2) h rfl rfl Jc Y4 (by omega) (by omega) rfl fun a h=>?_
  refine wpList_nil ⟨rfl,?_⟩
  exact ⟨_,h.drawEnd (F':=[_,_]) rfl rfl⟩
 ·intro dp hdp0 hdp dv Fx a w h
  have e9:dv 9=(.pointer (some ⟨b1,(o1+(n-2)*1),none⟩)):=h.fact 0 rfl
  replace h:=(h.spellE (t:=33) e9 rfl h)
  refine Xc h rfl Sz (X8 (h.fact 1 rfl) D.lnx) rfl fun a h=>?_
  refine wpList_nil ⟨rfl,?_⟩
  exact ⟨_,h.drawEnd (F':=[_]) rfl rfl⟩
 ·intro dp hdp0 hdp dv Fx a w h
  have e10:dv 10=(.int .u32 (nx:Int)):=h.fact 0 rfl
  replace h:=(h.spellE (t:=34) e10 rfl h)
  refine X9 (p:=nx) h rfl (by omega) Uo Fy rfl fun a h=>?_
  refine wpList_nil ⟨rfl,?_⟩
  exact ⟨_,h.drawEnd (F':=[_]) rfl rfl⟩
 ·intro dp hdp0 hdp dv Fx a w h
  have e11:dv 5=(.int .u64 ((top:Nat):Int)):=h.fact 0 rfl
  replace h:=(h.spellE (t:=29) e11 rfl h)
  refine Qd h rfl rfl fun a h=>?_
  refine wpList_nil ⟨rfl,?_⟩
  exact ⟨_,h.drawEnd (F':=[_]) rfl rfl⟩
 intro dv a w h
 have e12:dv 11=(.int .u64 ((nx:Nat):Int)):=h.fact 11 rfl
 have e13:dv 12=(.int .u64 ((top:Nat):Int)):=h.fact 12 rfl
 have h2:=(h.spellE (t:=6) e13 rfl (h.spellE (t:=35) e12 rfl (h.consL (t:=5) rfl (h.consL (t:=4) rfl (h.consL (t:=1) rfl (h.consL (t:=0) rfl h.nilL))))))
 have h3:=h2.noFacts
 have h3:=h3.add (h2.fact 13 rfl)
 clear h2
 replace h:=h3
 clear h3
 refine Qd h rfl rfl fun a h=>?_
 refine wpList_nil ?_
 refine Ql ?_
 refine Gf Qp 12 [some 36,some 37,some 38,some 39,some 40,some 41,some 42,some 43,some 44,some 45,some 46,some 47] [[],[],[0,1],[2],[3],[4],[],[],[7],[6,8],[9],[10]] [(Yg (.slice (some ⟨g,pre.length,none⟩) x.length cx)),(Yg (.int .i64 (n:Int))),(Yg (.pointer (some ⟨g,(pre.length+(n)*1),none⟩))),(Yg (.int .u32 (xn:Int))),(Yg (.int .u64 ((xn:Nat):Int))),(Yg (.int .u64 (((xn)*2^32:Nat):Int))),(Yg (.slice (some ⟨g,pre.length,none⟩) x.length cx)),(Yg (.int .i64 (n:Int))),(Yg (.int .i64 ((n:Int)-1))),(Yg (.pointer (some ⟨g,(pre.length+(n-1)*1),none⟩))),(Yg (.int .u32 (x1:Int))),(Yg (.int .u64 ((x1:Nat):Int)))] rfl h rfl ⟨?_,?_,?_,?_,?_,?_,?_,?_,?_,?_,?_,?_,trivial⟩ ?_
 ·intro dp hdp0 hdp dv Fx a w h
  refine Qa h rfl rfl fun a h=>?_
  refine wpList_nil ⟨rfl,?_⟩
  exact ⟨_,h.drawEnd (F':=[]) rfl rfl⟩
 ·intro dp hdp0 hdp dv Fx a w h
  refine Qa h rfl rfl fun a h=>?_
  refine wpList_nil ⟨rfl,?_⟩
  exact ⟨_,h.drawEnd (F':=[]) rfl rfl⟩
 ·intro dp hdp0 hdp dv Fx a w h
  have e14:dv 0=(.slice (some ⟨g,pre.length,none⟩) x.length cx):=h.fact 0 rfl
  have e15:dv 1=(.int .i64 (n:Int)):=h.fact 1 rfl
  replace h:=(h.spellE (t:=37) e15 rfl (h.spellE (t:=36) e14 rfl h))
  refine Q5 (n) h rfl rfl Jc Y4 (rfl) (by omega) rfl fun a h=>?_
  refine wpList_nil ⟨rfl,?_⟩
  exact ⟨_,h.drawEnd (F':=[_,_]) rfl rfl⟩
 ·intro dp hdp0 hdp dv Fx a w h
  have e16:dv 2=(.pointer (some ⟨g,(pre.length+(n)*1),none⟩)):=h.fact 0 rfl
  replace h:=(h.spellE (t:=38) e16 rfl h)
  refine Xc h rfl Sz (h.cellW D.xn) rfl fun a h=>?_
  refine wpList_nil ⟨rfl,?_⟩
  exact ⟨_,h.drawEnd (F':=[_]) rfl rfl⟩
 ·intro dp hdp0 hdp dv Fx a w h
  have e17:dv 3=(.int .u32 (xn:Int)):=h.fact 0 rfl
  replace h:=(h.spellE (t:=39) e17 rfl h)
  refine X9 (p:=xn) h rfl (by omega) Uo Fy rfl fun a h=>?_
  refine wpList_nil ⟨rfl,?_⟩
  exact ⟨_,h.drawEnd (F':=[_]) rfl rfl⟩
 ·intro dp hdp0 hdp dv Fx a w h
  have e18:dv 4=(.int .u64 ((xn:Nat):Int)):=h.fact 0 rfl
  replace h:=(h.spellE (t:=40) e18 rfl h)
  refine Cc (p:=xn) (m:=32) h rfl rfl (by omega) (by omega) rfl fun a h=>?_
  refine wpList_nil ⟨rfl,?_⟩
  exact ⟨_,h.drawEnd (F':=[_]) rfl rfl⟩
 ·intro dp hdp0 hdp dv Fx a w h
  refine Qa h rfl rfl fun a h=>?_
  refine wpList_nil ⟨rfl,?_⟩
  exact ⟨_,h.drawEnd (F':=[]) rfl rfl⟩
 ·intro dp hdp0 hdp dv Fx a w h
  refine Qa h rfl rfl fun a h=>?_
  refine wpList_nil ⟨rfl,?_⟩
  exact ⟨_,h.drawEnd (F':=[]) rfl rfl⟩
 ·intro dp hdp0 hdp dv Fx a w h
  have e19:dv 7=(.int .i64 (n:Int)):=h.fact 0 rfl
  replace h:=(h.spellE (t:=43) e19 rfl h)
  refine Vk h rfl rfl (by omega) rfl fun a h=>?_
  refine wpList_nil ⟨rfl,?_⟩
  exact ⟨_,h.drawEnd (F':=[_]) rfl rfl⟩
 ·intro dp hdp0 hdp dv Fx a w h
  have e20:dv 6=(.slice (some ⟨g,pre.length,none⟩) x.length cx):=h.fact 0 rfl
  have e21:dv 8=(.int .i64 ((n:Int)-1)):=h.fact 1 rfl
  replace h:=(h.spellE (t:=44) e21 rfl (h.spellE (t:=42) e20 rfl h))
  refine Q5 (n-1) h rfl rfl Jc Y4 (by omega) (by omega) rfl fun a h=>?_
  refine wpList_nil ⟨rfl,?_⟩
  exact ⟨_,h.drawEnd (F':=[_,_]) rfl rfl⟩
 ·intro dp hdp0 hdp dv Fx a w h
  have e22:dv 9=(.pointer (some ⟨g,(pre.length+(n-1)*1),none⟩)):=h.fact 0 rfl
  replace h:=(h.spellE (t:=45) e22 rfl h)
  refine Xc h rfl Sz (h.cellW D.x1) rfl fun a h=>?_
  refine wpList_nil ⟨rfl,?_⟩
  exact ⟨_,h.drawEnd (F':=[_]) rfl rfl⟩
 ·intro dp hdp0 hdp dv Fx a w h
  have e23:dv 10=(.int .u32 (x1:Int)):=h.fact 0 rfl
  replace h:=(h.spellE (t:=46) e23 rfl h)
  refine X9 (p:=x1) h rfl (by omega) Uo Fy rfl fun a h=>?_
  refine wpList_nil ⟨rfl,?_⟩
  exact ⟨_,h.drawEnd (F':=[_]) rfl rfl⟩
 intro dv a w h
 have e24:dv 5=(.int .u64 (((xn)*2^32:Nat):Int)):=h.fact 5 rfl
 have e25:dv 11=(.int .u64 ((x1:Nat):Int)):=h.fact 11 rfl
 have h2:=(h.spellE (t:=47) e25 rfl (h.spellE (t:=41) e24 rfl (h.consL (t:=7) rfl (h.consL (t:=6) rfl (h.consL (t:=5) rfl (h.consL (t:=4) rfl (h.consL (t:=1) rfl (h.consL (t:=0) rfl h.nilL))))))))
 have h3:=h2.noFacts
 have h3:=h3.add (h2.fact 12 rfl)
 clear h2
 replace h:=h3
 clear h3
 refine Qi6 (k':=xn) (p:=(xn)*2^32) (q:=x1) h rfl rfl (by omega) (by omega) (by omega) rfl fun a h=>?_
 refine Qd h rfl rfl fun a h=>?_
 refine wpList_nil ?_
 refine Ql (Qt ?_)
 refine Qa h rfl rfl fun a h=>?_
 refine Qa h rfl rfl fun a h=>?_
 refine Qkx (p:=((xn)*2^32)+x1) (q:=top) h rfl rfl (by omega) (D.top0) rfl fun a h=>?_
 refine Qd h rfl rfl fun a h=>?_
 refine wpList_nil ?_
 refine Ql (Qt ?_)
 refine Qa h rfl rfl fun a h=>?_
 refine Qa h rfl rfl fun a h=>?_
 refine Qky (p:=((xn)*2^32)+x1) (q:=top) h rfl rfl (D.top0) rfl fun a h=>?_
 refine Qd h rfl rfl fun a h=>?_
 refine wpList_nil ?_
 refine Ql ?_
 refine Qjl (fun a w'=>∃ gq,val x / val ly≤gq∧(gq-1)*val ly≤val x∧gq≤4294967296∧St (fun b=>b<W.heap.size∧b≠g) Ob W w' a 170 [(0,(.slice (some ⟨g,pre.length,none⟩) x.length cx)),(1,(.slice (some ⟨b1,o1,none⟩) n c)),(5,(.int .i64 (n:Int))),(9,(.int .u64 ((gq:Nat):Int)))] [(Rel.row32).fact [.slice (some ⟨b1,o1,none⟩) n c] (ly)] [(g,276,Y1 (pre++x++post))]) ?_ ?_
 ·skip
  refine wp_block ?_
  refine Gc (fun m a w'=>∃ gq r,gq*top+r=xn*2^32+x1∧val x / val ly≤gq∧r<4294967296∧gq<18446744073709551616∧m=4294967296-r∧St (fun b=>b<W.heap.size∧b≠g) Ob W w' a 170 [(0,(.slice (some ⟨g,pre.length,none⟩) x.length cx)),(1,(.slice (some ⟨b1,o1,none⟩) n c)),(5,(.int .i64 (n:Int))),(6,(.int .u64 ((top:Nat):Int))),(7,(.int .u64 ((nx:Nat):Int))),(9,(.int .u64 ((gq:Nat):Int))),(10,(.int .u64 ((r:Nat):Int)))] [(Rel.row32).fact [.slice (some ⟨b1,o1,none⟩) n c] (ly)] [(g,276,Y1 (pre++x++post))]) (m:=_) (⟨(xn*2^32+x1) / top,(xn*2^32+x1) % top,by rw [O7]; exact qXi _ _,D.start,Nat.lt_trans (Tv _ D.top0) D.bnd.1,qZu (qYk _ _) (by rw [qVj]; exact hhd),rfl,((h.consL (t:=0) rfl (h.consL (t:=1) rfl (h.consL (t:=5) rfl (h.consL (t:=6) rfl (h.consL (t:=7) rfl (h.consL (t:=9) rfl (h.consL (t:=10) rfl h.nilL))))))).noFacts.add (h.fact 0 rfl))⟩) ?_
  clear h
  rintro m a w ⟨gq,r,hp0,hp1,hp2,hp3,hm,h⟩
  rcases Mq gq 4294967296 with hlt | hge
  ·have hbd:=D.bnd
   have hgn:=Su (x:=gq) (y:=nx) (by omega) hbd.2.1
   refine Ql (Ql (Qt ?_))
   refine Qa h rfl rfl fun a h=>?_
   refine Zk h rfl rfl rfl rfl fun a h=>?_
   refine Qa h rfl rfl fun a h=>?_
   refine Zx h rfl rfl (by simp; omega) ?_
   refine Qa h rfl rfl fun a h=>?_
   refine Zx h rfl rfl (by simp; omega) ?_
   refine Qa h rfl rfl fun a h=>?_
   refine Zx h rfl rfl (by simp; omega) ?_
   refine Qdv (p:=gq) (q:=nx) h rfl rfl (by omega) rfl fun a h=>?_
   refine Zx h rfl rfl (by simp; omega) ?_
   refine Qa h rfl rfl fun a h=>?_
   refine Zx h rfl rfl (by simp; omega) ?_
   refine Cc (p:=r) (m:=32) h rfl rfl (by omega) (by omega) rfl fun a h=>?_
   refine Zx h rfl rfl (by simp; omega) ?_
   refine Qa h rfl rfl fun a h=>?_
   refine Zx h rfl rfl (by simp; omega) ?_
   refine Qa h rfl rfl fun a h=>?_
   refine Zx h rfl rfl (by simp; omega) ?_
   refine Vk h rfl rfl (by omega) rfl fun a h=>?_
   refine Zx h rfl rfl (by simp; omega) ?_
   refine Q5 (n-2) h rfl rfl Jc Y4 (by omega) (by omega) rfl fun a h=>?_
   refine Zx h rfl rfl (by simp; omega) ?_
   refine Xc h rfl Sz (h.cellW D.x2) rfl fun a h=>?_
   refine Zx h rfl rfl (by simp; omega) ?_
   refine X9 (p:=x2) h rfl (by omega) Uo Fy rfl fun a h=>?_
   refine Zx h rfl rfl (by simp; omega) ?_
   refine Qi6 (k':=r) (p:=(r)*2^32) (q:=x2) h rfl rfl (by omega) (by omega) (by omega) rfl fun a h=>?_
   refine Zx h rfl rfl (by simp; omega) ?_
   refine Zk h rfl rfl rfl rfl fun a h=>?_
   refine Rt h rfl (by simp; omega) rfl rfl fun a h=>?_
   refine wpList_nil ?_
   refine Yo h rfl (fun hb_if1=>?_) (fun hb_if1=>?_)
   ·try simp only [decide_eq_true_eq,decide_eq_false_iff_not,Vc,Vb] at hb_if1
    have hrd:=D.round hp0 hp1 (.inr (by omega))
    refine wp_skip ?_
    refine wp_block ?_
    refine Ql (Qt ?_)
    refine Qa h rfl rfl fun a h=>?_
    refine Hw (p:=gq) (q:=1) h rfl rfl (by omega) rfl fun a h=>?_
    refine Qd h rfl rfl fun a h=>?_
    refine wpList_nil ?_
    refine Ql (Qt ?_)
    refine Qa h rfl rfl fun a h=>?_
    refine Qa h rfl rfl fun a h=>?_
    refine Fh (p:=r) (q:=top) h rfl rfl (by omega) rfl fun a h=>?_
    refine Qd h rfl rfl fun a h=>?_
    refine wpList_nil ?_
    refine Ql (Qt ?_)
    refine Qa h rfl rfl fun a h=>?_
    refine Zk h rfl rfl rfl rfl fun a h=>?_
    refine wpList_nil ?_
    refine Yo h rfl (fun hb_if2=>?_) (fun hb_if2=>?_)
    ·try simp only [decide_eq_true_eq,decide_eq_false_iff_not,Vc,Vb] at hb_if2
     refine wp_exit ?_
     repeat refine Xt ?_
     refine H2 rfl ?_
     repeat refine Xt ?_
     refine Z6 ?_
     have hfin:=hrd.2.2.2 (by omega)
     exact ⟨gq-1,hrd.2.1,hfin.1,hfin.2,((h.consL (t:=0) rfl (h.consL (t:=1) rfl (h.consL (t:=5) rfl ((h.consL (t:=9) rfl h.nilL).respell (congrArg (fun z:Nat=>Go.Value.int .u64 (z:Int)) (Qjs hrd.1 hp3)))))).noFacts.add (h.fact 0 rfl))⟩
    try simp only [decide_eq_true_eq,decide_eq_false_iff_not,Vc,Vb] at hb_if2
    refine wp_skip ?_
    refine ⟨_,?_,gq-1,r+top,hrd.2.2.1,hrd.2.1,by omega,by omega,rfl,((h.consL (t:=0) rfl (h.consL (t:=1) rfl (h.consL (t:=5) rfl (h.consL (t:=6) rfl (h.consL (t:=7) rfl ((h.consL (t:=9) rfl (h.consL (t:=10) rfl h.nilL)).respell (congrArg (fun z:Nat=>Go.Value.int .u64 (z:Int)) (Qjs hrd.1 hp3)))))))).noFacts.add (h.fact 0 rfl))⟩
    have:=D.top0; omega
   try simp only [decide_eq_true_eq,decide_eq_false_iff_not,Vc,Vb] at hb_if1
   refine wp_exit ?_
   repeat refine Xt ?_
   refine Z6 ?_
   exact ⟨gq,hp1,D.fin hp0 (by omega) (by omega),by omega,((h.consL (t:=0) rfl (h.consL (t:=1) rfl (h.consL (t:=5) rfl (h.consL (t:=9) rfl h.nilL)))).noFacts.add (h.fact 0 rfl))⟩
  have hrd:=D.round hp0 hp1 (.inl hge)
  have hbd:=D.bnd
  refine Ql (Ql (Qt ?_))
  refine Qa h rfl rfl fun a h=>?_
  refine Zk h rfl rfl rfl rfl fun a h=>?_
  refine Qa h rfl rfl fun a h=>?_
  refine Zv h rfl rfl (by simp; omega) rfl fun a h=>?_
  refine Zv h rfl rfl (by simp; omega) rfl fun a h=>?_
  refine Zv h rfl rfl (by simp; omega) rfl fun a h=>?_
  refine Zv h rfl rfl (by simp; omega) rfl fun a h=>?_
  refine Zv h rfl rfl (by simp; omega) rfl fun a h=>?_
  refine Zv h rfl rfl (by simp; omega) rfl fun a h=>?_
  refine Zv h rfl rfl (by simp; omega) rfl fun a h=>?_
  refine Zv h rfl rfl (by simp; omega) rfl fun a h=>?_
  refine Zv h rfl rfl (by simp; omega) rfl fun a h=>?_
  refine Zv h rfl rfl (by simp; omega) rfl fun a h=>?_
  refine Zv h rfl rfl (by simp; omega) rfl fun a h=>?_
  refine Zv h rfl rfl (by simp; omega) rfl fun a h=>?_
  refine Zv h rfl rfl (by simp; omega) rfl fun a h=>?_
  refine Hg h rfl (by simp; omega) rfl rfl fun a h=>?_
  refine wpList_nil ?_
  refine K3 h rfl (rfl) ?_
  refine wp_skip ?_
  refine wp_block ?_
  refine Ql (Qt ?_)
  refine Qa h rfl rfl fun a h=>?_
  refine Hw (p:=gq) (q:=1) h rfl rfl (by omega) rfl fun a h=>?_
  refine Qd h rfl rfl fun a h=>?_
  refine wpList_nil ?_
  refine Ql (Qt ?_)
  refine Qa h rfl rfl fun a h=>?_
  refine Qa h rfl rfl fun a h=>?_
  refine Fh (p:=r) (q:=top) h rfl rfl (by omega) rfl fun a h=>?_
  refine Qd h rfl rfl fun a h=>?_
  refine wpList_nil ?_
  refine Ql (Qt ?_)
  refine Qa h rfl rfl fun a h=>?_
  refine Zk h rfl rfl rfl rfl fun a h=>?_
  refine wpList_nil ?_
  refine Yo h rfl (fun hb_if2=>?_) (fun hb_if2=>?_)
  ·try simp only [decide_eq_true_eq,decide_eq_false_iff_not,Vc,Vb] at hb_if2
   refine wp_exit ?_
   repeat refine Xt ?_
   refine H2 rfl ?_
   repeat refine Xt ?_
   refine Z6 ?_
   have hfin:=hrd.2.2.2 (by omega)
   exact ⟨gq-1,hrd.2.1,hfin.1,hfin.2,((h.consL (t:=0) rfl (h.consL (t:=1) rfl (h.consL (t:=5) rfl ((h.consL (t:=9) rfl h.nilL).respell (congrArg (fun z:Nat=>Go.Value.int .u64 (z:Int)) (Qjs hrd.1 hp3)))))).noFacts.add (h.fact 0 rfl))⟩
  try simp only [decide_eq_true_eq,decide_eq_false_iff_not,Vc,Vb] at hb_if2
  refine wp_skip ?_
  refine ⟨_,?_,gq-1,r+top,hrd.2.2.1,hrd.2.1,by omega,by omega,rfl,((h.consL (t:=0) rfl (h.consL (t:=1) rfl (h.consL (t:=5) rfl (h.consL (t:=6) rfl (h.consL (t:=7) rfl ((h.consL (t:=9) rfl (h.consL (t:=10) rfl h.nilL)).respell (congrArg (fun z:Nat=>Go.Value.int .u64 (z:Int)) (Qjs hrd.1 hp3)))))))).noFacts.add (h.fact 0 rfl))⟩
  have:=D.top0; omega
 clear h
 rintro a w ⟨gq,hq0,hq1,hq2,h⟩
 refine Ql (Qt ?_)
 refine Qd h rfl rfl fun a h=>?_
 refine Qd h rfl rfl fun a h=>?_
 refine wpList_nil ?_
 refine Ql (Ql (Qt ?_))
 refine Qa h rfl rfl fun a h=>?_
 refine Zz h rfl Jc rfl fun a h=>?_
 refine Qa h rfl rfl fun a h=>?_
 refine wpList_nil ?_
 refine wp_block ?_
 refine Gc (fun m a w'=>∃ i o cy bw,i≤n∧o.length=n+1∧(∀ u∈o,u<4294967296)∧bw≤1∧cy<4294967296∧val (o.take i)+gq*val (ly.take i)=val (x.take i)+(cy+bw)*4294967296^i∧o.drop i=x.drop i∧m=n-i∧St (fun b=>b<W.heap.size∧b≠g) Ob W w' a 170 [(0,(.slice (some ⟨g,pre.length,none⟩) x.length cx)),(1,(.slice (some ⟨b1,o1,none⟩) n c)),(5,(.int .i64 (n:Int))),(9,(.int .u64 ((gq:Nat):Int))),(11,(.int .u64 ((cy:Nat):Int))),(12,(.int .u64 ((bw:Nat):Int))),(79,(.slice (some ⟨b1,o1,none⟩) n c)),(80,(.int .i64 (n:Int))),(81,(.int .i64 (i:Int)))] [(Rel.row32).fact [.slice (some ⟨b1,o1,none⟩) n c] (ly)] [(g,276,Y1 (pre++o++post))]) (m:=_) (⟨0,x,0,0,by omega,hxl,hxb,by omega,by omega,by simp [val],rfl,rfl,((h.consL (t:=0) rfl (h.consL (t:=1) rfl (h.consL (t:=5) rfl (h.consL (t:=9) rfl (h.consL (t:=11) rfl (h.consL (t:=12) rfl (h.consL (t:=79) rfl (h.consL (t:=80) rfl (h.consL (t:=81) rfl h.nilL))))))))).noFacts.add (h.fact 0 rfl))⟩) ?_
 clear h
 rintro m a w ⟨i,o,cy,bw,hp0,hp1,hp2,hp3,hp4,hp5,hp6,hm,h⟩
 by_cases hlt:i<n
 ·obtain ⟨w1,hw1⟩:∃ y,ly[i]? = some y:=⟨_,Xx (by omega)⟩
  obtain ⟨u,hu⟩:∃ y,x[i]? = some y:=⟨_,Xx (by omega)⟩
  have hw1b:=Wh (h.fact 0 rfl) _ (Vo hw1)
  have hub:=hxb _ (Vo hu)
  have hou:=(N8 hp6).trans hu
  have hgw:gq*w1≤18446744069414584320:=by
   have:=qJd hq2 (show w1≤4294967295 by omega)
   omega
  have hstep:=Qda (p:=gq*w1+cy) (by omega) hu hw1 hub hp3 hp5 rfl rfl
  refine Ql (Qt ?_)
  refine Zk h rfl rfl rfl rfl fun a h=>?_
  refine wpList_nil ?_
  refine Ql ?_
  refine K3 h rfl (by simp; omega) ?_
  refine wp_skip ?_
  refine Ql ?_
  refine wp_block ?_
  refine Ql (Qt ?_)
  refine Qa h rfl rfl fun a h=>?_
  refine Q5 (i) h rfl rfl Jc Y4 (rfl) (by omega) rfl fun a h=>?_
  refine Xc h rfl Sz (X8 (h.fact 0 rfl) hw1) rfl fun a h=>?_
  refine Qd h rfl rfl fun a h=>?_
  refine Qd h rfl rfl fun a h=>?_
  refine wpList_nil ?_
  refine Ql (Qt ?_)
  refine Qa h rfl rfl fun a h=>?_
  refine Qa h rfl rfl fun a h=>?_
  refine X9 (p:=w1) h rfl (by omega) Uo Fy rfl fun a h=>?_
  refine Qdv (p:=gq) (q:=w1) h rfl rfl (by omega) rfl fun a h=>?_
  refine Qa h rfl rfl fun a h=>?_
  refine Fh (p:=gq*w1) (q:=cy) h rfl rfl (by omega) rfl fun a h=>?_
  refine Qd h rfl rfl fun a h=>?_
  refine wpList_nil ?_
  refine Ql (Qt ?_)
  refine Qa h rfl rfl fun a h=>?_
  refine V7 (p:=(gq*w1)+cy) (m:=32) h rfl rfl (by omega) rfl fun a h=>?_
  refine Qd h rfl rfl fun a h=>?_
  refine wpList_nil ?_
  refine Ql (Qt ?_)
  refine Qa h rfl rfl fun a h=>?_
  refine Qa h rfl rfl fun a h=>?_
  refine Q5 (i) h rfl rfl Jc Y4 (rfl) (by omega) rfl fun a h=>?_
  refine Xc h rfl Sz (h.cellW hou) rfl fun a h=>?_
  refine X9 (p:=u) h rfl (by omega) Uo Fy rfl fun a h=>?_
  refine Qa h rfl rfl fun a h=>?_
  refine Jh (p:=(gq*w1)+cy) h rfl Fy Uo rfl fun a h=>?_
  refine X9 (p:=((gq*w1)+cy) % 4294967296) h rfl (by omega) Uo Fy rfl fun a h=>?_
  refine Hw (p:=u) (q:=((gq*w1)+cy) % 4294967296) h rfl rfl (by omega) rfl fun a h=>?_
  refine Qa h rfl rfl fun a h=>?_
  refine Hw (p:=(u+18446744073709551616-(((gq*w1)+cy) % 4294967296)) % 18446744073709551616) (q:=bw) h rfl rfl (by omega) rfl fun a h=>?_
  refine Qd h rfl rfl fun a h=>?_
  refine wpList_nil ?_
  refine Qt ?_
  refine Qa h rfl rfl fun a h=>?_
  refine Qa h rfl rfl fun a h=>?_
  refine Qa h rfl rfl fun a h=>?_
  refine Jh (p:=((u+18446744073709551616-(((gq*w1)+cy) % 4294967296)) % 18446744073709551616+18446744073709551616-(bw)) % 18446744073709551616) h rfl Fy Uo rfl fun a h=>?_
  refine Qa h rfl rfl fun a h=>?_
  refine V7 (p:=((u+18446744073709551616-(((gq*w1)+cy) % 4294967296)) % 18446744073709551616+18446744073709551616-(bw)) % 18446744073709551616) (m:=63) h rfl rfl (by omega) rfl fun a h=>?_
  refine Q5 (i) h rfl rfl Jc Y4 (rfl) (by omega) rfl fun a h=>?_
  refine Pu (i:=i) h rfl rfl Y4 (by omega) fun w h=>?_
  refine Qd h rfl rfl fun a h=>?_
  refine wpList_nil ?_
  refine Qt ?_
  refine Z2 h rfl rfl (by omega) rfl fun a h=>?_
  refine Qa h rfl rfl fun a h=>?_
  refine wpList_nil ?_
  refine ⟨_,?_,i+1,o.set i ((((u+18446744073709551616-(((gq*w1)+cy) % 4294967296)) % 18446744073709551616+18446744073709551616-(bw)) % 18446744073709551616) % 4294967296),((gq*w1)+cy) / 2^32,(((u+18446744073709551616-(((gq*w1)+cy) % 4294967296)) % 18446744073709551616+18446744073709551616-(bw)) % 18446744073709551616) / 2^63,by omega,by rw [H6]; omega,Vi hp2 _ _ (Tv _ (by decide)),hstep.2,by omega,hstep.1,Qaq hp6,rfl,((h.consL (t:=0) rfl (h.consL (t:=1) rfl (h.consL (t:=5) rfl (h.consL (t:=9) rfl (h.consL (t:=11) rfl (h.consL (t:=12) rfl (h.consL (t:=79) rfl (h.consL (t:=80) rfl (h.consL (t:=81) rfl h.nilL))))))))).noFacts.add (h.fact 0 rfl))⟩
  omega
 skip
 refine Ql (Qt ?_)
 refine Zk h rfl rfl rfl rfl fun a h=>?_
 refine wpList_nil ?_
 refine Ql ?_
 refine Yp h rfl (by simp; omega) ?_
 refine wp_exit ?_
 repeat refine Xt ?_
 refine Z6 ?_
 refine Ql (Qt ?_)
 refine Qa h rfl rfl fun a h=>?_
 refine Qa h rfl rfl fun a h=>?_
 have hie:i=n:=by omega
 subst hie
 have hon:=(N8 hp6).trans D.xn
 rw [Y0 (l:=ly) (by omega)] at hp5
 have hbd:=D.bnd
 refine Q5 (i) h rfl rfl Jc Y4 (rfl) (by omega) rfl fun a h=>?_
 refine Xc h rfl Sz (h.cellW hon) rfl fun a h=>?_
 refine X9 (p:=xn) h rfl (by omega) Uo Fy rfl fun a h=>?_
 refine Qa h rfl rfl fun a h=>?_
 refine Hw (p:=xn) (q:=cy) h rfl rfl (by omega) rfl fun a h=>?_
 refine Qa h rfl rfl fun a h=>?_
 refine Hw (p:=(xn+18446744073709551616-(cy)) % 18446744073709551616) (q:=bw) h rfl rfl (by omega) rfl fun a h=>?_
 refine Qd h rfl rfl fun a h=>?_
 refine wpList_nil ?_
 refine Ql (Qt ?_)
 refine Qa h rfl rfl fun a h=>?_
 refine Qa h rfl rfl fun a h=>?_
 refine Qa h rfl rfl fun a h=>?_
 refine Jh (p:=((xn+18446744073709551616-(cy)) % 18446744073709551616+18446744073709551616-(bw)) % 18446744073709551616) h rfl Fy Uo rfl fun a h=>?_
 refine Q5 (i) h rfl rfl Jc Y4 (rfl) (by omega) rfl fun a h=>?_
 refine Pu (i:=i) h rfl rfl Y4 (by omega) fun w h=>?_
 obtain ⟨oa,ho1⟩:∃ oa,oa=o.set i ((((xn+18446744073709551616-(cy)) % 18446744073709551616+18446744073709551616-(bw)) % 18446744073709551616) % 4294967296):=⟨_,rfl⟩
 rw [←ho1] at h
 have ho1l:oa.length=i+1:=by rw [ho1,H6]; exact hp1
 have ho1b:∀ u∈oa,u<4294967296:=by rw [ho1]; exact Vi hp2 _ _ (Tv _ (by decide))
 obtain ⟨v1,hv1⟩:∃ y,oa[i]? = some y:=⟨_,Xx (by omega)⟩
 refine wpList_nil ?_
 refine Ql (Ql (Qt ?_))
 refine Qa h rfl rfl fun a h=>?_
 refine V7 (p:=((xn+18446744073709551616-(cy)) % 18446744073709551616+18446744073709551616-(bw)) % 18446744073709551616) (m:=63) h rfl rfl (by omega) rfl fun a h=>?_
 refine Zk h rfl rfl rfl rfl fun a h=>?_
 refine wpList_nil ?_
 refine Yo h rfl (fun hb_if4=>?_) (fun hb_if4=>?_)
 ·try simp only [decide_eq_true_eq,decide_eq_false_iff_not,Vc,Vb] at hb_if4
  have hf:=D.fin0 hp1 hp4 hp3 hq0 hp5 rfl (by omega)
  refine Ql (Qt ?_)
  refine Qa h rfl rfl fun a h=>?_
  refine Jh (p:=gq) h rfl Fy Uo rfl fun a h=>?_
  refine Qd h rfl rfl fun a h=>?_
  refine wpList_nil ?_
  refine wp_ret ?_
  rw [←ho1] at hf
  repeat refine Hi ?_
  refine Vp Tryz.results335 h (Zj h rfl) ?_
  exact ⟨_,rfl,_,h.wroteOut,_,rfl,by omega,ho1b,by rw [hf.1],hf.2⟩
 try simp only [decide_eq_true_eq,decide_eq_false_iff_not,Vc,Vb] at hb_if4
 have hf:=D.fin1 hp1 hp2 hp4 hp3 hq1 hp5 rfl (by omega)
 rw [←ho1] at hf
 refine wp_skip ?_
 refine Ql (Qt ?_)
 refine Qd h rfl rfl fun a h=>?_
 refine wpList_nil ?_
 refine Ql (Ql (Qt ?_))
 refine Qa h rfl rfl fun a h=>?_
 refine Zz h rfl Jc rfl fun a h=>?_
 refine Qa h rfl rfl fun a h=>?_
 refine wpList_nil ?_
 refine wp_block ?_
 refine Gc (fun m a w'=>∃ j o2 bk,j≤i∧o2.length=i+1∧(∀ u∈o2,u<4294967296)∧bk≤1∧val (o2.take j)+bk*4294967296^j=val (oa.take j)+val (ly.take j)∧o2.drop j=oa.drop j∧m=i-j∧St (fun b=>b<W.heap.size∧b≠g) Ob W w' a 170 [(0,(.slice (some ⟨g,pre.length,none⟩) x.length cx)),(1,(.slice (some ⟨b1,o1,none⟩) i c)),(5,(.int .i64 (i:Int))),(9,(.int .u64 ((gq:Nat):Int))),(18,(.int .u64 ((bk:Nat):Int))),(132,(.slice (some ⟨b1,o1,none⟩) i c)),(133,(.int .i64 (i:Int))),(134,(.int .i64 (j:Int)))] [(Rel.row32).fact [.slice (some ⟨b1,o1,none⟩) i c] (ly)] [(g,276,Y1 (pre++o2++post))]) (m:=_) (⟨0,oa,0,by omega,ho1l,ho1b,by omega,by simp [val],rfl,rfl,((h.consL (t:=0) rfl (h.consL (t:=1) rfl (h.consL (t:=5) rfl (h.consL (t:=9) rfl (h.consL (t:=18) rfl (h.consL (t:=132) rfl (h.consL (t:=133) rfl (h.consL (t:=134) rfl h.nilL)))))))).noFacts.add (h.fact 0 rfl))⟩) ?_
 clear h
 rintro m a w ⟨j,o2,bk,hr0,hr1,hr2,hr3,hr4,hr5,hm,h⟩
 by_cases hlt3:j<i
 ·obtain ⟨w1,hw1⟩:∃ y,ly[j]? = some y:=⟨_,Xx (by omega)⟩
  obtain ⟨u,hu⟩:∃ y,oa[j]? = some y:=⟨_,Xx (by omega)⟩
  have hw1b:=Wh (h.fact 0 rfl) _ (Vo hw1)
  have hub:=ho1b _ (Vo hu)
  have hou:=(N8 hr5).trans hu
  have hstep:=T5 (o:=o2) (l:=oa) (r:=ly) (i:=j) (s:=u+w1+bk) (cy:=bk) (by omega) hu (.inl hw1) hr4 (by omega)
  rw [show (u+w1+bk) / 4294967296=(u+w1+bk) / 2^32 from rfl] at hstep
  refine Ql (Qt ?_)
  refine Zk h rfl rfl rfl rfl fun a h=>?_
  refine wpList_nil ?_
  refine Ql ?_
  refine K3 h rfl (by simp; omega) ?_
  refine wp_skip ?_
  refine Ql ?_
  refine wp_block ?_
  refine Ql (Qt ?_)
  refine Qa h rfl rfl fun a h=>?_
  refine Q5 (j) h rfl rfl Jc Y4 (rfl) (by omega) rfl fun a h=>?_
  refine Xc h rfl Sz (X8 (h.fact 0 rfl) hw1) rfl fun a h=>?_
  refine Qd h rfl rfl fun a h=>?_
  refine Qd h rfl rfl fun a h=>?_
  refine wpList_nil ?_
  refine Ql (Qt ?_)
  refine Qa h rfl rfl fun a h=>?_
  refine Qa h rfl rfl fun a h=>?_
  refine Q5 (j) h rfl rfl Jc Y4 (rfl) (by omega) rfl fun a h=>?_
  refine Xc h rfl Sz (h.cellW hou) rfl fun a h=>?_
  refine X9 (p:=u) h rfl (by omega) Uo Fy rfl fun a h=>?_
  refine Qa h rfl rfl fun a h=>?_
  refine X9 (p:=w1) h rfl (by omega) Uo Fy rfl fun a h=>?_
  refine Fh (p:=u) (q:=w1) h rfl rfl (by omega) rfl fun a h=>?_
  refine Qa h rfl rfl fun a h=>?_
  refine Fh (p:=u+w1) (q:=bk) h rfl rfl (by omega) rfl fun a h=>?_
  refine Qd h rfl rfl fun a h=>?_
  refine wpList_nil ?_
  refine Qt ?_
  refine Qa h rfl rfl fun a h=>?_
  refine Qa h rfl rfl fun a h=>?_
  refine Qa h rfl rfl fun a h=>?_
  refine Jh (p:=(u+w1)+bk) h rfl Fy Uo rfl fun a h=>?_
  refine Qa h rfl rfl fun a h=>?_
  refine V7 (p:=(u+w1)+bk) (m:=32) h rfl rfl (by omega) rfl fun a h=>?_
  refine Q5 (j) h rfl rfl Jc Y4 (rfl) (by omega) rfl fun a h=>?_
  refine Pu (i:=j) h rfl rfl Y4 (by omega) fun w h=>?_
  refine Qd h rfl rfl fun a h=>?_
  refine wpList_nil ?_
  refine Qt ?_
  refine Z2 h rfl rfl (by omega) rfl fun a h=>?_
  refine Qa h rfl rfl fun a h=>?_
  refine wpList_nil ?_
  refine ⟨_,?_,j+1,o2.set j (((u+w1)+bk) % 4294967296),((u+w1)+bk) / 2^32,by omega,by rw [H6]; omega,Vi hr2 _ _ (Tv _ (by decide)),by omega,hstep,Qaq hr5,rfl,((h.consL (t:=0) rfl (h.consL (t:=1) rfl (h.consL (t:=5) rfl (h.consL (t:=9) rfl (h.consL (t:=18) rfl (h.consL (t:=132) rfl (h.consL (t:=133) rfl (h.consL (t:=134) rfl h.nilL)))))))).noFacts.add (h.fact 0 rfl))⟩
  omega
 skip
 refine Ql (Qt ?_)
 refine Zk h rfl rfl rfl rfl fun a h=>?_
 refine wpList_nil ?_
 refine Ql ?_
 refine Yp h rfl (by simp; omega) ?_
 refine wp_exit ?_
 repeat refine Xt ?_
 refine Z6 ?_
 refine Ql (Qt ?_)
 refine Qa h rfl rfl fun a h=>?_
 refine Qa h rfl rfl fun a h=>?_
 refine Qa h rfl rfl fun a h=>?_
 refine Qa h rfl rfl fun a h=>?_
 have hje:j=i:=by omega
 subst hje
 have hon2:=(N8 hr5).trans hv1
 rw [Y0 (l:=ly) (by omega)] at hr4
 refine Q5 (j) h rfl rfl Jc Y4 (rfl) (by omega) rfl fun a h=>?_
 refine Xc h rfl Sz (h.cellW hon2) rfl fun a h=>?_
 refine Qa h rfl rfl fun a h=>?_
 refine Jh (p:=bk) h rfl Fy Uo rfl fun a h=>?_
 refine Qdu h rfl rfl rfl fun a h=>?_
 replace h:=h.respell (u:=.int .u32 (((v1+bk) % 4294967296:Nat):Int)) (by congr 1; rw [←Int.natCast_add,Nl]; congr 1; omega)
 refine Q5 (j) h rfl rfl Jc Y4 (rfl) (by omega) rfl fun a h=>?_
 refine Pu (i:=j) h rfl rfl Y4 (by omega) fun w h=>?_
 refine wpList_nil ?_
 refine Ql (Qt ?_)
 refine Qa h rfl rfl fun a h=>?_
 refine Jh (p:=gq) h rfl Fy Uo rfl fun a h=>?_
 refine Qdz h rfl rfl rfl fun a h=>?_
 replace h:=h.respell (u:=.int .u32 ((val x / val ly:Nat):Int)) (congrArg _ (Qyb hf.1 D.qlt))
 refine Qd h rfl rfl fun a h=>?_
 refine wpList_nil ?_
 refine wp_ret ?_
 repeat refine Hi ?_
 refine Vp Tryz.results335 h (Zj h rfl) ?_
 exact ⟨_,rfl,_,h.wroteOut,_,rfl,by rw [H6]; omega,Vi hr2 _ _ (Tv _ (by decide)),rfl,D.fin2 ho1l ho1b hr1 hr2 hv1 hr3 hf.2 hr4⟩
set_option maxHeartbeats 1000000 in
theorem Ht (hO:∀ b,Ob b→b<W.heap.size) {A:Option Addr} {n c x:Nat} {A':Option Addr} {n' c' y:Nat} (hx0:Rel.natA.at_ W Ob [.slice A n c] x) (hx1:Rel.natA.at_ W Ob [.slice A' n' c'] y) (hsx:sz x≤4294967296) (hsy:sz y≤4294967296) (hy:0<y) :
  Calls Tryz.prog 311 #[.slice A n c,.slice A' n' c'] W (Ms W Ob (Qzb (Rel.natN.sliceF (x / y)) (Rel.natN.sliceF (x % y)) (Yg (.int .i64 0)))):=by
 refine enter (vs:=[(.slice A n c),(.slice A' n' c')]) (Ob:=Ob) (K:=fun b=>b<W.heap.size) (Fs:=[(Rel.natA).fact [.slice A n c] (x),(Rel.natA).fact [(.slice A' n' c')] (y)]) Tryz.func311 rfl Tryz.ntmps311 rfl (fun _ h=>h) hO (by simp only [Vw,No,or_false,forall_eq_or_imp,forall_eq,false_imp_iff,implies_true]; exact ⟨hx0,hx1⟩) fun a h=>?_
 refine Ql (Qt ?_)
 refine Qd h rfl rfl fun a h=>?_
 refine Qd h rfl rfl fun a h=>?_
 refine Qd h rfl rfl fun a h=>?_
 refine wpList_nil ?_
 refine Ql (Qt ?_)
 refine Qa h rfl rfl fun a h=>?_
 refine Q9 h Eg rfl rfl rfl (Jb _ _ (fun b=>h.owns_lt) (h.fact 0 rfl)) rfl fun r w a hg hF h=>?_
 obtain ⟨A1,n2,c3,e5,f4⟩:=hF
 subst e5
 have h:=h.add (f:=(Rel.natN).fact [(.slice A1 n2 c3)] (x)) f4
 refine Qa h rfl rfl fun a h=>?_
 refine Q9 h Eg rfl rfl rfl (Jb _ _ (fun b=>h.owns_lt) (h.fact 2 rfl)) rfl fun r w a hg hF h=>?_
 obtain ⟨A6,n7,c8,e10,f9⟩:=hF
 subst e10
 have h:=h.add (f:=(Rel.natN).fact [(.slice A6 n7 c8)] (y)) f9
 refine Qd h rfl rfl fun a h=>?_
 refine Qd h rfl rfl fun a h=>?_
 refine wpList_nil ?_
 refine Ql ?_
 refine wp_block ?_
 refine Ql (Qt ?_)
 refine Qa h rfl rfl fun a h=>?_
 refine Zz h rfl Jc rfl fun a h=>?_
 obtain ⟨l,hl1,hl2,hl3⟩:=h.fact 1 rfl
 have h:=h.add (f:=Rel.row32.fact [(.slice A1 n2 c3)] l) hl1
 obtain ⟨el,_,_⟩:=Jv hl1
 have hszl:=K9 hl2
 rw [hl3] at hszl
 obtain ⟨r,hr1,hr2,hr3⟩:=h.fact 1 rfl
 have h:=h.add (f:=Rel.row32.fact [(.slice A6 n7 c8)] r) hr1
 obtain ⟨er,_,_⟩:=Jv hr1
 have hszr:=K9 hr2
 rw [hr3] at hszr
 have h38:(2:Nat)^38=274877906944:=by decide
 have h47:(2:Nat)^47=140737488355328:=by decide
 have h63:(2:Nat)^63=9223372036854775808:=by decide
 have hr0:r.length=0↔y=0:=by rw [←hr3,Fe hr2]; exact List.length_eq_zero_iff
 refine Zk h rfl rfl rfl rfl fun a h=>?_
 refine Qd h rfl rfl fun a h=>?_
 refine wpList_nil ?_
 refine Yp h rfl (by simp; omega) ?_
 refine Ql (Qt ?_)
 refine Qa h rfl rfl fun a h=>?_
 refine Zz h rfl Jc rfl fun a h=>?_
 refine Qa h rfl rfl fun a h=>?_
 refine Zz h rfl Jc rfl fun a h=>?_
 refine Zk h rfl rfl rfl rfl fun a h=>?_
 refine Qd h rfl rfl fun a h=>?_
 refine wpList_nil ?_
 refine Yo h rfl (fun hb_if2=>?_) (fun hb_if2=>?_)
 ·try simp only [decide_eq_true_eq,decide_eq_false_iff_not,Vc,Vb] at hb_if2
  have hlt:=F4 hl2 hr2 (by omega)
  rw [hl3,hr3] at hlt
  refine Ql (Qt ?_)
  refine Qa h rfl rfl fun a h=>?_
  refine Q9 h qFp rfl rfl rfl (Fr _ _ (fun b=>h.owns_lt) (J7 (h.fact 3 rfl)) (by omega)) rfl fun r w a hg hF h=>?_
  obtain ⟨A11,n12,c13,e15,f14⟩:=hF
  subst e15
  have h:=h.add (f:=(Rel.natN).fact [(.slice A11 n12 c13)] (x)) f14
  refine Qd h rfl rfl fun a h=>?_
  refine Qd h rfl rfl fun a h=>?_
  refine Qd h rfl rfl fun a h=>?_
  refine wpList_nil ?_
  refine wp_ret ?_
  exact Qmn Tryz.results311 h (Zj h rfl) (Zj h rfl) (Zj h rfl) ⟨_,rfl,h.grow0,_,_,_,rfl,⟨_,_,_,rfl,by rw [Nat.div_eq_of_lt hlt]; exact Bu⟩,⟨_,_,_,rfl,by rw [qJg hlt]; exact h.out 0 rfl⟩,rfl⟩
 try simp only [decide_eq_true_eq,decide_eq_false_iff_not,Vc,Vb] at hb_if2
 refine Ql (Qt ?_)
 refine Qa h rfl rfl fun a h=>?_
 refine Zz h rfl Jc rfl fun a h=>?_
 refine Zk h rfl rfl rfl rfl fun a h=>?_
 refine Qd h rfl rfl fun a h=>?_
 refine wpList_nil ?_
 refine Yo h rfl (fun hb_if3=>?_) (fun hb_if3=>?_)
 ·try simp only [decide_eq_true_eq,decide_eq_false_iff_not,Vc,Vb] at hb_if3
  refine Ql (Qt ?_)
  refine Qa h rfl rfl fun a h=>?_
  refine Qa h rfl rfl fun a h=>?_
  obtain ⟨b1,o1,rfl,_,_,_⟩:=Yn (h.fact 0 rfl) (i:=0) (by omega)
  obtain ⟨y1,hy1⟩:∃ y,r[0]? = some y:=⟨_,Xx (by omega)⟩
  have hy1b:=Wh (h.fact 0 rfl) _ (Vo hy1)
  refine Q5 (0) h rfl rfl Jc Y4 (by omega) (by omega) rfl fun a h=>?_
  have hyv:y=y1:=by rw [←hr3,Ku (l:=r) (k:=0) (by omega) hy1]; simp [val]
  refine Xc h rfl Sz (X8 (h.fact 0 rfl) hy1) rfl fun a h=>?_
  refine Q9 h Tryz.func332 rfl rfl rfl (Qoe _ _ (fun b=>h.owns_lt) (h.fact 1 rfl) (hl3) (by omega) (by omega) (hy1b)) rfl fun r w a hg hF h=>?_
  obtain ⟨y16,y17,e18,t19,t20⟩:=hF
  obtain ⟨A21,n22,c23,e25,f24⟩:=t19
  subst e25
  obtain rfl:=t20
  subst e18
  have h:=h.add (f:=(Rel.natN).fact [(.slice A21 n22 c23)] (x / y1)) f24
  refine Qa h rfl rfl fun a h=>?_
  refine Z5 (vs:=[(.slice A21 n22 c23),(.int .u32 ((x % y1:Nat):Int))]) h rfl rfl rfl fun a h=>?_
  refine Z5 (vs:=[(.slice A21 n22 c23),(.int .u32 ((x % y1:Nat):Int))]) h rfl rfl rfl fun a h=>?_
  refine Qd h rfl rfl fun a h=>?_
  refine Qd h rfl rfl fun a h=>?_
  refine wpList_nil ?_
  refine Ql (Qt ?_)
  refine Qa h rfl rfl fun a h=>?_
  refine Qa h rfl rfl fun a h=>?_
  refine V3 h rfl (Vd (zs:=[(.int .u32 0)]) Jc Y4 qWl rfl rfl (by decide) (by decide) (by decide) rfl) rfl fun g26 w a h=>?_
  have hl1x:∀ z∈[x % y1],z<4294967296:=by intro z hz; simp at hz; subst hz; exact qZv (Tv _ (by omega)) (by omega)
  have hrow:=Yj (r:=[x % y1]) 1 h (fun i hi=>by rcases i with _ | i <;> first | rfl | (simp at hi)) hl1x (show 1<2^47 by decide) (X2 _) (by decide)
  replace h:=h.publish
  have h:=h.add (f:=Rel.natA.fact [.slice (some ⟨g26,0,none⟩) 1 1] (x % y1)) ⟨_,hrow,hl1x,by simp [val]⟩
  refine Q9 h Eg rfl rfl rfl (Jb _ _ (fun b=>h.owns_lt) (h.fact 0 rfl)) rfl fun r w a hg hF h=>?_
  obtain ⟨A27,n28,c29,e31,f30⟩:=hF
  subst e31
  have h:=h.add (f:=(Rel.natN).fact [(.slice A27 n28 c29)] (x % y1)) f30
  refine Qd h rfl rfl fun a h=>?_
  refine Qd h rfl rfl fun a h=>?_
  refine Qd h rfl rfl fun a h=>?_
  refine wpList_nil ?_
  refine wp_ret ?_
  exact Qmn Tryz.results311 h (Zj h rfl) (Zj h rfl) (Zj h rfl) ⟨_,rfl,h.grow0,_,_,_,rfl,⟨_,_,_,rfl,by rw [hyv]; exact h.out 2 rfl⟩,⟨_,_,_,rfl,by rw [hyv]; exact h.out 0 rfl⟩,rfl⟩
 try simp only [decide_eq_true_eq,decide_eq_false_iff_not,Vc,Vb] at hb_if3
 refine wp_skip ?_
 refine Ql (Qt ?_)
 refine Qa h rfl rfl fun a h=>?_
 refine Qa h rfl rfl fun a h=>?_
 refine Zz h rfl Jc rfl fun a h=>?_
 refine Vk h rfl rfl (by omega) rfl fun a h=>?_
 obtain ⟨b1,o1,rfl,_,_,_⟩:=Yn (h.fact 0 rfl) (i:=0) (by omega)
 obtain ⟨y1,hy1⟩:∃ y,r[n7-1]? = some y:=⟨_,Xx (by omega)⟩
 have hy1b:=Wh (h.fact 0 rfl) _ (Vo hy1)
 refine Q5 (n7-1) h rfl rfl Jc Y4 (by omega) (by omega) rfl fun a h=>?_
 have hy0:0<y1:=by
  obtain ⟨z,hz,hz0⟩:=hr2.2 (by intro e; exact absurd (show r.length=0 by rw [e]; rfl) (by omega))
  rw [←er,hy1] at hz; injection hz with hz; omega
 have hszt:sz y1≤32:=Ks.2 (by omega)
 have hszp:=Qv1 hy0
 have hszv:=Qja hr2 (y:=y1) (by rw [←er]; exact hy1)
 rw [hr3] at hszv
 refine Xc h rfl Sz (X8 (h.fact 0 rfl) hy1) rfl fun a h=>?_
 refine Q9 h Tryz.func333 rfl rfl rfl (Qlc _ _ (fun b=>h.owns_lt) (by omega)) rfl fun r w a hg hF h=>?_
 obtain rfl:=hF
 refine Qd h rfl rfl fun a h=>?_
 refine wpList_nil ?_
 refine Ql (Qt ?_)
 refine Qa h rfl rfl fun a h=>?_
 refine Qa h rfl rfl fun a h=>?_
 refine Qa h rfl rfl fun a h=>?_
 refine Zz h rfl Jc rfl fun a h=>?_
 refine Z2 h rfl rfl (by omega) rfl fun a h=>?_
 obtain ⟨s,hs⟩:∃ s,s=32-sz y1:=⟨_,rfl⟩
 have hs31:s≤31:=by omega
 have e32:(2:Nat)^32=4294967296:=by decide
 have hvx:x*2^s<4294967296^(n2+1):=by
  have h1:=F3 l hl2.1
  rw [hl3,←el] at h1
  rw [Nc]
  exact qZv (qXx h1 (show 0<2^s from qXt (by decide))) (qXa _ (by rw [←e32]; exact qJy (by decide) (by omega)))
 have hvy:y*2^s<4294967296^n7:=by
  have h1:=Mm y
  rw [←e32,←Nat.pow_mul]
  have h2:y*2^s<2^sz y*2^s:=qXx h1 (qXt (by decide))
  rw [←qJn] at h2
  rw [show 32*n7=sz y+s from by omega]
  exact h2
 refine Oe (vs:=[(.slice A1 n2 c3),.int .i64 (s:Int),.int .i64 ((n2+1:Nat):Int)]) h Tryz.func334 rfl rfl (by rw [hs]; rfl) (Qa4 _ _ (fun b=>h.owns_lt) (J7 (h.fact 3 rfl)) (by omega) hs31 (by omega) hvx) rfl ?_
 rintro _ gX _ w a ⟨rfl,X,rfl,hXl,hXb,hXv⟩ h
 refine Qa h rfl rfl fun a h=>?_
 refine Qa h rfl rfl fun a h=>?_
 refine Qa h rfl rfl fun a h=>?_
 refine Zz h rfl Jc rfl fun a h=>?_
 refine Oe (vs:=[(.slice (some ⟨b1,o1,none⟩) n7 c8),.int .i64 (s:Int),.int .i64 ((n7:Nat):Int)]) h Tryz.func334 rfl rfl (by rw [hs]; rfl) (Qa4 _ _ (fun b=>h.owns_lt) (J7 (h.fact 2 rfl)) (by omega) hs31 (by omega) hvy) rfl ?_
 rintro _ gY _ w a ⟨rfl,Y,rfl,hYl,hYb,hYv⟩ h
 have hrowY:=Yj (r:=Y) n7 h (fun _ _=>rfl) hYb (by omega) (by omega) (by omega)
 rw [hYl] at hrowY
 replace h:=h.publish
 have h:=h.add (f:=Rel.row32.fact [.slice (some ⟨gY,0,none⟩) n7 n7] Y) hrowY
 refine Qd h rfl rfl fun a h=>?_
 refine Qd h rfl rfl fun a h=>?_
 refine wpList_nil ?_
 refine Ql (Qt ?_)
 refine Qa h rfl rfl fun a h=>?_
 refine Zz h rfl Jc rfl fun a h=>?_
 refine Qd h rfl rfl fun a h=>?_
 refine wpList_nil ?_
 refine Ql (Qt ?_)
 refine Qa h rfl rfl fun a h=>?_
 refine Zz h rfl Jc rfl fun a h=>?_
 refine Qa h rfl rfl fun a h=>?_
 refine Vk h rfl rfl (by omega) rfl fun a h=>?_
 refine Z2 h rfl rfl (by omega) rfl fun a h=>?_
 have hyB:4294967296^(n7-1)≤y:=by
  rw [←hr3,Ku (l:=r) (k:=n7-1) (by omega) hy1]
  have:=qXa (4294967296^(n7-1)) hy0
  omega
 have hxB:x<4294967296^n2:=by have h1:=F3 l hl2.1; rwa [hl3,←el] at h1
 have hR:=Qio (la:=n2) hXv hYv hXl hXb hYl hYb (by omega) hxB hyB (by omega)
 replace h:=h.respell (u:=.int .i64 ((n2-n7+1:Nat):Int)) (congrArg _ (by omega))
 refine F8 (m:=(n2-n7+1)) (zs:=[(.int .u32 0)]) h (rfl) (rfl) Jc qUj rfl Y4 qWl rfl rfl (by omega) rfl fun g32 w a h=>?_
 replace h:=h.respellB (Ws _)
 replace h:=h.perm (List.Perm.swap _ _ _)
 refine Qd h rfl rfl fun a h=>?_
 refine wpList_nil ?_
 refine Ql (Ql (Qt ?_))
 refine Qa h rfl rfl fun a h=>?_
 refine Zz h rfl Jc rfl fun a h=>?_
 refine Vk h rfl rfl (by omega) rfl fun a h=>?_
 refine Qd h rfl rfl fun a h=>?_
 refine wpList_nil ?_
 refine wp_block ?_
 refine Gc (fun m a w'=>∃ oq ox,oq.length=(n2-n7+1)∧(∀ u∈oq,u<4294967296)∧Rest ox Y n2 n7 m∧val (oq.drop m)*4294967296^m*val Y+val ox=val X∧True∧St (fun b=>b<W.heap.size) Ob W w' a 98 [(4,(.slice (some ⟨g32,0,none⟩) (n2-n7+1) (n2-n7+1))),(9,(.int .i64 ((32-sz (y1):Nat):Int))),(10,(.slice (some ⟨gX,0,none⟩) (n2+1) (n2+1))),(11,(.slice (some ⟨gY,0,none⟩) n7 n7)),(12,(.int .i64 (n7:Int))),(13,(.int .i64 ((m:Int)-1)))] [(Rel.row32).fact [(.slice (some ⟨gY,0,none⟩) n7 n7)] (Y)] [(gX,276,Y1 ox),(g32,276,Y1 oq)]) (m:=(n2-n7+1)) (⟨List.replicate (n2-n7+1) 0,X,by simp,by simp,hR,by rw [Ll (by simp)]; simp [val],trivial,((h.consL (t:=4) rfl (h.consL (t:=9) rfl (h.consL (t:=10) rfl (h.consL (t:=11) rfl (h.consL (t:=12) rfl ((h.consL (t:=13) rfl h.nilL).respell (by congr 1 <;> omega))))))).noFacts.add (h.fact 0 rfl))⟩) ?_
 clear h
 rintro m a w ⟨oq,ox,hp0,hp1,hp2,hp3,hm,h⟩
 rcases m with _ | k
 ·skip
  refine Ql (Ql (Qt ?_))
  refine Qa h rfl rfl fun a h=>?_
  refine Zk h rfl rfl rfl rfl fun a h=>?_
  refine wpList_nil ?_
  refine Yp h rfl (by simp) ?_
  refine wp_exit ?_
  repeat refine Xt ?_
  refine Z6 ?_
  refine Ql ?_
  have hfin:=Qpc (x:=x) (y:=y) (s:=s) (r:=val ox) (q:=oq) hy (by simpa [hXv,hYv] using hp3) (by have:=hp2.lt; rw [hYv] at this; simpa using this)
  have hoxl:=hp2.ol
  have hox:=Qjc (o:=ox) (n:=n7) (by omega) (qZv (show val ox<y*2^s by have:=hp2.lt; rw [hYv] at this; simpa using this) (qKb hvy))
  rw [hfin.2] at hox
  have hrX:=Yj (r:=ox.take n7) (n2+1) h (Qd8 ox n7) (fun u hu=>hp2.ob u (Rx hu)) (by rw [Kd]; omega) (by rw [Kd]; omega) (by omega)
  rw [Kd,Nb (by omega)] at hrX
  replace h:=h.publish
  have h:=h.add (f:=Rel.natA.fact [.slice (some ⟨gX,0,none⟩) n7 (n2+1)] (x % y*2^s)) ⟨_,hrX,fun u hu=>hp2.ob u (Rx hu),hox⟩
  have hrq:=Yj (r:=oq) (n2-n7+1) h (fun _ _=>rfl) hp1 (by omega) (by omega) (by omega)
  rw [hp0] at hrq
  replace h:=h.publish
  have h:=h.add (f:=Rel.natA.fact [.slice (some ⟨g32,0,none⟩) (n2-n7+1) (n2-n7+1)] (x / y)) ⟨_,hrq,hp1,hfin.1⟩
  have hszm:sz (x % y*2^s)≤4294967400:=by
   have h1:=Qi9 (x % y) (2^s)
   have h2:=J9 (qKb (Tv x hy))
   have h3:sz (2^s)≤s+1:=Ks.2 (Nat.pow_lt_pow_right (by decide) (by omega))
   omega
  refine Gf Qp 6 [some 91,some 92,some 93,some 94,some 95,some 96] [[],[0],[],[],[2,3],[]] [(Yg (.slice (some ⟨g32,0,none⟩) (n2-n7+1) (n2-n7+1))),(Rel.natN.sliceF (x / y)),(Yg (.slice (some ⟨gX,0,none⟩) (n2+1) (n2+1))),(Yg (.int .i64 (n7:Int))),(Yg (.slice (some ⟨gX,0,none⟩) n7 (n2+1))),(Yg (.int .i64 ((32-sz (y1):Nat):Int)))] rfl h rfl ⟨?_,?_,?_,?_,?_,?_,trivial⟩ ?_
  ·intro dp hdp0 hdp dv Fx a w h
   refine Qa h rfl rfl fun a h=>?_
   refine wpList_nil ⟨rfl,?_⟩
   exact ⟨_,h.drawEnd (F':=[]) rfl rfl⟩
  ·intro dp hdp0 hdp dv Fx a w h
   have e38:dv 0=(.slice (some ⟨g32,0,none⟩) (n2-n7+1) (n2-n7+1)):=h.fact 0 rfl
   replace h:=(h.spellE (t:=91) e38 rfl h)
   refine Q9 h Eg rfl rfl rfl (Jb _ _ (fun b=>h.owns_lt) (h.fact 1 rfl)) rfl fun r w a hg hF h=>?_
   obtain ⟨A39,n40,c41,e43,f42⟩:=hF
   subst e43
   have h:=h.add (f:=(Rel.natN).fact [(.slice A39 n40 c41)] (x / y)) f42
   refine wpList_nil ⟨rfl,?_⟩
   exact ⟨_,h.drawEnd (F':=[_,_]) rfl ⟨_,_,_,rfl,h.fact 0 rfl⟩⟩
  ·intro dp hdp0 hdp dv Fx a w h
   refine Qa h rfl rfl fun a h=>?_
   refine wpList_nil ⟨rfl,?_⟩
   exact ⟨_,h.drawEnd (F':=[]) rfl rfl⟩
  ·intro dp hdp0 hdp dv Fx a w h
   refine Qa h rfl rfl fun a h=>?_
   refine wpList_nil ⟨rfl,?_⟩
   exact ⟨_,h.drawEnd (F':=[]) rfl rfl⟩
  ·intro dp hdp0 hdp dv Fx a w h
   have e44:dv 2=(.slice (some ⟨gX,0,none⟩) (n2+1) (n2+1)):=h.fact 0 rfl
   have e45:dv 3=(.int .i64 (n7:Int)):=h.fact 1 rfl
   replace h:=(h.spellE (t:=94) e45 rfl (h.spellE (t:=93) e44 rfl h))
   refine Of (i:=n7) h rfl rfl Jc Y4 (by omega) rfl fun a h=>?_
   replace h:=h.respell (u:=.slice (some ⟨gX,0,none⟩) n7 (n2+1)) rfl
   refine wpList_nil ⟨rfl,?_⟩
   exact ⟨_,h.drawEnd (F':=[_,_]) rfl rfl⟩
  ·intro dp hdp0 hdp dv Fx a w h
   refine Qa h rfl rfl fun a h=>?_
   refine wpList_nil ⟨rfl,?_⟩
   exact ⟨_,h.drawEnd (F':=[]) rfl rfl⟩
  intro dv a w h
  obtain ⟨A46,n47,c48,e50,f49⟩:=(h.fact 1 rfl)
  have e51:dv 4=(.slice (some ⟨gX,0,none⟩) n7 (n2+1)):=h.fact 4 rfl
  have e52:dv 5=(.int .i64 ((32-sz (y1):Nat):Int)):=h.fact 5 rfl
  have h2:=(h.spellE (t:=96) e52 rfl (h.spellE (t:=95) e51 rfl (h.spellE (t:=92) e50 rfl (h.consL (t:=76) rfl (h.consL (t:=13) rfl (h.consL (t:=12) rfl (h.consL (t:=11) rfl (h.consL (t:=10) rfl (h.consL (t:=9) rfl (h.consL (t:=4) rfl h.nilL))))))))))
  have h3:=h2.noFacts
  have h3:=h3.add (h2.fact 8 rfl)
  have h3:=h3.add (h2.fact 7 rfl)
  have h3:=h3.add (h2.fact 6 rfl)
  clear h2
  replace h:=h3
  clear h3
  have h:=h.add (f:=(Rel.natN).fact [(.slice A46 n47 c48)] (x / y)) f49
  refine Q9 h Tryz.func336 rfl rfl rfl (Qod _ _ (fun b=>h.owns_lt) (h.fact 2 rfl) (hszm) (by omega)) rfl fun r w a hg hF h=>?_
  obtain ⟨A53,n54,c55,e57,f56⟩:=hF
  subst e57
  have h:=h.add (f:=(Rel.natN).fact [(.slice A53 n54 c55)] ((x % y*2^s) / 2^(32-sz (y1)))) f56
  refine Qd h rfl rfl fun a h=>?_
  refine Qd h rfl rfl fun a h=>?_
  refine Qd h rfl rfl fun a h=>?_
  refine wpList_nil ?_
  refine wp_ret ?_
  exact Qmn Tryz.results311 h (Zj h rfl) (Zj h rfl) (Zj h rfl) ⟨_,rfl,h.grow0,_,_,_,rfl,⟨_,_,_,rfl,h.out 1 rfl⟩,⟨_,_,_,rfl,by have e:=Nat.mul_div_cancel (x % y) (show 0<2^s from qXt (by decide)); have o:=h.out 0 rfl; rw [←hs,e] at o; exact o⟩,rfl⟩
 replace h:=(h.spellE (t:=13) (c:=.int .i64 ((k:Nat):Int)) (by congr 1; omega) rfl h)
 have hR:=hp2
 have hXq:=hp3
 have hkm:=hR.hm
 have hoxl:=hR.ol
 refine Ql (Ql (Qt ?_))
 refine Qa h rfl rfl fun a h=>?_
 refine Zk h rfl rfl rfl rfl fun a h=>?_
 refine wpList_nil ?_
 refine K3 h rfl (by simp) ?_
 refine wp_skip ?_
 refine Ql ?_
 refine wp_block ?_
 refine Qt ?_
 refine Qa h rfl rfl fun a h=>?_
 refine Qa h rfl rfl fun a h=>?_
 refine Qa h rfl rfl fun a h=>?_
 refine Qa h rfl rfl fun a h=>?_
 refine Qa h rfl rfl fun a h=>?_
 refine Qa h rfl rfl fun a h=>?_
 refine Z2 h rfl rfl (by omega) rfl fun a h=>?_
 refine Z2 h rfl rfl (by omega) rfl fun a h=>?_
 refine Qpw (l:=k) (r:=k+n7+1) h rfl rfl rfl Jc Y4 (by omega) (by omega) (by omega) rfl fun a h=>?_
 replace h:=h.respell (u:=.slice (some ⟨gX,(ox.take k).length,none⟩) (Lq ox k n7).length (n2+1-k)) (by rw [Er (by omega),Kd,Nb (by omega)]; congr 2 <;> (try congr 1) <;> omega)
 refine Qa h rfl rfl fun a h=>?_
 replace h:=h.respellB (cs':=Y1 (ox.take k++Lq ox k n7++ox.drop (k+n7+1))) (by rw [P1])
 obtain ⟨top,nx,xn,x1,x2,D⟩:=hR.dig
 refine Qi0 h Tryz.func335 rfl rfl rfl (Qh1 _ _ (fun b=>h.owns_lt0 b) h.own0 h.ownNot (h.factOwn 0 rfl) (by omega) D) rfl ?_
 rintro _ _ w a ⟨w',rfl,hwl,hwb,rfl,hwv⟩ h
 have hnx:=hR.next hwl hwb hwv (by omega) hXq
 have hqd:val (Lq ox k n7) / val Y<4294967296:=D.qlt
 refine Q5 (k) h rfl rfl Jc Y4 (rfl) (by omega) rfl fun a h=>?_
 replace h:=h.perm (List.Perm.swap _ _ _)
 refine J1 (i:=k) h rfl rfl Y4 (by omega) fun w h=>?_
 replace h:=h.perm (List.Perm.swap _ _ _)
 refine wpList_nil ?_
 refine Qt ?_
 refine Qa h rfl rfl fun a h=>?_
 refine Vk h rfl rfl (by omega) rfl fun a h=>?_
 refine Qd h rfl rfl fun a h=>?_
 refine wpList_nil ?_
 refine ⟨k,?_,oq.set k (val (Lq ox k n7) / val Y),ox.take k++w'++ox.drop (k+n7+1),by rw [H6]; omega,Vi hp1 _ _ hqd,hnx.1,hnx.2,trivial,((h.consL (t:=4) rfl (h.consL (t:=9) rfl (h.consL (t:=10) rfl (h.consL (t:=11) rfl (h.consL (t:=12) rfl (h.consL (t:=13) rfl h.nilL)))))).noFacts.add (h.fact 0 rfl))⟩
 omega
end Orr

namespace Orr
open Go Go.Proofs
variable (Ob:Nat→Prop) (W:World)
set_option maxHeartbeats 1000000 in
theorem Qeb (hO:∀ b,Ob b→b<W.heap.size) {b0:Bool} {A0:Option Addr} {n0 c0:Nat} {z0:Int} {b1:Bool} {A1:Option Addr} {n1 c1:Nat} {z1:Int} (hx0:Rel.intA.at_ W Ob [.bool b0,.slice A0 n0 c0] z0) (hx1:Rel.intA.at_ W Ob [.bool b1,.slice A1 n1 c1] z1) (hs0:Xj z0≤4294967295) (hs1:Xj z1≤4294967295) (hz:z1≠0) :
  Calls Tryz.prog 312 #[.agg #[.bool b0,.slice A0 n0 c0],.agg #[.bool b1,.slice A1 n1 c1]] W (Ms W Ob (Qzb (Rel.intN.aggF (z0 / z1)) (Rel.intN.aggF (z0 % z1)) (Yg (.int .i64 0)))):=by
 obtain ⟨hx2,hz0⟩:=Yb hx0
 obtain ⟨hx3,hz1⟩:=Yb hx1
 have hs0':sz z0.natAbs≤4294967295:=hs0
 have hs1':sz z1.natAbs≤4294967295:=hs1
 have hz1p:0<z1.natAbs:=by omega
 have hszq:sz (z0.natAbs / z1.natAbs)≤sz z0.natAbs:=J9 (qYk _ _)
 have hszm:=J9 (qKb (Tv z0.natAbs hz1p))
 have hmlt:=Tv z0.natAbs hz1p
 have hs1v:sz 1=1:=by decide
 refine enter (vs:=[(.agg #[(.bool b0),(.slice A0 n0 c0)]),(.agg #[(.bool b1),(.slice A1 n1 c1)])]) (Ob:=Ob) (K:=fun b=>b<W.heap.size) (Fs:=[(Rel.intA).fact [(.bool b0),(.slice A0 n0 c0)] (z0),(Rel.intA).fact [(.bool b1),(.slice A1 n1 c1)] (z1),(Rel.natA).fact [(.slice A0 n0 c0)] (z0.natAbs),(Rel.natA).fact [(.slice A1 n1 c1)] (z1.natAbs)]) Tryz.func312 rfl Tryz.ntmps312 rfl (fun _ h=>h) hO (by simp only [Vw,No,or_false,forall_eq_or_imp,forall_eq,false_imp_iff,implies_true]; exact ⟨hx0,hx1,hx2,hx3⟩) fun a h=>?_
 rcases b0 with _ | _
 ·have hdv:=At hz1 hz1p hz0
  refine Ql (Qt ?_)
  refine V2 h rfl rfl fun g1 w a h=>?_
  refine V2 h rfl rfl fun g2 w a h=>?_
  refine Jl h Ko rfl fun g3 w a h=>?_
  refine Jl h Ko rfl fun g4 w a h=>?_
  refine Qd h rfl rfl fun a h=>?_
  refine wpList_nil ?_
  refine Ql (Qt ?_)
  refine Qu h rfl (Ja) rfl fun a h=>?_
  refine Zh h 3 rfl rfl Nn rfl rfl fun a h=>?_
  refine Qu h rfl (Ja) rfl fun a h=>?_
  refine Zh h 2 rfl rfl Nn rfl rfl fun a h=>?_
  refine Q9 h Tryz.func311 rfl rfl rfl (Ht _ _ (fun b=>h.owns_lt) (h.fact 2 rfl) (h.fact 3 rfl) (by omega) (by omega) (by omega)) rfl fun r w a hg hF h=>?_
  obtain ⟨y5,y6,y7,e8,t9,t10,t11⟩:=hF
  obtain ⟨A12,n13,c14,e16,f15⟩:=t9
  subst e16
  obtain ⟨A17,n18,c19,e21,f20⟩:=t10
  subst e21
  obtain rfl:=t11
  subst e8
  have h:=h.add (f:=(Rel.natN).fact [(.slice A12 n13 c14)] ((z0.natAbs) / (z1.natAbs))) f15
  have h:=h.add (f:=(Rel.natN).fact [(.slice A17 n18 c19)] ((z0.natAbs) % (z1.natAbs))) f20
  refine Qa h rfl rfl fun a h=>?_
  refine Z5 (vs:=[(.slice A12 n13 c14),(.slice A17 n18 c19),(.int .i64 0)]) h rfl rfl rfl fun a h=>?_
  refine Z5 (vs:=[(.slice A12 n13 c14),(.slice A17 n18 c19),(.int .i64 0)]) h rfl rfl rfl fun a h=>?_
  refine Z5 (vs:=[(.slice A12 n13 c14),(.slice A17 n18 c19),(.int .i64 0)]) h rfl rfl rfl fun a h=>?_
  refine Qd h rfl rfl fun a h=>?_
  refine Qd h rfl rfl fun a h=>?_
  refine Qd h rfl rfl fun a h=>?_
  refine wpList_nil ?_
  refine Ql (Ql (Qt ?_))
  refine Qa h rfl rfl fun a h=>?_
  refine Zk h rfl rfl rfl rfl fun a h=>?_
  refine wpList_nil ?_
  refine Yp h rfl (rfl) ?_
  refine wp_skip ?_
  refine Ql (Qt ?_)
  refine Qa h rfl rfl fun a h=>?_
  refine Qu h rfl (Jn) rfl fun a h=>?_
  refine Zh h 3 rfl rfl Mn rfl rfl fun a h=>?_
  refine Qu h rfl (Jn) rfl fun a h=>?_
  refine Zh h 2 rfl rfl Mn rfl rfl fun a h=>?_
  refine Dc h rfl rfl qUe rfl fun a h=>?_
  refine Q9 h qWt rfl rfl rfl (X3 _ _ (fun b=>h.owns_lt) (h.fact 1 rfl)) rfl fun r w a hg hF h=>?_
  obtain ⟨cs22,e24,f23⟩:=hF
  obtain ⟨b25,A26,n27,c28,rfl⟩:=Xk f23
  subst e24
  have h:=h.add (f:=(Rel.intN).fact [(.bool b25),(.slice A26 n27 c28)] (Q4 (!(false == b1)) ((z0.natAbs) / (z1.natAbs)))) f23
  refine Qa h rfl rfl fun a h=>?_
  refine Q9 h qWt rfl rfl rfl (X3 _ _ (fun b=>h.owns_lt) (h.fact 1 rfl)) rfl fun r w a hg hF h=>?_
  obtain ⟨cs29,e31,f30⟩:=hF
  obtain ⟨b32,A33,n34,c35,rfl⟩:=Xk f30
  subst e31
  have h:=h.add (f:=(Rel.intN).fact [(.bool b32),(.slice A33 n34 c35)] (Q4 false ((z0.natAbs) % (z1.natAbs)))) f30
  refine Z3 h 1 rfl rfl rfl Yf rfl rfl rfl rfl fun w h=>?_
  refine Z3 h 0 rfl rfl rfl Yf rfl rfl rfl rfl fun w h=>?_
  refine wpList_nil ?_
  refine Ql (Ql (Qt ?_))
  refine Qu h rfl (Jn) rfl fun a h=>?_
  refine Zh h 3 rfl rfl Mn rfl rfl fun a h=>?_
  refine Qa h rfl rfl fun a h=>?_
  refine Zv h rfl rfl (rfl) rfl fun a h=>?_
  refine Zv h rfl rfl (rfl) rfl fun a h=>?_
  refine Zv h rfl rfl (rfl) rfl fun a h=>?_
  refine Rt h rfl (rfl) rfl rfl fun a h=>?_
  refine wpList_nil ?_
  refine Yp h rfl (rfl) ?_
  refine wp_skip ?_
  refine Ql ?_
  refine Qao Qp 3 [some 58,some 59,none] [[],[],[0]] [(Yg (.agg #[(.bool b25),(.slice A26 n27 c28)])),(Yg (.agg #[(.bool b32),(.slice A33 n34 c35)])),U2] (fun _ _=>[(g4,55,[(.bool b32),(.slice A33 n34 c35)]),(g3,55,[(.bool b25),(.slice A26 n27 c28)]),(g2,55,[(.bool b1),(.slice A1 n1 c1)]),(g1,55,[(.bool false),(.slice A0 n0 c0)])]) rfl h (fun _=>rfl) rfl ⟨?_,?_,?_,trivial⟩ ?_
  ·intro dp hdp0 hdp dv Fx a w h
   refine Y9 h 1 rfl rfl H9 Yf rfl rfl fun a h=>?_
   refine wpList_nil ⟨rfl,?_⟩
   exact ⟨_,h.drawEnd (F':=[]) rfl rfl⟩
  ·intro dp hdp0 hdp dv Fx a w h
   refine Y9 h 0 rfl rfl H9 Yf rfl rfl fun a h=>?_
   refine wpList_nil ⟨rfl,?_⟩
   exact ⟨_,h.drawEnd (F':=[]) rfl rfl⟩
  ·intro dp hdp0 hdp dv Fx a w h
   skip
   have e36:dv 0=(.agg #[(.bool b25),(.slice A26 n27 c28)]):=h.fact 0 rfl
   replace h:=(h.spellE (t:=58) e36 rfl h)
   refine Z3 h 1 rfl rfl rfl Yf rfl rfl rfl rfl fun w h=>?_
   refine wpList_nil ⟨rfl,?_⟩
   exact ⟨undef,h.drawEnd0 (F':=[_]) trivial⟩
  intro dp hdp dv a w h
  have hdp2:=hdp 2 (by omega)
  try simp only [hdp2,cond_true] at h
  have e37:dv 1=(.agg #[(.bool b32),(.slice A33 n34 c35)]):=h.fact 1 rfl
  have h2:=(h.spellE (t:=59) e37 rfl (h.consL (t:=38) rfl (h.consL (t:=19) rfl (h.consL (t:=8) rfl (h.consL (t:=7) rfl (h.consL (t:=6) rfl (h.consL (t:=5) rfl (h.consL (t:=4) rfl (h.consL (t:=3) rfl (h.consL (t:=2) rfl (h.consL (t:=1) rfl (h.consL (t:=0) rfl h.nilL))))))))))))
  have h3:=h2.noFacts
  have h3:=h3.add (h2.fact 10 rfl)
  have h3:=h3.add (h2.fact 9 rfl)
  have h3:=h3.add (h2.fact 8 rfl)
  have h3:=h3.add (h2.fact 7 rfl)
  have h3:=h3.add (h2.fact 6 rfl)
  have h3:=h3.add (h2.fact 5 rfl)
  have h3:=h3.add (h2.fact 4 rfl)
  have h3:=h3.add (h2.fact 3 rfl)
  clear h2
  replace h:=h3
  clear h3
  refine Z3 h 0 rfl rfl rfl Yf rfl rfl rfl rfl fun w h=>?_
  refine Qd h rfl rfl fun a h=>?_
  refine wpList_nil ?_
  refine wp_ret ?_
  repeat refine Hi ?_
  refine Qmn Tryz.results312 h (Ju h 1 rfl rfl H9 Yf rfl) (Ju h 0 rfl rfl H9 Yf rfl) (Zj h rfl) ?_
  exact ⟨_,rfl,h.grow0,_,_,_,rfl,⟨_,rfl,(by rw [show z0 / z1=Q4 (!(false == b1)) ((z0.natAbs) / (z1.natAbs)) from hdv.1]; exact h.out 1 rfl)⟩,⟨_,rfl,(by rw [show z0 % z1=Q4 false ((z0.natAbs) % (z1.natAbs)) from hdv.2]; exact h.out 0 rfl)⟩,rfl⟩
 rcases Hl (z0.natAbs % z1.natAbs) with hm0 | hm0
 ·have hdv:=Lh hz1 hz1p hz0 hm0
  refine Ql (Qt ?_)
  refine V2 h rfl rfl fun g38 w a h=>?_
  refine V2 h rfl rfl fun g39 w a h=>?_
  refine Jl h Ko rfl fun g40 w a h=>?_
  refine Jl h Ko rfl fun g41 w a h=>?_
  refine Qd h rfl rfl fun a h=>?_
  refine wpList_nil ?_
  refine Ql (Qt ?_)
  refine Qu h rfl (Ja) rfl fun a h=>?_
  refine Zh h 3 rfl rfl Nn rfl rfl fun a h=>?_
  refine Qu h rfl (Ja) rfl fun a h=>?_
  refine Zh h 2 rfl rfl Nn rfl rfl fun a h=>?_
  refine Q9 h Tryz.func311 rfl rfl rfl (Ht _ _ (fun b=>h.owns_lt) (h.fact 2 rfl) (h.fact 3 rfl) (by omega) (by omega) (by omega)) rfl fun r w a hg hF h=>?_
  obtain ⟨y42,y43,y44,e45,t46,t47,t48⟩:=hF
  obtain ⟨A49,n50,c51,e53,f52⟩:=t46
  subst e53
  obtain ⟨A54,n55,c56,e58,f57⟩:=t47
  subst e58
  obtain rfl:=t48
  subst e45
  have h:=h.add (f:=(Rel.natN).fact [(.slice A49 n50 c51)] ((z0.natAbs) / (z1.natAbs))) f52
  have h:=h.add (f:=(Rel.natN).fact [(.slice A54 n55 c56)] ((z0.natAbs) % (z1.natAbs))) f57
  refine Qa h rfl rfl fun a h=>?_
  refine Z5 (vs:=[(.slice A49 n50 c51),(.slice A54 n55 c56),(.int .i64 0)]) h rfl rfl rfl fun a h=>?_
  refine Z5 (vs:=[(.slice A49 n50 c51),(.slice A54 n55 c56),(.int .i64 0)]) h rfl rfl rfl fun a h=>?_
  refine Z5 (vs:=[(.slice A49 n50 c51),(.slice A54 n55 c56),(.int .i64 0)]) h rfl rfl rfl fun a h=>?_
  refine Qd h rfl rfl fun a h=>?_
  refine Qd h rfl rfl fun a h=>?_
  refine Qd h rfl rfl fun a h=>?_
  refine wpList_nil ?_
  refine Ql (Ql (Qt ?_))
  refine Qa h rfl rfl fun a h=>?_
  refine Zk h rfl rfl rfl rfl fun a h=>?_
  refine wpList_nil ?_
  refine Yp h rfl (rfl) ?_
  refine wp_skip ?_
  refine Ql (Qt ?_)
  refine Qa h rfl rfl fun a h=>?_
  refine Qu h rfl (Jn) rfl fun a h=>?_
  refine Zh h 3 rfl rfl Mn rfl rfl fun a h=>?_
  refine Qu h rfl (Jn) rfl fun a h=>?_
  refine Zh h 2 rfl rfl Mn rfl rfl fun a h=>?_
  refine Dc h rfl rfl qUe rfl fun a h=>?_
  refine Q9 h qWt rfl rfl rfl (X3 _ _ (fun b=>h.owns_lt) (h.fact 1 rfl)) rfl fun r w a hg hF h=>?_
  obtain ⟨cs59,e61,f60⟩:=hF
  obtain ⟨b62,A63,n64,c65,rfl⟩:=Xk f60
  subst e61
  have h:=h.add (f:=(Rel.intN).fact [(.bool b62),(.slice A63 n64 c65)] (Q4 (!(true == b1)) ((z0.natAbs) / (z1.natAbs)))) f60
  refine Qa h rfl rfl fun a h=>?_
  refine Q9 h qWt rfl rfl rfl (X3 _ _ (fun b=>h.owns_lt) (h.fact 1 rfl)) rfl fun r w a hg hF h=>?_
  obtain ⟨cs66,e68,f67⟩:=hF
  obtain ⟨b69,A70,n71,c72,rfl⟩:=Xk f67
  subst e68
  have h:=h.add (f:=(Rel.intN).fact [(.bool b69),(.slice A70 n71 c72)] (Q4 false ((z0.natAbs) % (z1.natAbs)))) f67
  refine Z3 h 1 rfl rfl rfl Yf rfl rfl rfl rfl fun w h=>?_
  refine Z3 h 0 rfl rfl rfl Yf rfl rfl rfl rfl fun w h=>?_
  refine wpList_nil ?_
  refine Ql (Ql (Qt ?_))
  refine Qu h rfl (Jn) rfl fun a h=>?_
  refine Zh h 3 rfl rfl Mn rfl rfl fun a h=>?_
  refine Qa h rfl rfl fun a h=>?_
  refine Zx h rfl rfl (rfl) ?_
  refine Qa h rfl rfl fun a h=>?_
  refine Zx h rfl rfl (rfl) ?_
  refine Zz h rfl Jc rfl fun a h=>?_
  refine Zx h rfl rfl (rfl) ?_
  have hrl:=(Sv (h.fact 2 rfl)).1
  refine Zk h rfl rfl rfl rfl fun a h=>?_
  refine Hg h rfl (rfl) rfl rfl fun a h=>?_
  refine wpList_nil ?_
  refine Yp h rfl (by simp; omega) ?_
  refine wp_skip ?_
  refine Ql ?_
  refine Qao Qp 3 [some 58,some 59,none] [[],[],[0]] [(Yg (.agg #[(.bool b62),(.slice A63 n64 c65)])),(Yg (.agg #[(.bool b69),(.slice A70 n71 c72)])),U2] (fun _ _=>[(g41,55,[(.bool b69),(.slice A70 n71 c72)]),(g40,55,[(.bool b62),(.slice A63 n64 c65)]),(g39,55,[(.bool b1),(.slice A1 n1 c1)]),(g38,55,[(.bool true),(.slice A0 n0 c0)])]) rfl h (fun _=>rfl) rfl ⟨?_,?_,?_,trivial⟩ ?_
  ·intro dp hdp0 hdp dv Fx a w h
   refine Y9 h 1 rfl rfl H9 Yf rfl rfl fun a h=>?_
   refine wpList_nil ⟨rfl,?_⟩
   exact ⟨_,h.drawEnd (F':=[]) rfl rfl⟩
  ·intro dp hdp0 hdp dv Fx a w h
   refine Y9 h 0 rfl rfl H9 Yf rfl rfl fun a h=>?_
   refine wpList_nil ⟨rfl,?_⟩
   exact ⟨_,h.drawEnd (F':=[]) rfl rfl⟩
  ·intro dp hdp0 hdp dv Fx a w h
   skip
   have e73:dv 0=(.agg #[(.bool b62),(.slice A63 n64 c65)]):=h.fact 0 rfl
   replace h:=(h.spellE (t:=58) e73 rfl h)
   refine Z3 h 1 rfl rfl rfl Yf rfl rfl rfl rfl fun w h=>?_
   refine wpList_nil ⟨rfl,?_⟩
   exact ⟨undef,h.drawEnd0 (F':=[_]) trivial⟩
  intro dp hdp dv a w h
  have hdp2:=hdp 2 (by omega)
  try simp only [hdp2,cond_true] at h
  have e74:dv 1=(.agg #[(.bool b69),(.slice A70 n71 c72)]):=h.fact 1 rfl
  have h2:=(h.spellE (t:=59) e74 rfl (h.consL (t:=38) rfl (h.consL (t:=19) rfl (h.consL (t:=8) rfl (h.consL (t:=7) rfl (h.consL (t:=6) rfl (h.consL (t:=5) rfl (h.consL (t:=4) rfl (h.consL (t:=3) rfl (h.consL (t:=2) rfl (h.consL (t:=1) rfl (h.consL (t:=0) rfl h.nilL))))))))))))
  have h3:=h2.noFacts
  have h3:=h3.add (h2.fact 10 rfl)
  have h3:=h3.add (h2.fact 9 rfl)
  have h3:=h3.add (h2.fact 8 rfl)
  have h3:=h3.add (h2.fact 7 rfl)
  have h3:=h3.add (h2.fact 6 rfl)
  have h3:=h3.add (h2.fact 5 rfl)
  have h3:=h3.add (h2.fact 4 rfl)
  have h3:=h3.add (h2.fact 3 rfl)
  clear h2
  replace h:=h3
  clear h3
  refine Z3 h 0 rfl rfl rfl Yf rfl rfl rfl rfl fun w h=>?_
  refine Qd h rfl rfl fun a h=>?_
  refine wpList_nil ?_
  refine wp_ret ?_
  repeat refine Hi ?_
  refine Qmn Tryz.results312 h (Ju h 1 rfl rfl H9 Yf rfl) (Ju h 0 rfl rfl H9 Yf rfl) (Zj h rfl) ?_
  exact ⟨_,rfl,h.grow0,_,_,_,rfl,⟨_,rfl,(by rw [show z0 / z1=Q4 (!(true == b1)) ((z0.natAbs) / (z1.natAbs)) from hdv.1]; exact h.out 1 rfl)⟩,⟨_,rfl,(by rw [show z0 % z1=Q4 false ((z0.natAbs) % (z1.natAbs)) from hdv.2]; exact h.out 0 rfl)⟩,rfl⟩
 have hdv:=Ar hz1 hz1p hz0 hm0
 refine Ql (Qt ?_)
 refine V2 h rfl rfl fun g75 w a h=>?_
 refine V2 h rfl rfl fun g76 w a h=>?_
 refine Jl h Ko rfl fun g77 w a h=>?_
 refine Jl h Ko rfl fun g78 w a h=>?_
 refine Qd h rfl rfl fun a h=>?_
 refine wpList_nil ?_
 refine Ql (Qt ?_)
 refine Qu h rfl (Ja) rfl fun a h=>?_
 refine Zh h 3 rfl rfl Nn rfl rfl fun a h=>?_
 refine Qu h rfl (Ja) rfl fun a h=>?_
 refine Zh h 2 rfl rfl Nn rfl rfl fun a h=>?_
 refine Q9 h Tryz.func311 rfl rfl rfl (Ht _ _ (fun b=>h.owns_lt) (h.fact 2 rfl) (h.fact 3 rfl) (by omega) (by omega) (by omega)) rfl fun r w a hg hF h=>?_
 obtain ⟨y79,y80,y81,e82,t83,t84,t85⟩:=hF
 obtain ⟨A86,n87,c88,e90,f89⟩:=t83
 subst e90
 obtain ⟨A91,n92,c93,e95,f94⟩:=t84
 subst e95
 obtain rfl:=t85
 subst e82
 have h:=h.add (f:=(Rel.natN).fact [(.slice A86 n87 c88)] ((z0.natAbs) / (z1.natAbs))) f89
 have h:=h.add (f:=(Rel.natN).fact [(.slice A91 n92 c93)] ((z0.natAbs) % (z1.natAbs))) f94
 refine Qa h rfl rfl fun a h=>?_
 refine Z5 (vs:=[(.slice A86 n87 c88),(.slice A91 n92 c93),(.int .i64 0)]) h rfl rfl rfl fun a h=>?_
 refine Z5 (vs:=[(.slice A86 n87 c88),(.slice A91 n92 c93),(.int .i64 0)]) h rfl rfl rfl fun a h=>?_
 refine Z5 (vs:=[(.slice A86 n87 c88),(.slice A91 n92 c93),(.int .i64 0)]) h rfl rfl rfl fun a h=>?_
 refine Qd h rfl rfl fun a h=>?_
 refine Qd h rfl rfl fun a h=>?_
 refine Qd h rfl rfl fun a h=>?_
 refine wpList_nil ?_
 refine Ql (Ql (Qt ?_))
 refine Qa h rfl rfl fun a h=>?_
 refine Zk h rfl rfl rfl rfl fun a h=>?_
 refine wpList_nil ?_
 refine Yp h rfl (rfl) ?_
 refine wp_skip ?_
 refine Ql (Qt ?_)
 refine Qa h rfl rfl fun a h=>?_
 refine Qu h rfl (Jn) rfl fun a h=>?_
 refine Zh h 3 rfl rfl Mn rfl rfl fun a h=>?_
 refine Qu h rfl (Jn) rfl fun a h=>?_
 refine Zh h 2 rfl rfl Mn rfl rfl fun a h=>?_
 refine Dc h rfl rfl qUe rfl fun a h=>?_
 refine Q9 h qWt rfl rfl rfl (X3 _ _ (fun b=>h.owns_lt) (h.fact 1 rfl)) rfl fun r w a hg hF h=>?_
 obtain ⟨cs96,e98,f97⟩:=hF
 obtain ⟨b99,A100,n101,c102,rfl⟩:=Xk f97
 subst e98
 have h:=h.add (f:=(Rel.intN).fact [(.bool b99),(.slice A100 n101 c102)] (Q4 (!(true == b1)) ((z0.natAbs) / (z1.natAbs)))) f97
 refine Qa h rfl rfl fun a h=>?_
 refine Q9 h qWt rfl rfl rfl (X3 _ _ (fun b=>h.owns_lt) (h.fact 1 rfl)) rfl fun r w a hg hF h=>?_
 obtain ⟨cs103,e105,f104⟩:=hF
 obtain ⟨b106,A107,n108,c109,rfl⟩:=Xk f104
 subst e105
 have h:=h.add (f:=(Rel.intN).fact [(.bool b106),(.slice A107 n108 c109)] (Q4 false ((z0.natAbs) % (z1.natAbs)))) f104
 refine Z3 h 1 rfl rfl rfl Yf rfl rfl rfl rfl fun w h=>?_
 refine Z3 h 0 rfl rfl rfl Yf rfl rfl rfl rfl fun w h=>?_
 refine wpList_nil ?_
 refine Ql (Ql (Qt ?_))
 refine Qu h rfl (Jn) rfl fun a h=>?_
 refine Zh h 3 rfl rfl Mn rfl rfl fun a h=>?_
 refine Qa h rfl rfl fun a h=>?_
 refine Zx h rfl rfl (rfl) ?_
 refine Qa h rfl rfl fun a h=>?_
 refine Zx h rfl rfl (rfl) ?_
 refine Zz h rfl Jc rfl fun a h=>?_
 refine Zx h rfl rfl (rfl) ?_
 have hrl:=(Sv (h.fact 2 rfl)).1
 refine Zk h rfl rfl rfl rfl fun a h=>?_
 refine Hg h rfl (rfl) rfl rfl fun a h=>?_
 refine wpList_nil ?_
 refine K3 h rfl (by simp; omega) ?_
 refine Ql (Qt ?_)
 refine Qa h rfl rfl fun a h=>?_
 refine V3 h rfl (Vd (zs:=[(.int .u32 0)]) Jc Y4 qWl rfl rfl (by decide) (by decide) (by decide) rfl) rfl fun g110 w a h=>?_
 have hl1x:∀ z∈[1],z<4294967296:=by intro z hz; simp at hz; subst hz; decide
 have hrow:=Yj (r:=[1]) 1 h (fun i hi=>by rcases i with _ | i <;> first | rfl | (simp at hi)) hl1x (show 1<2^47 by decide) (X2 _) (by decide)
 replace h:=h.publish
 have h:=h.add (f:=(Rel.natA).fact [.slice (some ⟨g110,0,none⟩) 1 1] (1)) (⟨_,hrow,hl1x,by simp [val]⟩)
 refine Q9 h Tryz.func320 rfl rfl rfl (Ig _ _ (fun b=>h.owns_lt) (J7 (h.fact 4 rfl)) (h.fact 0 rfl) (by omega) (by omega)) rfl fun r w a hg hF h=>?_
 obtain ⟨A111,n112,c113,e115,f114⟩:=hF
 subst e115
 have h:=h.add (f:=(Rel.natN).fact [(.slice A111 n112 c113)] (((z0.natAbs) / (z1.natAbs))+(1))) f114
 refine Qd h rfl rfl fun a h=>?_
 refine wpList_nil ?_
 refine Ql (Qt ?_)
 refine Qu h rfl (Ja) rfl fun a h=>?_
 refine Zh h 2 rfl rfl Nn rfl rfl fun a h=>?_
 refine Qa h rfl rfl fun a h=>?_
 refine Q9 h Tryz.func321 rfl rfl rfl (Sr _ _ (fun b=>h.owns_lt) (h.fact 9 rfl) (J7 (h.fact 4 rfl)) (by omega) (by omega)) rfl fun r w a hg hF h=>?_
 obtain ⟨y116,y117,e118,t119,t120⟩:=hF
 obtain ⟨A121,n122,c123,e125,f124⟩:=t119
 subst e125
 obtain rfl:=t120
 subst e118
 have h:=h.add (f:=(Rel.natN).fact [(.slice A121 n122 c123)] ((z1.natAbs)-((z0.natAbs) % (z1.natAbs)))) f124
 refine Qa h rfl rfl fun a h=>?_
 refine Z5 (vs:=[(.slice A121 n122 c123),(.bool true)]) h rfl rfl rfl fun a h=>?_
 refine Z5 (vs:=[(.slice A121 n122 c123),(.bool true)]) h rfl rfl rfl fun a h=>?_
 refine Qd h rfl rfl fun a h=>?_
 refine wpList_nil ?_
 refine Qt ?_
 refine Qa h rfl rfl fun a h=>?_
 refine Qu h rfl (Jn) rfl fun a h=>?_
 refine Zh h 3 rfl rfl Mn rfl rfl fun a h=>?_
 refine Qu h rfl (Jn) rfl fun a h=>?_
 refine Zh h 2 rfl rfl Mn rfl rfl fun a h=>?_
 refine Dc h rfl rfl qUe rfl fun a h=>?_
 refine Q9 h qWt rfl rfl rfl (X3 _ _ (fun b=>h.owns_lt) (h.fact 1 rfl)) rfl fun r w a hg hF h=>?_
 obtain ⟨cs126,e128,f127⟩:=hF
 obtain ⟨b129,A130,n131,c132,rfl⟩:=Xk f127
 subst e128
 have h:=h.add (f:=(Rel.intN).fact [(.bool b129),(.slice A130 n131 c132)] (Q4 (!(true == b1)) (((z0.natAbs) / (z1.natAbs))+(1)))) f127
 refine Qa h rfl rfl fun a h=>?_
 refine Q9 h qWt rfl rfl rfl (X3 _ _ (fun b=>h.owns_lt) (h.fact 1 rfl)) rfl fun r w a hg hF h=>?_
 obtain ⟨cs133,e135,f134⟩:=hF
 obtain ⟨b136,A137,n138,c139,rfl⟩:=Xk f134
 subst e135
 have h:=h.add (f:=(Rel.intN).fact [(.bool b136),(.slice A137 n138 c139)] (Q4 false ((z1.natAbs)-((z0.natAbs) % (z1.natAbs))))) f134
 refine Z3 h 1 rfl rfl rfl Yf rfl rfl rfl rfl fun w h=>?_
 refine Z3 h 0 rfl rfl rfl Yf rfl rfl rfl rfl fun w h=>?_
 refine wpList_nil ?_
 refine Ql ?_
 refine Qao Qp 3 [some 58,some 59,none] [[],[],[0]] [(Yg (.agg #[(.bool b129),(.slice A130 n131 c132)])),(Yg (.agg #[(.bool b136),(.slice A137 n138 c139)])),U2] (fun _ _=>[(g78,55,[(.bool b136),(.slice A137 n138 c139)]),(g77,55,[(.bool b129),(.slice A130 n131 c132)]),(g76,55,[(.bool b1),(.slice A1 n1 c1)]),(g75,55,[(.bool true),(.slice A0 n0 c0)])]) rfl h (fun _=>rfl) rfl ⟨?_,?_,?_,trivial⟩ ?_
 ·intro dp hdp0 hdp dv Fx a w h
  refine Y9 h 1 rfl rfl H9 Yf rfl rfl fun a h=>?_
  refine wpList_nil ⟨rfl,?_⟩
  exact ⟨_,h.drawEnd (F':=[]) rfl rfl⟩
 ·intro dp hdp0 hdp dv Fx a w h
  refine Y9 h 0 rfl rfl H9 Yf rfl rfl fun a h=>?_
  refine wpList_nil ⟨rfl,?_⟩
  exact ⟨_,h.drawEnd (F':=[]) rfl rfl⟩
 ·intro dp hdp0 hdp dv Fx a w h
  skip
  have e140:dv 0=(.agg #[(.bool b129),(.slice A130 n131 c132)]):=h.fact 0 rfl
  replace h:=(h.spellE (t:=58) e140 rfl h)
  refine Z3 h 1 rfl rfl rfl Yf rfl rfl rfl rfl fun w h=>?_
  refine wpList_nil ⟨rfl,?_⟩
  exact ⟨undef,h.drawEnd0 (F':=[_]) trivial⟩
 intro dp hdp dv a w h
 have hdp2:=hdp 2 (by omega)
 try simp only [hdp2,cond_true] at h
 have e141:dv 1=(.agg #[(.bool b136),(.slice A137 n138 c139)]):=h.fact 1 rfl
 have h2:=(h.spellE (t:=59) e141 rfl (h.consL (t:=38) rfl (h.consL (t:=19) rfl (h.consL (t:=8) rfl (h.consL (t:=7) rfl (h.consL (t:=6) rfl (h.consL (t:=5) rfl (h.consL (t:=4) rfl (h.consL (t:=3) rfl (h.consL (t:=2) rfl (h.consL (t:=1) rfl (h.consL (t:=0) rfl h.nilL))))))))))))
 have h3:=h2.noFacts
 have h3:=h3.add (h2.fact 15 rfl)
 have h3:=h3.add (h2.fact 14 rfl)
 have h3:=h3.add (h2.fact 13 rfl)
 have h3:=h3.add (h2.fact 12 rfl)
 have h3:=h3.add (h2.fact 11 rfl)
 have h3:=h3.add (h2.fact 10 rfl)
 have h3:=h3.add (h2.fact 9 rfl)
 have h3:=h3.add (h2.fact 8 rfl)
 have h3:=h3.add (h2.fact 7 rfl)
 have h3:=h3.add (h2.fact 6 rfl)
 have h3:=h3.add (h2.fact 5 rfl)
 have h3:=h3.add (h2.fact 4 rfl)
 have h3:=h3.add (h2.fact 3 rfl)
 clear h2
 replace h:=h3
 clear h3
 refine Z3 h 0 rfl rfl rfl Yf rfl rfl rfl rfl fun w h=>?_
 refine Qd h rfl rfl fun a h=>?_
 refine wpList_nil ?_
 refine wp_ret ?_
 repeat refine Hi ?_
 refine Qmn Tryz.results312 h (Ju h 1 rfl rfl H9 Yf rfl) (Ju h 0 rfl rfl H9 Yf rfl) (Zj h rfl) ?_
 exact ⟨_,rfl,h.grow0,_,_,_,rfl,⟨_,rfl,(by rw [show z0 / z1=Q4 (!(true == b1)) (((z0.natAbs) / (z1.natAbs))+(1)) from hdv.1]; exact h.out 1 rfl)⟩,⟨_,rfl,(by rw [show z0 % z1=Q4 false ((z1.natAbs)-((z0.natAbs) % (z1.natAbs))) from hdv.2]; exact h.out 0 rfl)⟩,rfl⟩
set_option maxHeartbeats 1000000 in
theorem Qgy (hO:∀ b,Ob b→b<W.heap.size) {b0:Bool} {A0:Option Addr} {n0 c0:Nat} {z0:Int} {b1:Bool} {A1:Option Addr} {n1 c1:Nat} {z1:Int} (hx0:Rel.intA.at_ W Ob [.bool b0,.slice A0 n0 c0] z0) (hx1:Rel.intA.at_ W Ob [.bool b1,.slice A1 n1 c1] z1) (hs0:Xj z0≤4294967295) (hs1:Xj z1≤4294967295) (hz:z1≠0) (hdv:z0 % z1=0) :
  Calls Tryz.prog 265 #[.agg #[.bool b0,.slice A0 n0 c0],.agg #[.bool b1,.slice A1 n1 c1]] W (Ms W Ob (Qjd (Rel.intN.aggF (z0 / z1)) (Yg (.int .i64 0)))):=by
 obtain ⟨hx2,hz0⟩:=Yb hx0
 obtain ⟨hx3,hz1⟩:=Yb hx1
 have hs0':sz z0.natAbs≤4294967295:=hs0
 have hs1':sz z1.natAbs≤4294967295:=hs1
 refine enter (vs:=[(.agg #[(.bool b0),(.slice A0 n0 c0)]),(.agg #[(.bool b1),(.slice A1 n1 c1)])]) (Ob:=Ob) (K:=fun b=>b<W.heap.size) (Fs:=[(Rel.intA).fact [(.bool b0),(.slice A0 n0 c0)] (z0),(Rel.intA).fact [(.bool b1),(.slice A1 n1 c1)] (z1),(Rel.natA).fact [(.slice A0 n0 c0)] (z0.natAbs),(Rel.natA).fact [(.slice A1 n1 c1)] (z1.natAbs)]) qFb rfl Tryz.ntmps265 rfl (fun _ h=>h) hO (by simp only [Vw,No,or_false,forall_eq_or_imp,forall_eq,false_imp_iff,implies_true]; exact ⟨hx0,hx1,hx2,hx3⟩) fun a h=>?_
 refine Ql (Qt ?_)
 refine V2 h rfl rfl fun g1 w a h=>?_
 refine V2 h rfl rfl fun g2 w a h=>?_
 refine Jl h Ko rfl fun g3 w a h=>?_
 refine Qd h rfl rfl fun a h=>?_
 refine wpList_nil ?_
 refine Ql (Qt ?_)
 refine Y9 h 2 rfl rfl H9 Yf rfl rfl fun a h=>?_
 refine Y9 h 1 rfl rfl H9 Yf rfl rfl fun a h=>?_
 refine Q9 h Tryz.func312 rfl rfl rfl (Qeb _ _ (fun b=>h.owns_lt) (h.fact 0 rfl) (h.fact 1 rfl) (by omega) (by omega) (by omega)) rfl fun r w a hg hF h=>?_
 obtain ⟨y4,y5,y6,e7,t8,t9,t10⟩:=hF
 obtain ⟨cs11,e13,f12⟩:=t8
 obtain ⟨b14,A15,n16,c17,rfl⟩:=Xk f12
 subst e13
 obtain ⟨cs18,e20,f19⟩:=t9
 obtain ⟨b21,A22,n23,c24,rfl⟩:=Xk f19
 subst e20
 obtain rfl:=t10
 subst e7
 have h:=h.add (f:=(Rel.intN).fact [(.bool b14),(.slice A15 n16 c17)] ((z0) / (z1))) f12
 have h:=h.add (f:=(Rel.intN).fact [(.bool b21),(.slice A22 n23 c24)] ((z0) % (z1))) f19
 refine Qa h rfl rfl fun a h=>?_
 refine Z5 (vs:=[(.agg #[(.bool b14),(.slice A15 n16 c17)]),(.agg #[(.bool b21),(.slice A22 n23 c24)]),(.int .i64 0)]) h rfl rfl rfl fun a h=>?_
 refine Z5 (vs:=[(.agg #[(.bool b14),(.slice A15 n16 c17)]),(.agg #[(.bool b21),(.slice A22 n23 c24)]),(.int .i64 0)]) h rfl rfl rfl fun a h=>?_
 refine Z5 (vs:=[(.agg #[(.bool b14),(.slice A15 n16 c17)]),(.agg #[(.bool b21),(.slice A22 n23 c24)]),(.int .i64 0)]) h rfl rfl rfl fun a h=>?_
 refine Jl h Ko rfl fun g25 w a h=>?_
 refine Jl h Ko rfl fun g26 w a h=>?_
 refine Z3 h 1 rfl rfl rfl Yf rfl rfl rfl rfl fun w h=>?_
 refine Z3 h 0 rfl rfl rfl Yf rfl rfl rfl rfl fun w h=>?_
 refine Qd h rfl rfl fun a h=>?_
 refine wpList_nil ?_
 refine Ql (Ql (Qt ?_))
 refine Qa h rfl rfl fun a h=>?_
 refine Zk h rfl rfl rfl rfl fun a h=>?_
 refine wpList_nil ?_
 refine Yp h rfl (rfl) ?_
 refine wp_skip ?_
 refine Ql (Ql (Qt ?_))
 refine Qu h rfl (Ja) rfl fun a h=>?_
 refine Zh h 0 rfl rfl Nn rfl rfl fun a h=>?_
 refine Zz h rfl Jc rfl fun a h=>?_
 have hrl:=(Sv (Qa1 (h.fact 0 rfl)).1).1
 rw [hdv] at hrl
 refine Zk h rfl rfl rfl rfl fun a h=>?_
 refine wpList_nil ?_
 refine Yp h rfl (by simp; omega) ?_
 refine wp_skip ?_
 refine Ql (Qt ?_)
 refine Y9 h 1 rfl rfl H9 Yf rfl rfl fun a h=>?_
 refine Z3 h 2 rfl rfl rfl Yf rfl rfl rfl rfl fun w h=>?_
 refine Qd h rfl rfl fun a h=>?_
 refine wpList_nil ?_
 refine wp_ret ?_
 repeat refine Hi ?_
 refine Qsm Tryz.results265 h (Ju h 2 rfl rfl H9 Yf rfl) (Zj h rfl) ?_
 exact ⟨_,rfl,h.grow0,_,_,rfl,⟨_,rfl,h.out 1 rfl⟩,rfl⟩
set_option maxHeartbeats 1000000 in
theorem Qm0 (hO:∀ b,Ob b→b<W.heap.size) {A:Option Addr} {n c:Nat} {l:List Int} (hx0:Rel.intA.slice.at_ W Ob [.slice A n c] l) (hs:∀ z∈l,Xj z≤4294967295) :
  Calls Tryz.prog 264 #[.slice A n c] W (Ms W Ob (Rel.intN.aggF ((Y5 l:Nat):Int))):=by
 obtain ⟨en,_,_,_⟩:=Qmr hx0
 refine enter (vs:=[(.slice A n c)]) (Ob:=Ob) (K:=fun b=>b<W.heap.size) (Fs:=[((Rel.intA.slice)).fact [.slice A n c] (l)]) qGc rfl Tryz.ntmps264 rfl (fun _ h=>h) hO (by simp only [Vw,No,or_false,forall_eq_or_imp,forall_eq,false_imp_iff,implies_true]; exact hx0) fun a h=>?_
 refine Ql (Qt ?_)
 refine Jl h Ko rfl fun g1 w a h=>?_
 refine wpList_nil ?_
 refine Ql (Qt ?_)
 refine Qd h rfl rfl fun a h=>?_
 refine wpList_nil ?_
 refine Ql (Ql (Qt ?_))
 refine Qa h rfl rfl fun a h=>?_
 refine Zz h rfl qWk rfl fun a h=>?_
 refine Qa h rfl rfl fun a h=>?_
 refine wpList_nil ?_
 refine Qjl (fun a w'=>∃ G gn gc gv,gv=Y5 l∧sz gv≤4294967295∧St (fun b=>b<W.heap.size) Ob W w' a 44 [(2,(.pointer (some ⟨g1,0,none⟩))),(3,(.slice G gn gc))] [(Rel.natN).fact [.slice G gn gc] (gv)] [(g1,55,[(.bool false),(.slice none 0 0)])]) ?_ ?_
 ·skip
  refine wp_block ?_
  refine Gc (fun m a w'=>∃ i G gn gc gv,i≤n∧gv=Y5 (l.take i)∧sz gv≤4294967295∧m=n-i∧St (fun b=>b<W.heap.size) Ob W w' a 44 [(0,(.slice A n c)),(2,(.pointer (some ⟨g1,0,none⟩))),(3,(.slice G gn gc)),(10,(.slice A n c)),(11,(.int .i64 (n:Int))),(12,(.int .i64 (i:Int)))] [(Rel.natN).fact [.slice G gn gc] (gv),((Rel.intA.slice)).fact [.slice A n c] (l)] [(g1,55,[(.bool false),(.slice none 0 0)])]) (m:=_) (⟨0,none,0,0,0,by omega,rfl,by decide,rfl,(((h.consL (t:=0) rfl (h.consL (t:=2) rfl (h.consL (t:=3) rfl (h.consL (t:=10) rfl (h.consL (t:=11) rfl (h.consL (t:=12) rfl h.nilL)))))).noFacts.add (h.fact 0 rfl)).add (Bu))⟩) ?_
  clear h
  rintro m a w ⟨i,G,gn,gc,gv,hp0,hp1,hp2,hm,h⟩
  by_cases hlt:i<n
  ·obtain ⟨b1,o1,rfl,_⟩:=Qpu (h.fact 1 rfl) (by omega)
   obtain ⟨z,hz⟩:∃ z,l[i]? = some z:=⟨_,Xx (by omega)⟩
   have hzs:=hs _ (Vo hz)
   have hzs':sz z.natAbs≤4294967295:=hzs
   refine Ql (Qt ?_)
   refine Zk h rfl rfl rfl rfl fun a h=>?_
   refine wpList_nil ?_
   refine Ql ?_
   refine K3 h rfl (by simp; omega) ?_
   refine wp_skip ?_
   refine Ql ?_
   refine wp_block ?_
   refine Ql (Qt ?_)
   refine Q5 (i) h rfl rfl qWk Yf (rfl) (by omega) rfl fun a h=>?_
   obtain ⟨cs,hcs,hcell⟩:=Qiz (h.fact 1 rfl) hz
   obtain ⟨zb,Z,zn,zc,rfl⟩:=Ib hcs
   have h:=h.add (f:=Rel.intA.fact [.bool zb,.slice Z zn zc] z) hcs
   have h:=h.add (f:=Rel.natA.fact [.slice Z zn zc] z.natAbs) (Yb hcs).1
   refine S8 (vs:=[(.bool zb),(.slice Z zn zc)]) h rfl H9 Yf rfl (hcell) rfl fun a h=>?_
   refine Jl h Ko rfl fun g2 w a h=>?_
   refine Z3 h 0 rfl rfl rfl Yf rfl rfl rfl rfl fun w h=>?_
   refine wpList_nil ?_
   refine Ql (Qt ?_)
   refine Qu h rfl (Ja) rfl fun a h=>?_
   refine Zh h 0 rfl rfl Nn rfl rfl fun a h=>?_
   refine Q9 h qFp rfl rfl rfl (Fr _ _ (fun b=>h.owns_lt) (h.fact 0 rfl) (by omega)) rfl fun r w a hg hF h=>?_
   obtain ⟨A3,n4,c5,e7,f6⟩:=hF
   subst e7
   have h:=h.add (f:=(Rel.natN).fact [(.slice A3 n4 c5)] (z.natAbs)) f6
   refine Qd h rfl rfl fun a h=>?_
   refine wpList_nil ?_
   refine Ql ?_
   refine wp_block ?_
   replace h:=h.publish
   refine Gc (fun m a w'=>∃ G' gn' gc' gv' X xn xc xv,Nat.gcd gv' xv=Nat.gcd gv z.natAbs∧sz gv'≤4294967295∧sz xv≤4294967295∧m=xv∧St (fun b=>b<W.heap.size) Ob W w' a 44 [(0,(.slice (some ⟨b1,o1,none⟩) n c)),(2,(.pointer (some ⟨g1,0,none⟩))),(10,(.slice (some ⟨b1,o1,none⟩) n c)),(11,(.int .i64 (n:Int))),(12,(.int .i64 (i:Int))),(3,(.slice G' gn' gc')),(6,(.slice X xn xc))] [(Rel.natN).fact [(.slice G' gn' gc')] (gv'),(Rel.natN).fact [.slice X xn xc] (xv),((Rel.intA.slice)).fact [(.slice (some ⟨b1,o1,none⟩) n c)] (l)] [(g1,55,[(.bool false),(.slice none 0 0)])]) (m:=_) (⟨_,_,_,_,_,_,_,_,rfl,hp2,hzs',rfl,((((h.consL (t:=0) rfl (h.consL (t:=2) rfl (h.consL (t:=10) rfl (h.consL (t:=11) rfl (h.consL (t:=12) rfl (h.consL (t:=3) rfl (h.consL (t:=6) rfl h.nilL))))))).noFacts.add (h.fact 4 rfl)).add (h.fact 0 rfl)).add (h.fact 3 rfl))⟩) ?_
   clear h
   rintro m a w ⟨G',gn',gc',gv',X,xn,xc,xv,hp20,hp21,hp22,hm,h⟩
   have hxl:=(Sv (h.fact 1 rfl)).1
   by_cases hx0:0<xv
   ·skip
    refine Ql (Ql (Qt ?_))
    refine Qa h rfl rfl fun a h=>?_
    refine Zz h rfl Jc rfl fun a h=>?_
    refine Zk h rfl rfl rfl rfl fun a h=>?_
    refine wpList_nil ?_
    refine K3 h rfl (by simp; omega) ?_
    refine wp_skip ?_
    refine wp_block ?_
    refine Ql (Qt ?_)
    refine Qa h rfl rfl fun a h=>?_
    refine Qa h rfl rfl fun a h=>?_
    refine Q9 h Tryz.func311 rfl rfl rfl (Ht _ _ (fun b=>h.owns_lt) (J7 (h.fact 0 rfl)) (J7 (h.fact 1 rfl)) (by omega) (by omega) (by omega)) rfl fun r w a hg hF h=>?_
    obtain ⟨y8,y9,y10,e11,t12,t13,t14⟩:=hF
    obtain ⟨A15,n16,c17,e19,f18⟩:=t12
    subst e19
    obtain ⟨A20,n21,c22,e24,f23⟩:=t13
    subst e24
    obtain rfl:=t14
    subst e11
    have h:=h.add (f:=(Rel.natN).fact [(.slice A15 n16 c17)] ((gv') / (xv))) f18
    have h:=h.add (f:=(Rel.natN).fact [(.slice A20 n21 c22)] ((gv') % (xv))) f23
    refine Qa h rfl rfl fun a h=>?_
    refine Z5 (vs:=[(.slice A15 n16 c17),(.slice A20 n21 c22),(.int .i64 0)]) h rfl rfl rfl fun a h=>?_
    refine Z5 (vs:=[(.slice A15 n16 c17),(.slice A20 n21 c22),(.int .i64 0)]) h rfl rfl rfl fun a h=>?_
    refine Z5 (vs:=[(.slice A15 n16 c17),(.slice A20 n21 c22),(.int .i64 0)]) h rfl rfl rfl fun a h=>?_
    refine Qd h rfl rfl fun a h=>?_
    refine Qd h rfl rfl fun a h=>?_
    refine Qd h rfl rfl fun a h=>?_
    refine wpList_nil ?_
    refine Qt ?_
    refine Qa h rfl rfl fun a h=>?_
    refine Qa h rfl rfl fun a h=>?_
    refine Qd h rfl rfl fun a h=>?_
    refine Qd h rfl rfl fun a h=>?_
    refine wpList_nil ?_
    refine ⟨_,?_,_,_,_,_,_,_,_,_,by rw [←hp20]; exact (Qrh gv' xv),hp22,Xd (J9 (qKb (Tv _ hx0))) hp22,rfl,((((h.consL (t:=0) rfl (h.consL (t:=2) rfl (h.consL (t:=10) rfl (h.consL (t:=11) rfl (h.consL (t:=12) rfl (h.consL (t:=3) rfl (h.consL (t:=6) rfl h.nilL))))))).noFacts.add (h.fact 4 rfl)).add (h.fact 0 rfl)).add (h.fact 3 rfl))⟩
    rw [hm]; exact Tv _ hx0
   skip
   refine Ql (Ql (Qt ?_))
   refine Qa h rfl rfl fun a h=>?_
   refine Zz h rfl Jc rfl fun a h=>?_
   refine Zk h rfl rfl rfl rfl fun a h=>?_
   refine wpList_nil ?_
   refine Yp h rfl (by simp; omega) ?_
   refine wp_exit ?_
   repeat refine Xt ?_
   refine Z6 ?_
   refine Ql (Qt ?_)
   refine Qa h rfl rfl fun a h=>?_
   refine Zz h rfl Jc rfl fun a h=>?_
   have hgv:gv'=Y5 (l.take (i+1)):=by rw [Qaw hz,←hp1,←hp20,show xv=0 from by omega,Nat.gcd_zero_right]
   by_cases h1:gn'=1
   ·obtain ⟨ly,hly1,hly2,hly3⟩:=h.fact 0 rfl
    obtain ⟨ey,_,_⟩:=Jv hly1
    obtain ⟨b2,o2,rfl,_,_,_⟩:=Yn hly1 (i:=0) (by omega)
    obtain ⟨y,hy⟩:∃ y,ly[0]? = some y:=⟨_,Xx (by omega)⟩
    have hyv:gv'=y:=by rw [←hly3,Ku (l:=ly) (k:=0) (by omega) hy]; simp [val]
    have h:=h.add (f:=Rel.row32.fact [(.slice (some ⟨b2,o2,none⟩) gn' gc')] ly) hly1
    refine Zk h rfl rfl rfl rfl fun a h=>?_
    refine Qa h rfl rfl fun a h=>?_
    refine Zx h rfl rfl (by simp; omega) ?_
    refine Qa h rfl rfl fun a h=>?_
    refine Zx h rfl rfl (by simp; omega) ?_
    refine Q5 (0) h rfl rfl Jc Y4 (rfl) (by omega) rfl fun a h=>?_
    refine Zx h rfl rfl (by simp; omega) ?_
    refine Xc h rfl Sz (X8 (h.fact 0 rfl) hy) rfl fun a h=>?_
    refine Zx h rfl rfl (by simp; omega) ?_
    refine Zk h rfl rfl rfl rfl fun a h=>?_
    refine Hg h rfl (by simp; omega) rfl rfl fun a h=>?_
    refine wpList_nil ?_
    refine Yo h rfl (fun hb_if3=>?_) (fun hb_if3=>?_)
    ·try simp only [decide_eq_true_eq,decide_eq_false_iff_not,Vc,Vb] at hb_if3
     have hg1:=(Qn3 (l:=l) (i:=i+1) (by omega)).symm
     rw [show (1:Nat)=gv' from by omega] at hg1
     refine wp_exit ?_
     repeat refine Xt ?_
     refine H2 rfl ?_
     repeat refine Xt ?_
     refine Z6 ?_
     exact ⟨_,_,_,_,hg1,hp21,((h.consL (t:=2) rfl (h.consL (t:=3) rfl h.nilL)).noFacts.add (h.fact 1 rfl))⟩
    try simp only [decide_eq_true_eq,decide_eq_false_iff_not,Vc,Vb] at hb_if3
    refine wp_skip ?_
    refine Qt ?_
    refine Z2 h rfl rfl (by omega) rfl fun a h=>?_
    refine Qa h rfl rfl fun a h=>?_
    refine wpList_nil ?_
    refine ⟨_,?_,i+1,_,_,_,_,by omega,hgv,hp21,rfl,(((h.consL (t:=0) rfl (h.consL (t:=2) rfl (h.consL (t:=3) rfl (h.consL (t:=10) rfl (h.consL (t:=11) rfl (h.consL (t:=12) rfl h.nilL)))))).noFacts.add (h.fact 3 rfl)).add (h.fact 1 rfl))⟩
    omega
   skip
   refine Zk h rfl rfl rfl rfl fun a h=>?_
   refine Qa h rfl rfl fun a h=>?_
   refine Zv h rfl rfl (by simp; omega) rfl fun a h=>?_
   refine Zv h rfl rfl (by simp; omega) rfl fun a h=>?_
   refine Zv h rfl rfl (by simp; omega) rfl fun a h=>?_
   refine Zv h rfl rfl (by simp; omega) rfl fun a h=>?_
   refine Rt h rfl (by simp; omega) rfl rfl fun a h=>?_
   refine wpList_nil ?_
   refine Yp h rfl (rfl) ?_
   refine wp_skip ?_
   refine Qt ?_
   refine Z2 h rfl rfl (by omega) rfl fun a h=>?_
   refine Qa h rfl rfl fun a h=>?_
   refine wpList_nil ?_
   refine ⟨_,?_,i+1,_,_,_,_,by omega,hgv,hp21,rfl,(((h.consL (t:=0) rfl (h.consL (t:=2) rfl (h.consL (t:=3) rfl (h.consL (t:=10) rfl (h.consL (t:=11) rfl (h.consL (t:=12) rfl h.nilL)))))).noFacts.add (h.fact 2 rfl)).add (h.fact 0 rfl))⟩
   omega
  skip
  refine Ql (Qt ?_)
  refine Zk h rfl rfl rfl rfl fun a h=>?_
  refine wpList_nil ?_
  refine Ql ?_
  refine Yp h rfl (by simp; omega) ?_
  refine wp_exit ?_
  repeat refine Xt ?_
  refine Z6 ?_
  exact ⟨_,_,_,_,by rw [hp1,Y0 (by omega)],hp2,((h.consL (t:=2) rfl (h.consL (t:=3) rfl h.nilL)).noFacts.add (h.fact 0 rfl))⟩
 clear h
 rintro a w ⟨G,gn,gc,gv,hp0,hp1,h⟩
 refine Ql (Qt ?_)
 refine Qa h rfl rfl fun a h=>?_
 refine Q9 h qFp rfl rfl rfl (Fr _ _ (fun b=>h.owns_lt) (J7 (h.fact 0 rfl)) (by omega)) rfl fun r w a hg hF h=>?_
 obtain ⟨A25,n26,c27,e29,f28⟩:=hF
 subst e29
 have h:=h.add (f:=(Rel.natN).fact [(.slice A25 n26 c27)] (gv)) f28
 refine Q9 h qWt rfl rfl rfl (X3 _ _ (fun b=>h.owns_lt) (h.fact 0 rfl)) rfl fun r w a hg hF h=>?_
 obtain ⟨cs30,e32,f31⟩:=hF
 obtain ⟨b33,A34,n35,c36,rfl⟩:=Xk f31
 subst e32
 have h:=h.add (f:=(Rel.intN).fact [(.bool b33),(.slice A34 n35 c36)] (Q4 false (gv))) f31
 refine Z3 h 0 rfl rfl rfl Yf rfl rfl rfl rfl fun w h=>?_
 refine wpList_nil ?_
 refine wp_ret ?_
 repeat refine Hi ?_
 refine Vp Tryz.results264 h (Ju h 0 rfl rfl H9 Yf rfl) ?_
 exact ⟨_,rfl,h.grow0,_,rfl,(by rw [show ((Y5 l:Nat):Int)=Q4 false (gv) from by rw [←hp0]; rfl]; exact h.out 0 rfl)⟩
end Orr

namespace Orr
open Go Go.Proofs
theorem Jf {x y:LV} {z:Int} (hi:Yx x y z) (hs1:Xj z≤4294967295):Za Tryz.prog 251 [.agg [x,y]] (.agg (W9 z)) :=
  Qan hi fun Ob W b A n c hO h=>⟨_,Qjf Ob W hO h hs1,fun w v=>Mt v⟩
theorem Ga {x y:LV} {z:Int} (hi:Yx x y z) (hs1:Xj z≤4294967295):Za Tryz.prog 194 [.agg [x,y]] (.agg (W9 (-z))) :=
  Qan hi fun Ob W b A n c hO h=>⟨_,Qm2 Ob W hO h hs1,fun w v=>Mt v⟩
theorem Kf {x y x' y':LV} {z z':Int} (hi:Yx x y z) (hi':Yx x' y' z') (hs1:Xj z≤4294967295) (hs2:Xj z'≤4294967295)  : Za Tryz.prog 169 [.agg [x,y],.agg [x',y']] (.agg (W9 (z*z'))) :=
  Ri hi hi' fun Ob W b A n c b' A' n' c' hO h h'=>⟨_,Qm1 Ob W hO h h' hs1 hs2 ,fun w v=>Mt v⟩
theorem Qe6 {x y x' y':LV} {z z':Int} (hi:Yx x y z) (hi':Yx x' y' z') (hs1:Xj z≤4294967295) (hs2:Xj z'≤4294967295)  : Za Tryz.prog 295 [.agg [x,y],.agg [x',y']] (.agg (W9 (z+z'))) :=
  Ri hi hi' fun Ob W b A n c b' A' n' c' hO h h'=>⟨_,Qb5 Ob W hO h h' hs1 hs2 ,fun w v=>Mt v⟩
theorem Qe7 {x y x' y':LV} {z z':Int} (hi:Yx x y z) (hi':Yx x' y' z') (hs1:Xj z≤4294967295) (hs2:Xj z'≤4294967295)  : Za Tryz.prog 256 [.agg [x,y],.agg [x',y']] (.agg (W9 (z-z'))) :=
  Ri hi hi' fun Ob W b A n c b' A' n' c' hO h h'=>⟨_,Qm3 Ob W hO h h' hs1 hs2 ,fun w v=>Mt v⟩
theorem Dt {x y x' y':LV} {z z':Int} (hi:Yx x y z) (hi':Yx x' y' z') (hs1:Xj z≤4294967295) (hs2:Xj z'≤4294967295)  : Za Tryz.prog 291 [.agg [x,y],.agg [x',y']] (.one (.int .i64 (Mx z z'))) :=
  Ri hi hi' fun Ob W b A n c b' A' n' c' hO h h'=>⟨_,Qmz Ob W hO h h' hs1 hs2 ,fun w v=>Qxe rfl v⟩
theorem Ym {x y x' y':LV} {z z':Int} (hi:Yx x y z) (hi':Yx x' y' z') (hs1:Xj z≤4294967295) (hs2:Xj z'≤4294967295) (hz:z'≠0) (hdv:z % z'=0):Za Tryz.prog 265 [.agg [x,y],.agg [x',y']] (.tup [.agg (W9 (z / z')),.one (.int .i64 0)]) :=
  Ri hi hi' fun Ob W b A n c b' A' n' c' hO h h'=>⟨_,Qgy Ob W hO h h' hs1 hs2 hz hdv,fun w v=>Qv2 (fun v h=>Qjy h) Qxf v⟩
theorem Uj {z:Int} (h1:-9223372036854775808≤z∧z≤9223372036854775807):Za Tryz.prog 191 [.one (.int .i64 z)] (.agg (W9 z)) :=
  Ly fun Ob W vs hO hargs=>by
    rcases vs with _ | ⟨v,_ | ⟨v2,vs⟩⟩
    · exact hargs.elim
    · have hr:LRep W Ob v (.int .i64 z):=hargs.1
      cases hr
      exact ⟨_,Qqg Ob W hO h1.1 h1.2,fun w v=>Mt v⟩
    · exact hargs.2.elim
theorem Ut {l:List (List LV)} {p:List Int} (hi:IsInts l p) (hs:∀ z∈p,Xj z≤4294967295):Za Tryz.prog 264 [.one (.row l)] (.agg (W9 ((Y5 p:Nat):Int))) :=
  Qlr hi fun Ob W A n c hO h=>⟨_,Qm0 Ob W hO h hs,fun w v=>Mt v⟩
end Orr

namespace Orr
def Bd (s:Nat) (p:List Int):Prop:=∀ z∈p,Xj z≤s
theorem Sp:Xj 0=0:=rfl
theorem Qha {s:Nat} {p:List Int} (h:Bd s p) {i:Nat} {z:Int} (hz:p[i]? = some z):Xj z≤s:=h z (Vo hz)
theorem Zy {s:Nat} {p:List Int} (h:Bd s p) (k:Nat):Xj (p.getD k 0)≤s:=by
  rw [V6]
  cases hk:p[k]? with
  | none=>rw [Option.getD_none,Sp]; exact K6 _
  | some z=>exact Qha h hk
theorem Q7 {s t:Nat} {p:List Int} (h:Bd s p) (ht:s≤t):Bd t p:=fun z hz=>Xd (h z hz) ht
theorem Qnk {s:Nat}:Bd s []:=fun z hz=>by cases hz
theorem Qub {s:Nat} {n:Nat} {g:Nat→Int} (h:∀ k,k<n→Xj (g k)≤s):Bd s ((List.range n).map g):=fun z hz=>by
  obtain ⟨k,hk,rfl⟩:=Ww.1 hz
  exact h k (Tu.1 hk)
theorem Qgu:∀ (l:List Int),∀ z∈trim l,z∈l
  | [],z,h=>by cases h
  |
   x::l,z,h=>by
   have ih:=Qgu l
   cases hl:trim l with
   |
    nil =>
    simp only [trim,hl] at h
    split at h
    · cases h
    · rw [qZt] at h; rw [h]; exact Fm ..
   |
    cons y k =>
    simp only [trim,hl] at h
    rcases Vw.1 h with rfl | h
    · exact Fm ..
    · exact Ge _ (ih z (by rw [hl]; exact h))
theorem Kt (l:List Int):(trim l).length≤l.length:=by
  induction l with
  | nil=>exact X2 _
  |
   cons x l ih =>
   cases hl:trim l with
   | nil=>simp only [trim,hl]; split <;> simp
   | cons y k=>simp only [trim,hl]; rw [hl] at ih; simp at ih ⊢; exact ih
theorem Jm {s:Nat} {p:List Int} (h:Bd s p):Bd s (trim p):=fun z hz=>h z (Qgu p z hz)
theorem Py:∀ (l:List Int) (k:Nat),(trim l).getD k 0=l.getD k 0
  | [],k=>rfl
  |
   x::l,k=>by
   have ih:=Py l
   cases hl:trim l with
   |
    nil =>
    rw [hl] at ih
    simp only [trim,hl]
    split
    · rename_i hx
      cases k with
      | zero=>simp [hx]
      | succ k=>have:=ih k; simp at this ⊢; exact this
    · cases k with
      | zero=>simp
      | succ k=>have:=ih k; simp at this ⊢; exact this
   |
    cons y m =>
    rw [hl] at ih
    simp only [trim,hl]
    cases k with
    | zero=>simp
    | succ k=>have:=ih k; simp at this ⊢; exact this
def W6 (n:Nat) (g:Nat→Int):List Int:=trim ((List.range n).map g)
theorem Ky (n:Nat) (g:Nat→Int):Yw (W6 n g):=K0 _
theorem Si (n:Nat) (g:Nat→Int):(W6 n g).length≤n:=Xd (Kt _) (by simp)
theorem Gw (n:Nat) (g:Nat→Int) (k:Nat):(W6 n g).getD k 0=if k<n then g k else 0:=by
  unfold W6
  rw [Py,V6,S1]
  split
  · rename_i h; rw [qJj h]; rfl
  · rename_i h; rw [Eh (by simpa using h)]; rfl
theorem Nr {s n:Nat} {g:Nat→Int} (h:∀ k,k<n→Xj (g k)≤s):Bd s (W6 n g):=Jm (Qub h)
def Qut (p q:List Int):List Int:=W6 (max p.length q.length) fun k=>p.getD k 0+q.getD k 0
def Lk (p q:List Int):List Int:=W6 (max p.length q.length) fun k=>p.getD k 0-q.getD k 0
def Lj (p:List Int):List Int:=W6 p.length fun k=>-(p.getD k 0)
def J8 (p:List Int) (c:Int):List Int:=W6 p.length fun k=>p.getD k 0*c
def Wz (p:List Int):List Int:=W6 (p.length-1) fun k=>p.getD (k+1) 0*((k+1:Nat):Int)
theorem Lt {s t:Nat} {p q:List Int} (h:Bd s p) (h':Bd t q):Bd (max s t+1) (Lk p q):=Nr fun k _=>Xd (L9 _ _) (by have:=Zy h k; have:=Zy h' k; omega)
theorem Qq4 {s:Nat} {p:List Int} (h:Bd s p):Bd s (Lj p):=Nr fun k _=>by rw [Xg]; exact Zy h k
theorem Jz {s t:Nat} {p:List Int} {c:Int} (h:Bd s p) (hc:Xj c≤t):Bd (s+t) (J8 p c):=Nr fun k _=>Xd (Xl _ _) (by have:=Zy h k; omega)
theorem Bk (p q:List Int):(Lk p q).length≤max p.length q.length:=Si _ _
theorem Qfo (p:List Int):(Lj p).length≤p.length:=Si _ _
theorem X1 (p:List Int) (c:Int):(J8 p c).length≤p.length:=Si _ _
theorem W8 (p:List Int):(Wz p).length≤p.length-1:=Si _ _
theorem L8 {k t:Nat} (h:k<2^t):Xj (k:Int)≤t:=by rw [Gg]; simpa using h
theorem Qlx {k:Nat} (h:k<274877906944):Xj (k:Int)≤4294967295:=Xd (L8 (t:=38) (qJw h (by decide))) (by omega)
theorem Qcb {s t:Nat} {p:List Int} (h:Bd s p) (hl:p.length≤2^t):Bd (s+t) (Wz p):=Nr fun k hk=>Xd (Xl _ _) (by
  have:=Zy h (k+1)
  have:=L8 (k:=k+1) (t:=t) (by omega)
  omega)
def Bt (x:Int) (b:List Int) (i:Nat) (o:List Int):Nat→List Int
  | 0=>o
  | k+1=>(Bt x b i o k).set (i+k) ((Bt x b i o k).getD (i+k) 0+x*b.getD k 0)
def Hm (a b o:List Int):Nat→List Int
  | 0=>o
  | i+1=>Bt (a.getD i 0) b i (Hm a b o i) b.length
def Li (a b:List Int):List Int:=if a.length=0∨b.length=0 then [] else trim (Hm a b (List.replicate (a.length+b.length-1) 0) a.length)
theorem Im (x:Int) (b:List Int) (i:Nat) (o:List Int) (k:Nat):(Bt x b i o k).length=o.length:=by
  induction k with
  | zero=>rfl
  | succ k ih=>simp [Bt,ih]
theorem Hd (a b o:List Int) (i:Nat):(Hm a b o i).length=o.length:=by
  induction i with
  | zero=>rfl
  | succ i ih=>simp [Hm,Im,ih]
theorem Qn4 (l:List Int) (i m:Nat) (v:Int) (h:i<l.length):(l.set i v).getD m 0=if m=i then v else l.getD m 0:=by
  rw [V6,qVd,V6]
  by_cases e:i=m
  · subst e; simp [h]
  · rw [if_neg e,if_neg (fun h=>e h.symm)]
theorem C2 (x:Int) (b:List Int) (i:Nat) (o:List Int) (k m:Nat) (h:i+k≤o.length):(Bt x b i o k).getD m 0=if i≤m∧m<i+k then o.getD m 0+x*b.getD (m-i) 0 else o.getD m 0:=by
  induction k with
  | zero=>simp only [Bt]; rw [if_neg (by omega)]
  |
   succ k ih =>
   have ih:=ih (by omega)
   simp only [Bt]
   rw [Qn4 _ _ _ _ (by rw [Im]; omega)]
   by_cases e:m=i+k
   · subst e
     rw [if_pos rfl,if_pos (by omega),show i+k-i=k from by omega]
     rw [ih,if_neg (by omega)]
   · rw [if_neg e,ih]
     by_cases h1:i≤m∧m<i+k
     · rw [if_pos h1,if_pos (by omega)]
     · rw [if_neg h1,if_neg (by omega)]
theorem H4 {x y:Int} {s t:Nat} (hx:Xj x≤s) (hy:Xj y≤t):(x*y).natAbs≤2^(s+t):=by
  have h:=Xd (Xl x y) (show _≤s+t by omega)
  rw [Gg] at h; omega
theorem Qj6 {x:Int} {b:List Int} {i:Nat} {o:List Int} {k M:Nat} (h:i+k≤o.length) (ho:∀ m,(o.getD m 0).natAbs≤i*M) (hx:∀ j,(x*b.getD j 0).natAbs≤M) (m:Nat):((Bt x b i o k).getD m 0).natAbs≤(i+1)*M:=by
  rw [C2 x b i o k m h,qJl]
  have h1:=ho m
  split
  · have h2:=hx (m-i)
    generalize i*M=q at *
    omega
  · omega
theorem Qj5 {a b o:List Int} {i M:Nat} (h:∀ j,j<i→j+b.length≤o.length) (ho:∀ m,o.getD m 0=0) (hx:∀ i j,(a.getD i 0*b.getD j 0).natAbs≤M) (m:Nat):((Hm a b o i).getD m 0).natAbs≤i*M:=by
  induction i generalizing m with
  | zero=>simp only [Hm]; rw [ho]; simp
  |
   succ i ih =>
   simp only [Hm]
   exact Qj6 (by rw [Hd]; exact h i (by omega)) (ih fun j hj=>h j (by omega)) (hx i) m
theorem Mk {z:Int} {i s t:Nat} (h:z.natAbs≤i*2^s) (hi:i<2^t):Xj z≤s+t:=by
  rw [Gg]
  have h1:i*2^s<2^t*2^s:=qXx hi (qXt (by decide))
  rw [←qJn,qVj t s] at h1
  omega
theorem Fc (n m:Nat):(List.replicate n (0:Int)).getD m 0=0:=by
  rw [V6,qYu]; split <;> rfl
theorem Qhb {s:Nat} {p:List Int} (h:∀ m,Xj (p.getD m 0)≤s):Bd s p:=fun z hz=>by
  obtain ⟨i,hi⟩:=qZr.1 hz
  have:=h i
  rw [V6,hi] at this
  exact this
theorem Qb0 (a b:List Int):Yw (Li a b):=by
  unfold Li
  split
  · rfl
  · exact K0 _
def Kv (a:List Int) (n d:Int):Nat→Int×Int
  | 0=>(0,1)
  | k+1=>((Kv a n d k).1*n+a.getD (a.length-1-k) 0*(Kv a n d k).2,(Kv a n d k).2*d)
def Qr1 (a:List Int) (n d:Int):Int:=(Kv a n d a.length).1
theorem Eq {a:List Int} {n d:Int} {s t k:Nat} (ha:Bd s a) (hn:Xj n≤t) (hd:Xj d≤t):Xj (Kv a n d k).1≤s+2+k*(t+1)∧Xj (Kv a n d k).2≤1+k*t:=by
  induction k with
  | zero=>exact ⟨by simp [Kv,Sp],by simp [Kv]; decide⟩
  |
   succ k ih =>
   obtain ⟨h1,h2⟩:=ih
   have h3:=Zy ha (a.length-1-k)
   have e1:k*(t+1)=k*t+k:=by rw [qJb,qYp]
   rw [qJl,qJl]
   refine ⟨?_,?_⟩
   · simp only [Kv]
     refine Xd (L7 _ _) ?_
     have h4:=Xl (Kv a n d k).1 n
     have h5:=Xl (a.getD (a.length-1-k) 0) (Kv a n d k).2
     generalize k*t=q at *
     rw [e1] at h1 ⊢
     omega
   · simp only [Kv]
     have h4:=Xl (Kv a n d k).2 d
     generalize k*t=q at *
     omega
end Orr
namespace Orr
theorem getD_some {l:List Int} {i:Nat} (h:i<l.length):l[i]? = some (l.getD i 0):=by
  rw [V6,Xx h]; rfl
theorem Pz {p:List Int} (h:Yw p) (h0:0<p.length):p.getD (p.length-1) 0≠0:=by
  induction p with
  | nil=>simp at h0
  |
   cons x l ih =>
   unfold Yw at h
   cases hl:trim l with
   |
    nil =>
    simp only [trim,hl] at h
    split at h
    · cases h
    · rename_i hx
      injection h with h1 h2
      subst h2
      simpa using hx
   |
    cons y k =>
    simp only [trim,hl] at h
    injection h with h1 h2
    rw [←hl] at h2
    have ih:=ih h2 (by rw [←h2,hl]; simp)
    have h3:0<l.length:=by rw [←h2,hl]; simp
    simp only [qXe,qYz]
    obtain ⟨m,hm⟩:∃ m,l.length=m+1:=⟨l.length-1,by omega⟩
    rw [hm] at ih ⊢
    simpa using ih
end Orr
namespace Orr
theorem Gd (p:List Int):(List.range p.length).map (fun k=>p.getD k 0)=p:=by
  apply qYb
  intro i
  rw [S1]
  rcases Mq i p.length with h | h
  · rw [qJj h]
    simp [Xx h]
  · rw [Eh (by simpa using h),Eh h]; rfl
theorem Qhv {p q:List Int} (hl:p.length=q.length) (h:∀ j,j<p.length→p.getD j 0=q.getD j 0):p=q:=by
  rw [←Gd p,←Gd q,←hl]
  exact qJr fun j hj=>h j (Tu.1 hj)
end Orr

namespace Orr
abbrev rl (q:Rat):List LV:=[sg q.num,mg q.num,sg (q.den:Int),mg (q.den:Int)]
theorem Qt5 {a b:Int} {q:Rat} (h1:a=q.num) (h2:b=(q.den:Int)):AV.agg [sg a,mg a,sg b,mg b]=AV.agg (rl q):=by rw [h1,h2]
theorem Fa (n d:Int):Y5 [n,d]=Int.gcd d n:=by
  unfold Y5
  simp only [qYy,List.foldl_nil,Nat.gcd_zero_left]
  exact qVl _ _
theorem Qfj {n d:Int} (hd:d≠0):(0:Int)<((Y5 [n,d]:Nat):Int):=by
  rw [Fa]
  have:=Int.gcd_pos_of_ne_zero_left n hd
  omega
theorem A5 (n d:Int):n % ((Y5 [n,d]:Nat):Int)=0:=by
  rw [Fa]; exact qYc (qVc ..)
theorem A9 (n d:Int):d % ((Y5 [n,d]:Nat):Int)=0:=by
  rw [Fa]; exact qYc (Int.gcd_dvd_left ..)
theorem Qj8 {n g:Int} (h:n % g=0):-n % g=0:=by
  exact qYc (Int.dvd_neg.2 (qYs h))
theorem Qj0 {n d:Int} {s:Nat} (hd:d≠0) (h:Xj d≤s):Xj ((Y5 [n,d]:Nat):Int)≤s:=by
  rw [Fa]
  refine Xd (J9 ?_) h
  have:=Nat.le_of_dvd (by omega:0<d.natAbs) (show Int.gcd d n∣d.natAbs from Nat.gcd_dvd_left _ _)
  simpa using this
theorem Eb {n d:Int} (hd:0<d):n / ((Y5 [n,d]:Nat):Int)=(Rat.divInt n d).num∧d / ((Y5 [n,d]:Nat):Int)=((Rat.divInt n d).den:Int):=by
  rw [Fa,Rat.num_divInt,Rat.den_divInt,if_neg (by omega),qJt hd,Int.one_mul]
  refine ⟨rfl,?_⟩
  rw [Int.natCast_ediv,Int.natAbs_of_nonneg (by omega)]
theorem Qj2 {n d:Int} (hd:d<0):-n / ((Y5 [n,d]:Nat):Int)=(Rat.divInt n d).num∧-d / ((Y5 [n,d]:Nat):Int)=((Rat.divInt n d).den:Int):=by
  rw [Fa,Rat.num_divInt,Rat.den_divInt,if_neg (by omega),qJh hd,qVa,Int.one_mul]
  refine ⟨rfl,?_⟩
  rw [Int.natCast_ediv,Int.ofNat_natAbs_of_nonpos (by omega)]
theorem So (u g:Int):Xj (u / g)≤Xj u:=by
  unfold Xj
  exact J9 (Int.natAbs_ediv_le_natAbs u g)
theorem Ie {n d:Int} {s:Nat} (h:Xj n≤s):Xj (Rat.divInt n d).num≤s:=by
  rw [Rat.num_divInt]
  refine Xd (So _ _) ?_
  unfold Xj
  rw [qKc]
  refine Xd (J9 ?_) h
  have:d.sign.natAbs≤1:=by rcases Nf d with ⟨_,e⟩ | ⟨_,e⟩ | ⟨_,e⟩ <;> rw [e] <;> decide
  calc d.sign.natAbs*n.natAbs≤1*n.natAbs:=O8 _ this
    _=n.natAbs:=Nat.one_mul _
theorem Id {n d:Int} {s:Nat} (h:Xj d≤s) (h1:1≤s):Xj ((Rat.divInt n d).den:Int)≤s:=by
  rw [Rat.den_divInt]
  split
  · exact h1
  · refine Xd (J9 ?_) h
    exact qYk _ _
def Qs (s:Nat) (q:Rat):Prop:=Xj q.num≤s∧Xj (q.den:Int)≤s
theorem Qs.mono {s t:Nat} {q:Rat} (h:Qs s q) (ht:s≤t):Qs t q:=⟨Xd h.1 ht,Xd h.2 ht⟩
theorem Qs.divInt {s:Nat} {n d:Int} (h:Xj n≤s) (h':Xj d≤s) (h1:1≤s):Qs s (Rat.divInt n d):=⟨Ie h,Id h' h1⟩
theorem Uk (q:Rat):(q.den:Int)≠0:=by have:=q.den_nz; omega
theorem Qjt (q:Rat):(0:Int)<(q.den:Int):=by have:=q.den_nz; omega
def Qz (n d:Int):Rat:=Rat.divInt n (if d=0 then 1 else d)
theorem Ej (q:Rat):Qz q.num q.den=q:=by
  unfold Qz
  rw [if_neg (Uk q)]; exact qXv q
def Qq6 (a b:Rat):Int:=Mx (a.num*(b.den:Int)) (b.num*(a.den:Int))
theorem Qae (a:Rat):Qq6 a a=0:=by unfold Qq6 Mx; simp
end Orr

namespace Orr
structure Crv where
  x:List Int
  y:List Int
  d:Int
def Crv.d' (k:Crv):Int:=if k.d=0 then 1 else k.d
def Crv.g (k:Crv):Int:=if k.d'<0 then -((Y5 (k.d'::(trim k.x++trim k.y)):Nat):Int) else (Y5 (k.d'::(trim k.x++trim k.y)):Nat)
def Crv.norm (k:Crv):Crv:=⟨trim ((trim k.x).map (· / k.g)),trim ((trim k.y).map (· / k.g)),k.d' / k.g⟩
theorem Bh {l:List Int}:∀ z∈l,((Y5 l:Nat):Int)∣z:=by
  have key:∀ (l:List Int) (g:Nat),(l.foldl (fun g z=>Nat.gcd g z.natAbs) g∣g)∧∀ z∈l,l.foldl (fun g z=>Nat.gcd g z.natAbs) g∣z.natAbs:=by
    intro l
    induction l with
    | nil=>intro g; exact ⟨Nat.dvd_refl _,by simp⟩
    |
     cons u l ih =>
     intro g
     obtain ⟨h1,h2⟩:=ih (Nat.gcd g u.natAbs)
     refine ⟨Nat.dvd_trans h1 (Nat.gcd_dvd_left _ _),fun z hz=>?_⟩
     rcases Vw.1 hz with rfl | hz
     · exact Nat.dvd_trans h1 (Nat.gcd_dvd_right _ _)
     · exact h2 z hz
  intro z hz
  have:=(key l 0).2 z hz
  exact Int.ofNat_dvd_left.2 this
theorem Crv.d'_ne (k:Crv):k.d'≠0:=by unfold Crv.d'; split <;> omega
theorem Crv.gcd_ne (k:Crv):Y5 (k.d'::(trim k.x++trim k.y))≠0:=by
  intro e
  have h:=Bh (l:=k.d'::(trim k.x++trim k.y)) k.d' (Fm ..)
  rw [e] at h
  exact k.d'_ne (by simpa using h)
theorem Crv.g_ne (k:Crv):k.g≠0:=by
  have h0:=k.gcd_ne
  unfold Crv.g
  split <;> omega
theorem Crv.g_dvd (k:Crv):∀ z∈k.d'::(trim k.x++trim k.y),z % k.g=0:=by
  intro z hz
  have h:=Bh z hz
  refine qYc ?_
  unfold Crv.g
  split
  · exact Int.neg_dvd.2 h
  · exact h
theorem Crv.isz_g (k:Crv) {s:Nat} (h:Xj k.d'≤s):Xj k.g≤s:=by
  have hd:=Bh (l:=k.d'::(trim k.x++trim k.y)) k.d' (Fm ..)
  have hle:Y5 (k.d'::(trim k.x++trim k.y))≤k.d'.natAbs:=Nat.le_of_dvd (by have:=k.d'_ne; omega) (Int.ofNat_dvd_left.1 hd)
  refine Xd (J9 ?_) h
  unfold Crv.g
  split <;> simp <;> exact hle
structure Cs (s n:Nat) (k:Crv):Prop where
  x:Bd s k.x
  y:Bd s k.y
  d:Xj k.d≤s
  lx:k.x.length≤n
  ly:k.y.length≤n
theorem Qc4 {k:Crv} {s:Nat} (h:Xj k.d≤s) (h1:1≤s):Xj k.d'≤s:=by unfold Crv.d'; split <;> first | exact h1 | exact h
theorem Qg9 {s:Nat} {p:List Int} (h:Bd s p) (g:Int):Bd s (p.map (· / g)):=fun z hz=>by
  obtain ⟨u,hu,rfl⟩:=Ww.1 hz
  exact Xd (So u g) (h u hu)
theorem Cs.norm {s n:Nat} {k:Crv} (h:Cs s n k) (h1:1≤s):Cs s n k.norm:=by
  refine ⟨Jm (Qg9 (Jm h.x) _),Jm (Qg9 (Jm h.y) _),Xd (So _ _) (Qc4 h.d h1),?_,?_⟩
  · refine Xd (Kt _) ?_; rw [Zr]; exact Xd (Kt _) h.lx
  · refine Xd (Kt _) ?_; rw [Zr]; exact Xd (Kt _) h.ly
theorem Cs.mono {s n t m:Nat} {k:Crv} (h:Cs s n k) (hs:s≤t) (hn:n≤m):Cs t m k:=⟨Q7 h.x hs,Q7 h.y hs,Xd h.d hs,Xd h.lx hn,Xd h.ly hn⟩
def Nml (k:Crv):Prop:=Yw k.x∧Yw k.y∧0<k.d∧Y5 (k.d::(k.x++k.y))=1
theorem Crv.norm_of {k:Crv} (h:Nml k):k.norm=k:=by
  obtain ⟨h1,h2,h3,h4⟩:=h
  have hd:k.d'=k.d:=by unfold Crv.d'; rw [if_neg (by omega)]
  have hx:trim k.x=k.x:=h1
  have hy:trim k.y=k.y:=h2
  have hg:k.g=1:=by unfold Crv.g; rw [hd,hx,hy,h4,if_neg (by omega)]; rfl
  unfold Crv.norm
  rw [hg,hd,hx,hy]
  simp [hx,hy]
theorem Qcz {l:List Int} {g:Int} (hg:g≠0) (hga:g.natAbs=Y5 l):Y5 (l.map (· / g))=1:=by
  have key:∀ (l:List Int) (a:Nat),(∀ z∈l,g∣z)→l.foldl (fun a z=>Nat.gcd a z.natAbs) (a*g.natAbs)=((l.map (· / g)).foldl (fun a z=>Nat.gcd a z.natAbs) a)*g.natAbs:=by
    intro l
    induction l with
    | nil=>intro a _; rfl
    |
     cons z l ih =>
     intro a h
     simp only [Ln,qYy]
     have hz:z.natAbs=(z / g).natAbs*g.natAbs:=by
       obtain ⟨q,rfl⟩:=h z (Fm ..)
       rw [qXw _ hg,qKc,O7]
     rw [hz,Nat.gcd_mul_right]
     exact ih _ fun u hu=>h u (Ge _ hu)
  have h:=key l 0 fun z hz=>qVf.1 (by rw [hga]; exact qVf.2 (Bh z hz))
  rw [qYr] at h
  have h':Y5 l=Y5 (l.map (· / g))*g.natAbs:=h
  rw [←hga] at h'
  have hp:0<g.natAbs:=by omega
  exact Nat.eq_of_mul_eq_mul_right hp (by rw [Nat.one_mul]; exact h'.symm)
theorem Hj {l:List Int} {g:Int} (ht:Yw l) (hg:g≠0) (hd:∀ z∈l,g∣z):Yw (l.map (· / g)):=by
  induction l with
  | nil=>rfl
  |
   cons x l ih =>
   have hne:∀ z∈x::l,z≠0→z / g≠0:=fun z hz h0 h1=>by
     obtain ⟨q,rfl⟩:=hd z hz
     rw [qXw _ hg] at h1
     rw [h1] at h0; simp at h0
   unfold Yw at ht ih ⊢
   cases hl:trim l with
   |
    nil =>
    simp only [trim,hl] at ht
    split at ht
    · cases ht
    · rename_i hx
      injection ht with _ h2
      subst h2
      simp [trim,hne x (Fm ..) hx]
   |
    cons y k =>
    simp only [trim,hl] at ht
    injection ht with _ h2
    have hll:trim l=l:=by rw [hl]; exact h2
    have ih:=ih hll fun z hz=>hd z (Ge _ hz)
    rw [Ln]
    have hne2:l.map (· / g)≠[]:=by rw [←hll,hl]; simp
    cases hm:l.map (· / g) with
    | nil=>exact absurd hm hne2
    |
     cons u w =>
     rw [hm] at ih
     have e:trim (x / g::u::w)=match trim (u::w) with | []=>if x / g=0 then [] else [x / g] | y::k=>x / g::y::k:=rfl
     rw [e,ih]
theorem Crv.nml (k:Crv):Nml k.norm:=by
  have hg:=k.g_ne
  have hdv:∀ z∈k.d'::(trim k.x++trim k.y),k.g∣z:=fun z hz=>qYs (k.g_dvd z hz)
  have hx:=Hj (g:=k.g) (K0 k.x) hg fun z hz=>hdv z (by simp [hz])
  have hy:=Hj (g:=k.g) (K0 k.y) hg fun z hz=>hdv z (by simp [hz])
  refine ⟨K0 _,K0 _,?_,?_⟩
  · show 0<k.d' / k.g
    obtain ⟨q,hq⟩:=hdv k.d' (Fm ..)
    have h0:=k.d'_ne
    have hgc:=k.gcd_ne
    have e:k.d' / k.g=q:=by rw [hq,qXw _ hg]
    rw [e]
    unfold Crv.g at hq hg
    have hq0:q≠0:=fun e=>by rw [e,Int.mul_zero] at hq; exact h0 hq
    split at hq
    · rename_i hneg
      rcases qYe hq0 with h | h
      · have:=Int.mul_pos_of_neg_of_neg (a:=-((Y5 (k.d'::(trim k.x++trim k.y)):Nat):Int)) (b:=q) (by omega) h
        omega
      · exact h
    · rename_i hneg
      rcases qYe hq0 with h | h
      · have:=Int.mul_neg_of_pos_of_neg (a:=((Y5 (k.d'::(trim k.x++trim k.y)):Nat):Int)) (b:=q) (by omega) h
        omega
      · exact h
  · show Y5 (k.d' / k.g::(trim ((trim k.x).map (· / k.g))++trim ((trim k.y).map (· / k.g))))=1
    rw [show trim ((trim k.x).map (· / k.g))=(trim k.x).map (· / k.g) from hx,show trim ((trim k.y).map (· / k.g))=(trim k.y).map (· / k.g) from hy,←F6,←Ln (f:=(· / k.g))]
    refine Qcz hg ?_
    unfold Crv.g
    split <;> omega
structure Pt where
  c:Crv
  id:Int
def Wp (p:Pt):List LV:=[pl p.c.x,pl p.c.y,sg p.c.d,mg p.c.d,.int .i64 p.id]
def V5 (l:List Pt):LV:=.row (l.map Wp)
theorem Vx (l:List Pt):Vq (V5 l)=some l.length:=by simp [Vq,V5]
end Orr

namespace Orr
def pos:List Pt→Int→Nat
  | [],_=>0
  | p::l,id=>if p.id<id then pos l id+1 else 0
def has (l:List Pt) (id:Int):Bool:=match l[pos l id]? with
  | some p=>decide (p.id=id)
  | none=>false
theorem Qdg (l:List Pt) (id:Int):pos l id≤l.length:=by
  induction l with
  | nil=>exact X2 _
  | cons p l ih=>simp only [pos]; split <;> simp <;> omega
theorem Qif:∀ {l:List Pt} {id:Int} {k:Nat},(∀ j p,j<k→l[j]? = some p→p.id<id)→(k=l.length∨∃ p,l[k]? = some p∧¬p.id<id)→pos l id=k
  |
   [],id,k,_,h=>by
   rcases h with h | ⟨p,h,_⟩
   · subst h; rfl
   · simp at h
  |
   q::l,id,0,_,h=>by
   rcases h with h | ⟨p,h,h2⟩
   · simp at h
   · simp at h; subst h; simp [pos,h2]
  |
   q::l,id,k+1,h1,h=>by
   have hq:=h1 0 q (by omega) rfl
   simp only [pos,hq,if_true]
   rw [Qif (k:=k) (fun j p hj hp=>h1 (j+1) p (by omega) (by simpa using hp))]
   rcases h with h | ⟨p,h,h2⟩
   · left; simpa using h
   · right; exact ⟨p,by simpa using h,h2⟩
def put (l:List Pt) (q:Pt):List Pt:=l.take (pos l q.id)++q::l.drop (pos l q.id)
def Tf (l:List Pt) (q:Pt):Int:=if has l q.id=true then 6 else if 6≤l.length then 9 else 0
def Qqy (s n:Nat) (p:Pt):Prop:=Nml p.c∧Cs s n p.c
theorem Ed (l:List Pt) (q:Pt):(put l q).length=l.length+1:=by
  have:=Qdg l q.id
  simp [put]; omega
theorem Qdi {l:List Pt} {q p:Pt} (h:p∈put l q):p=q∨p∈l:=by
  unfold put at h
  rcases Y7.1 h with h | h
  · exact .inr (Rx h)
  · rcases Vw.1 h with h | h
    · exact .inl h
    · exact .inr (Pr h)
def Jk:List Pt→List Pt→List Pt×Int
  | acc,[]=>(acc,0)
  | acc,q::qs=>if Tf acc q=0 then Jk (put acc q) qs else ([],Tf acc q)
def IsPt (s n:Nat) (z:List LV) (q:Pt):Prop:=∃ lx ly b l px py d,z=[.row lx,.row ly,.bool b,Xv l,.int .i64 q.id]∧IsInts lx px∧IsInts ly py∧Yx (.bool b) (Xv l) d∧Cs s n ⟨px,py,d⟩∧q.c=Crv.norm ⟨px,py,d⟩
theorem Qul {s n:Nat} {p:Pt} (h:Qqy s n p):IsPt s n (Wp p) p:=by
  obtain ⟨b,l,h1,h2,h3,h4⟩:=Zm p.c.d
  refine ⟨_,_,decide (p.c.d<0),V4 p.c.d.natAbs,_,_,p.c.d,rfl,Y2 _,Y2 _,Zm _,h.2,(Crv.norm_of h.1).symm⟩
def IsPts (s n:Nat):List (List LV)→List Pt→Prop
  | [],[]=>True
  | z::zs,q::qs=>IsPt s n z q∧IsPts s n zs qs
  | _,_=>False
theorem IsPts.len {s n:Nat}:∀ {zs:List (List LV)} {qs:List Pt},IsPts s n zs qs→zs.length=qs.length
  | [],[],_=>rfl
  | _::_,_::_,h=>by simp [h.2.len]
  | [],_::_,h=>h.elim
  | _::_,[],h=>h.elim
theorem IsPts.get {s n:Nat}:∀ {zs:List (List LV)} {qs:List Pt},IsPts s n zs qs→∀ {i:Nat} {q:Pt},qs[i]? = some q→∃ z,zs[i]? = some z∧IsPt s n z q
  | [],[],_,i,q,h=>by simp at h
  | z::zs,q::qs,h,0,r,hr=>by simp at hr; subst hr; exact ⟨z,rfl,h.1⟩
  | z::zs,q::qs,h,i+1,r,hr=>by simpa using h.2.get (i:=i) (by simpa using hr)
  | [],_::_,h,_,_,_=>h.elim
  | _::_,[],h,_,_,_=>h.elim
theorem Qjz {s n:Nat}:∀ {l:List Pt},(∀ p∈l,Qqy s n p)→IsPts s n (l.map Wp) l
  | [],_=>trivial
  | p::l,h=>⟨Qul (h p (Fm ..)),Qjz fun q hq=>h q (Ge _ hq)⟩
theorem IsPt.ok {s n:Nat} {z:List LV} {q:Pt} (h:IsPt s n z q) (h1:1≤s):Qqy s n q:=by
  obtain ⟨lx,ly,b,l,px,py,d,_,_,_,_,hc,e⟩:=h
  unfold Qqy
  rw [e]
  exact ⟨Crv.nml _,hc.norm h1⟩
theorem Ql6 (acc qs:List Pt) {i:Nat} {q:Pt} (hi:qs[i]? = some q) (h:Jk acc (qs.take i)=((Jk acc (qs.take i)).1,0)):Jk acc (qs.take (i+1))=if Tf (Jk acc (qs.take i)).1 q=0 then (put (Jk acc (qs.take i)).1 q,0) else ([],Tf (Jk acc (qs.take i)).1 q):=by
  induction qs generalizing acc i with
  | nil=>simp at hi
  |
   cons x qs ih =>
   cases i with
   | zero=>simp at hi; subst hi; simp [Jk]
   |
    succ i =>
    simp only [qVu,Jk] at h ⊢
    by_cases h0:Tf acc x=0
    · simp only [h0,if_true] at h ⊢
      exact ih (put acc x) (by simpa using hi) h
    · simp only [h0,if_false] at h
      injection h with _ h
      exact absurd h h0
theorem Qoo (acc qs:List Pt) {i:Nat} {e:Int} (he:e≠0) (h:Jk acc (qs.take i)=([],e)):Jk acc qs=([],e):=by
  induction qs generalizing acc i with
  | nil=>simp [Jk] at h; exact absurd h.2.symm he
  |
   cons x qs ih =>
   cases i with
   | zero=>simp [Jk] at h; exact absurd h.2.symm he
   |
    succ i =>
    simp only [qVu,Jk] at h ⊢
    by_cases h0:Tf acc x=0
    · simp only [h0,if_true] at h ⊢; exact ih _ h
    · simp only [h0,if_false] at h ⊢; exact h
end Orr

namespace Orr
def Ff (p:List Int) (q:Rat):Int:=Mx (Qr1 p q.num q.den) 0
def V8 (sgn:List Int→Int):Nat→List Int→Int
  | 0,_=>0
  | k+1,p=>if p.length=0 then 0 else if sgn p=0 then V8 sgn k (Wz p) else sgn p
theorem Sn (sgn:List Int→Int):∀ (k:Nat) (p:List Int),p.length≤k→V8 sgn k p=V8 sgn p.length p
  |
   0,p,h=>by
   have:p.length=0:=by omega
   rw [this]
  |
   k+1,p,h=>by
   cases hp:p.length with
   | zero=>simp [V8,hp]
   |
    succ m =>
    simp only [V8]
    have h1:=W8 p
    rw [Sn sgn k (Wz p) (by omega),Sn sgn m (Wz p) (by omega)]
theorem Dx (sgn:List Int→Int) {p:List Int} (h:p.length=0):V8 sgn p.length p=0:=by rw [h]; rfl
theorem Dv (sgn:List Int→Int) {p:List Int} (h:0<p.length) (hs:sgn p≠0):V8 sgn p.length p=sgn p:=by
  obtain ⟨m,hm⟩:∃ m,p.length=m+1:=⟨p.length-1,by omega⟩
  rw [hm]; simp only [V8]; rw [if_neg (by omega),if_neg hs]
theorem Dw (sgn:List Int→Int) {p:List Int} (h:0<p.length) (hs:sgn p=0):V8 sgn p.length p=V8 sgn (Wz p).length (Wz p):=by
  obtain ⟨m,hm⟩:∃ m,p.length=m+1:=⟨p.length-1,by omega⟩
  rw [hm]; simp only [V8]; rw [if_neg (by omega),if_pos hs]
  exact Sn sgn m _ (by have:=W8 p; omega)
def Fb (p:List Int) (q:Rat):Int:=V8 (fun p=>Ff p q) p.length p
structure Pb (p:List Int):Prop where
  t:Yw p
  l:p.length≤64
  b:Bd 16777216 p
abbrev Qb (q:Rat):Prop:=Qs 16777216 q
abbrev Cb (k:Crv):Prop:=Cs 1048576 16 k
def Yk (a b:Crv):List Int:=Lk (J8 b.x a.d) (J8 a.x b.d)
def J2 (a b:Crv):List Int:=Lk (J8 b.y a.d) (J8 a.y b.d)
theorem Iq {a b:Crv} (ha:Cb a) (hb:Cb b):Pb (Yk a b)∧(Yk a b).length≤16∧Bd 2097153 (Yk a b):=by
  have h1:Bd 2097153 (Yk a b):=Q7 (Lt (Jz hb.x ha.d) (Jz ha.x hb.d)) (by omega)
  have h2:(Yk a b).length≤16:=by
    refine Xd (Bk _ _) ?_
    have:=X1 b.x a.d; have:=X1 a.x b.d; have:=ha.lx; have:=hb.lx
    omega
  exact ⟨⟨Ky _ _,by omega,Q7 h1 (by omega)⟩,h2,h1⟩
theorem Ip {a b:Crv} (ha:Cb a) (hb:Cb b):Pb (J2 a b)∧(J2 a b).length≤16∧Bd 2097153 (J2 a b):=by
  have h1:Bd 2097153 (J2 a b):=Q7 (Lt (Jz hb.y ha.d) (Jz ha.y hb.d)) (by omega)
  have h2:(J2 a b).length≤16:=by
    refine Xd (Bk _ _) ?_
    have:=X1 b.y a.d; have:=X1 a.y b.d; have:=ha.ly; have:=hb.ly
    omega
  exact ⟨⟨Ky _ _,by omega,Q7 h1 (by omega)⟩,h2,h1⟩
def Gj (q:Rat) (a b:Pt):List (List Int)→Bool
  | []=>decide (a.id<b.id)
  | p::l=>if 0<p.length then decide (0<Fb p q) else Gj q a b l
def Dh (q:Rat) (a b:Pt):Bool:=Gj q a b [J2 b.c a.c,Yk b.c a.c]
def Qhc (q:Rat) (a b:Pt):Bool:=Gj q a b [Yk a.c b.c,J2 a.c b.c]
def pls (l:List (List Int)):LV:=.row (l.map fun p=>[pl p])
theorem Qpe (l:List (List Int)):Vq (pls l)=some l.length:=by simp [Vq,pls]
theorem D3 (q:Rat) (a b:Pt):∀ {l:List (List Int)} {i:Nat},(∀ j p,j<i→l[j]? = some p→p.length=0)→Gj q a b l=Gj q a b (l.drop i)
  | l,0,_=>by simp
  | [],i+1,_=>by simp
  |
   p::l,i+1,h=>by
   have h0:=h 0 p (by omega) rfl
   simp only [Gj,qVs]
   rw [if_neg (by omega)]
   exact D3 q a b fun j r hj hr=>h (j+1) r (by omega) (by simpa using hr)
theorem Ql9 (q:Rat) (a b:Pt) {l:List (List Int)} {i:Nat} {p:List Int} (hp:l[i]? = some p) (h:0<p.length):Gj q a b (l.drop i)=decide (0<Fb p q):=by
  obtain ⟨hi,e⟩:=Uy.1 hp
  rw [qZw hi,e]
  simp only [Gj]
  rw [if_pos h]
end Orr

namespace Orr
open Go
structure Ct where
  kind:Int
  i0:Int
  i1:Int
  i2:Int
  i3:Int
  p:List Int
  want:Int
abbrev Gi (c:Ct):List LV:=[.int .i64 c.kind,.int .i64 c.i0,.int .i64 c.i1,.int .i64 c.i2,.int .i64 c.i3,pl c.p,.int .i64 c.want]
def cts (l:List Ct):LV:=.row (l.map Gi)
theorem S3 (l:List Ct):Vq (cts l)=some l.length:=by simp [Vq,cts]
def R9 (p q:List Int):List Int:=if 0<p.length then p else q
theorem Qar {p q:List Int} (hp:Pb p) (hq:Pb q):Pb (R9 p q):=by
  unfold R9; split <;> assumption
def Gp:List Int→List Int→Bool
  | x::l,y::m=>if x=y then Gp l m else decide (x<y)
  | _,_=>false
def Yu (a b:Ct):Bool:=Gp [a.kind,a.i0,a.i1,a.i2,a.i3] [b.kind,b.i0,b.i1,b.i2,b.i3]
def Te (out:List Ct) (c:Ct):Nat→Nat
  | 0=>0
  |
   k+1=>match out[k]? with
   | some x=>if Yu c x=true then Te out c k else k+1
   | none=>k+1
theorem Qkc (out:List Ct) (c:Ct):∀ k,Te out c k≤k
  | 0=>X2 _
  |
   k+1=>by
   simp only [Te]
   split
   · split
     · exact Nat.le_succ_of_le (Qkc out c k)
     · exact X2 _
   · exact X2 _
theorem Qrz {out:List Ct} {c x:Ct} {k:Nat} (hx:out[k]? = some x) (h:Yu c x=true):Te out c (k+1)=Te out c k:=by
  simp only [Te,hx,h,if_true]
theorem Qov {out:List Ct} {c x:Ct} {k:Nat} (hx:out[k]? = some x) (h:Yu c x=false):Te out c (k+1)=k+1:=by
  simp [Te,hx,h]
def Cy (out:List Ct) (c:Ct):List Ct:=out.take (Te out c out.length)++c::out.drop (Te out c out.length)
theorem Qn6 (out:List Ct) (c:Ct):(Cy out c).length=out.length+1:=by
  have:=Qkc out c out.length
  simp [Cy]; omega
theorem Qn7 {out:List Ct} {c x:Ct} (h:x∈Cy out c):x=c∨x∈out:=by
  simp only [Cy,Y7,Vw] at h
  rcases h with h | h | h
  · exact .inr (Rx h)
  · exact .inl h
  · exact .inr (Pr h)
def Z7 (l:List Ct):List Ct:=l.foldl Cy []
theorem Qiw (l:List Ct) (c:Ct):Z7 (l++[c])=Cy (Z7 l) c:=by simp [Z7,List.foldl_append]
theorem Qix {l:List Ct} {i:Nat} {c:Ct} (h:l[i]? = some c):Z7 (l.take (i+1))=Cy (Z7 (l.take i)) c:=by
  rw [qXq,h]; exact Qiw _ _
theorem Qat:∀ (l acc:List Ct),(l.foldl Cy acc).length=acc.length+l.length
  | [],acc=>by simp
  | c::l,acc=>by simp only [qYy]; rw [Qat l (Cy acc c),Qn6]; simp; omega
theorem Kz (l:List Ct):(Z7 l).length=l.length:=by unfold Z7; rw [Qat]; simp
theorem Qau:∀ (l acc:List Ct) {x:Ct},x∈l.foldl Cy acc→x∈l∨x∈acc
  | [],acc,x,h=>.inr h
  |
   c::l,acc,x,h=>by
   simp only [qYy] at h
   rcases Qau l _ h with h | h
   · exact .inl (Ge _ h)
   · rcases Qn7 h with rfl | h
     · exact .inl (Fm ..)
     · exact .inr h
theorem Qbv {l:List Ct} {x:Ct} (h:x∈Z7 l):x∈l:=by
  rcases Qau l [] h with h | h
  · exact h
  · cases h
theorem Qfn {α:Type} (l:List α) (z x:α) {k m':Nat} (hk:k≤l.length) (hm:m'=l.length-k) :
    ((l++[z]).take (k+1)++((l++[z]).drop k).take m'++(l++[z]).drop (k+1+m')).set k x=l.take k++x::l.drop k:=by
  subst hm
  have e1:((l++[z]).drop k).take (l.length-k)=l.drop k:=by
    rw [List.drop_append_of_le_length hk,qVb (by simp),Y0 (by simp)]
  have e2:(l++[z]).drop (k+1+(l.length-k))=[]:=Ll (by simp; omega)
  rw [e1,e2,qXg]
  have e3:(l++[z]).take (k+1)=(l++[z]).take k++[(l++[z])[k]'(by simp; omega)]:=by rw [List.take_succ_eq_append_getElem]
  rw [e3,qVb hk,P6,List.set_append,if_neg (by simp; omega)]
  simp [Nb hk]
def Jg (q:Rat) (a b:Pt):Ct :=
  { kind:=2,i0:=a.id,i1:=b.id,i2:=0,i3:=0,p:=R9 (J2 b.c a.c) (Yk b.c a.c),want:=Fb (R9 (J2 b.c a.c) (Yk b.c a.c)) q }
end Orr

namespace Orr
theorem Qmx {α:Type} {l:List α} {i:Nat} {x:α} (h:l[i]? = some x):l.take (i+1)=l.take i++[x]:=by rw [qXq,h]; rfl
def Q1e (s m:Pt×Pt):Bool:=decide (m.1.id≠s.1.id) || decide (m.2.id≠s.2.id)
end Orr

namespace Orr
open Go
def dv:List Nat→Nat
  | []=>0
  | x::l=>x+10000*dv l
def Dg (l:List Nat):Prop:=∀ x∈l,x<10000
def dig (x:Nat):List Nat:=if h:x=0 then [] else (x % 10000)::dig (x / 10000)
termination_by x
decreasing_by omega
theorem J4:dig 0=[]:=by unfold dig; simp
theorem R5 {x:Nat} (h:x≠0):dig x=(x % 10000)::dig (x / 10000):=by rw [dig]; simp [h]
theorem Ve (x:Nat):dv (dig x)=x:=by
  induction x using Nat.strongRecOn with
  |
   _ x ih =>
   rcases Hl x with h | h
   · subst h; rw [J4]; rfl
   · rw [R5 (by omega)]
     simp only [dv]
     rw [ih _ (by omega)]; omega
theorem Um (x:Nat):Dg (dig x):=by
  induction x using Nat.strongRecOn with
  |
   _ x ih =>
   rcases Hl x with h | h
   · subst h; rw [J4]; intro y hy; cases hy
   · rw [R5 (by omega)]
     intro y hy
     rcases Vw.1 hy with rfl | hy
     · omega
     · exact ih _ (by omega) y hy
theorem Lx {x:Nat}:(dig x).length=0↔x=0:=by
  constructor
  · intro h
    have h0:=P5 h
    have:=Ve x
    rw [h0] at this
    exact this.symm
  · rintro rfl; rw [J4]; rfl
theorem Gu {x:Nat} (h:x≠0):(dig (x / 10000)).length+1=(dig x).length:=by rw [R5 h]; rfl
theorem Qal {x:Nat} (h:x<1000000000000):(dig x).length≤3:=by
  by_cases h0:x=0
  · subst h0; rw [J4]; exact K6 _
  · have h1:=Gu h0
    by_cases h2:x / 10000=0
    · rw [h2,J4] at h1; simp at h1; omega
    · have h3:=Gu h2
      by_cases h4:x / 10000 / 10000=0
      · rw [h4,J4] at h3; simp at h3; omega
      · have h5:=Gu h4
        have h6:x / 10000 / 10000 / 10000=0:=by omega
        rw [h6,J4] at h5; simp at h5; omega
theorem Xz (x:Nat):(dig x).length≤sz x:=by
  induction x using Nat.strongRecOn with
  |
   _ x ih =>
   by_cases h0:x=0
   · subst h0; rw [J4]; exact K6 _
   · have h1:=Gu h0
     have h2:=ih (x / 10000) (by omega)
     have h3:sz (x / 10000)+1≤sz x:=by
       have h4:x<2^sz x:=Mm x
       rcases hs:sz x with _ | k
       · rw [hs] at h4; simp at h4; omega
       · rw [hs] at h4
         have:sz (x / 10000)≤k:=Ks.2 (by rw [Nc] at h4; omega)
         omega
     omega
theorem Wo (a b:List Nat):dv (a++b)=dv a+10000^a.length*dv b:=by
  induction a with
  | nil=>simp [dv]
  |
   cons x a ih =>
   simp only [Lm,dv,ih,qXe,Nc]
   rw [qJb,←Nat.mul_assoc,O7 10000 (10000^a.length)]; omega
theorem Ki {l:List Nat} {i x:Nat} (h:l[i]? = some x):dv (l.take (i+1))=dv (l.take i)+10000^i*x:=by
  have hi:=(Uy.1 h).1
  rw [Qmx h,Wo,Kd,Nb (by omega)]
  simp [dv]
theorem Qff:∀ {l:List Nat},Dg l→dv l<10000^l.length
  | [],_=>by simp [dv]
  |
   x::l,h=>by
   have h1:=h x (Fm ..)
   have h2:=Qff (l:=l) fun y hy=>h y (Ge _ hy)
   simp only [dv,qXe,Nc]; omega
theorem Qcw:∀ {l:List Nat},(∀ x∈l,x=0)→dv l=0
  | [],_=>rfl
  |
   x::l,h=>by
   have h1:=h x (Fm ..)
   have h2:=Qcw (l:=l) fun y hy=>h y (Ge _ hy)
   simp [dv,h1,h2]
theorem Dg.take {l:List Nat} (h:Dg l) (k:Nat):Dg (l.take k):=fun x hx=>h x (Rx hx)
theorem Dg.snoc {l:List Nat} (h:Dg l) {x:Nat} (hx:x<10000):Dg (l++[x]):=by
  intro y hy
  rcases Y7.1 hy with hy | hy
  · exact h y hy
  · rw [qZt.1 hy]; exact hx
theorem Dg.nil:Dg []:=fun x h=>by cases h
theorem Qhs:∀ {l:List Nat},Dg l→(∀ x,l[l.length-1]? = some x→x≠0)→l=dig (dv l)
  | [],_,_=>by rw [dv,J4]
  |
   x::l,h,hl=>by
   have h1:=h x (Fm ..)
   have h2:l=dig (dv l):=Qhs (fun y hy=>h y (Ge _ hy)) fun y hy=>hl y (by
     rcases l with _ | ⟨z,t⟩
     · simp at hy
     · simpa using hy)
   have h3:x+10000*dv l≠0:=by
     intro e
     have hx:x=0:=by omega
     have hd:dv l=0:=by omega
     rw [hd,J4] at h2
     subst h2
     exact hl x rfl hx
   simp only [dv]
   rw [R5 h3,show (x+10000*dv l) % 10000=x by omega,show (x+10000*dv l) / 10000=dv l by omega,←h2]
theorem Qfb {l:List Nat} {m:Nat} (hd:Dg l) (hm:m≤l.length) (h1:∀ j x,m≤j→l[j]? = some x→x=0) (h2:0<m→∃ y,l[m-1]? = some y∧y≠0):l.take m=dig (dv l):=by
  have e:dv l=dv (l.take m):=by
    conv=>lhs; rw [←Iy m l,Wo]
    rw [Qcw (l:=l.drop m) fun x hx=>?_]
    · omega
    · obtain ⟨j,hj⟩:=qZr.1 hx
      rw [qXj] at hj
      exact h1 (m+j) x (by omega) hj
  rw [e]
  refine Qhs (hd.take m) fun x hx=>?_
  have hl:(l.take m).length=m:=by rw [Kd]; omega
  rw [hl] at hx
  rcases Hl m with h0 | h0
  · subst h0; simp at hx
  · obtain ⟨y,hy,hy0⟩:=h2 h0
    rw [List.getElem?_take_of_lt (by omega),hy] at hx
    injection hx with hx; rw [←hx]; exact hy0
theorem Qam {o c i d m P V:Nat} (hP:P=10000^i) (h:o+c*P=V):o+P*((c+d*m) % 10000)+(c+d*m) / 10000*(P*10000)=V+P*d*m:=by
  have e:=qXi (c+d*m) 10000
  generalize (c+d*m) / 10000=q at *
  generalize (c+d*m) % 10000=r at *
  have e2:P*(c+d*m)=P*(10000*q+r):=by rw [e]
  grind
theorem Sf {x y:Nat} (h:x≤y):(dig x).length≤(dig y).length:=by
  induction y using Nat.strongRecOn generalizing x with
  |
   _ y ih =>
   by_cases h0:x=0
   · subst h0; rw [J4]; exact K6 _
   · have h1:=Gu h0
     have h2:=Gu (x:=y) (by omega)
     have:=ih (y / 10000) (by omega) (x:=x / 10000) (Nat.div_le_div_right h)
     omega
theorem Qlo {n x:Nat} (h:10000^n≤x):n+1≤(dig x).length:=by
  have h1:=Qff (Um x)
  rw [Ve] at h1
  have h2:n<(dig x).length:=(Nat.pow_lt_pow_iff_right (by decide)).1 (qZu h h1)
  omega
theorem Qfa {x y:Nat} (h:(dig x).length<(dig y).length):x<y:=by
  rcases Mq x y with h1 | h1
  · exact h1
  · have:=Sf h1; omega
theorem Qlp {k y:Nat} (h:y<10000^k):(dig y).length≤k:=by
  induction k generalizing y with
  |
   zero =>
   have:y=0:=by simpa using h
   subst this; rw [J4]; exact X2 _
  |
   succ k ih =>
   by_cases hy0:y=0
   · subst hy0; rw [J4]; exact K6 _
   · have h8:=Gu hy0
     have:=ih (y:=y / 10000) (by rw [Nc] at h; omega)
     omega
theorem Qns {o:List Nat} (h:Dg o) (hl:o.length≤(dig (dv o)).length):o=dig (dv o):=by
  refine Qhs h fun x hx h0=>?_
  subst h0
  have hne:0<o.length:=by
    rcases o with _ | ⟨a,o⟩
    · simp at hx
    · simp
  have h1:dv o=dv (o.take (o.length-1)):=by
    have:=Ki hx
    rw [show o.length-1+1=o.length by omega,qJu] at this
    omega
  have h2:=Qff (h.take (o.length-1))
  rw [←h1,Kd,Nb (by omega)] at h2
  have:=Qlp h2
  omega
theorem N9 {l:List Nat} {j d:Nat} (h:l[j]? = some d):dv (l.drop j)=d+10000*dv (l.drop (j+1)):=by
  obtain ⟨hj,he⟩:=Uy.1 h
  rw [qZw hj,he]; rfl
theorem Cr {l:List Nat} {j y:Nat} (h:j<l.length):(l.set j y).drop j=y::l.drop (j+1):=by
  rw [qZw (by simpa using h)]
  simp only [List.getElem_set_self]
  rw [List.drop_set_of_lt (by omega)]
theorem Dg.set {l:List Nat} (h:Dg l) {j y:Nat} (hy:y<10000):Dg (l.set j y):=by
  intro x hx
  rcases qYo hx with hx | rfl
  · exact h x hx
  · exact hy
theorem Dg.zeros (n:Nat):Dg (List.replicate n 0):=by
  intro x hx; rw [qZx hx]; decide
theorem Qfd {V kd d:Nat} (hk:0<kd):(d+10000*V) / kd=(V % kd*10000+d) / kd+10000*(V / kd)∧(d+10000*V) % kd=(V % kd*10000+d) % kd∧(d<10000→(V % kd*10000+d) / kd<10000):=by
  have e:=qXi V kd
  have e2:d+10000*V=(V % kd*10000+d)+kd*(10000*(V / kd)):=by
    conv=>lhs; rw [←e]
    grind
  refine ⟨?_,?_,fun hd=>?_⟩
  · rw [e2,Nat.add_mul_div_left _ _ hk]
  · rw [e2,Nat.add_mul_mod_self_left]
  · have:=Tv V hk
    exact (qVk hk).2 (by grind)
theorem Qcv (l:List Nat) (j:Nat) (h:j≤l.length):dv l=dv (l.take j)+10000^j*dv (l.drop j):=by
  conv=>lhs; rw [←Iy j l,Wo]
  rw [Kd,Nb h]
theorem Aq {a b:List Nat} {j d e:Nat} (ha:Dg a) (hd:a[j]? = some d) (he:b[j]? = some e) (hs:a.drop (j+1)=b.drop (j+1)) (h:d<e):dv a<dv b:=by
  have h1:=(Uy.1 hd).1
  have h2:=(Uy.1 he).1
  rw [Qcv a j (by omega),Qcv b j (by omega),N9 hd,N9 he,hs]
  have h3:=Qff (ha.take j)
  rw [Kd,Nb (by omega)] at h3
  generalize 10000^j=P at *
  have h4:P*(d+10000*dv (b.drop (j+1)))+P≤P*(e+10000*dv (b.drop (j+1))):=by
    rw [←Nat.mul_succ]; exact qXa _ (by omega)
  omega
def dl (l:List Nat):LV:=.row (l.map fun (x:Nat)=>[.int .i64 (x:Int)])
theorem Zd (l:List Nat):Vq (dl l)=some l.length:=by simp [Vq,dl]
abbrev nd (x:Nat):LV:=dl (dig x)
end Orr
