/- ArgR ArgO -/
import Derived.Test.YtoohlnnpalgnaaaGreatPart10
import Derived.Test.YtoohlnnpalgnaaaGreatPart00
set_option linter.all false
namespace Orr
open Go Go.Proofs Tryz Go.ChangeShapes Go.WideShapes Go.ChangeAt Go.RowKit Go.WideElems
set_option maxRecDepth 10000
def IV(t:TypeId)(R:TV->Prop):Prop:=∀{H:Type} {enc:TypeId×Value->H} {W:World} {base:Nat} {v:Value} {d:DataW H} {p:List MemPlace},Value.okWide prog W .any base t v->DataW.Trod enc prog W 0 (λ_=>true) true t v d p->(d.weights prog t).all (· <= reachBytes)=true->∃u,R u/\TRep W (λ_=>False) (λ_=>none) v u
section
variable{H:Type}{enc:TypeId×Value->H}{W W':World}{base:Nat}
theorem tX:∀{ps:List (TypeId×(TV->Prop))} {args:List Value} {ds:List (DataW H)} {p:List MemPlace},DataW.TrodAll enc prog W 0 (λ_=>true) true (ps.map (·.1)) args ds p ->
 (∀(j:Nat) t v,(ps.map (·.1))[j]? = some t->args[j]? = some v->Value.okWide prog W .any base t v)->(∀(j:Nat) t d,(ps.map (·.1))[j]? = some t->ds[j]? = some d->(d.weights prog t).all (· ≤ reachBytes)=true)->(∀q∈ps,IV q.1 q.2) ->
 ∃us,F2 (λu (q:TypeId×(TV->Prop))=>q.2 u) us ps/\F2 (TRep W (λ_=>False) (λ_=>none)) args us/\ds.length=ps.length
 |
  [],args,ds,p,h,_,_,_=>by
  obtain⟨rfl,rfl,rfl⟩:=trodAll_nil h;exact⟨[],.nil,.nil,rfl⟩
 |
  q::ps,args,ds,p,h,hv,hw,hr=>by
  obtain⟨v,vs,d,ds',p1,p2,rfl,rfl,rfl,h1,h2⟩:=trodAll_cons h;obtain⟨u,r1,r2⟩:=hr q (Qx ..) (hv 0 q.1 v rfl rfl) h1 (hw 0 q.1 d rfl rfl);obtain⟨us,s1,s2,s3⟩:=tX h2 (λj t v h h'=>hv (j+1) t v (by simpa using h) (by simpa using h')) (λj t d h h'=>hw (j+1) t d (by simpa using h) (by simpa using h')) λq hq=>hr q (Qg _ hq)
  exact⟨u::us,.cons r1 s1,.cons r2 s2,by simp[s3]⟩
theorem sQ{sp':Nat->Bool}(hl:laidOutB prog=true):∀{ps:List (TypeId×(TV->Prop))} {args:List Value} {ds:List (DataW H)} {p:List MemPlace},DataW.TrodAll enc prog W 0 (λ_=>true) true (ps.map (·.1)) args ds p ->
 (∀q∈ps,prog.readableRec q.1=true/\q.1<prog.types.size)->(∀x∈p,W.sameAt W' x)->(∀x∈p,sp' x.block=true)->DataW.TrodAll enc prog W' 0 sp' true (ps.map (·.1)) args ds p
 |
  [],args,ds,p,h,_,_,_=>by
  obtain⟨rfl,rfl,rfl⟩:=trodAll_nil h;exact trodAll_mk0
 |
  q::ps,args,ds,p,h,hr,hs,hb=>by
  obtain⟨v,vs,d,ds',p1,p2,rfl,rfl,rfl,h1,h2⟩:=trodAll_cons h;obtain⟨r1,r2⟩:=hr q (Qx ..);exact trodAll_cons_mk (Trod_stays hl r1 r2 h1 (λx hx=>hs x (Qr.2 (.inl hx))) λx hx=>hb x (Qr.2 (.inl hx))) (sQ hl h2 (λq hq=>hr q (Qg _ hq)) (λx hx=>hs x (Qr.2 (.inr hx))) λx hx=>hb x (Qr.2 (.inr hx)))
end
theorem Qif{ps:List (TypeId×(TV->Prop))}{f:FuncId}{fn:Func}{s:ChangeSpec}(hp:fn.params=(ps.map (·.1)).toArray)(hr:fn.resultTypes = #[4])(hv:s.vars=[])
 (hs:∀(H:Type) (ds:List (DataW H)),ds.length=ps.length->s.fn H ds={ results:=[.lit (.bool true)],args:=ds })
 (hlaid:laidOutB prog=true) (hrec:∀q∈ps,prog.readableRec q.1=true/\q.1<prog.types.size) (hrd:∀q∈ps,IV q.1 q.2)
 (law:∀us:Uv,F2 (λu (q:TypeId×(TV->Prop))=>q.2 u) us ps->AS prog f us [.one (.bool true)])
 {H:Type} {enc:TypeId×Value->H} {W:World} {base:Nat} {args:Array Value} {ds gs:List (DataW H)} {Ts:List MemPlace} {fresh handsOn:Bool}
 (hval:∀(j:Nat) t v,fn.params[j]? = some t->args[j]? = some v->Value.okWide prog W .any base t v)
 (hW:DataW.Whole enc prog fn.params.toList s.vars false W args.toList ds gs Ts)
 (hz:(DataW.weightsEach prog (fn.params.toList++s.plain.varTypes prog) (ds++gs)).all (· <= reachBytes)=true) :
 Calls prog f args W λe W'=>∃v,e=.returned v/\s.post enc prog fn false fresh handsOn false W args v W':=by
 have hW':=hW;obtain⟨p,q,hA0,hV,rfl,hfz,hnd⟩:=hW;have hA:DataW.TrodAll enc prog W 0 (λ_=>true) true fn.params.toList args.toList ds p:=hA0;rw[hv]at hV;obtain⟨rfl,rfl⟩:=trodVars_none hV;have hlt:=hW'.lt;rw[hp]at hA hval hz;have hA:DataW.TrodAll enc prog W 0 (λ_=>true) true (ps.map (·.1)) args.toList ds p:=by simpa using hA
 obtain⟨us,r1,r2,r3⟩:=tX (base:=base) hA (λj t v h h'=>hval j t v (by simpa using h) (by simpa using h')) (λj t d h h'=>by
  rw[Ju]at hz ⊢;intro k hk;have hj:j<(ps.map (·.1)).length:=(Qf.1 h).1;have hj2:j<ds.length:=(Qf.1 h').1;exact hz k (DataW.weights_mem_each (j:=j) (by rw[Zi (by simpa using hj)];simpa using h) (by rw[Zi hj2];exact h') k hk)) hrd
 have hcall:=(law us r1).2 (fr0 W) (λ_=>none) (λ_=>False) W args.toList (AH W) r2;have ea:args.toList.toArray=args:=by simp
 rw[ea]at hcall;refine hcall.mono λe W' ⟨v,u,Bo,E',M',he,⟨hu,hBo⟩,_,hm,har⟩=>?_
 subst hu;obtain rfl:v=.bool true:=by
  have h:LRep _ _ v (.bool true):=har;cases h;rfl
 refine⟨_,he,?_⟩;refine⟨ds,[],_,[],p,[],hW',?_,?_,?_,Qoy hm _,λh=>by cases h⟩
 ·rw[hr,Zv,hs H ds r3];exact trodAll_cons_mk (shut_bool underlying4 true) trodAll_mk0
 ·rw[hp,Zv,hs H ds r3];have hb:∀x∈p,x.block<W.heap.size:=λx hx=>hlt x (by simp[hx])
  have:=sQ (sp':=λb=>decide (b<W.heap.size)) hlaid hA hrec (λx hx=>Qqg hm (hb x hx)) λx hx=>by simpa using hb x hx
  simpa using this
 ·rw[hv,Zv,hs H ds r3];rfl
abbrev Qdw(u:TV):Prop:=∃n:Int,(-9223372036854775808<=n/\n<=9223372036854775807)/\u=.oi n
theorem YI:IV 3 Qdw:=λ{H enc W base v d p} hv h _=>by
 obtain⟨n,rfl,rfl,rfl,w1⟩:=open_int underlying3 hv h;exact⟨_,⟨n,by simpa[Lit.wf,IntKind.min,IntKind.max,IntKind.signed,IntKind.bits]using w1,rfl⟩,show XRep W (λ_=>False) (λ_=>none) (.int .i64 n) (.int .i64 n) from(LRep.int .i64 n).x⟩
theorem Qc8{α:Type}{rw_:α->Us}{Ok:α->Prop}{t e sz:Nat}(hu:prog.underlying t=some (.slice e))(hc:prog.cellsOf e=sz)(hsz:0<sz)(hb:1<=prog.bytesOf e)(hw:∀z,(rw_ z).length=sz)
 (elem:∀{H:Type} {enc:TypeId×Value->H} {w:World} fuel cs x,DataW.trod enc prog w 0 (λ_=>true) true fuel e cs=some x->(x.1.weights prog e).all (· ≤ reachBytes)=true->∃z,Ok z/\kF w cs (rw_ z)):IV t λu=>∃l:List α,(∀z∈l,Ok z)/\u=.one (.row (l.map rw_)):=λ{H enc W base v d p} hv h hz=>by
 obtain⟨a,len,cap,rfl⟩:=okWide_slice hu hv;obtain⟨fu,h⟩:=h;obtain⟨v,l,e0,hok,_,hrep⟩:=GK hu hc hsz hb hw (λfuel cs x h h'=>elem fuel cs x h h') h hz;have f0:Value.slice a len cap=v:=(List.cons.inj (show [Value.slice a len cap]=[v] from e0)).1;subst f0;exact⟨_,⟨l,hok,rfl⟩,show XRep W (λ_=>False) (λ_=>none) _ (.row (l.map rw_)) from hrep.x⟩
end Orr
namespace Orr
open Go Go.Proofs Tryz Go.ChangeShapes Go.WideShapes Go.ChangeAt Go.RowKit Go.WideElems
set_option maxRecDepth 10000
theorem UL{w:World}{cs cs':List Value}{ls ls':Us}(h:kF w cs ls)(h':kF w cs' ls'):kF w (cs++cs') (ls++ls'):=by
 refine⟨by simp[h.1,h'.1],λj u hu=>?_⟩;by_cases hj:j<ls.length
 ·rw[Zi hj]at hu;obtain⟨v,hv,hr⟩:=h.2 j u hu;exact⟨v,by rw[Zi (by rw[h.1];exact hj)];exact hv,hr⟩
 ·rw[Z8 (by omega)]at hu;obtain⟨v,hv,hr⟩:=h'.2 _ u hu;exact⟨v,by rw[Z8 (by rw[h.1];omega),h.1];exact hv,hr⟩
theorem jH{w:World}{n:Int}:kF w [.int .i64 n] [.int .i64 n]:=⟨rfl,λj u hu=>by
 match j,hu with
 | 0,hu=>simp at hu;subst hu;exact⟨_,rfl,.int _ _⟩
 |j+1,hu=>simp at hu⟩
section
variable{H:Type}{enc:TypeId×Value->H}{w:World}
set_option maxRecDepth 20000 in
theorem Qpj:∀fuel cs x,DataW.trod enc prog w 0 (λ_=>true) true fuel 44 cs=some x->(x.1.weights prog 44).all (· <= reachBytes)=true->∃z:RawOp,z.Ok/\kF w cs (rwo z):=by
 intro fuel cs x h hz;obtain⟨xs,n,_,rfl,hl,hxs,hf⟩:=DataW.trod_struct underlying44 h;have hl:cs.length=12:=hl
 match cs,hl with
 |
  [v0,v1,v2,v3,v4,v5,v6,v7,v8,v9,v10,v11],_ =>
  obtain⟨z0,hz0⟩:=Sp (i:=0) hxs (by decide);obtain⟨z1,hz1⟩:=Sp (i:=1) hxs (by decide);obtain⟨z2,hz2⟩:=Sp (i:=2) hxs (by decide);obtain⟨z3,hz3⟩:=Sp (i:=3) hxs (by decide);obtain⟨z4,hz4⟩:=Sp (i:=4) hxs (by decide);have h0:=hf 0 _ rfl;have h1:=hf 1 _ rfl;have h2:=hf 2 _ rfl;have h3:=hf 3 _ rfl;have h4:=hf 4 _ rfl;rw[hz0]at h0;rw[hz1]at h1;rw[hz2]at h2;rw[hz3]at h3;rw[hz4]at h4;obtain⟨k,e0,_,w0⟩:=DataW.trod_int underlying3 h0;obtain⟨m,e1,_,w1⟩:=DataW.trod_int underlying3 h1;obtain⟨d,e2,_,w2⟩:=DataW.trod_int underlying3 h2;have f0:v0=.int .i64 k:=(List.cons.inj (show [v0]=[Value.int .i64 k] from e0)).1;have f1:v1=.int .i64 m:=(List.cons.inj (show [v1]=[Value.int .i64 m] from e1)).1;have f2:v2=.int .i64 d:=(List.cons.inj (show [v2]=[Value.int .i64 d] from e2)).1;have hw3:=Mk underlying44 hz (i:=3) rfl (d:=z3.1) (by rw[Q9,hz3];rfl);have hw4:=Mk underlying44 hz (i:=4) rfl (d:=z4.1) (by rw[Q9,hz4];rfl);obtain⟨p,p1,p2⟩:=bI _ _ _ h3 hw3;have p2:kF w [v3,v4,v5,v6,v7] (rwq p):=p2;obtain⟨ys,n2,_,e5,_,hys,hg⟩:=DataW.trod_struct underlying42 h4;rw[e5]at hw4;obtain⟨y0,hy0⟩:=Sp (i:=0) hys (by decide);obtain⟨y1,hy1⟩:=Sp (i:=1) hys (by decide);have g0:=hg 0 _ rfl;have g1:=hg 1 _ rfl;rw[hy0]at g0;rw[hy1]at g1;have x0:=Mk underlying42 hw4 (i:=0) rfl (d:=y0.1) (by rw[Q9,hy0];rfl);have x1:=Mk underlying42 hw4 (i:=1) rfl (d:=y1.1) (by rw[Q9,hy1];rfl);obtain⟨t,t1,t2⟩:=XR _ _ _ g0 x0;obtain⟨u,u1,u2⟩:=XR _ _ _ g1 x1;have t2:kF w [v8,v9] (Lz t):=t2;have u2:kF w [v10,v11] (Lz u):=u2;subst f0 f1 f2;exact⟨⟨k,m,d,p,t,u⟩,⟨by simpa[Lit.wf,IntKind.min,IntKind.max,IntKind.signed,IntKind.bits]using w0,by simpa[Lit.wf,IntKind.min,IntKind.max,IntKind.signed,IntKind.bits]using w1,by simpa[Lit.wf,IntKind.min,IntKind.max,IntKind.signed,IntKind.bits]using w2,p1,t1,u1⟩,
   UL (UL (UL (UL (UL jH jH) jH) p2) t2) u2⟩
end
abbrev Qxb(u:TV):Prop:=∃l:List RawOp,(∀o∈l,o.Ok)/\u=.one (.row (qM l))
theorem Qc7:IV 70 Qxb:=Qc8 (sz:=12) (Ok:=RawOp.Ok) (rw_:=rwo) underlying70 (by kernel_rfl) (by decide) (of_decide_eq_true (by kernel_rfl)) (λ_=>rfl) λfuel cs x=>Qpj fuel cs x
end Orr
