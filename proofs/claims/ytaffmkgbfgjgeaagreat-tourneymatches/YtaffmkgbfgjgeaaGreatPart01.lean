/- Own Rows Av1 Av2 Av3 Av4 Av5 -/
import Derived.Test.YtaffmkgbfgjgeaaGreatPart00
set_option linter.all false

namespace Orr
open Go
variable {P:Program} {ops:Array Oper} {Q:Exit→Act→World→Prop}
variable {K Ob:Nat→Prop} {w0 w:World} {a:Act} {n:Nat} {L:List (Nat×Value)} {Fs:List Fact} {Bs:List Va} {rest:List Oper}
variable {d:Nat} {ty:TypeId} {pos:String} {after:Array Edge}
theorem St.adopt (h:St K Ob w0 w a n L Fs Bs) {w':World} (hg:Grow w w') {g E:Nat} {cs:List Value} (h1:w.heap.size≤g) (h2:w'.heap[g]? = some (.cells cs.toArray E (0,0))) :
    St K Ob w0 w' a n L Fs ((g,E,cs)::Bs):=by
  have hgs:g<w'.heap.size:=(qVq.1 h2).1
  have h':=h.grown hg
  refine { h' with own:=fun g' T' cs' hm=>?_,nodup:=?_,facts:=fun f hf=>?_,ownO:=fun b hb=>?_ }
  · rcases Vw.1 hm with e | hm
    · injection e with e1 e2
      injection e2 with e2 e3
      subst e1 e2 e3
      refine ⟨fun hk=>?_,hgs,h2⟩
      have:=h.base _ hk
      have:=h.wsize
      omega
    · exact h'.own g' T' cs' hm
  · refine qJp.2 ⟨fun hm=>?_,h.nodup⟩
    obtain ⟨⟨g',T',cs'⟩,hm',e⟩:=Ww.1 hm
    have e:g'=g:=e
    have:=(h.own _ _ _ hm').2.1
    omega
  · refine f.keep ⟨hg.1,fun b hb _=>hg.2 b hb,fun b hb ho=>?_⟩ (h.facts f hf)
    rcases ho with ho | ho
    · exact .inl ho
    · rcases Vw.1 ho with e | ho
      · have e:b=g:=e
        omega
      · exact .inr ho
  · rcases Vw.1 hb with e | hb
    · have e:b=g:=e
      intro hO
      have:=h.obase _ hO
      have:=h.wsize
      omega
    · exact h.ownO b hb
theorem Oe {f:FuncId} {fn:Func} {xs:List Operand} {vs:List Value} {ats:Array TypeId} {E:Nat} {Φ:Value→Nat→List Value→Prop} (h:St K Ob w0 w a n L Fs Bs)
    (hf:P.funcs[f]? = some fn) (hn:(fn.name == "runtime.NumGoroutine")=false) (hb:fn.body.isNone=false) (hx:evl L xs=some vs)
    (hc:Calls P f vs.toArray w fun e w'=>∃ r,e=.returned r∧Grow w w'∧∃ g cs,w.heap.size≤g∧w'.heap[g]? = some (.cells cs.toArray E (0,0))∧Φ r g cs) (hd:Nat.blt d n=true)
    (k:∀ r g cs w' a',Φ r g cs→St K Ob w0 w' a' n ((d,r)::L) Fs ((g,E,cs)::Bs)→wpList P ops Q rest a' w') :
    wpList P ops Q ({ dst:=some d,op:=.call { callee:=.value (.func f),args:=xs.toArray,argTypes:=ats },type:=ty,pos:=pos,after:=after,guard:=none }::rest) a w:=by
  refine wpList_plain rfl fun K' hK=>?_
  unfold Oper.wp
  have e:(execOp a.eval { dst:=some d,op:=.call { callee:=.value (.func f),args:=xs.toArray,argTypes:=ats },type:=ty,pos:=pos,after:=after,guard:=none }).run P w=.ok (.enter f vs.toArray) w:=by
    have hxs:=h.evl hx
    have he:a.eval (.func f)=.func (.func f) #[] #[]:=rfl
    simp only [execOp,resolve,he,Deferred.ofValue,hxs,Sem.run_bind,Sem.run_pure,Result.andThen_ok,invoke]
    rw [show (#[]:Array Value)++vs.toArray ++ #[]=vs.toArray from by simp]
    exact Fg w hf hn hb
  rw [e]
  simp only [Oper.upon]
  refine hc.mono fun e' w' hr=>?_
  obtain ⟨r,rfl,hg,g,cs,h1,h2,hΦ⟩:=hr
  exact hK _ _ (k r g cs w' _ hΦ ((h.adopt hg h1 h2).put r hd))
def Qjh (w w':World) (g E:Nat) (cs:List Value):Prop:=w.heap.size≤w'.heap.size∧(∀ b,b<w.heap.size→b≠g→w'.heap[b]? = w.heap[b]?)∧w'.heap[g]? = some (.cells cs.toArray E (0,0))∧(w'.os=w.os∧w'.output=w.output)
theorem St.wrote {g E:Nat} {cs cs':List Value} (h:St K Ob w0 w a n L Fs ((g,E,cs)::Bs)) {w':World} (hw:Qjh w w' g E cs'):St K Ob w0 w' a n L Fs ((g,E,cs')::Bs):=by
  obtain ⟨h1,h2,h3,hio⟩:=hw
  have hg:=h.own g E cs (Fm ..)
  refine { h with io:=⟨hio.1.trans h.io.1,hio.2.trans h.io.2⟩,wsize:=Xd h.wsize h1,grow:=fun b hb=>?_,own:=fun g' T' cs'' hm=>?_,facts:=fun f hf=>?_ ,nodup:=h.nodup,ownO:=h.ownO }
  · have hb0:=h.base b hb
    have:=h.wsize
    rw [h2 b (by omega) (fun e=>hg.1 (e ▸ hb))]
    exact h.grow b hb
  · rcases Vw.1 hm with e | hm
    · injection e with e1 e2
      injection e2 with e2 e3
      subst e1 e2 e3
      exact ⟨hg.1,qZv hg.2.1 h1,h3⟩
    · obtain ⟨q1,q2,q3⟩:=h.own g' T' cs'' (Ge _ hm)
      have hne:g'≠g:=fun e=>by
        have:=(qJp.1 h.nodup).1
        exact this (Ww.2 ⟨_,hm,e⟩)
      exact ⟨q1,qZv q2 h1,(h2 g' q2 hne).trans q3⟩
  · refine f.keep ⟨h1,fun b hb ho=>h2 b hb (fun e=>ho (.inr ?_)),fun b _ ho=>ho⟩ (h.facts f hf)
    exact Vw.2 (.inl e)
theorem Qi0 {f:FuncId} {fn:Func} {xs:List Operand} {vs:List Value} {ats:Array TypeId} {g E:Nat} {cs:List Value} {Φ:Value→List Value→Prop} (h:St K Ob w0 w a n L Fs ((g,E,cs)::Bs))
    (hf:P.funcs[f]? = some fn) (hn:(fn.name == "runtime.NumGoroutine")=false) (hb:fn.body.isNone=false) (hx:evl L xs=some vs)
    (hc:Calls P f vs.toArray w fun e w'=>∃ r,e=.returned r∧∃ cs',Qjh w w' g E cs'∧Φ r cs') (hd:Nat.blt d n=true)
    (k:∀ r cs' w' a',Φ r cs'→St K Ob w0 w' a' n ((d,r)::L) Fs ((g,E,cs')::Bs)→wpList P ops Q rest a' w') :
    wpList P ops Q ({ dst:=some d,op:=.call { callee:=.value (.func f),args:=xs.toArray,argTypes:=ats },type:=ty,pos:=pos,after:=after,guard:=none }::rest) a w:=by
  refine wpList_plain rfl fun K' hK=>?_
  unfold Oper.wp
  have e:(execOp a.eval { dst:=some d,op:=.call { callee:=.value (.func f),args:=xs.toArray,argTypes:=ats },type:=ty,pos:=pos,after:=after,guard:=none }).run P w=.ok (.enter f vs.toArray) w:=by
    have hxs:=h.evl hx
    have he:a.eval (.func f)=.func (.func f) #[] #[]:=rfl
    simp only [execOp,resolve,he,Deferred.ofValue,hxs,Sem.run_bind,Sem.run_pure,Result.andThen_ok,invoke]
    rw [show (#[]:Array Value)++vs.toArray ++ #[]=vs.toArray from by simp]
    exact Fg w hf hn hb
  rw [e]
  simp only [Oper.upon]
  refine hc.mono fun e' w' hr=>?_
  obtain ⟨r,rfl,cs',hw,hΦ⟩:=hr
  exact hK _ _ (k r cs' w' _ hΦ ((h.wrote hw).put r hd))
theorem Qnx {f:FuncId} {fn:Func} {c:Code} {vs:List Value} {R:Ending→World→Prop} {g E:Nat} {cs:List Value} (hf:P.funcs[f]? = some fn) (hb:fn.body=some c) (hn:fn.ntmps=n) (hl:Nat.ble vs.length n=true)
    (hO:∀ b,Ob b→b<w.heap.size) (hg:w.heap[g]? = some (.cells cs.toArray E (0,0))) (hgO:¬Ob g) (hfs:∀ f∈Fs,f.holds w (Q3 Ob [(g,Tag.ty E,cs)]))
    (k:∀ a,St (fun b=>b<w.heap.size∧b≠g) Ob w w a n (P9 0 vs) Fs [(g,Tag.ty E,cs)]→c.wp P (bodyPost P fn R) a w):Calls P f vs.toArray w R:=by
  have hl':=qXk hl
  refine calls_of_wp hf hb (k _ ?_)
  refine ⟨by simp [hn]; omega,rfl,fun t v hv=>?_,X2 _,fun _ _=>rfl,fun g' T' cs' hm=>?_,by simp,hfs,fun b hb=>hb.1,hO,fun b hb=>?_,rfl,rfl⟩
  · obtain ⟨_,h2⟩:=M8 0 vs t v hv
    have ht:t<vs.length:=by
      have:=(Uy.1 h2).1; simpa using this
    simp only [qYg] at h2
    rw [qVp (by simpa using ht)]
    simpa using h2
  · rw [qZt] at hm
    injection hm with e1 e2
    injection e2 with e2 e3
    subst e1 e2 e3
    exact ⟨fun h=>h.2 rfl,(qVq.1 hg).1,hg⟩
  · have e:b=g:=by simpa using hb
    subst e; exact hgO
theorem St.wroteOut {W:World} {g E:Nat} {cs:List Value} (h:St (fun b=>b<W.heap.size∧b≠g) Ob W w a n L Fs ((g,E,cs)::Bs)):Qjh W w g E cs :=
  ⟨h.wsize,fun b hb hn=>h.grow b ⟨hb,hn⟩,(h.own g E cs (Fm ..)).2.2,h.io⟩
theorem St.factOwn {B:Va} {f:Fact} (h:St K Ob w0 w a n L Fs (B::Bs)) (k:Nat) (hk:Fs[k]? = some f):f.holds w (Q3 (Q3 Ob Bs) [B]):=by
  refine f.keep ⟨X2 _,fun _ _ _=>rfl,fun b _ ho=>?_⟩ (h.facts f (Vo hk))
  rcases ho with (ho | ho) | ho
  · exact .inl ho
  · exact .inr (Ge _ ho)
  · have e:b=B.1:=by simpa using ho
    exact .inr (e ▸ Fm ..)
theorem St.ownNot {B:Va} (h:St K Ob w0 w a n L Fs (B::Bs)):¬Q3 Ob Bs B.1:=by
  rintro (ho | ho)
  · exact h.ownO B.1 (Fm ..) ho
  · exact (qJp.1 h.nodup).1 ho
theorem St.own0 {g E:Nat} {cs:List Value} (h:St K Ob w0 w a n L Fs ((g,E,cs)::Bs)):w.heap[g]? = some (.cells cs.toArray E (0,0)):=(h.own g E cs (Fm ..)).2.2
theorem St.owns_lt0 {B:Va} (h:St K Ob w0 w a n L Fs (B::Bs)):∀ b,Q3 Ob Bs b→b<w.heap.size:=fun b hb=>h.owns_lt (Bs:=B::Bs) (hb.imp id (Ge _))
theorem Pu {T:TypeId} {x y:Operand} {g i v E:Nat} {pre o post:List Nat} (h:St K Ob w0 w a n L Fs ((g,E,Y1 (pre++o++post))::Bs)) (hx:ev L x=some (.pointer (some ⟨g,pre.length+i*1,none⟩)))
    (hy:ev L y=some (.int .u32 (v:Int))) (hs:∀ w,(Go.sizeOf T).run P w=.ok 1 w) (hi:i<o.length)
    (k:∀ w',St K Ob w0 w' a n L Fs ((g,E,Y1 (pre++o.set i v++post))::Bs)→wpList P ops Q rest a w') :
    wpList P ops Q ({ dst:=none,op:=.store T x y,type:=ty,pos:=pos,after:=after,guard:=none }::rest) a w:=by
  have hx':ev L x=some (.pointer (some ⟨g,0+(pre.length+i)*1,none⟩)):=by rw [hx]; simp
  refine J1 h hx' hy hs (by simp; omega) fun w' h'=>k w' ?_
  have e:(pre++o++post).set (pre.length+i) v=pre++o.set i v++post:=by
    rw [P6,qVi _ _ (by omega),qJo,List.set_append_left _ _ hi,P6]
  rw [e] at h'
  exact h'
theorem St.cellW {g E i x:Nat} {pre o post:List Nat} (h:St K Ob w0 w a n L Fs ((g,E,Y1 (pre++o++post))::Bs)) (hx:o[i]? = some x):w.cell? ⟨g,pre.length+i*1,none⟩=some (.int .u32 (x:Int)):=by
  have hi:=(Uy.1 hx).1
  have h2:(pre++o++post)[pre.length+i]? = some x:=by
    rw [P6,qXh (by omega),qJo,qZy hi]
    exact hx
  have:=h.u32s_cell h2
  rwa [show 0+(pre.length+i)*1=pre.length+i*1 from by omega] at this
end Orr
namespace Orr
open Go
variable {P:Program} {ops:Array Oper} {Q:Exit→Act→World→Prop}
variable {K Ob:Nat→Prop} {w0 w:World} {a:Act} {n:Nat} {L:List (Nat×Value)} {Fs:List Fact} {Bs:List Va} {rest:List Oper}
variable {d:Nat} {ty:TypeId} {pos:String} {after:Array Edge}
theorem Qs6 {x y:Operand} {s k' p q:Nat} {t t':TypeId} (h:St K Ob w0 w a n L Fs Bs) (hx:ev L x=some (.int .u32 (p:Int))) (hy:ev L y=some (.int .u32 (q:Int))) (hk:q=2^s*k') (hp:p<2^s) (hp2:p<4294967296) (hq:q<4294967296) (hpq:p+q<4294967296) (hd:Nat.blt d n=true)
    (k:∀ a',St K Ob w0 w a' n ((d,.int .u32 ((p+q:Nat):Int))::L) Fs Bs→wpList P ops Q rest a' w) :
    wpList P ops Q ({ dst:=some d,op:=.binOp .or t x y t',type:=ty,pos:=pos,after:=after,guard:=none }::rest) a w :=
  Je h hd (by
    have e1:(BitVec.ofInt 32 (p:Int)).toNat=p:=by rw [qYd]; omega
    have e2:(BitVec.ofInt 32 (q:Int)).toNat=q:=by rw [qYd]; omega
    have e3:IntKind.u32.wrap ((BitVec.ofInt 32 (p:Int) ||| BitVec.ofInt 32 (q:Int)).toNat:Int)=((p+q:Nat):Int):=by
      rw [BitVec.toNat_or,e1,e2,hk,Nat.or_comm,←Nat.two_pow_add_eq_or_of_lt hp k',←hk,Nl]
      congr 1; omega
    simp only [execOp,h.ev hx,h.ev hy,eqGuard,Go.binOp,Op.intBits,Sem.run_bind,Sem.run_pure,Result.andThen_ok,ne_eq,not_true_eq_false,if_false]
    simp [Op.intBits]
    exact e3) k
theorem Qpw {T E:TypeId} {x y z:Operand} {b o m c l r sz:Nat} {kd kd':IntKind} (h:St K Ob w0 w a n L Fs Bs) (hx:ev L x=some (.slice (some ⟨b,o,none⟩) m c)) (hy:ev L y=some (.int kd (l:Int))) (hz:ev L z=some (.int kd' (r:Int)))
    (hu:∀ w,(underlying T).run P w=.ok (.slice E) w) (hs:∀ w,(Go.sizeOf E).run P w=.ok sz w) (hlr:l≤r) (hrc:r≤c) (hlc:l<c) (hd:Nat.blt d n=true)
    (k:∀ a',St K Ob w0 w a' n ((d,.slice (some ⟨b,o+l*sz,none⟩) (r-l) (c-l))::L) Fs Bs→wpList P ops Q rest a' w) :
    wpList P ops Q ({ dst:=some d,op:=.slice T x (some y) (some z) none,type:=ty,pos:=pos,after:=after,guard:=none }::rest) a w :=
  Je h hd (by
    have hne:¬(c=l):=by omega
    simp [execOp,h.ev hx,h.ev hy,h.ev hz,Instr.sliceAt,Instr.slice,Instr.sliceBounds,hu,hs,Jd _ hrc,Jd _ hlr,hne,U4]) k
theorem Qt2 {s:Nat} (h:s≤31):IntKind.i64.wrap (((s:Nat):Int).tdiv 32)=0:=by
  rw [Int.tdiv_eq_zero_of_lt (by omega) (by omega)]; rfl
theorem Qt3 {s:Nat} (h:s≤31):((s:Nat):Int).tmod 32=(s:Int):=Int.tmod_eq_of_lt (by omega) (by omega)
theorem Qpp {o l:List Nat} {i s x z:Nat} (hs:s≤31) (hx:l[i]? = some x) (hxb:x<4294967296) (hz:o[i]? = some z) (hzs:z<2^s) (hi1:i+1<o.length) (h:val (o.take (i+1))=val (l.take i)*2^s) :
    z+x*2^s % 4294967296<4294967296∧x*2^s / 2^32<2^s ∧
    val (((o.set i (z+x*2^s % 4294967296)).set (i+1) (x*2^s / 2^32 % 4294967296)).take (i+2))=val (l.take (i+1))*2^s∧x*2^s % 4294967296=2^s*(x % 2^(32-s)):=by
  have e32:(2:Nat)^32=4294967296:=by decide
  have ep:(4294967296:Nat)=2^s*2^(32-s):=by rw [←qJn,←e32]; congr 1; omega
  have hpos:0<2^s:=qXt (by decide)
  have e1:x*2^s % 4294967296=2^s*(x % 2^(32-s)):=by rw [O7 x,ep,Nat.mul_mod_mul_left]
  have hq:x*2^s / 2^32<2^s:=by
    rw [qVk (qXt (by decide)),e32,O7 (2^s)]
    exact qXx hxb hpos
  have hm:x % 2^(32-s)<2^(32-s):=Tv _ (qXt (by decide))
  have hlow:z+x*2^s % 4294967296<4294967296:=by
    rw [e1]
    have:2^s*(x % 2^(32-s)+1)≤2^s*2^(32-s):=qXa _ hm
    rw [←ep,qJb,qYp] at this
    omega
  have hs31:2^s≤4294967296:=by rw [←e32]; exact qJy (by decide) (by omega)
  refine ⟨hlow,hq,?_,e1⟩
  have t1:=Xi o i z hz
  rw [Hy _ (i+1) _ (by simpa using hi1),Hy o i _ (by omega),Xi l i x hx,qJg (qZv hq hs31),Nc]
  have e3:=qXi (x*2^s) 4294967296
  rw [e32]
  rw [t1] at h
  generalize x*2^s / 4294967296=qh at *
  generalize x*2^s % 4294967296=ql at *
  generalize (4294967296:Nat)^i=P' at *
  generalize 2^s=S at *
  clear ep e1 hq hm hlow hs31 t1 hx hz hzs e32 hpos hxb
  have e4:P'*(4294967296*qh+ql)=P'*(x*S):=by rw [e3]
  have e5:(val (l.take i)+P'*x)*S=val (l.take i)*S+P'*(x*S):=by grind
  rw [e5,←h,←e4]
  grind
theorem Qgj {o l:List Nat} {i s x y:Nat} (hs:s≤31) (hx:l[i]? = some x) (hy:l[i+1]? = some y∨(l.length≤i+1∧y=0)) (ho:i<o.length) (hb:∀ u∈l,u<4294967296) (h:val (o.take i)=val l / 2^s % 4294967296^i) :
    val ((o.set i ((x+y*2^32) / 2^s % 4294967296)).take (i+1))=val l / 2^s % 4294967296^(i+1):=by
  rw [Hy o i _ ho,h,Nat.mod_pow_succ]
  congr 1
  congr 1
  have e32:(2:Nat)^32=4294967296:=by decide
  have ep:(4294967296:Nat)=2^s*2^(32-s):=by rw [←qJn,←e32]; congr 1; omega
  have hsp:=Rv l i x hx
  obtain ⟨R,hR⟩:∃ R,val (l.drop (i+1))=y+4294967296*R:=by
    rcases hy with hy | ⟨h1,rfl⟩
    · exact ⟨_,Pd l (i+1) y hy⟩
    · exact ⟨0,by rw [Ll h1]; rfl⟩
  have ht:val (l.take i)<4294967296^i:=by
    have:=F3 (l.take i) (fun u hu=>hb u (Rx hu))
    have hi:=(Uy.1 hx).1
    rwa [Kd,Nb (by omega)] at this
  have e1:val l / 2^s / 4294967296^i=(x+4294967296*(y+4294967296*R)) / 2^s:=by
    rw [Nat.div_div_eq_div_mul,O7,←Nat.div_div_eq_div_mul,hsp,hR,Nat.add_mul_div_left _ _ (qXt (by decide)),Nat.div_eq_of_lt ht,Vl]
  rw [e1]
  have e2:x+4294967296*(y+4294967296*R)=(x+y*2^32)+2^s*(4294967296*(2^(32-s)*R)):=by
    have:2^s*(4294967296*(2^(32-s)*R))=(2^s*2^(32-s))*(4294967296*R):=by grind
    rw [this,←ep,e32]
    grind
  rw [e2,Nat.add_mul_div_left _ _ (qXt (by decide)),Nat.add_mul_mod_self_left]
end Orr
namespace Orr
theorem Qvt {x s:Nat} (hs:s≤31) (hx:x<4294967296):x*2^s<18446744073709551616:=by
  have h1:2^s≤2^31:=qJy (by decide) hs
  have h2:x*2^s≤4294967295*2^31:=qJd (by omega) h1
  have h3:4294967295*2^31<18446744073709551616:=by decide
  omega
end Orr
namespace Orr
open Go
variable {P:Program} {ops:Array Oper} {Q:Exit→Act→World→Prop}
variable {K Ob:Nat→Prop} {w0 w:World} {a:Act} {n:Nat} {L:List (Nat×Value)} {Fs:List Fact} {Bs:List Va} {rest:List Oper}
variable {d:Nat} {ty:TypeId} {pos:String} {after:Array Edge}
theorem Qvv {x y:Operand} {k' p q:Nat} {t t':TypeId} (h:St K Ob w0 w a n L Fs Bs) (hx:ev L x=some (.int .u64 (p:Int))) (hy:ev L y=some (.int .u64 (q:Int))) (hk:q=4294967296*k') (hp:p<4294967296) (hq:q<18446744073709551616) (hd:Nat.blt d n=true)
    (k:∀ a',St K Ob w0 w a' n ((d,.int .u64 ((p+q:Nat):Int))::L) Fs Bs→wpList P ops Q rest a' w) :
    wpList P ops Q ({ dst:=some d,op:=.binOp .or t x y t',type:=ty,pos:=pos,after:=after,guard:=none }::rest) a w :=
  Je h hd (by
    have e1:(BitVec.ofInt 64 (p:Int)).toNat=p:=by rw [qYd]; omega
    have e2:(BitVec.ofInt 64 (q:Int)).toNat=q:=by rw [qYd]; omega
    have e3:IntKind.u64.wrap ((BitVec.ofInt 64 (p:Int) ||| BitVec.ofInt 64 (q:Int)).toNat:Int)=((p+q:Nat):Int):=by
      rw [BitVec.toNat_or,e1,e2,hk,Nat.or_comm,Qoq hp,←hk,Nm (by omega) (by omega),qVj]
    simp only [execOp,h.ev hx,h.ev hy,eqGuard,Go.binOp,Op.intBits,Sem.run_bind,Sem.run_pure,Result.andThen_ok,ne_eq,not_true_eq_false,if_false]
    simp [Op.intBits]
    exact e3) k
theorem Ci:∀ (o r:List Nat),r.length≤o.length→upd (Y1 o) 0 (Y1 r)=Y1 (r++o.drop r.length)
  | o,[],_=>by cases o <;> simp [Y1,upd]
  | [],y::r,h=>by simp at h
  |
   x::o,y::r,h=>by
   have ih:=Ci o r (by simpa using h)
   simp only [Y1,Ln] at ih ⊢
   simp only [upd,ih,Lm,qXe,qVs,Ln]
theorem Qta (r:List Nat) (k:Nat):val (r++List.replicate k 0)=val r:=by
  rw [Uq]
  have:val (List.replicate k 0)=0:=by
    induction k with
    | zero=>rfl
    | succ k ih=>simp [qJs,val,ih]
  rw [this]; simp
theorem Qia {l:List Nat} (h:Nrm l) {k:Nat} (hv:val l<4294967296^k):l.length≤k:=by
  rcases Mq k l.length with hk | hk
  · exfalso
    obtain ⟨x,hx,hx0⟩:=h.2 (by intro e; subst e; simp at hk)
    obtain ⟨j,hj⟩:∃ j,l.length=j+1:=⟨l.length-1,by omega⟩
    rw [hj,qYz] at hx
    have e:=Xi l j x hx
    rw [Y0 (by omega)] at e
    have h1:4294967296^k≤4294967296^j:=qJy (by decide) (by omega)
    have h2:4294967296^j*1≤4294967296^j*x:=qXa _ (by omega)
    omega
  · exact hk
end Orr
namespace Orr
open Go
theorem Hi {Q:Exit→Act→World→Prop} {X:Act→World→Prop} {a:Act} {w:World} (h:Q .ret a w):Exit.then X Q .ret a w:=h
end Orr
namespace Orr
open Go
theorem Qjl {P:Program} {Q:Exit→Act→World→Prop} {a:Act} {w:World} {x:Code} {N:Act→World→Prop} (I:Act→World→Prop) (hx:x.wp P (Exit.then I Q) a w) (hy:∀ a w,I a w→N a w):x.wp P (Exit.then N Q) a w :=
  wp_mono hx fun e a w h=>by cases e <;> first | exact hy _ _ h | exact h
end Orr

namespace Orr
open Go
theorem Vf {sz:Nat}:∀ {xs:List (List Value)},(∀ c∈xs,c.length=sz)→xs.flatten.length=xs.length*sz
  | [],_=>by simp
  |
   c::xs,h=>by
   rw [qYm,Fl,h c (Fm ..),Vf (fun d hd=>h d (Ge _ hd)),qXe,qJl,qVj]
theorem Be {sz:Nat}:∀ {xs:List (List Value)},(∀ c∈xs,c.length=sz)→∀ {i j:Nat},j<sz→xs.flatten[i*sz+j]? = (xs[i]?).bind (·[j]?)
  | [],_,i,j,_=>by simp
  |
   c::xs,h,0,j,hj=>by
   have hc:=h c (Fm ..)
   rw [qYm,qZy (by omega)]
   simp
  |
   c::xs,h,i+1,j,hj=>by
   have hc:=h c (Fm ..)
   have ih:=Be (fun d hd=>h d (Ge _ hd)) (i:=i) hj
   rw [qYm,qXh (by rw [hc,qJl]; omega),qJe,←ih]
   congr 1
   rw [hc,qJl]; omega
theorem F2:∀ (a b:List Value) (k:Nat) (vs:List Value),upd (a++b) (a.length+k) vs=a++upd b k vs
  | [],b,k,vs=>by simp
  |
   u::a,b,k,vs=>by
   have ih:=F2 a b k vs
   rw [Lm,qXe,show a.length+1+k=(a.length+k)+1 from by omega]
   cases vs with
   | nil=>simp [upd]
   | cons v vs=>simp only [upd,ih,Lm]
def Rel.rows {α:Type} (R:Rel α) (xs:List (List Value)) (l:List α):Fact where
  holds:=fun w O=>xs.length=l.length∧∀ (i:Nat) x,l[i]? = some x→∃ cs,xs[i]? = some cs∧R.at_ w O cs x
  keep:=fun hle ⟨h1,h2⟩=>⟨h1,fun i x hx=>by
    obtain ⟨cs,h3,h4⟩:=h2 i x hx
    exact ⟨cs,h3,R.keep hle h4⟩⟩
section
variable {α:Type} {R:Rel α} {w:World} {O:Nat→Prop} {A:Option Addr} {m c:Nat} {l:List α}
theorem Qmr (h:R.slice.at_ w O [.slice A m c] l):m=l.length∧l.length≤c∧l.length<140737488355328∧c<9223372036854775808:=by
  obtain ⟨A',c',h1,h2,h4,h3,_⟩:=h
  simp at h1; obtain ⟨rfl,rfl,rfl⟩:=h1
  exact ⟨rfl,h2,h3,h4⟩
theorem Qpu (h:R.slice.at_ w O [.slice A m c] l) (hi:0<l.length):∃ b o,A=some ⟨b,o,none⟩∧b<w.heap.size:=by
  obtain ⟨A',c',h1,h2,h3,h4,hr⟩:=h
  simp at h1; obtain ⟨rfl,rfl,rfl⟩:=h1
  obtain ⟨b,o,hA,hlt,_⟩:=hr hi
  exact ⟨b,o,hA,hlt⟩
theorem Qiz {b o:Nat} (h:R.slice.at_ w O [.slice (some ⟨b,o,none⟩) m c] l) {i:Nat} {x:α} (hx:l[i]? = some x) :
    ∃ cs,R.at_ w O cs x∧∀ j v,cs[j]? = some v→w.cell? ⟨b,o+i*R.size+j,none⟩=some v:=by
  obtain ⟨A',c',h1,h2,h3,h4,hr⟩:=h
  simp at h1; obtain ⟨rfl,rfl,rfl⟩:=h1
  have hi:=(Uy.1 hx).1
  obtain ⟨b',o',e,_,_,hc⟩:=hr (by omega)
  injection e with e
  injection e with e1 e2
  subst e1; subst e2
  exact hc i x hx
end
section
variable {α:Type} {R:Rel α}
variable {P:Program} {ops:Array Oper} {Q:Exit→Act→World→Prop}
variable {K Ob:Nat→Prop} {w0 w:World} {a:Act} {n:Nat} {L:List (Nat×Value)} {Fs:List Fact} {Bs:List Va} {rest:List Oper}
variable {d:Nat} {ty:TypeId} {pos:String} {after:Array Edge}
theorem Qbn (m:Nat) (zs:List Value):Up m zs=(List.replicate m zs).flatten:=by
  induction m with
  | zero=>rfl
  | succ m ih=>simp [Up,ih,qJs]
end
end Orr
namespace Orr
def Y5 (l:List Int):Nat:=l.foldl (fun g z=>Nat.gcd g z.natAbs) 0
theorem Qaw {l:List Int} {i:Nat} {z:Int} (h:l[i]? = some z):Y5 (l.take (i+1))=Nat.gcd (Y5 (l.take i)) z.natAbs:=by
  unfold Y5
  rw [List.take_add_one,h]
  simp [List.foldl_append]
theorem Qrh (g x:Nat):Nat.gcd x (g % x)=Nat.gcd g x:=by
  rw [qVl g x,Nat.gcd_rec x g,qVl]
theorem O5 (l:List Int):l.foldl (fun g z=>Nat.gcd g z.natAbs) 1=1:=by
  induction l with
  | nil=>rfl
  | cons z l ih=>simp [ih]
theorem Qn3 {l:List Int} {i:Nat} (h:Y5 (l.take i)=1):Y5 l=1:=by
  have e:l=l.take i++l.drop i:=(Iy i l).symm
  unfold Y5 at h ⊢
  rw [e,List.foldl_append,h,O5]
end Orr
namespace Orr
open Go
def part {α β:Type} (f:α→β) (l:List α) (i:Nat) (z:β):List β:=(l.take i).map f++List.replicate (l.length-i) z
section
variable {α β:Type} {f:α→β} {l:List α} {i:Nat} {z:β}
end
def trim:List Int→List Int
  | []=>[]
  |
   x::l=>match trim l with
   | []=>if x=0 then [] else [x]
   | y::k=>x::y::k
theorem Nj:∀ {l:List Int},(∀ x∈l,x=0)→trim l=[]
  | [],_=>rfl
  |
   x::l,h=>by
   have ih:=Nj (l:=l) (fun y hy=>h y (Ge _ hy))
   simp [trim,ih,h x (Fm ..)]
theorem Qb1:∀ {l:List Int} {m:Nat} {y:Int},(∀ j x,m<j→l[j]? = some x→x=0)→l[m]? = some y→y≠0→trim l=l.take (m+1)
  | [],m,y,_,h,_=>by simp at h
  |
   x::l,0,y,h1,h2,h3=>by
   have h0:trim l=[]:=Nj fun z hz=>by
     obtain ⟨j,hj⟩:=qZr.1 hz
     exact h1 (j+1) z (by omega) (by simpa using hj)
   simp at h2
   subst h2
   simp [trim,h0,h3]
  |
   x::l,m+1,y,h1,h2,h3=>by
   have ih:=Qb1 (l:=l) (m:=m) (y:=y) (fun j z hj hz=>h1 (j+1) z (by omega) (by simpa using hz)) (by simpa using h2) h3
   cases hl:l with
   | nil=>subst hl; simp at h2
   |
    cons u k =>
    subst hl
    rw [qVu] at ih
    simp only [trim] at ih ⊢
    rw [ih]
    simp
def Yw (l:List Int):Prop:=trim l=l
theorem K0:∀ (l:List Int),Yw (trim l)
  | []=>rfl
  |
   x::l=>by
   have ih:=K0 l
   unfold Yw at ih ⊢
   cases h:trim l with
   | nil=>by_cases hx:x=0 <;> simp [trim,h,hx]
   |
    cons y k =>
    rw [h] at ih
    simp only [trim,h] at ih ⊢
    rw [ih]
theorem Qgt {l:List Int} {m:Nat} (hm:m≤l.length) (h1:∀ j x,m≤j→l[j]? = some x→x=0) (h2:0<m→∃ y,l[m-1]? = some y∧y≠0):trim l=l.take m:=by
  rcases Hl m with h0 | h0
  · subst h0
    rw [Nj fun z hz=>?_]; rfl
    obtain ⟨j,hj⟩:=qZr.1 hz
    exact h1 j z (by omega) hj
  · obtain ⟨y,hy,hy0⟩:=h2 h0
    have:=Qb1 (l:=l) (m:=m-1) (y:=y) (fun j x hj hx=>h1 j x (by omega) hx) hy hy0
    rwa [show m-1+1=m from by omega] at this
end Orr

namespace Orr
open Go
inductive LV where
  | int (k:IntKind) (n:Int)
  | bool (b:Bool)
  | str (s:ByteArray)
  | nilp
  | nils
  | row (l:List (List LV))
  | sh (l:List LV)
  | fn (f:Nat) (pre post:List LV)
  | ow (g off:Nat)
  | orow (r:Option (Nat×Nat)) (sz lo len:Nat)
  | oel (r:Option (Nat×Nat)) (sz i off:Nat)
  | ofn (f:Nat) (pre post:List LV)
  | frow (l:List (List LV))
  | omap (g:Nat)
  | any
inductive LRep (w:World) (O:Nat→Prop):Value→LV→Prop
  | any (v:Value) (h:Orr.one v=true):LRep w O v .any
  | int (k:IntKind) (n:Int):LRep w O (.int k n) (.int k n)
  | bool (b:Bool):LRep w O (.bool b) (.bool b)
  | str (s:ByteArray):LRep w O (.string s) (.str s)
  | nilp:LRep w O (.pointer none) .nilp
  | nils:LRep w O (.slice none 0 0) .nils
  | row (A:Option Addr) (c sz b o:Nat) (l:List (List LV)) (f:Nat→Nat→Value)
      (hc:l.length≤c) (hc63:c<2^63) (hl:l.length<2^47) (hs:∀ cs∈l,cs.length=sz)
      (hA:0<l.length→A=some ⟨b,o,none⟩∧b<w.heap.size∧¬O b)
      (hcell:∀ (i:Nat) (cs:List LV),l[i]? = some cs→∀ j,j<cs.length→w.cell? ⟨b,o+i*sz+j,none⟩=some (f i j))
      (hrep:∀ (i:Nat) (cs:List LV),l[i]? = some cs→∀ (j:Nat) (x:LV),cs[j]? = some x→LRep w O (f i j) x) :
      LRep w O (.slice A l.length c) (.row l)
  | sh (b o:Nat) (l:List LV) (f:Nat→Value) (hb:b<w.heap.size) (hO:¬O b)
      (hcell:∀ j,j<l.length→w.cell? ⟨b,o+j,none⟩=some (f j)) (hrep:∀ (j:Nat) (x:LV),l[j]? = some x→LRep w O (f j) x) :
      LRep w O (.pointer (some ⟨b,o,none⟩)) (.sh l)
  | fn (f:Nat) (pre post:List LV) (vs us:List Value) (h1:vs.length=pre.length) (h2:us.length=post.length)
      (h3:∀ (j:Nat) (v:Value) (x:LV),vs[j]? = some v→pre[j]? = some x→LRep w O v x)
      (h4:∀ (j:Nat) (v:Value) (x:LV),us[j]? = some v→post[j]? = some x→LRep w O v x) :
      LRep w O (.func (.func f) vs.toArray us.toArray) (.fn f pre post)
theorem Qad {w w':World} {O O':Nat→Prop} (hle:Le w O w' O') {b o:Nat} (hb:b<w.heap.size) (hO:¬O b):w'.cell? ⟨b,o,none⟩=w.cell? ⟨b,o,none⟩:=by
  simp only [World.cell?]
  rw [hle.2.1 b hb hO]
theorem LRep.keep {w w':World} {O O':Nat→Prop} (hle:Le w O w' O') {v:Value} {x:LV} (h:LRep w O v x):LRep w' O' v x:=by
  induction h with
  | any v h=>exact .any v h
  | int k n=>exact .int k n
  | bool b=>exact .bool b
  | str s=>exact .str s
  | nilp=>exact .nilp
  | nils=>exact .nils
  |
   row A c sz b o l f hc hc63 hl hs hA hcell hrep ih =>
   refine .row A c sz b o l f hc hc63 hl hs (fun h0=>?_) (fun i cs hi j hj=>?_) ih
   · obtain ⟨h1,h2,h3⟩:=hA h0
     exact ⟨h1,qZv h2 hle.1,fun ho=>h3 (hle.2.2 b h2 ho)⟩
   · have h0:0<l.length:=qZu (K6 _) (Uy.1 hi).1
     obtain ⟨_,h2,h3⟩:=hA h0
     rw [Qad hle h2 h3]
     exact hcell i cs hi j hj
  |
   sh b o l f hb hO hcell hrep ih =>
   refine .sh b o l f (qZv hb hle.1) (fun ho=>hO (hle.2.2 b hb ho)) (fun j hj=>?_) ih
   rw [Qad hle hb hO]
   exact hcell j hj
  | fn f pre post vs us h1 h2 h3 h4 ih1 ih2=>exact .fn f pre post vs us h1 h2 ih1 ih2
theorem LRep.one {w:World} {O:Nat→Prop} {v:Value} {x:LV} (h:LRep w O v x):Orr.one v=true:=by cases h <;> first | rfl | assumption
def YRep (w:World) (O:Nat→Prop) (v:Value):LV→Prop
  | .ow g off=>v=.pointer (some ⟨g,off,none⟩)
  | x=>LRep w O v x
def YReps (w:World) (O:Nat→Prop):List Value→List LV→Prop
  | [],[]=>True
  | v::vs,x::xs=>YRep w O v x∧YReps w O vs xs
  | _,_=>False
theorem YRep.keep {w w':World} {O O':Nat→Prop} (hle:Le w O w' O') {v:Value} {x:LV} (h:YRep w O v x):YRep w' O' v x:=by
  cases x <;> first | exact LRep.keep hle h | exact h
theorem YReps.keep {w w':World} {O O':Nat→Prop} (hle:Le w O w' O'):∀ {vs:List Value} {xs:List LV},YReps w O vs xs→YReps w' O' vs xs
  | [],[],_=>trivial
  | _::_,_::_,h=>⟨h.1.keep hle,YReps.keep hle h.2⟩
  | [],_::_,h=>h.elim
  | _::_,[],h=>h.elim
def XRep (w:World) (O:Nat→Prop) (v:Value):LV→Prop
  | .ow g off=>v=.pointer (some ⟨g,off,none⟩)
  | .orow none _ lo len=>v=.slice none 0 0∧lo=0∧len=0
  | .orow (some (g,c)) sz lo len=>lo+len≤c∧∃ a,v=.slice (some ⟨g,a,none⟩) len (c-lo)∧(lo=0∨lo<c→a=lo*sz)
  | .oel none _ _ _=>False
  | .oel (some (g,_)) sz i off=>v=.pointer (some ⟨g,i*sz+off,none⟩)
  | .ofn f pre post=>∃ vs us:List Value,v=.func (.func f) vs.toArray us.toArray∧YReps w O vs pre∧YReps w O us post
  | .frow l=>LRep w O v (.row l)∧∃ A,v=.slice A l.length l.length
  | .omap g=>v=.map (some g)
  | x=>LRep w O v x
def LV.free:LV→Bool
  | .ow _ _=>false
  | .orow _ _ _ _=>false
  | .oel _ _ _ _=>false
  | .ofn _ _ _=>false
  | .frow _=>false
  | .omap _=>false
  | _=>true
theorem XRep.free {w:World} {O:Nat→Prop} {v:Value} {x:LV} (h:XRep w O v x) (hx:x.free=true):LRep w O v x:=by
  cases x <;> first | exact h | cases hx
theorem LRep.x {w:World} {O:Nat→Prop} {v:Value} {x:LV} (h:LRep w O v x):XRep w O v x:=by
  cases x <;> first | exact h | cases h
theorem XRep.keep {w w':World} {O O':Nat→Prop} (hle:Le w O w' O') {v:Value} {x:LV} (h:XRep w O v x):XRep w' O' v x:=by
  cases x <;> first | exact LRep.keep hle h | skip
  · exact h
  · rename_i r _ _ _; rcases r with _ | ⟨g,c⟩ <;> exact h
  · rename_i r _ _ _; rcases r with _ | ⟨g,c⟩ <;> exact h
  · obtain ⟨vs,us,e,h1,h2⟩:=h; exact ⟨vs,us,e,h1.keep hle,h2.keep hle⟩
  · exact ⟨LRep.keep hle h.1,h.2⟩
  · exact h
theorem XRep.one {w:World} {O:Nat→Prop} {v:Value} {x:LV} (h:XRep w O v x):Orr.one v=true:=by
  cases x <;> first | exact LRep.one h | skip
  · rw [show v=_ from h]; rfl
  · rename_i r _ _ _; rcases r with _ | ⟨g,c⟩
    · rw [h.1]; rfl
    · obtain ⟨_,a,e,_⟩:=h; rw [e]; rfl
  · rename_i r _ _ _; rcases r with _ | ⟨g,c⟩
    · exact h.elim
    · rw [show v=_ from h]; rfl
  · obtain ⟨vs,us,e,_⟩:=h; rw [e]; rfl
  · exact LRep.one h.1
  · rw [show v=_ from h]; rfl
def XReps (w:World) (O:Nat→Prop):List Value→List LV→Prop
  | [],[]=>True
  | v::vs,x::xs=>XRep w O v x∧XReps w O vs xs
  | _,_=>False
section
variable {w w':World} {O O':Nat→Prop}
theorem XReps.keep (hle:Le w O w' O'):∀ {vs:List Value} {xs:List LV},XReps w O vs xs→XReps w' O' vs xs
  | [],[],_=>trivial
  | v::vs,x::xs,h=>⟨h.1.keep hle,XReps.keep hle h.2⟩
  | [],_::_,h=>h.elim
  | _::_,[],h=>h.elim
theorem XReps.len:∀ {vs:List Value} {xs:List LV},XReps w O vs xs→vs.length=xs.length
  | [],[],_=>rfl
  | v::vs,x::xs,h=>by simp [h.2.len]
  | [],_::_,h=>h.elim
  | _::_,[],h=>h.elim
theorem XReps.get:∀ {vs:List Value} {xs:List LV},XReps w O vs xs→∀ {j:Nat} {x:LV},xs[j]? = some x→∃ v,vs[j]? = some v∧XRep w O v x
  | [],[],_,j,x,hx=>by simp at hx
  | v::vs,x::xs,h,0,y,hy=>by simp at hy; subst hy; exact ⟨v,rfl,h.1⟩
  | v::vs,x::xs,h,j+1,y,hy=>by simpa using h.2.get (j:=j) (by simpa using hy)
  | [],_::_,h,_,_,_=>h.elim
  | _::_,[],h,_,_,_=>h.elim
theorem XReps.get':∀ {vs:List Value} {xs:List LV},XReps w O vs xs→∀ {j:Nat} {x:LV} {v:Value},vs[j]? = some v→xs[j]? = some x→XRep w O v x
  |
   vs,xs,h,j,x,v,hv,hx=>by
   obtain ⟨u,hu,hr⟩:=h.get hx
   rw [hv] at hu; injection hu with hu; subst hu; exact hr
theorem XReps.of:∀ {vs:List Value} {xs:List LV},vs.length=xs.length→(∀ (j:Nat) (v:Value) (x:LV),vs[j]? = some v→xs[j]? = some x→XRep w O v x)→XReps w O vs xs
  | [],[],_,_=>trivial
  | v::vs,x::xs,hl,h=>⟨h 0 v x rfl rfl,XReps.of (by simpa using hl) fun j u y hu hy=>h (j+1) u y (by simpa using hu) (by simpa using hy)⟩
  | [],_::_,h,_=>by simp at h
  | _::_,[],h,_=>by simp at h
theorem XReps.append:∀ {vs us:List Value} {xs ys:List LV},XReps w O vs xs→XReps w O us ys→XReps w O (vs++us) (xs++ys)
  | [],_,[],_,_,h=>h
  | v::vs,_,x::xs,_,h,h'=>⟨h.1,h.2.append h'⟩
  | [],_,_::_,_,h,_=>h.elim
  | _::_,_,[],_,h,_=>h.elim
theorem XReps.drop:∀ {vs:List Value} {xs:List LV} (k:Nat),XReps w O vs xs→XReps w O (vs.drop k) (xs.drop k)
  | _,_,0,h=>by simpa using h
  | [],[],_+1,_=>trivial
  | v::vs,x::xs,k+1,h=>by simpa using XReps.drop k h.2
  | [],_::_,_+1,h=>h.elim
  | _::_,[],_+1,h=>h.elim
theorem XReps.take:∀ {vs:List Value} {xs:List LV} (k:Nat),XReps w O vs xs→XReps w O (vs.take k) (xs.take k)
  | _,_,0,_=>by simp [XReps]
  | [],[],_+1,_=>trivial
  | v::vs,x::xs,k+1,h=>⟨h.1,XReps.take k h.2⟩
  | [],_::_,_+1,h=>h.elim
  | _::_,[],_+1,h=>h.elim
theorem XReps.one:∀ {vs:List Value} {xs:List LV},XReps w O vs xs→∀ u∈vs,Orr.one u=true
  | [],_,_,u,hu=>by cases hu
  |
   v::vs,x::xs,h,u,hu=>by
   rcases Vw.1 hu with rfl | hu
   · exact h.1.one
   · exact h.2.one u hu
  | _::_,[],h,_,_=>h.elim
end
def P8:List LV→Nat→List LV→List LV
  | l,_,[]=>l
  | [],_,_::_=>[]
  | _::l,0,v::vs=>v::P8 l 0 vs
  | u::l,i+1,vs=>u::P8 l i vs
theorem Qfp (cs:List LV) (off:Nat) (vs:List LV):(P8 cs off vs).length=cs.length:=by
  induction cs generalizing off vs with
  | nil=>cases vs <;> simp [P8]
  |
   cons c cs ih =>
   cases vs with
   | nil=>simp [P8]
   | cons v vs=>cases off <;> simp [P8,ih]
theorem XReps.upd {w:World} {O:Nat→Prop}:∀ {cs:List Value} {xs:List LV} {vs:List Value} {ys:List LV} (off:Nat),XReps w O cs xs→XReps w O vs ys→XReps w O (upd cs off vs) (P8 xs off ys)
  | cs,xs,[],[],off,h,_=>by cases cs <;> cases xs <;> first | exact h | (simp [XReps] at h)
  | [],[],v::vs,y::ys,off,h,_=>by simp [Orr.upd,P8,XReps]
  | c::cs,x::xs,v::vs,y::ys,0,h,h'=>⟨h'.1,XReps.upd 0 h.2 h'.2⟩
  | c::cs,x::xs,v::vs,y::ys,off+1,h,h'=>⟨h.1,XReps.upd off h.2 h'⟩
  | [],_::_,_,_,_,h,_=>h.elim
  | _::_,[],_,_,_,h,_=>h.elim
  | _,_,[],_::_,_,_,h=>h.elim
  | _,_,_::_,[],_,_,h=>h.elim
inductive AV where
  | one (x:LV)
  | agg (xs:List LV)
  | tup (l:List AV)
  | un
def TRep (w:World) (O:Nat→Prop) (v:Value):AV→Prop
  | .one x=>XRep w O v x
  | .agg xs=>∃ vs:List Value,v=.agg vs.toArray∧XReps w O vs xs
  | _=>False
def TReps (w:World) (O:Nat→Prop):List Value→List AV→Prop
  | [],[]=>True
  | v::vs,x::xs=>TRep w O v x∧TReps w O vs xs
  | _,_=>False
def ARep (w:World) (O:Nat→Prop) (v:Value):AV→Prop
  | .tup l=>∃ vs:List Value,v=.tuple vs.toArray∧TReps w O vs l
  | .un=>True
  | x=>TRep w O v x
section
variable {w w':World} {O O':Nat→Prop}
theorem TRep.keep (hle:Le w O w' O') {v:Value} {x:AV} (h:TRep w O v x):TRep w' O' v x:=by
  cases x with
  | one x=>exact XRep.keep hle h
  | agg xs=>obtain ⟨vs,e,h⟩:=h; exact ⟨vs,e,h.keep hle⟩
  | tup l=>exact h.elim
  | un=>exact h.elim
theorem TRep.a {v:Value} {x:AV} (h:TRep w O v x):ARep w O v x:=by cases x <;> first | exact h | exact h.elim
theorem TReps.keep (hle:Le w O w' O'):∀ {vs:List Value} {xs:List AV},TReps w O vs xs→TReps w' O' vs xs
  | [],[],_=>trivial
  | v::vs,x::xs,h=>⟨h.1.keep hle,TReps.keep hle h.2⟩
  | [],_::_,h=>h.elim
  | _::_,[],h=>h.elim
theorem ARep.keep (hle:Le w O w' O') {v:Value} {x:AV} (h:ARep w O v x):ARep w' O' v x:=by
  cases x with
  | one x=>exact TRep.keep (x:=.one x) hle h
  | agg xs=>exact TRep.keep (x:=.agg xs) hle h
  | tup l=>obtain ⟨vs,e,h⟩:=h; exact ⟨vs,e,h.keep hle⟩
  | un=>trivial
theorem TReps.len:∀ {vs:List Value} {xs:List AV},TReps w O vs xs→vs.length=xs.length
  | [],[],_=>rfl
  | v::vs,x::xs,h=>by simp [h.2.len]
  | [],_::_,h=>h.elim
  | _::_,[],h=>h.elim
theorem TReps.get:∀ {vs:List Value} {xs:List AV},TReps w O vs xs→∀ {j:Nat} {x:AV},xs[j]? = some x→∃ v,vs[j]? = some v∧TRep w O v x
  | [],[],_,j,x,hx=>by simp at hx
  | v::vs,x::xs,h,0,y,hy=>by simp at hy; subst hy; exact ⟨v,rfl,h.1⟩
  | v::vs,x::xs,h,j+1,y,hy=>by simpa using h.2.get (j:=j) (by simpa using hy)
  | [],_::_,h,_,_,_=>h.elim
  | _::_,[],h,_,_,_=>h.elim
end
inductive OB where
  | blk (g:Nat) (T:TypeId) (xs:List LV)
  | row (r:Option (Nat×Nat)) (E sz:Nat) (ls:List (List LV))
  | mpb (g:Nat) (es:List (List Int×LV))
def Qxk:LV→Value
  | .int k n=>.int k n
  | .bool b=>.bool b
  | _=>undef
def Que (es:List (List Int×LV)):List (Value×Value):=es.map fun e=>(.agg (e.1.map (Value.int .i64)).toArray,Qxk e.2)
def RReps (w:World) (O:Nat→Prop):List (List Value)→List (List LV)→Prop
  | [],[]=>True
  | v::vs,x::xs=>XReps w O v x∧RReps w O vs xs
  | _,_=>False
def OBRep (w:World) (O:Nat→Prop):OB→List Va→Prop
  | .blk g T xs,Bo=>∃ cs,Bo=[(g,Tag.ty T,cs)]∧XReps w O cs xs
  | .row none _ sz ls,Bo=>0<sz∧ls=[]∧Bo=[]
  | .row (some (g,c)) E sz ls,Bo=>0<sz∧(∀ c∈ls,c.length=sz)∧(∀ c∈ls,∀ x∈c,x.free=true)∧∃ (vss:List (List Value)) (ex:List Value),RReps w O vss ls∧Bo=[(g,Tag.ty E,vss.flatten++ex)]∧(vss.flatten++ex).length=c*sz∧ls.length≤c∧c<2^63
  | .mpb g es,Bo=>(∀ e∈es,e.1.length=3)∧∃ ents ck,Bo=[(g,Tag.mp ents ck,[])]∧ents.map (fun e=>(e.key,e.val))=Que es
def BsRep (w:World) (O:Nat→Prop):List OB→List Va→Prop
  | [],Bs=>Bs=[]
  | b::B,Bs=>∃ Bo Bs',Bs=Bo++Bs'∧OBRep w O b Bo∧BsRep w O B Bs'
section
variable {w w':World} {O O':Nat→Prop}
theorem RReps.keep (hle:Le w O w' O'):∀ {vs:List (List Value)} {xs:List (List LV)},RReps w O vs xs→RReps w' O' vs xs
  | [],[],_=>trivial
  | v::vs,x::xs,h=>⟨h.1.keep hle,RReps.keep hle h.2⟩
  | [],_::_,h=>h.elim
  | _::_,[],h=>h.elim
theorem RReps.len:∀ {vs:List (List Value)} {xs:List (List LV)},RReps w O vs xs→vs.length=xs.length
  | [],[],_=>rfl
  | v::vs,x::xs,h=>by simp [h.2.len]
  | [],_::_,h=>h.elim
  | _::_,[],h=>h.elim
theorem RReps.get:∀ {vs:List (List Value)} {xs:List (List LV)},RReps w O vs xs→∀ {j:Nat} {x:List LV},xs[j]? = some x→∃ v,vs[j]? = some v∧XReps w O v x
  | [],[],_,j,x,hx=>by simp at hx
  | v::vs,x::xs,h,0,y,hy=>by simp at hy; subst hy; exact ⟨v,rfl,h.1⟩
  | v::vs,x::xs,h,j+1,y,hy=>by simpa using h.2.get (j:=j) (by simpa using hy)
  | [],_::_,h,_,_,_=>h.elim
  | _::_,[],h,_,_,_=>h.elim
theorem RReps.of:∀ {vs:List (List Value)} {xs:List (List LV)},vs.length=xs.length→(∀ (j:Nat) (v:List Value) (x:List LV),vs[j]? = some v→xs[j]? = some x→XReps w O v x)→RReps w O vs xs
  | [],[],_,_=>trivial
  | v::vs,x::xs,hl,h=>⟨h 0 v x rfl rfl,RReps.of (by simpa using hl) fun j u y hu hy=>h (j+1) u y (by simpa using hu) (by simpa using hy)⟩
  | [],_::_,h,_=>by simp at h
  | _::_,[],h,_=>by simp at h
theorem RReps.get' {vs:List (List Value)} {xs:List (List LV)} (h:RReps w O vs xs) {j:Nat} {x:List LV} {v:List Value} (hv:vs[j]? = some v) (hx:xs[j]? = some x):XReps w O v x:=by
  obtain ⟨u,hu,hr⟩:=h.get hx
  rw [hv] at hu; injection hu with hu; subst hu; exact hr
theorem RReps.append:∀ {vs us:List (List Value)} {xs ys:List (List LV)},RReps w O vs xs→RReps w O us ys→RReps w O (vs++us) (xs++ys)
  | [],_,[],_,_,h=>h
  | v::vs,_,x::xs,_,h,h'=>⟨h.1,h.2.append h'⟩
  | [],_,_::_,_,h,_=>h.elim
  | _::_,_,[],_,h,_=>h.elim
theorem RReps.all {sz:Nat} {vs:List (List Value)} {xs:List (List LV)} (h:RReps w O vs xs) (hx:∀ c∈xs,c.length=sz):∀ c∈vs,c.length=sz:=by
  intro c hc
  obtain ⟨j,hj⟩:=qZr.1 hc
  have hl:=(Uy.1 hj).1
  rw [h.len] at hl
  have:=(h.get' hj (Xx hl)).len
  rw [this]; exact hx _ (qJa hl)
theorem OBRep.keep (hle:Le w O w' O') {b:OB} {Bo:List Va} (h:OBRep w O b Bo):OBRep w' O' b Bo:=by
  cases b with
  | blk g T xs=>obtain ⟨cs,e,h⟩:=h; exact ⟨cs,e,h.keep hle⟩
  |
   row r E sz ls =>
   rcases r with _ | ⟨g,c⟩
   · exact h
   · obtain ⟨h1,h2,h2',vss,ex,h3,h4⟩:=h
     exact ⟨h1,h2,h2',vss,ex,h3.keep hle,h4⟩
  | mpb g es=>exact h
theorem BsRep.keep (hle:Le w O w' O'):∀ {B:List OB} {Bs:List Va},BsRep w O B Bs→BsRep w' O' B Bs
  | [],_,h=>h
  |
   b::B,Bs,h=>by
   obtain ⟨Bo,Bs',e,h1,h2⟩:=h
   exact ⟨Bo,Bs',e,h1.keep hle,h2.keep hle⟩
theorem BsRep.front:∀ {B:List OB} {Bs:List Va} {i:Nat} {b:OB},BsRep w O B Bs→B[i]? = some b→∃ Bo Bs',Bs.Perm (Bo++Bs')∧OBRep w O b Bo∧BsRep w O (B.eraseIdx i) Bs'
  | [],_,i,b,_,hi=>by simp at hi
  |
   x::B,Bs,0,b,h,hi=>by
   simp at hi; subst hi
   obtain ⟨Bo,Bs',e,h1,h2⟩:=h
   exact ⟨Bo,Bs',e ▸ .refl _,h1,h2⟩
  |
   x::B,Bs,i+1,b,h,hi=>by
   obtain ⟨Bx,Bs1,e,h1,h2⟩:=h
   obtain ⟨Bo,Bs',hp,h3,h4⟩:=h2.front (i:=i) (by simpa using hi)
   refine ⟨Bo,Bx++Bs',?_,h3,⟨Bx,Bs',rfl,h1,h4⟩⟩
   subst e
   refine (hp.append_left Bx).trans ?_
   rw [←P6,←P6]
   exact List.perm_append_comm.append_right _
end
def lk:List (Nat×AV)→Nat→Option AV
  | [],_=>none
  |
   (t,v)::l,s=>match Nat.beq s t with
   | true=>some v
   | false=>lk l s
def SA (K Ob:Nat→Prop) (w0 w:World) (a:Act) (n:Nat) (L:List (Nat×AV)) (B:List OB):Prop :=
  ∃ L' Bs,St K Ob w0 w a n L' [] Bs∧(∀ t x,lk L t=some x→∃ v,Z0 L' t=some v∧ARep w (Q3 Ob Bs) v x)∧BsRep w (Q3 Ob Bs) B Bs
def cst:Value→Option AV
  | .int k n=>some (.one (.int k n))
  | .bool b=>some (.one (.bool b))
  | .string s=>some (.one (.str s))
  | .pointer none=>some (.one .nilp)
  | .slice none 0 0=>some (.one .nils)
  | _=>none
def J3 (L:List (Nat×AV)):Operand→Option AV
  | .tmp t=>lk L t
  | .const v=>cst v
  | .func f=>some (.one (.fn f [] []))
  | .global _=>none
def Cu (L:List (Nat×AV)):List Operand→Option (List AV)
  | []=>some []
  |
   x::r=>match J3 L x with
   | none=>none
   |
    some v=>match Cu L r with
    | none=>none
    | some vs=>some (v::vs)
def O4 (L:List (Nat×AV)):List (Nat×Operand)→Option (List (Nat×AV))
  | []=>some []
  |
   (i,x)::r=>match J3 L x with
   | none=>none
   |
    some v=>match O4 L r with
    | none=>none
    | some vs=>some ((i,v)::vs)
theorem Lw {w:World} {O:Nat→Prop} {v:Value} {x:AV} (h:cst v=some x):ARep w O v x:=by
  unfold cst at h
  split at h <;> first | cases h | (injection h with h; subst h)
  · exact LRep.int _ _
  · exact LRep.bool _
  · exact LRep.str _
  · exact LRep.nilp
  · exact LRep.nils
section
variable {K Ob:Nat→Prop} {w0 w:World} {a:Act} {n:Nat} {L:List (Nat×AV)} {B:List OB} {L':List (Nat×Value)} {Bs:List Va} {O:Nat→Prop}
theorem Zt (hL:∀ t x,lk L t=some x→∃ v,Z0 L' t=some v∧ARep w O v x) {x:Operand} {u:AV} (h:J3 L x=some u):∃ v,ev L' x=some v∧ARep w O v u:=by
  cases x with
  | tmp t=>exact hL t u h
  | const v=>exact ⟨v,rfl,Lw h⟩
  |
   func f =>
   simp only [J3,Option.some.injEq] at h
   subst h
   exact ⟨_,rfl,LRep.fn f [] [] [] [] rfl rfl (fun j v x h=>by simp at h) (fun j v x h=>by simp at h)⟩
  | global g=>cases h
theorem Cv (hL:∀ t x,lk L t=some x→∃ v,Z0 L' t=some v∧ARep w O v x):∀ {xs:List Operand} {us:List AV},Cu L xs=some us→∃ vs,evl L' xs=some vs∧vs.length=us.length∧∀ (j:Nat) (v:Value) (u:AV),vs[j]? = some v→us[j]? = some u→ARep w O v u
  | [],us,h=>by simp [Cu] at h; subst h; exact ⟨[],rfl,rfl,fun j v u hv=>by simp at hv⟩
  |
   x::r,us,h=>by
   simp only [Cu] at h
   split at h
   · cases h
   · rename_i u hx
     split at h
     · cases h
     · rename_i us' hr
       injection h with h; subst h
       obtain ⟨v,h1,h2⟩:=Zt hL hx
       obtain ⟨vs,h3,h4,h5⟩:=Cv hL hr
       refine ⟨v::vs,by simp [evl,h1,h3],by simp [h4],fun j y z hy hz=>?_⟩
       cases j with
       | zero=>simp at hy hz; subst hy; subst hz; exact h2
       | succ j=>exact h5 j y z (by simpa using hy) (by simpa using hz)
theorem Ax (hL:∀ t x,lk L t=some x→∃ v,Z0 L' t=some v∧ARep w O v x):∀ {xs:List (Nat×Operand)} {us:List (Nat×AV)},O4 L xs=some us→∃ vs,evp L' xs=some vs∧vs.length=us.length∧∀ (j:Nat) (v:Nat×Value) (u:Nat×AV),vs[j]? = some v→us[j]? = some u→v.1=u.1∧ARep w O v.2 u.2
  | [],us,h=>by simp [O4] at h; subst h; exact ⟨[],rfl,rfl,fun j v u hv=>by simp at hv⟩
  |
   (i,x)::r,us,h=>by
   simp only [O4] at h
   split at h
   · cases h
   · rename_i u hx
     split at h
     · cases h
     · rename_i us' hr
       injection h with h; subst h
       obtain ⟨v,h1,h2⟩:=Zt hL hx
       obtain ⟨vs,h3,h4,h5⟩:=Ax hL hr
       refine ⟨(i,v)::vs,by simp [evp,h1,h3],by simp [h4],fun j y z hy hz=>?_⟩
       cases j with
       | zero=>simp at hy hz; subst hy; subst hz; exact ⟨rfl,h2⟩
       | succ j=>exact h5 j y z (by simpa using hy) (by simpa using hz)
theorem Gk {d:Nat} {v:Value} {u:AV} (hL:∀ t x,lk L t=some x→∃ v,Z0 L' t=some v∧ARep w O v x) (hv:ARep w O v u):∀ t x,lk ((d,u)::L) t=some x→∃ y,Z0 ((d,v)::L') t=some y∧ARep w O y x:=by
  intro t x hx
  simp only [lk] at hx
  simp only [Z0]
  cases e:Nat.beq t d <;> rw [e] at hx
  · exact hL t x hx
  · injection hx with hx; subst hx; exact ⟨v,rfl,hv⟩
theorem Fd {w':World} {O':Nat→Prop} (hle:Le w O w' O') (hL:∀ t x,lk L t=some x→∃ v,Z0 L' t=some v∧ARep w O v x):∀ t x,lk L t=some x→∃ v,Z0 L' t=some v∧ARep w' O' v x:=fun t x hx=>by
  obtain ⟨v,h1,h2⟩:=hL t x hx
  exact ⟨v,h1,h2.keep hle⟩
end
def Ir (L:List (Nat×AV)):List Nat→Option (List (Nat×AV))
  | []=>some []
  |
   t::ts=>match lk L t with
   | none=>none
   |
    some v=>match Ir L ts with
    | none=>none
    | some l=>some ((t,v)::l)
theorem Qj1 {L:List (Nat×AV)}:∀ {ts:List Nat} {L2:List (Nat×AV)},Ir L ts=some L2→∀ {t x},lk L2 t=some x→lk L t=some x
  | [],L2,h,t,x,hx=>by simp [Ir] at h; subst h; simp [lk] at hx
  |
   s::ts,L2,h,t,x,hx=>by
   simp only [Ir] at h
   split at h
   · cases h
   · rename_i v hv
     split at h
     · cases h
     · rename_i l hl
       injection h with h; subst h
       simp only [lk] at hx
       split at hx
       · rename_i e
         have e:t=s:=Fj e
         injection hx with hx
         subst hx; subst e; exact hv
       · exact Qj1 hl hx
theorem SA.pick {K Ob:Nat→Prop} {w0 w:World} {a:Act} {n:Nat} {L L2:List (Nat×AV)} {B:List OB} (h:SA K Ob w0 w a n L B) {ts:List Nat} (ht:Ir L ts=some L2):SA K Ob w0 w a n L2 B:=by
  obtain ⟨L',Bs,h1,h2,h3⟩:=h
  exact ⟨L',Bs,h1,fun t x hx=>h2 t x (Qj1 ht hx),h3⟩
abbrev Sg:=List (Nat×AV)
def Q0a (K Ob:Nat→Prop) (w0:World) (n:Nat) (Q:Exit→Sg→List OB→Prop):Exit→Act→World→Prop:=fun e a w=>∃ L B,SA K Ob w0 w a n L B∧Q e L B
def AC (P:Program) (n:Nat) (c:Code) (Q:Exit→Sg→List OB→Prop) (L:Sg) (B:List OB):Prop :=
  ∀ K Ob w0 w a,SA K Ob w0 w a n L B→c.wp P (Q0a K Ob w0 n Q) a w
def AW (P:Program) (ops:Array Oper) (n:Nat) (rest:List Oper) (N:Sg→List OB→Prop) (L:Sg) (B:List OB):Prop :=
  ∀ K Ob w0 w a (Q:Exit→Act→World→Prop),SA K Ob w0 w a n L B→(∀ a' w',(∃ L' B',SA K Ob w0 w' a' n L' B'∧N L' B')→Q .normal a' w')→wpList P ops Q rest a w
end Orr

namespace Orr
open Go
variable {P:Program} {ops:Array Oper} {n:Nat} {rest:List Oper} {N:Sg→List OB→Prop} {L:Sg} {B:List OB}
variable {d:Nat} {ty:TypeId} {pos:String} {after:Array Edge}
theorem Xn {w:World} {O:Nat→Prop} {v:Value} {k:IntKind} {p:Int} (h:ARep w O v (.one (.int k p))):v=.int k p:=by
  have h:LRep w O v (.int k p):=h
  cases h; rfl
theorem Kq {w:World} {O:Nat→Prop} {v:Value} {b:Bool} (h:ARep w O v (.one (.bool b))):v=.bool b:=by
  have h:LRep w O v (.bool b):=h
  cases h; rfl
theorem Qpb {w:World} {O:Nat→Prop} {v:Value} {l:List LV} (h:ARep w O v (.one (.sh l))):LRep w O v (.sh l):=h
def SF (L:Sg) (L':List (Nat×Value)) (B:List OB) (Bs:List Va) (cs:List Value) (xs:List LV):Fact :=
  ⟨fun w O=>(∀ t x,lk L t=some x→∃ v,Z0 L' t=some v∧ARep w O v x)∧BsRep w O B Bs∧XReps w O cs xs,fun hle h=>⟨Fd hle h.1,h.2.1.keep hle,h.2.2.keep hle⟩⟩
def AP (P:Program) (ops:Array Oper) (n:Nat) (o:Oper) (d:Nat) (u:AV) (L:Sg) (B:List OB):Prop :=
  ∀ (K Ob:Nat→Prop) (w0 w:World) (a:Act) (Bs:List Va) (L':List (Nat×Value)) (Fs:List Fact),St K Ob w0 w a n L' Fs Bs →
    (∀ t x,lk L t=some x→∃ v,Z0 L' t=some v∧ARep w (Q3 Ob Bs) v x)→BsRep w (Q3 Ob Bs) B Bs →
    wpList P ops (fun e a' w'=>e=.normal∧∃ v,St K Ob w0 w' a' n ((d,v)::L') Fs Bs∧ARep w' (Q3 Ob Bs) v u) [o] a w
theorem Wt {P:Program} {ops:Array Oper} {o:Oper} {rest:List Oper} {a:Act} {w:World} {R:Act→World→Prop} {Q:Exit→Act→World→Prop} (hd:a.defers=[]) (hR:∀ a w,R a w→a.defers=[])
    (h:wpList P ops (fun e a w=>e=.normal∧R a w) [o] a w) (hk:∀ a w,R a w→wpList P ops Q rest a w):wpList P ops Q (o::rest) a w:=by
  unfold wpList at h ⊢
  split
  · rename_i hw
    rw [if_pos hw] at h
    have hno:¬LetsOut fun e a w=>e=Exit.normal∧R a w:=fun ⟨a,w,h1⟩=>by cases h1.1
    replace h:=h.resolve_right fun h2=>hno h2.2
    refine .inl (Qec hd (fun a' w' h1=>?_) (fun c a w h1=>by cases h1.1) hno h)
    have h1:R a' w':=by
      unfold wpList at h1
      exact h1.2
    exact ⟨hR _ _ h1,fun _=>hk _ _ h1⟩
  · rename_i hw
    rw [if_neg hw] at h
    unfold wpList at h
    exact hk _ _ h.2
theorem w_ {o:Oper} {u:AV} (hp:AP P ops n o d u L B) (k:AW P ops n rest N ((d,u)::L) B):AW P ops n (o::rest) N L B:=by
  rintro K Ob w0 w a Q ⟨L',Bs,h,hL,hB⟩ hQ
  have h2:=h.add (f:=SF L L' B Bs [] []) ⟨hL,hB,trivial⟩
  refine Wt h.defers (R:=fun a' w'=>∃ v,St K Ob w0 w' a' n ((d,v)::L') [SF L L' B Bs [] []] Bs∧ARep w' (Q3 Ob Bs) v u) (fun a w ⟨v,h,_⟩=>h.defers) (hp K Ob w0 w a Bs L' _ h2 hL hB) fun a' w' ⟨v,h',hr⟩=>?_
  obtain ⟨h3,h4,_⟩:=h'.fact 0 rfl
  exact k _ _ _ _ _ _ ⟨_,_,h'.noFacts,Gk h3 hr,h4⟩ hQ
theorem Qo (k:N L B):AW P ops n [] N L B:=fun _ _ _ _ _ _ hs hQ=>wpList_nil (hQ _ _ ⟨_,_,hs,k⟩)
theorem Ls (ts:List Nat) {L2:Sg} (ht:Ir L ts=some L2) (k:AW P ops n rest N L2 B):AW P ops n rest N L B:=fun _ _ _ _ _ _ hs hQ=>k _ _ _ _ _ _ (hs.pick ht) hQ
theorem Qv {x:Operand} {u:AV} (hx:J3 L x=some u) (hd:Nat.blt d n=true):AP P ops n { dst:=some d,op:=.move x,type:=ty,pos:=pos,after:=after,guard:=none } d (u) L B:=by
  intro K Ob w0 w a Bs L' Fs h hL hB
  obtain ⟨v,hv,hr⟩:=Zt hL hx
  exact Qa h hv hd fun a' h'=>wpList_nil ⟨rfl,_,h',hr⟩
theorem Qf2 {x:Operand} {u:AV} (hx:J3 L x=some u) (hd:Nat.blt d n=true):AP P ops n { dst:=some d,op:=.assign x,type:=ty,pos:=pos,after:=after,guard:=none } d (u) L B:=by
  intro K Ob w0 w a Bs L' Fs h hL hB
  obtain ⟨v,hv,hr⟩:=Zt hL hx
  exact Qd h hv hd fun a' h'=>wpList_nil ⟨rfl,_,h',hr⟩
theorem Zs {c x y:Operand} {b:Bool} {u:AV} (hc:J3 L c=some (.one (.bool b))) (hb:b=true) (hx:J3 L x=some u) (hd:Nat.blt d n=true):AP P ops n { dst:=some d,op:=.pick c x y,type:=ty,pos:=pos,after:=after,guard:=none } d (u) L B:=by
  intro K Ob w0 w a Bs L' Fs h hL hB
  obtain ⟨v,hv,hr⟩:=Zt hL hx
  obtain ⟨vc,hvc,hrc⟩:=Zt hL hc
  obtain rfl:=Kq hrc
  exact Hg h hvc hb hv hd fun a' h'=>wpList_nil ⟨rfl,_,h',hr⟩
theorem Zw {c x y:Operand} {b:Bool} {u:AV} (hc:J3 L c=some (.one (.bool b))) (hb:b=false) (hx:J3 L y=some u) (hd:Nat.blt d n=true):AP P ops n { dst:=some d,op:=.pick c x y,type:=ty,pos:=pos,after:=after,guard:=none } d (u) L B:=by
  intro K Ob w0 w a Bs L' Fs h hL hB
  obtain ⟨v,hv,hr⟩:=Zt hL hx
  obtain ⟨vc,hvc,hrc⟩:=Zt hL hc
  obtain rfl:=Kq hrc
  exact Rt h hvc hb hv hd fun a' h'=>wpList_nil ⟨rfl,_,h',hr⟩
theorem Qxp {x:Operand} {b:Bool} {t:TypeId} (hx:J3 L x=some (.one (.bool b))) (hd:Nat.blt d n=true):AP P ops n { dst:=some d,op:=.unOp .not t x,type:=ty,pos:=pos,after:=after,guard:=none } d (.one (.bool (!b))) L B:=by
  intro K Ob w0 w a Bs L' Fs h hL hB
  obtain ⟨v,hv,hr⟩:=Zt hL hx
  obtain rfl:=Kq hr
  exact Qi5 h hv hd fun a' h'=>wpList_nil ⟨rfl,_,h',(LRep.bool _)⟩
theorem Qti {x:Operand} {kd:IntKind} {p r:Int} {t:TypeId} (hx:J3 L x=some (.one (.int kd p))) (hr:kd.wrap (-p)=r) (hd:Nat.blt d n=true):AP P ops n { dst:=some d,op:=.unOp .neg t x,type:=ty,pos:=pos,after:=after,guard:=none } d (.one (.int kd r)) L B:=by
  intro K Ob w0 w a Bs L' Fs h hL hB
  obtain ⟨v,hv,hr'⟩:=Zt hL hx
  obtain rfl:=Xn hr'
  subst hr
  exact Qpz h hv hd fun a' h'=>wpList_nil ⟨rfl,_,h',(LRep.int _ _)⟩
def Qh9:AV→Bool
  | .one (.ow _ _)=>true
  | .one (.sh _)=>true
  | .one (.oel _ _ _ _)=>true
  | _=>false
theorem Kj {x:Operand} {u:AV} (hx:J3 L x=some u) (hu:Qh9 u=true) (hd:Nat.blt d n=true):AP P ops n { dst:=some d,op:=.nilCheck x,type:=ty,pos:=pos,after:=after,guard:=none } d (u) L B:=by
  intro K Ob w0 w a Bs L' Fs h hL hB
  obtain ⟨v,hv,hr⟩:=Zt hL hx
  have hp:∃ p,v=.pointer (some p):=by
    unfold Qh9 at hu
    split at hu
    · exact ⟨_,hr⟩
    · have hr:=Qpb hr; cases hr; exact ⟨_,rfl⟩
    · rename_i r _ _ _
      rcases r with _ | ⟨g,c⟩
      · exact (show False from hr).elim
      · exact ⟨_,hr⟩
    · cases hu
  obtain ⟨p,rfl⟩:=hp
  exact Qgm h hv hd fun a' h'=>wpList_nil ⟨rfl,_,h',hr⟩
theorem Ka {x:Operand} {l:List AV} {i:Nat} {u:AV} (hx:J3 L x=some (.tup l)) (hi:l[i]? = some u) (hd:Nat.blt d n=true):AP P ops n { dst:=some d,op:=.extract x i,type:=ty,pos:=pos,after:=after,guard:=none } d (u) L B:=by
  intro K Ob w0 w a Bs L' Fs h hL hB
  obtain ⟨v,hv,vs,rfl,hr⟩:=Zt hL hx
  obtain ⟨y,hy,hry⟩:=hr.get hi
  exact Z5 h hv hy hd fun a' h'=>wpList_nil ⟨rfl,_,h',hry.a⟩
theorem Qxm {op:BinOp} {x y:Operand} {kd:IntKind} {p q:Int} {b:Bool} {t t':TypeId} (hx:J3 L x=some (.one (.int kd p))) (hy:J3 L y=some (.one (.int kd q))) (hb:Qjq op p q=some b) (hd:Nat.blt d n=true):AP P ops n { dst:=some d,op:=.binOp op t x y t',type:=ty,pos:=pos,after:=after,guard:=none } d (.one (.bool b)) L B:=by
  intro K Ob w0 w a Bs L' Fs h hL hB
  obtain ⟨v,hv,hr⟩:=Zt hL hx
  obtain ⟨u,hu,hs⟩:=Zt hL hy
  obtain rfl:=Xn hr
  obtain rfl:=Xn hs
  exact Zk h hv hu hb hd fun a' h'=>wpList_nil ⟨rfl,_,h',(LRep.bool _)⟩
theorem Zb {x y:Operand} {kd:IntKind} {p q r:Int} {t t':TypeId} (hx:J3 L x=some (.one (.int kd p))) (hy:J3 L y=some (.one (.int kd q))) (hr:kd.wrap (p+q)=r) (hd:Nat.blt d n=true):AP P ops n { dst:=some d,op:=.binOp .add t x y t',type:=ty,pos:=pos,after:=after,guard:=none } d (.one (.int kd r)) L B:=by
  intro K Ob w0 w a Bs L' Fs h hL hB
  obtain ⟨v,hv,hr1⟩:=Zt hL hx
  obtain ⟨u,hu,hs⟩:=Zt hL hy
  obtain rfl:=Xn hr1
  obtain rfl:=Xn hs
  subst hr
  exact Qdu h hv hu hd fun a' h'=>wpList_nil ⟨rfl,_,h',(LRep.int _ _)⟩
theorem Z9 {x y:Operand} {kd:IntKind} {p q r:Int} {t t':TypeId} (hx:J3 L x=some (.one (.int kd p))) (hy:J3 L y=some (.one (.int kd q))) (hr:kd.wrap (p-q)=r) (hd:Nat.blt d n=true):AP P ops n { dst:=some d,op:=.binOp .sub t x y t',type:=ty,pos:=pos,after:=after,guard:=none } d (.one (.int kd r)) L B:=by
  intro K Ob w0 w a Bs L' Fs h hL hB
  obtain ⟨v,hv,hr1⟩:=Zt hL hx
  obtain ⟨u,hu,hs⟩:=Zt hL hy
  obtain rfl:=Xn hr1
  obtain rfl:=Xn hs
  subst hr
  exact Qdz h hv hu hd fun a' h'=>wpList_nil ⟨rfl,_,h',(LRep.int _ _)⟩
theorem Qkb {x y:Operand} {kd:IntKind} {p q r:Int} {t t':TypeId} (hx:J3 L x=some (.one (.int kd p))) (hy:J3 L y=some (.one (.int kd q))) (hr:kd.wrap (p*q)=r) (hd:Nat.blt d n=true):AP P ops n { dst:=some d,op:=.binOp .mul t x y t',type:=ty,pos:=pos,after:=after,guard:=none } d (.one (.int kd r)) L B:=by
  intro K Ob w0 w a Bs L' Fs h hL hB
  obtain ⟨v,hv,hr1⟩:=Zt hL hx
  obtain ⟨u,hu,hs⟩:=Zt hL hy
  obtain rfl:=Xn hr1
  obtain rfl:=Xn hs
  subst hr
  exact Qi4 h hv hu hd fun a' h'=>wpList_nil ⟨rfl,_,h',(LRep.int _ _)⟩
theorem Fk {x y:Operand} {kd:IntKind} {p q r:Int} {t t':TypeId} (hx:J3 L x=some (.one (.int kd p))) (hy:J3 L y=some (.one (.int kd q))) (hq:q≠0) (hr:kd.wrap (p.tdiv q)=r) (hd:Nat.blt d n=true):AP P ops n { dst:=some d,op:=.binOp .quo t x y t',type:=ty,pos:=pos,after:=after,guard:=none } d (.one (.int kd r)) L B:=by
  intro K Ob w0 w a Bs L' Fs h hL hB
  obtain ⟨v,hv,hr1⟩:=Zt hL hx
  obtain ⟨u,hu,hs⟩:=Zt hL hy
  obtain rfl:=Xn hr1
  obtain rfl:=Xn hs
  subst hr
  exact Qdw h hv hu hq hd fun a' h'=>wpList_nil ⟨rfl,_,h',(LRep.int _ _)⟩
theorem Gr {x y:Operand} {kd:IntKind} {p q r:Int} {t t':TypeId} (hx:J3 L x=some (.one (.int kd p))) (hy:J3 L y=some (.one (.int kd q))) (hq:q≠0) (hr:p.tmod q=r) (hd:Nat.blt d n=true):AP P ops n { dst:=some d,op:=.binOp .rem t x y t',type:=ty,pos:=pos,after:=after,guard:=none } d (.one (.int kd r)) L B:=by
  intro K Ob w0 w a Bs L' Fs h hL hB
  obtain ⟨v,hv,hr1⟩:=Zt hL hx
  obtain ⟨u,hu,hs⟩:=Zt hL hy
  obtain rfl:=Xn hr1
  obtain rfl:=Xn hs
  subst hr
  exact Qdx h hv hu hq hd fun a' h'=>wpList_nil ⟨rfl,_,h',(LRep.int _ _)⟩
theorem Qxn {x y:Operand} {p q b:Bool} {t t':TypeId} (hu:P.underlying t=some .bool) (hx:J3 L x=some (.one (.bool p))) (hy:J3 L y=some (.one (.bool q))) (hb:(p == q)=b) (hd:Nat.blt d n=true):AP P ops n { dst:=some d,op:=.binOp .eql t x y t',type:=ty,pos:=pos,after:=after,guard:=none } d (.one (.bool b)) L B:=by
  intro K Ob w0 w a Bs L' Fs h hL hB
  obtain ⟨v,hv,hr1⟩:=Zt hL hx
  obtain ⟨u,hu',hs⟩:=Zt hL hy
  obtain rfl:=Kq hr1
  obtain rfl:=Kq hs
  subst hb
  exact Qi1 h hv hu' hu hd fun a' h'=>wpList_nil ⟨rfl,_,h',(LRep.bool _)⟩
theorem Qor {x y:Operand} {p q b:Bool} {t t':TypeId} (hu:P.underlying t=some .bool) (hx:J3 L x=some (.one (.bool p))) (hy:J3 L y=some (.one (.bool q))) (hb:(!(p == q))=b) (hd:Nat.blt d n=true):AP P ops n { dst:=some d,op:=.binOp .neq t x y t',type:=ty,pos:=pos,after:=after,guard:=none } d (.one (.bool b)) L B:=by
  intro K Ob w0 w a Bs L' Fs h hL hB
  obtain ⟨v,hv,hr1⟩:=Zt hL hx
  obtain ⟨u,hu',hs⟩:=Zt hL hy
  obtain rfl:=Kq hr1
  obtain rfl:=Kq hs
  subst hb
  exact Dc h hv hu' hu hd fun a' h'=>wpList_nil ⟨rfl,_,h',(LRep.bool _)⟩
theorem Gz {x:Operand} {kd kd':IntKind} {p r:Int} {s t:TypeId} (hs:∀ w,(underlying s).run P w=.ok (.int kd) w) (ht:∀ w,(underlying t).run P w=.ok (.int kd') w) (hx:J3 L x=some (.one (.int kd p))) (hr:kd'.wrap p=r) (hd:Nat.blt d n=true):AP P ops n { dst:=some d,op:=.convert s t x,type:=ty,pos:=pos,after:=after,guard:=none } d (.one (.int kd' r)) L B:=by
  intro K Ob w0 w a Bs L' Fs h hL hB
  obtain ⟨v,hv,hr1⟩:=Zt hL hx
  obtain rfl:=Xn hr1
  subst hr
  exact F1 h hv hs ht hd fun a' h'=>wpList_nil ⟨rfl,_,h',(LRep.int _ _)⟩
def Vq:LV→Option Nat
  | .row l=>some l.length
  | .nils=>some 0
  | .orow _ _ _ m=>some m
  | _=>none
theorem Qso {w:World} {O:Nat→Prop} {v:Value} {x:LV} {m:Nat} (h:XRep w O v x) (hm:Vq x=some m):∃ A c,v=.slice A m c:=by
  unfold Vq at hm
  split at hm <;> first | cases hm | (injection hm with hm; subst hm)
  · have h:LRep w O v (.row _):=h
    cases h; exact ⟨_,_,rfl⟩
  · have h:LRep w O v .nils:=h
    cases h; exact ⟨_,_,rfl⟩
  · rename_i r _ _
    rcases r with _ | ⟨g,c⟩
    · obtain ⟨e,e1,e2⟩:=h; subst e2; exact ⟨_,_,e⟩
    · obtain ⟨_,a,e,_⟩:=h; exact ⟨_,_,e⟩
theorem Qh {x:Operand} {u:LV} {m:Nat} {E t:TypeId} (hu:∀ w,(underlying t).run P w=.ok (.slice E) w) (hx:J3 L x=some (.one u)) (hm:Vq u=some m) (hd:Nat.blt d n=true):AP P ops n { dst:=some d,op:=.call { callee:=.builtin .len,args := #[x],argTypes := #[t] },type:=ty,pos:=pos,after:=after,guard:=none } d (.one (.int .i64 (m:Int))) L B:=by
  intro K Ob w0 w a Bs L' Fs h hL hB
  obtain ⟨v,hv,hr⟩:=Zt hL hx
  obtain ⟨A,c,rfl⟩:=Qso (x:=u) hr hm
  exact Zz h hv hu hd fun a' h'=>wpList_nil ⟨rfl,_,h',(LRep.int _ _)⟩
theorem Qph {w:World} {O:Nat→Prop} {v:Value} {l:List (List LV)} {i:Nat} {z:List LV} (h:LRep w O v (.row l)) (hz:l[i]? = some z) :
    ∃ b o c,v=.slice (some ⟨b,o,none⟩) l.length c∧LRep w O (.pointer (some ⟨b,o+i*z.length,none⟩)) (.sh z):=by
  cases h with
  |
   row A c sz b o l f hc hc63 hl hs hA hcell hrep =>
   have h0:0<l.length:=qZu (K6 _) (Uy.1 hz).1
   obtain ⟨rfl,h1,h2⟩:=hA h0
   have hzs:=hs z (Vo hz)
   subst hzs
   exact ⟨b,o,c,rfl,.sh b _ z (f i) h1 h2 (fun j hj=>hcell i z hz j hj) fun j x hx=>hrep i z hz j x hx⟩
theorem Qi {x y:Operand} {l:List (List LV)} {kd:IntKind} {p:Int} (i:Nat) {z:List LV} {sz:Nat} {E t:TypeId} (hu:∀ w,(underlying t).run P w=.ok (.slice E) w) (hs:∀ w,(Go.sizeOf E).run P w=.ok sz w)
    (hx:J3 L x=some (.one (.row l))) (hy:J3 L y=some (.one (.int kd p))) (hp:p=(i:Int)) (hz:l[i]? = some z) (hsz:z.length=sz) (hd:Nat.blt d n=true):AP P ops n { dst:=some d,op:=.indexAddr t x y,type:=ty,pos:=pos,after:=after,guard:=none } d (.one (.sh z)) L B:=by
  intro K Ob w0 w a Bs L' Fs h hL hB
  obtain ⟨v,hv,hr⟩:=Zt hL hx
  obtain ⟨u,hu',hr2⟩:=Zt hL hy
  obtain rfl:=Xn hr2
  obtain ⟨b,o,c,rfl,hsh⟩:=Qph hr hz
  subst hsz
  exact Q5 i h hv hu' hu hs hp (Uy.1 hz).1 hd fun a' h'=>wpList_nil ⟨rfl,_,h',hsh⟩
def Mr:Nat→List LV→Option (List LV)
  | 0,_=>some []
  |
   k+1,x::l=>match Mr k l with
   | some r=>some (x::r)
   | none=>none
  | _+1,[]=>none
def Sh:Nat→List LV→Option (List LV)
  | 0,l=>some l
  | k+1,_::l=>Sh k l
  | _+1,[]=>none
theorem Cg:∀ {k:Nat} {l r:List LV},Mr k l=some r→r=l.take k∧k≤l.length
  | 0,l,r,h=>by simp [Mr] at h; subst h; simp
  | k+1,[],r,h=>by simp [Mr] at h
  |
   k+1,x::l,r,h=>by
   simp only [Mr] at h
   split at h
   · rename_i q hq
     injection h with h; subst h
     obtain ⟨e,hl⟩:=Cg hq
     subst e
     exact ⟨by simp,by simp; exact hl⟩
   · cases h
theorem N7:∀ {k:Nat} {l r:List LV},Sh k l=some r→r=l.drop k∧k≤l.length
  | 0,l,r,h=>by simp [Sh] at h; subst h; simp
  | k+1,[],r,h=>by simp [Sh] at h
  |
   k+1,x::l,r,h=>by
   obtain ⟨e,hl⟩:=N7 (k:=k) (l:=l) (by simpa [Sh] using h)
   exact ⟨by simpa using e,by simp; exact hl⟩
def Wx:Bool→List LV→Option AV
  | true,l=>some (.agg l)
  | false,[x]=>some (.one x)
  | false,_=>none
theorem U5 {r:List LV} {u:AV} (h:Wx false r=some u):∃ y,r=[y]∧u=.one y:=by
  rcases r with _ | ⟨y,_ | ⟨z,r⟩⟩
  · cases h
  · simp [Wx] at h; exact ⟨y,rfl,h.symm⟩
  · cases h
theorem Qkv {w:World} {O:Nat→Prop} {v:Value} {l r:List LV} {k:Nat} (h:LRep w O v (.sh l)) (hr:Sh k l=some r):∃ b o,v=.pointer (some ⟨b,o,none⟩)∧LRep w O (.pointer (some ⟨b,o+k,none⟩)) (.sh r):=by
  obtain ⟨rfl,hk⟩:=N7 hr
  cases h with
  |
   sh b o l f hb hO hcell hrep =>
   refine ⟨b,o,rfl,.sh b _ _ (fun j=>f (k+j)) hb hO (fun j hj=>?_) fun j x hx=>?_⟩
   · rw [qYl]; exact hcell _ (by simp at hj; omega)
   · rw [qXj] at hx; exact hrep _ _ hx
theorem J0 {S:TypeId} {x:Operand} {f off:Nat} {l r:List LV} (hrun:∀ b o w,(Instr.fieldAt S (.pointer (some ⟨b,o,none⟩)) f).run P w=.ok (.pointer (some ⟨b,o+off,none⟩)) w)
    (hx:J3 L x=some (.one (.sh l))) (hr:Sh off l=some r) (hd:Nat.blt d n=true):AP P ops n { dst:=some d,op:=.fieldAddr S x f,type:=ty,pos:=pos,after:=after,guard:=none } d (.one (.sh r)) L B:=by
  intro K Ob w0 w a Bs L' Fs h hL hB
  obtain ⟨v,hv,hr1⟩:=Zt hL hx
  obtain ⟨b,o,rfl,hs⟩:=Qkv hr1 hr
  exact Qu h hv hrun hd fun a' h'=>wpList_nil ⟨rfl,_,h',hs⟩
theorem Qsz {w:World} {O:Nat→Prop} {v:Value} {l r:List LV} {k:Nat} (h:LRep w O v (.sh l)) (hr:Mr k l=some r) :
    ∃ b o vs,v=.pointer (some ⟨b,o,none⟩)∧vs.length=k∧XReps w O vs r∧∀ j u,vs[j]? = some u→w.cell? ⟨b,o+j,none⟩=some u:=by
  obtain ⟨rfl,hk⟩:=Cg hr
  cases h with
  |
   sh b o l f hb hO hcell hrep =>
   have hm:∀ (j:Nat) (u:Value),((List.range k).map f)[j]? = some u→j<k∧f j=u:=fun j u hj=>by
     rw [S1] at hj
     rcases Mq j k with h1 | h1
     · rw [qJj h1] at hj
       exact ⟨h1,by simpa using hj⟩
     · rw [Eh (by simpa using h1)] at hj; cases hj
   refine ⟨b,o,(List.range k).map f,rfl,by simp,XReps.of (by simp; omega) fun j u x hu hx=>?_,fun j u hj=>?_⟩
   · obtain ⟨h1,rfl⟩:=hm j u hu
     rw [Ei,if_pos h1] at hx
     exact (hrep j x hx).x
   · obtain ⟨h1,rfl⟩:=hm j u hj
     exact hcell j (by omega)
theorem Zq {T:TypeId} {x:Operand} {l r:List LV} {m:Nat} {g:Bool} {u:AV} (ht:∀ w,(isAgg T).run P w=.ok g w) (hs:∀ w,(Go.sizeOf T).run P w=.ok m w)
    (hx:J3 L x=some (.one (.sh l))) (hr:Mr m l=some r) (hu:Wx g r=some u) (hd:Nat.blt d n=true):AP P ops n { dst:=some d,op:=.load T x,type:=ty,pos:=pos,after:=after,guard:=none } d (u) L B:=by
  intro K Ob w0 w a Bs L' Fs h hL hB
  obtain ⟨v,hv,hr1⟩:=Zt hL hx
  obtain ⟨b,o,vs,rfl,hl,hreps,hc⟩:=Qsz hr1 hr
  cases g with
  |
   true =>
   simp only [Wx,Option.some.injEq] at hu
   subst hu
   exact S8 h hv ht hs hl hc hd fun a' h'=>wpList_nil ⟨rfl,_,h',show ARep _ _ _ (.agg r) from ⟨vs,rfl,hreps⟩⟩
  |
   false =>
   obtain ⟨y,rfl,rfl⟩:=U5 hu
   rcases vs with _ | ⟨v0,_ | ⟨v1,vs⟩⟩
   · exact hreps.elim
   · exact Xc h hv ht (by simpa using hc 0 v0 rfl) hd fun a' h'=>wpList_nil ⟨rfl,_,h',show ARep _ _ _ (.one y) from hreps.1⟩
   · exact hreps.2.elim
def Qiv:List OB→Nat→OB→Option (List OB)
  | [],_,_=>none
  | _::B,0,x=>some (x::B)
  |
   b::B,i+1,x=>match Qiv B i x with
   | some r=>some (b::r)
   | none=>none
def Jr:List OB→Nat→Option (OB×List OB)
  | [],_=>none
  | b::B,0=>some (b,B)
  |
   b::B,i+1=>match Jr B i with
   | some (x,r)=>some (x,b::r)
   | none=>none
theorem Uu:∀ {B:List OB} {i:Nat} {x:OB} {r:List OB},Jr B i=some (x,r)→B[i]? = some x∧r=B.eraseIdx i
  | [],i,x,r,h=>by simp [Jr] at h
  | b::B,0,x,r,h=>by simp [Jr] at h; obtain ⟨rfl,rfl⟩:=h; simp
  |
   b::B,i+1,x,r,h=>by
   simp only [Jr] at h
   split at h
   · rename_i y q hq
     injection h with h
     injection h with e1 e2
     subst e1 e2
     obtain ⟨h1,h2⟩:=Uu hq
     exact ⟨by simpa using h1,by simp [h2]⟩
   · cases h
theorem SA.front {K Ob:Nat→Prop} {w0 w:World} {a:Act} {L:Sg} {B:List OB} (h:SA K Ob w0 w a n L B) {i:Nat} {x:OB} {r:List OB} (hi:Jr B i=some (x,r)) :
    ∃ L' Bo Bs,St K Ob w0 w a n L' [] (Bo++Bs)∧(∀ t u,lk L t=some u→∃ v,Z0 L' t=some v∧ARep w (Q3 Ob (Bo++Bs)) v u)∧OBRep w (Q3 Ob (Bo++Bs)) x Bo∧BsRep w (Q3 Ob (Bo++Bs)) r Bs:=by
  obtain ⟨L',Bs,h1,h2,h3⟩:=h
  obtain ⟨hx,rfl⟩:=Uu hi
  obtain ⟨Bo,Bs',hp,h4,h5⟩:=h3.front hx
  have ho:Q3 Ob Bs=Q3 Ob (Bo++Bs'):=by
    funext b
    simp only [Q3]
    rw [show (b∈Bs.map (·.1))=(b∈(Bo++Bs').map (·.1)) from propext ((hp.map _).mem_iff)]
  rw [ho] at h2 h4 h5
  exact ⟨L',Bo,Bs',h1.perm hp.symm,h2,h4,h5⟩
theorem SA.of {K Ob:Nat→Prop} {w0 w:World} {a:Act} {L:Sg} {B:List OB} {x:OB} {L':List (Nat×Value)} {Bo Bs:List Va} (h1:St K Ob w0 w a n L' [] (Bo++Bs)) (h2:∀ t u,lk L t=some u→∃ v,Z0 L' t=some v∧ARep w (Q3 Ob (Bo++Bs)) v u) (h3:OBRep w (Q3 Ob (Bo++Bs)) x Bo) (h4:BsRep w (Q3 Ob (Bo++Bs)) B Bs):SA K Ob w0 w a n L (x::B) :=
  ⟨L',_,h1,h2,⟨Bo,Bs,rfl,h3,h4⟩⟩
theorem SA.drop {K Ob:Nat→Prop} {w0 w:World} {a:Act} {L:Sg} {B:List OB} (h:SA K Ob w0 w a n L B) {i:Nat} {x:OB} {r:List OB} (hi:Jr B i=some (x,r)):SA K Ob w0 w a n L r:=by
  obtain ⟨L',Bo,Bs,h1,h2,h3,h4⟩:=h.front hi
  have hle:Le w (Q3 Ob (Bo++Bs)) w (Q3 Ob Bs):=⟨X2 _,fun _ _ _=>rfl,fun b _ ho=>ho.imp id fun hm=>by simp only [F6,Y7]; exact .inr hm⟩
  exact ⟨L',Bs,h1.tailB,Fd hle h2,h4.keep hle⟩
theorem Qnl {w:World} {O:Nat→Prop} {v:Value} {u:AV} (h:TRep w O v u):∃ xs,(u=.agg xs∨∃ x,u=.one x∧xs=[x])∧XReps w O v.cells.toList xs:=by
  cases u with
  |
   one x =>
   refine ⟨[x],.inr ⟨x,rfl,rfl⟩,?_⟩
   have h:XRep w O v x:=h
   have h1:=h.one
   cases v <;> first | (simp [Orr.one] at h1; done) | exact ⟨h,trivial⟩
  |
   agg xs =>
   obtain ⟨vs,rfl,h⟩:=h
   exact ⟨xs,.inl rfl,by simpa [Value.cells] using h⟩
  | tup l=>exact h.elim
  | un=>exact h.elim
def Gh:AV→Option (List LV)
  | .one x=>some [x]
  | .agg xs=>some xs
  | _=>none
theorem Fq {w:World} {O:Nat→Prop} {v:Value} {u:AV} {xs:List LV} (h:ARep w O v u) (hl:Gh u=some xs):XReps w O v.cells.toList xs∧TRep w O v u:=by
  have ht:TRep w O v u:=by cases u <;> first | exact h | (simp [Gh] at hl)
  obtain ⟨ys,hy,hr⟩:=Qnl ht
  rcases hy with rfl | ⟨x,rfl,rfl⟩ <;> simp [Gh] at hl <;> subst hl <;> exact ⟨hr,ht⟩
theorem XReps.alloc {w w':World} {O O':Nat→Prop} (hle:Le w O w' O') {vs:List Value} {xs:List LV} (h:XReps w O vs xs):XReps w' O' vs xs:=h.keep hle
theorem Rk {Ob:Nat→Prop} {w w':World} {Bs:List Va} {g:Nat} {T:TypeId} {cs:List Value} (hg:w.heap.size≤g) (hgr:Grow w w'):Le w (Q3 Ob Bs) w' (Q3 Ob ((g,T,cs)::Bs)) :=
  ⟨hgr.1,fun b hb _=>hgr.2 b hb,fun b hb ho=>by
    simp only [Q3,Ln,Vw] at ho
    rcases ho with e | e | e
    · exact .inl e
    · omega
    · exact .inr e⟩
theorem Qkw {P:Program} {ops:Array Oper} {Q:Exit→Act→World→Prop} {K Ob:Nat→Prop} {w0 w:World} {a:Act} {n:Nat} {L:List (Nat×Value)} {Fs:List Fact} {Bs:List Va} {rest:List Oper} {T:TypeId} {x:Operand} {v:Value} (h:St K Ob w0 w a n L Fs Bs) (hx:ev L x=some v) (hd:Nat.blt d n=true)
    (k:∀ g w' a',w.heap.size≤g→Grow w w'→St K Ob w0 w' a' n ((d,.pointer (some ⟨g,0,none⟩))::L) Fs ((g,T,v.cells.toList)::Bs)→wpList P ops Q rest a' w') :
    wpList P ops Q ({ dst:=some d,op:=.box T x,type:=ty,pos:=pos,after:=after,guard:=none }::rest) a w :=
  Yl (w':=w.alloc (.cells v.cells T)) (v:=.pointer (some ⟨w.heap.size,0,none⟩)) rfl
    (by simp [execOp,Instr.box,h.ev hx,newVar,newRow,V1])
    (k _ _ _ (X2 _) ⟨by show w.heap.size≤(w.heap.push _).size; simp,fun b hb=>by show (w.heap.push _)[b]? = _; simp [Array.getElem?_push,Nat.ne_of_lt hb],rfl,rfl⟩ ((by simpa using h.alloc T v.cells.toList:St K Ob w0 (w.alloc (.cells v.cells T)) a n L Fs ((w.heap.size,T,v.cells.toList)::Bs)).put _ hd))
theorem Yy {T:TypeId} {x:Operand} {u:AV} {xs:List LV} (hx:J3 L x=some u) (hl:Gh u=some xs) (hd:Nat.blt d n=true) (k:∀ g,AW P ops n rest N ((d,.one (.ow g 0))::L) (.blk g T xs::B)) :
    AW P ops n ({ dst:=some d,op:=.box T x,type:=ty,pos:=pos,after:=after,guard:=none }::rest) N L B:=by
  rintro K Ob w0 w a Q ⟨L',Bs,h,hL,hB⟩ hQ
  obtain ⟨v,hv,hr⟩:=Zt hL hx
  obtain ⟨hc,_⟩:=Fq hr hl
  refine Qkw h hv hd fun g w' a' hg hgr h'=>k g _ _ _ _ _ _ (SA.of (Bo:=[_]) h' (Gk (Fd (Rk hg hgr) hL) rfl) ⟨_,rfl,hc.keep (Rk hg hgr)⟩ (hB.keep (Rk hg hgr))) hQ
def zl:Value→Option (List LV)
  | .agg cs=>zls cs.toList
  |
   v=>match cst v with
   | some (.one x)=>some [x]
   | _=>none
where zls:List Value→Option (List LV)
  | []=>some []
  |
   v::vs=>match cst v with
   |
    some (.one x)=>match zls vs with
    | some r=>some (x::r)
    | none=>none
   | _=>none
theorem Qed {w:World} {O:Nat→Prop}:∀ {vs:List Value} {xs:List LV},zl.zls vs=some xs→XReps w O vs xs
  | [],xs,h=>by simp [zl.zls] at h; subst h; trivial
  |
   v::vs,xs,h=>by
   simp only [zl.zls] at h
   split at h
   · rename_i x hx
     split at h
     · rename_i r hr
       injection h with h; subst h
       exact ⟨(Lw (w:=w) (O:=O) hx:ARep w O v (.one x)),Qed hr⟩
     · cases h
   · cases h
theorem Lb {w:World} {O:Nat→Prop} {v:Value} {xs:List LV} (h:zl v=some xs):XReps w O v.cells.toList xs:=by
  unfold zl at h
  split at h
  · simpa [Value.cells] using Qed h
  · split at h
    · rename_i x hx
      injection h with h; subst h
      have hr:XRep w O v x:=(Lw (w:=w) (O:=O) hx:ARep w O v (.one x))
      have h1:=hr.one
      cases v <;> first | (simp [Orr.one] at h1; done) | exact ⟨hr,trivial⟩
    · cases h
theorem Qms {P:Program} {ops:Array Oper} {Q:Exit→Act→World→Prop} {K Ob:Nat→Prop} {w0 w:World} {a:Act} {n:Nat} {L:List (Nat×Value)} {Fs:List Fact} {Bs:List Va} {rest:List Oper} {T:TypeId} {z:Value} (h:St K Ob w0 w a n L Fs Bs) (hz:∀ w,(zeroValue T).run P w=.ok z w) (hd:Nat.blt d n=true)
    (k:∀ g w' a',w.heap.size≤g→Grow w w'→St K Ob w0 w' a' n ((d,.pointer (some ⟨g,0,none⟩))::L) Fs ((g,T,z.cells.toList)::Bs)→wpList P ops Q rest a' w') :
    wpList P ops Q ({ dst:=some d,op:=.alloc T,type:=ty,pos:=pos,after:=after,guard:=none }::rest) a w :=
  Yl (w':=w.alloc (.cells z.cells T)) (v:=.pointer (some ⟨w.heap.size,0,none⟩)) rfl
    (by simp [execOp,Instr.alloc,hz,newVar,newRow,V1])
    (k _ _ _ (X2 _) ⟨by show w.heap.size≤(w.heap.push _).size; simp,fun b hb=>by show (w.heap.push _)[b]? = _; simp [Array.getElem?_push,Nat.ne_of_lt hb],rfl,rfl⟩ ((by simpa using h.alloc T z.cells.toList:St K Ob w0 (w.alloc (.cells z.cells T)) a n L Fs ((w.heap.size,T,z.cells.toList)::Bs)).put _ hd))
theorem Qn {T:TypeId} {z:Value} {xs:List LV} (hz:∀ w,(zeroValue T).run P w=.ok z w) (hl:zl z=some xs) (hd:Nat.blt d n=true) (k:∀ g,AW P ops n rest N ((d,.one (.ow g 0))::L) (.blk g T xs::B)) :
    AW P ops n ({ dst:=some d,op:=.alloc T,type:=ty,pos:=pos,after:=after,guard:=none }::rest) N L B:=by
  rintro K Ob w0 w a Q ⟨L',Bs,h,hL,hB⟩ hQ
  refine Qms h hz hd fun g w' a' hg hgr h'=>k g _ _ _ _ _ _ (SA.of (Bo:=[_]) h' (Gk (Fd (Rk hg hgr) hL) rfl) ⟨_,rfl,Lb hl⟩ (hB.keep (Rk hg hgr))) hQ
theorem Wq {S:TypeId} {x:Operand} {f off g o:Nat} (hrun:∀ b o w,(Instr.fieldAt S (.pointer (some ⟨b,o,none⟩)) f).run P w=.ok (.pointer (some ⟨b,o+off,none⟩)) w)
    (hx:J3 L x=some (.one (.ow g o))) (hd:Nat.blt d n=true):AP P ops n { dst:=some d,op:=.fieldAddr S x f,type:=ty,pos:=pos,after:=after,guard:=none } d (.one (.ow g (o+off))) L B:=by
  intro K Ob w0 w a Bs L' Fs h hL hB
  obtain ⟨v,hv,hr1⟩:=Zt hL hx
  obtain rfl:v=.pointer (some ⟨g,o,none⟩):=hr1
  exact Qu h hv hrun hd fun a' h'=>wpList_nil ⟨rfl,_,h',rfl⟩
def Qgp (l:List LV) (off m:Nat):Option (List LV):=match Sh off l with
  | some r=>Mr m r
  | none=>none
theorem El {l r:List LV} {off m:Nat} (h:Qgp l off m=some r):r=(l.drop off).take m∧off+m≤l.length:=by
  unfold Qgp at h
  split at h
  · rename_i q hq
    obtain ⟨rfl,h1⟩:=N7 hq
    obtain ⟨rfl,h2⟩:=Cg h
    exact ⟨rfl,by simp at h2; omega⟩
  · cases h
theorem Xb (i:Nat) {T T':TypeId} {x:Operand} {g o:Nat} {xs r:List LV} {m:Nat} {ag:Bool} {u:AV} {B':List OB} (ht:∀ w,(isAgg T).run P w=.ok ag w) (hs:∀ w,(Go.sizeOf T).run P w=.ok m w)
    (hi:Jr B i=some (.blk g T' xs,B')) (hx:J3 L x=some (.one (.ow g o))) (hr:Qgp xs o m=some r) (hu:Wx ag r=some u) (hd:Nat.blt d n=true):AP P ops n { dst:=some d,op:=.load T x,type:=ty,pos:=pos,after:=after,guard:=none } d (u) L B:=by
  intro K Ob w0 w a Bs L' Fs h hL hB
  obtain ⟨hxi,rfl⟩:=Uu hi
  obtain ⟨Bo,Bs',hp,⟨cs,rfl,hreps⟩,_⟩:=hB.front hxi
  obtain ⟨v,hv,hr1⟩:=Zt hL hx
  obtain rfl:v=.pointer (some ⟨g,o,none⟩):=hr1
  have hmem:(g,Tag.ty T',cs)∈Bs:=hp.mem_iff.2 (by simp)
  obtain ⟨q,hq⟩:=qZr.1 hmem
  obtain ⟨rfl,hle⟩:=El hr
  have hlen:=hreps.len
  have hreps':XReps w (Q3 Ob Bs) ((cs.drop o).take m) ((xs.drop o).take m):=(hreps.drop o).take m
  have hl:((cs.drop o).take m).length=m:=by simp; omega
  have hcell:∀ j u,((cs.drop o).take m)[j]? = some u→w.cell? ⟨g,o+j,none⟩=some u:=fun j u hj=>by
    rw [h.own_cell hq]
    rw [Ei] at hj
    split at hj
    · rwa [qXj] at hj
    · cases hj
  cases ag with
  |
   true =>
   simp only [Wx,Option.some.injEq] at hu
   subst hu
   exact S8 h hv ht hs hl hcell hd fun a' h'=>wpList_nil ⟨rfl,_,h',show ARep _ _ _ (.agg _) from ⟨_,rfl,hreps'⟩⟩
  |
   false =>
   obtain ⟨y,e2,rfl⟩:=U5 hu
   rw [e2] at hreps'
   generalize (cs.drop o).take m=vs at *
   rcases vs with _ | ⟨v0,_ | ⟨v1,vs⟩⟩
   · exact hreps'.elim
   · exact Xc h hv ht (by simpa using hcell 0 v0 rfl) hd fun a' h'=>wpList_nil ⟨rfl,_,h',show ARep _ _ _ (.one y) from hreps'.1⟩
   · exact hreps'.2.elim
theorem Qkt:∀ {B:List OB} {i:Nat} {x:OB} {r:List OB},Qiv B i x=some r→r=B.set i x∧i<B.length
  | [],i,x,r,h=>by simp [Qiv] at h
  | b::B,0,x,r,h=>by simp [Qiv] at h; subst h; simp
  |
   b::B,i+1,x,r,h=>by
   simp only [Qiv] at h
   split at h
   · rename_i q hq
     injection h with h; subst h
     obtain ⟨rfl,hl⟩:=Qkt hq
     exact ⟨by simp,by simp; exact hl⟩
   · cases h
theorem BsRep.setAt {w:World} {O:Nat→Prop}:∀ {B:List OB} {Bs:List Va} {i:Nat} {g:Nat} {T:TypeId} {xs:List LV},BsRep w O B Bs→B[i]? = some (.blk g T xs) →
    ∃ q cs,Bs[q]? = some (g,Tag.ty T,cs)∧cs.length=xs.length∧∀ {w':World} {O':Nat→Prop},BsRep w' O' B Bs→XReps w' O' cs xs∧∀ cs' ys,XReps w' O' cs' ys→BsRep w' O' (B.set i (.blk g T ys)) (Bs.set q (g,T,cs'))
  | [],_,i,g,T,xs,_,hi=>by simp at hi
  |
   b::B,Bs,0,g,T,xs,h,hi=>by
   simp at hi; subst hi
   obtain ⟨Bo,Bs',rfl,⟨cs,rfl,hr⟩,h2⟩:=h
   refine ⟨0,cs,rfl,hr.len,fun h'=>?_⟩
   obtain ⟨Bo',Bs2,e,⟨cs2,e2,hr2⟩,h3⟩:=h'
   subst e2
   simp only [Lm,qVv,List.cons.injEq,Prod.mk.injEq,true_and] at e
   obtain ⟨rfl,rfl⟩:=e
   exact ⟨hr2,fun cs' ys hy=>⟨[(g,Tag.ty T,cs')],Bs',rfl,⟨cs',rfl,hy⟩,h3⟩⟩
  |
   b::B,Bs,i+1,g,T,xs,h,hi=>by
   obtain ⟨Bo,Bs',rfl,h1,h2⟩:=h
   obtain ⟨q,cs,hq,hl,hk⟩:=BsRep.setAt h2 (i:=i) (by simpa using hi)
   refine ⟨Bo.length+q,cs,by rw [qXh (by omega),qJo]; exact hq,hl,fun h'=>?_⟩
   obtain ⟨Bo',Bs2,e,h1',h2'⟩:=h'
   have hlen:Bo'.length=Bo.length:=by
     cases b with
     | blk g T xs=>obtain ⟨_,rfl,_⟩:=h1; obtain ⟨_,rfl,_⟩:=h1'; rfl
     |
      row r E sz ls =>
      rcases r with _ | ⟨g,c⟩
      · obtain ⟨_,_,rfl⟩:=h1; obtain ⟨_,_,rfl⟩:=h1'; rfl
      · obtain ⟨_,_,_,_,_,_,rfl,_⟩:=h1; obtain ⟨_,_,_,_,_,_,rfl,_⟩:=h1'; rfl
     | mpb g es=>obtain ⟨_,_,_,rfl,_⟩:=h1; obtain ⟨_,_,_,rfl,_⟩:=h1'; rfl
   obtain ⟨rfl,rfl⟩:=List.append_inj e hlen.symm
   obtain ⟨h3,h4⟩:=hk h2'
   refine ⟨h3,fun cs' ys hy=>⟨Bo,Bs'.set q (g,T,cs'),by rw [qVi _ _ (by omega),qJo],h1',h4 cs' ys hy⟩⟩
def updO (xs:List LV) (off m:Nat) (ys:List LV):Option (List LV):=match Qgp xs off m with
  | some _=>go xs off ys
  | none=>none
where go:List LV→Nat→List LV→Option (List LV)
  | l,_,[]=>some l
  | [],_,_::_=>none
  |
   _::l,0,v::vs=>match go l 0 vs with
   | some r=>some (v::r)
   | none=>none
  |
   u::l,i+1,v::vs=>match go l i (v::vs) with
   | some r=>some (u::r)
   | none=>none
theorem Qea:∀ {xs ys r:List LV} {off:Nat},updO.go xs off ys=some r→r=P8 xs off ys
  | xs,[],r,off,h=>by cases xs <;> simp [updO.go] at h <;> subst h <;> simp [P8]
  | [],_::_,r,off,h=>by simp [updO.go] at h
  |
   x::l,v::vs,r,0,h=>by
   simp only [updO.go] at h
   split at h
   · rename_i q hq
     injection h with h; subst h
     rw [Qea hq]; rfl
   · cases h
  |
   x::l,v::vs,r,i+1,h=>by
   simp only [updO.go] at h
   split at h
   · rename_i q hq
     injection h with h; subst h
     rw [Qea hq]; rfl
   · cases h
theorem Qd9 {xs ys r:List LV} {off m:Nat} (h:updO xs off m ys=some r):r=P8 xs off ys∧off+m≤xs.length:=by
  unfold updO at h
  split at h
  · rename_i q hq
    exact ⟨Qea h,(El hq).2⟩
  · cases h
theorem Qk7 (i:Nat) {T T':TypeId} {x y:Operand} {g o:Nat} {xs ys r:List LV} {m:Nat} {u:AV} {B' B2:List OB} (hs:∀ w,(Go.sizeOf T).run P w=.ok m w)
    (hi:Jr B i=some (.blk g T' xs,B')) (hx:J3 L x=some (.one (.ow g o))) (hy:J3 L y=some u) (hl:Gh u=some ys) (hm:ys.length=m) (hr:updO xs o m ys=some r) (hB2:Qiv B i (.blk g T' r)=some B2) (k:AW P ops n rest N L B2) :
    AW P ops n ({ dst:=none,op:=.store T x y,type:=ty,pos:=pos,after:=after,guard:=none }::rest) N L B:=by
  intro K Ob w0 w a Q hs0 hQ
  obtain ⟨L',Bs,h,hL,hB⟩:=hs0
  obtain ⟨hxi,rfl⟩:=Uu hi
  obtain ⟨rfl,_⟩:=Qkt hB2
  obtain ⟨rfl,hlen⟩:=Qd9 hr
  obtain ⟨v,hv,hr1⟩:=Zt hL hx
  obtain rfl:v=.pointer (some ⟨g,o,none⟩):=hr1
  obtain ⟨v2,hv2,hr2⟩:=Zt hL hy
  obtain ⟨hc2,ht2⟩:=Fq hr2 hl
  obtain ⟨q,cs,hq,hcl,hk⟩:=hB.setAt hxi
  have h2:=h.add (f:=SF L L' B Bs v2.cells.toList ys) ⟨hL,hB,hc2⟩
  refine Z3 h2 q hq hv hv2 hs rfl (hc2.len.trans hm) (by rw [Nat.ble_eq]; omega) (C4.2 hc2.one) fun w' h'=>k _ _ _ _ _ _ ?_ hQ
  obtain ⟨h3,h4,h5⟩:=h'.fact 0 rfl
  obtain ⟨h6,h7⟩:=hk h4
  exact ⟨L',_,h'.noFacts,h3,h7 _ _ (h6.upd o h5)⟩
end Orr

namespace Orr
open Go
variable {P:Program} {ops:Array Oper} {n:Nat} {rest:List Oper} {N:Sg→List OB→Prop} {L:Sg} {B:List OB}
variable {d:Nat} {ty:TypeId} {pos:String} {after:Array Edge}
theorem Rn {op:Op} {u:AV} (hd:Nat.blt d n=true)
    (hrun:∀ (K Ob:Nat→Prop) (w0 w:World) (a:Act) (Bs:List Va) (L':List (Nat×Value)) (Fs:List Fact),St K Ob w0 w a n L' Fs Bs→(∀ t x,lk L t=some x→∃ v,Z0 L' t=some v∧ARep w (Q3 Ob Bs) v x)→BsRep w (Q3 Ob Bs) B Bs →
      ∃ v,(execOp a.eval { dst:=some d,op:=op,type:=ty,pos:=pos,after:=after,guard:=none }).run P w=.ok (.value v) w∧ARep w (Q3 Ob Bs) v u) :
    AP P ops n { dst:=some d,op:=op,type:=ty,pos:=pos,after:=after,guard:=none } d u L B:=by
  intro K Ob w0 w a Bs L' Fs h hL hB
  obtain ⟨v,h1,h2⟩:=hrun K Ob w0 w a Bs L' Fs h hL hB
  exact Je h hd h1 fun a' h'=>wpList_nil ⟨rfl,v,h',h2⟩
theorem Qav (off:Nat):∀ (vs:List Value) (k:Nat) (cells:List Value),off+k+vs.length≤cells.length →
    (vs.zipIdx k).foldl (fun (cs:Array Value) (p:Value×Nat)=>cs.setIfInBounds (off+p.2) p.1) cells.toArray=(upd cells (off+k) vs).toArray
  | [],k,cells,_=>by cases cells <;> simp [upd]
  |
   v::vs,k,cells,h=>by
   simp at h
   have ih:=Qav off vs (k+1) (cells.set (off+k) v) (by simp; omega)
   simp only [List.zipIdx_cons,qYy,List.setIfInBounds_toArray]
   rw [Qgw cells (off+k) v vs (by omega)]
   exact ih
def Qas (place:Nat→Option (Nat×Nat)):List Value→List (Nat×Value)→Option (List Value)
  | cells,[]=>some cells
  |
   cells,(i,v)::rest=>match place i with
   | none=>none
   | some (off,size)=>if v.cells.size=size∧off+size≤cells.length then Qas place (upd cells off v.cells.toList) rest else none
theorem Bc {place:Nat→Option (Nat×Nat)}:∀ {parts:List (Nat×Value)} {cells cells':List Value},Qas place cells parts=some cells'→Instr.fill place cells.toArray parts=some cells'.toArray
  | [],cells,cells',h=>by simp [Qas] at h; subst h; rfl
  |
   (i,v)::rest,cells,cells',h=>by
   simp only [Qas] at h
   simp only [Instr.fill]
   cases hp:place i with
   | none=>rw [hp] at h; cases h
   |
    some q =>
    obtain ⟨off,size⟩:=q
    rw [hp] at h
    simp only at h ⊢
    split at h
    · rename_i hc
      have ih:=Bc h
      have e:¬(v.cells.size≠size || decide (off+v.cells.size>cells.toArray.size))=true:=by
        simp only [ne_eq,Bool.or_eq_true,decide_eq_true_eq,not_or,List.size_toArray]
        omega
      have hf:=Qav off v.cells.toList 0 cells (by simp; omega)
      rw [if_neg (by simpa using e)]
      rw [←ih]
      congr 1
      rw [Mp] at hf
      rw [←hf,←Array.foldl_toList]
      congr 1
      simp
    · cases h
def Mi (place:Nat→Option (Nat×Nat)):List LV→List (Nat×AV)→Option (List LV)
  | xs,[]=>some xs
  |
   xs,(i,u)::rest=>match place i with
   | none=>none
   |
    some (off,size)=>match Gh u with
    | none=>none
    |
     some ys=>match Nat.beq ys.length size with
     | false=>none
     |
      true=>match updO xs off size ys with
      | none=>none
      | some r=>Mi place r rest
theorem Sl {w:World} {O:Nat→Prop} {place:Nat→Option (Nat×Nat)}:∀ {us:List (Nat×AV)} {vs:List (Nat×Value)} {cells:List Value} {xs r:List LV},Mi place xs us=some r→XReps w O cells xs→vs.length=us.length →
    (∀ (j:Nat) (v:Nat×Value) (u:Nat×AV),vs[j]? = some v→us[j]? = some u→v.1=u.1∧ARep w O v.2 u.2)→∃ cells',Qas place cells vs=some cells'∧XReps w O cells' r
  | [],[],cells,xs,r,h,hx,_,_=>by simp [Mi] at h; subst h; exact ⟨cells,rfl,hx⟩
  | [],_::_,_,_,_,_,_,hl,_=>by simp at hl
  | _::_,[],_,_,_,_,_,hl,_=>by simp at hl
  |
   (i,u)::us,(i',v)::vs,cells,xs,r,h,hx,hl,hr=>by
   obtain ⟨e1,h1⟩:=hr 0 (i',v) (i,u) rfl rfl
   have e1:i'=i:=e1
   subst e1
   simp only [Mi] at h
   split at h
   · cases h
   · rename_i off size hp
     split at h
     · cases h
     · rename_i ys hy
       split at h
       · cases h
       · rename_i hsz
         have hsz:=Fj hsz
         split at h
         · cases h
         · rename_i q hq
           obtain ⟨rfl,hle⟩:=Qd9 hq
           obtain ⟨hc,_⟩:=Fq h1 hy
           have hcl:=hc.len
           have hxl:=hx.len
           obtain ⟨cells',h2,h3⟩:=Sl h (hx.upd off hc) (vs:=vs) (by simpa using hl) fun j a b ha hb=>hr (j+1) a b (by simpa using ha) (by simpa using hb)
           refine ⟨cells',?_,h3⟩
           simp only [Qas,hp]
           rw [if_pos ⟨by rw [←hsz,←hcl]; simp,by omega⟩]
           exact h2
theorem F5 {T:TypeId} {ps:List (Nat×Operand)} {us:List (Nat×AV)} {place:Nat→Option (Nat×Nat)} {z:Array Value} {zs r:List LV}
    (hrun:∀ {vs:List (Nat×Value)} {cs:Array Value},Instr.fill place z vs=some cs→∀ w,(Instr.build T vs.toArray).run P w=.ok (.agg cs) w)
    (hz:zl.zls z.toList=some zs) (hx:O4 L ps=some us) (hf:Mi place zs us=some r) (hd:Nat.blt d n=true) :
    AP P ops n { dst:=some d,op:=.build T ps.toArray,type:=ty,pos:=pos,after:=after,guard:=none } d (.agg r) L B:=by
  intro K Ob w0 w a Bs L' Fs h hL hB
  obtain ⟨vs,h1,h2,h3⟩:=Ax hL hx
  obtain ⟨cells,h4,h5⟩:=Sl (w:=w) (O:=Q3 Ob Bs) hf (Qed hz) h2 h3
  have h6:=Bc h4
  exact Od h h1 (fun w=>hrun (by simpa using h6) w) hd fun a' h'=>wpList_nil ⟨rfl,_,h',show ARep _ _ _ (.agg r) from ⟨cells,rfl,h5⟩⟩
theorem Qrw {S:TypeId} {x:Operand} {f off m:Nat} {ag:Bool} {xs r:List LV} {u:AV}
    (hrun:∀ (vs:List Value) (v:Value),(if ag=true then v=.agg ((vs.drop off).take m).toArray else vs[off]? = some v)→off+m≤vs.length→∀ w,(Instr.field S (.agg vs.toArray) f).run P w=.ok v w)
    (hx:J3 L x=some (.agg xs)) (hr:Qgp xs off m=some r) (hu:Wx ag r=some u) (hd:Nat.blt d n=true) :
    AP P ops n { dst:=some d,op:=.field S x f,type:=ty,pos:=pos,after:=after,guard:=none } d u L B:=by
  intro K Ob w0 w a Bs L' Fs h hL hB
  obtain ⟨v,hv,vs,rfl,hreps⟩:=Zt hL hx
  obtain ⟨rfl,hle⟩:=El hr
  have hl:=hreps.len
  have hreps':XReps w (Q3 Ob Bs) ((vs.drop off).take m) ((xs.drop off).take m):=(hreps.drop off).take m
  cases ag with
  |
   true =>
   simp only [Wx,Option.some.injEq] at hu
   subst hu
   exact Qgl h hv (hrun vs _ (by simp) (by omega)) hd fun a' h'=>wpList_nil ⟨rfl,_,h',show ARep _ _ _ (.agg _) from ⟨_,rfl,hreps'⟩⟩
  |
   false =>
   obtain ⟨y,e2,rfl⟩:=U5 hu
   rw [e2] at hreps'
   cases hvs:(vs.drop off).take m with
   | nil=>rw [hvs] at hreps'; exact hreps'.elim
   |
    cons v0 r =>
    rw [hvs] at hreps'
    have h0:vs[off]? = some v0:=by
      have:((vs.drop off).take m)[0]? = some v0:=by rw [hvs]; rfl
      rw [Ei] at this
      split at this
      · simpa using this
      · cases this
    exact Qgl h hv (hrun vs v0 (by simpa using h0) (by omega)) hd fun a' h'=>wpList_nil ⟨rfl,_,h',show ARep _ _ _ (.one y) from hreps'.1⟩
theorem Tj {K Ob:Nat→Prop} {w0 w:World} {a:Act} {L':List (Nat×Value)} {Fs:List Fact} {Bs:List Va} {g T:Nat} {vss:List (List Value)} {ex:List Value} {ls:List (List LV)} {sz lo len c o:Nat}
    (h:St K Ob w0 w a n L' Fs ((g,T,vss.flatten++ex)::Bs)) (hr:RReps w (Q3 Ob ((g,T,vss.flatten++ex)::Bs)) vss ls) (hs:∀ c∈ls,c.length=sz) (hf:∀ c∈ls,∀ x∈c,x.free=true)
    (hlen:lo+len≤ls.length) (hc:len≤c) (hc63:c<2^63) (h47:len<2^47) (ho:0<len→o=lo*sz):LRep w (Q3 Ob Bs) (.slice (some ⟨g,o,none⟩) len c) (.row ((ls.drop lo).take len)):=by
  have hl:((ls.drop lo).take len).length=len:=by simp; omega
  have hle:Le w (Q3 Ob ((g,T,vss.flatten++ex)::Bs)) w (Q3 Ob Bs):=⟨X2 _,fun _ _ _=>rfl,fun b _ ho=>ho.imp id fun hm=>Ge _ hm⟩
  have hget:∀ (i:Nat) (cs:List LV),((ls.drop lo).take len)[i]? = some cs→i<len∧ls[lo+i]? = some cs:=fun i cs hi=>by
    rw [Ei] at hi
    split at hi
    · rw [qXj] at hi; exact ⟨by assumption,hi⟩
    · cases hi
  have hall:=hr.all hs
  have key:=LRep.row (w:=w) (O:=Q3 Ob Bs) (some ⟨g,o,none⟩) c sz g (lo*sz) ((ls.drop lo).take len) (fun i j=>((vss[lo+i]?).bind (·[j]?)).getD undef) (by rw [hl]; exact hc) hc63 (by rw [hl]; exact h47)
    (fun cs hm=>hs cs (Pr (Rx hm))) (fun h0=>⟨by rw [ho (by rw [hl] at h0; exact h0)],(h.own g T _ (Fm ..)).2.1,C3 h⟩)
    (fun i cs hi j hj=>by
      obtain ⟨h1,h2⟩:=hget i cs hi
      obtain ⟨vs,h3,h4⟩:=hr.get h2
      have hcl:=hs cs (Vo h2)
      have hvl:=h4.len
      have hj2:j<vs.length:=by omega
      have e2:vss.flatten[(lo+i)*sz+j]? = vs[j]? := by
        rw [Be hall (by omega),h3]; rfl
      have hlt:(lo+i)*sz+j<vss.flatten.length:=by
        have:=Xx hj2
        rw [this] at e2
        exact (Uy.1 e2).1
      rw [h.own_cell (i:=0) rfl,show lo*sz+i*sz+j=(lo+i)*sz+j from by rw [qJx],qZy hlt,e2,h3]
      simp [Xx hj2])
    (fun i cs hi j x hx=>by
      obtain ⟨h1,h2⟩:=hget i cs hi
      obtain ⟨vs,h3,h4⟩:=hr.get h2
      obtain ⟨v,hv,hvr⟩:=h4.get hx
      rw [h3]
      simp only [Option.bind_some,hv,Option.getD_some]
      exact (hvr.free (hf cs (Vo h2) x (Vo hx))).keep hle)
  rw [hl] at key
  exact key
def R1 (sz:Nat):Nat→List LV→Option (List (List LV))
  | 0,[]=>some []
  | 0,_::_=>none
  |
   k+1,l=>match Mr sz l with
   | none=>none
   |
    some a=>match Sh sz l with
    | none=>none
    |
     some b=>match R1 sz k b with
     | none=>none
     | some r=>some (a::r)
def G9:List LV→Bool
  | []=>true
  |
   x::l=>match x.free with
   | true=>G9 l
   | false=>false
def M7:List (List LV)→Bool
  | []=>true
  |
   x::l=>match G9 x with
   | true=>M7 l
   | false=>false
theorem U9:∀ {l:List LV},G9 l=true→∀ x∈l,x.free=true
  | [],_,x,h=>by cases h
  |
   y::l,h,x,hx=>by
   simp only [G9] at h
   split at h
   · rename_i e
     rcases Vw.1 hx with rfl | hx
     · exact e
     · exact U9 h x hx
   · cases h
theorem Pj:∀ {l:List (List LV)},M7 l=true→∀ c∈l,∀ x∈c,x.free=true
  | [],_,x,h=>by cases h
  |
   y::l,h,x,hx=>by
   simp only [M7] at h
   split at h
   · rename_i e
     rcases Vw.1 hx with rfl | hx
     · exact U9 e
     · exact Pj h x hx
   · cases h
theorem Ns {w:World} {O:Nat→Prop} {sz:Nat}:∀ {k:Nat} {cs:List Value} {l:List LV} {ls:List (List LV)},XReps w O cs l→R1 sz k l=some ls→∃ vss:List (List Value),cs=vss.flatten∧RReps w O vss ls∧(∀ c∈ls,c.length=sz)∧ls.length=k
  |
   0,cs,[],ls,h,hc=>by
   simp [R1] at hc; subst hc
   cases cs with
   | nil=>exact ⟨[],rfl,trivial,by simp,rfl⟩
   | cons v vs=>exact h.elim
  | 0,cs,_::_,ls,h,hc=>by simp [R1] at hc
  |
   k+1,cs,l,ls,h,hc=>by
   simp only [R1] at hc
   split at hc
   · cases hc
   · rename_i x hx
     split at hc
     · cases hc
     · rename_i y hy
       split at hc
       · cases hc
       · rename_i r hr
         injection hc with hc; subst hc
         obtain ⟨rfl,h1⟩:=Cg hx
         obtain ⟨rfl,h2⟩:=N7 hy
         obtain ⟨vss,h3,h4,h5,h6⟩:=Ns (h.drop sz) hr
         refine ⟨cs.take sz::vss,by rw [qYm,←h3,Iy],⟨h.take sz,h4⟩,?_,by simp [h6]⟩
         intro c hm
         rcases Vw.1 hm with rfl | hm
         · simp; omega
         · exact h5 c hm
def zrep:Nat→List LV→List LV
  | 0,_=>[]
  | m+1,zs=>go zs (zrep m zs)
where go:List LV→List LV→List LV
  | [],r=>r
  | x::l,r=>x::go l r
theorem Qtc (l r:List LV):zrep.go l r=l++r:=by induction l <;> simp [zrep.go, *]
theorem Et {w:World} {O:Nat→Prop} {vs:List Value} {zs:List LV} (h:XReps w O vs zs):∀ m,XReps w O (Up m vs) (zrep m zs)
  | 0=>trivial
  |
   m+1=>by
   simp only [zrep,Up,Qtc]
   exact h.append (Et h m)
theorem Rm {T E size len:Nat} {z:Value} {zs r:List LV} {ps:List (Nat×Operand)} {us:List (Nat×AV)} {ls:List (List LV)} (hu:∀ w,(underlying T).run P w=.ok (.slice E) w) (hs:∀ w,(Go.sizeOf E).run P w=.ok size w) (hz:∀ w,(zeroValue E).run P w=.ok z w)
    (hz1:zl z=some zs) (hz2:Nat.beq zs.length size=true) (hsz:Nat.blt 0 size=true) (hl:Nat.ble (len*size) 16777216=true) (hl0:Nat.blt 0 len=true) (hx:O4 L ps=some us) (hf:Mi (fun i=>some (i*size,size)) (zrep len zs) us=some r)
    (hc:R1 size len r=some ls) (hfr:M7 ls=true) (hd:Nat.blt d n=true) :
    AP P ops n { dst:=some d,op:=.buildSlice T len ps.toArray,type:=ty,pos:=pos,after:=after,guard:=none } d (.one (.row ls)) L B:=by
  intro K Ob w0 w a Bs L' Fs h hL hB
  have hz2:=Fj hz2
  have hsz:0<size:=by rwa [Mo] at hsz
  have hl:=qXk hl
  have hl0:0<len:=by rwa [Mo] at hl0
  obtain ⟨vs,h1,h2,h3⟩:=Ax hL hx
  have hzr:=Lb (w:=w) (O:=Q3 Ob Bs) hz1
  have hzl:=hzr.len
  obtain ⟨cells,h4,h5⟩:=Sl (w:=w) (O:=Q3 Ob Bs) hf (Et hzr len) h2 h3
  have h6:=Bc h4
  obtain ⟨vss,rfl,h7,h8,h9⟩:=Ns h5 hc
  have hadd:=h.add (f:=⟨fun w O=>RReps w O vss ls,fun hle h=>h.keep hle⟩) h7
  refine V3 hadd h1 (fun w=>Vd (size:=size) (zs:=z.cells.toList) hu hs hz (by simp) (by rw [hzl]; exact hz2) hsz hl hl0 h6 w) hd fun g w' a' h'=>?_
  have h10:=h'.publish
  have h11:RReps w' _ vss ls:=h'.fact 0 rfl
  have h12:=h'
  rw [←qXg vss.flatten] at h12
  have hll:len≤16777216:=Xd (qYv len hsz) hl
  have h63:(2:Nat)^63=9223372036854775808:=by decide
  have h47:(2:Nat)^47=140737488355328:=by decide
  have key:=Tj (lo:=0) (len:=len) (c:=len) (o:=0) h12 (by rw [qXg]; exact h11) h8 (Pj hfr) (by omega) (X2 _) (by omega) (by omega) (fun _=>by simp)
  rw [qXf,Y0 (by omega)] at key
  exact wpList_nil ⟨rfl,_,{ h10 with facts:=fun f hf=>h10.facts f (Ge _ hf) },key⟩
def Qii:List Nat→AV→Sg→Option Sg
  | [],_,L=>some L
  |
   t::ts,x,L=>match Qii ts x L with
   | some r=>some ((t,x)::r)
   | none=>none
theorem Qc6 {x:AV}:∀ {ts:List Nat} {L L2:Sg},Qii ts x L=some L2→∀ t u,lk L2 t=some u→(t∈ts∧u=x)∨lk L t=some u
  | [],L,L2,h,t,u,hu=>by simp [Qii] at h; subst h; exact .inr hu
  |
   s::ts,L,L2,h,t,u,hu=>by
   simp only [Qii] at h
   split at h
   · rename_i r hr
     injection h with h; subst h
     simp only [lk] at hu
     cases e:Nat.beq t s <;> rw [e] at hu
     · rcases Qc6 hr t u hu with ⟨h1,h2⟩ | h1
       · exact .inl ⟨Ge _ h1,h2⟩
       · exact .inr h1
     · injection hu with hu
       exact .inl ⟨by rw [Fj e]; exact Fm ..,hu.symm⟩
   · cases h
def Ck (L:Sg) (x:AV):List Nat→Prop
  | []=>True
  | t::ts=>lk L t=some x∧Ck L x ts
theorem Mu {L:Sg} {x:AV}:∀ {ts:List Nat},Ck L x ts→∀ t∈ts,lk L t=some x
  | [],_,t,h=>by cases h
  |
   s::ts,h,t,ht=>by
   rcases Vw.1 ht with rfl | ht
   · exact h.1
   · exact Mu h.2 t ht
theorem Qkq {K Ob:Nat→Prop} {w0 w:World} {a:Act} {L':List (Nat×Value)} {Fs:List Fact} {Bo Bs:List Va} {r:Option (Nat×Nat)} {E sz sz' lo len:Nat} {ls:List (List LV)} {v:Value}
    (h:St K Ob w0 w a n L' Fs (Bo++Bs)) (hb:OBRep w (Q3 Ob (Bo++Bs)) (.row r E sz ls) Bo) (hv:XRep w (Q3 Ob (Bo++Bs)) v (.orow r sz' lo len)) (hsz:sz'=sz) (hlen:lo+len≤ls.length) (h47:len<140737488355328):LRep w (Q3 Ob Bs) v (.row ((ls.drop lo).take len)):=by
  subst hsz
  have e47:(2:Nat)^47=140737488355328:=by decide
  rcases r with _ | ⟨g,c⟩
  · obtain ⟨_,rfl,rfl⟩:=hb
    obtain ⟨rfl,rfl,rfl⟩:=hv
    exact .row none 0 0 0 0 [] (fun _ _=>undef) (X2 _) (by decide) (by decide) (by simp) (fun h=>absurd h (by simp)) (fun i cs hi=>by simp at hi) (fun i cs hi=>by simp at hi)
  · obtain ⟨h1,h2,h3,vss,ex,h4,rfl,h5,h6,h7⟩:=hb
    obtain ⟨h8,o,rfl,h9⟩:=hv
    exact Tj h h4 h2 h3 hlen (by omega) (by omega) (by omega) (fun h0=>h9 (.inr (by omega)))
theorem Qb8 (i:Nat) (ts:List Nat) {r:Option (Nat×Nat)} {E sz lo len:Nat} {ls ls':List (List LV)} {B':List OB} {L2:Sg} (hi:Jr B i=some (.row r E sz ls,B')) (hts:Ck L (.one (.orow r sz lo len)) ts) (hlen:lo+len≤ls.length) (h47:len<140737488355328)
    (hls:(ls.drop lo).take len=ls') (hL2:Qii ts (.one (.row ls')) L=some L2) (k:AW P ops n rest N L2 B'):AW P ops n rest N L B:=by
  intro K Ob w0 w a Q hs hQ
  obtain ⟨L',Bo,Bs,h1,h2,h3,h4⟩:=hs.front hi
  have hle:Le w (Q3 Ob (Bo++Bs)) w (Q3 Ob Bs):=⟨X2 _,fun _ _ _=>rfl,fun b _ ho=>ho.imp id fun hm=>by simp only [F6,Y7]; exact .inr hm⟩
  refine k _ _ _ _ _ _ ⟨L',Bs,h1.tailB,fun t u hu=>?_,h4.keep hle⟩ hQ
  rcases Qc6 hL2 t u hu with ⟨hm,rfl⟩ | hu
  · obtain ⟨v,hv,hr⟩:=h2 t _ (Mu hts t hm)
    subst hls
    exact ⟨v,hv,Qkq h1 h3 hr rfl hlen h47⟩
  · exact Fd hle h2 t u hu
theorem Xe (i:Nat) (ts:List Nat) {r:Option (Nat×Nat)} {E sz len:Nat} {ls:List (List LV)} {B':List OB} {L2:Sg} (hi:Jr B i=some (.row r E sz ls,B')) (hts:Ck L (.one (.orow r sz 0 len)) ts) (hlen:len=ls.length) (h47:ls.length<140737488355328)
    (hL2:Qii ts (.one (.row ls)) L=some L2) (k:AW P ops n rest N L2 B'):AW P ops n rest N L B:=by
  subst hlen
  exact Qb8 i ts hi hts (by omega) h47 (by rw [qXf,qJu]) hL2 k
theorem Xy (ts:List Nat) (E sz:Nat) {L2:Sg} (hsz:Nat.blt 0 sz=true) (hts:Ck L (.one .nils) ts) (hL2:Qii ts (.one (.orow none sz 0 0)) L=some L2) (k:AW P ops n rest N L2 (.row none E sz []::B)):AW P ops n rest N L B:=by
  rintro K Ob w0 w a Q ⟨L',Bs,h,hL,hB⟩ hQ
  rw [Mo] at hsz
  refine k _ _ _ _ _ _ ⟨L',Bs,h,fun t u hu=>?_,⟨[],Bs,rfl,⟨hsz,rfl,rfl⟩,hB⟩⟩ hQ
  rcases Qc6 hL2 t u hu with ⟨hm,rfl⟩ | hu
  · obtain ⟨v,hv,hr⟩:=hL t _ (Mu hts t hm)
    have hr:LRep w _ v .nils:=hr
    cases hr
    exact ⟨_,hv,rfl,rfl,rfl⟩
  · exact hL t u hu
theorem G4 (m:Nat) {T E sz:Nat} {x y:Operand} {p q:Int} {zs:List LV} {z:Value} {info:TypeInfo} (hu:∀ w,(underlying T).run P w=.ok (.slice E) w) (hi:∀ w,(typeInfo E).run P w=.ok info w) (hb:Nat.ble info.bytes 256=true) (hs:∀ w,(Go.sizeOf E).run P w=.ok sz w)
    (hz:∀ w,(zeroValue E).run P w=.ok z w) (hz1:zl z=some zs) (hz2:Nat.beq zs.length sz=true) (hz0:Nat.blt 0 sz=true) (hfr:G9 zs=true) (hx:J3 L x=some (.one (.int .i64 p))) (hy:J3 L y=some (.one (.int .i64 q))) (hp:p=(m:Int)) (hq:q=(m:Int)) (hm:m<274877906944) (hd:Nat.blt d n=true)
    (k:∀ r,AW P ops n rest N ((d,.one (.orow r sz 0 m))::L) (.row r E sz (List.replicate m zs)::B)) :
    AW P ops n ({ dst:=some d,op:=.makeSlice T x y,type:=ty,pos:=pos,after:=after,guard:=none }::rest) N L B:=by
  rintro K Ob w0 w a Q ⟨L',Bs,h,hL,hB⟩ hQ
  subst hp hq
  have e38:(2:Nat)^38=274877906944:=by decide
  have e63:(2:Nat)^63=9223372036854775808:=by decide
  obtain ⟨v,hv,hr⟩:=Zt hL hx
  obtain rfl:=Xn hr
  obtain ⟨v2,hv2,hr2⟩:=Zt hL hy
  obtain rfl:=Xn hr2
  have hz2:=Fj hz2
  have hzr:=Lb (w:=w) (O:=Q3 Ob Bs) hz1
  have hzl:=hzr.len
  have hzs:z.cells.toList.length=sz:=by omega
  have hz0':0<sz:=by rwa [Mo] at hz0
  have h2:=h.add (f:=SF L L' B Bs z.cells.toList zs) ⟨hL,hB,hzr⟩
  refine F8 (zs:=z.cells.toList) h2 hv hv2 hu hi hb (by rw [hzs]; exact hs) hz (by simp) (by rw [hzs]; exact hz0) (by omega) hd fun g w' a' h'=>?_
  obtain ⟨h3,h4,h5⟩:=h'.fact 0 rfl
  refine k (some (g,m)) _ _ _ _ _ _ (SA.of (Bo:=[_]) h'.noFacts (Gk h3 ?_) ?_ h4) hQ
  · exact ⟨by omega,0,rfl,fun _=>by simp⟩
  · refine ⟨hz0',fun c hc=>by rw [qZx hc]; exact hz2,fun c hc=>by rw [qZx hc]; exact U9 hfr,List.replicate m z.cells.toList,[],?_,by rw [Qbn]; simp,?_,by simp,by omega⟩
    · refine RReps.of (by simp) fun j v x hv hx=>?_
      have hv:=qZx (Vo hv)
      have hx:=qZx (Vo hx)
      rw [hv,hx]
      exact h5
    · rw [qXg,Vf (sz:=sz) (fun c hc=>by rw [qZx hc]; exact hzs)]; simp
theorem Qpt {w:World} {O:Nat→Prop} {v:Value} {l:List (List LV)} {sz:Nat} (h:LRep w O v (.row l)) (hs:∀ c∈l,c.length=sz):∃ vss:List (List Value),RReps w O vss l∧Src w v sz l.length vss.flatten:=by
  cases h with
  |
   row A c sz' b o l f hc hc63 hl hs' hA hcell hrep =>
   have hlen:∀ (i:Nat) (cs:List LV),l[i]? = some cs→cs.length=sz:=fun i cs hi=>hs cs (Vo hi)
   let vss:=(List.range l.length).map fun i=>(List.range sz).map (f i)
   have hg:∀ (i:Nat) (vs:List Value),vss[i]? = some vs→i<l.length∧vs=(List.range sz).map (f i):=fun i vs hi=>by
     simp only [vss,S1] at hi
     rcases Mq i l.length with h1 | h1
     · rw [qJj h1] at hi
       exact ⟨h1,by simpa using hi.symm⟩
     · rw [Eh (by simpa using h1)] at hi; cases hi
   have hall:∀ c∈vss,c.length=sz:=fun c hm=>by
     obtain ⟨i,hi⟩:=qZr.1 hm
     rw [(hg i c hi).2]; simp
   have hrr:RReps w O vss l:=by
     refine RReps.of (by simp [vss]) fun i vs xs hv hx=>?_
     obtain ⟨h1,rfl⟩:=hg i vs hv
     have hxl:=hlen i xs hx
     refine XReps.of (by simp [hxl]) fun j u x hu hx2=>?_
     rw [S1] at hu
     rcases Mq j sz with h2 | h2
     · rw [qJj h2] at hu
       have hu:f i j=u:=by simpa using hu
       subst hu
       exact (hrep i xs hx j x hx2).x
     · rw [Eh (by simpa using h2)] at hu; cases hu
   refine ⟨vss,hrr,by rw [Vf hall]; simp [vss],A,c,rfl,fun h0=>?_⟩
   obtain ⟨e,_,_⟩:=hA h0
   refine ⟨b,o,e,fun j v hj=>?_⟩
   rcases Hl sz with hz | hz
   · have:vss.flatten=[]:=P5 (by rw [Vf hall,hz,qXz])
     rw [this] at hj; simp at hj
   · have ej:j=j / sz*sz+j % sz:=by rw [O7]; exact (qXi j sz).symm
     have hm:=Tv j hz
     rw [ej,Be hall hm] at hj
     cases hq:vss[j / sz]? with
     | none=>rw [hq] at hj; simp at hj
     |
      some ds =>
      rw [hq] at hj
      obtain ⟨h1,rfl⟩:=hg _ _ hq
      have hx:=Xx h1
      have h2:=hcell _ _ hx (j % sz) (by rw [hlen _ _ hx]; exact hm)
      have e3:sz'=sz:=by rw [←hs' _ (qJa h1),hlen _ _ hx]
      subst e3
      have hj:f (j / sz') (j % sz')=v:=by simpa [hm] using hj
      subst hj
      have e5:o+j=o+j / sz'*sz'+j % sz':=by rw [qYl,←ej]
      rw [e5]
      exact h2
theorem Bv {w:World} {O:Nat→Prop} {v:Value} (h:LRep w O v .nils):LRep w O v (.row []):=by
  cases h
  exact .row none 0 0 0 0 [] (fun _ _=>undef) (X2 _) (by decide) (by decide) (by simp) (fun h=>absurd h (by simp)) (fun i cs hi=>by simp at hi) (fun i cs hi=>by simp at hi)
def Qps:LV→Option (List (List LV))
  | .row l=>some l
  | .nils=>some []
  | _=>none
theorem Qs2 {w:World} {O:Nat→Prop} {v:Value} {x:LV} {l:List (List LV)} (h:XRep w O v x) (hl:Qps x=some l):LRep w O v (.row l):=by
  unfold Qps at hl
  split at hl <;> first | cases hl | (injection hl with hl; subst hl)
  · exact h
  · exact Bv h
theorem Qab (i:Nat) {T E T2 E2 sz len m2:Nat} {x y:Operand} {z:Value} {info:TypeInfo} {r:Option (Nat×Nat)} {ls l2 ls2:List (List LV)} {u qx:LV} {B':List OB} {zs:List LV} (hu:∀ w,(underlying T).run P w=.ok (.slice E) w) (hu2:∀ w,(underlying T2).run P w=.ok (.slice E2) w) (hi':∀ w,(typeInfo E).run P w=.ok info w) (hb2:Nat.ble info.bytes 4096=true) (hb3:Nat.blt 0 info.bytes=true) (hs:∀ w,(Go.sizeOf E).run P w=.ok sz w)
    (hz:∀ w,(zeroValue E).run P w=.ok z w) (hz1:zl z=some zs) (hz2:Nat.beq zs.length sz=true) (hi:Jr B i=some (.row r E sz ls,B')) (hx:J3 L x=some (.one qx)) (hq:∀ w O v,XRep w O v qx→XRep w O v (.orow r sz 0 len)) (hy:J3 L y=some (.one u)) (hl2:Qps u=some l2) (hd:Nat.blt d n=true)
    (hlen:len≤ls.length) (hw:∀ c∈l2,c.length=sz) (hfr:∀ c∈l2,∀ x∈c,x.free=true) (hm:len+l2.length<8589934592) (hls:ls.take len++l2=ls2) (hm2:len+l2.length=m2)
    (k:∀ r',AW P ops n rest N ((d,.one (.orow r' sz 0 m2))::L) (.row r' E sz ls2::B')) :
    AW P ops n ({ dst:=some d,op:=.call { callee:=.builtin .append,args := #[x,y],argTypes := #[T,T2] },type:=ty,pos:=pos,after:=after,guard:=none }::rest) N L B:=by
  intro K Ob w0 w a Q hs0 hQ
  subst hls hm2
  obtain ⟨L',Bo,Bs,h,hL,hb,hB⟩:=hs0.front hi
  have e33:(2:Nat)^33=8589934592:=by decide
  obtain ⟨v,hv,hr0⟩:=Zt hL hx
  have hr:XRep w (Q3 Ob (Bo++Bs)) v (.orow r sz 0 len):=hq _ _ _ hr0
  obtain ⟨v2,hv2,hr2⟩:=Zt hL hy
  have hz2:=Fj hz2
  have hzl:=(Lb (w:=w) (O:=Q3 Ob (Bo++Bs)) hz1).len
  have hr2:XRep w (Q3 Ob (Bo++Bs)) v2 u:=hr2
  obtain ⟨nss,hn,hsrc⟩:=Qpt (Qs2 hr2 hl2) hw
  have hone:∀ q∈nss.flatten,one q=true:=by
    intro q hq
    obtain ⟨c,hc,hqc⟩:=List.mem_flatten.1 hq
    obtain ⟨j,hj⟩:=qZr.1 hc
    have hjl:j<l2.length:=by rw [←hn.len]; exact (Uy.1 hj).1
    exact (hn.get' hj (Xx hjl)).one q hqc
  -- the row as0 it was
  have key:∃ oss:List (List Value),RReps w (Q3 Ob (Bo++Bs)) oss (ls.take len)∧Ry v E sz len oss.flatten Bo∧0<sz∧(∀ c∈ls,c.length=sz)∧(∀ c∈ls,∀ x∈c,x.free=true):=by
    rcases r with _ | ⟨g,c⟩
    · obtain ⟨h0,rfl,rfl⟩:=hb
      obtain ⟨rfl,_,rfl⟩:=hr
      exact ⟨[],trivial,⟨by simp,.inl ⟨rfl,rfl,rfl⟩⟩,h0,by simp,by simp⟩
    · obtain ⟨h0,h2,h3,vss,ex,h4,rfl,h5,h6,h7⟩:=hb
      obtain ⟨h8,o,rfl,h9⟩:=hr
      obtain rfl:o=0:=by simpa using h9 (.inl rfl)
      have hall:=h4.all h2
      have hvl:=h4.len
      refine ⟨vss.take len,?_,⟨?_,.inr ⟨g,c,(vss.drop len).flatten++ex,rfl,?_,?_,by omega,h7⟩⟩,h0,h2,h3⟩
      · refine RReps.of (by simp [hvl]) fun j v x hv hx=>?_
        rw [Ei] at hv hx
        split at hv <;> first | cases hv | skip
        rename_i hj
        rw [if_pos hj] at hx
        exact h4.get' hv hx
      · rw [Vf (sz:=sz) fun c hc=>hall c (Rx hc),Kd,Nb (by omega)]
      · have e:vss.flatten=(vss.take len).flatten++(vss.drop len).flatten:=by rw [←qJc,Iy]
        rw [e,P6]
      · rw [←P6,←qJc,Iy]; exact h5
  obtain ⟨oss,ho,hown,h0,hall,hfree⟩:=key
  have h2:=h.add (f:=⟨fun w O=>(∀ t x,lk L t=some x→∃ v,Z0 L' t=some v∧ARep w O v x)∧BsRep w O B' Bs∧RReps w O oss (ls.take len)∧RReps w O nss l2,fun hle h=>⟨Fd hle h.1,h.2.1.keep hle,h.2.2.1.keep hle,h.2.2.2.keep hle⟩⟩) ⟨hL,hB,ho,hn⟩
  refine Oc (zs:=z.cells.toList) h2 hv hv2 hu hu2 hi' hb2 hb3 hs hz (by simp) (by omega) hown hsrc hone (by omega) hd fun v' w' Bo' a' ho' h'=>?_
  have h3:=h'.fact 0 rfl
  obtain ⟨h4,h5,h6,h7⟩:=h3
  obtain ⟨hcl,⟨rfl,hm0,rfl⟩ | ⟨g,c,ex,rfl,rfl,hl,hmc,hc63⟩⟩:=ho'
  · refine k none _ _ _ _ _ _ (SA.of (Bo:=[]) h'.noFacts (Gk h4 ?_) ?_ h5) hQ
    · exact ⟨rfl,rfl,hm0⟩
    · refine ⟨h0,P5 ?_,rfl⟩
      rw [Fl,Kd,Nb hlen]; exact hm0
  · have e1:oss.flatten++nss.flatten=(oss++nss).flatten:=by simp
    refine k (some (g,c)) _ _ _ _ _ _ (SA.of (Bo:=[_]) h'.noFacts (Gk h4 ?_) ?_ h5) hQ
    · exact ⟨by omega,0,rfl,fun _=>by simp⟩
    · refine ⟨h0,?_,?_,oss++nss,ex,h6.append h7,by rw [e1],by rw [←e1]; exact hl,by simp; omega,hc63⟩
      · intro c hc
        rcases Y7.1 hc with hc | hc
        · exact hall c (Rx hc)
        · exact hw c hc
      · intro c hc
        rcases Y7.1 hc with hc | hc
        · exact hfree c (Rx hc)
        · exact hfr c hc
theorem Zg (i:Nat) {T E T2 E2 sz len m2:Nat} {x y:Operand} {z:Value} {info:TypeInfo} {r:Option (Nat×Nat)} {ls l2 ls2:List (List LV)} {u:LV} {B':List OB} {zs:List LV} (hu:∀ w,(underlying T).run P w=.ok (.slice E) w) (hu2:∀ w,(underlying T2).run P w=.ok (.slice E2) w) (hi':∀ w,(typeInfo E).run P w=.ok info w) (hb2:Nat.ble info.bytes 4096=true) (hb3:Nat.blt 0 info.bytes=true) (hs:∀ w,(Go.sizeOf E).run P w=.ok sz w)
    (hz:∀ w,(zeroValue E).run P w=.ok z w) (hz1:zl z=some zs) (hz2:Nat.beq zs.length sz=true) (hi:Jr B i=some (.row r E sz ls,B')) (hx:J3 L x=some (.one (.orow r sz 0 len))) (hy:J3 L y=some (.one u)) (hl2:Qps u=some l2) (hd:Nat.blt d n=true)
    (hlen:len≤ls.length) (hw:∀ c∈l2,c.length=sz) (hfr:∀ c∈l2,∀ x∈c,x.free=true) (hm:len+l2.length<8589934592) (hls:ls.take len++l2=ls2) (hm2:len+l2.length=m2)
    (k:∀ r',AW P ops n rest N ((d,.one (.orow r' sz 0 m2))::L) (.row r' E sz ls2::B')) :
    AW P ops n ({ dst:=some d,op:=.call { callee:=.builtin .append,args := #[x,y],argTypes := #[T,T2] },type:=ty,pos:=pos,after:=after,guard:=none }::rest) N L B :=
  Qab i hu hu2 hi' hb2 hb3 hs hz hz1 hz2 hi hx (fun _ _ _ h=>h) hy hl2 hd hlen hw hfr hm hls hm2 k
theorem Rc {T E T2 E2 sz m2:Nat} {x y:Operand} {z:Value} {info:TypeInfo} {l2 ls2:List (List LV)} {u:LV} {zs:List LV} (hu:∀ w,(underlying T).run P w=.ok (.slice E) w) (hu2:∀ w,(underlying T2).run P w=.ok (.slice E2) w) (hi':∀ w,(typeInfo E).run P w=.ok info w) (hb2:Nat.ble info.bytes 4096=true) (hb3:Nat.blt 0 info.bytes=true) (hs:∀ w,(Go.sizeOf E).run P w=.ok sz w)
    (hz:∀ w,(zeroValue E).run P w=.ok z w) (hz1:zl z=some zs) (hz2:Nat.beq zs.length sz=true) (hsz:Nat.blt 0 sz=true) (hx:J3 L x=some (.one .nils)) (hy:J3 L y=some (.one u)) (hl2:Qps u=some l2) (hd:Nat.blt d n=true)
    (hw:∀ c∈l2,c.length=sz) (hfr:∀ c∈l2,∀ x∈c,x.free=true) (hm:l2.length<8589934592) (hls:l2=ls2) (hm2:l2.length=m2)
    (k:∀ r',AW P ops n rest N ((d,.one (.orow r' sz 0 m2))::L) (.row r' E sz ls2::B)) :
    AW P ops n ({ dst:=some d,op:=.call { callee:=.builtin .append,args := #[x,y],argTypes := #[T,T2] },type:=ty,pos:=pos,after:=after,guard:=none }::rest) N L B:=by
  rintro K Ob w0 w a Q ⟨L',Bs,h,hL,hB⟩ hQ
  rw [Mo] at hsz
  refine Qab (B:=.row none E sz []::B) (B':=B) (r:=none) (len:=0) (ls:=[]) (ls2:=ls2) (m2:=m2) 0 hu hu2 hi' hb2 hb3 hs hz hz1 hz2 rfl hx (fun _ _ _ h=>?_) hy hl2 hd (X2 _) hw hfr (by omega) (by simpa using hls) (by omega) k K Ob w0 w a Q ⟨L',Bs,h,hL,⟨[],Bs,rfl,⟨hsz,rfl,rfl⟩,hB⟩⟩ hQ
  have h:LRep _ _ _ .nils:=h
  cases h
  exact ⟨rfl,rfl,rfl⟩
end Orr

namespace Orr
open Go
variable {P:Program} {ops:Array Oper} {n:Nat} {rest:List Oper} {N:Sg→List OB→Prop} {L:Sg} {B:List OB} {Q:Exit→Sg→List OB→Prop}
variable {d:Nat} {ty:TypeId} {pos:String} {after:Array Edge}
def Qx9 (Y:Sg→List OB→Prop) (Q:Exit→Sg→List OB→Prop):Exit→Sg→List OB→Prop
  | .normal,L,B=>Y L B
  | e,L,B=>Q e L B
def Qxa (id:Nat) (Q:Exit→Sg→List OB→Prop):Exit→Sg→List OB→Prop
  | .exit id',L,B=>if id'=id then Q .normal L B else Q (.exit id') L B
  | e,L,B=>Q e L B
theorem Pf {c:Code} {Q':Exit→Sg→List OB→Prop} (h:AC P n c Q' L B) (hq:∀ e L B,Q' e L B→Q e L B):AC P n c Q L B:=fun K Ob w0 w a hs =>
  wp_mono (h K Ob w0 w a hs) fun e a w ⟨L,B,h1,h2⟩=>⟨L,B,h1,hq e L B h2⟩
theorem Qua {x y:Code} (h:AC P n x (Qx9 (fun L B=>AC P n y Q L B) Q) L B):AC P n (.seq x y) Q L B:=fun K Ob w0 w a hs=>by
  refine wp_seq (wp_mono (h K Ob w0 w a hs) fun e a w ⟨L,B,h1,h2⟩=>?_)
  cases e <;> first | exact h2 K Ob w0 w a h1 | exact ⟨L,B,h1,h2⟩
theorem Qt9 {id:Nat} {l:List Oper} (h:AW P l.toArray n l (fun L B=>Q .normal L B) L B):AC P n (.region id l.toArray false) Q L B:=fun K Ob w0 w a hs =>
  wp_region_lit (h K Ob w0 w a _ hs fun a' w' ⟨L,B,h1,h2⟩=>⟨L,B,h1,h2⟩)
theorem Qq2 (h:Q .normal L B):AC P n .skip Q L B:=fun K Ob w0 w a hs=>wp_skip ⟨L,B,hs,h⟩
theorem Qq1 {id:Nat} (h:Q (.exit id) L B):AC P n (.exit id) Q L B:=fun K Ob w0 w a hs=>wp_exit ⟨L,B,hs,h⟩
theorem Ey (h:Q .ret L B):AC P n .ret Q L B:=fun K Ob w0 w a hs=>wp_ret ⟨L,B,hs,h⟩
theorem Qnh {id:Nat} {c:Code} (h:AC P n c (Qxa id Q) L B):AC P n (.block id c) Q L B:=fun K Ob w0 w a hs=>by
  refine wp_block (wp_mono (h K Ob w0 w a hs) fun e a w ⟨L,B,h1,h2⟩=>?_)
  cases e <;> first | exact ⟨L,B,h1,h2⟩ | skip
  rename_i id'
  simp only [Exit.inBlock,Qxa] at h2 ⊢
  split
  · rename_i hi; rw [if_pos hi] at h2; exact ⟨L,B,h1,h2⟩
  · rename_i hi; rw [if_neg hi] at h2; exact ⟨L,B,h1,h2⟩
theorem Qb7 {c:Operand} {x y:Code} {b:Bool} (hc:J3 L c=some (.one (.bool b))) (ht:b=true→AC P n x Q L B) (hf:b=false→AC P n y Q L B):AC P n (.cond c x y) Q L B:=by
  rintro K Ob w0 w a ⟨L',Bs,h,hL,hB⟩
  obtain ⟨v,hv,hr⟩:=Zt hL hc
  obtain rfl:=Kq hr
  exact Yo h hv (fun e=>ht e K Ob w0 w a ⟨L',Bs,h,hL,hB⟩) (fun e=>hf e K Ob w0 w a ⟨L',Bs,h,hL,hB⟩)
theorem Qz7 {c:Operand} {x y:Code} {b:Bool} (hc:J3 L c=some (.one (.bool b))) (hb:b=true) (ht:AC P n x Q L B):AC P n (.cond c x y) Q L B:=Qb7 hc (fun _=>ht) (fun e=>by rw [hb] at e; cases e)
theorem Qz6 {c:Operand} {x y:Code} {b:Bool} (hc:J3 L c=some (.one (.bool b))) (hb:b=false) (hf:AC P n y Q L B):AC P n (.cond c x y) Q L B:=Qb7 hc (fun e=>by rw [hb] at e; cases e) (fun _=>hf)
theorem Qjj {c:Code} (I:Nat→Sg→List OB→Prop) {m:Nat} (h0:I m L B) (round:∀ m L B,I m L B→AC P n c (Qx9 (fun L B=>∃ m',m'<m∧I m' L B) Q) L B):AC P n (.loop c) Q L B:=fun K Ob w0 w a hs=>by
  refine Gc (fun m a w=>∃ L B,SA K Ob w0 w a n L B∧I m L B) (m:=m) ⟨L,B,hs,h0⟩ ?_
  rintro m a w ⟨L,B,h1,h2⟩
  refine wp_mono (round m L B h2 K Ob w0 w a h1) fun e a w ⟨L,B,h3,h4⟩=>?_
  cases e <;> first | exact ⟨L,B,h3,h4⟩ | skip
  obtain ⟨m',hlt,hI⟩:=h4
  exact ⟨m',hlt,L,B,h3,hI⟩
theorem SA.toFront {K Ob:Nat→Prop} {w0 w:World} {a:Act} (h:SA K Ob w0 w a n L B) {i:Nat} {x:OB} {r:List OB} (hi:Jr B i=some (x,r)):SA K Ob w0 w a n L (x::r):=by
  obtain ⟨L',Bo,Bs,h1,h2,h3,h4⟩:=h.front hi
  exact SA.of h1 h2 h3 h4
theorem Qel (i:Nat) {x:OB} {r:List OB} (hi:Jr B i=some (x,r)) (k:AW P ops n rest N L (x::r)):AW P ops n rest N L B:=fun _ _ _ _ _ _ hs hQ=>k _ _ _ _ _ _ (hs.toFront hi) hQ
structure Held (w:World) (Ob:Nat→Prop) (Bi:List Va):Prop where
  own:∀ g T cs,(g,T,cs)∈Bi→g<w.heap.size∧w.heap[g]? = some (D1 T cs)∧¬Ob g
  nodup:(Bi.map (·.1)).Nodup
structure Moved (w w':World) (Bi Bo:List Va):Prop where
  size:w.heap.size≤w'.heap.size
  keep:∀ b,b<w.heap.size→b∉Bi.map (·.1)→w'.heap[b]? = w.heap[b]?
  from_:∀ b,b<w.heap.size→b∈Bo.map (·.1)→b∈Bi.map (·.1)
  io:w'.os=w.os∧w'.output=w.output
def Us (P:Program) (f:Nat) (args:List AV) (Bin:List OB) (Post:AV→List OB→Prop):Prop :=
  ∀ (Ob:Nat→Prop) (W:World) (vs:List Value) (Bi:List Va),(∀ b,Ob b→b<W.heap.size)→Held W Ob Bi→TReps W (Q3 Ob Bi) vs args→BsRep W (Q3 Ob Bi) Bin Bi →
    Calls P f vs.toArray W fun e w'=>∃ v r Bout Bo,e=.returned v∧Post r Bout∧ARep w' (Q3 Ob Bo) v r∧BsRep w' (Q3 Ob Bo) Bout Bo∧Moved W w' Bi Bo∧Held w' Ob Bo
def Is (r:AV) (x:AV) (B:List OB):Prop:=x=r∧B=[]
abbrev Za (P:Program) (f:Nat) (args:List AV) (r:AV):Prop:=Us P f args [] (Is r)
theorem St.held {K Ob:Nat→Prop} {w0 w:World} {a:Act} {L':List (Nat×Value)} {Fs:List Fact} {Bi Br:List Va} (h:St K Ob w0 w a n L' Fs (Bi++Br)):Held w (Q3 Ob Br) Bi:=by
  refine ⟨fun g T cs hm=>?_,?_⟩
  · obtain ⟨h1,h2,h3⟩:=h.own g T cs (Y7.2 (.inl hm))
    refine ⟨h2,h3,fun ho=>?_⟩
    have hg:g∈Bi.map (·.1):=Ww.2 ⟨_,hm,rfl⟩
    rcases ho with ho | ho
    · exact h.ownO g (by simp only [F6,Y7]; exact .inl hg) ho
    · have:=h.nodup
      rw [F6,qYn] at this
      exact this.2.2 g hg g ho rfl
  · have:=h.nodup
    rw [F6,qYn] at this
    exact this.1
theorem Qbb (Ob:Nat→Prop) (Bi Br:List Va):Q3 (Q3 Ob Br) Bi=Q3 Ob (Bi++Br):=by
  funext b
  simp only [Q3,F6,Y7]
  exact propext ⟨fun h=>by rcases h with (h | h) | h <;> simp [h],fun h=>by rcases h with h | h | h <;> simp [h]⟩
theorem St.moved {K Ob:Nat→Prop} {w0 w w':World} {a:Act} {L':List (Nat×Value)} {Fs:List Fact} {Bi Bo Br:List Va} (h:St K Ob w0 w a n L' Fs (Bi++Br)) (hm:Moved w w' Bi Bo) (hh:Held w' (Q3 Ob Br) Bo):St K Ob w0 w' a n L' Fs (Bo++Br):=by
  have hheld:=h.held
  have hdis:∀ b,b∈Br.map (·.1)→b∉Bi.map (·.1):=fun b hb hi=>by
    have:=h.nodup
    rw [F6,qYn] at this
    exact this.2.2 b hi b hb rfl
  have hbr:∀ g T cs,(g,T,cs)∈Br→¬K g∧g<w.heap.size∧w'.heap[g]? = some (D1 T cs):=fun g T cs hmem=>by
    obtain ⟨h1,h2,h3⟩:=h.own g T cs (Y7.2 (.inr hmem))
    exact ⟨h1,h2,(hm.keep g h2 (hdis g (Ww.2 ⟨_,hmem,rfl⟩))).trans h3⟩
  refine { h with io:=⟨hm.io.1.trans h.io.1,hm.io.2.trans h.io.2⟩,wsize:=Xd h.wsize hm.size,grow:=fun b hb=>?_,own:=fun g T cs hmem=>?_,nodup:=?_,facts:=fun f hf=>?_,ownO:=fun b hb=>?_ }
  · refine (hm.keep b (qZv (h.base b hb) h.wsize) fun hi=>?_).trans (h.grow b hb)
    obtain ⟨⟨g,T,cs⟩,hg,rfl⟩:=Ww.1 hi
    exact (h.own g T cs (Y7.2 (.inl hg))).1 hb
  · rcases Y7.1 hmem with hmem | hmem
    · obtain ⟨h1,h2,h3⟩:=hh.own g T cs hmem
      refine ⟨fun hk=>?_,h1,h2⟩
      have hlt:=qZv (h.base g hk) h.wsize
      have hi:=hm.from_ g hlt (Ww.2 ⟨_,hmem,rfl⟩)
      obtain ⟨⟨g',T',cs'⟩,hg,e⟩:=Ww.1 hi
      have e:g'=g:=e
      subst e
      exact (h.own g' T' cs' (Y7.2 (.inl hg))).1 hk
    · obtain ⟨h1,h2,h3⟩:=hbr g T cs hmem
      exact ⟨h1,qZv h2 hm.size,h3⟩
  · rw [F6,qYn]
    have hn:=h.nodup
    rw [F6,qYn] at hn
    refine ⟨hh.nodup,hn.2.1,fun x hx y hy e=>?_⟩
    subst e
    obtain ⟨⟨g,T,cs⟩,hg,rfl⟩:=Ww.1 hx
    exact (hh.own g T cs hg).2.2 (.inr hy)
  · refine f.keep ⟨hm.size,fun b hb hno=>?_,fun b hb ho=>?_⟩ (h.facts f hf)
    · refine hm.keep b hb fun hi=>hno (.inr ?_)
      simp only [F6,Y7]; exact .inl hi
    · simp only [Q3,F6,Y7] at ho ⊢
      rcases ho with ho | ho | ho
      · exact .inl ho
      · exact .inr (.inl (hm.from_ b hb ho))
      · exact .inr (.inr ho)
  · simp only [F6,Y7] at hb
    rcases hb with hb | hb
    · obtain ⟨⟨g,T,cs⟩,hg,rfl⟩:=Ww.1 hb
      exact fun ho=>(hh.own g T cs hg).2.2 (.inl ho)
    · exact h.ownO b (by simp only [F6,Y7]; exact .inr hb)
def LV.isNil:LV→Bool
  | .nils=>true
  | _=>false
def W3:List LV→Option (List LV)
  | []=>some []
  |
   x::l=>match W3 l with
   | none=>none
   |
    some r=>match x.isNil with
    | true=>some (.row []::r)
    | false=>some (x::r)
def Pa:List AV→Option (List AV)
  | []=>some []
  |
   u::l=>match Pa l with
   | none=>none
   |
    some r=>match u with
    |
     .one x=>match x.isNil with
     | true=>some (.one (.row [])::r)
     | false=>some (.one x::r)
    |
     .agg xs=>match W3 xs with
     | some ys=>some (.agg ys::r)
     | none=>none
    | _=>none
theorem Nk:∀ {xs ys:List LV},W3 xs=some ys→ys.length=xs.length
  | [],ys,h=>by simp [W3] at h; subst h; rfl
  |
   x::l,ys,h=>by
   simp only [W3] at h
   split at h
   · cases h
   · rename_i r hl
     have ih:=Nk hl
     split at h <;> injection h with h <;> subst h <;> simp [ih]
theorem Ru {w:World} {O:Nat→Prop}:∀ {xs ys:List LV} {vs:List Value},W3 xs=some ys→XReps w O vs xs→XReps w O vs ys
  | [],ys,vs,h,hr=>by simp [W3] at h; subst h; exact hr
  | x::l,ys,[],h,hr=>hr.elim
  |
   x::l,ys,v::vs,h,hr=>by
   simp only [W3] at h
   split at h
   · cases h
   · rename_i r hl
     have ih:=Ru hl hr.2
     split at h <;> injection h with h <;> subst h
     · rename_i e
       have:x=.nils:=by cases x <;> first | rfl | (simp [LV.isNil] at e)
       subst this
       exact ⟨(Bv hr.1).x,ih⟩
     · exact ⟨hr.1,ih⟩
theorem Pc {w:World} {O:Nat→Prop}:∀ {us ys:List AV} {vs:List Value},Pa us=some ys→vs.length=us.length→(∀ (j:Nat) (v:Value) (u:AV),vs[j]? = some v→us[j]? = some u→ARep w O v u)→TReps w O vs ys
  |
   [],ys,vs,h,hl,hr=>by
   simp [Pa] at h; subst h
   have:vs=[]:=P5 hl
   subst this; trivial
  | u::l,ys,[],h,hl,hr=>by simp at hl
  |
   u::l,ys,v::vs,h,hl,hr=>by
   simp only [Pa] at h
   split at h
   · cases h
   · rename_i r hr'
     have ih:=Pc hr' (vs:=vs) (by simpa using hl) fun j a b ha hb=>hr (j+1) a b (by simpa using ha) (by simpa using hb)
     have h0:=hr 0 v u rfl rfl
     split at h
     · rename_i x
       split at h <;> injection h with h <;> subst h
       · rename_i e
         have:x=.nils:=by cases x <;> first | rfl | (simp [LV.isNil] at e)
         subst this
         exact ⟨(Bv h0).x,ih⟩
       · exact ⟨h0,ih⟩
     · rename_i xs
       split at h
       · rename_i zs hz
         injection h with h; subst h
         obtain ⟨vs',e,h1⟩:=h0
         exact ⟨⟨vs',e,Ru hz h1⟩,ih⟩
       · cases h
     · cases h
theorem Yh {f:FuncId} {fn:Func} {xs:List Operand} {us args:List AV} {ats:Array TypeId} {Bin Br:List OB} {Post:AV→List OB→Prop} (hf:P.funcs[f]? = some fn) (hn:(fn.name == "runtime.NumGoroutine")=false) (hb:fn.body.isNone=false)
    (hx:Cu L xs=some us) (hun:Pa us=some args) (hc:Us P f args Bin Post) (hd:Nat.blt d n=true) (k:∀ r Bo,Post r Bo→AW P ops n rest N ((d,r)::L) (Bo++Br)) :
    AW P ops n ({ dst:=some d,op:=.call { callee:=.value (.func f),args:=xs.toArray,argTypes:=ats },type:=ty,pos:=pos,after:=after,guard:=none }::rest) N L (Bin++Br):=by
  rintro K Ob w0 w a Q ⟨L',Bs,h,hL,hB⟩ hQ
  obtain ⟨vs,h1,h2,h3⟩:=Cv hL hx
  have hargs:=Pc hun h2 h3
  have hsplit:∀ {Bin Br:List OB} {Bs:List Va},BsRep w (Q3 Ob Bs) (Bin++Br) Bs→∀ {O},O=Q3 Ob Bs→∃ Bi Bq,Bs=Bi++Bq∧BsRep w O Bin Bi∧BsRep w O Br Bq:=by
    have key:∀ {O:Nat→Prop} {Bin Br:List OB} {Bs:List Va},BsRep w O (Bin++Br) Bs→∃ Bi Bq,Bs=Bi++Bq∧BsRep w O Bin Bi∧BsRep w O Br Bq:=by
      intro O Bin
      induction Bin with
      | nil=>intro Br Bs h; exact ⟨[],Bs,rfl,rfl,h⟩
      |
       cons b Bin ih =>
       intro Br Bs h
       obtain ⟨Bo,Bs',rfl,h1,h2⟩:=h
       obtain ⟨Bi,Bq,rfl,h3,h4⟩:=ih h2
       exact ⟨Bo++Bi,Bq,by simp,⟨Bo,Bi,rfl,h1,h3⟩,h4⟩
    intro Bin Br Bs h O e; subst e; exact key h
  obtain ⟨Bi,Bq,rfl,h4,h5⟩:=hsplit hB rfl
  rw [←Qbb] at hargs h4
  have hcall:=hc (Q3 Ob Bq) w vs Bi (fun b hb=>h.owns_lt (by simp only [Q3,F6,Y7]; exact hb.imp id .inr)) h.held hargs h4
  refine wpList_plain rfl fun K' hK=>?_
  unfold Oper.wp
  have e:(execOp a.eval { dst:=some d,op:=.call { callee:=.value (.func f),args:=xs.toArray,argTypes:=ats },type:=ty,pos:=pos,after:=after,guard:=none }).run P w=.ok (.enter f vs.toArray) w:=by
    have hxs:=h.evl h1
    have he:a.eval (.func f)=.func (.func f) #[] #[]:=rfl
    simp only [execOp,resolve,he,Deferred.ofValue,hxs,Sem.run_bind,Sem.run_pure,Result.andThen_ok,invoke]
    rw [show (#[]:Array Value)++vs.toArray ++ #[]=vs.toArray from by simp]
    exact Fg w hf hn hb
  rw [e]
  simp only [Oper.upon]
  refine hcall.mono fun e' w' hr=>?_
  obtain ⟨v,r,Bout,Bo,rfl,h6,h7,h8,h9,h10⟩:=hr
  have hadd:=h.add (f:=SF L L' Br Bq [] []) ⟨hL,h5,trivial⟩
  have h11:=hadd.moved h9 h10
  obtain ⟨h12,h13,_⟩:=h11.fact 0 rfl
  rw [Qbb] at h7 h8
  refine hK _ _ (k r Bout h6 _ _ _ _ _ _ ⟨(d,v)::L',Bo++Bq,h11.noFacts.put v hd,Gk h12 h7,?_⟩ hQ)
  have key:∀ {O:Nat→Prop} {B1 B2:List OB} {b1 b2:List Va},BsRep w' O B1 b1→BsRep w' O B2 b2→BsRep w' O (B1++B2) (b1++b2):=by
    intro O B1
    induction B1 with
    | nil=>intro B2 b1 b2 h1 h2; rw [show b1=[] from h1]; exact h2
    |
     cons b B1 ih =>
     intro B2 b1 b2 h1 h2
     obtain ⟨Bo,Bs',rfl,h3,h4⟩:=h1
     exact ⟨Bo,Bs'++b2,by simp,h3,ih h4 h2⟩
  exact key h8 h13
theorem Zu {f:FuncId} {fn:Func} {xs:List Operand} {us args:List AV} {ats:Array TypeId} {r:AV} (hf:P.funcs[f]? = some fn) (hn:(fn.name == "runtime.NumGoroutine")=false) (hb:fn.body.isNone=false)
    (hx:Cu L xs=some us) (hun:Pa us=some args) (hc:Za P f args r) (hd:Nat.blt d n=true) :
    AP P ops n { dst:=some d,op:=.call { callee:=.value (.func f),args:=xs.toArray,argTypes:=ats },type:=ty,pos:=pos,after:=after,guard:=none } d r L B:=by
  intro K Ob w0 w a Bs L' Fs h hL hB
  obtain ⟨vs,h1,h2,h3⟩:=Cv hL hx
  have hargs:=Pc hun h2 h3
  have e0:Q3 (Q3 Ob Bs) []=Q3 Ob Bs:=by funext b; simp [Q3]
  have hcall:=hc (Q3 Ob Bs) w vs [] (fun b hb=>h.owns_lt hb) ⟨fun _ _ _ hm=>by (cases hm),qVh⟩ (by rw [e0]; exact hargs) rfl
  refine Q9 (Φ:=fun v w'=>ARep w' (Q3 Ob Bs) v r) h hf hn hb h1 (hcall.mono fun e' w' hr=>?_) hd fun v w' a' hg hΦ h'=>wpList_nil ⟨rfl,v,h',hΦ⟩
  obtain ⟨v,r',Bout,Bo,rfl,⟨rfl,rfl⟩,h7,h8,h9,h10⟩:=hr
  have h8:Bo=[]:=h8
  subst h8
  rw [e0] at h7
  exact ⟨v,rfl,⟨h9.size,fun b hb=>h9.keep b hb (by simp),h9.io⟩,h7⟩
def Ez:Nat→List AV→Sg
  | _,[]=>[]
  | i,v::vs=>(i,v)::Ez (i+1) vs
theorem Qft {w:World} {O:Nat→Prop}:∀ {vs:List Value} {us:List AV} (i:Nat),TReps w O vs us→∀ t x,lk (Ez i us) t=some x→∃ v,Z0 (P9 i vs) t=some v∧ARep w O v x
  | [],[],i,_,t,x,h=>by simp [Ez,lk] at h
  |
   v::vs,u::us,i,h,t,x,hx=>by
   simp only [Ez,lk] at hx
   simp only [P9,Z0]
   cases e:Nat.beq t i <;> rw [e] at hx
   · exact Qft (i+1) h.2 t x hx
   · injection hx with hx; subst hx; exact ⟨v,rfl,h.1.a⟩
  | [],_::_,_,h,_,_,_=>h.elim
  | _::_,[],_,h,_,_,_=>h.elim
def RV (P:Program) (n:Nat) (L:Sg) (B:List OB) (r:ResultVar) (u:AV):Prop :=
  ∀ (K Ob:Nat→Prop) (w0 w:World) (a:Act) (L':List (Nat×Value)) (Bs:List Va),St K Ob w0 w a n L' [] Bs→(∀ t x,lk L t=some x→∃ v,Z0 L' t=some v∧ARep w (Q3 Ob Bs) v x)→BsRep w (Q3 Ob Bs) B Bs →
    ∃ v,B7 P w a r v∧TRep w (Q3 Ob Bs) v u
def RVs (P:Program) (n:Nat) (L:Sg) (B:List OB):List ResultVar→List AV→Prop
  | [],[]=>True
  | r::rs,u::us=>RV P n L B r u∧RVs P n L B rs us
  | _,_=>False
def Oh:AV→Option AV
  |
   .one x=>match x.isNil with
   | true=>some (.one (.row []))
   | false=>some (.one x)
  |
   .agg xs=>match W3 xs with
   | some ys=>some (.agg ys)
   | none=>none
  | _=>none
theorem Qmy {w:World} {O:Nat→Prop} {v:Value} {u y:AV} (h:ARep w O v u) (hu:Oh u=some y):TRep w O v y:=by
  have:=Pc (w:=w) (O:=O) (us:=[u]) (ys:=[y]) (vs:=[v]) (by
    cases u with
    | one x=>simp only [Oh] at hu; simp only [Pa]; split at hu <;> (injection hu with hu; subst hu; rename_i e; simp [e])
    |
     agg xs =>
     simp only [Oh] at hu; simp only [Pa]
     split at hu
     · injection hu with hu; subst hu; rename_i e; simp [e]
     · cases hu
    | tup l=>cases hu
    |
     un=>cases hu) rfl (fun j a b ha hb=>by
     cases j with
     | zero=>simp at ha hb; subst ha hb; exact h
     | succ j=>simp at ha)
  exact this.1
theorem Kb {t:Nat} {u y:AV} (h:lk L t=some u) (hu:Oh u=some y):RV P n L B (.tmp t) y:=fun K Ob w0 w a L' Bs hs hL hB=>by
  obtain ⟨v,h1,h2⟩:=hL t u h
  exact ⟨v,Zj hs h1,Qmy h2 hu⟩
theorem Qks (i:Nat) {t T T' g m:Nat} {ag:Bool} {xs r:List LV} {u:AV} {B':List OB} (ht:∀ w,(isAgg T).run P w=.ok ag w) (hs:∀ w,(Go.sizeOf T).run P w=.ok m w) (hi:Jr B i=some (.blk g T' xs,B')) (hx:lk L t=some (.one (.ow g 0))) (hl:Nat.beq xs.length m=true) (hun:W3 xs=some r) (hu:Wx ag r=some u):RV P n L B (.cell t T) u:=fun K Ob w0 w a L' Bs h hL hB=>by
  obtain ⟨hxi,rfl⟩:=Uu hi
  have hl:=Fj hl
  obtain ⟨Bo,Bs',hp,⟨cs,rfl,hreps⟩,_⟩:=hB.front hxi
  obtain ⟨v,hv,hr1⟩:=hL t _ hx
  obtain rfl:v=.pointer (some ⟨g,0,none⟩):=hr1
  have hmem:(g,Tag.ty T',cs)∈Bs:=hp.mem_iff.2 (by simp)
  obtain ⟨q,hq⟩:=qZr.1 hmem
  replace hreps:=Ru hun hreps
  have hlen:=hreps.len
  have hrl:r.length=xs.length:=by have:=Nk hun; exact this
  cases ag with
  |
   true =>
   simp only [Wx,Option.some.injEq] at hu
   subst hu
   exact ⟨_,Ju h q hq hv ht hs (by omega),cs,rfl,hreps⟩
  |
   false =>
   obtain ⟨y,rfl,rfl⟩:=U5 hu
   rcases cs with _ | ⟨v0,_ | ⟨v1,cs⟩⟩
   · exact hreps.elim
   · exact ⟨v0,Qmm h q hq hv ht rfl,hreps.1⟩
   · exact hreps.2.elim
def Qen:List AV→AV
  | [u]=>u
  | us=>.tup us
def Qgn:List Nat→List OB→Option (List OB)
  | [],B=>some B
  |
   i::is,B=>match Jr B i with
   | some (_,r)=>Qgn is r
   | none=>none
theorem Qgo:∀ (B:List OB),∃ is,Qgn is B=some []
  | []=>⟨[],rfl⟩
  |
   b::B=>by
   obtain ⟨is,h⟩:=Qgo B
   exact ⟨0::is,h⟩
def RQ (P:Program) (fn:Func) (n:Nat) (Post:AV→List OB→Prop):Exit→Sg→List OB→Prop
  | .ret,L,B=>∃ us is B',RVs P n L B fn.results.toList us∧Qgn is B=some B'∧Post (Qen us) B'
  | .normal,L,B=>∃ us is B',RVs P n L B fn.results.toList us∧Qgn is B=some B'∧Post (Qen us) B'
  | _,_,_=>False
theorem St.sub {K Ob:Nat→Prop} {w0 w:World} {a:Act} {L':List (Nat×Value)}:∀ {is:List Nat} {B B':List OB} {Bs:List Va},St K Ob w0 w a n L' [] Bs→BsRep w (Q3 Ob Bs) B Bs→Qgn is B=some B'→∃ Bs',St K Ob w0 w a n L' [] Bs'∧BsRep w (Q3 Ob Bs') B' Bs'∧Le w (Q3 Ob Bs) w (Q3 Ob Bs')
  | [],B,B',Bs,h,hB,hs=>by simp [Qgn] at hs; subst hs; exact ⟨Bs,h,hB,X2 _,fun _ _ _=>rfl,fun _ _ h=>h⟩
  |
   i::is,B,B',Bs,h,hB,hs=>by
   simp only [Qgn] at hs
   split at hs
   · rename_i x r hi
     obtain ⟨hx,rfl⟩:=Uu hi
     obtain ⟨Bo,Bq,hp,h4,h5⟩:=hB.front hx
     have hle:Le w (Q3 Ob Bs) w (Q3 Ob Bq):=⟨X2 _,fun _ _ _=>rfl,fun b _ ho=>ho.imp id fun hm=>((hp.map _).mem_iff).2 (by simp only [F6,Y7]; exact .inr hm)⟩
     obtain ⟨Bs',h6,h7,h8⟩:=St.sub (h.perm hp.symm).tailB (h5.keep hle) hs
     exact ⟨Bs',h6,h7,X2 _,fun _ _ _=>rfl,fun b hb ho=>hle.2.2 b hb (h8.2.2 b hb ho)⟩
   · cases hs
theorem Qjg {K Ob:Nat→Prop} {w0 w:World} {a:Act} {L':List (Nat×Value)} {Bs:List Va} (h:St K Ob w0 w a n L' [] Bs) (hL:∀ t x,lk L t=some x→∃ v,Z0 L' t=some v∧ARep w (Q3 Ob Bs) v x) (hB:BsRep w (Q3 Ob Bs) B Bs) :
    ∀ {rs:List ResultVar} {us:List AV},RVs P n L B rs us→∃ vs:List Value,(rs.mapM (Qbo a.tmps)).run P w=.ok vs w∧TReps w (Q3 Ob Bs) vs us
  | [],[],_=>⟨[],rfl,trivial⟩
  |
   r::rs,u::us,hr=>by
   obtain ⟨v,h1,h2⟩:=hr.1 K Ob w0 w a L' Bs h hL hB
   obtain ⟨vs,h3,h4⟩:=Qjg h hL hB hr.2
   refine ⟨v::vs,?_,h2,h4⟩
   simp only [List.mapM_cons,Sem.run_bind,F0 h1,Result.andThen_ok,h3,Sem.run_pure]
  | [],_::_,hr=>hr.elim
  | _::_,[],hr=>hr.elim
theorem Qxd {f:FuncId} {fn:Func} {c:Code} {args:List AV} {Bin:List OB} {Post:AV→List OB→Prop} (hf:P.funcs[f]? = some fn) (hb:fn.body=some c) (hn:fn.ntmps=n) (hl:Nat.ble args.length n=true) (h:AC P n c (RQ P fn n Post) (Ez 0 args) Bin):Us P f args Bin Post:=by
  intro Ob W vs Bi hO hheld hargs hBin
  have hl':=qXk hl
  have hvl:=hargs.len
  refine calls_of_wp hf hb ?_
  have hst:St (fun b=>b<W.heap.size∧b∉Bi.map (·.1)) Ob W W { tmps:=vs.toArray++Array.replicate (fn.ntmps-vs.toArray.size) undef,defers:=[] } n (P9 0 vs) [] Bi:=by
    refine ⟨by simp [hn]; omega,rfl,fun t v hv=>?_,X2 _,fun _ _=>rfl,fun g T cs hm=>?_,hheld.nodup,fun f hf=>(by cases hf),fun b hb=>hb.1,hO,fun b hb=>?_,rfl,rfl⟩
    · obtain ⟨_,h2⟩:=M8 0 vs t v hv
      have ht:t<vs.length:=by
        have:=(Uy.1 h2).1; simpa using this
      simp only [qYg] at h2
      rw [qVp (by simpa using ht)]
      simpa using h2
    · obtain ⟨h1,h2,h3⟩:=hheld.own g T cs hm
      exact ⟨fun hk=>hk.2 (Ww.2 ⟨_,hm,rfl⟩),h1,h2⟩
    · obtain ⟨⟨g,T,cs⟩,hg,rfl⟩:=Ww.1 hb
      exact (hheld.own g T cs hg).2.2
  refine wp_mono (h _ Ob W W _ ⟨P9 0 vs,Bi,hst,Qft 0 hargs,hBin⟩) fun e a w ⟨L,B,⟨L',Bs,h1,h2,h3⟩,h4⟩=>?_
  have fin:∀ us is B',RVs P n L B fn.results.toList us→Qgn is B=some B'→Post (Qen us) B'→a.defers=[]∧∃ v,(results fn a.tmps).run P w=.ok v w∧(∃ v' r Bout Bo,Ending.returned v=.returned v'∧Post r Bout∧ARep w (Q3 Ob Bo) v' r∧BsRep w (Q3 Ob Bo) Bout Bo∧Moved W w Bi Bo∧Held w Ob Bo):=by
    intro us is B' hus hsub hpost
    obtain ⟨vs',h5,h6⟩:=Qjg h1 h2 h3 hus
    obtain ⟨Bs2,k1,k3,hle⟩:=h1.sub h3 hsub
    replace h6:=h6.keep hle
    have hfrom:∀ b,b<W.heap.size→b∈Bs2.map (·.1)→b∈Bi.map (·.1):=fun b hb hbo=>by
      obtain ⟨⟨g,T,cs⟩,hg,rfl⟩:=Ww.1 hbo
      have:=(k1.own g T cs hg).1
      apply Classical.byContradiction
      intro hno
      exact this ⟨hb,hno⟩
    have hmoved:Moved W w Bi Bs2:=⟨k1.wsize,fun b hb hno=>k1.grow b ⟨hb,hno⟩,hfrom,k1.io⟩
    have hheld':Held w Ob Bs2:=⟨fun g T cs hg=>⟨(k1.own g T cs hg).2.1,(k1.own g T cs hg).2.2,k1.ownO g (Ww.2 ⟨_,hg,rfl⟩)⟩,k1.nodup⟩
    have hres:(results fn a.tmps).run P w=.ok (if h:vs'.toArray.size=1 then vs'.toArray[0] else .tuple vs'.toArray) w:=by
      rw [Th]
      have hm:(fn.results.mapM (Qbo a.tmps)).run P w=.ok vs'.toArray w:=by
        obtain ⟨l,hl⟩:∃ l,fn.results=⟨l⟩:=⟨fn.results.toList,by simp⟩
        rw [hl] at h5 ⊢
        rw [List.mapM_toArray,map_eq_pure_bind,Sem.run_bind,show (List.mapM (Qbo a.tmps) l).run P w=_ from h5]
        rfl
      simp only [Sem.run_bind,hm,Result.andThen_ok,Sem.run_pure]
    refine ⟨k1.defers,_,hres,_,Qen us,B',_,rfl,hpost,?_,k3,hmoved,hheld'⟩
    rcases us with _ | ⟨u,_ | ⟨u2,us⟩⟩
    · rcases vs' with _ | ⟨v,vs'⟩
      · exact ⟨[],rfl,trivial⟩
      · exact h6.elim
    · rcases vs' with _ | ⟨v,_ | ⟨v2,vs'⟩⟩
      · exact h6.elim
      · exact h6.1.a
      · exact h6.2.elim
    · rcases vs' with _ | ⟨v,_ | ⟨v2,vs'⟩⟩
      · exact h6.elim
      · exact h6.2.elim
      · exact ⟨v::v2::vs',by simp,h6⟩
  cases e with
  | ret=>obtain ⟨us,is,B',h5,h6,h7⟩:=h4; exact fin us is B' h5 h6 h7
  | normal=>obtain ⟨us,is,B',h5,h6,h7⟩:=h4; exact fin us is B' h5 h6 h7
  | exit id=>exact h4.elim
  | goto l=>exact h4.elim
  | panic c=>exact h4.elim
  | outgrown=>exact h4.elim
end Orr

namespace Orr
open Go
variable {P:Program} {ops:Array Oper} {n:Nat} {rest:List Oper} {N:Sg→List OB→Prop} {L:Sg} {B:List OB} {Q:Exit→Sg→List OB→Prop}
variable {d:Nat} {ty:TypeId} {pos:String} {after:Array Edge}
theorem Qgi {K Ob:Nat→Prop} {w0 w:World} {a:Act} {L':List (Nat×Value)} {Fs:List Fact} {Bs:List Va} {g T:Nat} {cs:List Value} {xs:List LV}
    (h:St K Ob w0 w a n L' Fs ((g,T,cs)::Bs)) (hr:XReps w (Q3 Ob ((g,T,cs)::Bs)) cs xs) (hf:∀ x∈xs,x.free=true):LRep w (Q3 Ob Bs) (.pointer (some ⟨g,0,none⟩)) (.sh xs):=by
  have hle:Le w (Q3 Ob ((g,T,cs)::Bs)) w (Q3 Ob Bs):=⟨X2 _,fun _ _ _=>rfl,fun b _ ho=>ho.imp id fun hm=>Ge _ hm⟩
  have hl:=hr.len
  refine .sh g 0 xs (fun j=>cs.getD j undef) (h.own g T _ (Fm ..)).2.1 (C3 h) (fun j hj=>?_) fun j x hx=>?_
  · rw [Vl,h.own_cell (i:=0) rfl,V6,Xx (by omega)]; rfl
  · obtain ⟨v,hv,hvr⟩:=hr.get hx
    rw [V6,hv]
    exact (hvr.free (hf x (Vo hx))).keep hle
theorem Qus {T:TypeId} {x:Operand} {u:AV} {xs:List LV} (hx:J3 L x=some u) (hl:Gh u=some xs) (hf:G9 xs=true) (hd:Nat.blt d n=true) :
    AP P ops n { dst:=some d,op:=.box T x,type:=ty,pos:=pos,after:=after,guard:=none } d (.one (.sh xs)) L B:=by
  intro K Ob w0 w a Bs L' Fs h hL hB
  obtain ⟨v,hv,hr⟩:=Zt hL hx
  obtain ⟨hc,_⟩:=Fq hr hl
  refine Qkw h hv hd fun g w' a' hg hgr h'=>?_
  have hc':XReps w' (Q3 Ob ((g,T,v.cells.toList)::Bs)) v.cells.toList xs:=hc.keep (Rk hg hgr)
  exact wpList_nil ⟨rfl,_,h'.publish,Qgi h' hc' (U9 hf)⟩
def Qf0:List AV→Option (List LV)
  | []=>some []
  |
   .one x::l=>match Qf0 l with
   | some r=>some (x::r)
   | none=>none
  | _::_=>none
theorem Qdc {w:World} {O:Nat→Prop}:∀ {us:List AV} {xs:List LV} {vs:List Value},Qf0 us=some xs→vs.length=us.length→(∀ (j:Nat) (v:Value) (u:AV),vs[j]? = some v→us[j]? = some u→ARep w O v u)→XReps w O vs xs
  |
   [],xs,vs,h,hl,_=>by
   simp [Qf0] at h; subst h
   have:vs=[]:=P5 hl
   subst this; trivial
  | u::us,xs,[],h,hl,_=>by simp at hl
  |
   u::us,xs,v::vs,h,hl,hr=>by
   cases u with
   |
    one x =>
    simp only [Qf0] at h
    split at h
    · rename_i r hr'
      injection h with h; subst h
      exact ⟨hr 0 v (.one x) rfl rfl,Qdc hr' (by simpa using hl) fun j a b ha hb=>hr (j+1) a b (by simpa using ha) (by simpa using hb)⟩
    · cases h
   | agg xs=>cases h
   | tup l=>cases h
   | un=>cases h
theorem Qib {f:Nat} {pre post:List Operand} {us ys:List AV} {xs zs:List LV} (hx:Cu L pre=some us) (hy:Cu L post=some ys) (hxs:Qf0 us=some xs) (hzs:Qf0 ys=some zs) (hf1:G9 xs=true) (hf2:G9 zs=true) (hd:Nat.blt d n=true) :
    AP P ops n { dst:=some d,op:=.makeFunc (.func f) pre.toArray post.toArray,type:=ty,pos:=pos,after:=after,guard:=none } d (.one (.fn f xs zs)) L B:=by
  refine Rn hd fun K Ob w0 w a Bs L' Fs h hL hB=>?_
  obtain ⟨vs,h1,h2,h3⟩:=Cv hL hx
  obtain ⟨qs,h4,h5,h6⟩:=Cv hL hy
  have e1:=h.evl h1
  have e2:=h.evl h4
  have r1:=Qdc hxs h2 h3
  have r2:=Qdc hzs h5 h6
  refine ⟨.func (.func f) vs.toArray qs.toArray,?_,LRep.fn f xs zs vs qs r1.len r2.len (fun j v x hv hx=>(r1.get' hv hx).free (U9 hf1 x (Vo hx))) fun j v x hv hx=>(r2.get' hv hx).free (U9 hf2 x (Vo hx))⟩
  simp only [execOp,Instr.makeFunc,e1,e2,Sem.run_bind,Sem.run_pure,Result.andThen_ok]
theorem Qvq {w:World} {O:Nat→Prop} {v:Value} {f:Nat} {xs zs:List LV} (h:ARep w O v (.one (.fn f xs zs))):∃ vs us:List Value,v=.func (.func f) vs.toArray us.toArray∧XReps w O vs xs∧XReps w O us zs:=by
  have h:LRep w O v (.fn f xs zs):=h
  cases h with
  | fn f pre post vs us h1 h2 h3 h4=>exact ⟨vs,us,rfl,XReps.of h1 fun j v x hv hx=>(h3 j v x hv hx).x,XReps.of h2 fun j v x hv hx=>(h4 j v x hv hx).x⟩
theorem Ni {w:World} {O:Nat→Prop}:∀ {vs:List Value} {xs:List LV},XReps w O vs xs→TReps w O vs (xs.map .one)
  | [],[],_=>trivial
  | v::vs,x::xs,h=>⟨h.1,Ni h.2⟩
  | [],_::_,h=>h.elim
  | _::_,[],h=>h.elim
theorem TReps.append {w:World} {O:Nat→Prop}:∀ {vs us:List Value} {xs ys:List AV},TReps w O vs xs→TReps w O us ys→TReps w O (vs++us) (xs++ys)
  | [],_,[],_,_,h=>h
  | v::vs,_,x::xs,_,h,h'=>⟨h.1,h.2.append h'⟩
  | [],_,_::_,_,h,_=>h.elim
  | _::_,_,[],_,h,_=>h.elim
theorem In {f:FuncId} {fn:Func} {x:Operand} {xs:List Operand} {us args:List AV} {ats:Array TypeId} {pre post:List LV} {r:AV} (hg:J3 L x=some (.one (.fn f pre post))) (hf:P.funcs[f]? = some fn) (hn:(fn.name == "runtime.NumGoroutine")=false) (hb:fn.body.isNone=false)
    (hx:Cu L xs=some us) (hun:Pa us=some args) (hc:Za P f (pre.map .one++args++post.map .one) r) (hd:Nat.blt d n=true) :
    AP P ops n { dst:=some d,op:=.call { callee:=.value x,args:=xs.toArray,argTypes:=ats },type:=ty,pos:=pos,after:=after,guard:=none } d r L B:=by
  intro K Ob w0 w a Bs L' Fs h hL hB
  obtain ⟨vs,h1,h2,h3⟩:=Cv hL hx
  have hargs:=Pc hun h2 h3
  obtain ⟨v0,hv0,hr0⟩:=Zt hL hg
  obtain ⟨ps,qs,rfl,hp,hq⟩:=Qvq hr0
  have e0:Q3 (Q3 Ob Bs) []=Q3 Ob Bs:=by funext b; simp [Q3]
  have hall:=((Ni hp).append hargs).append (Ni hq)
  have hcall:=hc (Q3 Ob Bs) w (ps++vs++qs) [] (fun b hb=>h.owns_lt hb) ⟨fun _ _ _ hm=>by (cases hm),qVh⟩ (by rw [e0]; exact hall) rfl
  refine wpList_plain rfl fun K' hK=>?_
  unfold Oper.wp
  have e:(execOp a.eval { dst:=some d,op:=.call { callee:=.value x,args:=xs.toArray,argTypes:=ats },type:=ty,pos:=pos,after:=after,guard:=none }).run P w=.ok (.enter f (ps++vs++qs).toArray) w:=by
    have hxs:=h.evl h1
    have he:=h.ev hv0
    simp only [execOp,resolve,he,Deferred.ofValue,hxs,Sem.run_bind,Sem.run_pure,Result.andThen_ok,invoke]
    rw [show ps.toArray++vs.toArray++qs.toArray=(ps++vs++qs).toArray from by simp]
    exact Fg w hf hn hb
  rw [e]
  simp only [Oper.upon]
  refine hcall.mono fun e' w' hr=>?_
  obtain ⟨v,r',Bout,Bo,rfl,⟨rfl,rfl⟩,h7,h8,h9,h10⟩:=hr
  have h8:Bo=[]:=h8
  subst h8
  rw [e0] at h7
  have hgr:Grow w w':=⟨h9.size,fun b hb=>h9.keep b hb (by simp),h9.io⟩
  refine hK _ _ (wpList_nil ⟨rfl,v,(h.grown hgr).put v hd,h7⟩)
theorem Qc {dst:Option Nat} {op:Op} {j t:Nat} {want b:Bool} {u:AV} (hj:(ops[j]?).bind (·.dst)=some t) (hv:lk L t=some (.one (.bool b))) (hb:b=want) (hp:AP P ops n { dst:=dst,op:=op,type:=ty,pos:=pos,after:=after,guard:=none } d u L B) :
    AP P ops n { dst:=dst,op:=op,type:=ty,pos:=pos,after:=after,guard:=some (j,want) } d u L B:=by
  intro K Ob w0 w a Bs L' Fs h hL hB
  obtain ⟨v,hv,hr⟩:=hL t _ hv
  obtain rfl:=Kq hr
  exact Zx h hj hv hb (hp K Ob w0 w a Bs L' Fs h hL hB)
theorem Qk {op:Op} {j t:Nat} {want b:Bool} (hj:(ops[j]?).bind (·.dst)=some t) (hv:lk L t=some (.one (.bool b))) (hb:b = !want) (hd:Nat.blt d n=true) :
    AP P ops n { dst:=some d,op:=op,type:=ty,pos:=pos,after:=after,guard:=some (j,want) } d .un L B:=by
  intro K Ob w0 w a Bs L' Fs h hL hB
  obtain ⟨v,hv,hr⟩:=hL t _ hv
  obtain rfl:=Kq hr
  exact Zv h hj hv hb hd fun a' h'=>wpList_nil ⟨rfl,_,h',trivial⟩
theorem Nq {dst:Option Nat} {op:Op} {j t:Nat} {want b:Bool} (hj:(ops[j]?).bind (·.dst)=some t) (hv:lk L t=some (.one (.bool b))) (hb:b=want) (hp:AW P ops n ({ dst:=dst,op:=op,type:=ty,pos:=pos,after:=after,guard:=none }::rest) N L B) :
    AW P ops n ({ dst:=dst,op:=op,type:=ty,pos:=pos,after:=after,guard:=some (j,want) }::rest) N L B:=by
  intro K Ob w0 w a Q hs hQ
  obtain ⟨L',Bs,h,hL,hB⟩:=hs
  obtain ⟨v,hv,hr⟩:=hL t _ hv
  obtain rfl:=Kq hr
  exact Zx h hj hv hb (hp K Ob w0 w a Q ⟨L',Bs,h,hL,hB⟩ hQ)
def APs (P:Program) (ops:Array Oper) (n:Nat) (L:Sg) (B:List OB) (D:List Nat) (us:List AV):Nat→List (List (Nat×AV))→List Oper→Prop
  | i,dep::deps,o::os=>AP P ops n o (D.getD i 0) (us.getD i .un) (dep++L) B∧APs P ops n L B D us (i+1) deps os
  | _,_,_=>True
def depsOf (D:List Nat) (us:List AV):List (List Nat)→List (List (Nat×AV))
  | []=>[]
  | js::r=>go js::depsOf D us r
where go:List Nat→List (Nat×AV)
  | []=>[]
  | j::js=>(D.getD j 0,us.getD j .un)::go js
def Lr:List Nat→List AV→Sg→Option Sg
  | [],[],L=>some L
  |
   d::D,u::us,L=>match Lr D us L with
   | some r=>some ((d,u)::r)
   | none=>none
  | _,_,_=>none
theorem only {w:World} {O:Nat→Prop} {L':List (Nat×Value)}:∀ (L:Sg),(∀ t x,lk L t=some x→∃ v,Z0 L' t=some v∧ARep w O v x) →
    ∃ L2:List (Nat×Value),(∀ t,lk L t=none→Z0 L2 t=none)∧(∀ t v,Z0 L2 t=some v→Z0 L' t=some v)∧(∀ t x,lk L t=some x→∃ v,Z0 L2 t=some v∧ARep w O v x)
  | [],_=>⟨[],fun _ _=>rfl,fun _ _ (h:none=some _)=>(nomatch h),fun t x (h:none=some _)=>(nomatch h)⟩
  |
   (s,u)::L,h=>by
   -- a slot that is told twice: the first one counts
   have h1:∀ t x,lk (L.filter fun p => !(Nat.beq p.1 s)) t=some x→∃ v,Z0 L' t=some v∧ARep w O v x:=fun t x hx=>by
     have:Nat.beq t s=false∧lk L t=some x:=by
       clear h
       induction L with
       | nil=>cases hx
       |
        cons p L ih =>
        obtain ⟨q,y⟩:=p
        cases e:Nat.beq q s
        · simp only [List.filter,e,qVe,lk] at hx ⊢
          cases e2:Nat.beq t q <;> rw [e2] at hx
          · exact ih hx
          · have:=Fj e2; subst this; exact ⟨e,hx⟩
        · simp only [List.filter,e,Bool.not_true] at hx
          obtain ⟨h1,h2⟩:=ih hx
          refine ⟨h1,?_⟩
          simp only [lk]
          have:q=s:=Fj e
          subst this
          rw [h1]; exact h2
     exact h t x (by simp only [lk,this.1]; exact this.2)
   have hlen:(L.filter fun p => !(Nat.beq p.1 s)).length<((s,u)::L).length:=by
     have:=List.length_filter_le (fun p:Nat×AV => !(Nat.beq p.1 s)) L
     simp only [qXe]; omega
   obtain ⟨L2,h2,h3,h4⟩:=only (L.filter fun p => !(Nat.beq p.1 s)) h1
   have hf:∀ t,Nat.beq t s=false→lk (L.filter fun p => !(Nat.beq p.1 s)) t=lk L t:=fun t ht=>by
     clear h h1 h2 h3 h4 hlen
     induction L with
     | nil=>rfl
     |
      cons p L ih =>
      obtain ⟨q,y⟩:=p
      cases e:Nat.beq q s
      · simp only [List.filter,e,qVe,lk]
        rw [ih]
      · simp only [List.filter,e,Bool.not_true,lk]
        have:q=s:=Fj e
        subst this
        rw [ht]; exact ih
   obtain ⟨v,hv,hr⟩:=h s u (by simp [lk])
   refine ⟨(s,v)::L2,fun t ht=>?_,fun t y hy=>?_,fun t x hx=>?_⟩
   · simp only [lk] at ht
     cases e:Nat.beq t s <;> rw [e] at ht
     · simp only [Z0,e]; exact h2 t (by rw [hf t e]; exact ht)
     · cases ht
   · simp only [Z0] at hy
     cases e:Nat.beq t s <;> rw [e] at hy
     · exact h3 t y hy
     · injection hy with hy; subst hy; rw [Fj e]; exact hv
   · simp only [lk] at hx
     simp only [Z0]
     cases e:Nat.beq t s <;> rw [e] at hx
     · exact h4 t x (by rw [hf t e]; exact hx)
     · injection hx with hx; subst hx; exact ⟨v,rfl,hr⟩
termination_by L=>L.length
def Rw (u:AV) (v:Value):Fact:=⟨fun w O=>ARep w O v u,fun hle h=>h.keep hle⟩
theorem Ul {D:List Nat} {us:List AV}:∀ {deps:List (List Nat)} {i:Nat} {js:List Nat},deps[i]? = some js→(depsOf D us deps)[i]? = some (js.map fun j=>(D.getD j 0,us.getD j .un))
  | [],i,js,h=>by simp at h
  |
   x::r,0,js,h=>by
   simp at h; subst h
   have:∀ js:List Nat,depsOf.go D us js=js.map fun j=>(D.getD j 0,us.getD j .un):=fun js=>by induction js <;> simp [depsOf.go, *]
   simp [depsOf,this]
  | x::r,i+1,js,h=>by simpa [depsOf] using Ul (i:=i) (by simpa using h)
theorem Cj:∀ {D:List Nat} {us:List AV} {L L2:Sg},Lr D us L=some L2→D.length=us.length∧L2=(D.zip us)++L
  | [],[],L,L2,h=>by simp [Lr] at h; subst h; simp
  |
   d::D,u::us,L,L2,h=>by
   simp only [Lr] at h
   split at h
   · rename_i r hr
     injection h with h; subst h
     obtain ⟨h1,rfl⟩:=Cj hr
     simp [h1]
   · cases h
  | [],_::_,_,_,h=>by simp [Lr] at h
  | _::_,[],_,_,h=>by simp [Lr] at h
theorem Ft {w:World} {O:Nat→Prop} {D:List Nat} {us:List AV} {v:Nat→Value} {L:Sg} {L2:List (Nat×Value)} (hL:∀ t x,lk L t=some x→∃ y,Z0 L2 t=some y∧ARep w O y x):∀ {js:List Nat},(∀ j∈js,ARep w O (v j) (us.getD j .un))→∀ t x,lk (js.map (fun j=>(D.getD j 0,us.getD j .un))++L) t=some x→∃ y,Z0 (js.map (fun j=>(D.getD j 0,v j))++L2) t=some y∧ARep w O y x
  | [],_,t,x,h=>hL t x h
  |
   j::js,hj,t,x,h=>by
   simp only [Ln,Lm,lk] at h
   simp only [Ln,Lm,Z0]
   cases e:Nat.beq t (D.getD j 0) <;> rw [e] at h
   · exact Ft hL (fun k hk=>hj k (Ge _ hk)) t x h
   · injection h with h; subst h; exact ⟨_,rfl,hj j (Fm ..)⟩
theorem Ud (D:List Nat) (j:Nat) (h:j<D.length):dd (D.map some) j=D.getD j 0∧dE (D.map some) j=true:=by
  unfold dd dE
  simp [V6,S1,Xx h]
theorem Ho (D:List Nat) (v:Nat→Value) (js:List Nat) (h:∀ j∈js,j<D.length):dL (D.map some) v js=js.map fun j=>(D.getD j 0,v j):=by
  unfold dL
  have:js.filter (dE (D.map some))=js:=qVt.2 fun j hj=>(Ud D j (h j hj)).2
  rw [this]
  exact qJr fun j hj=>by rw [(Ud D j (h j hj)).1]
theorem Qq0 {id:Nat} {l:List Oper} (hm:P.follows .mixedOrders=true) (m:Nat) (D:List Nat) (deps:List (List Nat)) (us:List AV) {L2:Sg} (hchk:K7 l m (D.map some) deps=true)
    (hDm:(Nat.beq D.length m && Nat.beq us.length m && deps.all fun js=>js.all fun j=>Nat.blt j m)=true) (hnone:(D.all fun t=>(lk L t).isNone)=true) (hops:APs P l.toArray n L B D us 0 (depsOf D us deps) (l.take m))
    (hz:Lr D us L=some L2) (k:AW P l.toArray n (l.drop m) (fun L B=>Q .normal L B) L2 B):AC P n (.region id l.toArray true) Q L B:=by
  rintro K Ob w0 w a ⟨L',Bs,h,hL,hB⟩
  simp only [qXp,C4] at hDm hnone
  obtain ⟨⟨hD,hU⟩,hdl⟩:=hDm
  have hD:=Fj hD
  have hU:=Fj hU
  have hdl:∀ js∈deps,∀ j∈js,j<m:=fun js hj j hjj=>by have:=hdl js hj j hjj; rwa [Mo] at this
  obtain ⟨L3,h1,h2,h3⟩:=only L hL
  have hst:St K Ob w0 w a n L3 [] Bs:={ h with slots:=fun t v hv=>h.slots t v (h2 t v hv) }
  have hst2:=hst.add (f:=SF L L3 B Bs [] []) ⟨h3,hB,trivial⟩
  have hc:=Hz hchk
  have hget:∀ (os:List Oper) (ds:List (List (Nat×AV))) (k:Nat),APs P l.toArray n L B D us k ds os→∀ (i:Nat) dep o,ds[i]? = some dep→os[i]? = some o→AP P l.toArray n o (D.getD (k+i) 0) (us.getD (k+i) .un) (dep++L) B:=by
    intro os
    induction os with
    | nil=>intro ds k _ i dep o _ ho; simp at ho
    |
     cons o os ih =>
     intro ds k hap i dep o' hd ho
     rcases ds with _ | ⟨dp,ds⟩
     · simp at hd
     · cases i with
       | zero=>simp at hd ho; subst hd ho; exact hap.1
       |
        succ i =>
        have:=ih ds (k+1) hap.2 i dep o' (by simpa using hd) (by simpa using ho)
        rw [show k+(i+1)=k+1+i from by omega]
        exact this
  have hdrawops:∀ (js:List (List Nat)) (os:List Oper) (k:Nat),(∀ i dj o,js[i]? = some dj→os[i]? = some o→k+i<m→AP P l.toArray n o (D.getD (k+i) 0) (us.getD (k+i) .un) (dj.map (fun j=>(D.getD j 0,us.getD j .un))++L) B∧∀ j∈dj,j<m)→k+js.length=m →
      DrawOps P l.toArray K Ob w0 n L3 [SF L L3 B Bs [] []] (fun _ _=>Bs) (D.map some) (us.map Rw) k js os:=by
    intro js
    induction js with
    | nil=>intro os k _ _; cases os <;> trivial
    |
     cons dj js ih =>
     intro os k hall hlen
     rcases os with _ | ⟨o,os⟩
     · trivial
     · refine ⟨?_,ih os (k+1) (fun i dj' o' hd ho hlt=>?_) (by simp at hlen ⊢; omega)⟩
       · intro p _ _ v Fx a' w' hs
         obtain ⟨hap,hjm⟩:=hall 0 dj o rfl rfl (by simp at hlen; omega)
         rw [Mp] at hap
         have hkm:k<m:=by simp at hlen; omega
         rw [Ho D v dj fun j hj=>by rw [hD]; exact hjm j hj] at hs
         have hfacts:∀ j∈dj,ARep w' (Q3 Ob Bs) (v j) (us.getD j .un):=fun j hj=>by
           have:=hs.facts ((us.map Rw).getD j U2 (v j)) (Y7.2 (.inl (Ww.2 ⟨j,hj,rfl⟩)))
           rw [V6,S1,Xx (by rw [hU]; exact hjm j hj)] at this
           rw [V6,Xx (by rw [hU]; exact hjm j hj)]
           exact this
         obtain ⟨h6,h7,_⟩:(SF L L3 B Bs [] []).holds w' (Q3 Ob Bs):=hs.facts _ (Y7.2 (.inr (by simp)))
         have hw:=hap K Ob w0 w' a' Bs _ _ hs (Ft h6 hfacts) h7
         refine Wt hs.defers (fun _ _ ⟨_,hh,_⟩=>hh.defers) hw fun a2 w2 hh=>?_
         obtain ⟨x,h8,h9⟩:=hh
         refine wpList_nil ⟨rfl,x,?_⟩
         have hdk:=Ud D k (by rw [hD]; exact hkm)
         have e5:(us.map Rw).getD k U2=Rw (us[k]'(by rw [hU]; exact hkm)):=by
           rw [V6,S1,Xx (by rw [hU]; exact hkm)]; rfl
         rw [if_pos hdk.2,hdk.1,e5]
         rw [V6 (l:=us),Xx (by rw [hU]; exact hkm)] at h9
         exact h8.drawEnd (by simp [Z0]) h9
       · have:=hall (i+1) dj' o' (by simpa using hd) (by simpa using ho) (by omega)
         rw [show k+(i+1)=k+1+i from by omega] at this
         exact this
  have hap0:DrawOps P l.toArray K Ob w0 n L3 [SF L L3 B Bs [] []] (fun _ _=>Bs) (D.map some) (us.map Rw) 0 deps l:=by
    refine hdrawops deps l 0 (fun i dj o hd ho hlt=>⟨?_,hdl dj (Vo hd)⟩) (by rw [Vl]; exact hc.deplen)
    exact hget (l.take m) _ 0 hops i _ o (Ul hd) (by rw [Ei,if_pos (by omega)]; exact ho)
  refine Gf hm m (D.map some) deps (us.map Rw) hchk hst2 ?_ hap0 fun v a' w' hs=>?_
  · rw [C4]
    intro j hj
    have hjm:j<m:=Tu.1 hj
    rw [(Ud D j (by rw [hD]; exact hjm)).1]
    have hmem:D.getD j 0∈D:=by rw [V6,Xx (by rw [hD]; exact hjm)]; exact qJa _
    have:=hnone _ hmem
    rw [qXo] at this
    rw [h1 _ this]; simp
  · rw [Ho D v _ fun j hj=>by rw [hD]; exact Tu.1 hj] at hs
    have hfacts:∀ j∈List.range m,ARep w' (Q3 Ob Bs) (v j) (us.getD j .un):=fun j hj=>by
      have hjm:=Tu.1 hj
      have:=hs.facts ((us.map Rw).getD j U2 (v j)) (Y7.2 (.inl (Ww.2 ⟨j,hj,rfl⟩)))
      rw [V6,S1,Xx (by rw [hU]; exact hjm)] at this
      rw [V6,Xx (by rw [hU]; exact hjm)]
      exact this
    obtain ⟨h6,h7,_⟩:(SF L L3 B Bs [] []).holds w' (Q3 Ob Bs):=hs.facts _ (Y7.2 (.inr (by simp)))
    obtain ⟨_,rfl⟩:=Cj hz
    have hzip:D.zip us=(List.range m).map fun j=>(D.getD j 0,us.getD j .un):=by
      apply qVm
      · simp [hD,hU]
      · intro i h1 h2
        simp at h1 h2 ⊢
        have e1:D[i]? = some D[i]:=Xx (by omega)
        have e2:us[i]? = some us[i]:=Xx (by omega)
        simp [e1,e2]
    rw [hzip] at k
    exact k K Ob w0 w' a' _ ⟨_,Bs,hs.noFacts,Ft h6 hfacts,h7⟩ fun a2 w2 h=>h
end Orr
