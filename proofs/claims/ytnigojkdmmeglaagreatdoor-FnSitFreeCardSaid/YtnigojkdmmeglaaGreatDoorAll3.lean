/- The laws FnMsgOk, FnSitFree: part 3 of 41. No conditions beyond the statement. -/
import Derived.Test.YtnigojkdmmeglaaGreatDoorAll2
set_option linter.unusedVariables false
set_option linter.unusedSimpArgs false
set_option maxRecDepth 100000
set_option maxHeartbeats 16000000
section
namespace Go.AM
open Go
structure Sq (E:Env) (all:List Oper) (rid:Nat) (l:List Oper) (i:Nat) (st:St) (k:St->Prop):Prop where
 h:vcSeq E all rid l i st k
structure Dr (E:Env) (all:List Oper) (rid:Nat) (l:List Oper) (i:Nat) (st:St) (k:St->List Foot->Prop):Prop where
 h:vcOps E all rid l i st k
structure Vc (E:Env) (c:Code) (st:St) (Q:Ex->St->Prop):Prop where
 h:vc E c st Q
section
variable {E:Env}
theorem xqw {all:List Oper} {rid:Nat} {l:List Oper} {i:Nat} {st:St} {k:St->Prop}:Sq E all rid l i st k=vcSeq E all rid l i st k:=propext ⟨fun h=>h.h,fun h=>⟨h⟩⟩
theorem xqx {all:List Oper} {rid:Nat} {l:List Oper} {i:Nat} {st:St} {k:St->List Foot->Prop}:Dr E all rid l i st k=vcOps E all rid l i st k:=propext ⟨fun h=>h.h,fun h=>⟨h⟩⟩
theorem xkm {c:Code} {st:St} {Q:Ex->St->Prop}:Vc E c st Q=vc E c st Q:=propext ⟨fun h=>h.h,fun h=>⟨h⟩⟩
theorem Sq.nil {all:List Oper} {rid i:Nat} {st:St} {k:St->Prop} (h:k st):Sq E all rid [] i st k:=⟨h⟩
def sqStep (E:Env) (all:List Oper) (rid:Nat) (o:Oper) (r:List Oper) (i:Nat) (st:St) (k:St->Prop):Prop :=
 match o.guard with
 | none=>stepK E ((rid+1)*1000+i) st o fun st' _=>Sq E all rid r (i+1) st' k
 | some (j,want)=>match guardD all j with
   | some d=>match lk st.t d with
     | some (.one (.prim (.bool b)))=>match want with
       | true=>ifB b (setK st (some d) (.one (.prim (.bool true))) fun st=>stepK E ((rid+1)*1000+i) st o fun st' _=>Sq E all rid r (i+1) st' k)
          (setK st (some d) (.one (.prim (.bool false))) fun st=>setK st o.dst (.tup []) fun st=>Sq E all rid r (i+1) st k)
       | false=>ifB b (setK st (some d) (.one (.prim (.bool true))) fun st=>setK st o.dst (.tup []) fun st=>Sq E all rid r (i+1) st k)
          (setK st (some d) (.one (.prim (.bool false))) fun st=>stepK E ((rid+1)*1000+i) st o fun st' _=>Sq E all rid r (i+1) st' k)
     | some (.tup [])=>setK st o.dst (.tup []) fun st=>Sq E all rid r (i+1) st k
     | _=>False
   | none=>False
theorem Sq.cons {all:List Oper} {rid i:Nat} {o:Oper} {r:List Oper} {st:St} {k:St->Prop} (h:sqStep E all rid o r i st k):Sq E all rid (o::r) i st k:=by
 rw [xqw];unfold sqStep at h;simp only [xqw] at h;exact h
def drStep (E:Env) (all:List Oper) (rid:Nat) (o:Oper) (r:List Oper) (i:Nat) (st:St) (k:St->List Foot->Prop):Prop :=
 let run (st:St) (g:List Nat):Prop:=stepK E ((rid+1)*1000+i) st o fun st' pk=>footK i o g st pk fun ft=>Dr E all rid r (i+1) st' fun st'' fs=>k st'' (ft::fs)
 match o.guard with
 | none=>run st []
 | some (j,want)=>match guardD all j with
   | some d=>match lk st.t d with
     | some (.one (.prim (.bool b))) =>
       let skip (st:St):Prop:=setK st o.dst (.tup []) fun st=>Dr E all rid r (i+1) st fun st'' fs=>k st'' (⟨i,o.dst,[d],[],[],[],[],[],[]⟩::fs)
       match want with
       | true=>ifB b (setK st (some d) (.one (.prim (.bool true))) fun st=>run st [d]) (setK st (some d) (.one (.prim (.bool false))) skip)
       | false=>ifB b (setK st (some d) (.one (.prim (.bool true))) skip) (setK st (some d) (.one (.prim (.bool false))) fun st=>run st [d])
     | some (.tup [])=>setK st o.dst (.tup []) fun st=>Dr E all rid r (i+1) st fun st'' fs=>k st'' (⟨i,o.dst,[d],[],[],[],[],[],[]⟩::fs)
     | _=>False
   | none=>False
theorem Dr.nil {all:List Oper} {rid i:Nat} {st:St} {k:St->List Foot->Prop} (h:k st []):Dr E all rid [] i st k:=⟨h⟩
theorem Dr.cons {all:List Oper} {rid i:Nat} {o:Oper} {r:List Oper} {st:St} {k:St->List Foot->Prop} (h:drStep E all rid o r i st k):Dr E all rid (o::r) i st k:=by
 rw [xqx];unfold drStep at h;simp only [xqx] at h;exact h
theorem drawIf {b:Bool} {p:Prop} (hb:b=true) (h:p):ifB b p False:=by subst hb; exact h
theorem Vc.skip {st:St} {Q:Ex->St->Prop} (h:Q .normal st):Vc E .skip st Q:=⟨h⟩
theorem Vc.exit {id:Nat} {st:St} {Q:Ex->St->Prop} (h:Q (.exit id) st):Vc E (.exit id) st Q:=⟨h⟩
theorem Vc.ret {st:St} {Q:Ex->St->Prop} (h:Q .ret st):Vc E .ret st Q:=⟨h⟩
def seqQ (E:Env) (b:Code) (Q:Ex->St->Prop) (e:Ex) (st:St):Prop:=match e with
 | .normal=>Vc E b st Q
 | .exit id=>Q (.exit id) st
 | .ret=>Q .ret st
theorem Vc.seq {a b:Code} {st:St} {Q:Ex->St->Prop} (h:Vc E a st (seqQ E b Q)):Vc E (.seq a b) st Q:=by
 refine ⟨?_⟩;have h:=h.h
 have e:(seqQ E b Q)=fun e st'=>match e with
  | .normal=>vc E b st' Q
  | .exit id=>Q (.exit id) st'
  | .ret=>Q .ret st':=by
  funext e st';cases e<;>simp only [seqQ,xkm]
 rw [e] at h;exact h
def blockQ (id:Nat) (Q:Ex->St->Prop) (e:Ex) (st:St):Prop:=match e with
 | .normal=>Q .normal st
 | .exit id'=>match Nat.beq id' id with
   | true=>Q .normal st
   | false=>Q (.exit id') st
 | .ret=>Q .ret st
theorem Vc.block {id:Nat} {c:Code} {st:St} {Q:Ex->St->Prop} (h:frzK E (1000000+id) st fun st=>Vc E c st (blockQ id Q)):Vc E (.block id c) st Q:=by
 refine ⟨?_⟩;simp only [xkm] at h
 have e:blockQ id Q=fun e st'=>match e with
  | .normal=>Q .normal st'
  | .exit id'=>match Nat.beq id' id with
    | true=>Q .normal st'
    | false=>Q (.exit id') st'
  | .ret=>Q .ret st':=by
  funext e st';cases e<;>rfl
 rw [e] at h;exact h
def condK (E:Env) (x y:Code) (Q:Ex->St->Prop) (st:St) (c:Operand):Prop:=getX E st 0 c fun _ v=>match v with
 | .one (.prim (.bool b))=>ifB b (Vc E x st Q) (Vc E y st Q)
 | _=>False
theorem Vc.cond {c:Operand} {x y:Code} {st:St} {Q:Ex->St->Prop} (h:condK E x y Q st c):Vc E (.cond c x y) st Q:=by
 refine ⟨?_⟩;unfold condK at h;simp only [xkm] at h;exact h
theorem Vc.region {rid:Nat} {ops:Array Oper} {l:List Oper} {st:St} {Q:Ex->St->Prop} (hl:ops.toList=l) (h:frzK E rid st fun st=>Sq E l rid l 0 st fun st'=>Q .normal st'):Vc E (.region rid ops false) st Q:=by
 refine ⟨?_⟩;subst hl;simp only [xqw] at h;exact h
theorem Vc.draw {rid:Nat} {ops:Array Oper} {l:List Oper} {st:St} {Q:Ex->St->Prop} (hl:ops.toList=l) (he:edgesOk 0 l=true) (h:frzK E rid st fun st=>Dr E l rid l 0 st fun st' fs=>ifB (drawOk l fs) (Q .normal st') False):Vc E (.region rid ops true) st Q:=by
 refine ⟨?_⟩;subst hl;simp only [xqx] at h
 have e:(fun st' fs=>ifB (drawOk ops.toList fs) (Q .normal st') False)=fun st' fs=>match edgesOk 0 ops.toList && drawOk ops.toList fs with
  | true=>Q .normal st'
  | false=>False:=by
  funext st' fs;rw [he,x1h];rfl
 rw [e] at h;exact h
def loopQ (α:Type) (upd:α->St->St) (μ:α->Nat) (st:St) (a:α) (Q:Ex->St->Prop) (e:Ex) (st':St):Prop:=match e with
 | .normal=>∃ a',μ a'<μ a/\weak st' (upd a' st)
 | .exit id=>Q (.exit id) st'
 | .ret=>Q .ret st'
theorem Vc.loop {c:Code} {st:St} {Q:Ex->St->Prop} (α:Type) (upd:α->St->St) (μ:α->Nat) (a0:α) (h1:weak st (upd a0 st)) (h2:∀ a,fSt (upd a st) fun s=>Vc E c s (loopQ α upd μ st a Q)):Vc E (.loop c) st Q:=by
 refine ⟨α,fun a=>upd a st,μ,a0,h1,fun a=>?_⟩;have h:=h2 a;rw [xek] at h;have h:=h.h
 have e:loopQ α upd μ st a Q=fun e st'=>match e with
  | .normal=>∃ a',μ a'<μ a/\weak st' (upd a' st)
  | .exit id=>Q (.exit id) st'
  | .ret=>Q .ret st':=by
  funext e st';cases e<;>rfl
 rw [e] at h;exact h
def loopQ1 {α:Type} (P:α->Prop) (upd:α->St->St) (μ:α->Nat) (st:St) (m:Nat) (Q:Ex->St->Prop) (e:Ex) (st':St):Prop:=match e with
 | .normal=>∃ a',P a'/\μ a'<m/\weak st' (upd a' st)
 | .exit id=>Q (.exit id) st'
 | .ret=>Q .ret st'
theorem Vc.loop1 {c:Code} {st:St} {Q:Ex->St->Prop} {α:Type} (P:α->Prop) (upd:α->St->St) (μ:α->Nat) (a0:α) (h0:P a0) (h1:weak st (upd a0 st)) (h2:∀ a,P a->fSt (upd a st) fun s=>Vc E c s (loopQ1 P upd μ st (μ a) Q)):Vc E (.loop c) st Q:=by
 refine Vc.loop { a:α // P a } (fun a=>upd a.1) (fun a=>μ a.1) ⟨a0,h0⟩ h1 fun a=>?_;have h:=h2 a.1 a.2;rw [xek] at h ⊢;have e:loopQ1 P upd μ st (μ a.1) Q=loopQ { a:α // P a } (fun a=>upd a.1) (fun a=>μ a.1) st a Q:=by
  funext e st'
  cases e with
  | normal=>exact propext ⟨fun ⟨a',p,q,r⟩=>⟨⟨a',p⟩,q,r⟩,fun ⟨⟨a',p⟩,q,r⟩=>⟨a',p,q,r⟩⟩
  | exit id=>rfl
  | ret=>rfl
 rw [<- e]; exact h
def loopQ2 {α β:Type} (P:α->β->Prop) (upd:α->β->St->St) (μ:α->β->Nat) (st:St) (m:Nat) (Q:Ex->St->Prop) (e:Ex) (st':St):Prop:=match e with
 | .normal=>∃ a' b',P a' b'/\μ a' b'<m/\weak st' (upd a' b' st)
 | .exit id=>Q (.exit id) st'
 | .ret=>Q .ret st'
theorem Vc.loop2 {c:Code} {st:St} {Q:Ex->St->Prop} {α β:Type} (P:α->β->Prop) (upd:α->β->St->St) (μ:α->β->Nat) (a0:α) (b0:β) (h0:P a0 b0) (h1:weak st (upd a0 b0 st)) (h2:∀ a b,P a b->fSt (upd a b st) fun s=>Vc E c s (loopQ2 P upd μ st (μ a b) Q)):Vc E (.loop c) st Q:=by
 refine Vc.loop1 (α:=α × β) (fun a=>P a.1 a.2) (fun a=>upd a.1 a.2) (fun a=>μ a.1 a.2) (a0,b0) h0 h1 fun a ha=>?_;have h:=h2 a.1 a.2 ha;rw [xek] at h ⊢;have e:loopQ2 P upd μ st (μ a.1 a.2) Q=loopQ1 (α:=α × β) (fun a=>P a.1 a.2) (fun a=>upd a.1 a.2) (fun a=>μ a.1 a.2) st (μ a.1 a.2) Q:=by
  funext e st'
  cases e with
  | normal=>exact propext ⟨fun ⟨a',b',q⟩=>⟨(a',b'),q⟩,fun ⟨a',q⟩=>⟨a'.1,a'.2,q⟩⟩
  | exit id=>rfl
  | ret=>rfl
 rw [<- e]; exact h
def loopQ3 {α β γ:Type} (P:α->β->γ->Prop) (upd:α->β->γ->St->St) (μ:α->β->γ->Nat) (st:St) (m:Nat) (Q:Ex->St->Prop) (e:Ex) (st':St):Prop:=match e with
 | .normal=>∃ a' b' c',P a' b' c'/\μ a' b' c'<m/\weak st' (upd a' b' c' st)
 | .exit id=>Q (.exit id) st'
 | .ret=>Q .ret st'
theorem Vc.loop3 {c:Code} {st:St} {Q:Ex->St->Prop} {α β γ:Type} (P:α->β->γ->Prop) (upd:α->β->γ->St->St) (μ:α->β->γ->Nat) (a0:α) (b0:β) (c0:γ) (h0:P a0 b0 c0) (h1:weak st (upd a0 b0 c0 st))
 (h2:∀ a b d,P a b d->fSt (upd a b d st) fun s=>Vc E c s (loopQ3 P upd μ st (μ a b d) Q)):Vc E (.loop c) st Q:=by
 refine Vc.loop1 (α:=α × β × γ) (fun a=>P a.1 a.2.1 a.2.2) (fun a=>upd a.1 a.2.1 a.2.2) (fun a=>μ a.1 a.2.1 a.2.2) (a0,b0,c0) h0 h1 fun a ha=>?_;have h:=h2 a.1 a.2.1 a.2.2 ha;rw [xek] at h ⊢;have e:loopQ3 P upd μ st (μ a.1 a.2.1 a.2.2) Q=loopQ1 (α:=α × β × γ) (fun a=>P a.1 a.2.1 a.2.2) (fun a=>upd a.1 a.2.1 a.2.2) (fun a=>μ a.1 a.2.1 a.2.2) st (μ a.1 a.2.1 a.2.2) Q:=by
  funext e st'
  cases e with
  | normal=>exact propext ⟨fun ⟨a',b',c',q⟩=>⟨(a',b',c'),q⟩,fun ⟨a',q⟩=>⟨a'.1,a'.2.1,a'.2.2,q⟩⟩
  | exit id=>rfl
  | ret=>rfl
 rw [<- e]; exact h
def endQ (E:Env) (fn:Func) (ins:List (Nat × Mode × TV)) (K:TV->List TV->Prop) (e:Ex) (st:St):Prop:=match e with
 | .exit _=>False
 | .normal=>fin E fn ins st K
 | .ret=>fin E fn ins st K
def fnV (E:Env) (fn:Func) (c:Code) (ins:List (Nat × Mode × TV)) (K:TV->List TV->Prop):Prop :=
 initK ins fun ts os=>fNs (namesR ins) fun us=>match namesOkR us os with
  | true=>Vc E c ⟨ts,os,us⟩ (endQ E fn ins K)
  | false=>False
theorem xte {fn:Func} {c:Code} {ins:List (Nat × Mode × TV)} {K:TV->List TV->Prop} (h:fnV E fn c ins K):fnVc E fn c ins K:=by
 unfold fnV at h;simp only [xkm] at h
 have e:endQ E fn ins K=fun e st=>match e with
  | .exit _=>False
  | .normal=>fin E fn ins st K
  | .ret=>fin E fn ins st K:=by
  funext e st';cases e<;>rfl
 rw [e] at h;exact h
theorem yp (hE:tabB E=true) (hm:E.P.follows .mixedOrders=true) {f:Nat} {fn:Func} {ins:List (Mode × TV)} {outs:List TV} {res:TV} (hf:E.P.funcs[f]?=some fn) (hk:okFn fn ins.length=true)
 (h:bdIns ins->fnV E fn (fn.body.getD .skip) (enumF 0 ins) fun v os=>v=res/\os=outs):Sem E.P f ins outs res :=
 xyg hE hm hf hk fun hb=>xte (h hb)
theorem xw (hE:tabB E=true) (hm:E.P.follows .mixedOrders=true) {f:Nat} {fn:Func} {ins:List (Mode × TV)} {K:TV->List TV->Prop} (hf:E.P.funcs[f]?=some fn) (hk:okFn fn ins.length=true)
 (h:fnV E fn (fn.body.getD .skip) (enumF 0 ins) K):∃ res outs,K res outs/\Sem E.P f ins outs res:=xip hE hm hf hk (xte h)
theorem callS {α:Type} {p:α->Prop} {q:α->Prop} {Q:α->Prop} (h:∃ r,Q r/\p r) (hk:∀ r,Q r->q r):∃ r,p r/\q r:=by
 obtain ⟨r,h1,h2⟩:=h;exact ⟨r,h2,hk r h1⟩
theorem callIo {α β:Type} {p:α->β->Prop} {q:α->β->Prop} {Q:α->β->Prop} (h:∃ a b,Q a b/\p a b) (hk:∀ a b,Q a b->q a b):∃ a b,p a b/\q a b:=by
 obtain ⟨a,b,h1,h2⟩:=h;exact ⟨a,b,h2,hk a b h1⟩
def nextB:Code->Bool
 | .skip=>true
 | .exit _=>true
 | .ret=>true
 | .seq _ _=>true
 | .block _ _=>true
 | .cond _ _ _=>true
 | .region _ _ false=>true
 | _=>false
def vcNext (E:Env) (c:Code) (st:St) (Q:Ex->St->Prop):Prop:=match c with
 | .skip=>Q .normal st
 | .exit id=>Q (.exit id) st
 | .ret=>Q .ret st
 | .seq a b=>Vc E a st (seqQ E b Q)
 | .block id c=>frzK E (1000000+id) st fun st=>Vc E c st (blockQ id Q)
 | .cond o x y=>condK E x y Q st o
 | .region rid ops false=>frzK E rid st fun st=>Sq E ops.toList rid ops.toList 0 st fun st'=>Q .normal st'
 | _=>False
theorem vN {c:Code} {st:St} {Q:Ex->St->Prop} (hc:nextB c=true) (h:vcNext E c st Q):Vc E c st Q:=by
 unfold nextB at hc;unfold vcNext at h
 split at hc
 · exact Vc.skip h
 · exact Vc.exit h
 · exact Vc.ret h
 · exact Vc.seq h
 · exact Vc.block h
 · exact Vc.cond h
 · exact Vc.region rfl h
 · cases hc
def sqNext (E:Env) (all:List Oper) (rid:Nat) (l:List Oper) (i:Nat) (st:St) (k:St->Prop):Prop:=match l with
 | []=>k st
 | o::r=>sqStep E all rid o r i st k
theorem sN {all:List Oper} {rid i:Nat} {l:List Oper} {st:St} {k:St->Prop} (h:sqNext E all rid l i st k):Sq E all rid l i st k:=by
 cases l with
 | nil=>exact Sq.nil h
 | cons o r=>exact Sq.cons h
end
end Go.AM
namespace Go.AM
open Go
variable {E:Env}
theorem dC {all:List Oper} {rid i:Nat} {o:Oper} {r:List Oper} {st:St} {k:St->List Foot->Prop} (h:drStep E all rid o r i st k):Dr E all rid (o::r) i st k:=Dr.cons h
theorem dZ {all:List Oper} {rid i:Nat} {st:St} {k:St->List Foot->Prop} (h:k st []):Dr E all rid [] i st k:=Dr.nil h
theorem dI {b:Bool} {p:Prop} (h:p) (hb:b=true:=by kernel_rfl):ifB b p False:=drawIf hb h
theorem vM {c:Code} {st:St} {Q:Ex->St->Prop} (h:vcNext E c st Q) (hc:nextB c=true:=by rfl):Vc E c st Q:=vN hc h
theorem vD {rid:Nat} {ops:Array Oper} {st:St} {Q:Ex->St->Prop} (h:frzK E rid st fun st=>Dr E ops.toList rid ops.toList 0 st fun st' fs=>ifB (drawOk ops.toList fs) (Q .normal st') False) (he:edgesOk 0 ops.toList=true:=by kernel_rfl):Vc E (.region rid ops true) st Q:=Vc.draw rfl he h
theorem mS {a:Int} {k:Prop} (h:k) (h1:0<=a:=by omega) (h2:a<=268435456:=by omega):a=a/\0<=a/\a<=268435456/\k:=mkSl h1 h2 h
theorem wk {p:Prop} (h:p:=by repeat' (first | exact True.intro | ((conv=>whnf); first | exact True.intro | refine ⟨by rfl,?_⟩ | refine ⟨by first | omega | (show (_:Int)=_; first | omega | (dsimp only; omega)),?_⟩ | refine ⟨?_,?_⟩))):p:=h
theorem wl {p:Prop} (h:p:=by repeat' (first | exact True.intro | ((conv=>whnf); first | exact True.intro | refine ⟨by rfl,?_⟩ | refine ⟨?_,?_⟩))):p:=h
theorem zz {p q:Prop} (h:q) (t:PLift q->p:=by intro h; (first|refine sN ?_|refine dC ?_|(refine dZ ?_;refine dI ?_)|refine vM ?_|refine vD ?_|refine mS ?_); exact h.down):p:=t ⟨h⟩
theorem zA {p q:Prop} (h:q) (t:PLift q->p:=by intro h; (repeat' ((first|refine sN ?_|refine dC ?_|(refine dZ ?_;refine dI ?_)|refine vM ?_|refine vD ?_|refine mS ?_);conv=>whnf)); exact h.down):p:=t ⟨h⟩
theorem wq {e:Int} {k:Int->Prop} (h:k e) (h1 : -9223372036854775808<=e:=by first|omega|(dsimp only;omega)) (h2:e<=9223372036854775807:=by first|omega|(dsimp only;omega)):∃ c,IntKind.i64.wrap e=c/\k c:=w64 h1 h2 h
end Go.AM
end
