/- The laws FnMsgOk, FnSitFree: part 22 of 41. No conditions beyond the statement. -/
import Derived.Test.YtnigojkdmmeglaaGreatDoorAll20
set_option linter.unusedVariables false
set_option linter.unusedSimpArgs false
set_option maxRecDepth 100000
set_option maxHeartbeats 16000000
section
namespace Cc
open Go Go.AM
theorem xoz (t:Treaty) (k:Nat) (hk:k<t.Gives.length) (h3:t.Gives.length<=3) (hg:∀ x∈t.Gives,0<=x/\x<=50):Sem P 286 [(.pure,.agg (aT t)),(.pure,I k)] [] (I (others t.Gives k)):=by
 have lg:=xb t.Gives;refine fO Go.Proofs.Tryz.f286 fun hb=>?_;conv=>whnf
 (refine zA ?_)
 refine Vc.loop2 (fun (i:Nat) (n:Int)=>i<=t.Gives.length/\n=oth t.Gives k i) (fun i n=>updL [1,4,9,10,23] [(11,I i),(5,I n)] []) (fun i _=>t.Gives.length - i) 0 0 ⟨xz1 _,(xgt _ _).symm⟩ ?_ (fun i n hi=>?_)
 · exact wk
 · obtain ⟨hi,rfl⟩:=hi;conv=>whnf
   (refine zA ?_)
   refine xd (fun g=>?_) (fun g=>?_)
   all_goals conv=>whnf
   · have hil:i<t.Gives.length:=by omega
     have es:=xgu (k:=k) hil;have b0:=xbh (k:=k) hg hi;have b1:=xbh (k:=k) hg (i:=i+1) (by omega);have hx:=hg (t.Gives.getD i 0) (by rw [xzo,xzh (by omega)]; exact x0m _)
     repeat' first|((first|refine zz ?_|(refine xa ?_ ?_<;>intro _)|refine ixN (enc:=rI) 0 (by omega) ?_|refine wq ?_)<;>conv=>whnf)
     · rename_i h;have h':¬ i=k:=by have:=yv h; omega
       rw [if_neg h'] at es;refine ⟨i+1,oth t.Gives k i+t.Gives.getD i 0,⟨by omega,es.symm⟩,by simp only; omega,?_⟩;exact wk
     · rename_i h;have h':i=k:=by have:=y8 h; omega
       rw [if_pos h'] at es;refine ⟨i+1,oth t.Gives k i,⟨by omega,by omega⟩,by simp only; omega,?_⟩;exact wk
   ·
    (refine zA ?_)
    have e:i=t.Gives.length:=by omega
    subst e;exact rI' (xfk hk)
theorem xgb (t:Treaty) (parts:List (List Int)) (s:Int) (a:List Int) (f:Form) (args:List Int):Sem P 244 [(.pure,.agg (aT t)),(.pure,.one (sPs parts)),(.pure,I s),(.pure,AI a),(.pure,.agg (aF f)),(.pure,AI args)] [] (tB (bounds t parts s a f args)):=by
 by_cases hok:(trtOk t && partsOk parts && inB s 0 (t.Gives.length - 1) && addedOk a && f.ok && argOk args)=true
 · have h:=hok;simp only [xzj] at h;obtain ⟨⟨⟨⟨⟨h1,h2⟩,h3⟩,h4⟩,h5⟩,h6⟩:=h;have hs:=xc.1 h3;obtain ⟨k,rfl⟩:∃ k:Nat,s=k:=⟨s.toNat,by omega⟩;have hk:k<t.Gives.length:=by omega
   obtain ⟨g3,gv⟩:=xj0 h1;have hfb:=zm.1 h5;have hn:=xml h1 h4;have hat:=xpv hfb hn (zb h6);have b3:=xe.1 (xcu h1);have a3:=xu h4;have ob:=xbh (k:=k) gv (x0r t.Gives.length);rw [xfk hk] at ob
   have e:bounds t parts k a f args=if zeros f.C then (f.at (plus t.Base a) args,f.at (plus t.Base a) args,true) else if has parts (part f.C) then (f.at (plus t.Base a) args - others t.Gives k,f.at (plus t.Base a) args+others t.Gives k,true) else (0,0,false):=by
    unfold bounds; rw [if_pos hok]
   have hi:=xpw parts (part f.C);have i1:=jf t parts k a;rw [h1,h2,h3,h4] at i1;have i5:=zr f;rw [h5] at i5;have i6:=xaj args;rw [h6] at i6;have iz:=xhv f.C;have ih:=xl0 parts (part f.C);rw [e];clear e;cases hz:zeros f.C<;>cases hh:has parts (part f.C)
   all_goals
    rw [hz] at iz;rw [hh] at hi;refine fO Go.Proofs.Tryz.f244 fun hb=>?_;conv=>whnf
    repeat' first|((first|refine zz ?_|(refine xa ?_ ?_<;>intro _)|refine ⟨_,i1,?_⟩|refine ⟨_,i5,?_⟩|refine ⟨_,i6,?_⟩|refine ⟨_,iz,?_⟩|refine ⟨_,ih,?_⟩)<;>conv=>whnf)|(refine ⟨_,xjv t.Base a (by rw [b3.1,a3.1]) (by rw [b3.1]; decide) (fun x hx=>by have:=b3.2 x hx; omega) (fun x hx=>by have:=a3.2 x hx; omega),?_⟩;conv=>whnf)|((first|refine ⟨_,xpf f (plus t.Base a) args hfb hn (zb h6),?_⟩)<;>conv=>whnf)|(refine ⟨_,xjk f.C f.D f.K (by rw [hfb.1.1]; decide) (fun x hx=>by have:=hfb.2.1 x hx; omega),?_⟩;conv=>whnf)|((first|refine ⟨_,xoz t k hk g3 gv,?_⟩|refine wq ?_)<;>conv=>whnf)
    all_goals first
     | exact ⟨rfl,rfl⟩
     | (exfalso; clear i1 i5 i6 iz ih hb; simp_all; omega)
     | (exfalso; clear i1 i5 i6 iz ih hb; simp_all; done)
 · have i1:=jf t parts s a;refine fO Go.Proofs.Tryz.f244 fun hb=>?_;conv=>whnf
   repeat' first|((first|refine zz ?_|(refine xa ?_ ?_<;>intro _)|refine ⟨_,i1,?_⟩|refine ⟨_,zr f,?_⟩|refine ⟨_,xaj args,?_⟩)<;>conv=>whnf)
   all_goals first
    | (refine ⟨?_,rfl⟩; unfold bounds; rw [if_neg hok]; done)
    | (exfalso; refine hok ?_; clear i1 hb; simp_all; done)
theorem xm3 (T:List Form) (vals args:List Int) (h100:T.length<=1000) (hT:∀ f∈T,f.bd 10000000) (hv:nums vals 3) (ha:nums args 2):Sem P 248 [(.pure,.one (sFs T)),(.pure,AI vals),(.pure,AI args)] [] (AI (T.map fun f=>f.at vals args)):=by
 have lT:(T.map eF).length=T.length:=xzi ..;refine fO Go.Proofs.Tryz.f248 fun hb=>?_;have hb1:(T.map eF).length<=1125899906842624:=hb.1.1;conv=>whnf
 (refine zA ?_)
 refine Vc.loop1 (fun (i:Nat)=>i<=T.length) (fun i=>updL [1,2,6,10,11,24] [(12,I i),(7,.one (.ref 128000))] [(128000,.arr 3 (ints ((T.map fun f=>f.at vals args).take i)) false)]) (fun i=>T.length - i) 0 (xz1 _) ?_ (fun i hi=>?_)
 · exact wk
 · have hlo:(ints ((T.map fun f=>f.at vals args).take i)).length=i:=by rw [xb,xz3,xzi]; omega
   conv=>whnf
   (refine zA ?_)
   refine xd (fun g=>?_) (fun g=>?_)
   all_goals conv=>whnf
   · have hil:i<T.length:=by omega
     have hfi:=hT (T.getD i default) (xp hil);have es:ints ((T.map fun f=>f.at vals args).take i)++[rI ((T.getD i default).at vals args)]=ints ((T.map fun f=>f.at vals args).take (i+1)):=by
      rw [y0,<- x1u,<- x1u,xt hil,x0q]; rfl
     repeat' first|((first|refine zz ?_|(refine xa ?_ ?_<;>intro _)|refine ixN (enc:=eF) default hil ?_|refine ⟨_,xpf (T.getD i default) vals args hfi hv ha,?_⟩)<;>conv=>whnf)|(refine apN (by rw [hlo]; show i+1<=_; omega) ?_;conv=>whnf)|((first|refine wq ?_)<;>conv=>whnf)
     refine ⟨i+1,by omega,by simp only; omega,?_⟩
     repeat' (first|exact True.intro|((conv=>whnf);first|exact True.intro|refine ⟨by rfl,?_⟩|refine ⟨by first|omega|(show (_:Int)=_;first|omega|(dsimp only;omega))|exact es,?_⟩|refine ⟨?_,?_⟩))
   ·
    (refine zA ?_)
    have hend:(T.map fun f=>f.at vals args).take i=T.map fun f=>f.at vals args:=xzx (by rw [xzi]; omega);exact ⟨by rw [hend],rfl⟩
abbrev Act0:=List Line
theorem xwu (ac:List Act0) (t:Treaty) (s:Int) (a gv:List Int) (f:Form):Sem P 243 [(.pure,.agg (aF f)),(.pure,.one (.fp [] (aT t) 0)),(.pure,.one (.fp [] (aRu ac) 0)),(.pure,.one (.fp [] [eI s] 0)),(.pure,.one (.fp [] [sI a] 0)),(.pure,.one (.fp [] [sI gv] 0))] [] (B (!sure t (partsOf ac) s a gv f)):=by
 have hB:=xgb t (partsOf ac) s a f gv;have e:sure t (partsOf ac) s a gv f=((bounds t (partsOf ac) s a f gv).2.2 && decide (0<=(bounds t (partsOf ac) s a f gv).1)):=rfl;rw [e];generalize bounds t (partsOf ac) s a f gv=b at hB ⊢;obtain ⟨lo,up,ok⟩:=b;cases ok
 all_goals
  refine fO Go.Proofs.Tryz.f243 fun hb=>?_;conv=>whnf
  repeat' first|((first|refine zz ?_|(refine xa ?_ ?_<;>intro _)|refine ⟨_,hB,?_⟩)<;>conv=>whnf)
  all_goals first
   | exact ⟨rfl,rfl⟩
   | exact rB (by simp only [x1h]; by_cases h:lo<0<;>simp [h]<;>omega)
theorem xkk (ac:List Act0) (t:Treaty) (s:Int) (a:List Int) (gv:List Int) (l:List Form):Sem P 287 [(.pure,.one (sFs l)),(.pure,.one (.fn 243 [.fp [] (aT t) 0,.fp [] (aRu ac) 0,.fp [] [eI s] 0,.fp [] [sI a] 0,.fp [] [sI gv] 0]))] [] (I (idxOf (fun (x:Form)=>!sure t (partsOf ac) s a gv x) l)):=by
 refine fO Go.Proofs.Tryz.f287 fun hb=>?_;have la:(l.map eF).length=l.length:=xzi ..;have hb1:(l.map eF).length<=1125899906842624:=hb.1.1;conv=>whnf
 (refine zA ?_)
 refine Vc.loop { i:Nat // ∀ j,j<i->j<l.length->(fun (x:Form)=>!sure t (partsOf ac) s a gv x) (l.getD j default)=false } (fun i=>updL [0,1,7] [(8,I i.1)] []) (fun i=>l.length - i.1) ⟨0,by simp⟩ ?_ (fun i=>?_)
 · exact wl
 · have hi:=i.2;conv=>whnf
   (refine zA ?_)
   refine xd (fun g=>?_) (fun g=>?_)
   all_goals conv=>whnf
   · repeat' first|((first|refine zz ?_|(refine xa ?_ ?_<;>intro _)|refine ixN (enc:=eF) default (by omega) ?_|refine ⟨_,xwu ac t s a gv _,?_⟩|refine wq ?_)<;>conv=>whnf)
     · rename_i h;exact rI' (yw (p:=fun (x:Form)=>!sure t (partsOf ac) s a gv x) default (by omega) h fun j hj=>hi j hj (by omega)).symm
     · rename_i h;refine ⟨⟨i.1+1,fun j hj hl=>?_⟩,?_,?_⟩
       · by_cases hji:j<i.1
         · exact hi j hji hl
         · obtain rfl:j=i.1:=by omega
           exact h
       · simp only; omega
       · exact wl
   ·
    (refine zA ?_)
    exact rI' (yf (p:=fun (x:Form)=>!sure t (partsOf ac) s a gv x) default fun j hj=>hi j (by omega) hj).symm
theorem xsb (ac:List Act0) (t:Treaty) (s:Int) (a:List Int) (gv:List Int) (l:List Form):Sem P 247 [(.pure,.one (sFs l)),(.pure,.one (.fn 243 [.fp [] (aT t) 0,.fp [] (aRu ac) 0,.fp [] [eI s] 0,.fp [] [sI a] 0,.fp [] [sI gv] 0]))] [] (B (l.any fun (x:Form)=>!sure t (partsOf ac) s a gv x)):=by
 refine fO Go.Proofs.Tryz.f247 fun hb=>?_;conv=>whnf
 repeat' first|((first|refine zz ?_|(refine xa ?_ ?_<;>intro _)|refine ⟨_,xkk ac t s a gv l,?_⟩)<;>conv=>whnf)
 exact rB (zd _ _)
theorem xwv (ac:List Act0) (t:Treaty) (s:Int) (a gv:List Int) (r:Row):Sem P 246 [(.pure,.agg (aW r)),(.pure,.one (.fp [] [.fn 243 [.fp [] (aT t) 0,.fp [] (aRu ac) 0,.fp [] [eI s] 0,.fp [] [sI a] 0,.fp [] [sI gv] 0]] 0))] [] (B (r.Guards.all (sure t (partsOf ac) s a gv))):=by
 have e:r.Guards.all (sure t (partsOf ac) s a gv)=!(r.Guards.any fun x=>!sure t (partsOf ac) s a gv x):=by rw [List.all_eq_not_any_not]
 rw [e];refine fO Go.Proofs.Tryz.f246 fun hb=>?_;conv=>whnf
 repeat' first|((first|refine zz ?_|(refine xa ?_ ?_<;>intro _)|refine ⟨_,xsb ac t s a gv r.Guards,?_⟩)<;>conv=>whnf)
 exact ⟨rfl,rfl⟩
theorem xx5 (ac:List Act0) (t:Treaty) (s:Int) (a gv:List Int) (l:List Row):Sem P 245 [(.pure,.one (sWs l)),(.pure,.one (.fn 246 [.fp [] [.fn 243 [.fp [] (aT t) 0,.fp [] (aRu ac) 0,.fp [] [eI s] 0,.fp [] [sI a] 0,.fp [] [sI gv] 0]] 0]))] [] (I (idxOf (fun (x:Row)=>x.Guards.all (sure t (partsOf ac) s a gv)) l)):=by
 refine fO Go.Proofs.Tryz.f245 fun hb=>?_;have la:(l.map eW).length=l.length:=xzi ..;have hb1:(l.map eW).length<=1125899906842624:=hb.1.1;conv=>whnf
 (refine zA ?_)
 refine Vc.loop1 (fun (i:Nat)=>i<=l.length/\∀ j,j<i->(fun (x:Row)=>x.Guards.all (sure t (partsOf ac) s a gv)) (l.getD j default)=false) (fun i=>updL [0,1,7] [(8,I i)] []) (fun i=>l.length - i) 0 ⟨xz1 _,fun j hj=>absurd hj (x0z j)⟩ ?_ (fun i hi=>?_)
 · exact wk
 · obtain ⟨hi,ho⟩:=hi;conv=>whnf
   (refine zA ?_)
   refine xd (fun g=>?_) (fun g=>?_)
   all_goals conv=>whnf
   · have hil:i<l.length:=by omega
     have hu:=xwv ac t s a gv (l.getD i default)
     cases hs:(l.getD i default).Guards.all (sure t (partsOf ac) s a gv) with
     | true =>
       rw [hs] at hu
       repeat' first|((first|refine zz ?_|(refine xa ?_ ?_<;>intro _)|refine ixN (enc:=eW) default hil ?_|refine ⟨_,hu,?_⟩|refine wq ?_)<;>conv=>whnf)
       exact rI' (yw (p:=fun (x:Row)=>x.Guards.all (sure t (partsOf ac) s a gv)) default hil hs fun j hj=>ho j hj).symm
     | false =>
       rw [hs] at hu
       repeat' first|((first|refine zz ?_|(refine xa ?_ ?_<;>intro _)|refine ixN (enc:=eW) default hil ?_|refine ⟨_,hu,?_⟩|refine wq ?_)<;>conv=>whnf)
       refine ⟨i+1,⟨by omega,fun j hj=>?_⟩,by simp only; omega,?_⟩
       · by_cases hji:j<i
         · exact ho j hji
         · obtain rfl:j=i:=by omega
           exact hs
       · exact wk
   ·
    (refine zA ?_)
    exact rI' (yf (p:=fun (x:Row)=>x.Guards.all (sure t (partsOf ac) s a gv)) default fun j hj=>ho j (by omega)).symm
theorem xm4 {α:Type} [Inhabited α] (p:α->Bool):∀ l:List α,(idxOf p l = -1/\l.find? p=none)\/∃ i:Nat,i<l.length/\idxOf p l=i/\l.find? p=some (l.getD i default)
 | []=>.inl ⟨rfl,rfl⟩
 | a::r=>by
   unfold idxOf
   cases h:p a with
   | true=>exact .inr ⟨0,by simp,by simp,by rw [List.find?_cons_of_pos h]; rfl⟩
   | false =>
     rw [List.find?_cons_of_neg (by rw [h]; decide)];rcases xm4 p r with ⟨h1,h2⟩|⟨i,h1,h2,h3⟩
     · exact .inl ⟨by rw [h1]; rfl,h2⟩
     · refine .inr ⟨i+1,by simpa using h1,?_,h3⟩;rw [h2,if_neg (by decide),if_neg (by omega)]; omega
theorem xo0 {t:Treaty} {parts:List (List Int)} {s:Int} {x args:List Int} {v:Nat} (hv:v<3) (ha:argOk args=true):bounds t parts s x (Form.pot v) args=bounds t parts s x (Form.pot v) [0,0]:=by
 have h0:argOk [0,0]=true:=by decide
 have e:∀ l,(Form.pot v).at l args=(Form.pot v).at l [0,0]:=fun l=>by
  obtain ⟨w1,-⟩:=xe.1 ha;obtain ⟨g,h,rfl⟩:=len2 w1
  match v,hv with
  | 0,_=>simp [Form.at,Form.pot,dot]
  | 1,_=>simp [Form.at,Form.pot,dot]
  | 2,_=>simp [Form.at,Form.pot,dot]
 unfold bounds;rw [ha,h0,e]
def orF (f:Nat->Bool):Nat->Bool
 | 0=>false
 | v+1=>orF f v || f v
theorem orF3 (f:Nat->Bool):orF f 3=(f 0 || (f 1 || f 2)):=by
 simp only [orF,Bool.false_or,x3v]
def updW (ns:List Nat):St->St
 | ⟨t,s,u⟩=>⟨t,without ns s,u⟩
theorem xgc (acts:List Act0) (t:Treaty) (s:Int) (a:List Int) (k:Int) (args:List Int) (hcat:catOk acts=true) (hg:argOk args=true) (hk:0<=k/\k<acts.length) (hkeep:keeps acts t s a=true) :
 Sem P 177 [(.pure,.one (sAs acts)),(.pure,.agg (aT t)),(.pure,I s),(.pure,AI a),(.pure,I k),(.pure,AI args)] [] (tR (alone acts t s a k args)):=by
 have hkp:(trtKeeps t (partsOf acts) s a && unpinned (pinsOf acts) a)=true:=hkeep;have hK:=hkp;unfold trtKeeps at hK;simp only [xzj] at hK;obtain ⟨⟨⟨⟨⟨ht,hp⟩,hs⟩,ha⟩,-⟩,-⟩:=hK;have a3:=xu ha;have hb':=xcu ht;have i1:=xak acts;rw [hcat] at i1;have i2:=xaj args;rw [hg] at i2;have lac:(acts.map eA).length=acts.length:=xzi ..;have i3:Sem P 148 [(.pure,I k),(.pure,I 0),(.pure,I ((acts.map eA).length - 1))] [] (B true):=by
  have:=x6 k 0 ((acts.map eA).length - 1);rw [xc.2 ⟨hk.1,by rw [lac]; omega⟩] at this; exact this
 have i4:=xdh acts hcat
 obtain ⟨p,q,u,hpin⟩:∃ p q u,pinsOf acts=[p,q,u]:=⟨_,_,_,rfl⟩;have i5:=xdj acts (partsOf acts) p q u t s a;rw [<- hpin,hkp] at i5;have i6:=yj a (by omega);have hbd:=fun (r:Row) (hr:r∈rowsOf (acts.getD k.toNat []))=>ke hr;have h100:=fun (r:Row) (hr:r∈rowsOf (acts.getD k.toNat []))=>wz hr;have al:alone acts t s a k args=tryRows (rowsOf (acts.getD k.toNat [])) (partsOf acts) (pinsOf acts) t s a args:=rfl;rw [al];have hR:=xca (acts.getD k.toNat []);have hX:=xx5 acts t s a args (rowsOf (acts.getD k.toNat []));generalize rowsOf (acts.getD k.toNat [])=rows at *;have lr:(rows.map eW).length=rows.length:=xzi ..;rcases xm4 (fun (x:Row)=>x.Guards.all (sure t (partsOf acts) s a args)) rows with ⟨e1,e2⟩|⟨i,hi,e1,e2⟩
 · rw [e1] at hX;have tr:tryRows rows (partsOf acts) (pinsOf acts) t s a args=(Rslt.nil,a,false):=by unfold tryRows; rw [e2]
   rw [tr];refine fK [7001] Go.Proofs.Tryz.f177 fun hb=>?_;have hb1:(acts.map eA).length<=1125899906842624:=hb.1.1;conv=>whnf
   repeat' first|((first|refine zz ?_|(refine xa ?_ ?_<;>intro _)|refine ⟨_,i1,?_⟩|refine ⟨_,i2,?_⟩|refine ⟨_,i3,?_⟩|refine ⟨_,i4,?_⟩|refine ⟨_,i5,?_⟩|refine ⟨_,i6,?_⟩|refine ixI (enc:=eA) (L:=acts) [] hk.1 hk.2 ?_|refine ⟨_,hR,?_⟩|refine ⟨_,hX,?_⟩|refine wq ?_)<;>conv=>whnf)
   exact ⟨rfl,rfl⟩
 · rw [e1] at hX;have tr:tryRows rows (partsOf acts) (pinsOf acts) t s a args=goRow t (partsOf acts) (pinsOf acts) s a (rows.getD i default) args:=by unfold tryRows; rw [e2]
   rw [tr]
   cases hst:(rows.getD i default).Stop with
   | true =>
     have go:goRow t (partsOf acts) (pinsOf acts) s a (rows.getD i default) args=(⟨2,[]⟩,a,true):=by unfold goRow; rw [if_pos hst]
     rw [go];refine fK [7001] Go.Proofs.Tryz.f177 fun hb=>?_;have hb1:(acts.map eA).length<=1125899906842624:=hb.1.1;conv=>whnf
     repeat' first|((first|refine zz ?_|(refine xa ?_ ?_<;>intro _)|refine ⟨_,i1,?_⟩|refine ⟨_,i2,?_⟩|refine ⟨_,i3,?_⟩|refine ⟨_,i4,?_⟩|refine ⟨_,i5,?_⟩|refine ⟨_,i6,?_⟩|refine ixI (enc:=eA) (L:=acts) [] hk.1 hk.2 ?_|refine ⟨_,hR,?_⟩|refine ⟨_,hX,?_⟩|refine ixN (enc:=eW) default hi ?_|refine wq ?_)<;>conv=>whnf)
     all_goals first
      | exact ⟨rfl,rfl⟩
      | omega
      | (exfalso; clear hb hX hR i1 i2 i3 i4 i5 i6; simp_all; done)
   | false =>
     obtain ⟨b1,b2,b3,b4⟩:=hbd _ (xp hi);have h6:=h100 _ (xp hi);have hA:=xm3 (rows.getD i default).Adds t.Base args (by omega) (fun f hf=>xh (b2 f hf) (by omega)) (vo hb') (zb hg);have hT:=xm3 (rows.getD i default).Tells t.Base args (by omega) (fun f hf=>xh (b3 f hf) (by omega)) (vo hb') (zb hg);have hmid:∀ w∈(rows.getD i default).Adds.map (fun f=>f.at t.Base args),-1000000000000<=w/\w<=1000000000000:=fun w hw=>by
      obtain ⟨f,hf,rfl⟩:=xzv.1 hw;exact xh5 (xh (b2 f hf) (by omega)) hb' hg
     have hal:((rows.getD i default).Adds.map fun f=>f.at t.Base args).length=3:=by rw [xzi]; rw [if_neg (by rw [hst]; decide)] at b4; exact b4
     have go:goRow t (partsOf acts) (pinsOf acts) s a (rows.getD i default) args=(let adds:=(rows.getD i default).Adds.map fun f=>f.at t.Base args; let x:=plus a adds
      if !unpinned (pinsOf acts) adds || !addedOk x then (Rslt.nil,a,false)
      else if rangeOf t (partsOf acts) s x=2 then (⟨3,[]⟩,a,true)
      else if rangeOf t (partsOf acts) s x=0 then (Rslt.nil,a,false)
      else if !trtKeeps t (partsOf acts) s x then (Rslt.nil,a,false)
      else (⟨1,(rows.getD i default).Tells.map fun f=>f.at t.Base args⟩,x,true)):=by unfold goRow; rw [if_neg (by rw [hst]; decide)]
     rw [go];clear go tr;simp only;generalize ((rows.getD i default).Adds.map fun f=>f.at t.Base args)=adds at *;obtain ⟨x,y,z,rfl⟩:=len3 hal;have hP:=xjv a [x,y,z] (by rw [a3.1]; rfl) (by rw [a3.1]; decide) (fun w hw=>by have:=a3.2 w hw; omega) (fun w hw=>by have:=hmid w hw; omega);have hU:=xd0 acts (partsOf acts) p q u x y z;rw [<- hpin] at hU;generalize plus a [x,y,z]=now at *;have hO:=xba now
     cases hf:unpinned (pinsOf acts) [x,y,z] with
     | false =>
       rw [hf] at hU;refine fK [7001,16002] Go.Proofs.Tryz.f177 fun hb=>?_;have hb1:(acts.map eA).length<=1125899906842624:=hb.1.1;conv=>whnf
       repeat' first|((first|refine zz ?_|(refine xa ?_ ?_<;>intro _)|refine ⟨_,i1,?_⟩|refine ⟨_,i2,?_⟩|refine ⟨_,i3,?_⟩|refine ⟨_,i4,?_⟩|refine ⟨_,i5,?_⟩|refine ⟨_,i6,?_⟩|refine ixI (enc:=eA) (L:=acts) [] hk.1 hk.2 ?_|refine ⟨_,hR,?_⟩|refine ⟨_,hX,?_⟩|refine ixN (enc:=eW) default hi ?_|refine ⟨_,hA,?_⟩|refine ⟨_,hP,?_⟩|refine ⟨_,hU,?_⟩|refine wq ?_)<;>conv=>whnf)
       all_goals first
        | exact ⟨rfl,rfl⟩
        | (exfalso; rename_i hz; rw [hst] at hz; cases hz; done)
        | omega
     | true =>
       rw [hf] at hU
       cases hx:addedOk now with
       | false =>
         rw [hx] at hO;refine fK [7001,16002] Go.Proofs.Tryz.f177 fun hb=>?_;have hb1:(acts.map eA).length<=1125899906842624:=hb.1.1;conv=>whnf
         repeat' first|((first|refine zz ?_|(refine xa ?_ ?_<;>intro _)|refine ⟨_,i1,?_⟩|refine ⟨_,i2,?_⟩|refine ⟨_,i3,?_⟩|refine ⟨_,i4,?_⟩|refine ⟨_,i5,?_⟩|refine ⟨_,i6,?_⟩|refine ixI (enc:=eA) (L:=acts) [] hk.1 hk.2 ?_|refine ⟨_,hR,?_⟩|refine ⟨_,hX,?_⟩|refine ixN (enc:=eW) default hi ?_|refine ⟨_,hA,?_⟩|refine ⟨_,hP,?_⟩|refine ⟨_,hU,?_⟩|refine ⟨_,hO,?_⟩|refine wq ?_)<;>conv=>whnf)
         all_goals first
          | exact ⟨rfl,rfl⟩
          | (exfalso; rename_i hz; rw [hst] at hz; cases hz; done)
          | omega
       | true =>
         rw [hx] at hO;have fB:∀ v:Nat,v<3->∃ lo up,bounds t (partsOf acts) s now (Form.pot v) [0,0]=(lo,up,true):=fun v hv=>by
          obtain ⟨n0,n1,n2,rfl⟩:=len3 (xu hx).1;obtain ⟨c0,c1,c2,hc⟩:=len3 (xe.1 hb').1;obtain ⟨g0,g1,g2⟩:=xrb ht hp (xc.1 hs) hx hc
          match v,hv with
          | 0,_=>exact ⟨_,_,g0⟩
          | 1,_=>exact ⟨_,_,g1⟩
          | 2,_=>exact ⟨_,_,g2⟩
         have hB:=fun v:Nat=>xgb t (partsOf acts) s now (Form.pot v) args;have hK2:=xcb t (partsOf acts) s now
         have hrng:rangeOf t (partsOf acts) s now=if orF (fun v=>yo (bounds t (partsOf acts) s now (Form.pot v) [0,0])) 3 then 2 else if orF (fun v=>qg (bounds t (partsOf acts) s now (Form.pot v) [0,0])) 3 then 0 else 1:=by rw [orF3,orF3,xgv]
         have hB':∀ v:Nat,v<3->Sem P 244 [(.pure,.agg (aT t)),(.pure,.one (sPs (partsOf acts))),(.pure,I s),(.pure,AI now),(.pure,.agg (aF (Form.pot v))),(.pure,AI args)] [] (tB (bounds t (partsOf acts) s now (Form.pot v) [0,0])):=fun v hv=>by
          have:=hB v;rw [xo0 hv hg] at this; exact this
         clear hB;generalize hfe:(fun v:Nat=>bounds t (partsOf acts) s now (Form.pot v) [0,0])=f at *;have hf':∀ v:Nat,bounds t (partsOf acts) s now (Form.pot v) [0,0]=f v:=fun v=>congrFun hfe v;simp only [hf'] at fB hB' hrng;clear hfe hf'
         generalize hW:(if (!true || !true)=true then (Rslt.nil,a,false)
          else if rangeOf t (partsOf acts) s now=2 then ((⟨3,[]⟩:Rslt),a,true)
          else if rangeOf t (partsOf acts) s now=0 then (Rslt.nil,a,false)
          else if (!trtKeeps t (partsOf acts) s now)=true then (Rslt.nil,a,false)
          else ((⟨1,(rows.getD i default).Tells.map fun f=>f.at t.Base args⟩:Rslt),now,true))=W
         refine fK [7001,16002,31008] Go.Proofs.Tryz.f177 fun hb=>?_;have hb1:(acts.map eA).length<=1125899906842624:=hb.1.1;conv=>whnf
         repeat' first|((first|refine zz ?_|(refine xa ?_ ?_<;>intro _)|refine ⟨_,i1,?_⟩|refine ⟨_,i2,?_⟩|refine ⟨_,i3,?_⟩|refine ⟨_,i4,?_⟩|refine ⟨_,i5,?_⟩|refine ⟨_,i6,?_⟩|refine ixI (enc:=eA) (L:=acts) [] hk.1 hk.2 ?_|refine ⟨_,hR,?_⟩|refine ⟨_,hX,?_⟩|refine ixN (enc:=eW) default hi ?_|refine ⟨_,hA,?_⟩|refine ⟨_,hP,?_⟩|refine ⟨_,hU,?_⟩|refine ⟨_,hO,?_⟩|refine wq ?_)<;>conv=>whnf)
         all_goals first
          | (exfalso; rename_i hz; rw [hst] at hz; cases hz; done)
          | omega
          | skip
         refine Vc.loop3 (fun (v:Nat) (o d:Bool)=>v<=3/\o=orF (fun v=>yo (f v)) v/\d=orF (fun v=>qg (f v)) v) (fun v o d st=>updW [512064] (updL [7,8,11,12,13,14,15,16,18,19,21,136,137,138,139,140,141,142,143,144,145,146,147,148,149,150,151,152,153,154,155,156,157,158,159,160,161,162,163] [(101,I v),(22,B o),(23,B d)] [] st)) (fun v _ _=>3 - v) 0 false false ⟨by omega,rfl,rfl⟩ ?_ (fun v o d hv=>?_)
         · exact wk
         · obtain ⟨hv,ho,hd⟩:=hv;conv=>whnf
           (refine zA ?_)
           refine xd (fun g=>?_) (fun g=>?_)
           all_goals conv=>whnf
           · have hv3:v<3:=by omega
             have hBv:=hB' v hv3;obtain ⟨lo,up,hlu⟩:=fB v hv3;rw [hlu] at hBv;have ho1:(o || yo (lo,up,true))=orF (fun v=>yo (f v)) (v+1):=by rw [ho,<- hlu]; rfl
             have hd1:(d || qg (lo,up,true))=orF (fun v=>qg (f v)) (v+1):=by rw [hd,<- hlu]; rfl
             cases o<;>cases d
             all_goals
              repeat' first|((first|refine zz ?_|(refine xa ?_ ?_<;>intro _)|refine ⟨_,qm v hv3,?_⟩|refine ⟨_,hBv,?_⟩|refine wq ?_)<;>conv=>whnf)
              all_goals first
               | (try simp only [xzk,xzw] at *
                  refine ⟨v+1,_,_,⟨by omega,ho1,hd1⟩,by first|omega|(simp only; omega),?_⟩
                  repeat' (first|exact True.intro|((conv=>whnf);first|exact True.intro|refine ⟨by rfl,?_⟩|refine ⟨by first|omega|(show (_:Int)=_;first|omega|(dsimp only;omega))|exact (by show (_:Bool)=_; first|rfl|(simp [yo,qg]; done)|(simp [yo,qg]; omega)|(simp_all [yo,qg]; done)|(simp_all [yo,qg]; omega)),?_⟩|refine ⟨?_,?_⟩))
                  done)
           · have ev:v=3:=by omega
             subst ev;rw [<- ho,<- hd] at hrng
             cases o with
             | true =>
               have hWe:W=(⟨3,[]⟩,a,true):=by rw [<- hW,hrng]; rfl
               (refine zA ?_)
               exact ⟨by rw [hWe]; rfl,rfl⟩
             | false =>
               cases d with
               | true =>
                 have hWe:W=(Rslt.nil,a,false):=by rw [<- hW,hrng]; rfl
                 (refine zA ?_)
                 exact ⟨by rw [hWe]; rfl,rfl⟩
               | false =>
                 cases hk2:trtKeeps t (partsOf acts) s now with
                 | false =>
                   rw [hk2] at hK2;have hWe:W=(Rslt.nil,a,false):=by rw [<- hW,hrng,hk2]; rfl
                   repeat' first|((first|refine zz ?_|(refine xa ?_ ?_<;>intro _)|refine ⟨_,hK2,?_⟩)<;>conv=>whnf)
                   exact ⟨by rw [hWe]; rfl,rfl⟩
                 | true =>
                   rw [hk2] at hK2;have hWe:W=(⟨1,(rows.getD i default).Tells.map fun f=>f.at t.Base args⟩,now,true):=by rw [<- hW,hrng,hk2]; rfl
                   repeat' first|((first|refine zz ?_|(refine xa ?_ ?_<;>intro _)|refine ⟨_,hK2,?_⟩|refine ixN (enc:=eW) default hi ?_|refine ⟨_,hT,?_⟩)<;>conv=>whnf)
                   all_goals first
                    | exact ⟨by rw [hWe]; rfl,rfl⟩
                    | omega
theorem xfm (a b:List Int):Sem P 21 [(.pure,AI a),(.pure,AI b)] [] (B (decide (a=b))):=by
 refine fO Go.Proofs.Tryz.f21 fun hb=>?_;have la:=xb a;have lb:=xb b;have hb1:a.length<=1125899906842624:=by simp [bdIns,bdT,bdA] at hb; omega
 conv=>whnf
 (refine zA ?_)
 refine xa (fun h=>?_) (fun h=>?_)
 all_goals conv=>whnf
 all_goals (refine zA ?_)
 · exact rB (by have:=yv h; symm; simp; intro e; subst e; simp at this)
 · have h:=y8 h;refine Vc.loop { i:Nat // ∀ j,j<i->a.getD j 0=b.getD j 0 } (fun i=>updL [0,1] [(5,I i.1)] []) (fun i=>a.length - i.1) ⟨0,by simp⟩ ?_ (fun i=>?_)
   · exact wl
   · have hi:=i.2;conv=>whnf
     (refine zA ?_)
     refine xd (fun g=>?_) (fun g=>?_)
     all_goals conv=>whnf
     · repeat' first|((first|refine zz ?_|(refine xa ?_ ?_<;>intro _)|refine ixN (enc:=rI) 0 (by omega) ?_|refine wq ?_)<;>conv=>whnf)
       · rename_i g';exact rB (by have:=yv g'; symm; simp; intro e; subst e; simp at this)
       · rename_i g';have e:=y8 g';refine ⟨⟨i.1+1,fun j hj=>?_⟩,?_,?_⟩
         · by_cases h:j<i.1
           · exact hi j h
           · obtain rfl:j=i.1:=by omega
             exact e
         · simp only; omega
         · exact wl
     ·
      (refine zA ?_)
      exact rB (by symm; simp; exact xas 0 (by omega) fun j hj=>hi j (by omega))
theorem vb (a b:Rslt):Sem P 20 [(.pure,.agg (aR a)),(.pure,.agg (aR b))] [] (B (decide (a=b))):=by
 refine fO Go.Proofs.Tryz.f20 fun hb=>?_;conv=>whnf
 repeat' first|((first|refine zz ?_|(refine xa ?_ ?_<;>intro _)|refine ⟨_,xfm _ _,?_⟩)<;>conv=>whnf)
 all_goals refine rB ?_
 all_goals (cases a; cases b; first|(simp_all; done)|(simp_all; rfl))
theorem xp3 (a b:Call):Sem P 40 [(.pure,.agg (aC a)),(.pure,.agg (aC b))] [] (B (decide (a=b))):=by
 refine fO Go.Proofs.Tryz.f40 fun hb=>?_;conv=>whnf
 repeat' first|((first|refine zz ?_|(refine xa ?_ ?_<;>intro _)|refine ⟨_,xfm _ _,?_⟩)<;>conv=>whnf)
 all_goals refine rB ?_
 all_goals (cases a; cases b; first|(simp_all; done)|(simp_all; rfl))
theorem xp4 (a b:List Done):Sem P 54 [(.pure,.one (sDs a)),(.pure,.one (sDs b))] [] (B (decide (a=b))):=by
 refine fO Go.Proofs.Tryz.f54 fun hb=>?_;have la:(a.map eD).length=a.length:=xzi ..;have lb:(b.map eD).length=b.length:=xzi ..;have hb1:(a.map eD).length<=1125899906842624:=hb.1.1;conv=>whnf
 (refine zA ?_)
 refine xa (fun h=>?_) (fun h=>?_)
 all_goals conv=>whnf
 all_goals (refine zA ?_)
 · exact rB (by have:=yv h; symm; simp; intro e; subst e; simp at this)
 · have h:=y8 h
   repeat' first|((first|refine zz ?_|(refine xa ?_ ?_<;>intro _))<;>conv=>whnf)
   refine Vc.loop { i:Nat // ∀ j,j<i->a.getD j default=b.getD j default } (fun i=>updL [0,1] [(5,I i.1)] []) (fun i=>a.length - i.1) ⟨0,by simp⟩ ?_ (fun i=>?_)
   · exact wl
   · have hi:=i.2;conv=>whnf
     (refine zA ?_)
     refine xd (fun g=>?_) (fun g=>?_)
     all_goals conv=>whnf
     · repeat' first|((first|refine zz ?_|(refine xa ?_ ?_<;>intro _)|refine ixN (enc:=eD) default (by omega) ?_|refine ⟨_,vb (a.getD i.1 default).Res (b.getD i.1 default).Res,?_⟩|refine wq ?_)<;>conv=>whnf)
       all_goals first
        | exact rB (by symm; simp only [xzw]; intro e; subst e; simp_all)
        | (refine ⟨⟨i.1+1,fun j hj=>?_⟩,?_,?_⟩
           · by_cases h:j<i.1
             · exact hi j h
             · obtain rfl:j=i.1:=by omega
               (first|(simp_all; done)|(generalize a.getD i.1 default=x at *; generalize b.getD i.1 default=y at *; clear hi; cases x; cases y; simp_all))
           · simp only; omega
           · exact wl)
     ·
      (refine zA ?_)
      exact rB (by symm; simp; exact xas default (by omega) fun j hj=>hi j (by omega))
theorem xy0 (a b:Msg):Sem P 90 [(.pure,.agg (aM a)),(.pure,.agg (aM b))] [] (B (decide (a=b))):=by
 refine fO Go.Proofs.Tryz.f90 fun hb=>?_;conv=>whnf
 repeat' first|((first|refine zz ?_|(refine xa ?_ ?_<;>intro _)|refine ⟨_,xp3 a.Call b.Call,?_⟩|refine ⟨_,xfm _ _,?_⟩|refine ⟨_,xp4 _ _,?_⟩)<;>conv=>whnf)
 all_goals refine rB ?_
 all_goals (cases a; cases b; first|(simp_all; done)|(simp_all; rfl))
theorem xcx (a b:List Msg):Sem P 36 [(.pure,.one (sMs a)),(.pure,.one (sMs b))] [] (B (decide (a=b))):=by
 refine fO Go.Proofs.Tryz.f36 fun hb=>?_;have la:(a.map eM).length=a.length:=xzi ..;have lb:(b.map eM).length=b.length:=xzi ..;have hb1:(a.map eM).length<=1125899906842624:=hb.1.1;conv=>whnf
 (refine zA ?_)
 refine xa (fun h=>?_) (fun h=>?_)
 all_goals conv=>whnf
 all_goals (refine zA ?_)
 · exact rB (by have:=yv h; symm; simp; intro e; subst e; simp at this)
 · have h:=y8 h
   repeat' first|((first|refine zz ?_|(refine xa ?_ ?_<;>intro _))<;>conv=>whnf)
   refine Vc.loop { i:Nat // ∀ j,j<i->a.getD j default=b.getD j default } (fun i=>updL [0,1] [(5,I i.1)] []) (fun i=>a.length - i.1) ⟨0,by simp⟩ ?_ (fun i=>?_)
   · exact wl
   · have hi:=i.2;conv=>whnf
     (refine zA ?_)
     refine xd (fun g=>?_) (fun g=>?_)
     all_goals conv=>whnf
     · repeat' first|((first|refine zz ?_|(refine xa ?_ ?_<;>intro _)|refine ixN (enc:=eM) default (by omega) ?_|refine ⟨_,xy0 _ _,?_⟩|refine wq ?_)<;>conv=>whnf)
       all_goals first
        | exact rB (by symm; simp only [xzw]; intro e; subst e; simp_all)
        | (refine ⟨⟨i.1+1,fun j hj=>?_⟩,?_,?_⟩
           · by_cases h:j<i.1
             · exact hi j h
             · obtain rfl:j=i.1:=by omega
               (first|(simp_all; done)|(generalize a.getD i.1 default=x at *; generalize b.getD i.1 default=y at *; clear hi; cases x; cases y; simp_all))
           · simp only; omega
           · exact wl)
     ·
      (refine zA ?_)
      exact rB (by symm; simp; exact xas default (by omega) fun j hj=>hi j (by omega))
theorem xax (a b:Site):Sem P 35 [(.pure,.agg (aS a)),(.pure,.agg (aS b))] [] (B (decide (a=b))):=by
 refine fO Go.Proofs.Tryz.f35 fun hb=>?_;conv=>whnf
 repeat' first|((first|refine zz ?_|(refine xa ?_ ?_<;>intro _)|refine ⟨_,xfm _ _,?_⟩|refine ⟨_,xp4 _ _,?_⟩)<;>conv=>whnf)
 all_goals refine rB ?_
 all_goals (cases a; cases b; first|(simp_all; done)|(simp_all; rfl))
end Cc
end
