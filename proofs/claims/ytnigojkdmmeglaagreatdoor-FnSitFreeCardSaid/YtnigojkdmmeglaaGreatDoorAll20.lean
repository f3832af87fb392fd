/- The laws FnMsgOk, FnSitFree: part 20 of 41. No conditions beyond the statement. -/
import Derived.Test.YtnigojkdmmeglaaGreatDoorAll18
import Derived.Test.YtnigojkdmmeglaaGreatDoorAll19
set_option linter.unusedVariables false
set_option linter.unusedSimpArgs false
set_option maxRecDepth 100000
set_option maxHeartbeats 16000000
section
namespace Cc
open Go Go.AM
theorem xap (c:Clerk):∀ (k:Nat) (a b:AV),(aKo c)[k]?=some a->(eK c)[k]?=some b->Cold a b:=fun k a b ha hb=>by
 match k,ha,hb with
 | 0,ha,hb=>cases ha; cases hb; exact xl
 | 1,ha,hb=>cases ha; cases hb; exact xl
 | 2,ha,hb=>cases ha; cases hb; exact xg
 | 3,ha,hb=>cases ha; cases hb; exact xg
 | 4,ha,hb=>cases ha; cases hb; exact xg
 | 5,ha,hb=>cases ha; cases hb; exact xfj c.Got
 | k+6,ha,hb=>simp at ha
theorem xoh (c:Clerk):∀ (k:Nat) (a b:AV),(aK c)[k]?=some a->(eK c)[k]?=some b->Cold a b:=fun k a b ha hb=>by
 match k,ha,hb with
 | 0,ha,hb=>cases ha; cases hb; exact xl
 | 1,ha,hb=>cases ha; cases hb; exact xl
 | 2,ha,hb=>cases ha; cases hb; exact xg
 | 3,ha,hb=>cases ha; cases hb; exact xg
 | 4,ha,hb=>cases ha; cases hb; exact xg
 | 5,ha,hb=>cases ha; cases hb; exact xg
 | k+6,ha,hb=>simp at ha
theorem xrn (p:Plan) (c:Clerk) (up:Bool) (hz:zK c<=1000000) (hg:c.Got.length=p.Gives.length) (h3:p.Gives.length<=100):Sem P 213 [(.pure,.agg (aPl p)),(.pure,.agg (aK c)),(.pure,B up)] [] (.agg (eK (clerkFall c up))):=by
 have hcp:=zo c hz;by_cases h:c.Up=up
 · have e:clerkFall c up=c:=by unfold clerkFall; rw [if_pos h]
   rw [e];subst h;refine Sem.cold (cs:=aKo c) (cs':=eK c) rfl (xap c) ?_;refine fK [2001,5001] Go.Proofs.Tryz.f213 fun hb=>?_;conv=>whnf
   repeat' first|((first|refine zz ?_|(refine xa ?_ ?_<;>intro _)|refine ⟨_,hcp,?_⟩)<;>conv=>whnf)
   all_goals first
    | exact ⟨rfl,rfl⟩
    | (exfalso; clear hcp hb; simp_all; done)
 · have e:clerkFall c up={ forget c with Up:=up }:=by unfold clerkFall; rw [if_neg h]
   rw [e];refine Sem.cold (cs:=aK { forget c with Up:=up }) (cs':=eK { forget c with Up:=up }) rfl (xoh _) ?_;have hN:=xe2 p h3;rw [<- hg] at hN;refine fK [2001,5001] Go.Proofs.Tryz.f213 fun hb=>?_;conv=>whnf
   repeat' first|((first|refine zz ?_|(refine xa ?_ ?_<;>intro _)|refine ⟨_,hcp,?_⟩|refine ⟨_,hN,?_⟩)<;>conv=>whnf)
   all_goals first
    | exact ⟨rfl,rfl⟩
    | (exfalso; clear hcp hb; simp_all; done)
def yo (b:Int × Int × Bool):Bool:=b.2.2 && (decide (b.1>10000) || decide (b.2.1 < -10000))
def qg (b:Int × Int × Bool):Bool:=!b.2.2 || decide (b.1 < -10000) || decide (b.2.1>10000)
theorem xgv (t:Treaty) (parts:List (List Int)) (s:Int) (a:List Int):rangeOf t parts s a =
 (if yo (bounds t parts s a (Form.pot 0) [0,0]) || (yo (bounds t parts s a (Form.pot 1) [0,0]) || yo (bounds t parts s a (Form.pot 2) [0,0])) then 2
  else if qg (bounds t parts s a (Form.pot 0) [0,0]) || (qg (bounds t parts s a (Form.pot 1) [0,0]) || qg (bounds t parts s a (Form.pot 2) [0,0])) then 0 else 1):=by
 unfold rangeOf yo qg;simp only [x0d,x18,x3u,List.any_nil,x26]
def rng (f:Nat->Bool):Nat->Int
 | 0=>1
 | v+1=>if f v then 0 else rng f v
theorem rng3 (f:Nat->Bool):rng f 3=if f 0 || (f 1 || f 2) then 0 else 1:=by
 simp only [rng];cases f 0<;>cases f 1<;>cases f 2<;>rfl
theorem xro (t:Treaty) (parts:List (List Int)) (s:Int) (a:List Int):Sem P 290 [(.pure,.agg (aT t)),(.pure,.one (sPs parts)),(.pure,I s),(.pure,AI a)] [] (I (rangeOf t parts s a)):=by
 rw [xgv];have hB:=fun v:Nat=>xf9 t parts s a (Form.pot v) [0,0];generalize hf:(fun v:Nat=>bounds t parts s a (Form.pot v) [0,0])=f;have hf':∀ v,bounds t parts s a (Form.pot v) [0,0]=f v:=fun v=>congrFun hf v;simp only [hf'] at hB ⊢;clear hf hf';refine fO Go.Proofs.Tryz.f290 fun hb=>?_;conv=>whnf
 (refine zA ?_)
 refine Vc.loop2 (fun (v:Nat) (o:Int)=>v<=3/\(∀ u,u<v->yo (f u)=false)/\o=rng (fun u=>qg (f u)) v) (fun v o=>updL [1,2,3,4,49] [(10,I v),(9,I o)] []) (fun v _=>3 - v) 0 1 ⟨by omega,fun u hu=>absurd hu (x0z u),rfl⟩ ?_ (fun v o hv=>?_)
 · exact wk
 · obtain ⟨hv,ho,rfl⟩:=hv;conv=>whnf
   (refine zA ?_)
   refine xd (fun g=>?_) (fun g=>?_)
   all_goals conv=>whnf
   · have hv3:v<3:=by omega
     have hBv:=hB v;have all2:yo (f v)=true->(yo (f 0) || (yo (f 1) || yo (f 2)))=true:=fun h=>by
      match v,hv3 with
      | 0,_=>rw [h]; rfl
      | 1,_=>rw [h,Bool.true_or,x3y]
      | 2,_=>rw [h,x3y,x3y]
     have go1:yo (f v)=false->∀ u,u<v+1->yo (f u)=false:=fun h u hu=>by
      by_cases huv:u<v
      · exact ho u huv
      · obtain rfl:u=v:=by omega
        exact h
     have go0:qg (f v)=true->(0:Int)=rng (fun u=>qg (f u)) (v+1):=fun h=>by simp only [rng,h,if_true]
     have go2:qg (f v)=false->rng (fun u=>qg (f u)) v=rng (fun u=>qg (f u)) (v+1):=fun h=>by simp only [rng,h]; rfl
     generalize rng (fun u=>qg (f u)) v=o at *;generalize (yo (f 0) || (yo (f 1) || yo (f 2)))=ov at *;generalize f v=b at *;obtain ⟨lo,up,ok⟩:=b
     cases ok with
     | false =>
       repeat' first|((first|refine zz ?_|(refine xa ?_ ?_<;>intro _)|refine ⟨_,ze v hv3,?_⟩|refine ⟨_,hBv,?_⟩|refine wq ?_)<;>conv=>whnf)
       refine ⟨v+1,0,⟨by omega,go1 rfl,go0 rfl⟩,by simp only; omega,?_⟩;exact wk
     | true =>
       cases hov:yo (lo,up,true) with
       | true =>
         have hdi:True:=trivial
         repeat' first|((first|refine zz ?_|(refine xa ?_ ?_<;>intro _)|refine ⟨_,ze v hv3,?_⟩|refine ⟨_,hBv,?_⟩|refine wq ?_)<;>conv=>whnf)
         all_goals first
          | (exfalso; clear go0 go1 go2 all2 hB hBv hb ho; simp only [yo] at hov; simp_all; done)
          | exact rI' (by rw [if_pos (all2 hov)])
       | false =>
         cases hdi:qg (lo,up,true) with
         | true =>
           repeat' first|((first|refine zz ?_|(refine xa ?_ ?_<;>intro _)|refine ⟨_,ze v hv3,?_⟩|refine ⟨_,hBv,?_⟩|refine wq ?_)<;>conv=>whnf)
           all_goals first
            | (exfalso; clear go0 go1 go2 all2 hB hBv hb ho; simp only [yo,qg] at hov hdi; simp_all; done)
            | (refine ⟨v+1,0,⟨by omega,go1 hov,go0 hdi⟩,by simp only; omega,?_⟩
               exact wk)
         | false =>
           repeat' first|((first|refine zz ?_|(refine xa ?_ ?_<;>intro _)|refine ⟨_,ze v hv3,?_⟩|refine ⟨_,hBv,?_⟩|refine wq ?_)<;>conv=>whnf)
           all_goals first
            | (exfalso; clear go0 go1 go2 all2 hB hBv hb ho; simp only [yo,qg] at hov hdi; simp_all; done)
            | (refine ⟨v+1,o,⟨by omega,go1 hov,go2 hdi⟩,by simp only; omega,?_⟩
               exact wk)
   ·
    (refine zA ?_)
    have e:v=3:=by omega
    subst e;refine rI' ?_;rw [ho 0 (by omega),ho 1 (by omega),ho 2 (by omega),rng3];simp
theorem xh5 {f:Form} {v a:List Int} (hf:f.bd 10000000) (hv:valOk v=true) (ha:argOk a=true) : -1000000000000<=f.at v a/\f.at v a<=1000000000000:=by
 obtain ⟨c1,c2,c3,d1,d2,k,rfl,h1,h2,h3,h4,h5,h6⟩:=bdE hf;obtain ⟨x,y,z,rfl,v1,v2,v3⟩:=within3 hv;obtain ⟨w1,w2⟩:=xe.1 ha;obtain ⟨g,h,rfl⟩:=len2 w1;have g1:=w2 g (by simp);have g2:=w2 h (by simp);have p1:=xo h1 v1;have p2:=xo h2 v2;have p3:=xo h3 v3;have p4:=xo h4 g1;have p5:=xo h5 g2;simp only [Form.at,dot];omega
theorem vo {v:List Int} (h:valOk v=true):nums v 3:=by
 have:=xe.1 h;exact ⟨this.1,fun x hx=>by have:=this.2 x hx; omega⟩
theorem xuh (t:Treaty) (p q r:Bool) (f0 f1 f2:Form) (G T:List Form) (st:Bool) (args:List Int) (h0:f0.bd 10000000) (h1:f1.bd 10000000) (h2:f2.bd 10000000) (hb':valOk t.Base=true) (ha:argOk args=true) :
 Sem P 289 [(.pure,.agg (aT t)),(.pure,.one (sBs [p,q,r])),(.pure,.agg (aW ⟨G,[f0,f1,f2],T,st⟩)),(.pure,AI args)] [] (.tup [(false,[sI (if unpinned [p,q,r] [f0.at t.Base args,f1.at t.Base args,f2.at t.Base args] then [f0.at t.Base args,f1.at t.Base args,f2.at t.Base args] else [0,0,0])]),(false,[eB (unpinned [p,q,r] [f0.at t.Base args,f1.at t.Base args,f2.at t.Base args])])]):=by
 have n0:=qx f0 t.Base args h0 (vo hb') (zb ha);have n1:=qx f1 t.Base args h1 (vo hb') (zb ha);have n2:=qx f2 t.Base args h2 (vo hb') (zb ha);generalize f0.at t.Base args=x at *;generalize f1.at t.Base args=y at *;generalize f2.at t.Base args=z at *;have un:unpinned [p,q,r] [x,y,z]=((!p || decide (x=0)) && ((!q || decide (y=0)) && (!r || decide (z=0)))):=by simp [unpinned]
 rw [un];refine fO Go.Proofs.Tryz.f289 fun hb=>?_;conv=>whnf
 (refine zA ?_)
 refine Vc.loop1 (fun (v:Nat)=>v<=3/\(0<v->(!p || decide (x=0))=true)/\(1<v->(!q || decide (y=0))=true)/\(2<v->(!r || decide (z=0))=true)) (fun v=>updL [0,1,2,3,4,6,8,9] [(11,I v),(10,.one (.ref 128000))] [(128000,.arr 3 (ints ([x,y,z].take v)) false)]) (fun v=>3 - v) 0 (by simp) ?_ (fun v hv=>?_)
 · exact wk
 · match v,hv with
   | 0,hv =>
     conv=>whnf
     repeat' first|((first|refine zz ?_|(refine xa ?_ ?_<;>intro _)|refine ixK rfl ?_|refine ⟨_,n0,?_⟩|refine apN (by simp) ?_|refine wq ?_)<;>conv=>whnf)
     all_goals first
      | (refine ⟨1,by simp_all,by simp only; omega,?_⟩; exact wk)
      | (refine ⟨?_,rfl⟩; simp_all; done)
   | 1,hv =>
     conv=>whnf
     repeat' first|((first|refine zz ?_|(refine xa ?_ ?_<;>intro _)|refine ixK rfl ?_|refine ⟨_,n1,?_⟩|refine apN (by simp) ?_|refine wq ?_)<;>conv=>whnf)
     all_goals first
      | (refine ⟨2,by simp_all,by simp only; omega,?_⟩; exact wk)
      | (refine ⟨?_,rfl⟩; simp_all; done)
   | 2,hv =>
     conv=>whnf
     repeat' first|((first|refine zz ?_|(refine xa ?_ ?_<;>intro _)|refine ixK rfl ?_|refine ⟨_,n2,?_⟩|refine apN (by simp) ?_|refine wq ?_)<;>conv=>whnf)
     all_goals first
      | (refine ⟨3,by simp_all,by simp only; omega,?_⟩; exact wk)
      | (refine ⟨?_,rfl⟩; simp_all; done)
   | 3,hv =>
     obtain ⟨_,c0,c1,c2⟩:=hv;conv=>whnf
     (refine zA ?_)
     refine ⟨?_,rfl⟩;rw [c0 (by omega),c1 (by omega),c2 (by omega)];rfl
abbrev tR (b:Rslt × List Int × Bool):TV:=.tup [(true,aR b.1),(false,[sI b.2.1]),(false,[eB b.2.2])]
theorem xui (t:Treaty) (parts:List (List Int)) (pins:List Bool) (s:Int) (a:List Int) (r:Row) (args:List Int) (hr:r.Stop=true) (ha:a.length<=1000):Sem P 250 [(.pure,.agg (aT t)),(.pure,.one (sPs parts)),(.pure,.one (sBs pins)),(.pure,I s),(.pure,AI a),(.pure,.agg (aW r)),(.pure,AI args)] [] (tR (goRow t parts pins s a r args)):=by
 have la:=xb a;have e:goRow t parts pins s a r args=(⟨2,[]⟩,a,true):=by unfold goRow; rw [if_pos hr]
 rw [e];obtain ⟨G,A,T,st⟩:=r;simp only at hr;subst hr;refine fO Go.Proofs.Tryz.f250 fun hb=>?_;conv=>whnf
 repeat' first|((first|refine zz ?_|(refine xa ?_ ?_<;>intro _)|refine apI ?_)<;>conv=>whnf)|(refine apN (by simp only [xz4]; omega) ?_;conv=>whnf)
 exact ⟨rfl,rfl⟩
theorem xuj (t:Treaty) (parts:List (List Int)) (p q u:Bool) (s:Int) (a:List Int) (f0 f1 f2:Form) (G T:List Form) (args:List Int) (h0:f0.bd 10000000) (h1:f1.bd 10000000) (h2:f2.bd 10000000) (hT:∀ f∈T,f.bd 10000000) (h100:T.length<=100)
 (hb':valOk t.Base=true) (ha:addedOk a=true) (hg:argOk args=true) :
 Sem P 250 [(.pure,.agg (aT t)),(.pure,.one (sPs parts)),(.pure,.one (sBs [p,q,u])),(.pure,I s),(.pure,AI a),(.pure,.agg (aW ⟨G,[f0,f1,f2],T,false⟩)),(.pure,AI args)] [] (tR (goRow t parts [p,q,u] s a ⟨G,[f0,f1,f2],T,false⟩ args)):=by
 have la:=xb a;have a3:=xu ha;have lT:(T.map eF).length=T.length:=xzi ..;have lT2:(List.map eF (Row.mk G [f0,f1,f2] T false).Tells).length=T.length:=xzi ..;have m0:=xh5 h0 hb' hg;have m1:=xh5 h1 hb' hg;have m2:=xh5 h2 hb' hg;have hA:=xuh t p q u f0 f1 f2 G T false args h0 h1 h2 hb' hg
 have go:goRow t parts [p,q,u] s a ⟨G,[f0,f1,f2],T,false⟩ args=(let adds:=[f0.at t.Base args,f1.at t.Base args,f2.at t.Base args]; let x:=plus a adds
  if !unpinned [p,q,u] adds || !addedOk x then (Rslt.nil,a,false)
  else if rangeOf t parts s x=2 then (⟨3,[]⟩,a,true)
  else if rangeOf t parts s x=0 then (Rslt.nil,a,false)
  else if !trtKeeps t parts s x then (Rslt.nil,a,false)
  else (⟨1,T.map fun f=>f.at t.Base args⟩,x,true)):=rfl
 rw [go];clear go;simp only
 cases hf:unpinned [p,q,u] [f0.at t.Base args,f1.at t.Base args,f2.at t.Base args] with
 | false =>
   rw [hf] at hA;refine fK [5002] Go.Proofs.Tryz.f250 fun hb=>?_;conv=>whnf
   repeat' first|((first|refine zz ?_|(refine xa ?_ ?_<;>intro _)|refine ⟨_,hA,?_⟩)<;>conv=>whnf)|(refine ⟨_,kf a [0,0,0] a3.1 rfl (fun x hx=>by have:=a3.2 x hx; omega) (fun x hx=>by simp at hx; omega),?_⟩;conv=>whnf)|((first|refine apI ?_)<;>conv=>whnf)|(refine apN (by simp only [xz4]; omega) ?_;conv=>whnf)
   all_goals first
    | exact ⟨rfl,rfl⟩
 | true =>
   rw [hf,if_pos rfl] at hA;have hP:=kf a [f0.at t.Base args,f1.at t.Base args,f2.at t.Base args] a3.1 rfl (fun x hx=>by have:=a3.2 x hx; omega) (fun x hx=>by simp only [xzn,x0o,x2f] at hx; rcases hx with rfl|rfl|rfl<;>omega);generalize plus a [f0.at t.Base args,f1.at t.Base args,f2.at t.Base args]=x at *;have hX:=x9 x 3 20000 (by omega);have hX':within x 3 20000=addedOk x:=rfl;rw [hX'] at hX
   cases hx:addedOk x with
   | false =>
     rw [hx] at hX;refine fK [5002] Go.Proofs.Tryz.f250 fun hb=>?_;conv=>whnf
     repeat' first|((first|refine zz ?_|(refine xa ?_ ?_<;>intro _)|refine ⟨_,hA,?_⟩|refine ⟨_,hP,?_⟩|refine ⟨_,hX,?_⟩|refine apI ?_)<;>conv=>whnf)|(refine apN (by simp only [xz4]; omega) ?_;conv=>whnf)
     all_goals first
      | exact ⟨rfl,rfl⟩
   | true =>
     rw [hx] at hX;have hR:=xro t parts s x;have hr:rangeOf t parts s x=2\/rangeOf t parts s x=0\/rangeOf t parts s x=1:=by rw [xgv]; split<;>(try split)<;>simp
     rcases hr with hr|hr|hr
     · rw [hr] at hR ⊢;refine fK [5002] Go.Proofs.Tryz.f250 fun hb=>?_;conv=>whnf
       repeat' first|((first|refine zz ?_|(refine xa ?_ ?_<;>intro _)|refine ⟨_,hA,?_⟩|refine ⟨_,hP,?_⟩|refine ⟨_,hX,?_⟩|refine ⟨_,hR,?_⟩|refine apI ?_)<;>conv=>whnf)|(refine apN (by simp only [xz4]; omega) ?_;conv=>whnf)
       all_goals first
        | exact ⟨rfl,rfl⟩
     · rw [hr] at hR ⊢;refine fK [5002] Go.Proofs.Tryz.f250 fun hb=>?_;conv=>whnf
       repeat' first|((first|refine zz ?_|(refine xa ?_ ?_<;>intro _)|refine ⟨_,hA,?_⟩|refine ⟨_,hP,?_⟩|refine ⟨_,hX,?_⟩|refine ⟨_,hR,?_⟩|refine apI ?_)<;>conv=>whnf)|(refine apN (by simp only [xz4]; omega) ?_;conv=>whnf)
       all_goals first
        | exact ⟨rfl,rfl⟩
     · rw [hr] at hR ⊢;have hK:=jd t parts s x
       cases hk:trtKeeps t parts s x with
       | false =>
         rw [hk] at hK;refine fK [5002] Go.Proofs.Tryz.f250 fun hb=>?_;conv=>whnf
         repeat' first|((first|refine zz ?_|(refine xa ?_ ?_<;>intro _)|refine ⟨_,hA,?_⟩|refine ⟨_,hP,?_⟩|refine ⟨_,hX,?_⟩|refine ⟨_,hR,?_⟩|refine ⟨_,hK,?_⟩|refine apI ?_)<;>conv=>whnf)|(refine apN (by simp only [xz4]; omega) ?_;conv=>whnf)
         all_goals first
          | exact ⟨rfl,rfl⟩
       | true =>
         rw [hk] at hK;refine fK [5002] Go.Proofs.Tryz.f250 fun hb=>?_;conv=>whnf
         repeat' first|((first|refine zz ?_|(refine xa ?_ ?_<;>intro _)|refine ⟨_,hA,?_⟩|refine ⟨_,hP,?_⟩|refine ⟨_,hX,?_⟩|refine ⟨_,hR,?_⟩|refine ⟨_,hK,?_⟩)<;>conv=>whnf)
         refine Vc.loop1 (fun (i:Nat)=>i<=T.length) (fun i=>updL [0,1,2,3,4,5,6,7,12,14,15,16,19] [(21,I i),(20,.one (.ref 960000))] [(960000,.arr 3 (ints ((T.map fun f=>f.at t.Base args).take i)) false)]) (fun i=>T.length - i) 0 (xz1 _) ?_ (fun i hi=>?_)
         · exact wk
         · have hlo:(ints ((T.map fun f=>f.at t.Base args).take i)).length=i:=by rw [xb,xz3,xzi]; omega
           conv=>whnf
           (refine zA ?_)
           refine xd (fun g=>?_) (fun g=>?_)
           all_goals conv=>whnf
           · have hil:i<T.length:=by omega
             have hfi:=hT (T.getD i default) (xp hil);have es:ints ((T.map fun f=>f.at t.Base args).take i)++[rI ((T.getD i default).at t.Base args)]=ints ((T.map fun f=>f.at t.Base args).take (i+1)):=by
              rw [y0,<- x1u,<- x1u,xt hil,x0q]; rfl
             repeat' first|((first|refine zz ?_|(refine xa ?_ ?_<;>intro _)|refine ixN (enc:=eF) default hil ?_|refine ⟨_,qx (T.getD i default) t.Base args hfi (vo hb') (zb hg),?_⟩)<;>conv=>whnf)|(refine apN (by rw [hlo]; show i+1<=_; omega) ?_;conv=>whnf)|((first|refine wq ?_)<;>conv=>whnf)
             refine ⟨i+1,by omega,by simp only; omega,?_⟩
             repeat' (first|exact True.intro|((conv=>whnf);first|exact True.intro|refine ⟨by rfl,?_⟩|refine ⟨by first|omega|(show (_:Int)=_;first|omega|(dsimp only;omega))|exact es,?_⟩|refine ⟨?_,?_⟩))
           ·
            (refine zA ?_)
            have hend:(T.map fun f=>f.at t.Base args).take i=T.map fun f=>f.at t.Base args:=xzx (by rw [xzi]; omega);exact ⟨by rw [hend]; rfl,rfl⟩
theorem xmm {α:Type} [Inhabited α] {p:α->Bool}:∀ {l:List α} {i:Nat},i<l.length->(∀ j,j<i->p (l.getD j default)=false)->p (l.getD i default)=true->l.find? p=some (l.getD i default)
 | [],i,h,_,_=>by simp at h
 | a::r,0,_,_,h=>by
   have h:p a=true:=h;rw [List.find?_cons_of_pos h]; rfl
 | a::r,i+1,hi,hj,h=>by
   have h0:p a=false:=hj 0 (by omega);rw [List.find?_cons_of_neg (by rw [h0]; decide)];exact xmm (by simpa using hi) (fun j hjj=>hj (j+1) (by omega)) h
theorem xxw {α:Type} [Inhabited α] {p:α->Bool} {l:List α} (h:∀ j,j<l.length->p (l.getD j default)=false):l.find? p=none:=by
 rw [List.find?_eq_none];intro x hx;obtain ⟨j,hj,rfl⟩:=List.getElem_of_mem hx;have:=h j hj;rw [xzo,xzh hj] at this;simpa using this
theorem xh6 (acts:List (List Line)) (t:Treaty) (s:Int) (a:List Int) (k:Int) (args:List Int) (hk:0<=k/\k<acts.length) (hb':valOk t.Base=true) (ha:addedOk a=true) (hg:argOk args=true) :
 Sem P 179 [(.pure,.one (sAs acts)),(.pure,.one (sPs (partsOf acts))),(.pure,.one (sBs (pinsOf acts))),(.pure,.agg (aT t)),(.pure,I s),(.pure,AI a),(.pure,I k),(.pure,AI args)] [] (tR (alone acts t s a k args)):=by
 have la:=xb a;have a3:=xu ha;have hbd:=fun (r:Row) (hr:r∈rowsOf (acts.getD k.toNat []))=>ke hr;have h100:=fun (r:Row) (hr:r∈rowsOf (acts.getD k.toNat []))=>(wz hr).2.2;have al:alone acts t s a k args=tryRows (rowsOf (acts.getD k.toNat [])) (partsOf acts) (pinsOf acts) t s a args:=rfl;rw [al];have hR:=xf2 (acts.getD k.toNat []);have h64:=vj (acts.getD k.toNat []);generalize rowsOf (acts.getD k.toNat [])=rows at *;have lr:(rows.map eW).length=rows.length:=xzi ..;obtain ⟨p,q,u,hpin⟩:∃ p q u,pinsOf acts=[p,q,u]:=⟨_,_,_,rfl⟩;rw [hpin];refine fK [7010] Go.Proofs.Tryz.f179 fun hb=>?_;have hb1:(acts.map eA).length<=1125899906842624:=hb.1.1;conv=>whnf
 repeat' first|((first|refine zz ?_|(refine xa ?_ ?_<;>intro _)|refine ixI (enc:=eA) (L:=acts) [] hk.1 hk.2 ?_|refine ⟨_,hR,?_⟩)<;>conv=>whnf)
 refine Vc.loop1 (fun (i:Nat)=>i<=rows.length/\∀ j,j<i->(rows.getD j default).Guards.all (sure t (partsOf acts) s a args)=false) (fun i=>updL [1,2,4,5,7,11,16,19,56,57,58,59] [(20,I i)] []) (fun i=>rows.length - i) 0 ⟨xz1 _,fun j hj=>absurd hj (x0z j)⟩ ?_ (fun i hi=>?_)
 · exact wk
 · obtain ⟨hi,ho⟩:=hi;conv=>whnf
   (refine zA ?_)
   refine xd (fun g=>?_) (fun g=>?_)
   all_goals conv=>whnf
   · have hil:i<rows.length:=by omega
     have hrb:=hbd _ (xp hil);have h1:=h100 _ (xp hil);have hS:=xug t (partsOf acts) s a (rows.getD i default) args
     cases hs:(rows.getD i default).Guards.all (sure t (partsOf acts) s a args) with
     | false =>
       rw [hs] at hS
       repeat' first|((first|refine zz ?_|(refine xa ?_ ?_<;>intro _)|refine ixN (enc:=eW) default hil ?_|refine ⟨_,hS,?_⟩|refine wq ?_)<;>conv=>whnf)
       refine ⟨i+1,⟨by omega,fun j hj=>?_⟩,by simp only; omega,?_⟩
       · by_cases hji:j<i
         · exact ho j hji
         · obtain rfl:j=i:=by omega
           exact hs
       · exact wk
     | true =>
       rw [hs] at hS;have tr:tryRows rows (partsOf acts) [p,q,u] t s a args=goRow t (partsOf acts) [p,q,u] s a (rows.getD i default) args:=by unfold tryRows; rw [xmm hil ho hs]
       rw [tr];have hG:Sem P 250 [(.pure,.agg (aT t)),(.pure,.one (sPs (partsOf acts))),(.pure,.one (sBs [p,q,u])),(.pure,I s),(.pure,AI a),(.pure,.agg (aW (rows.getD i default))),(.pure,AI args)] [] (tR (goRow t (partsOf acts) [p,q,u] s a (rows.getD i default) args)):=by
        obtain ⟨b1,b2,b3,b4⟩:=hrb;generalize rows.getD i default=r at *;obtain ⟨G,A,T,st⟩:=r
        cases st with
        | true=>exact xui _ _ _ _ _ _ _ rfl (by omega)
        | false =>
          have b4:A.length=3:=b4;obtain ⟨f0,f1,f2,rfl⟩:=len3 b4;exact xuj t (partsOf acts) p q u s a f0 f1 f2 G T args (xh (b2 f0 (by simp)) (by omega)) (xh (b2 f1 (by simp)) (by omega)) (xh (b2 f2 (by simp)) (by omega)) (fun f hf=>xh (b3 f hf) (by omega)) (by simp only at h1; omega) hb' ha hg
       repeat' first|((first|refine zz ?_|(refine xa ?_ ?_<;>intro _)|refine ixN (enc:=eW) default hil ?_|refine ⟨_,hS,?_⟩|refine ⟨_,hG,?_⟩)<;>conv=>whnf)
       exact ⟨rfl,rfl⟩
   · have tr:tryRows rows (partsOf acts) [p,q,u] t s a args=(Rslt.nil,a,false):=by unfold tryRows; rw [xxw fun j hj=>ho j (by omega)]
     rw [tr]
     repeat' first|((first|refine zz ?_|(refine xa ?_ ?_<;>intro _)|refine apI ?_)<;>conv=>whnf)|(refine apN (by simp only [xz4]; omega) ?_;conv=>whnf)
     exact ⟨rfl,rfl⟩
theorem xwk (l k:List Msg) {i:Nat} (h:i<k.length):(l++k.take i).map eM++[eM (k.getD i default)]=(l++k.take (i+1)).map eM:=by
 rw [xt h,<- x0c,x0q (l₁:=l++k.take i)]; rfl
theorem xpy {l k:List Msg} {i:Nat} (h:i<=k.length) (h1:i=0\/l.length+i<=30) (h2:i=k.length\/30<=l.length+i):l++k.take i=send l k:=by
 unfold send;congr 1;rcases h2 with h2|h2
 · by_cases h3:30 - l.length=i
   · rw [h3]
   · rw [xzx (by omega),xzx (by omega)]
 · rw [show 30 - l.length=i by omega]
theorem xe9 (w:World) (l:List Msg) (hl:l.length<=1000) (hn:w.Net.length<=1000) (hz:∀ m∈l,zM m<=1000000):Sem P 210 [(.own,.agg (oWd w)),(.pure,.one (sMs l))] [] (.agg (oWd { w with Net:=send w.Net l })):=by
 have lm:(l.map eM).length=l.length:=xzi ..;refine fO Go.Proofs.Tryz.f210 fun hb=>?_;conv=>whnf
 (refine zA ?_)
 refine Vc.loop1 (fun (i:Nat)=>i<=l.length/\(i=0\/w.Net.length+i<=30)) (fun i=>updL [1,2,4] [(5,I i)] [(12,.arr 55 ((w.Net++l.take i).map eM) false)]) (fun i=>l.length - i) 0 ⟨xz1 _,.inl rfl⟩ ?_ (fun i hi=>?_)
 · repeat' (first|exact True.intro|((conv=>whnf);first|exact True.intro|refine ⟨by rfl,?_⟩|refine ⟨by first|omega|(show (_:Int)=_;first|omega|(dsimp only;omega))|exact (by simp),?_⟩|refine ⟨?_,?_⟩))
 · obtain ⟨hi,h1⟩:=hi;have hlo:((w.Net++l.take i).map eM).length=w.Net.length+i:=by rw [xzi,xzu,xz3]; omega
   conv=>whnf
   by_cases hil:i<l.length
   · repeat' first|((first|refine zz ?_|(refine xa ?_ ?_<;>intro _)|refine ixN (enc:=eM) default hil ?_|refine ⟨_,xbg (l.getD i default) (hz _ (xp hil)),?_⟩)<;>conv=>whnf)|(refine apN (by rw [hlo]; show _+1<=_; omega) ?_;conv=>whnf)|((first|refine wq ?_)<;>conv=>whnf)
     all_goals first
      | (exfalso; simp only [xzk,xzw] at *; omega)
      | (refine ⟨i+1,⟨by omega,.inr (by simp only [xzk] at *; omega)⟩,by simp only; omega,?_⟩
         repeat' (first|exact True.intro|((conv=>whnf);first|exact True.intro|refine ⟨by rfl,?_⟩|refine ⟨by first|omega|(show (_:Int)=_;first|omega|(dsimp only;omega))|exact xwk _ _ hil,?_⟩|refine ⟨?_,?_⟩))
         done)
      | skip
     have e:=xpy (l:=w.Net) hi h1 (.inr (by simp only [xzw] at *; omega));refine ⟨?_,rfl⟩;rw [<- e]
   · repeat' first|((first|refine zz ?_|(refine xa ?_ ?_<;>intro _))<;>conv=>whnf)
     all_goals first
      | (exfalso; simp only [xzk,xzw] at *; omega)
      | skip
     have e:=xpy (l:=w.Net) hi h1 (.inl (by omega));refine ⟨?_,rfl⟩;rw [<- e]
theorem xuo (log:List LogD) (x:LogD):write log [x]=if log.length<100 then log++[x] else log:=by
 unfold write;by_cases h:log.length<100
 · rw [if_pos h]; congr 1; rw [xzx (by simp; omega)]
 · rw [if_neg h,show 100 - log.length=0 by omega]; simp
theorem xwm (l:List LogD) (x:LogD):l.map eO++[eO x]=(l++[x]).map eO:=by simp
theorem xrs (w:World) (c:Call) (r:Rslt) (hc:c.Args.length<=1000000) (hr:r.Tells.length<=1000000):Sem P 260 [(.own,.agg (oWd w)),(.pure,.agg (aC c)),(.pure,.agg (aR r))] [] (.agg (oWd { w with Log:=write w.Log [⟨c,r⟩] })):=by
 have ll:(w.Log.map eO).length=w.Log.length:=xzi ..;have e:=xuo w.Log ⟨c,r⟩;by_cases h:w.Log.length<100
 · rw [if_pos h] at e;rw [e];refine fO Go.Proofs.Tryz.f260 fun hb=>?_;conv=>whnf
   repeat' first|((first|refine zz ?_|(refine xa ?_ ?_<;>intro _)|refine ⟨_,x3 c hc,?_⟩|refine ⟨_,yh r hr,?_⟩)<;>conv=>whnf)|(refine apN (by rw [ll]; show _+1<=_; omega) ?_;conv=>whnf)
   all_goals first
    | (exfalso; simp only [xzw] at *; omega)
    | (refine ⟨?_,rfl⟩
       show TV.agg [eI w.Plan.Clients,fAs w.Plan.Acts,fI w.Plan.Gives,fI w.Plan.Start,sSs w.Sites,eB w.Clerk.Up,eI w.Clerk.Round,fI w.Clerk.Base,fDs w.Clerk.Done,fCs w.Clerk.Wants,fGs w.Clerk.Got,sXs w.Clients,sMs w.Net,.sl 230 (w.Log.map eO++[eO ⟨c,r⟩])]=_
       rw [xwm])
 · rw [if_neg h] at e;rw [e];refine fO Go.Proofs.Tryz.f260 fun hb=>?_;conv=>whnf
   repeat' first|((first|refine zz ?_|(refine xa ?_ ?_<;>intro _))<;>conv=>whnf)
   all_goals first
    | exact ⟨rfl,rfl⟩
    | (exfalso; simp only [xzk] at *; omega)
theorem yx (l:List Site) (k:Nat) (s:Site):(l.map eS).set k (eS s)=(l.set k s).map eS:=x1y.symm
theorem xj4 (w:World) (n:Int) (up:Bool):Sem P 212 [(.own,.agg (oWd w)),(.pure,I n),(.pure,B up)] [] (.agg (oWd (doLife w n up))):=by
 have ls:(w.Sites.map eS).length=w.Sites.length:=xzi ..
 cases h:inB n 0 (w.Sites.length - 1) with
 | false =>
   have e:doLife w n up=w:=by unfold doLife; rw [h]; rfl
   rw [e];refine fO Go.Proofs.Tryz.f212 fun hb=>?_;have hb1:(w.Sites.map eS).length<=1125899906842624:=(hb.1 (sSs w.Sites) (by simp)).1;conv=>whnf
   repeat' first|((first|refine zz ?_|(refine xa ?_ ?_<;>intro _)|refine ⟨_,xj _ _ _,?_⟩|refine wq ?_)<;>conv=>whnf)
   all_goals first
    | exact ⟨rfl,rfl⟩
    | (exfalso; simp_all; done)
 | true =>
   have hn:=xc.1 h;have e:doLife w n up={ w with Sites:=w.Sites.set n.toNat { (w.Sites.getD n.toNat Site.nil) with Up:=up } }:=by unfold doLife; rw [h]; rfl
   rw [e];refine fO Go.Proofs.Tryz.f212 fun hb=>?_;have hb1:(w.Sites.map eS).length<=1125899906842624:=(hb.1 (sSs w.Sites) (by simp)).1;conv=>whnf
   repeat' first|((first|refine zz ?_|(refine xa ?_ ?_<;>intro _)|refine ⟨_,xj _ _ _,?_⟩|refine wq ?_|refine ioN (by omega) (by omega) ?_|refine rwN (enc:=eS) Site.nil (by omega) ?_)<;>conv=>whnf)
   all_goals first
    | (exfalso; simp_all; done)
    | (refine ⟨?_,rfl⟩
       show TV.agg [eI w.Plan.Clients,fAs w.Plan.Acts,fI w.Plan.Gives,fI w.Plan.Start,.sl 60 ((w.Sites.map eS).set n.toNat (eS { (w.Sites.getD n.toNat Site.nil) with Up:=up })),eB w.Clerk.Up,eI w.Clerk.Round,fI w.Clerk.Base,fDs w.Clerk.Done,fCs w.Clerk.Wants,fGs w.Clerk.Got,sXs w.Clients,sMs w.Net,sOs w.Log]=_
       rw [yx])
theorem je (l:List Client) (k:Nat) (x:Client):(l.map eX).set k (eX x)=(l.set k x).map eX:=x1y.symm
theorem xok (w:World) (n act:Int) (args:List Int) (hcl:inB w.Plan.Clients 0 4=true) (hx:w.Clients.length<=4) (hl:w.Log.length<=100) (hs:∀ x∈w.Clients,0<=x.Seq/\x.Seq<=300) (ha:args.length<=1000000) :
 Sem P 206 [(.own,.agg (oWd w)),(.pure,I n),(.pure,I act),(.pure,AI args)] [] (.agg (oWd (doCall w n act args))):=by
 have lx:(w.Clients.map eX).length=w.Clients.length:=xzi ..;have ll:(w.Log.map eO).length=w.Log.length:=xzi ..;have la:=xb args;have hbz:busy w<=w.Clients.length:=x2m
 cases h:inB n 0 (w.Clients.length - 1) with
 | false =>
   have e:doCall w n act args=w:=by unfold doCall; rw [h]; rfl
   rw [e];refine fO Go.Proofs.Tryz.f206 fun hb=>?_;conv=>whnf
   repeat' first|((first|refine zz ?_|(refine xa ?_ ?_<;>intro _)|refine ⟨_,xj _ _ _,?_⟩|refine ⟨_,xe7 w,?_⟩|refine wq ?_)<;>conv=>whnf)
   all_goals first
    | exact ⟨rfl,rfl⟩
    | (exfalso; simp_all; done)
 | true =>
   have hn:=xc.1 h;have hsq:=hs (w.Clients.getD n.toNat Client.nil) (xp (by omega));have hC:=y9 w.Plan ⟨n,(w.Clients.getD n.toNat Client.nil).Seq+1,act,args⟩ hcl
   have e:doCall w n act args=if !(w.Clients.getD n.toNat Client.nil).Busy && callB w.Plan ⟨n,(w.Clients.getD n.toNat Client.nil).Seq+1,act,args⟩ && decide (w.Log.length+1+busy w<=100) then { w with Clients:=w.Clients.set n.toNat { (w.Clients.getD n.toNat Client.nil) with Busy:=true,Call:=⟨n,(w.Clients.getD n.toNat Client.nil).Seq+1,act,args⟩ } } else w:=by unfold doCall; rw [h]; rfl
   by_cases hc:(!(w.Clients.getD n.toNat Client.nil).Busy && callB w.Plan ⟨n,(w.Clients.getD n.toNat Client.nil).Seq+1,act,args⟩ && decide (w.Log.length+1+busy w<=100))=true
   · rw [if_pos hc] at e;rw [e];refine yp (E:={ E0 with fz:=[(5,[256704])] }) xm xn (fn:=Go.Proofs.Tryz.f206) (by kernel_rfl) (by kernel_rfl) (fun hb=>?_);conv=>whnf
     repeat' first|((first|refine zz ?_|(refine xa ?_ ?_<;>intro _)|refine ⟨_,xj _ _ _,?_⟩|refine ⟨_,xe7 w,?_⟩|refine ⟨_,hC,?_⟩|refine wq ?_)<;>conv=>whnf)|(refine ioN (by omega) (by first|omega|(rw [x03]; omega)) ?_;conv=>whnf)|((first|refine rwC (List.getElem?_set_self (by omega)) ?_|refine rwN (enc:=eX) Client.nil (by omega) ?_|refine apI ?_)<;>conv=>whnf)|(refine apN (by simp only [xz4]; omega) ?_;conv=>whnf)
     all_goals first
      | (exfalso; clear hC hb e; simp_all; done)
      | (exfalso; clear hC hb e; simp only [xzj,xzk] at *; omega)
      | (refine ⟨?_,rfl⟩
         show TV.agg [eI w.Plan.Clients,fAs w.Plan.Acts,fI w.Plan.Gives,fI w.Plan.Start,sSs w.Sites,eB w.Clerk.Up,eI w.Clerk.Round,fI w.Clerk.Base,fDs w.Clerk.Done,fCs w.Clerk.Wants,fGs w.Clerk.Got,.sl 163 (((w.Clients.map eX).set n.toNat _).set n.toNat (eX { (w.Clients.getD n.toNat Client.nil) with Busy:=true,Call:=⟨n,(w.Clients.getD n.toNat Client.nil).Seq+1,act,args⟩ })),sMs w.Net,sOs w.Log]=_
         rw [List.set_set,je])
   · rw [if_neg hc] at e;rw [e];refine yp (E:={ E0 with fz:=[(5,[256704])] }) xm xn (fn:=Go.Proofs.Tryz.f206) (by kernel_rfl) (by kernel_rfl) (fun hb=>?_);conv=>whnf
     repeat' first|((first|refine zz ?_|(refine xa ?_ ?_<;>intro _)|refine ⟨_,xj _ _ _,?_⟩|refine ⟨_,xe7 w,?_⟩|refine ⟨_,hC,?_⟩|refine wq ?_)<;>conv=>whnf)|(refine ioN (by omega) (by first|omega|(rw [x03]; omega)) ?_;conv=>whnf)|((first|refine rwC (List.getElem?_set_self (by omega)) ?_|refine rwN (enc:=eX) Client.nil (by omega) ?_|refine apI ?_)<;>conv=>whnf)|(refine apN (by simp only [xz4]; omega) ?_;conv=>whnf)
     all_goals first
      | exact ⟨rfl,rfl⟩
      | (exfalso; clear hC hb e; simp_all; done)
      | (exfalso; clear hC hb e; refine hc ?_; simp_all; omega)
theorem xwn {l:List Msg} {n:Int} {i:Nat} (h:i<l.length):cut (l.take (i+1)) n=if (i:Int)=n then cut (l.take i) n else cut (l.take i) n++[l.getD i default]:=by
 have hl:(l.take i).length=i:=by rw [xz3]; omega
 rw [xt h];unfold cut;by_cases h0:0<=n
 · simp only [if_pos h0];by_cases h1:(i:Int)=n
   · rw [if_pos h1];rw [List.eraseIdx_append_of_length_le (by omega),hl,show n.toNat - i=0 by omega,x2o (l:=l.take i) (by omega)];simp
   · rw [if_neg h1];by_cases h2:n.toNat<i
     · rw [List.eraseIdx_append_of_lt_length (by omega)]
     · rw [x2o (by simp only [xzu,x0e]; omega),x2o (by omega)]
 · simp only [if_neg h0];rw [if_neg (by omega)]
theorem xxx (l:List Msg) (x:Msg):l.map eM++[eM x]=(l++[x]).map eM:=by simp
theorem xmq (w:World) (n:Int) (hn:w.Net.length<=1000):Sem P 209 [(.own,.agg (oWd w)),(.pure,I n)] [] (.agg (oWd { w with Net:=cut w.Net n })):=by
 have lm:(w.Net.map eM).length=w.Net.length:=xzi ..;refine fO Go.Proofs.Tryz.f209 fun hb=>?_;conv=>whnf
 (refine zA ?_)
 refine Vc.loop1 (fun (i:Nat)=>i<=w.Net.length) (fun i=>updL [1,2,4] [(6,I i),(5,.one (.ref 128000))] [(128000,.arr 55 ((cut (w.Net.take i) n).map eM) false)]) (fun i=>w.Net.length - i) 0 (xz1 _) ?_ (fun i hi=>?_)
 · repeat' (first|exact True.intro|((conv=>whnf);first|exact True.intro|refine ⟨by rfl,?_⟩|refine ⟨by first|omega|(show (_:Int)=_;first|omega|(dsimp only;omega))|exact (by unfold cut; simp),?_⟩|refine ⟨?_,?_⟩))
 · have hcl:(cut (w.Net.take i) n).length<=(w.Net.take i).length:=xav;rw [xz3] at hcl;have hlo:((cut (w.Net.take i) n).map eM).length<=i:=by rw [xzi]; omega
   conv=>whnf
   (refine zA ?_)
   refine xd (fun g=>?_) (fun g=>?_)
   all_goals conv=>whnf
   · have hil:i<w.Net.length:=by omega
     have es:=xwn (n:=n) hil
     repeat' first|((first|refine zz ?_|(refine xa ?_ ?_<;>intro _)|refine ioN (by omega) (by omega) ?_)<;>conv=>whnf)|(refine rwN (enc:=eM) default (by simp only [xz9]; omega) ?_;conv=>whnf)|(refine apN (by show _+1<=_; omega) ?_;conv=>whnf)|((first|refine wq ?_)<;>conv=>whnf)
     · rename_i h;rw [if_neg (yv h)] at es;refine ⟨i+1,by omega,by simp only; omega,?_⟩
       repeat' (first|exact True.intro|((conv=>whnf);first|exact True.intro|refine ⟨by rfl,?_⟩|refine ⟨by first|omega|(show (_:Int)=_;first|omega|(dsimp only;omega))|exact (by rw [es,<- xxx]; rfl),?_⟩|refine ⟨?_,?_⟩))
     · rename_i h;rw [if_pos (y8 h)] at es;refine ⟨i+1,by omega,by simp only; omega,?_⟩
       repeat' (first|exact True.intro|((conv=>whnf);first|exact True.intro|refine ⟨by rfl,?_⟩|refine ⟨by first|omega|(show (_:Int)=_;first|omega|(dsimp only;omega))|exact congrArg (List.map eM) es.symm,?_⟩|refine ⟨?_,?_⟩))
   ·
    (refine zA ?_)
    have e:w.Net.take i=w.Net:=xzx (by omega);exact ⟨by rw [e],rfl⟩
end Cc
end
