/- The laws FnMsgOk, FnSitFree: part 16 of 41. No conditions beyond the statement. -/
import Derived.Test.YtnigojkdmmeglaaGreatDoorAll15
set_option linter.unusedVariables false
set_option linter.unusedSimpArgs false
set_option maxRecDepth 100000
set_option maxHeartbeats 16000000
section
namespace Cc
open Go Go.AM
theorem apI {l:List Int} {k q:Prop} (hk:k):(allPrim (ints l)/\k)\/q:=.inl ⟨x7 l,hk⟩
theorem xkg (acts:List (List Line)) (h:cpA acts):Sem P 188 [(.pure,.one (sAs acts))] [] (.one (sAs acts)):=by
 refine yp (E:={ E0 with fz:=[(11,[704256,704576]),(12,[384000])] }) xm xn (fn:=Go.Proofs.Tryz.f188) (by kernel_rfl) (by kernel_rfl) (fun hb=>?_);have hla:(acts.map eA).length=acts.length:=xzi ..;have h100:=h.1;conv=>whnf
 (refine zA ?_)
 refine Vc.loop1 (fun (k:Nat)=>k<=acts.length) (fun k=>updL [0,2,55] [(4,I k),(3,.one (.ref 128000))] [(128000,.arr 48 ((acts.take k).map eA) false)]) (fun k=>acts.length - k) 0 (xz1 _) ?_ (fun k hk=>?_)
 · exact wk
 · have hlk:((acts.take k).map eA).length=k:=by rw [xzi,xz3]; omega
   conv=>whnf
   (refine zA ?_)
   refine xd (fun g=>?_) (fun g=>?_)
   all_goals conv=>whnf
   · have hkl:k<acts.length:=by omega
     have ha:(acts.getD k []).length<=100/\_:=h.2 _ (xp hkl);have ha1:=ha.1
     repeat' first|((first|refine zz ?_|(refine xa ?_ ?_<;>intro _)|refine ixN (enc:=eA) [] hkl ?_)<;>conv=>whnf)
     refine Vc.loop1 (fun (i:Nat)=>i<=(acts.getD k []).length) (fun i=>updL [0,2,3,4] [(6,I i),(5,.one (.ref 384000))] [(384000,.arr 122 (((acts.getD k []).take i).map eL) false)]) (fun i=>(acts.getD k []).length - i) 0 (xz1 _) ?_ (fun i hi=>?_)
     · exact wk
     · have hlm:((acts.getD k []).map eL).length=(acts.getD k []).length:=xzi ..;have hlo:(((acts.getD k []).take i).map eL).length=i:=by rw [xzi,xz3]; omega
       conv=>whnf
       (refine zA ?_)
       refine ixN (enc:=eA) [] hkl ?_;conv=>whnf
       (refine zA ?_)
       refine xd (fun g=>?_) (fun g=>?_)
       all_goals conv=>whnf
       · have hf:=ha.2 ((acts.getD k []).getD i default) (xp (by omega));have lc:=xb ((acts.getD k []).getD i default).Form.C;have ld:=xb ((acts.getD k []).getD i default).Form.D
         repeat' first|((first|refine zz ?_|(refine xa ?_ ?_<;>intro _)|refine ixN (enc:=eA) [] hkl ?_|refine ixN (enc:=eL) default (by omega) ?_|refine apI ?_)<;>conv=>whnf)|(refine apN (by simp only [xz4]; omega) ?_;conv=>whnf)|(refine apN (by rw [hlo]; show i+1<=_; omega) ?_;conv=>whnf)|((first|refine wq ?_)<;>conv=>whnf)
         refine ⟨i+1,by omega,by simp only; omega,?_⟩
         repeat' (first|exact True.intro|((conv=>whnf);first|exact True.intro|refine ⟨by rfl,?_⟩|refine ⟨by first|omega|(show (_:Int)=_;first|omega|(dsimp only;omega))|exact qe (by omega),?_⟩|refine ⟨?_,?_⟩))
       · have hend:(acts.getD k []).take i=(acts.getD k []):=xzx (by omega)
         repeat' first|((first|refine zz ?_|(refine xa ?_ ?_<;>intro _))<;>conv=>whnf)|(refine apN (by rw [hlk]; show k+1<=_; omega) ?_;conv=>whnf)|((first|refine wq ?_)<;>conv=>whnf)
         refine ⟨k+1,by omega,by simp only; omega,?_⟩
         repeat' (first|exact True.intro|((conv=>whnf);first|exact True.intro|refine ⟨by rfl,?_⟩|refine ⟨by first|omega|(show (_:Int)=_;first|omega|(dsimp only;omega))|exact (by rw [xt hkl,x0q,hend]; rfl),?_⟩|refine ⟨?_,?_⟩))
   ·
    (refine zA ?_)
    have hend:acts.take k=acts:=xzx (by omega);exact ⟨by rw [hend],rfl⟩
theorem xd1 (p:Plan) (h:cpA p.Acts) (hg:p.Gives.length<=100) (hs:p.Start.length<=100):Sem P 103 [(.pure,.agg (aPl p))] [] (.agg (aPl p)):=by
 have lg:=xb p.Gives;have ls:=xb p.Start;refine fK [2004] Go.Proofs.Tryz.f103 fun hb=>?_;conv=>whnf
 repeat' first|((first|refine zz ?_|(refine xa ?_ ?_<;>intro _)|refine ⟨_,xkg p.Acts h,?_⟩|refine apI ?_)<;>conv=>whnf)|(refine apN (by simp; omega) ?_;conv=>whnf)
 exact ⟨rfl,rfl⟩
theorem xmh (p:Plan) (hc:inB p.Clients 0 4=true):Sem P 189 [(.pure,.agg (aPl p))] [] (.one (sDs (List.replicate p.Clients.toNat Done.nil))):=by
 have h:=xc.1 hc;refine fO Go.Proofs.Tryz.f189 fun hb=>?_;conv=>whnf
 (refine zA ?_)
 refine Vc.loop1 (fun (i:Nat)=>(i:Int)<=p.Clients) (fun i=>updL [1,2,16] [(4,I i),(3,.one (.ref 128000))] [(128000,.arr 79 ((List.replicate i Done.nil).map eD) false)]) (fun i=>p.Clients.toNat - i) 0 h.1 ?_ (fun i hi=>?_)
 · exact wk
 · have lr:((List.replicate i Done.nil).map eD).length=i:=by simp
   conv=>whnf
   (refine zA ?_)
   refine xd (fun g=>?_) (fun g=>?_)
   all_goals conv=>whnf
   · repeat' first|((first|refine zz ?_|(refine xa ?_ ?_<;>intro _))<;>conv=>whnf)|(refine apN (by rw [lr]; show i+1<=_; omega) ?_;conv=>whnf)|((first|refine wq ?_)<;>conv=>whnf)
     refine ⟨i+1,by omega,by simp only; omega,?_⟩
     repeat' (first|exact True.intro|((conv=>whnf);first|exact True.intro|refine ⟨by rfl,?_⟩|refine ⟨by first|omega|(show (_:Int)=_;first|omega|(dsimp only;omega))|exact xdo eD Done.nil i,?_⟩|refine ⟨?_,?_⟩))
   ·
    (refine zA ?_)
    exact ⟨by rw [show i=p.Clients.toNat by omega],rfl⟩
theorem xe2 (p:Plan) (hg:p.Gives.length<=100):Sem P 133 [(.pure,.agg (aPl p))] [] (.one (sGs (List.replicate p.Gives.length Got.nil))):=by
 have lg:=xb p.Gives;refine fO Go.Proofs.Tryz.f133 fun hb=>?_;conv=>whnf
 (refine zA ?_)
 refine Vc.loop1 (fun (i:Nat)=>i<=p.Gives.length) (fun i=>updL [1,2,17] [(4,I i),(3,.one (.ref 128000))] [(128000,.arr 105 ((List.replicate i Got.nil).map eG) false)]) (fun i=>p.Gives.length - i) 0 (xz1 _) ?_ (fun i hi=>?_)
 · exact wk
 · have lr:((List.replicate i Got.nil).map eG).length=i:=by simp
   conv=>whnf
   (refine zA ?_)
   refine xd (fun g=>?_) (fun g=>?_)
   all_goals conv=>whnf
   · repeat' first|((first|refine zz ?_|(refine xa ?_ ?_<;>intro _))<;>conv=>whnf)|(refine apN (by rw [lr]; show i+1<=_; omega) ?_;conv=>whnf)|((first|refine wq ?_)<;>conv=>whnf)
     refine ⟨i+1,by omega,by simp only; omega,?_⟩
     repeat' (first|exact True.intro|((conv=>whnf);first|exact True.intro|refine ⟨by rfl,?_⟩|refine ⟨by first|omega|(show (_:Int)=_;first|omega|(dsimp only;omega))|exact xdo eG Got.nil i,?_⟩|refine ⟨?_,?_⟩))
   ·
    (refine zA ?_)
    exact ⟨by rw [show i=p.Gives.length by omega],rfl⟩
theorem xoc (p:Plan) (hp:planOk p=true):Sem P 104 [(.pure,.agg (aPl p))] [] (.agg (aK (clerkNew p))):=by
 have hs:p.Start.length<=100:=by rw [xdb hp]; decide
 have hg:=yk hp;have ls:=xb p.Start;refine fK [4005,4007] Go.Proofs.Tryz.f104 fun hb=>?_;conv=>whnf
 repeat' first|((first|refine zz ?_|(refine xa ?_ ?_<;>intro _)|refine ⟨_,zh p,?_⟩|refine apI ?_)<;>conv=>whnf)|(refine apN (by simp; omega) ?_;conv=>whnf)|((first|refine ⟨_,xmh p (xi hp),?_⟩|refine ⟨_,xe2 p (by omega),?_⟩)<;>conv=>whnf)
 · exfalso; simp_all
 · exact ⟨rfl,rfl⟩
theorem xod (p:Plan) (hp:planOk p=true):Sem P 105 [(.pure,.agg (aPl p))] [] (.agg (aS (siteNew p))):=by
 have hs:p.Start.length<=100:=by rw [xdb hp]; decide
 have ls:=xb p.Start;refine fK [4006] Go.Proofs.Tryz.f105 fun hb=>?_;conv=>whnf
 repeat' first|((first|refine zz ?_|(refine xa ?_ ?_<;>intro _)|refine ⟨_,zh p,?_⟩|refine apI ?_)<;>conv=>whnf)|(refine apN (by simp; omega) ?_;conv=>whnf)|((first|refine ⟨_,xmh p (xi hp),?_⟩)<;>conv=>whnf)
 · exfalso; simp_all
 · exact ⟨rfl,rfl⟩
theorem xoe (p:Plan) (hp:planOk p=true):Sem P 44 [(.pure,.agg (aPl p))] [] (.agg (aWd (worldNew p))):=by
 have hc:=xi hp;have h:=xc.1 hc;have hs:p.Start.length<=100:=by rw [xdb hp]; decide
 have hg:=yk hp;have lg:=xb p.Gives;refine fK [4001,4003] Go.Proofs.Tryz.f44 fun hb=>?_;conv=>whnf
 repeat' first|((first|refine zz ?_|(refine xa ?_ ?_<;>intro _)|refine ⟨_,zh p,?_⟩|refine ⟨_,xd1 p (xpt (qv hp)) (by omega) hs,?_⟩|refine ⟨_,xoc p hp,?_⟩)<;>conv=>whnf)
 · exfalso; simp_all
 · refine Vc.loop1 (fun (i:Nat)=>i<=p.Gives.length) (fun i=>updL [1,2,3,5,29,30,31,32,33,34,35,36,37,38,39,40,41] [(4,I i)] [(256389,.arr 60 ((List.replicate i (siteNew p)).map eS) false)]) (fun i=>p.Gives.length - i) 0 (xz1 _) ?_ (fun i hi=>?_)
   · exact wk
   · have lr:((List.replicate i (siteNew p)).map eS).length=i:=by simp
     conv=>whnf
     (refine zA ?_)
     refine xd (fun g=>?_) (fun g=>?_)
     all_goals conv=>whnf
     · repeat' first|((first|refine zz ?_|(refine xa ?_ ?_<;>intro _)|refine ⟨_,xod p hp,?_⟩)<;>conv=>whnf)|(refine apN (by rw [lr]; show i+1<=_; omega) ?_;conv=>whnf)|((first|refine wq ?_)<;>conv=>whnf)
       refine ⟨i+1,by omega,by simp only; omega,?_⟩
       repeat' (first|exact True.intro|((conv=>whnf);first|exact True.intro|refine ⟨by rfl,?_⟩|refine ⟨by first|omega|(show (_:Int)=_;first|omega|(dsimp only;omega))|exact xdo eS (siteNew p) i,?_⟩|refine ⟨?_,?_⟩))
     · have e:i=p.Gives.length:=by omega
       subst e;clear g hi
       (refine zA ?_)
       refine Vc.loop1 (fun (k:Nat)=>(k:Int)<=p.Clients) (fun k=>updL [1,2,3,41] [(5,I k)] [(256396,.arr 163 ((List.replicate k Client.nil).map eX) false)]) (fun k=>p.Clients.toNat - k) 0 h.1 ?_ (fun k hk=>?_)
       · exact wk
       · have lr:((List.replicate k Client.nil).map eX).length=k:=by simp
         conv=>whnf
         (refine zA ?_)
         refine xd (fun g=>?_) (fun g=>?_)
         all_goals conv=>whnf
         · repeat' first|((first|refine zz ?_|(refine xa ?_ ?_<;>intro _))<;>conv=>whnf)|(refine apN (by rw [lr]; show k+1<=_; omega) ?_;conv=>whnf)|((first|refine wq ?_)<;>conv=>whnf)
           refine ⟨k+1,by omega,by simp only; omega,?_⟩
           repeat' (first|exact True.intro|((conv=>whnf);first|exact True.intro|refine ⟨by rfl,?_⟩|refine ⟨by first|omega|(show (_:Int)=_;first|omega|(dsimp only;omega))|exact xdo eX Client.nil k,?_⟩|refine ⟨?_,?_⟩))
         ·
          (refine zA ?_)
          have e:k=p.Clients.toNat:=by omega
          subst e;exact ⟨rfl,rfl⟩
end Cc
end
