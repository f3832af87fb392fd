/- The laws FnMsgOk, FnSitFree: part 13 of 41. No conditions beyond the statement. -/
import Derived.Test.YtnigojkdmmeglaaGreatDoorAll12
set_option linter.unusedVariables false
set_option linter.unusedSimpArgs false
set_option maxRecDepth 100000
set_option maxHeartbeats 16000000
section
namespace Cc
open Go Go.AM
theorem xbf {p:Plan} {c:Clerk} (h:clerkB p c=true->False):clerkB p c=false:=by
 cases e:clerkB p c with
 | false=>rfl
 | true=>exact (h e).elim
theorem xkf (p:Plan) (c:Clerk) (hc:inB p.Clients 0 4=true):Sem P 69 [(.pure,.agg (aPl p)),(.pure,.agg (aRu p.Acts)),(.pure,.agg (aK c))] [] (B (clerkB p c)):=by
 have iff:=@xrj p c;have lw:(c.Wants.map eC).length=c.Wants.length:=xzi ..;have lg:(c.Got.map eG).length=c.Got.length:=xzi ..;have lp:=xb p.Gives;by_cases h0:(inB c.Round 0 200 && valOk c.Base && doneOk p c.Done && decide (c.Got.length=p.Gives.length))=true
 · refine fO Go.Proofs.Tryz.f69 fun hb=>?_;have hb1:(c.Wants.map eC).length<=1125899906842624:=(hb.2.2.1 (sCs c.Wants) (by simp)).1;have hb2:(c.Got.map eG).length<=1125899906842624:=(hb.2.2.1 (sGs c.Got) (by simp)).1;conv=>whnf
   repeat' first|((first|refine zz ?_|(refine xa ?_ ?_<;>intro _)|refine ⟨_,x6 _ _ _,?_⟩|refine ⟨_,j3 _,?_⟩|refine ⟨_,v8 p c.Done,?_⟩)<;>conv=>whnf)
   all_goals first
    | (clear iff; exfalso; simp_all; done)
    | skip
   refine Vc.loop1 (fun (i:Nat)=>i<=c.Wants.length/\∀ j,j<i->callB p (c.Wants.getD j default)=true/\(0<j->(c.Wants.getD (j - 1) default).Client<(c.Wants.getD j default).Client)/\c.Up=true) (fun i=>updL [3,4,5,9,10,11,39,40,72,73,74,75,76,77,78,79,80,81,82,83,84,85,86,87,88,89,90,91,92,93,94,95,96,97,98,99,100,101,102,103,104,105,106,107,108,109,110] [(41,I i)] []) (fun i=>c.Wants.length - i) 0 ⟨xz1 _,fun j hj=>absurd hj (x0z j)⟩ ?_ (fun i hi=>?_)
   · exact wk
   · obtain ⟨hi,hall⟩:=hi;conv=>whnf
     (refine zA ?_)
     refine xd (fun g=>?_) (fun g=>?_)
     all_goals conv=>whnf
     · have hil:i<c.Wants.length:=by omega
       have no:∀ {q:Prop},(callB p (c.Wants.getD i default)=true/\(0<i->(c.Wants.getD (i - 1) default).Client<(c.Wants.getD i default).Client)/\c.Up=true->q)->(q->False)->clerkB p c=false:=fun h1 h2=>xbf fun hB=>h2 (h1 ((iff.1 hB).2.1 i hil));by_cases hz:i=0
       · subst hz
         repeat' first|((first|refine zz ?_|(refine xa ?_ ?_<;>intro _)|refine ixN (enc:=eC) default hil ?_|refine ⟨_,vz p (c.Wants.getD 0 default) hc,?_⟩|refine wq ?_)<;>conv=>whnf)
         all_goals first
          | (refine rB ?_; rw [no id]; rintro ⟨a1,a2,a3⟩; clear no iff hall; simp_all; done)
          | (refine ⟨1,⟨by omega,fun j hj=>?_⟩,by simp only; omega,?_⟩
             · obtain rfl:j=0:=by omega
               clear no iff hall;exact ⟨by simp_all,fun h=>absurd h (Nat.lt_irrefl 0),by simp_all⟩
             · exact wk)
       · have hz1:((i:Int) - 1).toNat=i - 1:=by omega
         repeat' first|((first|refine zz ?_|(refine xa ?_ ?_<;>intro _)|refine ixN (enc:=eC) default hil ?_|refine ⟨_,vz p (c.Wants.getD i default) hc,?_⟩|refine ixI (enc:=eC) default (by omega) (by omega) ?_|refine wq ?_)<;>conv=>whnf)
         all_goals first
          | (refine rB ?_; rw [no id]; rintro ⟨a1,a2,a3⟩; have a2:=a2 (by omega); clear no iff hall; simp_all; done)
          | (refine rB ?_; rw [no id]; rintro ⟨a1,a2,a3⟩; have a2:=a2 (by omega); clear no iff hall; simp_all; omega)
          | (refine ⟨i+1,⟨by omega,fun j hj=>?_⟩,by simp only; omega,?_⟩
             · by_cases hji:j<i
               · exact hall j hji
               · obtain rfl:j=i:=by omega
                 clear no iff hall;refine ⟨by simp_all,fun h=>?_,by simp_all⟩
                 first
                  | (simp_all; done)
                  | (exfalso; simp_all; omega)
             · exact wk)
     · have hW:∀ j,j<c.Wants.length->callB p (c.Wants.getD j default)=true/\(0<j->(c.Wants.getD (j - 1) default).Client<(c.Wants.getD j default).Client)/\c.Up=true:=fun j hj=>hall j (by omega)
       (refine zA ?_)
       refine Vc.loop1 (fun (k:Nat)=>k<=c.Got.length/\∀ j,j<k->((c.Up && (c.Got.getD j default).Has && keeps p.Acts (p.treaty c.Base) j (c.Got.getD j default).Added && seqsOk p (c.Got.getD j default).Seqs) || (c.Got.getD j default).none)=true) (fun k=>updL [3,4,5,73,74] [(75,I k)] []) (fun k=>c.Got.length - k) 0 ⟨xz1 _,fun j hj=>absurd hj (x0z j)⟩ ?_ (fun k hk=>?_)
       · exact wk
       · obtain ⟨hk,hal2⟩:=hk;conv=>whnf
         (refine zA ?_)
         refine xd (fun g=>?_) (fun g=>?_)
         all_goals conv=>whnf
         · have hkl:k<c.Got.length:=by omega
           have no:¬ ((c.Up && (c.Got.getD k default).Has && keeps p.Acts (p.treaty c.Base) k (c.Got.getD k default).Added && seqsOk p (c.Got.getD k default).Seqs) || (c.Got.getD k default).none)=true->clerkB p c=false:=fun h2=>xbf fun hB=>h2 ((iff.1 hB).2.2 k hkl);have hke:keeps p.Acts (p.treaty c.Base) k (c.Got.getD k default).Added=(trtKeeps ⟨c.Base,p.Gives⟩ (partsOf p.Acts) k (c.Got.getD k default).Added && unpinned (pinsOf p.Acts) (c.Got.getD k default).Added):=rfl;have hkp:Sem P 158 [(.pure,.agg (aRu p.Acts)),(.pure,.agg (aT ⟨c.Base,p.Gives⟩)),(.pure,I k),(.pure,AI (c.Got.getD k default).Added)] [] (B (keeps p.Acts (p.treaty c.Base) k (c.Got.getD k default).Added)):=xdj p.Acts (partsOf p.Acts) _ _ _ ⟨c.Base,p.Gives⟩ k (c.Got.getD k default).Added;clear hke;generalize hkb:keeps p.Acts (p.treaty c.Base) k (c.Got.getD k default).Added=kb at hkp no
           repeat' first|((first|refine zz ?_|(refine xa ?_ ?_<;>intro _)|refine ixN (enc:=eG) default hkl ?_|refine ⟨_,jb p c.Base,?_⟩|refine ⟨_,hkp,?_⟩|refine ⟨_,xf4 p (c.Got.getD k default).Seqs,?_⟩|refine ⟨_,xma (c.Got.getD k default),?_⟩|refine wq ?_)<;>conv=>whnf)
           all_goals first
            | (refine rB ?_; symm; refine no ?_; clear no iff hall hal2 hW hkb hkp hb; simp_all; done)
            | (refine ⟨k+1,⟨by omega,fun j hj=>?_⟩,by simp only; omega,?_⟩
               · by_cases hjk:j<k
                 · exact hal2 j hjk
                 · obtain rfl:j=k:=by omega
                   rw [hkb];clear no iff hall hal2 hW hkb hkp hb;simp_all
               · exact wk)
         ·
          (refine zA ?_)
          refine rB ?_;symm;exact iff.2 ⟨h0,hW,fun j hj=>hal2 j (by omega)⟩
 · refine fO Go.Proofs.Tryz.f69 fun hb=>?_;conv=>whnf
   repeat' first|((first|refine zz ?_|(refine xa ?_ ?_<;>intro _)|refine ⟨_,x6 _ _ _,?_⟩|refine ⟨_,j3 _,?_⟩|refine ⟨_,v8 p c.Done,?_⟩)<;>conv=>whnf)
   all_goals first
    | (refine rB ?_; rw [xbf (fun hB=>h0 (iff.1 hB).1)]; done)
    | (exfalso; refine h0 ?_; clear h0 iff; simp only [xzj,xzk]; simp_all; omega)
end Cc
end
