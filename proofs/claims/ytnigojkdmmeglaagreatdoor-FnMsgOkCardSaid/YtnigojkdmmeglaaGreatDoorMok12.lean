/- The law FnMsgOk: part 12 of 38. No conditions beyond the statement. -/
import Derived.Test.YtnigojkdmmeglaaGreatDoorMok11
set_option linter.unusedVariables false
set_option linter.unusedSimpArgs false
set_option maxRecDepth 100000
set_option maxHeartbeats 16000000
section
namespace Cc
open Go Go.AM
theorem xp3 (p:Plan) (x:Msg) (hc:inB p.Clients 0 4=true):Sem P 75 [(.pure,.agg (aPl p)),(.pure,.agg (aM x))] [] (B (msgB p x)):=by
 obtain ⟨k,to,from_,round,call,vals,seqs,done⟩:=x;have hk:k=1\/k=2\/k=3\/k=4\/(k≠1/\k≠2/\k≠3/\k≠4):=by omega
 rcases hk with rfl|rfl|rfl|rfl|hk
 all_goals refine fO Go.Proofs.Tryz.f75 fun hb=>?_
 all_goals conv=>whnf
 all_goals repeat' first|((first|refine zz ?_|(refine xa ?_ ?_<;>intro _)|refine ⟨_,xi9 call,?_⟩|refine ⟨_,x6 _ _ _,?_⟩|refine ⟨_,xbk p call hc,?_⟩|refine ⟨_,xe8 p _,?_⟩|refine ⟨_,xd1 _,?_⟩|refine ⟨_,jn _,?_⟩|refine ⟨_,xe9 p seqs,?_⟩|refine ⟨_,vj p done,?_⟩)<;>conv=>whnf)
 all_goals first
  | (refine rB ?_; simp_all [msgB,js]; done)
  | (refine rB ?_; simp_all [msgB,js,inB]; done)
  | (exfalso; simp_all; done)
end Cc
end
