/- The laws FnMsgOk, FnSitFree: part 12 of 41. No conditions beyond the statement. -/
import Derived.Test.YtnigojkdmmeglaaGreatDoorAll11
set_option linter.unusedVariables false
set_option linter.unusedSimpArgs false
set_option maxRecDepth 100000
set_option maxHeartbeats 16000000
section
namespace Cc
open Go Go.AM
theorem xrk (p:Plan) (x:Msg) (hc:inB p.Clients 0 4=true):Sem P 75 [(.pure,.agg (aPl p)),(.pure,.agg (aM x))] [] (B (msgB p x)):=by
 obtain ⟨k,to,from_,round,call,vals,seqs,done⟩:=x;have hk:k=1\/k=2\/k=3\/k=4\/(k≠1/\k≠2/\k≠3/\k≠4):=by omega
 rcases hk with rfl|rfl|rfl|rfl|hk
 all_goals refine fO Go.Proofs.Tryz.f75 fun hb=>?_
 all_goals conv=>whnf
 all_goals repeat' first|((first|refine zz ?_|(refine xa ?_ ?_<;>intro _)|refine ⟨_,xkd call,?_⟩|refine ⟨_,x6 _ _ _,?_⟩|refine ⟨_,vz p call hc,?_⟩|refine ⟨_,xf3 p _,?_⟩|refine ⟨_,xba _,?_⟩|refine ⟨_,j3 _,?_⟩|refine ⟨_,xf4 p seqs,?_⟩|refine ⟨_,v8 p done,?_⟩)<;>conv=>whnf)
 all_goals first
  | (refine rB ?_; simp_all [msgB,j8]; done)
  | (refine rB ?_; simp_all [msgB,j8,inB]; done)
  | (exfalso; simp_all; done)
end Cc
end
