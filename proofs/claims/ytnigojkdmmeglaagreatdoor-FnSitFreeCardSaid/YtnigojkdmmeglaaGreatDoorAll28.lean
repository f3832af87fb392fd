/- The laws FnMsgOk, FnSitFree: part 28 of 41. No conditions beyond the statement. -/
import Derived.Test.YtnigojkdmmeglaaGreatDoorAll21
set_option linter.unusedVariables false
set_option linter.unusedSimpArgs false
set_option maxRecDepth 100000
set_option maxHeartbeats 16000000
section
namespace Cc
open Go Go.AM
def lrn (p:Plan) (n:Int) (old new:List Done):Nat->List Done
 | 0=>old
 | i+1=>if (old.getD i Done.nil).Seq<(new.getD i Done.nil).Seq/\(i:Int) % p.Gives.length=n then (lrn p n old new i).set i (new.getD i Done.nil) else lrn p n old new i
theorem vr (p:Plan) (n:Int) (old new:List Done):∀ i,(lrn p n old new i).length=old.length
 | 0=>rfl
 | i+1=>by
   unfold lrn
   split
   · rw [x03]; exact vr p n old new i
   · exact vr p n old new i
theorem xmr {l:List Done} {i j:Nat} {d:Done} (h:i<l.length):(l.set i d).getD j Done.nil=if i=j then d else l.getD j Done.nil:=by
 rw [xzo,List.getElem?_set,xzo];by_cases e:i=j
 · subst e; rw [if_pos rfl,if_pos rfl,if_pos h]; rfl
 · rw [if_neg e,if_neg e]
theorem xfl (p:Plan) (n:Int) (old new:List Done):∀ i,i<=old.length->∀ j,(lrn p n old new i).getD j Done.nil=if j<i/\((old.getD j Done.nil).Seq<(new.getD j Done.nil).Seq/\(j:Int) % p.Gives.length=n) then new.getD j Done.nil else old.getD j Done.nil
 | 0,_,j=>by rw [if_neg (by omega)]; rfl
 | i+1,h,j=>by
   have ih:=xfl p n old new i (by omega) j;have hl:=vr p n old new i;unfold lrn
   split
   · rename_i hc;rw [xmr (by omega)];by_cases e:i=j
     · subst e; rw [if_pos rfl,if_pos ⟨by omega,hc⟩]
     · rw [if_neg e,ih];by_cases hj:j<i
       · simp only [hj,show j<i+1 from by omega]
       · simp only [hj,show ¬ j<i+1 from by omega]
   · rename_i hc;rw [ih];by_cases e:i=j
     · subst e; rw [if_neg (fun h=>by omega),if_neg (fun h=>hc h.2)]
     · by_cases hj:j<i
       · simp only [hj,show j<i+1 from by omega]
       · simp only [hj,show ¬ j<i+1 from by omega]
theorem xp1 (p:Plan) (n:Int) (old new:List Done):lrn p n old new old.length=learn p n old new:=by
 apply xas Done.nil (by rw [vr]; simp [learn]);intro j hj;rw [vr] at hj;rw [xfl p n old new _ (x0r _) j];unfold learn;rw [xzo (l:=List.map _ _),xzr,x3m hj];simp only [x0y,x1v];by_cases h:(old.getD j Done.nil).Seq<(new.getD j Done.nil).Seq/\(j:Int) % p.Gives.length=n
 · rw [if_pos ⟨hj,h⟩,if_pos h]
 · rw [if_neg (fun h'=>h h'.2),if_neg h]
abbrev tH (b:Site × List Msg):TV:=.tup [(true,aS b.1),(false,[sMs b.2])]
abbrev tHm (s:Site) (m:Msg):TV:=.tup [(true,aS s),(false,[.sl 55 [aM m]])]
abbrev tHc (b:Site × List Msg):TV:=.tup [(true,eS b.1),(false,[fMs b.2])]
theorem coldHear {f:Nat} {ins:List (Go.AM.Mode × TV)} {b:Site × List Msg} (h:Sem P f ins [] (tH b)):Sem P f ins [] (tHc b):=by
 refine Sem.coldT (vs:=[(true,aS b.1),(false,[sMs b.2])]) rfl (fun k a cs c cs' h1 h2=>?_) h
 match k,h1,h2 with
 | 0,h1,h2=>cases h1; cases h2; exact ⟨rfl,jz _⟩
 | 1,h1,h2=>cases h1; cases h2; exact ⟨rfl,vp _ _⟩
 | k+2,h1,h2=>simp at h1
theorem xwo (m:Msg):Cold (.sl 55 ([m].map aM)) (fMs [m]):=xjr (fun _=>rfl) fun x k a b ha hb=>by
 match k,ha,hb with
 | 0,ha,hb=>cases ha; cases hb; exact Imp.rfl
 | 1,ha,hb=>cases ha; cases hb; exact Imp.rfl
 | 2,ha,hb=>cases ha; cases hb; exact Imp.rfl
 | 3,ha,hb=>cases ha; cases hb; exact Imp.rfl
 | 4,ha,hb=>cases ha; cases hb; exact Imp.rfl
 | 5,ha,hb=>cases ha; cases hb; exact Imp.rfl
 | 6,ha,hb=>cases ha; cases hb; exact Imp.rfl
 | 7,ha,hb=>cases ha; cases hb; exact qo Imp.rfl
 | 8,ha,hb=>cases ha; cases hb; exact qo Imp.rfl
 | 9,ha,hb=>cases ha; cases hb; exact qo Imp.rfl
 | 10,ha,hb=>cases ha; cases hb; exact qo Imp.rfl
 | k+11,ha,hb=>simp at ha
theorem coldHear2 {f:Nat} {ins:List (Go.AM.Mode × TV)} {s:Site} {m:Msg} (h:Sem P f ins [] (tHm s m)):Sem P f ins [] (tHc (s,[m])):=by
 refine Sem.coldT (vs:=[(true,aS s),(false,[.sl 55 ([m].map aM)])]) rfl (fun k a cs c cs' h1 h2=>?_) h
 match k,h1,h2 with
 | 0,h1,h2=>cases h1; cases h2; exact ⟨rfl,jz _⟩
 | 1,h1,h2 =>
   cases h1; cases h2;refine ⟨rfl,rfl,fun j x y h1 h2=>?_⟩
   match j,h1,h2 with
   | 0,h1,h2=>cases h1; cases h2; exact xwo m
   | j+1,h1,h2=>simp at h1
 | k+2,h1,h2=>simp at h1
theorem xuu:allPrim (([]:List Done).map eD):=fun row h=>by simp at h
theorem xrz (p:Plan) (s:Site) (n:Int) (m:Msg) (hp:planOk p=true) (hn:0<=n) (hs:siteB p s n=true) (hm:msgB p m=true) :
 Sem P 261 [(.pure,.agg (aPl p)),(.pure,.agg (aS s)),(.pure,I n),(.pure,.agg (aM m))] [] (tHc (siteHear p s n m)):=by
 have hcl:=xi hp;have hsm:=kt hcl hs;obtain ⟨hr,hb',ha,hd⟩:=siteE hs;have g1:=(planF hp).g1;have lg:=xb p.Gives;have hdl:=(yl hcl hd).1;have hcp:=jh s (by omega);have lds:(s.Done.map eD).length=s.Done.length:=xzi ..;by_cases h1:(!s.Up || decide (m.To≠n))=true
 · have e:siteHear p s n m=(s,[]):=by unfold siteHear; rw [if_pos h1]
   rw [e];refine coldHear ?_;refine fK [2001,7003] Go.Proofs.Tryz.f261 fun hb=>?_;conv=>whnf
   repeat' first|((first|refine zz ?_|(refine xa ?_ ?_<;>intro _)|refine ⟨_,hcp,?_⟩)<;>conv=>whnf)
   all_goals first
    | exact ⟨rfl,rfl⟩
    | (exfalso; clear hcp hb hs hm hd; simp_all; done)
 · by_cases h2:m.Kind=2/\m.Round=s.Round
   · have e:siteHear p s n m=({ s with Frozen:=true },[giveMsg { s with Frozen:=true } n]):=by unfold siteHear; rw [if_neg h1,if_pos h2]; rfl
     rw [e];refine coldHear2 ?_;have hG:=xdr { s with Frozen:=true } n (by have:=(xu ha).1; simp only; omega) (by simp only; omega);refine fK [2001,7003] Go.Proofs.Tryz.f261 fun hb=>?_;conv=>whnf
     repeat' first|((first|refine zz ?_|(refine xa ?_ ?_<;>intro _)|refine ⟨_,hcp,?_⟩|refine ⟨_,hG,?_⟩|refine akP (x7 _) ?_|refine akP xuu ?_)<;>conv=>whnf)
     all_goals first
      | exact ⟨rfl,rfl⟩
      | (exfalso; clear hcp hb hs hm hd hG e; simp_all; done)
   · by_cases h3:m.Kind=4/\s.Round<m.Round
     · have e:siteHear p s n m=({ s with Round:=m.Round,Frozen:=false,Base:=m.Vals,Added:=[0,0,0],Done:=learn p n s.Done m.Done },[]):=by unfold siteHear; rw [if_neg h1,if_neg h2,if_pos h3]
       rw [e,<- xp1];have hmd:doneOk p m.Done=true/\valOk m.Vals=true:=by
        unfold msgB at hm;rw [if_neg (by omega),if_neg (by omega),if_neg (by omega),if_pos h3.1] at hm;simp only [xzj] at hm;exact ⟨hm.2.1.1.2,hm.2.1.1.1.2⟩
       have hmv:=(xe.1 hmd.2).1;have lmv:=xb m.Vals;have hc1:(s.Done.length:Int)=p.Clients:=by unfold doneOk at hd; simp only [xzj,xzk] at hd; exact hd.1
       have hc2:(m.Done.length:Int)=p.Clients:=by have:=hmd.1; unfold doneOk at this; simp only [xzj,xzk] at this; exact this.1
       have hmt:∀ i,i<m.Done.length->(m.Done.getD i Done.nil).Res.Tells.length<=6:=fun i hi=>by
        have:=hmd.1; unfold doneOk at this; simp only [xzj,xzl] at this;exact kr (this.2 _ (xp hi))
       refine coldHear ?_;refine fK [2001,7003] Go.Proofs.Tryz.f261 fun hb=>?_;conv=>whnf
       repeat' first|((first|refine zz ?_|(refine xa ?_ ?_<;>intro _)|refine ⟨_,hcp,?_⟩|refine apI ?_)<;>conv=>whnf)|(refine apN (by simp only [xz4]; omega) ?_;conv=>whnf)
       all_goals first
        | (exfalso; clear hcp hb hs hm hd e hmt hmd; simp_all; done)
        | (exfalso; clear hcp hb hs hm hd e hmt hmd; simp_all; omega)
        | skip
       refine Vc.loop1 (fun (i:Nat)=>i<=s.Done.length) (fun i=>updL [0,1,2,3,4,5,7,8,9,10] [(11,I i)] [(128069,.arr 79 ((lrn p n s.Done m.Done i).map eD) false)]) (fun i=>s.Done.length - i) 0 (xz1 _) ?_ (fun i hi=>?_)
       · exact wk
       · have ll:=vr p n s.Done m.Done i;have llm:((lrn p n s.Done m.Done i).map eD).length=s.Done.length:=by rw [xzi,ll]
         have hx:(lrn p n s.Done m.Done i).getD i Done.nil=s.Done.getD i Done.nil:=by rw [xfl p n _ _ i hi,if_neg (by omega)]
         have hu:lrn p n s.Done m.Done (i+1)=if (s.Done.getD i Done.nil).Seq<(m.Done.getD i Done.nil).Seq/\(i:Int) % p.Gives.length=n then (lrn p n s.Done m.Done i).set i (m.Done.getD i Done.nil) else lrn p n s.Done m.Done i:=rfl
         conv=>whnf
         (refine zA ?_)
         refine xd (fun g=>?_) (fun g=>?_)
         all_goals conv=>whnf
         · have him:i<m.Done.length:=by omega
           have h6:=hmt i him;by_cases hc:(s.Done.getD i Done.nil).Seq<(m.Done.getD i Done.nil).Seq/\(i:Int) % p.Gives.length=n
           · rw [if_pos hc] at hu
             repeat' first|((first|refine zz ?_|(refine xa ?_ ?_<;>intro _)|refine ixN (enc:=eD) Done.nil him ?_|refine ioN (by omega) (by omega) ?_)<;>conv=>whnf)|(refine rwN (enc:=eD) Done.nil (by simp only [xz9]; omega) ?_;conv=>whnf)|((first|refine r64 (by omega) (by omega) ?_|refine wq ?_|refine ⟨_,yh (m.Done.getD i Done.nil).Res (by omega),?_⟩)<;>conv=>whnf)
             all_goals first
              | (exfalso; clear hcp hb hs hm hd e hmt hmd hu; simp only [xz9,hx,lg,xzk,xzw,x1d,x00,ne_eq,x2c] at *; omega)
              | (refine ⟨i+1,by omega,by simp only; omega,?_⟩
                 repeat' (first|exact True.intro|((conv=>whnf);first|exact True.intro|refine ⟨by rfl,?_⟩|refine ⟨by first|omega|(show (_:Int)=_;first|omega|(dsimp only;omega))|exact (by rw [hu,<- vq]; rfl),?_⟩|refine ⟨?_,?_⟩)))
           · rw [if_neg hc] at hu
             repeat' first|((first|refine zz ?_|(refine xa ?_ ?_<;>intro _)|refine ixN (enc:=eD) Done.nil him ?_|refine ioN (by omega) (by omega) ?_)<;>conv=>whnf)|(refine rwN (enc:=eD) Done.nil (by simp only [xz9]; omega) ?_;conv=>whnf)|((first|refine r64 (by omega) (by omega) ?_|refine wq ?_|refine ⟨_,yh (m.Done.getD i Done.nil).Res (by omega),?_⟩)<;>conv=>whnf)
             all_goals first
              | (exfalso; clear hcp hb hs hm hd e hmt hmd hu; simp only [xz9,hx,lg,xzk,xzw,x1d,x00,ne_eq,x2c] at *; omega)
              | (refine ⟨i+1,by omega,by simp only; omega,?_⟩
                 repeat' (first|exact True.intro|((conv=>whnf);first|exact True.intro|refine ⟨by rfl,?_⟩|refine ⟨by first|omega|(show (_:Int)=_;first|omega|(dsimp only;omega))|exact congrArg (List.map eD) hu.symm,?_⟩|refine ⟨?_,?_⟩)))
         · have ei:i=s.Done.length:=by omega
           subst ei
           (refine zA ?_)
           exact ⟨rfl,rfl⟩
     · have e:siteHear p s n m=(s,[]):=by unfold siteHear; rw [if_neg h1,if_neg h2,if_neg h3]
       rw [e];refine coldHear ?_;refine fK [2001,7003] Go.Proofs.Tryz.f261 fun hb=>?_;conv=>whnf
       repeat' first|((first|refine zz ?_|(refine xa ?_ ?_<;>intro _)|refine ⟨_,hcp,?_⟩)<;>conv=>whnf)
       all_goals first
        | exact ⟨rfl,rfl⟩
        | (exfalso; exact h3 ⟨by simpa using ‹(m.Kind == 4)=true›,by simpa using ‹decide (m.Round>s.Round)=true›⟩)
        | (exfalso; clear hcp hb hs hm hd e; simp_all; done)
end Cc
end
