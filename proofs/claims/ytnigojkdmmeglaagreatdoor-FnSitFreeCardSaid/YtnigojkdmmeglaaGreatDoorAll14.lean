/- The laws FnMsgOk, FnSitFree: part 14 of 41. No conditions beyond the statement. -/
import Derived.Test.YtnigojkdmmeglaaGreatDoorAll13
set_option linter.unusedVariables false
set_option linter.unusedSimpArgs false
set_option maxRecDepth 100000
set_option maxHeartbeats 16000000
section
namespace Cc
open Go Go.AM
theorem qv {p:Plan} (h:planOk p=true):catOk p.Acts=true:=by
 unfold planOk at h; simp only [xzj] at h; exact h.1.1.2
theorem xuc {w:World}:wldOk w=true↔((planOk w.Plan && decide (w.Sites.length=w.Plan.Gives.length) && decide ((w.Clients.length:Int)=w.Plan.Clients) && decide (w.Net.length<=30) && logB w.Plan w.Log)=true) /\
 (∀ j,j<w.Sites.length->siteB w.Plan (w.Sites.getD j default) j=true)/\(∀ j,j<w.Clients.length->clientB w.Plan j (w.Clients.getD j default)=true)/\(clerkB w.Plan w.Clerk && w.Net.all (msgB w.Plan))=true:=by
 unfold wldOk;simp only [xzj,qf];constructor
 · rintro ⟨⟨⟨⟨h1,h2⟩,h3⟩,h4⟩,h5⟩; exact ⟨h1,h2,h3,h5,h4⟩
 · rintro ⟨h1,h2,h3,h5,h4⟩; exact ⟨⟨⟨⟨h1,h2⟩,h3⟩,h4⟩,h5⟩
theorem xh2 {w:World} (h:wldOk w=true->False):wldOk w=false:=by
 cases e:wldOk w with
 | false=>rfl
 | true=>exact (h e).elim
theorem kq (d:Done):d.ok=(inB d.Seq 0 300 && ((d.Seq == 0) == (d.Res.Code == 0)) && (!(d.Seq == 0) || !decide (0<d.Res.Tells.length)) && (!(decide (0<d.Seq)) || resOk d.Res)):=by
 have hr:resOk d.Res=true->d.Res.Code≠0:=fun h=>by have:=(yg.1 h).1; omega
 by_cases h:d.Seq=0
 · have e:d.Res.Tells.isEmpty=!decide (0<d.Res.Tells.length):=by cases d.Res.Tells<;>simp
   rw [<- e];simp [Done.ok,h,Rslt.none,inB];rfl
 · have hd:d.ok=(inB d.Seq 1 300 && resOk d.Res):=by unfold Done.ok; rw [if_neg h]
   have hb:(d.Seq == 0)=false:=by simpa using h
   rw [hd,hb];by_cases h2:0<d.Seq
   · have e:inB d.Seq 1 300=inB d.Seq 0 300:=x11.2 (by rw [xc,xc]; omega);rw [e,x2x h2]
     cases hres:resOk d.Res with
     | false=>simp
     | true=>have:=hr hres; simp [this]
   · have e1:inB d.Seq 1 300=false:=by cases e:inB d.Seq 1 300 with|false=>rfl|true=>have:=xc.1 e; omega
     have e2:inB d.Seq 0 300=false:=by cases e:inB d.Seq 0 300 with|false=>rfl|true=>have:=xc.1 e; omega
     rw [e1,e2]; simp
theorem wb (p:Plan) (l:List Done):Sem P 146 [(.pure,.agg (aPl p)),(.pure,.one (sDs l))] [] (B (doneOk p l)):=by
 refine fO Go.Proofs.Tryz.f146 fun hb=>?_;have la:(l.map eD).length=l.length:=xzi ..;have hb1:(l.map eD).length<=1125899906842624:=(hb.2.1).1;conv=>whnf
 repeat' first|((first|refine zz ?_|(refine xa ?_ ?_<;>intro _))<;>conv=>whnf)
 · exact rB (by simp_all [doneOk])
 · rename_i h;have hl:(l.length:Int)=p.Clients:=by simp at h; omega
   refine Vc.loop1 (fun (i:Nat)=>i<=l.length/\∀ j,j<i->Done.ok (l.getD j default)=true) (fun i=>updL [1] [(5,I i)] []) (fun i=>l.length - i) 0 ⟨by omega,fun j hj=>absurd hj (x0z j)⟩ ?_ (fun i hi=>?_)
   · exact wl
   · obtain ⟨hi,ho⟩:=hi;have hlm:(l.map eD).length=l.length:=xzi ..;conv=>whnf
     (refine zA ?_)
     refine xd (fun g=>?_) (fun g=>?_)
     all_goals conv=>whnf
     · repeat' first|((first|refine zz ?_|(refine xa ?_ ?_<;>intro _)|refine ixN (enc:=eD) default (by omega) ?_|refine ⟨_,xj _ _ _,?_⟩|refine ⟨_,j6 (l.getD i default).Res,?_⟩|refine wq ?_)<;>conv=>whnf)
       all_goals first
        | (refine ⟨i+1,⟨by omega,fun j hj=>?_⟩,by simp only; omega,?_⟩
           · by_cases h':j<i
             · exact ho j h'
             · obtain rfl:j=i:=by omega
               clear ho;simp_all [kq]
           · exact wl)
        | (have hp:Done.ok (l.getD i default)=false:=by (clear ho; simp_all [kq])
           have hn:l.all Done.ok=false:=z8 default (j:=i) (by omega) hp
           exact rB (by simp only [doneOk,hn,x2y]))
     · have hall:l.all Done.ok=true:=z7 default fun j hj=>ho j (by omega)
       repeat' first|((first|refine zz ?_|(refine xa ?_ ?_<;>intro _)|refine ⟨_,xj _ _ _,?_⟩|refine ⟨_,j6 (l.getD i default).Res,?_⟩|refine wq ?_)<;>conv=>whnf)
       exact rB (by simp only [doneOk,hall,hl,decide_true,x24])
theorem xjt (p:Plan) (l:List Int):Sem P 171 [(.pure,.agg (aPl p)),(.pure,AI l)] [] (B (seqsOk p l)):=by
 refine fO Go.Proofs.Tryz.f171 fun hb=>?_;have la:=xb l;have hb1:(ints l).length<=1125899906842624:=(hb.2.1).1;conv=>whnf
 repeat' first|((first|refine zz ?_|(refine xa ?_ ?_<;>intro _))<;>conv=>whnf)
 · exact rB (by simp_all [seqsOk])
 · rename_i h;have hl:(l.length:Int)=p.Clients:=by simp at h; omega
   refine Vc.loop1 (fun (i:Nat)=>i<=l.length/\∀ j,j<i->(fun n=>inB n 0 300) (l.getD j default)=true) (fun i=>updL [1] [(5,I i)] []) (fun i=>l.length - i) 0 ⟨by omega,fun j hj=>absurd hj (x0z j)⟩ ?_ (fun i hi=>?_)
   · exact wl
   · obtain ⟨hi,ho⟩:=hi;have hlm:(l.map rI).length=l.length:=xzi ..;conv=>whnf
     (refine zA ?_)
     refine xd (fun g=>?_) (fun g=>?_)
     all_goals conv=>whnf
     · repeat' first|((first|refine zz ?_|(refine xa ?_ ?_<;>intro _)|refine ixN (enc:=rI) default (by omega) ?_|refine ⟨_,xj _ _ _,?_⟩|refine wq ?_)<;>conv=>whnf)
       all_goals first
        | (refine ⟨i+1,⟨by omega,fun j hj=>?_⟩,by simp only; omega,?_⟩
           · by_cases h':j<i
             · exact ho j h'
             · obtain rfl:j=i:=by omega
               clear ho;simp_all
           · exact wl)
        | (have hp:(fun n=>inB n 0 300) (l.getD i default)=false:=by (clear ho; simp_all )
           have hn:l.all (fun n=>inB n 0 300)=false:=z8 default (j:=i) (by omega) hp
           exact rB (by simp only [seqsOk,hn,x2y]))
     · have hall:l.all (fun n=>inB n 0 300)=true:=z7 default fun j hj=>ho j (by omega)
       repeat' first|((first|refine zz ?_|(refine xa ?_ ?_<;>intro _)|refine ⟨_,xj _ _ _,?_⟩|refine wq ?_)<;>conv=>whnf)
       exact rB (by simp only [seqsOk,hall,hl,decide_true,x24])
theorem xue (x:Msg) (a b c d:Bool):Sem P 170 [(.pure,.agg (aM x)),(.pure,B a),(.pure,B b),(.pure,B c),(.pure,B d)] [] (B ((a || x.Call.none) && (b || x.Vals.isEmpty) && (c || x.Seqs.isEmpty) && (d || x.Done.isEmpty))):=by
 refine fO Go.Proofs.Tryz.f170 fun hb=>?_;conv=>whnf
 repeat' first|((first|refine zz ?_|(refine xa ?_ ?_<;>intro _))<;>conv=>whnf)
 all_goals exact rB (by simp_all [Call.none,j8])
theorem xdp (p:Plan) (x:Msg) (hc:inB p.Clients 0 4=true):Sem P 76 [(.pure,.agg (aPl p)),(.pure,.agg (aM x))] [] (B (msgB p x)):=by
 obtain ⟨k,to,from_,round,call,vals,seqs,done⟩:=x;have lg:=xb p.Gives;have hk:k=1\/k=2\/k=3\/k=4\/(k≠1/\k≠2/\k≠3/\k≠4):=by omega
 rcases hk with rfl|rfl|rfl|rfl|hk
 all_goals refine fO Go.Proofs.Tryz.f76 fun hb=>?_
 all_goals have hb1:(ints p.Gives).length<=1125899906842624:=(hb.1 (sI p.Gives) (by simp)).1
 all_goals conv=>whnf
 all_goals repeat' first|((first|refine zz ?_|(refine xa ?_ ?_<;>intro _)|refine ⟨_,xj _ _ _,?_⟩|refine ⟨_,y9 p call hc,?_⟩|refine ⟨_,xue _ _ _ _ _,?_⟩|refine ⟨_,x9 vals 3 _ (by omega),?_⟩|refine ⟨_,zg _,?_⟩|refine ⟨_,xjt p seqs,?_⟩|refine ⟨_,wb p done,?_⟩|refine wq ?_)<;>conv=>whnf)
 all_goals first
  | (refine rB ?_; simp_all [msgB,isSite,addedOk]; done)
  | (refine rB ?_; simp_all [msgB,isSite,addedOk,inB]; done)
  | (exfalso; simp_all; done)
theorem xof (p:Plan) (x:Client) (n:Int) (hc:inB p.Clients 0 4=true):Sem P 205 [(.pure,.agg (aPl p)),(.pure,.agg (aX x)),(.pure,I n)] [] (B (clientB p n x)):=by
 by_cases h:inB x.Seq 0 300=true
 · have hs:=xc.1 h;have ce:clientB p n x=((inB x.Seq 0 300 && ((x.Seq == 0) == (x.Res.Code == 0)) && (!(x.Seq == 0) || !decide (0<x.Res.Tells.length)) && (!(decide (0<x.Seq)) || resOk x.Res)) && if x.Busy then callB p x.Call && (x.Call.Client == n) && (x.Call.Seq == x.Seq+1) else ((x.Call.Client == 0) && (x.Call.Seq == 0) && (x.Call.Act == 0) && x.Call.Args.isEmpty)):=by
    unfold clientB; rw [kq]; rfl
   refine fO Go.Proofs.Tryz.f205 fun hb=>?_;conv=>whnf
   repeat' first|((first|refine zz ?_|(refine xa ?_ ?_<;>intro _)|refine ⟨_,xj _ _ _,?_⟩|refine ⟨_,j6 x.Res,?_⟩|refine ⟨_,y9 p x.Call hc,?_⟩|refine wq ?_)<;>conv=>whnf)
   all_goals refine rB ?_
   all_goals rw [ce]
   all_goals clear ce hb
   all_goals first
    | (simp_all [j8]; done)
    | (simp only [x2c] at *
       generalize (x.Res.Code == 0)=bc at *;generalize (x.Seq == 0)=bs at *
       cases bs<;>cases bc<;>first|(exfalso; simp_all; done)|(simp_all [j8]; done))
 · have hf:inB x.Seq 0 300=false:=by simpa using h
   have ce0:clientB p n x=false:=by unfold clientB; rw [kq]; simp only; rw [hf]; rfl
   refine fO Go.Proofs.Tryz.f205 fun hb=>?_;conv=>whnf
   repeat' first|((first|refine zz ?_|(refine xa ?_ ?_<;>intro _)|refine ⟨_,xj _ _ _,?_⟩)<;>conv=>whnf)
   all_goals first
    | exact rB ce0.symm
    | (exfalso; simp_all; done)
end Cc
end
