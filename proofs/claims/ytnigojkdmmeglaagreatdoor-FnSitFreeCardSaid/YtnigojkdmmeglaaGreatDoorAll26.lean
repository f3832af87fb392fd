/- The laws FnMsgOk, FnSitFree: part 26 of 41. No conditions beyond the statement. -/
import Derived.Test.YtnigojkdmmeglaaGreatDoorAll21
set_option linter.unusedVariables false
set_option linter.unusedSimpArgs false
set_option maxRecDepth 100000
set_option maxHeartbeats 16000000
section
namespace Cc
open Go Go.AM
abbrev tFc (b:Clerk × List (Call × Rslt)):TV:=.tup [(true,eK b.1),(false,[fCs (b.2.map Prod.fst)]),(false,[fRs (b.2.map Prod.snd)])]
theorem coldFold {f:Nat} {ins:List (Go.AM.Mode × TV)} {cs:List AV} {c:Clerk} {l:List (Call × Rslt)} (hl:cs.length=(eK c).length) (hk:∀ (k:Nat) (a b:AV),cs[k]?=some a->(eK c)[k]?=some b->Cold a b)
 (h:Sem P f ins [] (.tup [(true,cs),(false,[sCs (l.map Prod.fst)]),(false,[sRs (l.map Prod.snd)])])):Sem P f ins [] (tFc (c,l)):=by
 refine Sem.coldT (vs:=[(true,cs),(false,[sCs (l.map Prod.fst)]),(false,[sRs (l.map Prod.snd)])]) rfl (fun k a cs b cs' h1 h2=>?_) h
 match k,h1,h2 with
 | 0,h1,h2=>cases h1; cases h2; exact ⟨rfl,hl,hk⟩
 | 1,h1,h2=>cases h1; cases h2; exact ⟨rfl,vp _ _⟩
 | 2,h1,h2=>cases h1; cases h2; exact ⟨rfl,vp _ _⟩
 | k+3,h1,h2=>simp at h1
abbrev hK (c:Clerk):List AV:=[eB c.Up,eI c.Round,sI c.Base,sDs c.Done,sCs c.Wants,fGs c.Got]
theorem xxy (c:Clerk):∀ (k:Nat) (a b:AV),(hK c)[k]?=some a->(eK c)[k]?=some b->Cold a b:=fun k a b ha hb=>by
 match k,ha,hb with
 | 0,ha,hb=>cases ha; cases hb; exact xl
 | 1,ha,hb=>cases ha; cases hb; exact xl
 | 2,ha,hb=>cases ha; cases hb; exact xg
 | 3,ha,hb=>cases ha; cases hb; exact xg
 | 4,ha,hb=>cases ha; cases hb; exact xg
 | 5,ha,hb=>cases ha; cases hb; exact x1
 | k+6,ha,hb=>simp at ha
theorem xrx {p:Plan} {c:Clerk} (hc:ClerkF p c) (hr:readyB c=true) {j:Nat} (hj:j<c.Got.length):seqsOk p (c.Got.getD j Got.nil).Seqs=true:=by
 have hh:(c.Got.getD j default).Has=true:=xzl.1 hr _ (xp hj);exact (xcv hc hj hh).2
theorem xxz (l:List (Call × Rslt)) (x:Call) (r:Rslt):(l.map Prod.fst).map eC++[eC x]=((l++[(x,r)]).map Prod.fst).map eC:=by simp
theorem xx0 (l:List (Call × Rslt)) (x:Call) (r:Rslt):(l.map Prod.snd).map eR++[eR r]=((l++[(x,r)]).map Prod.snd).map eR:=by simp
theorem xry (p:Plan) (c:Clerk) (hp:planOk p=true) (hc:ClerkF p c):Sem P 53 [(.pure,.agg (aPl p)),(.pure,.agg (aK c))] [] (tFc (clerkFold p c)):=by
 have hcl:=xi hp;have hF:=planF hp;have g1:=hF.g1;have g3:=yk hp;have hz:=q9 hc hcl g3;have hcp:=zo c (by omega);have lg:=xb p.Gives;have lgo:(c.Got.map eG).length=c.Got.length:=xzi ..;have lw:(c.Wants.map eC).length=c.Wants.length:=xzi ..;have lpa:(p.Acts.map eA).length=p.Acts.length:=xzi ..;have hgl:=hc.gl;have hw4:=xaa hc hcl;have hbl:=(xe.1 hc.b).1;have lb:=xb c.Base;have hH:=xe5 c;have hrd:=hc.r;have hV:=zg (given c);have hri:=xul hgl;have hN:=xe2 p (by omega);rw [<- hgl] at hN
 cases hcnd:(!readyB c || decide (c.Round=200) || !valOk (given c)) with
 | true =>
   rw [xum hcnd];refine coldFold (cs:=aKo c) rfl (xap c) ?_;refine yp (E:={ E0 with keep:=[2001,10007,19009],fz:=[(20,[1216577])] }) xm xn (fn:=Go.Proofs.Tryz.f53) (by kernel_rfl) (by kernel_rfl) (fun hb=>?_);conv=>whnf
   repeat' first|((first|refine zz ?_|(refine xa ?_ ?_<;>intro _)|refine ⟨_,hcp,?_⟩|refine apI ?_)<;>conv=>whnf)|(refine apN (by simp only [xz4]; omega) ?_;conv=>whnf)
   refine Vc.loop1 (fun (i:Nat)=>i<=c.Got.length) (fun i=>updL [2,3,4,5,6,7,8,9,12,13,14,15,16,46,47,48,49,50,51,52,53,54,55,56,57,58,59,60,61,62,63,64,65,66,67,68,69,70,71,72,73,74,75,76,77,78,79,80,81,82,83,84,85,86,87,88,89,90,91,92,93,94,95,96,97,98,99,100,101,102,103,104,105,106,107,108,109,110,111,112,113,114,115,116,117,118,119,120,121,122,123,124,125,126,127,128,129,130,131,132,133,134,135,136,137,138,139,140,141,142,143,144] [(11,I i),(10,.one (.ref 320192))] [(320192,.arr 3 (ints (gvAt c i)) false)]) (fun i=>c.Got.length - i) 0 (xz1 _) ?_ (fun i hi=>?_)
   · exact wk
   · obtain ⟨bl,bb⟩:=xpx hc i hi;conv=>whnf
     (refine zA ?_)
     refine xd (fun g=>?_) (fun g=>?_)
     all_goals conv=>whnf
     · have hig:i<c.Got.length:=by omega
       have es:=xe8 (c:=c) hig
       cases hh:(c.Got.getD i default).Has with
       | true =>
         have ha:=xu (xcv hc hig hh).1;rw [hh,if_pos rfl] at es;have hS:=kf (gvAt c i) (c.Got.getD i default).Added bl ha.1 (fun x hx=>by have:=bb x hx; omega) (fun x hx=>by have:=ha.2 x hx; omega);rw [<- es] at hS
         repeat' first|((first|refine zz ?_|(refine xa ?_ ?_<;>intro _)|refine ixN (enc:=eG) default hig ?_|refine ⟨_,hS,?_⟩|refine akP (x7 _) ?_|refine wq ?_)<;>conv=>whnf)
         all_goals first
          | (exfalso; clear hb hV hH hN hcp hS; simp_all; done)
          | (refine ⟨i+1,by omega,by simp only; omega,?_⟩
             exact wk
             done)
       | false =>
         rw [hh,if_neg (by decide)] at es
         repeat' first|((first|refine zz ?_|(refine xa ?_ ?_<;>intro _)|refine ixN (enc:=eG) default hig ?_|refine wq ?_)<;>conv=>whnf)
         all_goals first
          | (exfalso; clear hb hV hH hN hcp; simp_all; done)
          | (refine ⟨i+1,by omega,by simp only; omega,?_⟩
             repeat' (first|exact True.intro|((conv=>whnf);first|exact True.intro|refine ⟨by rfl,?_⟩|refine ⟨by first|omega|(show (_:Int)=_;first|omega|(dsimp only;omega))|exact congrArg ints es.symm,?_⟩|refine ⟨?_,?_⟩))
             done)
     · have e:=xmn (c:=c) (i:=i) (by omega);rw [e]
       cases hv:valOk (given c) with
       | true =>
         rw [hv] at hV
         repeat' first|((first|refine zz ?_|(refine xa ?_ ?_<;>intro _)|refine ⟨_,hH,?_⟩|refine ⟨_,hV,?_⟩)<;>conv=>whnf)
         all_goals first
          | exact ⟨rfl,rfl⟩
          | (exfalso; clear hb hV hH hN hcp; rw [hri,hv] at hcnd; simp only [x04,x05,xzk,xzw,x3t,Bool.not_not,x26,x1d,x00,ne_eq,lg] at *; omega)
       | false =>
         rw [hv] at hV
         repeat' first|((first|refine zz ?_|(refine xa ?_ ?_<;>intro _)|refine ⟨_,hH,?_⟩|refine ⟨_,hV,?_⟩)<;>conv=>whnf)
         all_goals first
          | exact ⟨rfl,rfl⟩
 | false =>
   rw [xrp hcnd];rw [hri] at hcnd;simp only [x3j,Bool.not_eq_false',Bool.not_not,xzw] at hcnd;obtain ⟨⟨h1,h2⟩,hv⟩:=hcnd;have hready:readyB c=true:=by rw [hri,x3i h1]; rfl
   rw [hv] at hV;refine coldFold (cs:=hK _) rfl (xxy _) ?_;refine yp (E:={ E0 with keep:=[2001,10007,19009],fz:=[(20,[1216577])] }) xm xn (fn:=Go.Proofs.Tryz.f53) (by kernel_rfl) (by kernel_rfl) (fun hb=>?_);conv=>whnf
   repeat' first|((first|refine zz ?_|(refine xa ?_ ?_<;>intro _)|refine ⟨_,hcp,?_⟩|refine apI ?_)<;>conv=>whnf)|(refine apN (by simp only [xz4]; omega) ?_;conv=>whnf)
   refine Vc.loop1 (fun (i:Nat)=>i<=c.Got.length) (fun i=>updL [2,3,4,5,6,7,8,9,12,13,14,15,16,46,47,48,49,50,51,52,53,54,55,56,57,58,59,60,61,62,63,64,65,66,67,68,69,70,71,72,73,74,75,76,77,78,79,80,81,82,83,84,85,86,87,88,89,90,91,92,93,94,95,96,97,98,99,100,101,102,103,104,105,106,107,108,109,110,111,112,113,114,115,116,117,118,119,120,121,122,123,124,125,126,127,128,129,130,131,132,133,134,135,136,137,138,139,140,141,142,143,144] [(11,I i),(10,.one (.ref 320192))] [(320192,.arr 3 (ints (gvAt c i)) false)]) (fun i=>c.Got.length - i) 0 (xz1 _) ?_ (fun i hi=>?_)
   · exact wk
   · obtain ⟨bl,bb⟩:=xpx hc i hi;conv=>whnf
     (refine zA ?_)
     refine xd (fun g=>?_) (fun g=>?_)
     all_goals conv=>whnf
     · have hig:i<c.Got.length:=by omega
       have es:=xe8 (c:=c) hig
       cases hh:(c.Got.getD i default).Has with
       | true =>
         have ha:=xu (xcv hc hig hh).1;rw [hh,if_pos rfl] at es;have hS:=kf (gvAt c i) (c.Got.getD i default).Added bl ha.1 (fun x hx=>by have:=bb x hx; omega) (fun x hx=>by have:=ha.2 x hx; omega);rw [<- es] at hS
         repeat' first|((first|refine zz ?_|(refine xa ?_ ?_<;>intro _)|refine ixN (enc:=eG) default hig ?_|refine ⟨_,hS,?_⟩|refine akP (x7 _) ?_|refine wq ?_)<;>conv=>whnf)
         all_goals first
          | (exfalso; clear hb hV hH hN hcp hS; simp_all; done)
          | (refine ⟨i+1,by omega,by simp only; omega,?_⟩
             exact wk
             done)
       | false =>
         rw [hh,if_neg (by decide)] at es
         repeat' first|((first|refine zz ?_|(refine xa ?_ ?_<;>intro _)|refine ixN (enc:=eG) default hig ?_|refine wq ?_)<;>conv=>whnf)
         all_goals first
          | (exfalso; clear hb hV hH hN hcp; simp_all; done)
          | (refine ⟨i+1,by omega,by simp only; omega,?_⟩
             repeat' (first|exact True.intro|((conv=>whnf);first|exact True.intro|refine ⟨by rfl,?_⟩|refine ⟨by first|omega|(show (_:Int)=_;first|omega|(dsimp only;omega))|exact congrArg ints es.symm,?_⟩|refine ⟨?_,?_⟩))
             done)
     · have e:=xmn (c:=c) (i:=i) (by omega);rw [e];clear bl bb
       repeat' first|((first|refine zz ?_|(refine xa ?_ ?_<;>intro _)|refine ⟨_,hH,?_⟩|refine ⟨_,hV,?_⟩)<;>conv=>whnf)
       all_goals first
        | (exfalso; clear hb hV hH hN hcp; simp only [x04,x05,xzk,xzw,x1d,x00,ne_eq,lg] at *; first|omega|contradiction|done)
        | skip
       refine Vc.loop6 (fun (i:Nat) (v:List Int) (dn:List Done) (ls:List (Call × Rslt)) (_:Unit) (_:Unit)=>FAt p c i v dn ls) (fun i v dn ls _ _=>updL [2,3,4,5,6,7,131,132,133,134,135,136,137,138,139,140,141,142,143,144] [(12,I i),(8,.one (.ref 192000)),(9,.one (.ref 256000)),(10,.one (.ref 320192))] [(320192,.arr 3 (ints v) false),(128067,.arr 79 (dn.map eD) false),(192000,.arr 50 ((ls.map Prod.fst).map eC) false),(256000,.arr 45 ((ls.map Prod.snd).map eR) false)]) (fun i _ _ _ _ _=>c.Wants.length - i) 0 (given c) c.Done [] () () (FAt.zero hc hv) ?_ (fun i v dn ls _ _ ha=>?_)
       · exact wk
       · have lf:((ls.map Prod.fst).map eC).length=ls.length:=by simp
         have lr:((ls.map Prod.snd).map eR).length=ls.length:=by simp
         have hll:=ha.hl;have hii:=ha.hi;have hdl:=(yl hcl ha.hd).1;have hdc:(dn.length:Int)=p.Clients:=by have:=ha.hd; unfold doneOk at this; simp only [xzj,xzk] at this; exact this.1
         have ldn:(dn.map eD).length=dn.length:=xzi ..;conv=>whnf
         (refine zA ?_)
         refine xd (fun g=>?_) (fun g=>?_)
         all_goals conv=>whnf
         · have hil:i<c.Wants.length:=by omega
           have hx:=hc.w _ (xp hil);obtain ⟨c1,c2,c3,c4⟩:=xy.1 hx;have ha6:=ha.run hF hc hil;have hA:Sem P 130 [(.pure,.one (sLs (p.Acts.getD (c.Wants.getD i default).Act.toNat []))),(.pure,AI v),(.pure,AI (c.Wants.getD i default).Args)] [] (.tup [(true,aR (runQ p v (c.Wants.getD i default)).1),(false,[sI (runQ p v (c.Wants.getD i default)).2])]):=xnv _ _ _;have hcc:=x3 (c.Wants.getD i default) (by rw [(xe.1 c4).1]; decide);have hm0:0<=(c.Wants.getD i default).Client % (ints p.Gives).length:=x12 _ (by omega);have hm1:(c.Wants.getD i default).Client % (ints p.Gives).length<(ints p.Gives).length:=x1q _ (by omega);have hsq:=xrx hc hready (j:=((c.Wants.getD i default).Client % (ints p.Gives).length).toNat) (by omega);unfold seqsOk at hsq;simp only [xzj,xzk,xzl] at hsq;have lsq:=xb (c.Got.getD ((c.Wants.getD i default).Client % (ints p.Gives).length).toNat Got.nil).Seqs;have hsb:=xc.1 (hsq.2 ((c.Got.getD ((c.Wants.getD i default).Client % (ints p.Gives).length).toNat Got.nil).Seqs.getD (c.Wants.getD i default).Client.toNat 0) (jp (by omega)));by_cases hq:(c.Wants.getD i default).Seq=nextQ p c.Got (c.Wants.getD i default)
           · have hy:=ha.yes hF hc hil hq;unfold nextQ at hq;rw [<- lg] at hq;generalize runQ p v (c.Wants.getD i default)=y at *;obtain ⟨r,v'⟩:=y;have hcr:=yh r (by simp only at ha6; omega);have q1:(dn.map eD).set (c.Wants.getD i default).Client.toNat [eI (c.Wants.getD i default).Seq,eI r.Code,fI r.Tells]=(dn.set (c.Wants.getD i default).Client.toNat ⟨(c.Wants.getD i default).Seq,r⟩).map eD:=vq dn _ ⟨_,r⟩;have q2:=xxz ls (c.Wants.getD i default) r;have q3:=xx0 ls (c.Wants.getD i default) r
             repeat' first|((first|refine zz ?_|(refine xa ?_ ?_<;>intro _)|refine ixN (enc:=eC) default hil ?_)<;>conv=>whnf)|(refine ioN (by first|omega|(dsimp only; omega)|(simp<;>omega)|(simp_all<;>omega)) (by first|omega|(dsimp only; omega)|(simp<;>omega)|(simp_all<;>omega)) ?_;conv=>whnf)|((first|refine r64 (by omega) (by omega) ?_|refine ixI (enc:=eG) Got.nil hm0 (by omega) ?_|refine ixI (enc:=rI) 0 (by omega) (by omega) ?_|refine ixI (enc:=eA) [] (by omega) (by omega) ?_|refine rwN (enc:=eD) Done.nil (by omega) ?_|refine wq ?_|refine ⟨_,hA,?_⟩|refine ⟨_,hcr,?_⟩|refine ⟨_,hcc,?_⟩|refine akP (x7 _) ?_)<;>conv=>whnf)|(refine apN (by rw [lf]; show _+1<=_; omega) ?_;conv=>whnf)|(refine apN (by rw [lr]; show _+1<=_; omega) ?_;conv=>whnf)
             all_goals first
              | (exfalso; clear hb hV hH hN hcp hA hy hcr hcc; simp_all; done)
              | (refine ⟨i+1,_,_,_,(),(),hy,by simp only; omega,?_⟩
                 repeat' (first|exact True.intro|((conv=>whnf);first|exact True.intro|refine ⟨by rfl,?_⟩|refine ⟨by first|omega|(show (_:Int)=_;first|omega|(dsimp only;omega))|exact q1|exact q2|exact q3,?_⟩|refine ⟨?_,?_⟩))
                 done)
           · have hy:=ha.no hil hq;unfold nextQ at hq;rw [<- lg] at hq
             repeat' first|((first|refine zz ?_|(refine xa ?_ ?_<;>intro _)|refine ixN (enc:=eC) default hil ?_)<;>conv=>whnf)|(refine ioN (by first|omega|(dsimp only; omega)|(simp<;>omega)|(simp_all<;>omega)) (by first|omega|(dsimp only; omega)|(simp<;>omega)|(simp_all<;>omega)) ?_;conv=>whnf)|((first|refine r64 (by omega) (by omega) ?_|refine ixI (enc:=eG) Got.nil hm0 (by omega) ?_|refine ixI (enc:=rI) 0 (by omega) (by omega) ?_|refine wq ?_)<;>conv=>whnf)
             all_goals first
              | (exfalso; clear hb hV hH hN hcp hA hy hcc; simp_all; done)
              | (refine ⟨i+1,v,dn,ls,(),(),hy,by simp only; omega,?_⟩
                 exact wk
                 done)
         · obtain ⟨f1,f2,f3⟩:=ha.fin (by omega);rw [f1,f2,f3]
           repeat' first|((first|refine zz ?_|(refine xa ?_ ?_<;>intro _)|refine ⟨_,hN,?_⟩|refine wq ?_)<;>conv=>whnf)
           all_goals first
            | exact ⟨rfl,rfl⟩
end Cc
end
