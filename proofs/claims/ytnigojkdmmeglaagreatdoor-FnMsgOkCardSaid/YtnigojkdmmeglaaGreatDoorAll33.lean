/- The laws FnMsgOk, FnSitFree: part 33 of 41. No conditions beyond the statement. -/
import Derived.Test.YtnigojkdmmeglaaGreatDoorAll29
import Derived.Test.YtnigojkdmmeglaaGreatDoorAll30
set_option linter.unusedVariables false
set_option linter.unusedSimpArgs false
set_option maxRecDepth 100000
set_option maxHeartbeats 16000000
section
namespace Cc
open Go Go.AM
theorem xu0 (p:Plan) (s:Site) (n:Int) (m:Msg) (hp:planOk p=true) (hn:0<=n) (hs:siteB p s n=true) (hm:msgB p m=true) :
 ∃ rows,Rowz rows ((siteHear p s n m).2.map eM)/\Sem P 80 [(.io 0 0,.agg (aS s)),(.pure,.agg (aPl p)),(.pure,I n),(.pure,.agg (aM m))] [.agg (aS (siteHear p s n m).1)] (.one (.sl 55 rows)):=by
 have hcl:=xi hp;obtain ⟨hr,hb',ha,hd⟩:=siteE hs;have g1:=(planF hp).g1;have lg:=xb p.Gives;have hdl:=(yl hcl hd).1;have ha3:=(xu ha).1;have lds:(s.Done.map eD).length=s.Done.length:=xzi ..;by_cases h1:(!s.Up || decide (m.To≠n))=true
 · have e:siteHear p s n m=(s,[]):=by unfold siteHear; rw [if_pos h1]
   rw [e];refine ⟨[],.nil,?_⟩;refine fO Go.Proofs.Tryz.f80 fun hb=>?_;conv=>whnf
   repeat' first|((first|refine zz ?_|(refine xa ?_ ?_<;>intro _))<;>conv=>whnf)
   all_goals first
    | exact ⟨rfl,rfl⟩
    | (exfalso; clear hb hs hm hd; simp_all; done)
 · by_cases h2:m.Kind=2/\m.Round=s.Round
   · have e:siteHear p s n m=({ s with Frozen:=true },[giveMsg { s with Frozen:=true } n]):=by unfold siteHear; rw [if_neg h1,if_pos h2]; rfl
     rw [e];refine ⟨[[eI 3,eI (-1),eI n,eI s.Round,eI 0,eI 0,eI 0,.fr [] 3 [],sI s.Added,sI (s.Done.map Done.Seq),.fr [] 79 []]],.cons rfl (fun k a b ha hb=>?_) .nil,?_⟩
     · match k,ha,hb with
       | 0,ha,hb=>cases ha; cases hb; exact Imp.rfl
       | 1,ha,hb=>cases ha; cases hb; exact Imp.rfl
       | 2,ha,hb=>cases ha; cases hb; exact Imp.rfl
       | 3,ha,hb=>cases ha; cases hb; exact Imp.rfl
       | 4,ha,hb=>cases ha; cases hb; exact Imp.rfl
       | 5,ha,hb=>cases ha; cases hb; exact Imp.rfl
       | 6,ha,hb=>cases ha; cases hb; exact Imp.rfl
       | 7,ha,hb=>cases ha; cases hb; exact Imp.rfl
       | 8,ha,hb=>cases ha; cases hb; exact qo Imp.rfl
       | 9,ha,hb=>cases ha; cases hb; exact qo Imp.rfl
       | 10,ha,hb=>cases ha; cases hb; exact Imp.rfl
       | k+11,ha,hb=>simp at ha
     · refine fK [5009,5014] Go.Proofs.Tryz.f80 fun hb=>?_;conv=>whnf
       repeat' first|((first|refine zz ?_|(refine xa ?_ ?_<;>intro _)|refine ⟨_,yj s.Added (by omega),?_⟩|refine ⟨_,xuz s.Done (by omega),?_⟩|refine akP (x7 _) ?_)<;>conv=>whnf)
       all_goals first
        | exact ⟨rfl,rfl⟩
        | (exfalso; clear hb hs hm hd e; simp_all; done)
   · by_cases h3:m.Kind=4/\s.Round<m.Round
     · have e:siteHear p s n m=({ s with Round:=m.Round,Frozen:=false,Base:=m.Vals,Added:=[0,0,0],Done:=learn p n s.Done m.Done },[]):=by unfold siteHear; rw [if_neg h1,if_neg h2,if_pos h3]
       rw [e,<- xp1];have hmd:doneOk p m.Done=true/\valOk m.Vals=true:=by
        unfold msgB at hm;rw [if_neg (by omega),if_neg (by omega),if_neg (by omega),if_pos h3.1] at hm;simp only [xzj] at hm;exact ⟨hm.2.1.1.2,hm.2.1.1.1.2⟩
       have hmv:=(xe.1 hmd.2).1;have lmv:=xb m.Vals;have lmd:(m.Done.map eD).length=m.Done.length:=xzi ..;have hc1:(s.Done.length:Int)=p.Clients:=by unfold doneOk at hd; simp only [xzj,xzk] at hd; exact hd.1
       have hc2:(m.Done.length:Int)=p.Clients:=by have:=hmd.1; unfold doneOk at this; simp only [xzj,xzk] at this; exact this.1
       have hmt:∀ i,i<m.Done.length->(m.Done.getD i Done.nil).Res.Tells.length<=6:=fun i hi=>by
        have:=hmd.1; unfold doneOk at this; simp only [xzj,xzl] at this;exact kr (this.2 _ (xp hi))
       refine ⟨[],.nil,?_⟩;refine fK [7008] Go.Proofs.Tryz.f80 fun hb=>?_;conv=>whnf
       repeat' first|((first|refine zz ?_|(refine xa ?_ ?_<;>intro _)|refine ⟨_,yj m.Vals (by omega),?_⟩)<;>conv=>whnf)
       all_goals first
        | (exfalso; clear hb hs hm hd e hmt hmd; simp_all; done)
        | (exfalso; clear hb hs hm hd e hmt hmd; simp_all; omega)
        | skip
       refine Vc.loop1 (fun (i:Nat)=>i<=s.Done.length) (fun i=>updL [0,2,5,8,88,89] [(90,I i)] [(5,.arr 79 ((lrn p n s.Done m.Done i).map eD) false)]) (fun i=>s.Done.length - i) 0 (xz1 _) ?_ (fun i hi=>?_)
       · exact wk
       · have ll:=vr p n s.Done m.Done i;have llm:((lrn p n s.Done m.Done i).map eD).length=s.Done.length:=by rw [xzi,ll]
         have hx:(lrn p n s.Done m.Done i).getD i Done.nil=s.Done.getD i Done.nil:=by rw [xfl p n _ _ i hi,if_neg (by omega)]
         have hu:lrn p n s.Done m.Done (i+1)=if (s.Done.getD i Done.nil).Seq<(m.Done.getD i Done.nil).Seq/\(i:Int) % p.Gives.length=n then (lrn p n s.Done m.Done i).set i (m.Done.getD i Done.nil) else lrn p n s.Done m.Done i:=rfl
         conv=>whnf
         (refine zA ?_)
         refine xd (fun g=>?_) (fun g=>?_)
         all_goals conv=>whnf
         · have him:i<m.Done.length:=by omega
           have h6:=hmt i him;by_cases hc:(s.Done.getD i Done.nil).Seq<(m.Done.getD i Done.nil).Seq/\(i:Int) % p.Gives.length=n
           · rw [if_pos hc] at hu
             repeat' first|((first|refine zz ?_|(refine xa ?_ ?_<;>intro _)|refine ixN (enc:=eD) Done.nil him ?_|refine ioN (by omega) (by omega) ?_)<;>conv=>whnf)|(refine rwN (enc:=eD) Done.nil (by simp only [xz9]; omega) ?_;conv=>whnf)|((first|refine r64 (by omega) (by omega) ?_|refine wq ?_|refine ⟨_,qp (m.Done.getD i Done.nil).Res (by omega),?_⟩)<;>conv=>whnf)
             all_goals first
              | (exfalso; clear hb hs hm hd e hmt hmd hu; simp only [xz9,hx,lg,xzk,xzw,x1d,x00,ne_eq,x2c] at *; omega)
              | (refine ⟨i+1,by omega,by simp only; omega,?_⟩
                 repeat' (first|exact True.intro|((conv=>whnf);first|exact True.intro|refine ⟨by rfl,?_⟩|refine ⟨by first|omega|(show (_:Int)=_;first|omega|(dsimp only;omega))|exact (by rw [hu,<- vq]; rfl),?_⟩|refine ⟨?_,?_⟩)))
           · rw [if_neg hc] at hu
             repeat' first|((first|refine zz ?_|(refine xa ?_ ?_<;>intro _)|refine ixN (enc:=eD) Done.nil him ?_|refine ioN (by omega) (by omega) ?_)<;>conv=>whnf)|(refine rwN (enc:=eD) Done.nil (by simp only [xz9]; omega) ?_;conv=>whnf)|((first|refine r64 (by omega) (by omega) ?_|refine wq ?_|refine ⟨_,qp (m.Done.getD i Done.nil).Res (by omega),?_⟩)<;>conv=>whnf)
             all_goals first
              | (exfalso; clear hb hs hm hd e hmt hmd hu; simp only [xz9,hx,lg,xzk,xzw,x1d,x00,ne_eq,x2c] at *; omega)
              | (refine ⟨i+1,by omega,by simp only; omega,?_⟩
                 repeat' (first|exact True.intro|((conv=>whnf);first|exact True.intro|refine ⟨by rfl,?_⟩|refine ⟨by first|omega|(show (_:Int)=_;first|omega|(dsimp only;omega))|exact congrArg (List.map eD) hu.symm,?_⟩|refine ⟨?_,?_⟩)))
         · have ei:i=s.Done.length:=by omega
           subst ei
           (refine zA ?_)
           exact ⟨rfl,rfl⟩
     · have e:siteHear p s n m=(s,[]):=by unfold siteHear; rw [if_neg h1,if_neg h2,if_neg h3]
       rw [e];refine ⟨[],.nil,?_⟩;refine fO Go.Proofs.Tryz.f80 fun hb=>?_;conv=>whnf
       repeat' first|((first|refine zz ?_|(refine xa ?_ ?_<;>intro _))<;>conv=>whnf)
       all_goals first
        | exact ⟨rfl,rfl⟩
        | (exfalso; exact h3 ⟨by simpa using ‹(m.Kind == 4)=true›,by simpa using ‹decide (m.Round>s.Round)=true›⟩)
        | (exfalso; clear hb hs hm hd e; simp_all; done)
theorem coldHearR {f:Nat} {ins:List (Go.AM.Mode × TV)} {b:Site × List Msg} {rows:List (List AV)} (hr:Rowz rows (b.2.map eM)) (h:Sem P f ins [] (.tup [(true,aS b.1),(false,[.sl 55 rows])])):Sem P f ins [] (tHc b):=by
 refine Sem.coldT (vs:=[(true,aS b.1),(false,[.sl 55 rows])]) rfl (fun k a cs c cs' h1 h2=>?_) h
 match k,h1,h2 with
 | 0,h1,h2=>cases h1; cases h2; exact ⟨rfl,jz _⟩
 | 1,h1,h2 =>
   cases h1; cases h2;refine ⟨rfl,rfl,fun j x y h1 h2=>?_⟩
   match j,h1,h2 with
   | 0,h1,h2=>cases h1; cases h2; exact xbw hr
   | j+1,h1,h2=>simp at h1
 | k+2,h1,h2=>simp at h1
theorem xmx (p:Plan) (s:Site) (n:Int) (m:Msg):Sem P 27 [(.pure,.agg (aPl p)),(.pure,.agg (aS s)),(.pure,I n),(.pure,.agg (aM m))] [] (tHc (sitHear p s n m)):=by
 have h1:=xdv p s n;have h2:=wd p m;unfold sitHear
 cases hs:siteOk p s n with
 | false =>
   rw [hs] at h1;refine coldHear ?_;refine fO Go.Proofs.Tryz.f27 fun hb=>?_;conv=>whnf
   repeat' first|((first|refine zz ?_|(refine xa ?_ ?_<;>intro _)|refine ⟨_,h1,?_⟩)<;>conv=>whnf)
   exact ⟨rfl,rfl⟩
 | true =>
   rw [hs] at h1
   cases hm:msgOk p m with
   | false =>
     rw [hm] at h2;refine coldHear ?_;refine fO Go.Proofs.Tryz.f27 fun hb=>?_;conv=>whnf
     repeat' first|((first|refine zz ?_|(refine xa ?_ ?_<;>intro _)|refine ⟨_,h1,?_⟩|refine ⟨_,h2,?_⟩)<;>conv=>whnf)
     exact ⟨rfl,rfl⟩
   | true =>
     rw [hm] at h2;unfold siteOk at hs;unfold msgOk at hm;simp only [xzj] at hs hm;obtain ⟨⟨hp,hi⟩,hs⟩:=hs;have hn:0<=n:=by simp only [isSite,xc] at hi; exact hi.1
     have hz:=kt (xi hp) hs;obtain ⟨rows,hr,hH⟩:=xu0 p s n m hp hn hs hm.2;refine coldHearR (rows:=rows) hr ?_;refine fK [4001,5003] Go.Proofs.Tryz.f27 fun hb=>?_;conv=>whnf
     repeat' first|((first|refine zz ?_|(refine xa ?_ ?_<;>intro _)|refine ⟨_,h1,?_⟩|refine ⟨_,h2,?_⟩|refine ⟨_,xb0 s (by omega),?_⟩|refine ⟨_,_,hH,?_⟩)<;>conv=>whnf)
     exact ⟨rfl,rfl⟩
theorem xou (c:Clerk) (hg:c.Got.length<=1000) (hb':c.Base.length<=100000) (hd:zDs c.Done<=100000):Sem P 174 [(.io 0 0,.agg (eK c))] [.agg (eK c)] (.one (sMs (pacts c))):=by
 have lg:(c.Got.map eG).length=c.Got.length:=xzi ..;refine fO Go.Proofs.Tryz.f174 fun hb=>?_;conv=>whnf
 (refine zA ?_)
 refine Vc.loop1 (fun (i:Nat)=>i<=c.Got.length) (fun i=>updL [0,2,9,33] [(10,I i),(3,.one (.ref 128000))] [(128000,.arr 55 (((List.range i).map fun (k:Nat)=>pactM c k).map eM) false)]) (fun i=>c.Got.length - i) 0 (xz1 _) ?_ (fun i hi=>?_)
 · exact wk
 · have hlo:(((List.range i).map fun (k:Nat)=>pactM c k).map eM).length=i:=by simp
   conv=>whnf
   (refine zA ?_)
   refine xd (fun g=>?_) (fun g=>?_)
   all_goals conv=>whnf
   · repeat' first|((first|refine zz ?_|(refine xa ?_ ?_<;>intro _)|refine ⟨_,yj c.Base (by omega),?_⟩|refine ⟨_,xic c.Done (by omega),?_⟩)<;>conv=>whnf)|(refine apN (by rw [hlo]; show i+1<=_; omega) ?_;conv=>whnf)|((first|refine wq ?_)<;>conv=>whnf)
     refine ⟨i+1,by omega,by simp only; omega,?_⟩
     repeat' (first|exact True.intro|((conv=>whnf);first|exact True.intro|refine ⟨by rfl,?_⟩|refine ⟨by first|omega|(show (_:Int)=_;first|omega|(dsimp only;omega))|exact xjy (fun k=>pactM c k) i,?_⟩|refine ⟨?_,?_⟩))
   · have ei:i=c.Got.length:=by omega
     subst ei
     (refine zA ?_)
     exact ⟨rfl,rfl⟩
theorem xyz (g:Got):Sem P 175 [(.pure,.agg (aG g))] [] (B g.Has):=by
 refine fO Go.Proofs.Tryz.f175 fun hb=>?_;conv=>whnf
 repeat' first|((first|refine zz ?_|(refine xa ?_ ?_<;>intro _))<;>conv=>whnf)
 exact ⟨rfl,rfl⟩
theorem xov  (l:List Got):Sem P 222 [(.pure,.one (sGs l)),(.pure,.one (.fn 175 []))] [] (I (idxOf (fun (x:Got)=>x.Has) l)):=by
 refine fO Go.Proofs.Tryz.f222 fun hb=>?_;have la:(l.map eG).length=l.length:=xzi ..;have hb1:(l.map eG).length<=1125899906842624:=hb.1.1;conv=>whnf
 (refine zA ?_)
 refine Vc.loop { i:Nat // ∀ j,j<i->j<l.length->(fun (x:Got)=>x.Has) (l.getD j default)=false } (fun i=>updL [0,1,7] [(8,I i.1)] []) (fun i=>l.length - i.1) ⟨0,by simp⟩ ?_ (fun i=>?_)
 · exact wl
 · have hi:=i.2;conv=>whnf
   (refine zA ?_)
   refine xd (fun g=>?_) (fun g=>?_)
   all_goals conv=>whnf
   · repeat' first|((first|refine zz ?_|(refine xa ?_ ?_<;>intro _)|refine ixN (enc:=eG) default (by omega) ?_|refine ⟨_,xyz _,?_⟩|refine wq ?_)<;>conv=>whnf)
     · rename_i h;exact rI' (yw (p:=fun (x:Got)=>x.Has) default (by omega) h fun j hj=>hi j hj (by omega)).symm
     · rename_i h;refine ⟨⟨i.1+1,fun j hj hl=>?_⟩,?_,?_⟩
       · by_cases hji:j<i.1
         · exact hi j hji hl
         · obtain rfl:j=i.1:=by omega
           exact h
       · simp only; omega
       · exact wl
   ·
    (refine zA ?_)
    exact rI' (yf (p:=fun (x:Got)=>x.Has) default fun j hj=>hi j (by omega) hj).symm
theorem xwt  (l:List Got):Sem P 134 [(.pure,.one (sGs l)),(.pure,.one (.fn 175 []))] [] (B (l.any fun (x:Got)=>x.Has)):=by
 refine fO Go.Proofs.Tryz.f134 fun hb=>?_;conv=>whnf
 repeat' first|((first|refine zz ?_|(refine xa ?_ ?_<;>intro _)|refine ⟨_,xov  l,?_⟩)<;>conv=>whnf)
 exact rB (zd _ _)
theorem xr9 (c:Clerk) (hg:c.Got.length<=1000) (hb':c.Base.length<=100000) (hd:zDs c.Done<=100000):Sem P 82 [(.io 0 0,.agg (eK c))] [.agg (eK c)] (.one (sMs (clerkTick c))):=by
 have lg:(c.Got.map eG).length=c.Got.length:=xzi ..;have lw:(c.Wants.map eC).length=c.Wants.length:=xzi ..;have lp:((pacts c).map eM).length=c.Got.length:=by simp [pacts]
 have hP:=xou c hg hb' hd;have hA:=xwt c.Got
 have e:clerkTick c=if c.Up then pacts c++(if !c.Wants.isEmpty || c.Got.any Got.Has then freezes c else []) else []:=rfl
 have ew:(!c.Wants.isEmpty)=decide ((c.Wants.length:Int)>0):=by
  cases c.Wants with
  | nil=>rfl
  | cons a r=>symm; simp only [List.isEmpty_cons,x2j,xzk,xz6]; omega
 rw [ew] at e
 cases hu:c.Up with
 | false =>
   rw [hu,if_neg (by decide)] at e;rw [e];obtain ⟨up,rd,bs,dn,wa,go⟩:=c;simp only at hu;subst hu;refine fO Go.Proofs.Tryz.f82 fun hb=>?_;conv=>whnf
   repeat' first|((first|refine zz ?_|(refine xa ?_ ?_<;>intro _))<;>conv=>whnf)
   exact ⟨rfl,rfl⟩
 | true =>
   rw [hu,if_pos rfl] at e;obtain ⟨up,rd,bs,dn,wa,go⟩:=c;simp only at hu hg hb' hd lw lg lp e hA;subst hu
   cases hf:(decide ((wa.length:Int)>0) || go.any Got.Has) with
   | false =>
     rw [hf,if_neg (by decide),x0l] at e;rw [e];simp only [x3j] at hf;rw [hf.2] at hA;refine fK [4001] Go.Proofs.Tryz.f82 fun hb=>?_;conv=>whnf
     repeat' first|((first|refine zz ?_|(refine xa ?_ ?_<;>intro _)|refine ⟨_,_,hP,?_⟩|refine ⟨_,hA,?_⟩)<;>conv=>whnf)
     all_goals first
      | exact ⟨rfl,rfl⟩
      | (exfalso; simp only [xzk,xzw] at *; omega)
   | true =>
     rw [hf,if_pos rfl] at e;rw [e];generalize hb2:go.any Got.Has=b2 at *;cases b2
     all_goals
      refine fK [4001] Go.Proofs.Tryz.f82 fun hb=>?_;conv=>whnf
      repeat' first|((first|refine zz ?_|(refine xa ?_ ?_<;>intro _)|refine ⟨_,_,hP,?_⟩|refine ⟨_,hA,?_⟩)<;>conv=>whnf)
     all_goals first
      | (exfalso; simp only [x04,xzk,xzw,x2u,x2f] at *; omega)
      | skip
     all_goals
      refine Vc.loop1 (fun (i:Nat)=>i<=go.length) (fun i=>updL [0,2,29,43] [(30,I i),(3,.one (.ref 256064))] [(256064,.arr 55 ((pacts ⟨true,rd,bs,dn,wa,go⟩++(List.range i).map fun (k:Nat)=>freezeM ⟨true,rd,bs,dn,wa,go⟩ k).map eM) false)]) (fun i=>go.length - i) 0 (xz1 _) ?_ (fun i hi=>?_)
      · repeat' (first|exact True.intro|((conv=>whnf);first|exact True.intro|refine ⟨by rfl,?_⟩|refine ⟨by first|omega|(show (_:Int)=_;first|omega|(dsimp only;omega))|exact (by simp),?_⟩|refine ⟨?_,?_⟩))
      · have hlo:((pacts ⟨true,rd,bs,dn,wa,go⟩++(List.range i).map fun (k:Nat)=>freezeM ⟨true,rd,bs,dn,wa,go⟩ k).map eM).length=go.length+i:=by simp [pacts]
        conv=>whnf
        (refine zA ?_)
        refine xd (fun g=>?_) (fun g=>?_)
        all_goals conv=>whnf
        all_goals dsimp only at g
        · repeat' first|((first|refine zz ?_|(refine xa ?_ ?_<;>intro _))<;>conv=>whnf)|(refine apN (by rw [hlo]; show go.length+i+1<=_; omega) ?_;conv=>whnf)|((first|refine wq ?_)<;>conv=>whnf)
          refine ⟨i+1,by omega,by simp only; omega,?_⟩
          repeat' (first|exact True.intro|((conv=>whnf);first|exact True.intro|refine ⟨by rfl,?_⟩|refine ⟨by first|omega|(show (_:Int)=_;first|omega|(dsimp only;omega))|exact xh4 _ (fun k=>freezeM ⟨true,rd,bs,dn,wa,go⟩ k) i,?_⟩|refine ⟨?_,?_⟩))
        · have ei:i=go.length:=by omega
          subst ei
          (refine zA ?_)
          exact ⟨rfl,rfl⟩
theorem xsa (p:Plan) (c:Clerk):Sem P 22 [(.pure,.agg (aPl p)),(.pure,.agg (aK c))] [] (B (clkOk p c)):=by
 have h1:=jc p;unfold clkOk
 cases hp:planOk p with
 | false =>
   rw [hp] at h1;refine fO Go.Proofs.Tryz.f22 fun hb=>?_;conv=>whnf
   repeat' first|((first|refine zz ?_|(refine xa ?_ ?_<;>intro _)|refine ⟨_,h1,?_⟩)<;>conv=>whnf)
   exact ⟨rfl,rfl⟩
 | true =>
   rw [hp] at h1;refine fO Go.Proofs.Tryz.f22 fun hb=>?_;conv=>whnf
   repeat' first|((first|refine zz ?_|(refine xa ?_ ?_<;>intro _)|refine ⟨_,h1,?_⟩|refine ⟨_,xdh p.Acts (qv hp),?_⟩|refine ⟨_,xkf p c (xi hp),?_⟩)<;>conv=>whnf)
   exact ⟨rfl,rfl⟩
theorem xmy {p:Plan} {c:Clerk} (h:clkOk p c=true):planOk p=true/\ClerkF p c:=by
 unfold clkOk at h;rw [xzj] at h;exact ⟨h.1,clerkF.1 h.2⟩
theorem xu1 (l:List Msg):Sem P 81 [(.pure,.one (sMs l))] [] (.one (fMs l)):=by
 have lm:(l.map eM).length=l.length:=xzi ..;refine fO Go.Proofs.Tryz.f81 fun hb=>?_;conv=>whnf
 repeat' first|((first|refine zz ?_|(refine xa ?_ ?_<;>intro _)|refine ⟨by omega,by omega,by omega,by omega,?_⟩|fail)<;>conv=>whnf)
 refine ⟨?_,rfl⟩;show TV.one (.fr [] _ (((l.map eM).take (Int.toNat ((l.map eM).length:Nat))).drop 0))=_;rw [xz9,x1e,List.drop_zero]
theorem cold1 {P:Program} {f:Nat} {ins:List (Go.AM.Mode × TV)} {outs:List TV} {a b:AV} (hc:Cold a b) (h:Sem P f ins outs (.one a)):Sem P f ins outs (.one b):=by
 refine ⟨h.1,fun w Z io vals fin hg hin h1 h2 h3 h4=>?_⟩;refine (h.2 w Z io vals fin hg hin h1 h2 h3 h4).mono ?_;rintro e w' ⟨v,rfl,Z',fr,g,p1,p2,p3,p4,p5,p6,p7⟩
 cases p4 with
 | one ho =>
   have hrd:Rd P w' (fun b=>Z' b\/b∈fr) a v:=ho.rd (fun b hb=>.inr hb) (fun b hb=>.inl hb);have ho':Ow P w' (fun b=>Z' b\/b∈fr) b v []:=by
    rcases hc with ⟨u,rfl,rfl⟩|⟨t,rows,rfl,him⟩
    · cases hrd with
      | prim h=>exact .prim h
    · exact .fr0 (him P w' _ v hrd)
   refine ⟨_,rfl,fun b=>Z' b\/b∈fr,[],g,p1,fun b hb=>.inl (p2 b hb),fun b hb=>?_,.one ho',xe3 p5 (fun b hb=>.inl hb),(x0j.1 p6).2.1,fun b hb=>?_⟩
   rotate_left
   · obtain ⟨q1,q2,q3,q4⟩:=p7 b (xzz _ hb);exact ⟨q1,q2,fun h=>h.elim q3 (xgs p6 hb),q4⟩
   rcases hb with hb|hb
   · exact p3 b hb
   · obtain ⟨q1,q2,_,q4⟩:=p7 b (xzt _ hb);exact ⟨q1.elim (fun h=>.inr (.inl h)) (fun h=>.inr (.inr h)),q2,q4⟩
theorem xmz (p:Plan) (c:Clerk):Sem P 29 [(.pure,.agg (aPl p)),(.pure,.agg (aK c))] [] (.one (fMs (clkTick p c))):=by
 have h1:=xsa p c;unfold clkTick
 cases hk:clkOk p c with
 | false =>
   rw [hk] at h1;refine cold1 (a:=sMs []) xg ?_;refine fO Go.Proofs.Tryz.f29 fun hb=>?_;conv=>whnf
   repeat' first|((first|refine zz ?_|(refine xa ?_ ?_<;>intro _)|refine ⟨_,h1,?_⟩)<;>conv=>whnf)
   exact ⟨rfl,rfl⟩
 | true =>
   rw [hk] at h1;obtain ⟨hp,hc⟩:=xmy hk;have hz:=q9 hc (xi hp) (yk hp);have hg:=hc.gl;have hg3:=yk hp;have hbl:=(xe.1 hc.b).1;have hdl:=(yl (xi hp) hc.d).2;have hT:=xr9 c (by omega) (by omega) (by omega);refine fO Go.Proofs.Tryz.f29 fun hb=>?_;conv=>whnf
   repeat' first|((first|refine zz ?_|(refine xa ?_ ?_<;>intro _)|refine ⟨_,h1,?_⟩|refine ⟨_,_,hT,?_⟩|refine ⟨_,xu1 (clerkTick c),?_⟩)<;>conv=>whnf)
   exact ⟨rfl,rfl⟩
end Cc
end
