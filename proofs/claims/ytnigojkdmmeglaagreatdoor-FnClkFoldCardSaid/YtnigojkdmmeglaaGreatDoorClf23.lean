/- The law FnClkFold: part 23 of 35. No conditions beyond the statement. -/
import Derived.Test.YtnigojkdmmeglaaGreatDoorClf22
set_option linter.unusedVariables false
set_option linter.unusedSimpArgs false
set_option maxRecDepth 100000
set_option maxHeartbeats 16000000
section
namespace Cc
open Go Go.AM
theorem ku (l:List Client) (k:Nat) (x:Client):(l.map eX).set k (eX x)=(l.set k x).map eX:=xz8.symm
theorem xm9 (w:World) (n act:Int) (args:List Int) (hcl:inB w.Plan.Clients 0 4=true) (hx:w.Clients.length<=4) (hl:w.Log.length<=100) (hs:∀ x∈w.Clients,0<=x.Seq/\x.Seq<=300) (ha:args.length<=1000000) :
 Sem P 206 [(.own,.agg (oWd w)),(.pure,I n),(.pure,I act),(.pure,AI args)] [] (.agg (oWd (doCall w n act args))):=by
 have lx:(w.Clients.map eX).length=w.Clients.length:=xxs ..;have ll:(w.Log.map eO).length=w.Log.length:=xxs ..;have la:=xb args;have hbz:busy w<=w.Clients.length:=x0c
 cases h:inB n 0 (w.Clients.length - 1) with
 | false =>
   have e:doCall w n act args=w:=by unfold doCall; rw [h]; rfl
   rw [e];refine fO Go.Proofs.Tryz.f206 fun hb=>?_;conv=>whnf
   repeat' first|((first|refine zz ?_|(refine xa ?_ ?_<;>intro _)|refine ⟨_,xi _ _ _,?_⟩|refine ⟨_,xeg w,?_⟩|refine wq ?_)<;>conv=>whnf)
   all_goals first
    | exact ⟨rfl,rfl⟩
    | (exfalso; simp_all; done)
 | true =>
   have hn:=xc.1 h;have hsq:=hs (w.Clients.getD n.toNat Client.nil) (xw (by omega));have hC:=ze w.Plan ⟨n,(w.Clients.getD n.toNat Client.nil).Seq+1,act,args⟩ hcl
   have e:doCall w n act args=if !(w.Clients.getD n.toNat Client.nil).Busy && callB w.Plan ⟨n,(w.Clients.getD n.toNat Client.nil).Seq+1,act,args⟩ && decide (w.Log.length+1+busy w<=100) then { w with Clients:=w.Clients.set n.toNat { (w.Clients.getD n.toNat Client.nil) with Busy:=true,Call:=⟨n,(w.Clients.getD n.toNat Client.nil).Seq+1,act,args⟩ } } else w:=by unfold doCall; rw [h]; rfl
   by_cases hc:(!(w.Clients.getD n.toNat Client.nil).Busy && callB w.Plan ⟨n,(w.Clients.getD n.toNat Client.nil).Seq+1,act,args⟩ && decide (w.Log.length+1+busy w<=100))=true
   · rw [if_pos hc] at e;rw [e];refine yh (E:={ E0 with fz:=[(5,[256704])] }) xn xo (fn:=Go.Proofs.Tryz.f206) (by kernel_rfl) (by kernel_rfl) (fun hb=>?_);conv=>whnf
     repeat' first|((first|refine zz ?_|(refine xa ?_ ?_<;>intro _)|refine ⟨_,xi _ _ _,?_⟩|refine ⟨_,xeg w,?_⟩|refine ⟨_,hC,?_⟩|refine wq ?_)<;>conv=>whnf)|(refine ioN (by omega) (by first|omega|(rw [xzd]; omega)) ?_;conv=>whnf)|((first|refine rwC (List.getElem?_set_self (by omega)) ?_|refine rwN (enc:=eX) Client.nil (by omega) ?_|refine apI ?_)<;>conv=>whnf)|(refine apN (by simp only [xyf]; omega) ?_;conv=>whnf)
     all_goals first
      | (exfalso; clear hC hb e; simp_all; done)
      | (exfalso; clear hC hb e; simp only [xxt,xxy] at *; omega)
      | (refine ⟨?_,rfl⟩
         show TV.agg [eI w.Plan.Clients,fAs w.Plan.Acts,fI w.Plan.Gives,fI w.Plan.Start,sSs w.Sites,eB w.Clerk.Up,eI w.Clerk.Round,fI w.Clerk.Base,fDs w.Clerk.Done,fCs w.Clerk.Wants,fGs w.Clerk.Got,.sl 163 (((w.Clients.map eX).set n.toNat _).set n.toNat (eX { (w.Clients.getD n.toNat Client.nil) with Busy:=true,Call:=⟨n,(w.Clients.getD n.toNat Client.nil).Seq+1,act,args⟩ })),sMs w.Net,sOs w.Log]=_
         rw [List.set_set,ku])
   · rw [if_neg hc] at e;rw [e];refine yh (E:={ E0 with fz:=[(5,[256704])] }) xn xo (fn:=Go.Proofs.Tryz.f206) (by kernel_rfl) (by kernel_rfl) (fun hb=>?_);conv=>whnf
     repeat' first|((first|refine zz ?_|(refine xa ?_ ?_<;>intro _)|refine ⟨_,xi _ _ _,?_⟩|refine ⟨_,xeg w,?_⟩|refine ⟨_,hC,?_⟩|refine wq ?_)<;>conv=>whnf)|(refine ioN (by omega) (by first|omega|(rw [xzd]; omega)) ?_;conv=>whnf)|((first|refine rwC (List.getElem?_set_self (by omega)) ?_|refine rwN (enc:=eX) Client.nil (by omega) ?_|refine apI ?_)<;>conv=>whnf)|(refine apN (by simp only [xyf]; omega) ?_;conv=>whnf)
     all_goals first
      | exact ⟨rfl,rfl⟩
      | (exfalso; clear hC hb e; simp_all; done)
      | (exfalso; clear hC hb e; refine hc ?_; simp_all; omega)
theorem xu4 {l:List Msg} {n:Int} {i:Nat} (h:i<l.length):cut (l.take (i+1)) n=if (i:Int)=n then cut (l.take i) n else cut (l.take i) n++[l.getD i default]:=by
 have hl:(l.take i).length=i:=by rw [xyc]; omega
 rw [xp h];unfold cut;by_cases h0:0<=n
 · simp only [if_pos h0];by_cases h1:(i:Int)=n
   · rw [if_pos h1];rw [List.eraseIdx_append_of_length_le (by omega),hl,show n.toNat - i=0 by omega,x01 (l:=l.take i) (by omega)];simp
   · rw [if_neg h1];by_cases h2:n.toNat<i
     · rw [List.eraseIdx_append_of_lt_length (by omega)]
     · rw [x01 (by simp only [xx3,xyo]; omega),x01 (by omega)]
 · simp only [if_neg h0];rw [if_neg (by omega)]
theorem xwg (l:List Msg) (x:Msg):l.map eM++[eM x]=(l++[x]).map eM:=by simp
theorem xlo (w:World) (n:Int) (hn:w.Net.length<=1000):Sem P 209 [(.own,.agg (oWd w)),(.pure,I n)] [] (.agg (oWd { w with Net:=cut w.Net n })):=by
 have lm:(w.Net.map eM).length=w.Net.length:=xxs ..;refine fO Go.Proofs.Tryz.f209 fun hb=>?_;conv=>whnf
 (refine zA ?_)
 refine Vc.loop1 (fun (i:Nat)=>i<=w.Net.length) (fun i=>updL [1,2,4] [(6,I i),(5,.one (.ref 128000))] [(128000,.arr 55 ((cut (w.Net.take i) n).map eM) false)]) (fun i=>w.Net.length - i) 0 (xyb _) ?_ (fun i hi=>?_)
 · repeat' (first|exact True.intro|((conv=>whnf);first|exact True.intro|refine ⟨by rfl,?_⟩|refine ⟨by first|omega|(show (_:Int)=_;first|omega|(dsimp only;omega))|exact (by unfold cut; simp),?_⟩|refine ⟨?_,?_⟩))
 · have hcl:(cut (w.Net.take i) n).length<=(w.Net.take i).length:=xac;rw [xyc] at hcl;have hlo:((cut (w.Net.take i) n).map eM).length<=i:=by rw [xxs]; omega
   conv=>whnf
   (refine zA ?_)
   refine xd (fun g=>?_) (fun g=>?_)
   all_goals conv=>whnf
   · have hil:i<w.Net.length:=by omega
     have es:=xu4 (n:=n) hil
     repeat' first|((first|refine zz ?_|(refine xa ?_ ?_<;>intro _)|refine ioN (by omega) (by omega) ?_)<;>conv=>whnf)|(refine rwN (enc:=eM) default (by simp only [xym]; omega) ?_;conv=>whnf)|(refine apN (by show _+1<=_; omega) ?_;conv=>whnf)|((first|refine wq ?_)<;>conv=>whnf)
     · rename_i h;rw [if_neg (yt h)] at es;refine ⟨i+1,by omega,by simp only; omega,?_⟩
       repeat' (first|exact True.intro|((conv=>whnf);first|exact True.intro|refine ⟨by rfl,?_⟩|refine ⟨by first|omega|(show (_:Int)=_;first|omega|(dsimp only;omega))|exact (by rw [es,<- xwg]; rfl),?_⟩|refine ⟨?_,?_⟩))
     · rename_i h;rw [if_pos (yu h)] at es;refine ⟨i+1,by omega,by simp only; omega,?_⟩
       repeat' (first|exact True.intro|((conv=>whnf);first|exact True.intro|refine ⟨by rfl,?_⟩|refine ⟨by first|omega|(show (_:Int)=_;first|omega|(dsimp only;omega))|exact congrArg (List.map eM) es.symm,?_⟩|refine ⟨?_,?_⟩))
   ·
    (refine zA ?_)
    have e:w.Net.take i=w.Net:=xx7 (by omega);exact ⟨by rw [e],rfl⟩
theorem xbf (c:Call) (h:c.Args.length<=100000):Sem P 123 [(.pure,.agg (aC c))] [] (.agg (aC c)):=by
 refine fK [2002] Go.Proofs.Tryz.f123 fun hb=>?_;conv=>whnf
 repeat' first|((first|refine zz ?_|(refine xa ?_ ?_<;>intro _)|refine ⟨_,x7 c.Args h,?_⟩)<;>conv=>whnf)
 exact ⟨rfl,rfl⟩
theorem xb7 (r:Rslt) (h:r.Tells.length<=100000):Sem P 126 [(.pure,.agg (aR r))] [] (.agg (aR r)):=by
 refine fK [2004] Go.Proofs.Tryz.f126 fun hb=>?_;conv=>whnf
 repeat' first|((first|refine zz ?_|(refine xa ?_ ?_<;>intro _)|refine ⟨_,x7 r.Tells h,?_⟩)<;>conv=>whnf)
 exact ⟨rfl,rfl⟩
theorem xqr (l:List Done) (h:zDs l<=100000):Sem P 124 [(.pure,.one (sDs l))] [] (.one (sDs l)):=by
 have hl:l.length<=100000:=by unfold zDs at h; omega
 refine fO Go.Proofs.Tryz.f124 fun hb=>?_;have hlm:(l.map eD).length=l.length:=xxs ..;conv=>whnf
 (refine zA ?_)
 refine Vc.loop1 (fun (i:Nat)=>i<=l.length) (fun i=>updL [2,6,7,22] [(8,I i),(3,.one (.ref 128000))] [(128000,.arr 79 ((l.take i).map eD) false)]) (fun i=>l.length - i) 0 (xyb _) ?_ (fun i hi=>?_)
 · exact wk
 · have hlo:((l.take i).map eD).length=i:=by rw [xxs,xyc]; omega
   conv=>whnf
   (refine zA ?_)
   refine xd (fun g=>?_) (fun g=>?_)
   all_goals conv=>whnf
   · have hz:zD (l.getD i default)<=100000:=kr zD (by unfold zDs at h; exact h) (by omega)
     repeat' first|((first|refine zz ?_|(refine xa ?_ ?_<;>intro _)|refine ixN (enc:=eD) default (by omega) ?_)<;>conv=>whnf)|(refine ⟨_,xb7 (l.getD i default).Res (by unfold zD zR at hz; exact hz),?_⟩;conv=>whnf)|(refine apN (by rw [hlo]; show i+1<=_; omega) ?_;conv=>whnf)|((first|refine wq ?_)<;>conv=>whnf)
     refine ⟨i+1,by omega,by simp only; omega,?_⟩
     repeat' (first|exact True.intro|((conv=>whnf);first|exact True.intro|refine ⟨by rfl,?_⟩|refine ⟨by first|omega|(show (_:Int)=_;first|omega|(dsimp only;omega))|exact zb (by omega),?_⟩|refine ⟨?_,?_⟩))
   · have hend:l.take i=l:=xx7 (by omega)
     (refine zA ?_)
     exact ⟨by rw [hend],rfl⟩
theorem xfz (c:Clerk) (h:zK c<=100000):Sem P 51 [(.pure,.agg (aK c))] [] (.agg (aK c)):=by
 have lb:=xb c.Base;unfold zK zCs zGs at h;refine fK [14002,14005] Go.Proofs.Tryz.f51 fun hb=>?_;have lw:(c.Wants.map eC).length=c.Wants.length:=xxs ..;have lg:(c.Got.map eG).length=c.Got.length:=xxs ..;conv=>whnf
 (refine zA ?_)
 refine Vc.loop1 (fun (i:Nat)=>i<=c.Wants.length) (fun i=>updL [1,2,6,8,10,11,22,23,24,25,26,27,28,29,30,31,32,33,34,35,36,37,38,39,40,41,42,43,44,45,46,47,48,49,50,51,52,53,54] [(12,I i),(3,.one (.ref 128000))] [(128000,.arr 50 ((c.Wants.take i).map eC) false)]) (fun i=>c.Wants.length - i) 0 (xyb _) ?_ (fun i hi=>?_)
 · exact wk
 · have hlo:((c.Wants.take i).map eC).length=i:=by rw [xxs,xyc]; omega
   conv=>whnf
   (refine zA ?_)
   refine xd (fun g=>?_) (fun g=>?_)
   all_goals conv=>whnf
   · have hz:zC (c.Wants.getD i default)<=100000:=kr zC (by omega) (by omega)
     repeat' first|((first|refine zz ?_|(refine xa ?_ ?_<;>intro _)|refine ixN (enc:=eC) default (by omega) ?_)<;>conv=>whnf)|(refine ⟨_,xbf (c.Wants.getD i default) (by unfold zC at hz; exact hz),?_⟩;conv=>whnf)|(refine apN (by rw [hlo]; show i+1<=_; omega) ?_;conv=>whnf)|((first|refine wq ?_)<;>conv=>whnf)
     refine ⟨i+1,by omega,by simp only; omega,?_⟩
     repeat' (first|exact True.intro|((conv=>whnf);first|exact True.intro|refine ⟨by rfl,?_⟩|refine ⟨by first|omega|(show (_:Int)=_;first|omega|(dsimp only;omega))|exact zb (by omega),?_⟩|refine ⟨?_,?_⟩))
   · have hend:c.Wants.take i=c.Wants:=xx7 (by omega);rw [hend]
     (refine zA ?_)
     refine Vc.loop1 (fun (k:Nat)=>k<=c.Got.length) (fun k=>updL [1,2,3,23,24,42,43,44,45,46,47,48,49,50,51,52,53,54] [(25,I k),(6,.one (.ref 512000))] [(512000,.arr 105 ((c.Got.take k).map eG) false)]) (fun k=>c.Got.length - k) 0 (xyb _) ?_ (fun k hk=>?_)
     · exact wk
     · have hlo:((c.Got.take k).map eG).length=k:=by rw [xxs,xyc]; omega
       conv=>whnf
       (refine zA ?_)
       refine xd (fun g=>?_) (fun g=>?_)
       all_goals conv=>whnf
       · have hz:zG (c.Got.getD k default)<=100000:=kr zG (by omega) (by omega);unfold zG at hz
         repeat' first|((first|refine zz ?_|(refine xa ?_ ?_<;>intro _)|refine ixN (enc:=eG) default (by omega) ?_|refine ⟨_,x7 (c.Got.getD k default).Added (by omega),?_⟩|refine ⟨_,x7 (c.Got.getD k default).Seqs (by omega),?_⟩)<;>conv=>whnf)|(refine apN (by rw [hlo]; show k+1<=_; omega) ?_;conv=>whnf)|((first|refine wq ?_)<;>conv=>whnf)
         refine ⟨k+1,by omega,by simp only; omega,?_⟩
         repeat' (first|exact True.intro|((conv=>whnf);first|exact True.intro|refine ⟨by rfl,?_⟩|refine ⟨by first|omega|(show (_:Int)=_;first|omega|(dsimp only;omega))|exact zb (by omega),?_⟩|refine ⟨?_,?_⟩))
       · have hend2:c.Got.take k=c.Got:=xx7 (by omega)
         repeat' first|((first|refine zz ?_|(refine xa ?_ ?_<;>intro _)|refine ⟨_,x7 c.Base (by omega),?_⟩|refine ⟨_,xqr c.Done (by omega),?_⟩)<;>conv=>whnf)
         exact ⟨by rw [hend2],rfl⟩
theorem xwk (g:Got):Sem P 135 [(.pure,.agg (aG g))] [] (B (!g.Has)):=by
 refine fO Go.Proofs.Tryz.f135 fun hb=>?_;conv=>whnf
 repeat' first|((first|refine zz ?_|(refine xa ?_ ?_<;>intro _))<;>conv=>whnf)
 exact ⟨rfl,rfl⟩
theorem xls  (l:List Got):Sem P 222 [(.pure,.one (sGs l)),(.pure,.one (.fn 135 []))] [] (I (idxOf (fun (x:Got)=>!x.Has) l)):=by
 refine fO Go.Proofs.Tryz.f222 fun hb=>?_;have la:(l.map eG).length=l.length:=xxs ..;have hb1:(l.map eG).length<=1125899906842624:=hb.1.1;conv=>whnf
 (refine zA ?_)
 refine Vc.loop { i:Nat // ∀ j,j<i->j<l.length->(fun (x:Got)=>!x.Has) (l.getD j default)=false } (fun i=>updL [0,1,7] [(8,I i.1)] []) (fun i=>l.length - i.1) ⟨0,by simp⟩ ?_ (fun i=>?_)
 · exact wl
 · have hi:=i.2;conv=>whnf
   (refine zA ?_)
   refine xd (fun g=>?_) (fun g=>?_)
   all_goals conv=>whnf
   · repeat' first|((first|refine zz ?_|(refine xa ?_ ?_<;>intro _)|refine ixN (enc:=eG) default (by omega) ?_|refine ⟨_,xwk _,?_⟩|refine wq ?_)<;>conv=>whnf)
     · rename_i h;exact rI' (y9 (p:=fun (x:Got)=>!x.Has) default (by omega) h fun j hj=>hi j hj (by omega)).symm
     · rename_i h;refine ⟨⟨i.1+1,fun j hj hl=>?_⟩,?_,?_⟩
       · by_cases hji:j<i.1
         · exact hi j hji hl
         · obtain rfl:j=i.1:=by omega
           exact h
       · simp only; omega
       · exact wl
   ·
    (refine zA ?_)
    exact rI' (yq (p:=fun (x:Got)=>!x.Has) default fun j hj=>hi j (by omega) hj).symm
theorem xiy  (l:List Got):Sem P 134 [(.pure,.one (sGs l)),(.pure,.one (.fn 135 []))] [] (B (l.any fun (x:Got)=>!x.Has)):=by
 refine fO Go.Proofs.Tryz.f134 fun hb=>?_;conv=>whnf
 repeat' first|((first|refine zz ?_|(refine xa ?_ ?_<;>intro _)|refine ⟨_,xls  l,?_⟩)<;>conv=>whnf)
 exact rB (zg _ _)
theorem xiz (c:Clerk):(!c.Got.any fun (x:Got)=>!x.Has)=readyB c:=by
 unfold readyB;rw [List.any_eq_not_all_not]; simp
theorem xqs (c:Clerk):Sem P 55 [(.io 0 0,.agg (aK c))] [.agg (aK c)] (B (readyB c)):=by
 refine fO Go.Proofs.Tryz.f55 fun hb=>?_;conv=>whnf
 repeat' first|((first|refine zz ?_|(refine xa ?_ ?_<;>intro _)|refine ⟨_,xiy c.Got,?_⟩)<;>conv=>whnf)
 exact ⟨congrArg (fun b=>B b) (xiz c),rfl⟩
theorem xnh (c:Clerk):Sem P 55 [(.io 0 0,.agg (eK c))] [.agg (eK c)] (B (readyB c)):=by
 refine fO Go.Proofs.Tryz.f55 fun hb=>?_;conv=>whnf
 repeat' first|((first|refine zz ?_|(refine xa ?_ ?_<;>intro _)|refine ⟨_,xiy c.Got,?_⟩)<;>conv=>whnf)
 exact ⟨congrArg (fun b=>B b) (xiz c),rfl⟩
theorem xwl (n:Nat):List.replicate n [eB false,.fr [] 3 [],.fr [] 3 []]=(List.replicate n Got.nil).map eG:=by rw [List.map_replicate]; rfl
theorem xni (c:Clerk) (hg:c.Got.length<=1000):Sem P 127 [(.io 0 0,.agg (aK c))] [.agg (aK (forget c))] (.tup []):=by
 have lg:(c.Got.map eG).length=c.Got.length:=xxs ..;refine fO Go.Proofs.Tryz.f127 fun hb=>?_;conv=>whnf
 repeat' first|((first|refine zz ?_|(refine xa ?_ ?_<;>intro _))<;>conv=>whnf)
 refine ⟨rfl,?_⟩;show [TV.agg [eB c.Up,eI c.Round,sI c.Base,sDs c.Done,.sl 50 [],.sl 105 _]]=_;rw [lg,xym,xwl];rfl
end Cc
end
