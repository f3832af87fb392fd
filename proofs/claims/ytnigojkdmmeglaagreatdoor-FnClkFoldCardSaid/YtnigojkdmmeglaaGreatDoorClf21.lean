/- The law FnClkFold: part 21 of 35. No conditions beyond the statement. -/
import Derived.Test.YtnigojkdmmeglaaGreatDoorClf20
set_option linter.unusedVariables false
set_option linter.unusedSimpArgs false
set_option maxRecDepth 100000
set_option maxHeartbeats 16000000
section
namespace Cc
open Go Go.AM
theorem ka (a b:List Int) (h1:a.length=3) (h2:b.length=3) (ha:mid a) (hb':mid b):Sem P 128 [(.pure,AI a),(.pure,AI b)] [] (AI (plus a b)):=by
 obtain ⟨x,y,z,rfl⟩:=len3 h1;obtain ⟨u,v,w,rfl⟩:=len3 h2;have hx:=ha x (by simp); have hy:=ha y (by simp); have hz:=ha z (by simp);have hu:=hb' u (by simp); have hv:=hb' v (by simp); have hw:=hb' w (by simp);refine fO Go.Proofs.Tryz.f128 fun hb=>?_;conv=>whnf
 (refine zA ?_)
 refine Vc.loop1 (fun (i:Nat)=>i<=3) (fun i=>updL [0,1,4,24] [(6,I i),(5,.one (.ref 128000))] [(128000,.arr 3 (ints ([x+u,y+v,z+w].take i)) false)]) (fun i=>3 - i) 0 (by omega) ?_ (fun i hi=>?_)
 · exact wk
 · match i,hi with
   | 0,_ =>
     conv=>whnf
     repeat' first|((first|refine zz ?_|(refine xa ?_ ?_<;>intro _)|refine ixK rfl ?_|refine wq ?_|refine apN (by simp) ?_)<;>conv=>whnf)
     refine ⟨1,by omega,by simp only; omega,?_⟩;exact wk
   | 1,_ =>
     conv=>whnf
     repeat' first|((first|refine zz ?_|(refine xa ?_ ?_<;>intro _)|refine ixK rfl ?_|refine wq ?_|refine apN (by simp) ?_)<;>conv=>whnf)
     refine ⟨2,by omega,by simp only; omega,?_⟩;exact wk
   | 2,_ =>
     conv=>whnf
     repeat' first|((first|refine zz ?_|(refine xa ?_ ?_<;>intro _)|refine ixK rfl ?_|refine wq ?_|refine apN (by simp) ?_)<;>conv=>whnf)
     refine ⟨3,by omega,by simp only; omega,?_⟩;exact wk
   | 3,_ =>
     conv=>whnf
     (refine zA ?_)
     exact ⟨rfl,rfl⟩
theorem xeg (w:World):Sem P 259 [(.pure,.agg (aWd w))] [] (I (busy w)):=by
 have lg:(w.Clients.map eX).length=w.Clients.length:=xxs ..;refine fO Go.Proofs.Tryz.f259 fun hb=>?_;have hb1:(w.Clients.map eX).length<=1125899906842624:=(hb.1 (sXs w.Clients) (by simp)).1;conv=>whnf
 (refine zA ?_)
 refine Vc.loop2 (fun (i n:Nat)=>i<=w.Clients.length/\n=(w.Clients.take i).countP Client.Busy) (fun i n=>updL [1,2,20] [(4,I i),(3,I n)] []) (fun i _=>w.Clients.length - i) 0 0 ⟨xyb _,rfl⟩ ?_ (fun i n hi=>?_)
 · exact wk
 · obtain ⟨hi,hn⟩:=hi;have hcl:=x0c (p:=Client.Busy) (l:=w.Clients.take i);rw [xyc] at hcl;conv=>whnf
   (refine zA ?_)
   refine xd (fun g=>?_) (fun g=>?_)
   all_goals conv=>whnf
   · have es:=xp (l:=w.Clients) (i:=i) (by omega)
     repeat' first|((first|refine zz ?_|(refine xa ?_ ?_<;>intro _)|refine ixN (enc:=eX) default (by omega) ?_|refine wq ?_)<;>conv=>whnf)
     · rename_i h;refine ⟨i+1,n+1,⟨by omega,by rw [es,x0m,<- hn,List.countP_cons_of_pos h]; rfl⟩,by simp only; omega,?_⟩;exact wk
     · rename_i h;refine ⟨i+1,n,⟨by omega,by rw [es,x0m,<- hn,List.countP_cons_of_neg (by rw [h]; decide)]; rfl⟩,by simp only; omega,?_⟩;exact wk
   ·
    (refine zA ?_)
    exact rI' (by unfold busy; rw [xx7 (by omega)] at hn; omega)
theorem xsu {l:List Done} {i:Nat} (h:i<l.length):ints ((l.map Done.Seq).take i)++[rI (l.getD i default).Seq]=ints ((l.map Done.Seq).take (i+1)):=by
 rw [qa,<- x0k,<- x0k,xp h,xy1]; rfl
theorem xg2 (s:Site) (n:Int) (ha:s.Added.length<=1000000) (hd:s.Done.length<=1000000):Sem P 118 [(.pure,.agg (aS s)),(.pure,I n)] [] (.agg (aM (giveMsg s n))):=by
 have la:=xb s.Added;have ld:(s.Done.map eD).length=s.Done.length:=xxs ..;refine fO Go.Proofs.Tryz.f118 fun hb=>?_;conv=>whnf
 repeat' first|((first|refine zz ?_|(refine xa ?_ ?_<;>intro _)|refine apI ?_)<;>conv=>whnf)|(refine apN (by simp only [xyf]; omega) ?_;conv=>whnf)
 refine Vc.loop1 (fun (i:Nat)=>i<=s.Done.length) (fun i=>updL [2,4,5,33] [(6,I i)] [(128586,.arr 3 (ints ((s.Done.map Done.Seq).take i)) false)]) (fun i=>s.Done.length - i) 0 (xyb _) ?_ (fun i hi=>?_)
 · exact wk
 · have hlo:(ints ((s.Done.map Done.Seq).take i)).length=i:=by rw [xb,xyc,xxs]; omega
   conv=>whnf
   (refine zA ?_)
   refine xd (fun g=>?_) (fun g=>?_)
   all_goals conv=>whnf
   · repeat' first|((first|refine zz ?_|(refine xa ?_ ?_<;>intro _)|refine ixN (enc:=eD) default (by omega) ?_)<;>conv=>whnf)|(refine apN (by rw [hlo]; show i+1<=_; omega) ?_;conv=>whnf)|((first|refine wq ?_)<;>conv=>whnf)
     refine ⟨i+1,by omega,by simp only; omega,?_⟩
     repeat' (first|exact True.intro|((conv=>whnf);first|exact True.intro|refine ⟨by rfl,?_⟩|refine ⟨by first|omega|(show (_:Int)=_;first|omega|(dsimp only;omega))|exact xsu (by omega),?_⟩|refine ⟨?_,?_⟩))
   · have hend:(s.Done.map Done.Seq).take i=s.Done.map Done.Seq:=xx7 (by rw [xxs]; omega);rw [hend]
     (refine zA ?_)
     exact ⟨rfl,rfl⟩
def pactM (c:Clerk) (i:Int):Msg:=⟨4,i,0,c.Round,Call.nil,c.Base,[],c.Done⟩
def freezeM (c:Clerk) (i:Int):Msg:=⟨2,i,0,c.Round,Call.nil,[],[],[]⟩
theorem xsv (c:Clerk) (n:Int) (hb':c.Base.length<=1000000) (hd:zDs c.Done<=1000000):Sem P 163 [(.pure,.agg (aK c)),(.pure,I n)] [] (.agg (aM (pactM c n))):=by
 have la:=xb c.Base;refine fK [2009] Go.Proofs.Tryz.f163 fun hb=>?_;conv=>whnf
 repeat' first|((first|refine zz ?_|(refine xa ?_ ?_<;>intro _)|refine apI ?_)<;>conv=>whnf)|(refine apN (by simp only [xyf]; omega) ?_;conv=>whnf)|((first|refine ⟨_,kv c.Done hd,?_⟩)<;>conv=>whnf)
 exact ⟨rfl,rfl⟩
theorem xsw (f:Int->Msg) (i:Nat):((List.range i).map fun (k:Nat)=>f k).map eM++[eM (f i)]=((List.range (i+1)).map fun (k:Nat)=>f k).map eM:=by
 rw [List.range_succ,xy1,xy1]; rfl
theorem xiv (p:Plan) (c:Clerk) (hg:c.Got.length=p.Gives.length) (h3:p.Gives.length<=1000) (hb':c.Base.length<=1000000) (hd:zDs c.Done<=1000000):Sem P 263 [(.pure,.agg (aPl p)),(.pure,.agg (aK c))] [] (.one (sMs (pacts c))):=by
 have lg:=xb p.Gives;refine fO Go.Proofs.Tryz.f263 fun hb=>?_;conv=>whnf
 (refine zA ?_)
 refine Vc.loop1 (fun (i:Nat)=>i<=p.Gives.length) (fun i=>updL [0,1,2,3,4] [(6,I i),(5,.one (.ref 128000))] [(128000,.arr 55 (((List.range i).map fun (k:Nat)=>pactM c k).map eM) false)]) (fun i=>p.Gives.length - i) 0 (xyb _) ?_ (fun i hi=>?_)
 · exact wk
 · have hlo:(((List.range i).map fun (k:Nat)=>pactM c k).map eM).length=i:=by simp
   conv=>whnf
   (refine zA ?_)
   refine xd (fun g=>?_) (fun g=>?_)
   all_goals conv=>whnf
   · repeat' first|((first|refine zz ?_|(refine xa ?_ ?_<;>intro _)|refine ⟨_,xsv c i hb' hd,?_⟩)<;>conv=>whnf)|(refine apN (by rw [hlo]; show i+1<=_; omega) ?_;conv=>whnf)|((first|refine wq ?_)<;>conv=>whnf)
     refine ⟨i+1,by omega,by simp only; omega,?_⟩
     repeat' (first|exact True.intro|((conv=>whnf);first|exact True.intro|refine ⟨by rfl,?_⟩|refine ⟨by first|omega|(show (_:Int)=_;first|omega|(dsimp only;omega))|exact xsw (pactM c) i,?_⟩|refine ⟨?_,?_⟩))
   ·
    (refine zA ?_)
    have e:i=c.Got.length:=by omega
    subst e;exact ⟨rfl,rfl⟩
theorem xwc (c:Clerk):(!c.Wants.isEmpty || c.Got.any Got.Has)=(decide ((c.Wants.length:Int)>0) || decide ((c.Got.countP Got.Has:Int)>0)):=by
 have e1:(!c.Wants.isEmpty)=decide ((c.Wants.length:Int)>0):=by
  cases c.Wants with
  | nil=>rfl
  | cons a r=>symm; simp only [List.isEmpty_cons,x0t,xxy,xyg]; omega
 have e2:c.Got.any Got.Has=decide ((c.Got.countP Got.Has:Int)>0):=by
  cases h:c.Got.any Got.Has with
  | true =>
    symm;obtain ⟨x,hx,hh⟩:=List.any_eq_true.1 h;have:=List.countP_pos_iff.2 ⟨x,hx,hh⟩;simp only [xxy]; omega
  | false =>
    symm;have:=List.countP_eq_zero.2 (fun x hx=>by have:=List.any_eq_false.1 h x hx; exact this);rw [this]; rfl
 rw [e1,e2]
theorem xp4 (l:List Msg) (f:Int->Msg) (i:Nat):(l++(List.range i).map fun (k:Nat)=>f k).map eM++[eM (f i)]=(l++(List.range (i+1)).map fun (k:Nat)=>f k).map eM:=by
 rw [List.range_succ,xy1,xy1,xy1,xy1,xyl]; rfl
theorem xsx (p:Plan) (c:Clerk) (hg:c.Got.length=p.Gives.length) (h3:p.Gives.length<=1000) (hb':c.Base.length<=1000000) (hd:zDs c.Done<=1000000):Sem P 211 [(.pure,.agg (aPl p)),(.pure,.agg (aK c))] [] (.one (sMs (clerkTick c))):=by
 have lg:=xb p.Gives;have lw:(c.Wants.map eC).length=c.Wants.length:=xxs ..;have te:=xwc c
 cases hu:c.Up with
 | false =>
   obtain ⟨up,rd,bs,dn,wa,go⟩:=c;simp only at hu;subst hu;refine fK [4002] Go.Proofs.Tryz.f211 fun hb=>?_;conv=>whnf
   repeat' first|((first|refine zz ?_|(refine xa ?_ ?_<;>intro _))<;>conv=>whnf)
   exact ⟨rfl,rfl⟩
 | true =>
   have lp:((pacts c).map eM).length=p.Gives.length:=by simp [pacts,hg]
   have hT:=xiv p c hg h3 hb' hd;have e:clerkTick c=pacts c++(if !c.Wants.isEmpty || c.Got.any Got.Has then freezes c else []):=by unfold clerkTick; rw [hu]; rfl
   have hH:=xbc c;obtain ⟨up,rd,bs,dn,wa,go⟩:=c;simp only at hu hg hb' hd lw;subst hu;rw [te] at e;simp only at e
   cases hf:(decide ((wa.length:Int)>0) || decide ((go.countP Got.Has:Int)>0)) with
   | false =>
     rw [hf] at e;simp only [x0y] at hf;refine fK [4002] Go.Proofs.Tryz.f211 fun hb=>?_;conv=>whnf
     repeat' first|((first|refine zz ?_|(refine xa ?_ ?_<;>intro _)|refine ⟨_,hT,?_⟩)<;>conv=>whnf)
     refine Vc.loop1 (fun (i:Nat)=>i<=0) (fun i=>updL [0,1,2,3,4] [(6,I i),(5,.one (.ref 256128))] [(256128,.arr 55 ((pacts ⟨true,rd,bs,dn,wa,go⟩++(List.range i).map fun (k:Nat)=>freezeM ⟨true,rd,bs,dn,wa,go⟩ k).map eM) false)]) (fun i=>p.Gives.length - i) 0 (xyb _) ?_ (fun i hi=>?_)
     · repeat' (first|exact True.intro|((conv=>whnf);first|exact True.intro|refine ⟨by rfl,?_⟩|refine ⟨by first|omega|(show (_:Int)=_;first|omega|(dsimp only;omega))|exact (by simp),?_⟩|refine ⟨?_,?_⟩))
     · obtain rfl:i=0:=by omega
       conv=>whnf
       repeat' first|((first|refine zz ?_|(refine xa ?_ ?_<;>intro _)|refine ⟨_,hH,?_⟩|refine wq ?_)<;>conv=>whnf)
       all_goals first
        | (exfalso; clear e hT hH hb te; simp only [xzi,xxy,xx5] at *; omega)
        | (refine ⟨?_,rfl⟩; rw [e]; simp; done)
   | true =>
     rw [hf] at e;refine fK [4002] Go.Proofs.Tryz.f211 fun hb=>?_;conv=>whnf
     repeat' first|((first|refine zz ?_|(refine xa ?_ ?_<;>intro _)|refine ⟨_,hT,?_⟩)<;>conv=>whnf)
     refine Vc.loop1 (fun (i:Nat)=>i<=p.Gives.length) (fun i=>updL [0,1,2,3,4] [(6,I i),(5,.one (.ref 256128))] [(256128,.arr 55 ((pacts ⟨true,rd,bs,dn,wa,go⟩++(List.range i).map fun (k:Nat)=>freezeM ⟨true,rd,bs,dn,wa,go⟩ k).map eM) false)]) (fun i=>p.Gives.length - i) 0 (xyb _) ?_ (fun i hi=>?_)
     · repeat' (first|exact True.intro|((conv=>whnf);first|exact True.intro|refine ⟨by rfl,?_⟩|refine ⟨by first|omega|(show (_:Int)=_;first|omega|(dsimp only;omega))|exact (by simp),?_⟩|refine ⟨?_,?_⟩))
     · have hlo:((pacts ⟨true,rd,bs,dn,wa,go⟩++(List.range i).map fun (k:Nat)=>freezeM ⟨true,rd,bs,dn,wa,go⟩ k).map eM).length=p.Gives.length+i:=by simp [pacts,hg]
       conv=>whnf
       repeat' first|((first|refine zz ?_|(refine xa ?_ ?_<;>intro _)|refine ⟨_,hH,?_⟩)<;>conv=>whnf)|(refine apN (by rw [hlo]; show _+1<=_; omega) ?_;conv=>whnf)|((first|refine wq ?_)<;>conv=>whnf)
       all_goals first
        | (exfalso; clear e hT hH hb te hlo; simp only [xzi,xxy,xx5] at *; omega)
        | (refine ⟨i+1,by simp only [xxy] at *; omega,by simp only [xxy] at *; omega,?_⟩
           repeat' (first|exact True.intro|((conv=>whnf);first|exact True.intro|refine ⟨by rfl,?_⟩|refine ⟨by first|omega|(show (_:Int)=_;first|omega|(dsimp only;omega))|exact xp4 _ (freezeM ⟨true,rd,bs,dn,wa,go⟩) i,?_⟩|refine ⟨?_,?_⟩))
           done)
        | (refine ⟨?_,rfl⟩
           rw [e];have ei:i=go.length:=by simp only [xx5] at *; omega
           subst ei
           rfl)
theorem w4 (c:Clerk):∀ (k:Nat) (a b:AV),(aKo c)[k]?=some a->(eK c)[k]?=some b->Cold a b:=fun k a b ha hb=>by
 match k,ha,hb with
 | 0,ha,hb=>cases ha; cases hb; exact xl
 | 1,ha,hb=>cases ha; cases hb; exact xl
 | 2,ha,hb=>cases ha; cases hb; exact xg
 | 3,ha,hb=>cases ha; cases hb; exact xg
 | 4,ha,hb=>cases ha; cases hb; exact xg
 | 5,ha,hb=>cases ha; cases hb; exact xer c.Got
 | k+6,ha,hb=>simp at ha
theorem vp (c:Clerk):∀ (k:Nat) (a b:AV),(aK c)[k]?=some a->(eK c)[k]?=some b->Cold a b:=fun k a b ha hb=>by
 match k,ha,hb with
 | 0,ha,hb=>cases ha; cases hb; exact xl
 | 1,ha,hb=>cases ha; cases hb; exact xl
 | 2,ha,hb=>cases ha; cases hb; exact xg
 | 3,ha,hb=>cases ha; cases hb; exact xg
 | 4,ha,hb=>cases ha; cases hb; exact xg
 | 5,ha,hb=>cases ha; cases hb; exact xg
 | k+6,ha,hb=>simp at ha
theorem xp5 (p:Plan) (c:Clerk) (up:Bool) (hz:zK c<=1000000) (hg:c.Got.length=p.Gives.length) (h3:p.Gives.length<=100):Sem P 213 [(.pure,.agg (aPl p)),(.pure,.agg (aK c)),(.pure,B up)] [] (.agg (eK (clerkFall c up))):=by
 have hcp:=zh c hz;by_cases h:c.Up=up
 · have e:clerkFall c up=c:=by unfold clerkFall; rw [if_pos h]
   rw [e];subst h;refine Sem.cold (cs:=aKo c) (cs':=eK c) rfl (w4 c) ?_;refine fK [2001,5001] Go.Proofs.Tryz.f213 fun hb=>?_;conv=>whnf
   repeat' first|((first|refine zz ?_|(refine xa ?_ ?_<;>intro _)|refine ⟨_,hcp,?_⟩)<;>conv=>whnf)
   all_goals first
    | exact ⟨rfl,rfl⟩
    | (exfalso; clear hcp hb; simp_all; done)
 · have e:clerkFall c up={ forget c with Up:=up }:=by unfold clerkFall; rw [if_neg h]
   rw [e];refine Sem.cold (cs:=aK { forget c with Up:=up }) (cs':=eK { forget c with Up:=up }) rfl (vp _) ?_;have hN:=xed p h3;rw [<- hg] at hN;refine fK [2001,5001] Go.Proofs.Tryz.f213 fun hb=>?_;conv=>whnf
   repeat' first|((first|refine zz ?_|(refine xa ?_ ?_<;>intro _)|refine ⟨_,hcp,?_⟩|refine ⟨_,hN,?_⟩)<;>conv=>whnf)
   all_goals first
    | exact ⟨rfl,rfl⟩
    | (exfalso; clear hcp hb; simp_all; done)
theorem xwd {f:Form} {v a:List Int} (hf:f.bd 10000000) (hv:nums v 3) (ha:nums a 2) : -1000000000000000000<=f.at v a/\f.at v a<=1000000000000000000:=by
 obtain ⟨a,b,c,d,e,k,rfl,h1,h2,h3,h4,h5,h6⟩:=bdE hf;obtain ⟨x,y,z,rfl,v1,v2,v3⟩:=nums3 hv;obtain ⟨g,h,rfl,w1,w2⟩:=nums2 ha;have p1:=xj h1 v1;have p2:=xj h2 v2;have p3:=xj h3 v3;have p4:=xj h4 w1;have p5:=xj h5 w2;simp only [Form.at,dot];omega
def oth (l:List Int) (k i:Nat):Int:=(l.take i).sum - (if k<i then l.getD k 0 else 0)
theorem xlg (l:List Int) (k:Nat):oth l k 0=0:=by unfold oth; rw [if_neg (by omega)]; simp
theorem xlh {l:List Int} {k i:Nat} (h:i<l.length):oth l k (i+1)=oth l k i+(if i=k then 0 else l.getD i 0):=by
 unfold oth;have e:(l.take (i+1)).sum=(l.take i).sum+l.getD i 0:=by
  have:=xp h;rw [this,List.sum_append];show _+(l.getD i 0+0)=_;omega
 rw [e];by_cases h1:i=k
 · subst h1; rw [if_pos (by omega),if_neg (by omega),if_pos rfl]; omega
 · rw [if_neg h1];by_cases h2:k<i
   · rw [if_pos h2,if_pos (by omega)]; omega
   · rw [if_neg h2,if_neg (by omega)]; omega
theorem xg3 {l:List Int} {k:Nat} (hg:∀ x∈l,0<=x/\x<=50):∀ {i:Nat},i<=l.length->0<=oth l k i/\oth l k i<=50*i
 | 0,_=>by rw [xlg]; omega
 | i+1,h=>by
   have ih:=xg3 (k:=k) hg (i:=i) (by omega);have:=hg (l.getD i 0) (by rw [xxx,xxr (by omega)]; exact xyy _);rw [xlh (by omega)]
   split<;>omega
theorem xn9 {l:List Int} {k:Nat} (h:k<l.length):oth l k l.length=others l k:=by
 unfold oth others;rw [xx7 (xy3 _),if_pos h,if_pos (by omega),xym]
theorem xfg (t:Treaty) (k:Nat) (hk:k<t.Gives.length) (h3:t.Gives.length<=3) (hg:∀ x∈t.Gives,0<=x/\x<=50):Sem P 308 [(.pure,.agg (aT t)),(.pure,I k)] [] (I (others t.Gives k)):=by
 have lg:=xb t.Gives;refine fO Go.Proofs.Tryz.f308 fun hb=>?_;conv=>whnf
 (refine zA ?_)
 refine Vc.loop2 (fun (i:Nat) (n:Int)=>i<=t.Gives.length/\n=oth t.Gives k i) (fun i n=>updL [1,2,4,24] [(6,I i),(5,I n)] []) (fun i _=>t.Gives.length - i) 0 0 ⟨xyb _,(xlg _ _).symm⟩ ?_ (fun i n hi=>?_)
 · exact wk
 · obtain ⟨hi,rfl⟩:=hi;conv=>whnf
   (refine zA ?_)
   refine xd (fun g=>?_) (fun g=>?_)
   all_goals conv=>whnf
   · have hil:i<t.Gives.length:=by omega
     have es:=xlh (k:=k) hil;have b0:=xg3 (k:=k) hg hi;have b1:=xg3 (k:=k) hg (i:=i+1) (by omega);have hx:=hg (t.Gives.getD i 0) (by rw [xxx,xxr (by omega)]; exact xyy _)
     repeat' first|((first|refine zz ?_|(refine xa ?_ ?_<;>intro _)|refine ixN (enc:=rI) 0 (by omega) ?_|refine wq ?_)<;>conv=>whnf)
     · rename_i h;have h':¬ i=k:=by have:=yt h; omega
       rw [if_neg h'] at es;refine ⟨i+1,oth t.Gives k i+t.Gives.getD i 0,⟨by omega,es.symm⟩,by simp only; omega,?_⟩;exact wk
     · rename_i h;have h':i=k:=by have:=yu h; omega
       rw [if_pos h'] at es;refine ⟨i+1,oth t.Gives k i,⟨by omega,by omega⟩,by simp only; omega,?_⟩;exact wk
   ·
    (refine zA ?_)
    have e:i=t.Gives.length:=by omega
    subst e;exact rI' (xn9 hk)
theorem xux {c:List Int} (h:c.length=3):decide (part c=[0,0,0])=zeros c:=by
 obtain ⟨x,y,z,rfl⟩:=len3 h
 cases hz:zeros [x,y,z] with
 | true =>
   have h0:∀ u∈[x,y,z],u=0:=by simpa [zeros] using hz
   rw [xih h0];have:=h0 x (by simp); have:=h0 y (by simp); have:=h0 z (by simp);simp_all
 | false =>
   refine x0l fun e=>?_;have hs:(x=0/\y=0/\z=0)\/sign [x,y,z]=1\/sign [x,y,z] = -1:=by
    simp only [sign];by_cases h1:x>0
    · rw [if_pos h1]; simp
    · by_cases h2:x<0
      · rw [if_neg h1,if_pos h2]; simp
      · rw [if_neg h1,if_neg h2];by_cases h3:y>0
        · rw [if_pos h3]; simp
        · by_cases h4:y<0
          · rw [if_neg h3,if_pos h4]; simp
          · rw [if_neg h3,if_neg h4];by_cases h5:z>0
            · rw [if_pos h5]; simp
            · by_cases h6:z<0
              · rw [if_neg h5,if_pos h6]; simp
              · left; omega
   simp only [part,xyn,x0i,x1q,x1l] at e;have:x=0/\y=0/\z=0:=by
    rcases hs with hs|hs|hs
    · exact hs
    · rw [hs] at e; omega
    · rw [hs] at e; omega
   obtain ⟨rfl,rfl,rfl⟩:=this;simp [zeros] at hz
theorem xwe (l:List (List Int)) (p:List Int):decide (idxOf (fun q=>decide (q=p)) l<0)=!has l p:=by
 have:=zg (fun q=>decide (q=p)) l;unfold has;rw [<- this];simp only [<- Int.not_le,decide_not]
theorem xsy {t:Treaty} (h:trtOk t=true):t.Gives.length<=3/\∀ x∈t.Gives,0<=x/\x<=50:=by
 unfold trtOk givesOk at h;simp only [xxt,xxv,xc] at h;exact ⟨by omega,h.2.2⟩
theorem xoa {t:Treaty} (h:trtOk t=true):valOk t.Base=true:=by unfold trtOk at h; simp only [xxt] at h; exact h.1
theorem ql {a:List Int} (h:argOk a=true):nums a 2:=by
 have:=xe.1 h;exact ⟨this.1,fun x hx=>by have:=this.2 x hx; omega⟩
theorem xuy {t:Treaty} {a:List Int} (h:trtOk t=true) (ha:addedOk a=true):nums (plus t.Base a) 3:=by
 have h1:=xe.1 (xoa h);have h2:=xq ha;have:=xn8 h1.1 h2.1 h1.2 h2.2;exact ⟨this.1,fun x hx=>by have:=this.2 x hx; omega⟩
abbrev tB (b:Int × Int × Bool):TV:=.tup [(false,[eI b.1]),(false,[eI b.2.1]),(false,[eB b.2.2])]
theorem xfh (t:Treaty) (parts:List (List Int)) (s:Int) (a:List Int) (f:Form) (args:List Int):Sem P 288 [(.pure,.agg (aT t)),(.pure,.one (sPs parts)),(.pure,I s),(.pure,AI a),(.pure,.agg (aF f)),(.pure,AI args)] [] (tB (bounds t parts s a f args)):=by
 have lg:=xb t.Gives;by_cases hok:(trtOk t && partsOk parts && inB s 0 (t.Gives.length - 1) && addedOk a && f.ok && argOk args)=true
 · have h:=hok;simp only [xxt] at h;obtain ⟨⟨⟨⟨⟨h1,h2⟩,h3⟩,h4⟩,h5⟩,h6⟩:=h;have hs:=xc.1 h3;obtain ⟨k,rfl⟩:∃ k:Nat,s=k:=⟨s.toNat,by omega⟩;have hk:k<t.Gives.length:=by omega
   obtain ⟨g3,gv⟩:=xsy h1;have hfb:=zk.1 h5;have hn:=xuy h1 h4;have hat:=xwd hfb hn (ql h6);have b3:=xe.1 (xoa h1);have a3:=xq h4;have ob:=xg3 (k:=k) gv (xy3 t.Gives.length);rw [xn9 hk] at ob
   have e:bounds t parts k a f args=if zeros f.C then (f.at (plus t.Base a) args,f.at (plus t.Base a) args,true) else if has parts (part f.C) then (f.at (plus t.Base a) args - others t.Gives k,f.at (plus t.Base a) args+others t.Gives k,true) else (0,0,false):=by
    unfold bounds; rw [if_pos hok]
   have hp:=xux (c:=f.C) hfb.1.1;have hi:=xwe parts (part f.C);have hS:=xd8 (part f.C) [0,0,0];rw [hp] at hS;have i1:=ju t;rw [h1] at i1;have i2:=jw parts;rw [h2] at i2;have i3:Sem P 91 [(.pure,I k),(.pure,I 0),(.pure,I ((ints t.Gives).length - 1))] [] (B true):=by
    have:=xi k 0 ((ints t.Gives).length - 1);rw [lg,h3] at this; rw [lg]; exact this
   have i4:=x9 a 3 20000 (by omega);rw [show within a 3 20000=true from h4] at i4;have i5:=qn f;rw [h5] at i5;have i6:=jr args;rw [h6] at i6;rw [e];clear e hp
   cases hz:zeros f.C with
   | true =>
     rw [hz] at hS;refine fO Go.Proofs.Tryz.f288 fun hb=>?_;have hb1:(ints t.Gives).length<=1125899906842624:=(hb.1 (sI t.Gives) (by simp)).1;conv=>whnf
     repeat' first|((first|refine zz ?_|(refine xa ?_ ?_<;>intro _)|refine ⟨_,i1,?_⟩|refine ⟨_,i2,?_⟩|refine ⟨_,i3,?_⟩|refine ⟨_,i4,?_⟩|refine ⟨_,i5,?_⟩|refine ⟨_,i6,?_⟩)<;>conv=>whnf)|(refine ⟨_,ka t.Base a b3.1 a3.1 (fun x hx=>by have:=b3.2 x hx; omega) (fun x hx=>by have:=a3.2 x hx; omega),?_⟩;conv=>whnf)|((first|refine ⟨_,qt f (plus t.Base a) args hfb hn (ql h6),?_⟩)<;>conv=>whnf)|(refine ⟨_,xba f.C f.D f.K (by rw [hfb.1.1]; decide) (fun x hx=>by have:=hfb.2.1 x hx; omega),?_⟩;conv=>whnf)|((first|refine ⟨_,zr,?_⟩|refine ⟨_,hS,?_⟩|refine wq ?_)<;>conv=>whnf)
     exact ⟨rfl,rfl⟩
   | false =>
     rw [hz] at hS
     cases hh:has parts (part f.C) with
     | true =>
       rw [hh] at hi;refine fO Go.Proofs.Tryz.f288 fun hb=>?_;have hb1:(ints t.Gives).length<=1125899906842624:=(hb.1 (sI t.Gives) (by simp)).1;conv=>whnf
       repeat' first|((first|refine zz ?_|(refine xa ?_ ?_<;>intro _)|refine ⟨_,i1,?_⟩|refine ⟨_,i2,?_⟩|refine ⟨_,i3,?_⟩|refine ⟨_,i4,?_⟩|refine ⟨_,i5,?_⟩|refine ⟨_,i6,?_⟩)<;>conv=>whnf)|(refine ⟨_,ka t.Base a b3.1 a3.1 (fun x hx=>by have:=b3.2 x hx; omega) (fun x hx=>by have:=a3.2 x hx; omega),?_⟩;conv=>whnf)|((first|refine ⟨_,qt f (plus t.Base a) args hfb hn (ql h6),?_⟩)<;>conv=>whnf)|(refine ⟨_,xba f.C f.D f.K (by rw [hfb.1.1]; decide) (fun x hx=>by have:=hfb.2.1 x hx; omega),?_⟩;conv=>whnf)|((first|refine ⟨_,zr,?_⟩|refine ⟨_,hS,?_⟩|refine ⟨_,xfr parts (part f.C),?_⟩|refine ⟨_,xfg t k hk g3 gv,?_⟩|refine wq ?_)<;>conv=>whnf)
       all_goals first
        | exact ⟨rfl,rfl⟩
        | (exfalso; rename_i hx; rw [hi] at hx; cases hx)
     | false =>
       rw [hh] at hi;refine fO Go.Proofs.Tryz.f288 fun hb=>?_;have hb1:(ints t.Gives).length<=1125899906842624:=(hb.1 (sI t.Gives) (by simp)).1;conv=>whnf
       repeat' first|((first|refine zz ?_|(refine xa ?_ ?_<;>intro _)|refine ⟨_,i1,?_⟩|refine ⟨_,i2,?_⟩|refine ⟨_,i3,?_⟩|refine ⟨_,i4,?_⟩|refine ⟨_,i5,?_⟩|refine ⟨_,i6,?_⟩)<;>conv=>whnf)|(refine ⟨_,ka t.Base a b3.1 a3.1 (fun x hx=>by have:=b3.2 x hx; omega) (fun x hx=>by have:=a3.2 x hx; omega),?_⟩;conv=>whnf)|((first|refine ⟨_,qt f (plus t.Base a) args hfb hn (ql h6),?_⟩)<;>conv=>whnf)|(refine ⟨_,xba f.C f.D f.K (by rw [hfb.1.1]; decide) (fun x hx=>by have:=hfb.2.1 x hx; omega),?_⟩;conv=>whnf)|((first|refine ⟨_,zr,?_⟩|refine ⟨_,hS,?_⟩|refine ⟨_,xfr parts (part f.C),?_⟩|refine ⟨_,xfg t k hk g3 gv,?_⟩|refine wq ?_)<;>conv=>whnf)
       all_goals first
        | exact ⟨rfl,rfl⟩
        | (exfalso; rename_i hx; rw [hi] at hx; cases hx)
 · refine fO Go.Proofs.Tryz.f288 fun hb=>?_;have hb1:(ints t.Gives).length<=1125899906842624:=(hb.1 (sI t.Gives) (by simp)).1;conv=>whnf
   repeat' first|((first|refine zz ?_|(refine xa ?_ ?_<;>intro _)|refine ⟨_,ju t,?_⟩|refine ⟨_,jw parts,?_⟩|refine ⟨_,xi _ _ _,?_⟩|refine ⟨_,x9 a 3 _ (by omega),?_⟩|refine ⟨_,qn f,?_⟩|refine ⟨_,jr args,?_⟩|refine wq ?_)<;>conv=>whnf)
   all_goals first
    | (refine ⟨?_,rfl⟩; unfold bounds; rw [if_neg hok]; done)
    | (exfalso; refine hok ?_; simp_all [addedOk]; done)
theorem xsz (t:Treaty) (parts:List (List Int)) (s:Int) (a:List Int) (r:Row) (args:List Int):Sem P 249 [(.pure,.agg (aT t)),(.pure,.one (sPs parts)),(.pure,I s),(.pure,AI a),(.pure,.agg (aW r)),(.pure,AI args)] [] (B (r.Guards.all (sure t parts s a args))):=by
 have se:∀ g,sure t parts s a args g=((bounds t parts s a g args).2.2 && decide (0<=(bounds t parts s a g args).1)):=fun _=>rfl;refine fO Go.Proofs.Tryz.f249 fun hb=>?_;have hb1:(r.Guards.map eF).length<=1125899906842624:=(hb.2.2.2.2.1 (sFs r.Guards) (by simp)).1;have hlg:(r.Guards.map eF).length=r.Guards.length:=xxs ..;conv=>whnf
 (refine zA ?_)
 refine Vc.loop1 (fun (i:Nat)=>i<=r.Guards.length/\∀ j,j<i->sure t parts s a args (r.Guards.getD j default)=true) (fun i=>updL [1,2,3,5,6,10] [(13,I i)] []) (fun i=>r.Guards.length - i) 0 ⟨xyb _,fun j hj=>absurd hj (xza j)⟩ ?_ (fun i hi=>?_)
 · exact wk
 · obtain ⟨hi,ho⟩:=hi;conv=>whnf
   (refine zA ?_)
   refine xd (fun g=>?_) (fun g=>?_)
   all_goals conv=>whnf
   · have hil:i<r.Guards.length:=by omega
     have sx:=se (r.Guards.getD i default);have hB:=xfh t parts s a (r.Guards.getD i default) args;generalize bounds t parts s a (r.Guards.getD i default) args=b at hB sx;obtain ⟨lo,up,ok⟩:=b
     cases ok with
     | false =>
       repeat' first|((first|refine zz ?_|(refine xa ?_ ?_<;>intro _)|refine ixN (enc:=eF) default hil ?_|refine ⟨_,hB,?_⟩|refine wq ?_)<;>conv=>whnf)
       all_goals first
        | exact rB (zw default hil (by rw [sx]; rfl)).symm
     | true =>
       repeat' first|((first|refine zz ?_|(refine xa ?_ ?_<;>intro _)|refine ixN (enc:=eF) default hil ?_|refine ⟨_,hB,?_⟩|refine wq ?_)<;>conv=>whnf)
       all_goals first
        | (refine ⟨i+1,⟨by omega,fun j hj=>?_⟩,by simp only; omega,?_⟩
           · by_cases hji:j<i
             · exact ho j hji
             · obtain rfl:j=i:=by omega
               rw [sx];simp only [xx5] at *;simp only [xzq,xxy];omega
           · exact wk)
        | (refine rB (zw default hil ?_).symm
           rw [sx];simp only [xxy] at *;simp only [xzq,xx5]
           omega)
   ·
    (refine zA ?_)
    exact rB (zu default fun j hj=>ho j (by omega)).symm
def qb (b:Int × Int × Bool):Bool:=b.2.2 && (decide (b.1>10000) || decide (b.2.1 < -10000))
def jx (b:Int × Int × Bool):Bool:=!b.2.2 || decide (b.1 < -10000) || decide (b.2.1>10000)
theorem xli (t:Treaty) (parts:List (List Int)) (s:Int) (a:List Int):rangeOf t parts s a =
 (if qb (bounds t parts s a (Form.pot 0) [0,0]) || (qb (bounds t parts s a (Form.pot 1) [0,0]) || qb (bounds t parts s a (Form.pot 2) [0,0])) then 2
  else if jx (bounds t parts s a (Form.pot 0) [0,0]) || (jx (bounds t parts s a (Form.pot 1) [0,0]) || jx (bounds t parts s a (Form.pot 2) [0,0])) then 0 else 1):=by
 unfold rangeOf qb jx;simp only [xyn,x0i,x15,List.any_nil,x00]
def rng (f:Nat->Bool):Nat->Int
 | 0=>1
 | v+1=>if f v then 0 else rng f v
theorem rng3 (f:Nat->Bool):rng f 3=if f 0 || (f 1 || f 2) then 0 else 1:=by
 simp only [rng];cases f 0<;>cases f 1<;>cases f 2<;>rfl
theorem xp6 (t:Treaty) (parts:List (List Int)) (s:Int) (a:List Int):Sem P 290 [(.pure,.agg (aT t)),(.pure,.one (sPs parts)),(.pure,I s),(.pure,AI a)] [] (I (rangeOf t parts s a)):=by
 rw [xli];have hB:=fun v:Nat=>xfh t parts s a (Form.pot v) [0,0];generalize hf:(fun v:Nat=>bounds t parts s a (Form.pot v) [0,0])=f;have hf':∀ v,bounds t parts s a (Form.pot v) [0,0]=f v:=fun v=>congrFun hf v;simp only [hf'] at hB ⊢;clear hf hf';refine fO Go.Proofs.Tryz.f290 fun hb=>?_;conv=>whnf
 (refine zA ?_)
 refine Vc.loop2 (fun (v:Nat) (o:Int)=>v<=3/\(∀ u,u<v->qb (f u)=false)/\o=rng (fun u=>jx (f u)) v) (fun v o=>updL [1,2,3,4,49] [(10,I v),(9,I o)] []) (fun v _=>3 - v) 0 1 ⟨by omega,fun u hu=>absurd hu (xza u),rfl⟩ ?_ (fun v o hv=>?_)
 · exact wk
 · obtain ⟨hv,ho,rfl⟩:=hv;conv=>whnf
   (refine zA ?_)
   refine xd (fun g=>?_) (fun g=>?_)
   all_goals conv=>whnf
   · have hv3:v<3:=by omega
     have hBv:=hB v;have all2:qb (f v)=true->(qb (f 0) || (qb (f 1) || qb (f 2)))=true:=fun h=>by
      match v,hv3 with
      | 0,_=>rw [h]; rfl
      | 1,_=>rw [h,Bool.true_or,x17]
      | 2,_=>rw [h,x17,x17]
     have go1:qb (f v)=false->∀ u,u<v+1->qb (f u)=false:=fun h u hu=>by
      by_cases huv:u<v
      · exact ho u huv
      · obtain rfl:u=v:=by omega
        exact h
     have go0:jx (f v)=true->(0:Int)=rng (fun u=>jx (f u)) (v+1):=fun h=>by simp only [rng,h,if_true]
     have go2:jx (f v)=false->rng (fun u=>jx (f u)) v=rng (fun u=>jx (f u)) (v+1):=fun h=>by simp only [rng,h]; rfl
     generalize rng (fun u=>jx (f u)) v=o at *;generalize (qb (f 0) || (qb (f 1) || qb (f 2)))=ov at *;generalize f v=b at *;obtain ⟨lo,up,ok⟩:=b
     cases ok with
     | false =>
       repeat' first|((first|refine zz ?_|(refine xa ?_ ?_<;>intro _)|refine ⟨_,za v hv3,?_⟩|refine ⟨_,hBv,?_⟩|refine wq ?_)<;>conv=>whnf)
       refine ⟨v+1,0,⟨by omega,go1 rfl,go0 rfl⟩,by simp only; omega,?_⟩;exact wk
     | true =>
       cases hov:qb (lo,up,true) with
       | true =>
         have hdi:True:=trivial
         repeat' first|((first|refine zz ?_|(refine xa ?_ ?_<;>intro _)|refine ⟨_,za v hv3,?_⟩|refine ⟨_,hBv,?_⟩|refine wq ?_)<;>conv=>whnf)
         all_goals first
          | (exfalso; clear go0 go1 go2 all2 hB hBv hb ho; simp only [qb] at hov; simp_all; done)
          | exact rI' (by rw [if_pos (all2 hov)])
       | false =>
         cases hdi:jx (lo,up,true) with
         | true =>
           repeat' first|((first|refine zz ?_|(refine xa ?_ ?_<;>intro _)|refine ⟨_,za v hv3,?_⟩|refine ⟨_,hBv,?_⟩|refine wq ?_)<;>conv=>whnf)
           all_goals first
            | (exfalso; clear go0 go1 go2 all2 hB hBv hb ho; simp only [qb,jx] at hov hdi; simp_all; done)
            | (refine ⟨v+1,0,⟨by omega,go1 hov,go0 hdi⟩,by simp only; omega,?_⟩
               exact wk)
         | false =>
           repeat' first|((first|refine zz ?_|(refine xa ?_ ?_<;>intro _)|refine ⟨_,za v hv3,?_⟩|refine ⟨_,hBv,?_⟩|refine wq ?_)<;>conv=>whnf)
           all_goals first
            | (exfalso; clear go0 go1 go2 all2 hB hBv hb ho; simp only [qb,jx] at hov hdi; simp_all; done)
            | (refine ⟨v+1,o,⟨by omega,go1 hov,go2 hdi⟩,by simp only; omega,?_⟩
               exact wk)
   ·
    (refine zA ?_)
    have e:v=3:=by omega
    subst e;refine rI' ?_;rw [ho 0 (by omega),ho 1 (by omega),ho 2 (by omega),rng3];simp
theorem xlj {f:Form} {v a:List Int} (hf:f.bd 10000000) (hv:valOk v=true) (ha:argOk a=true) : -1000000000000<=f.at v a/\f.at v a<=1000000000000:=by
 obtain ⟨c1,c2,c3,d1,d2,k,rfl,h1,h2,h3,h4,h5,h6⟩:=bdE hf;obtain ⟨x,y,z,rfl,v1,v2,v3⟩:=within3 hv;obtain ⟨w1,w2⟩:=xe.1 ha;obtain ⟨g,h,rfl⟩:=len2 w1;have g1:=w2 g (by simp);have g2:=w2 h (by simp);have p1:=xj h1 v1;have p2:=xj h2 v2;have p3:=xj h3 v3;have p4:=xj h4 g1;have p5:=xj h5 g2;simp only [Form.at,dot];omega
theorem xcy {v:List Int} (h:valOk v=true):nums v 3:=by
 have:=xe.1 h;exact ⟨this.1,fun x hx=>by have:=this.2 x hx; omega⟩
theorem xs1 (t:Treaty) (p q r:Bool) (f0 f1 f2:Form) (G T:List Form) (st:Bool) (args:List Int) (h0:f0.bd 10000000) (h1:f1.bd 10000000) (h2:f2.bd 10000000) (hb':valOk t.Base=true) (ha:argOk args=true) :
 Sem P 289 [(.pure,.agg (aT t)),(.pure,.one (sBs [p,q,r])),(.pure,.agg (aW ⟨G,[f0,f1,f2],T,st⟩)),(.pure,AI args)] [] (.tup [(false,[sI (if unpinned [p,q,r] [f0.at t.Base args,f1.at t.Base args,f2.at t.Base args] then [f0.at t.Base args,f1.at t.Base args,f2.at t.Base args] else [0,0,0])]),(false,[eB (unpinned [p,q,r] [f0.at t.Base args,f1.at t.Base args,f2.at t.Base args])])]):=by
 have n0:=qt f0 t.Base args h0 (xcy hb') (ql ha);have n1:=qt f1 t.Base args h1 (xcy hb') (ql ha);have n2:=qt f2 t.Base args h2 (xcy hb') (ql ha);generalize f0.at t.Base args=x at *;generalize f1.at t.Base args=y at *;generalize f2.at t.Base args=z at *;have un:unpinned [p,q,r] [x,y,z]=((!p || decide (x=0)) && ((!q || decide (y=0)) && (!r || decide (z=0)))):=by simp [unpinned]
 rw [un];refine fO Go.Proofs.Tryz.f289 fun hb=>?_;conv=>whnf
 (refine zA ?_)
 refine Vc.loop1 (fun (v:Nat)=>v<=3/\(0<v->(!p || decide (x=0))=true)/\(1<v->(!q || decide (y=0))=true)/\(2<v->(!r || decide (z=0))=true)) (fun v=>updL [0,1,2,3,4,6,8,9] [(11,I v),(10,.one (.ref 128000))] [(128000,.arr 3 (ints ([x,y,z].take v)) false)]) (fun v=>3 - v) 0 (by simp) ?_ (fun v hv=>?_)
 · exact wk
 · match v,hv with
   | 0,hv =>
     conv=>whnf
     repeat' first|((first|refine zz ?_|(refine xa ?_ ?_<;>intro _)|refine ixK rfl ?_|refine ⟨_,n0,?_⟩|refine apN (by simp) ?_|refine wq ?_)<;>conv=>whnf)
     all_goals first
      | (refine ⟨1,by simp_all,by simp only; omega,?_⟩; exact wk)
      | (refine ⟨?_,rfl⟩; simp_all; done)
   | 1,hv =>
     conv=>whnf
     repeat' first|((first|refine zz ?_|(refine xa ?_ ?_<;>intro _)|refine ixK rfl ?_|refine ⟨_,n1,?_⟩|refine apN (by simp) ?_|refine wq ?_)<;>conv=>whnf)
     all_goals first
      | (refine ⟨2,by simp_all,by simp only; omega,?_⟩; exact wk)
      | (refine ⟨?_,rfl⟩; simp_all; done)
   | 2,hv =>
     conv=>whnf
     repeat' first|((first|refine zz ?_|(refine xa ?_ ?_<;>intro _)|refine ixK rfl ?_|refine ⟨_,n2,?_⟩|refine apN (by simp) ?_|refine wq ?_)<;>conv=>whnf)
     all_goals first
      | (refine ⟨3,by simp_all,by simp only; omega,?_⟩; exact wk)
      | (refine ⟨?_,rfl⟩; simp_all; done)
   | 3,hv =>
     obtain ⟨_,c0,c1,c2⟩:=hv;conv=>whnf
     (refine zA ?_)
     refine ⟨?_,rfl⟩;rw [c0 (by omega),c1 (by omega),c2 (by omega)];rfl
abbrev tR (b:Rslt × List Int × Bool):TV:=.tup [(true,aR b.1),(false,[sI b.2.1]),(false,[eB b.2.2])]
theorem xs3 (t:Treaty) (parts:List (List Int)) (pins:List Bool) (s:Int) (a:List Int) (r:Row) (args:List Int) (hr:r.Stop=true) (ha:a.length<=1000):Sem P 250 [(.pure,.agg (aT t)),(.pure,.one (sPs parts)),(.pure,.one (sBs pins)),(.pure,I s),(.pure,AI a),(.pure,.agg (aW r)),(.pure,AI args)] [] (tR (goRow t parts pins s a r args)):=by
 have la:=xb a;have e:goRow t parts pins s a r args=(⟨2,[]⟩,a,true):=by unfold goRow; rw [if_pos hr]
 rw [e];obtain ⟨G,A,T,st⟩:=r;simp only at hr;subst hr;refine fO Go.Proofs.Tryz.f250 fun hb=>?_;conv=>whnf
 repeat' first|((first|refine zz ?_|(refine xa ?_ ?_<;>intro _)|refine apI ?_)<;>conv=>whnf)|(refine apN (by simp only [xyf]; omega) ?_;conv=>whnf)
 exact ⟨rfl,rfl⟩
theorem xs4 (t:Treaty) (parts:List (List Int)) (p q u:Bool) (s:Int) (a:List Int) (f0 f1 f2:Form) (G T:List Form) (args:List Int) (h0:f0.bd 10000000) (h1:f1.bd 10000000) (h2:f2.bd 10000000) (hT:∀ f∈T,f.bd 10000000) (h100:T.length<=100)
 (hb':valOk t.Base=true) (ha:addedOk a=true) (hg:argOk args=true) :
 Sem P 250 [(.pure,.agg (aT t)),(.pure,.one (sPs parts)),(.pure,.one (sBs [p,q,u])),(.pure,I s),(.pure,AI a),(.pure,.agg (aW ⟨G,[f0,f1,f2],T,false⟩)),(.pure,AI args)] [] (tR (goRow t parts [p,q,u] s a ⟨G,[f0,f1,f2],T,false⟩ args)):=by
 have la:=xb a;have a3:=xq ha;have lT:(T.map eF).length=T.length:=xxs ..;have lT2:(List.map eF (Row.mk G [f0,f1,f2] T false).Tells).length=T.length:=xxs ..;have m0:=xlj h0 hb' hg;have m1:=xlj h1 hb' hg;have m2:=xlj h2 hb' hg;have hA:=xs1 t p q u f0 f1 f2 G T false args h0 h1 h2 hb' hg
 have go:goRow t parts [p,q,u] s a ⟨G,[f0,f1,f2],T,false⟩ args=(let adds:=[f0.at t.Base args,f1.at t.Base args,f2.at t.Base args]; let x:=plus a adds
  if !unpinned [p,q,u] adds || !addedOk x then (Rslt.nil,a,false)
  else if rangeOf t parts s x=2 then (⟨3,[]⟩,a,true)
  else if rangeOf t parts s x=0 then (Rslt.nil,a,false)
  else if !trtKeeps t parts s x then (Rslt.nil,a,false)
  else (⟨1,T.map fun f=>f.at t.Base args⟩,x,true)):=rfl
 rw [go];clear go;simp only
 cases hf:unpinned [p,q,u] [f0.at t.Base args,f1.at t.Base args,f2.at t.Base args] with
 | false =>
   rw [hf] at hA;refine fK [5002] Go.Proofs.Tryz.f250 fun hb=>?_;conv=>whnf
   repeat' first|((first|refine zz ?_|(refine xa ?_ ?_<;>intro _)|refine ⟨_,hA,?_⟩)<;>conv=>whnf)|(refine ⟨_,ka a [0,0,0] a3.1 rfl (fun x hx=>by have:=a3.2 x hx; omega) (fun x hx=>by simp at hx; omega),?_⟩;conv=>whnf)|((first|refine apI ?_)<;>conv=>whnf)|(refine apN (by simp only [xyf]; omega) ?_;conv=>whnf)
   all_goals first
    | exact ⟨rfl,rfl⟩
 | true =>
   rw [hf,if_pos rfl] at hA;have hP:=ka a [f0.at t.Base args,f1.at t.Base args,f2.at t.Base args] a3.1 rfl (fun x hx=>by have:=a3.2 x hx; omega) (fun x hx=>by simp only [xxw,xyx,x0x] at hx; rcases hx with rfl|rfl|rfl<;>omega);generalize plus a [f0.at t.Base args,f1.at t.Base args,f2.at t.Base args]=x at *;have hX:=x9 x 3 20000 (by omega);have hX':within x 3 20000=addedOk x:=rfl;rw [hX'] at hX
   cases hx:addedOk x with
   | false =>
     rw [hx] at hX;refine fK [5002] Go.Proofs.Tryz.f250 fun hb=>?_;conv=>whnf
     repeat' first|((first|refine zz ?_|(refine xa ?_ ?_<;>intro _)|refine ⟨_,hA,?_⟩|refine ⟨_,hP,?_⟩|refine ⟨_,hX,?_⟩|refine apI ?_)<;>conv=>whnf)|(refine apN (by simp only [xyf]; omega) ?_;conv=>whnf)
     all_goals first
      | exact ⟨rfl,rfl⟩
   | true =>
     rw [hx] at hX;have hR:=xp6 t parts s x;have hr:rangeOf t parts s x=2\/rangeOf t parts s x=0\/rangeOf t parts s x=1:=by rw [xli]; split<;>(try split)<;>simp
     rcases hr with hr|hr|hr
     · rw [hr] at hR ⊢;refine fK [5002] Go.Proofs.Tryz.f250 fun hb=>?_;conv=>whnf
       repeat' first|((first|refine zz ?_|(refine xa ?_ ?_<;>intro _)|refine ⟨_,hA,?_⟩|refine ⟨_,hP,?_⟩|refine ⟨_,hX,?_⟩|refine ⟨_,hR,?_⟩|refine apI ?_)<;>conv=>whnf)|(refine apN (by simp only [xyf]; omega) ?_;conv=>whnf)
       all_goals first
        | exact ⟨rfl,rfl⟩
     · rw [hr] at hR ⊢;refine fK [5002] Go.Proofs.Tryz.f250 fun hb=>?_;conv=>whnf
       repeat' first|((first|refine zz ?_|(refine xa ?_ ?_<;>intro _)|refine ⟨_,hA,?_⟩|refine ⟨_,hP,?_⟩|refine ⟨_,hX,?_⟩|refine ⟨_,hR,?_⟩|refine apI ?_)<;>conv=>whnf)|(refine apN (by simp only [xyf]; omega) ?_;conv=>whnf)
       all_goals first
        | exact ⟨rfl,rfl⟩
     · rw [hr] at hR ⊢;have hK:=vn t parts s x
       cases hk:trtKeeps t parts s x with
       | false =>
         rw [hk] at hK;refine fK [5002] Go.Proofs.Tryz.f250 fun hb=>?_;conv=>whnf
         repeat' first|((first|refine zz ?_|(refine xa ?_ ?_<;>intro _)|refine ⟨_,hA,?_⟩|refine ⟨_,hP,?_⟩|refine ⟨_,hX,?_⟩|refine ⟨_,hR,?_⟩|refine ⟨_,hK,?_⟩|refine apI ?_)<;>conv=>whnf)|(refine apN (by simp only [xyf]; omega) ?_;conv=>whnf)
         all_goals first
          | exact ⟨rfl,rfl⟩
       | true =>
         rw [hk] at hK;refine fK [5002] Go.Proofs.Tryz.f250 fun hb=>?_;conv=>whnf
         repeat' first|((first|refine zz ?_|(refine xa ?_ ?_<;>intro _)|refine ⟨_,hA,?_⟩|refine ⟨_,hP,?_⟩|refine ⟨_,hX,?_⟩|refine ⟨_,hR,?_⟩|refine ⟨_,hK,?_⟩)<;>conv=>whnf)
         refine Vc.loop1 (fun (i:Nat)=>i<=T.length) (fun i=>updL [0,1,2,3,4,5,6,7,12,14,15,16,19] [(21,I i),(20,.one (.ref 960000))] [(960000,.arr 3 (ints ((T.map fun f=>f.at t.Base args).take i)) false)]) (fun i=>T.length - i) 0 (xyb _) ?_ (fun i hi=>?_)
         · exact wk
         · have hlo:(ints ((T.map fun f=>f.at t.Base args).take i)).length=i:=by rw [xb,xyc,xxs]; omega
           conv=>whnf
           (refine zA ?_)
           refine xd (fun g=>?_) (fun g=>?_)
           all_goals conv=>whnf
           · have hil:i<T.length:=by omega
             have hfi:=hT (T.getD i default) (xw hil);have es:ints ((T.map fun f=>f.at t.Base args).take i)++[rI ((T.getD i default).at t.Base args)]=ints ((T.map fun f=>f.at t.Base args).take (i+1)):=by
              rw [qa,<- x0k,<- x0k,xp hil,xy1]; rfl
             repeat' first|((first|refine zz ?_|(refine xa ?_ ?_<;>intro _)|refine ixN (enc:=eF) default hil ?_|refine ⟨_,qt (T.getD i default) t.Base args hfi (xcy hb') (ql hg),?_⟩)<;>conv=>whnf)|(refine apN (by rw [hlo]; show i+1<=_; omega) ?_;conv=>whnf)|((first|refine wq ?_)<;>conv=>whnf)
             refine ⟨i+1,by omega,by simp only; omega,?_⟩
             repeat' (first|exact True.intro|((conv=>whnf);first|exact True.intro|refine ⟨by rfl,?_⟩|refine ⟨by first|omega|(show (_:Int)=_;first|omega|(dsimp only;omega))|exact es,?_⟩|refine ⟨?_,?_⟩))
           ·
            (refine zA ?_)
            have hend:(T.map fun f=>f.at t.Base args).take i=T.map fun f=>f.at t.Base args:=xx7 (by rw [xxs]; omega);exact ⟨by rw [hend]; rfl,rfl⟩
theorem xlk {α:Type} [Inhabited α] {p:α->Bool}:∀ {l:List α} {i:Nat},i<l.length->(∀ j,j<i->p (l.getD j default)=false)->p (l.getD i default)=true->l.find? p=some (l.getD i default)
 | [],i,h,_,_=>by simp at h
 | a::r,0,_,_,h=>by
   have h:p a=true:=h;rw [List.find?_cons_of_pos h]; rfl
 | a::r,i+1,hi,hj,h=>by
   have h0:p a=false:=hj 0 (by omega);rw [List.find?_cons_of_neg (by rw [h0]; decide)];exact xlk (by simpa using hi) (fun j hjj=>hj (j+1) (by omega)) h
theorem xwf {α:Type} [Inhabited α] {p:α->Bool} {l:List α} (h:∀ j,j<l.length->p (l.getD j default)=false):l.find? p=none:=by
 rw [List.find?_eq_none];intro x hx;obtain ⟨j,hj,rfl⟩:=List.getElem_of_mem hx;have:=h j hj;rw [xxx,xxr hj] at this;simpa using this
theorem xp7 (acts:List (List Line)) (t:Treaty) (s:Int) (a:List Int) (k:Int) (args:List Int) (hk:0<=k/\k<acts.length) (hb':valOk t.Base=true) (ha:addedOk a=true) (hg:argOk args=true) :
 Sem P 179 [(.pure,.one (sAs acts)),(.pure,.one (sPs (partsOf acts))),(.pure,.one (sBs (pinsOf acts))),(.pure,.agg (aT t)),(.pure,I s),(.pure,AI a),(.pure,I k),(.pure,AI args)] [] (tR (alone acts t s a k args)):=by
 have la:=xb a;have a3:=xq ha;have hbd:=fun (r:Row) (hr:r∈rowsOf (acts.getD k.toNat []))=>jj hr;have h100:=fun (r:Row) (hr:r∈rowsOf (acts.getD k.toNat []))=>(xa8 hr).2.2;have al:alone acts t s a k args=tryRows (rowsOf (acts.getD k.toNat [])) (partsOf acts) (pinsOf acts) t s a args:=rfl;rw [al];have hR:=xfb (acts.getD k.toNat []);have h64:=j8 (acts.getD k.toNat []);generalize rowsOf (acts.getD k.toNat [])=rows at *;have lr:(rows.map eW).length=rows.length:=xxs ..;obtain ⟨p,q,u,hpin⟩:∃ p q u,pinsOf acts=[p,q,u]:=⟨_,_,_,rfl⟩;rw [hpin];refine fK [7010] Go.Proofs.Tryz.f179 fun hb=>?_;have hb1:(acts.map eA).length<=1125899906842624:=hb.1.1;conv=>whnf
 repeat' first|((first|refine zz ?_|(refine xa ?_ ?_<;>intro _)|refine ixI (enc:=eA) (L:=acts) [] hk.1 hk.2 ?_|refine ⟨_,hR,?_⟩)<;>conv=>whnf)
 refine Vc.loop1 (fun (i:Nat)=>i<=rows.length/\∀ j,j<i->(rows.getD j default).Guards.all (sure t (partsOf acts) s a args)=false) (fun i=>updL [1,2,4,5,7,11,16,19,56,57,58,59] [(20,I i)] []) (fun i=>rows.length - i) 0 ⟨xyb _,fun j hj=>absurd hj (xza j)⟩ ?_ (fun i hi=>?_)
 · exact wk
 · obtain ⟨hi,ho⟩:=hi;conv=>whnf
   (refine zA ?_)
   refine xd (fun g=>?_) (fun g=>?_)
   all_goals conv=>whnf
   · have hil:i<rows.length:=by omega
     have hrb:=hbd _ (xw hil);have h1:=h100 _ (xw hil);have hS:=xsz t (partsOf acts) s a (rows.getD i default) args
     cases hs:(rows.getD i default).Guards.all (sure t (partsOf acts) s a args) with
     | false =>
       rw [hs] at hS
       repeat' first|((first|refine zz ?_|(refine xa ?_ ?_<;>intro _)|refine ixN (enc:=eW) default hil ?_|refine ⟨_,hS,?_⟩|refine wq ?_)<;>conv=>whnf)
       refine ⟨i+1,⟨by omega,fun j hj=>?_⟩,by simp only; omega,?_⟩
       · by_cases hji:j<i
         · exact ho j hji
         · obtain rfl:j=i:=by omega
           exact hs
       · exact wk
     | true =>
       rw [hs] at hS;have tr:tryRows rows (partsOf acts) [p,q,u] t s a args=goRow t (partsOf acts) [p,q,u] s a (rows.getD i default) args:=by unfold tryRows; rw [xlk hil ho hs]
       rw [tr];have hG:Sem P 250 [(.pure,.agg (aT t)),(.pure,.one (sPs (partsOf acts))),(.pure,.one (sBs [p,q,u])),(.pure,I s),(.pure,AI a),(.pure,.agg (aW (rows.getD i default))),(.pure,AI args)] [] (tR (goRow t (partsOf acts) [p,q,u] s a (rows.getD i default) args)):=by
        obtain ⟨b1,b2,b3,b4⟩:=hrb;generalize rows.getD i default=r at *;obtain ⟨G,A,T,st⟩:=r
        cases st with
        | true=>exact xs3 _ _ _ _ _ _ _ rfl (by omega)
        | false =>
          have b4:A.length=3:=b4;obtain ⟨f0,f1,f2,rfl⟩:=len3 b4;exact xs4 t (partsOf acts) p q u s a f0 f1 f2 G T args (xf (b2 f0 (by simp)) (by omega)) (xf (b2 f1 (by simp)) (by omega)) (xf (b2 f2 (by simp)) (by omega)) (fun f hf=>xf (b3 f hf) (by omega)) (by simp only at h1; omega) hb' ha hg
       repeat' first|((first|refine zz ?_|(refine xa ?_ ?_<;>intro _)|refine ixN (enc:=eW) default hil ?_|refine ⟨_,hS,?_⟩|refine ⟨_,hG,?_⟩)<;>conv=>whnf)
       exact ⟨rfl,rfl⟩
   · have tr:tryRows rows (partsOf acts) [p,q,u] t s a args=(Rslt.nil,a,false):=by unfold tryRows; rw [xwf fun j hj=>ho j (by omega)]
     rw [tr]
     repeat' first|((first|refine zz ?_|(refine xa ?_ ?_<;>intro _)|refine apI ?_)<;>conv=>whnf)|(refine apN (by simp only [xyf]; omega) ?_;conv=>whnf)
     exact ⟨rfl,rfl⟩
theorem xu1 (l k:List Msg) {i:Nat} (h:i<k.length):(l++k.take i).map eM++[eM (k.getD i default)]=(l++k.take (i+1)).map eM:=by
 rw [xp h,<- xyl,xy1 (l₁:=l++k.take i)]; rfl
theorem xob {l k:List Msg} {i:Nat} (h:i<=k.length) (h1:i=0\/l.length+i<=30) (h2:i=k.length\/30<=l.length+i):l++k.take i=send l k:=by
 unfold send;congr 1;rcases h2 with h2|h2
 · by_cases h3:30 - l.length=i
   · rw [h3]
   · rw [xx7 (by omega),xx7 (by omega)]
 · rw [show 30 - l.length=i by omega]
theorem xei (w:World) (l:List Msg) (hl:l.length<=1000) (hn:w.Net.length<=1000) (hz:∀ m∈l,zM m<=1000000):Sem P 210 [(.own,.agg (oWd w)),(.pure,.one (sMs l))] [] (.agg (oWd { w with Net:=send w.Net l })):=by
 have lm:(l.map eM).length=l.length:=xxs ..;refine fO Go.Proofs.Tryz.f210 fun hb=>?_;conv=>whnf
 (refine zA ?_)
 refine Vc.loop1 (fun (i:Nat)=>i<=l.length/\(i=0\/w.Net.length+i<=30)) (fun i=>updL [1,2,4] [(5,I i)] [(12,.arr 55 ((w.Net++l.take i).map eM) false)]) (fun i=>l.length - i) 0 ⟨xyb _,.inl rfl⟩ ?_ (fun i hi=>?_)
 · repeat' (first|exact True.intro|((conv=>whnf);first|exact True.intro|refine ⟨by rfl,?_⟩|refine ⟨by first|omega|(show (_:Int)=_;first|omega|(dsimp only;omega))|exact (by simp),?_⟩|refine ⟨?_,?_⟩))
 · obtain ⟨hi,h1⟩:=hi;have hlo:((w.Net++l.take i).map eM).length=w.Net.length+i:=by rw [xxs,xx3,xyc]; omega
   conv=>whnf
   by_cases hil:i<l.length
   · repeat' first|((first|refine zz ?_|(refine xa ?_ ?_<;>intro _)|refine ixN (enc:=eM) default hil ?_|refine ⟨_,xef (l.getD i default) (hz _ (xw hil)),?_⟩)<;>conv=>whnf)|(refine apN (by rw [hlo]; show _+1<=_; omega) ?_;conv=>whnf)|((first|refine wq ?_)<;>conv=>whnf)
     all_goals first
      | (exfalso; simp only [xxy,xx5] at *; omega)
      | (refine ⟨i+1,⟨by omega,.inr (by simp only [xxy] at *; omega)⟩,by simp only; omega,?_⟩
         repeat' (first|exact True.intro|((conv=>whnf);first|exact True.intro|refine ⟨by rfl,?_⟩|refine ⟨by first|omega|(show (_:Int)=_;first|omega|(dsimp only;omega))|exact xu1 _ _ hil,?_⟩|refine ⟨?_,?_⟩))
         done)
      | skip
     have e:=xob (l:=w.Net) hi h1 (.inr (by simp only [xx5] at *; omega));refine ⟨?_,rfl⟩;rw [<- e]
   · repeat' first|((first|refine zz ?_|(refine xa ?_ ?_<;>intro _))<;>conv=>whnf)
     all_goals first
      | (exfalso; simp only [xxy,xx5] at *; omega)
      | skip
     have e:=xob (l:=w.Net) hi h1 (.inl (by omega));refine ⟨?_,rfl⟩;rw [<- e]
theorem xta (log:List LogD) (x:LogD):write log [x]=if log.length<100 then log++[x] else log:=by
 unfold write;by_cases h:log.length<100
 · rw [if_pos h]; congr 1; rw [xx7 (by simp; omega)]
 · rw [if_neg h,show 100 - log.length=0 by omega]; simp
theorem xu3 (l:List LogD) (x:LogD):l.map eO++[eO x]=(l++[x]).map eO:=by simp
theorem xqc (w:World) (c:Call) (r:Rslt) (hc:c.Args.length<=1000000) (hr:r.Tells.length<=1000000):Sem P 260 [(.own,.agg (oWd w)),(.pure,.agg (aC c)),(.pure,.agg (aR r))] [] (.agg (oWd { w with Log:=write w.Log [⟨c,r⟩] })):=by
 have ll:(w.Log.map eO).length=w.Log.length:=xxs ..;have e:=xta w.Log ⟨c,r⟩;by_cases h:w.Log.length<100
 · rw [if_pos h] at e;rw [e];refine fO Go.Proofs.Tryz.f260 fun hb=>?_;conv=>whnf
   repeat' first|((first|refine zz ?_|(refine xa ?_ ?_<;>intro _)|refine ⟨_,xz c hc,?_⟩|refine ⟨_,yf r hr,?_⟩)<;>conv=>whnf)|(refine apN (by rw [ll]; show _+1<=_; omega) ?_;conv=>whnf)
   all_goals first
    | (exfalso; simp only [xx5] at *; omega)
    | (refine ⟨?_,rfl⟩
       show TV.agg [eI w.Plan.Clients,fAs w.Plan.Acts,fI w.Plan.Gives,fI w.Plan.Start,sSs w.Sites,eB w.Clerk.Up,eI w.Clerk.Round,fI w.Clerk.Base,fDs w.Clerk.Done,fCs w.Clerk.Wants,fGs w.Clerk.Got,sXs w.Clients,sMs w.Net,.sl 230 (w.Log.map eO++[eO ⟨c,r⟩])]=_
       rw [xu3])
 · rw [if_neg h] at e;rw [e];refine fO Go.Proofs.Tryz.f260 fun hb=>?_;conv=>whnf
   repeat' first|((first|refine zz ?_|(refine xa ?_ ?_<;>intro _))<;>conv=>whnf)
   all_goals first
    | exact ⟨rfl,rfl⟩
    | (exfalso; simp only [xxy] at *; omega)
theorem yv (l:List Site) (k:Nat) (s:Site):(l.map eS).set k (eS s)=(l.set k s).map eS:=xz8.symm
theorem xix (w:World) (n:Int) (up:Bool):Sem P 212 [(.own,.agg (oWd w)),(.pure,I n),(.pure,B up)] [] (.agg (oWd (doLife w n up))):=by
 have ls:(w.Sites.map eS).length=w.Sites.length:=xxs ..
 cases h:inB n 0 (w.Sites.length - 1) with
 | false =>
   have e:doLife w n up=w:=by unfold doLife; rw [h]; rfl
   rw [e];refine fO Go.Proofs.Tryz.f212 fun hb=>?_;have hb1:(w.Sites.map eS).length<=1125899906842624:=(hb.1 (sSs w.Sites) (by simp)).1;conv=>whnf
   repeat' first|((first|refine zz ?_|(refine xa ?_ ?_<;>intro _)|refine ⟨_,xi _ _ _,?_⟩|refine wq ?_)<;>conv=>whnf)
   all_goals first
    | exact ⟨rfl,rfl⟩
    | (exfalso; simp_all; done)
 | true =>
   have hn:=xc.1 h;have e:doLife w n up={ w with Sites:=w.Sites.set n.toNat { (w.Sites.getD n.toNat Site.nil) with Up:=up } }:=by unfold doLife; rw [h]; rfl
   rw [e];refine fO Go.Proofs.Tryz.f212 fun hb=>?_;have hb1:(w.Sites.map eS).length<=1125899906842624:=(hb.1 (sSs w.Sites) (by simp)).1;conv=>whnf
   repeat' first|((first|refine zz ?_|(refine xa ?_ ?_<;>intro _)|refine ⟨_,xi _ _ _,?_⟩|refine wq ?_|refine ioN (by omega) (by omega) ?_|refine rwN (enc:=eS) Site.nil (by omega) ?_)<;>conv=>whnf)
   all_goals first
    | (exfalso; simp_all; done)
    | (refine ⟨?_,rfl⟩
       show TV.agg [eI w.Plan.Clients,fAs w.Plan.Acts,fI w.Plan.Gives,fI w.Plan.Start,.sl 60 ((w.Sites.map eS).set n.toNat (eS { (w.Sites.getD n.toNat Site.nil) with Up:=up })),eB w.Clerk.Up,eI w.Clerk.Round,fI w.Clerk.Base,fDs w.Clerk.Done,fCs w.Clerk.Wants,fGs w.Clerk.Got,sXs w.Clients,sMs w.Net,sOs w.Log]=_
       rw [yv])
end Cc
end
