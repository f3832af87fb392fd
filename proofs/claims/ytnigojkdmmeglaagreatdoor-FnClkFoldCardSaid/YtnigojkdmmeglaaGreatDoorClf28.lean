/- The law FnClkFold: part 28 of 35. No conditions beyond the statement. -/
import Derived.Test.YtnigojkdmmeglaaGreatDoorClf23
import Derived.Test.YtnigojkdmmeglaaGreatDoorClf25
set_option linter.unusedVariables false
set_option linter.unusedSimpArgs false
set_option maxRecDepth 100000
set_option maxHeartbeats 16000000
section
namespace Cc
open Go Go.AM
theorem xha (a:List Int) (h1:a.length<=100):Sem P 125 [(.pure,AI a),(.pure,AI [])] [] (AI a):=by
 refine fK [2001] Go.Proofs.Tryz.f125 fun hb=>?_;conv=>whnf
 repeat' first|((first|refine zz ?_|(refine xa ?_ ?_<;>intro _)|refine ⟨_,x7 a (by omega),?_⟩)<;>conv=>whnf)
 refine Vc.loop1 (fun (i:Nat)=>i=0) (fun i=>updL [4,5,10,11,25] [(12,I i)] []) (fun i=>1 - i) 0 rfl ?_ (fun i hi=>?_)
 · exact wk
 · subst hi;conv=>whnf
   repeat' first|((first|refine zz ?_|(refine xa ?_ ?_<;>intro _))<;>conv=>whnf)
   exact ⟨rfl,rfl⟩
theorem xlt {p:Plan} {c:Clerk} (hc:ClerkF p c) {i:Nat} (h:i<c.Got.length) (hh:(c.Got.getD i default).Has=false):(c.Got.getD i default).Added=[]:=by
 have:=zi.1 hc.g i h;unfold gotB Got.none at this;rw [hh] at this;simp only [x0t,xzq,x1y,x00,xxt,xzu] at this;exact this.1
theorem xtj (p:Plan) (c:Clerk) (hp:planOk p=true) (hc:ClerkF p c):Sem P 52 [(.io 0 0,.agg (aK c)),(.pure,.agg (aPl p))] [.agg (aK (clerkFold p c).1)] (.tup [(false,[sCs ((clerkFold p c).2.map Prod.fst)]),(false,[sRs ((clerkFold p c).2.map Prod.snd)])]):=by
 have hcl:=xt hp;have hF:=planF hp;have g1:=hF.g1;have g3:=yp hp;have lg:=xb p.Gives;have lgo:(c.Got.map eG).length=c.Got.length:=xxs ..;have lw:(c.Wants.map eC).length=c.Wants.length:=xxs ..;have lpa:(p.Acts.map eA).length=p.Acts.length:=xxs ..;have hgl:=hc.gl;have hw4:=kc hc hcl;have hbl:=(xe.1 hc.b).1;have lb:=xb c.Base;have hrd:=hc.r;have hV:=qe (given c);have hR:=xqs c
 cases hcnd:(!readyB c || decide (c.Round=200) || !valOk (given c)) with
 | true =>
   rw [xeh hcnd];refine yh (E:={ E0 with keep:=[2004,6003,16009],fz:=[(17,[1024577])] }) xn xo (fn:=Go.Proofs.Tryz.f52) (by kernel_rfl) (by kernel_rfl) (fun hb=>?_);conv=>whnf
   repeat' first|((first|refine zz ?_|(refine xa ?_ ?_<;>intro _)|refine ⟨_,x7 c.Base (by omega),?_⟩|refine akP (x1 _) ?_)<;>conv=>whnf)
   refine Vc.loop1 (fun (i:Nat)=>i<=c.Got.length) (fun i=>updL [0,3,4,5,9,10,12,13,14,23,24,34,35,36,37,38,39,40,41,42,43,44,45,46,47,48,49,50,51,52,53,54,55,56,57,58,59,60,61,62,63,64,65,66,67,68,69,70,71,72,73,74,75,76,77,78,79,80,81,82,83,84,85,86,87,88,89,90,91,92,93,94,95,96,97,98,99,100,101,102,103,104,105,106,107,108,109,110,111,112,113,114,115,116,117,118,119,120,121,122,123,124,125,126,128,129] [(25,I i),(6,.one (.ref 128256))] [(128256,.arr 3 (ints (gvAt c i)) false)]) (fun i=>c.Got.length - i) 0 (xyb _) ?_ (fun i hi=>?_)
   · exact wk
   · obtain ⟨bl,bb⟩:=xb5 hc i hi;conv=>whnf
     (refine zA ?_)
     refine xd (fun g=>?_) (fun g=>?_)
     all_goals conv=>whnf
     · have hig:i<c.Got.length:=by omega
       have es:=jm (c:=c) hig;have hS:Sem P 125 [(.pure,AI (gvAt c i)),(.pure,AI (c.Got.getD i default).Added)] [] (AI (gvAt c (i+1))):=by
        cases hh:(c.Got.getD i default).Has with
        | true =>
          have ha:=xq (jy hc hig hh).1;rw [hh,if_pos rfl] at es;rw [es];exact xiu _ _ (by omega) (by omega) (fun x hx=>by have:=bb x hx; omega) (fun x hx=>by have:=ha.2 x hx; omega)
        | false =>
          rw [hh,if_neg (by decide)] at es;rw [es,xlt hc hig hh];exact xha _ (by omega)
       repeat' first|((first|refine zz ?_|(refine xa ?_ ?_<;>intro _)|refine ioN (by omega) (by omega) ?_)<;>conv=>whnf)|(refine rwN (enc:=eG) default (by simp only [xym]; exact hig) ?_;conv=>whnf)|((first|refine ⟨_,hS,?_⟩|refine akP (x1 _) ?_|refine wq ?_)<;>conv=>whnf)
       refine ⟨i+1,by omega,by simp only; omega,?_⟩;exact wk
     · have e:=xay (c:=c) (i:=i) (by omega);rw [e];generalize readyB c=b1 at *;generalize valOk (given c)=b2 at *;cases b1<;>cases b2
       all_goals repeat' first|((first|refine zz ?_|(refine xa ?_ ?_<;>intro _)|refine ⟨_,_,hR,?_⟩|refine ⟨_,hV,?_⟩)<;>conv=>whnf)
       all_goals first
        | exact ⟨rfl,rfl⟩
        | (exfalso; clear hb hV hR; simp_all; done)
 | false =>
   rw [w6 hcnd];simp only [x0y,x09,xx5] at hcnd;obtain ⟨⟨h1,h2⟩,hv⟩:=hcnd;rw [hv] at hV;rw [h1] at hR;refine yh (E:={ E0 with keep:=[2004,6003,16009],fz:=[(17,[1024577])] }) xn xo (fn:=Go.Proofs.Tryz.f52) (by kernel_rfl) (by kernel_rfl) (fun hb=>?_);conv=>whnf
   repeat' first|((first|refine zz ?_|(refine xa ?_ ?_<;>intro _)|refine ⟨_,x7 c.Base (by omega),?_⟩|refine akP (x1 _) ?_)<;>conv=>whnf)
   refine Vc.loop1 (fun (i:Nat)=>i<=c.Got.length) (fun i=>updL [0,3,4,5,9,10,12,13,14,23,24,34,35,36,37,38,39,40,41,42,43,44,45,46,47,48,49,50,51,52,53,54,55,56,57,58,59,60,61,62,63,64,65,66,67,68,69,70,71,72,73,74,75,76,77,78,79,80,81,82,83,84,85,86,87,88,89,90,91,92,93,94,95,96,97,98,99,100,101,102,103,104,105,106,107,108,109,110,111,112,113,114,115,116,117,118,119,120,121,122,123,124,125,126,128,129] [(25,I i),(6,.one (.ref 128256))] [(128256,.arr 3 (ints (gvAt c i)) false)]) (fun i=>c.Got.length - i) 0 (xyb _) ?_ (fun i hi=>?_)
   · exact wk
   · obtain ⟨bl,bb⟩:=xb5 hc i hi;conv=>whnf
     (refine zA ?_)
     refine xd (fun g=>?_) (fun g=>?_)
     all_goals conv=>whnf
     · have hig:i<c.Got.length:=by omega
       have es:=jm (c:=c) hig;have hS:Sem P 125 [(.pure,AI (gvAt c i)),(.pure,AI (c.Got.getD i default).Added)] [] (AI (gvAt c (i+1))):=by
        cases hh:(c.Got.getD i default).Has with
        | true =>
          have ha:=xq (jy hc hig hh).1;rw [hh,if_pos rfl] at es;rw [es];exact xiu _ _ (by omega) (by omega) (fun x hx=>by have:=bb x hx; omega) (fun x hx=>by have:=ha.2 x hx; omega)
        | false =>
          rw [hh,if_neg (by decide)] at es;rw [es,xlt hc hig hh];exact xha _ (by omega)
       repeat' first|((first|refine zz ?_|(refine xa ?_ ?_<;>intro _)|refine ioN (by omega) (by omega) ?_)<;>conv=>whnf)|(refine rwN (enc:=eG) default (by simp only [xym]; exact hig) ?_;conv=>whnf)|((first|refine ⟨_,hS,?_⟩|refine akP (x1 _) ?_|refine wq ?_)<;>conv=>whnf)
       refine ⟨i+1,by omega,by simp only; omega,?_⟩;exact wk
     · have e:=xay (c:=c) (i:=i) (by omega);rw [e];clear bl bb
       repeat' first|((first|refine zz ?_|(refine xa ?_ ?_<;>intro _)|refine ⟨_,_,hR,?_⟩|refine ⟨_,hV,?_⟩)<;>conv=>whnf)
       all_goals first
        | (exfalso; clear hb hV hR; simp_all; done)
        | skip
       refine Vc.loop6 (fun (i:Nat) (v:List Int) (dn:List Done) (ls:List (Call × Rslt)) (_:Unit) (_:Unit)=>FAt p c i v dn ls) (fun i v dn ls _ _=>updL [0,3,4,5,52,53,115,116,117,118,119,120,121,122,123,124,125,126,128,129] [(54,I i),(9,.one (.ref 640000)),(10,.one (.ref 704000)),(6,.one (.ref 128256))] [(128256,.arr 3 (ints v) false),(512099,.arr 79 (dn.map eD) false),(640000,.arr 50 ((ls.map Prod.fst).map eC) false),(704000,.arr 45 ((ls.map Prod.snd).map eR) false)]) (fun i _ _ _ _ _=>c.Wants.length - i) 0 (given c) c.Done [] () () (FAt.zero hc hv) ?_ (fun i v dn ls _ _ ha=>?_)
       · exact wk
       · have lf:((ls.map Prod.fst).map eC).length=ls.length:=by simp
         have lr:((ls.map Prod.snd).map eR).length=ls.length:=by simp
         have hll:=ha.hl;have hii:=ha.hi;have hdl:=(yy hcl ha.hd).1;have hdc:(dn.length:Int)=p.Clients:=by have:=ha.hd; unfold doneOk at this; simp only [xxt,xxy] at this; exact this.1
         have ldn:(dn.map eD).length=dn.length:=xxs ..;conv=>whnf
         (refine zA ?_)
         refine xd (fun g=>?_) (fun g=>?_)
         all_goals conv=>whnf
         · have hil:i<c.Wants.length:=by omega
           have hwk:(c.Wants.map eC)[((i:Int)).toNat]?=some (eC (c.Wants.getD i default)):=by rw [xym,xx0,xxx,xxr hil]; rfl
           have hx:=hc.w _ (xw hil);obtain ⟨c1,c2,c3,c4⟩:=xy.1 hx;have ha6:=ha.run hF hc hil;have hA:Sem P 19 [(.pure,.one (sLs (p.Acts.getD (c.Wants.getD i default).Act.toNat []))),(.pure,AI v),(.pure,AI (c.Wants.getD i default).Args)] [] (.tup [(true,aR (runQ p v (c.Wants.getD i default)).1),(false,[sI (runQ p v (c.Wants.getD i default)).2])]):=xe7 _ _ _;have hcc:=xbf (c.Wants.getD i default) (by rw [(xe.1 c4).1]; decide);have hm0:0<=(c.Wants.getD i default).Client % (ints p.Gives).length:=xz3 _ (by omega);have hm1:(c.Wants.getD i default).Client % (ints p.Gives).length<(ints p.Gives).length:=xzt _ (by omega);have hsq:=xg6 hc h1 (j:=((c.Wants.getD i default).Client % (ints p.Gives).length).toNat) (by omega);unfold seqsOk at hsq;simp only [xxt,xxy,xxv] at hsq;have lsq:=xb (c.Got.getD ((c.Wants.getD i default).Client % (ints p.Gives).length).toNat Got.nil).Seqs;have hsb:=xc.1 (hsq.2 ((c.Got.getD ((c.Wants.getD i default).Client % (ints p.Gives).length).toNat Got.nil).Seqs.getD (c.Wants.getD i default).Client.toNat 0) (qz (by omega)));by_cases hq:(c.Wants.getD i default).Seq=nextQ p c.Got (c.Wants.getD i default)
           · have hy:=ha.yes hF hc hil hq;unfold nextQ at hq;rw [<- lg] at hq;generalize runQ p v (c.Wants.getD i default)=y at *;obtain ⟨r,v'⟩:=y;have hcr:=xb7 r (by simp only at ha6; omega);have q1:(dn.map eD).set (c.Wants.getD i default).Client.toNat [eI (c.Wants.getD i default).Seq,eI r.Code,fI r.Tells]=(dn.set (c.Wants.getD i default).Client.toNat ⟨(c.Wants.getD i default).Seq,r⟩).map eD:=xc0 dn _ ⟨_,r⟩;have q2:=xod ls (c.Wants.getD i default) r;have q3:=xoe ls (c.Wants.getD i default) r
             repeat' first|((first|refine zz ?_|(refine xa ?_ ?_<;>intro _)|refine ioN (by omega) (by omega) ?_|refine rwC hwk ?_|refine rwN (enc:=eG) Got.nil (by omega) ?_|refine r64 (by omega) (by omega) ?_|refine ixI (enc:=rI) 0 (by omega) (by omega) ?_|refine ixI (enc:=eA) [] (by omega) (by omega) ?_|refine rwN (enc:=eD) Done.nil (by omega) ?_|refine wq ?_|refine ⟨_,hA,?_⟩|refine ⟨_,hcr,?_⟩|refine ⟨_,hcc,?_⟩|refine akP (x1 _) ?_)<;>conv=>whnf)|(refine apN (by rw [lf]; show _+1<=_; omega) ?_;conv=>whnf)|(refine apN (by rw [lr]; show _+1<=_; omega) ?_;conv=>whnf)
             all_goals first
              | (exfalso; clear hb hV hR hA hy hcr hcc; simp_all; done)
              | (refine ⟨i+1,_,_,_,(),(),hy,by simp only; omega,?_⟩
                 repeat' (first|exact True.intro|((conv=>whnf);first|exact True.intro|refine ⟨by rfl,?_⟩|refine ⟨by first|omega|(show (_:Int)=_;first|omega|(dsimp only;omega))|exact q1|exact q2|exact q3,?_⟩|refine ⟨?_,?_⟩))
                 done)
           · have hy:=ha.no hil hq;unfold nextQ at hq;rw [<- lg] at hq
             repeat' first|((first|refine zz ?_|(refine xa ?_ ?_<;>intro _)|refine ioN (by omega) (by omega) ?_|refine rwC hwk ?_|refine rwN (enc:=eG) Got.nil (by omega) ?_|refine r64 (by omega) (by omega) ?_|refine ixI (enc:=rI) 0 (by omega) (by omega) ?_|refine wq ?_)<;>conv=>whnf)
             all_goals first
              | (exfalso; clear hb hV hR hA hy hcc; simp_all; done)
              | (refine ⟨i+1,v,dn,ls,(),(),hy,by simp only; omega,?_⟩
                 exact wk
                 done)
         · obtain ⟨f1,f2,f3⟩:=ha.fin (by omega);rw [f1,f2,f3];have hfg:=xni ⟨c.Up,c.Round+1,v,dn,c.Wants,c.Got⟩ (by simp only; omega)
           repeat' first|((first|refine zz ?_|(refine xa ?_ ?_<;>intro _)|refine wq ?_|refine ⟨_,_,hfg,?_⟩)<;>conv=>whnf)
           all_goals first
            | exact ⟨rfl,rfl⟩
theorem xc2 (p:Plan) (c:Clerk):Sem P 22 [(.pure,.agg (aPl p)),(.pure,.agg (aK c))] [] (B (clkOk p c)):=by
 have h1:=xml p;unfold clkOk
 cases hp:planOk p with
 | false =>
   rw [hp] at h1;refine fO Go.Proofs.Tryz.f22 fun hb=>?_;conv=>whnf
   repeat' first|((first|refine zz ?_|(refine xa ?_ ?_<;>intro _)|refine ⟨_,h1,?_⟩)<;>conv=>whnf)
   exact ⟨rfl,rfl⟩
 | true =>
   rw [hp] at h1;refine fO Go.Proofs.Tryz.f22 fun hb=>?_;conv=>whnf
   repeat' first|((first|refine zz ?_|(refine xa ?_ ?_<;>intro _)|refine ⟨_,h1,?_⟩|refine ⟨_,xpo p.Acts (xav hp),?_⟩|refine ⟨_,xja p c (xt hp),?_⟩)<;>conv=>whnf)
   exact ⟨rfl,rfl⟩
theorem xc3 (p:Plan) (c:Clerk):Sem P 15 [(.pure,.agg (aPl p)),(.pure,.agg (aK c))] [] (B (clkOk p c)):=by
 have h1:=qh p;unfold clkOk
 cases hp:planOk p with
 | false =>
   rw [hp] at h1;refine fO Go.Proofs.Tryz.f15 fun hb=>?_;conv=>whnf
   repeat' first|((first|refine zz ?_|(refine xa ?_ ?_<;>intro _)|refine ⟨_,h1,?_⟩)<;>conv=>whnf)
   exact ⟨rfl,rfl⟩
 | true =>
   rw [hp] at h1;refine fO Go.Proofs.Tryz.f15 fun hb=>?_;conv=>whnf
   repeat' first|((first|refine zz ?_|(refine xa ?_ ?_<;>intro _)|refine ⟨_,h1,?_⟩|refine ⟨_,xea p.Acts (xcx hp),?_⟩|refine ⟨_,xaw p c (xt hp),?_⟩)<;>conv=>whnf)
   exact ⟨rfl,rfl⟩
theorem xhb {p:Plan} {c:Clerk} (h:clkOk p c=true):planOk p=true/\ClerkF p c:=by
 unfold clkOk at h;rw [xxt] at h;exact ⟨h.1,clerkF.1 h.2⟩
theorem xlu (p:Plan) (c:Clerk):Sem P 8 [(.pure,.agg (aPl p)),(.pure,.agg (aK c))] [] (tFc (clkFold p c)):=by
 have h1:=xc2 p c;unfold clkFold
 cases hk:clkOk p c with
 | false =>
   rw [hk] at h1;refine coldFold (cs:=aK Clerk.nil) rfl (vp _) ?_;refine fO Go.Proofs.Tryz.f8 fun hb=>?_;conv=>whnf
   repeat' first|((first|refine zz ?_|(refine xa ?_ ?_<;>intro _)|refine ⟨_,h1,?_⟩)<;>conv=>whnf)
   exact ⟨rfl,rfl⟩
 | true =>
   rw [hk] at h1;obtain ⟨hp,hc⟩:=xhb hk;have hz:=qv hc (xt hp) (yp hp);have hf:=xtj p c hp hc;refine coldFold (cs:=aK (clerkFold p c).1) rfl (vp _) ?_;refine fK [4001,5001] Go.Proofs.Tryz.f8 fun hb=>?_;conv=>whnf
   repeat' first|((first|refine zz ?_|(refine xa ?_ ?_<;>intro _)|refine ⟨_,h1,?_⟩|refine ⟨_,xfz c (by omega),?_⟩|refine ⟨_,_,hf,?_⟩)<;>conv=>whnf)
   exact ⟨rfl,rfl⟩
theorem xlv (p:Plan) (c:Clerk):Sem P 9 [(.pure,.agg (aPl p)),(.pure,.agg (aK c))] [] (tFc (clkFold p c)):=by
 have h1:=xc3 p c;unfold clkFold
 cases hk:clkOk p c with
 | false =>
   rw [hk] at h1;refine coldFold (cs:=aK Clerk.nil) rfl (vp _) ?_;refine fO Go.Proofs.Tryz.f9 fun hb=>?_;conv=>whnf
   repeat' first|((first|refine zz ?_|(refine xa ?_ ?_<;>intro _)|refine ⟨_,h1,?_⟩)<;>conv=>whnf)
   exact ⟨rfl,rfl⟩
 | true =>
   rw [hk] at h1;obtain ⟨hp,hc⟩:=xhb hk;refine fO Go.Proofs.Tryz.f9 fun hb=>?_;conv=>whnf
   repeat' first|((first|refine zz ?_|(refine xa ?_ ?_<;>intro _)|refine ⟨_,h1,?_⟩|refine ⟨_,xg7 p c hp hc,?_⟩)<;>conv=>whnf)
   exact ⟨rfl,rfl⟩
theorem xda (p:Plan) (c:Clerk):Sem P 13 [(.pure,.agg (aPl p)),(.pure,.agg (aK c))] [] (B (clkReady p c)):=by
 have h1:=xc2 p c;unfold clkReady
 cases hk:clkOk p c with
 | false =>
   rw [hk] at h1;refine fO Go.Proofs.Tryz.f13 fun hb=>?_;conv=>whnf
   repeat' first|((first|refine zz ?_|(refine xa ?_ ?_<;>intro _)|refine ⟨_,h1,?_⟩)<;>conv=>whnf)
   exact ⟨rfl,rfl⟩
 | true =>
   rw [hk] at h1;refine fO Go.Proofs.Tryz.f13 fun hb=>?_;conv=>whnf
   repeat' first|((first|refine zz ?_|(refine xa ?_ ?_<;>intro _)|refine ⟨_,h1,?_⟩|refine ⟨_,_,xnh c,?_⟩)<;>conv=>whnf)
   exact ⟨rfl,rfl⟩
theorem xje (p:Plan) (c:Clerk):Sem P 14 [(.pure,.agg (aPl p)),(.pure,.agg (aK c))] [] (B (clkReady p c)):=by
 have h1:=xc3 p c;unfold clkReady
 cases hk:clkOk p c with
 | false =>
   rw [hk] at h1;refine fO Go.Proofs.Tryz.f14 fun hb=>?_;conv=>whnf
   repeat' first|((first|refine zz ?_|(refine xa ?_ ?_<;>intro _)|refine ⟨_,h1,?_⟩)<;>conv=>whnf)
   exact ⟨rfl,rfl⟩
 | true =>
   rw [hk] at h1;obtain ⟨hp,hc⟩:=xhb hk;have lg:=xb p.Gives;have hle:c.Got.countP Got.Has<=c.Got.length:=x0c;have hgl:=hc.gl;have hr:readyB c=((c.Got.countP Got.Has:Int) == ((ints p.Gives).length:Int)):=by
    rw [xiw hgl,lg];by_cases h:(c.Got.countP Got.Has:Int)<(p.Gives.length:Int)
    · rw [x0w h]; symm; simp; omega
    · rw [x0l h]; symm; simp; omega
   refine fO Go.Proofs.Tryz.f14 fun hb=>?_;conv=>whnf
   repeat' first|((first|refine zz ?_|(refine xa ?_ ?_<;>intro _)|refine ⟨_,h1,?_⟩|refine ⟨_,xbc c,?_⟩)<;>conv=>whnf)
   exact ⟨congrArg (fun b=>B b) hr.symm,rfl⟩
theorem xwm (a b:List Int) (h1:a.length=3) (h2:b.length=3) (ha:mid a) (hb':mid b):Sem P 63 [(.pure,AI a),(.pure,.one (.sl 24 [eP b]))] [] (AI (plus a b)):=by
 obtain ⟨x,y,z,rfl⟩:=len3 h1;obtain ⟨u,v,w,rfl⟩:=len3 h2;have hx:=ha x (by simp); have hy:=ha y (by simp); have hz:=ha z (by simp);have hu:=hb' u (by simp); have hv:=hb' v (by simp); have hw:=hb' w (by simp);refine fO Go.Proofs.Tryz.f63 fun hb=>?_;conv=>whnf
 repeat' first|((first|refine zz ?_|(refine xa ?_ ?_<;>intro _)|refine apI ?_|refine apN (by simp) ?_)<;>conv=>whnf)
 refine Vc.loop1 (fun (i:Nat)=>i<=1) (fun i=>updL [1,4,5,38] [(6,I i)] [(128128,.arr 3 (ints (match i with|0=>[x,y,z]|_=>[x+u,y+v,z+w])) false)]) (fun i=>1 - i) 0 (by omega) ?_ (fun i hi=>?_)
 · exact wk
 · match i,hi with
   | 0,_ =>
     conv=>whnf
     repeat' first|((first|refine zz ?_|(refine xa ?_ ?_<;>intro _))<;>conv=>whnf)
     refine Vc.loop1 (fun (j:Nat)=>j<=3) (fun j=>updL [1,4,5,6,11,12,13,14,15,16,38] [(7,I j)] [(128128,.arr 3 (ints (match j with|0=>[x,y,z]|1=>[x+u,y,z]|2=>[x+u,y+v,z]|_=>[x+u,y+v,z+w])) false)]) (fun j=>3 - j) 0 (by omega) ?_ (fun j hj=>?_)
     · exact wk
     · match j,hj with
       | 0,_ =>
         conv=>whnf
         repeat' first|((first|refine zz ?_|(refine xa ?_ ?_<;>intro _)|refine ioN (by simp) (by simp) ?_|refine ixK rfl ?_|refine rwC rfl ?_|refine wq ?_)<;>conv=>whnf)
         refine ⟨1,by omega,by simp only; omega,?_⟩;exact wk
       | 1,_ =>
         conv=>whnf
         repeat' first|((first|refine zz ?_|(refine xa ?_ ?_<;>intro _)|refine ioN (by simp) (by simp) ?_|refine ixK rfl ?_|refine rwC rfl ?_|refine wq ?_)<;>conv=>whnf)
         refine ⟨2,by omega,by simp only; omega,?_⟩;exact wk
       | 2,_ =>
         conv=>whnf
         repeat' first|((first|refine zz ?_|(refine xa ?_ ?_<;>intro _)|refine ioN (by simp) (by simp) ?_|refine ixK rfl ?_|refine rwC rfl ?_|refine wq ?_)<;>conv=>whnf)
         refine ⟨3,by omega,by simp only; omega,?_⟩;exact wk
       | 3,_ =>
         conv=>whnf
         repeat' first|((first|refine zz ?_|(refine xa ?_ ?_<;>intro _)|refine wq ?_)<;>conv=>whnf)
         refine ⟨1,by omega,by simp only; omega,?_⟩;exact wk
   | 1,_ =>
     conv=>whnf
     repeat' first|((first|refine zz ?_|(refine xa ?_ ?_<;>intro _))<;>conv=>whnf)
     exact ⟨rfl,rfl⟩
theorem xvb (p:Plan) (c:Clerk) (hc:ClerkF p c) (hg:c.Got.length<=3):Sem P 18 [(.pure,.agg (aK c))] [] (AI (given c)):=by
 have lgo:(c.Got.map eG).length=c.Got.length:=xxs ..;have hbl:=(xe.1 hc.b).1;have lb:=xb c.Base;refine fK [7008] Go.Proofs.Tryz.f18 fun hb=>?_;conv=>whnf
 repeat' first|((first|refine zz ?_|(refine xa ?_ ?_<;>intro _)|refine apI ?_)<;>conv=>whnf)|(refine apN (by simp only [xyf]; omega) ?_;conv=>whnf)
 refine Vc.loop1 (fun (i:Nat)=>i<=c.Got.length) (fun i=>updL [1,2,31] [(4,I i),(3,.one (.ref 128192))] [(128192,.arr 3 (ints (gvAt c i)) false)]) (fun i=>c.Got.length - i) 0 (xyb _) ?_ (fun i hi=>?_)
 · exact wk
 · obtain ⟨bl,bb⟩:=xb5 hc i hi;conv=>whnf
   (refine zA ?_)
   refine xd (fun g=>?_) (fun g=>?_)
   all_goals conv=>whnf
   · have hig:i<c.Got.length:=by omega
     have es:=jm (c:=c) hig
     cases hh:(c.Got.getD i default).Has with
     | true =>
       have ha:=xq (jy hc hig hh).1;rw [hh,if_pos rfl] at es;have hS:=xwm (gvAt c i) (c.Got.getD i default).Added bl ha.1 (fun x hx=>by have:=bb x hx; omega) (fun x hx=>by have:=ha.2 x hx; omega);rw [<- es] at hS
       repeat' first|((first|refine zz ?_|(refine xa ?_ ?_<;>intro _)|refine ixN (enc:=eG) default hig ?_|refine ⟨_,hS,?_⟩|refine akP (x1 _) ?_|refine wq ?_)<;>conv=>whnf)
       all_goals first
        | (exfalso; clear hb hS; simp_all; done)
        | (refine ⟨i+1,by omega,by simp only; omega,?_⟩
           exact wk
           done)
     | false =>
       rw [hh,if_neg (by decide)] at es
       repeat' first|((first|refine zz ?_|(refine xa ?_ ?_<;>intro _)|refine ixN (enc:=eG) default hig ?_|refine wq ?_)<;>conv=>whnf)
       all_goals first
        | (exfalso; clear hb; simp_all; done)
        | (refine ⟨i+1,by omega,by simp only; omega,?_⟩
           repeat' (first|exact True.intro|((conv=>whnf);first|exact True.intro|refine ⟨by rfl,?_⟩|refine ⟨by first|omega|(show (_:Int)=_;first|omega|(dsimp only;omega))|exact congrArg ints es.symm,?_⟩|refine ⟨?_,?_⟩))
           done)
   · have e:=xay (c:=c) (i:=i) (by omega);rw [e]
     repeat' first|((first|refine zz ?_|(refine xa ?_ ?_<;>intro _))<;>conv=>whnf)
     exact ⟨rfl,rfl⟩
end Cc
end
