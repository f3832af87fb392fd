/- The laws FnMsgOk, FnSitFree: part 8 of 41. No conditions beyond the statement. -/
import Derived.Test.YtnigojkdmmeglaaGreatDoorAll6
set_option linter.unusedVariables false
set_option linter.unusedSimpArgs false
set_option maxRecDepth 100000
set_option maxHeartbeats 16000000
section
namespace Cc
open Go Go.AM
theorem xt2 (act:List Line) (h6:act.length<=6) (hok:∀ x∈act,x.ok=true):∀ (n i:Nat),act.length - i<n->i<=100->∀ (p q r:Form) (g t:List Form),Wk act i p q r g t->∀ (j:Int) (rp rg rt:List (List AV)),j=i->rp=[p,q,r].map eF->rg=g.map eF->rt=t.map eF ->
 Sem P 223 [(.pure,.one (sLs act)),(.pure,I j),(.own,.one (.sl 115 rp)),(.own,.one (.sl 115 rg)),(.own,.one (.sl 115 rt))] [] (.one (sWs (walk (act.drop i) [p,q,r] g t))):=by
 intro n
 induction n with
 | zero=>intro i h; omega
 | succ n ih =>
   intro i0 hn h100 p0 q0 r0 g0 t0 hw0 j rp rg rt rfl rfl rfl rfl;refine yp (E:={ E0 with keep:=[10001,12004,12006,12011,12012,13007,13009,13015,13016,16001],fz:=[(0,[128,192,256]),(3,[640064,640256,1024064])] }) xm xn (fn:=Go.Proofs.Tryz.f223) (by kernel_rfl) (by kernel_rfl) (fun hb=>?_);have la:(act.map eL).length=act.length:=xzi ..;conv=>whnf
   (refine zA ?_)
   refine Vc.loop6 (fun (i:Nat) (p q r:Form) (g t:List Form)=>i<=100/\act.length - i<n+1/\Wk act i p q r g t/\walk (act.drop i) [p,q,r] g t=walk (act.drop i0) [p0,q0,r0] g0 t0/\g=g0)
    (fun i p q r g t=>updL [0,3,95,96,97,98,99] [(11,I i),(2,.one (fFs [p,q,r])),(4,.one (fFs t))] []) (fun i _ _ _ _ _=>act.length - i) i0 p0 q0 r0 g0 t0 ⟨h100,hn,hw0,rfl,rfl⟩ ?_ (fun i p q r g t hs=>?_)
   · exact wk
   · obtain ⟨h100',hn',w,hW,hg⟩:=hs;subst hg;conv=>whnf
     (refine zA ?_)
     refine xd (fun gd=>?_) (fun gd=>?_)
     all_goals conv=>whnf
     · have hil:i<act.length:=by omega
       have hx:=hok (act.getD i default) (xp hil);have wp:=w.pots;have wl:=w.lists;have m7:∀ {f:Form},f.bd 1000000->f.bd 10000000:=fun h=>xh h (by decide);have m8:∀ {f:Form},f.bd 588246->f.bd 10000000:=fun h=>xh h (by decide);have mS:∀ {f:Form},f.bd 1000000->f.bd 1000000000000000:=fun h=>xh h (by decide);have wps:∀ f∈[p,q,r],f.bd 10000000:=by simp only [xzn,x0o,x2f]; rintro f (rfl|rfl|rfl); exact m7 wp.1; exact m7 wp.2.1; exact m7 wp.2.2
       by_cases h4:(act.getD i default).Kind=4
       · repeat' first|((first|refine zz ?_|(refine xa ?_ ?_<;>intro _)|refine ixN (enc:=eL) default hil ?_)<;>conv=>whnf)|(refine ⟨_,za g (by have:=wl.1.1; omega) wl.1.2,?_⟩;conv=>whnf)
         · exact ⟨by rw [<- hW,xes hil h4]; rfl,rfl⟩
         all_goals (exfalso; simp_all; done)
       · have hs:=j4 hx h4;have wi:=w.into hil hs;have wm:=w.minus hil hs;have fb:(act.getD i default).Form.bd 10000000:=(qj hs).1;rcases xem hx with hk|hk|hk|hk
         · have ihy:=ih (i+1) (by omega) (by omega) p q r (g++[into (act.getD i default).Form [p,q,r]]) t (w.on hil hs (by omega) (.inr ⟨_,wi,rfl⟩) (.inl rfl));have hsk:=xel hx hk;have ihn:=ih (i+1+(act.getD i default).Skip.toNat) (by omega) (by omega) p q r (g++[minus (into (act.getD i default).Form [p,q,r])]) t (w.on hil hs (by omega) (.inr ⟨_,wm,rfl⟩) (.inl rfl));have l1:=xdd 6 (act.drop (i+1)) (by simp; omega) [p,q,r] (g++[into (act.getD i default).Form [p,q,r]]) t;have l2:=xdd 6 (act.drop (i+1+(act.getD i default).Skip.toNat)) (by simp; omega) [p,q,r] (g++[minus (into (act.getD i default).Form [p,q,r])]) t
           repeat' first|((first|refine zz ?_|(refine xa ?_ ?_<;>intro _)|refine ixN (enc:=eL) default hil ?_|refine ⟨_,xey (act.getD i default).Form p q r fb (m7 wp.1) (m7 wp.2.1) (m7 wp.2.2) (zm.2 (m8 wi)),?_⟩)<;>conv=>whnf)|(refine ⟨_,za g (by have:=wl.1.1; omega) wl.1.2,?_⟩;conv=>whnf)|(refine ⟨_,za t (by have:=wl.2.1; omega) wl.2.2,?_⟩;conv=>whnf)|((first|refine ⟨_,za [p,q,r] (by simp) wps,?_⟩|refine ⟨_,xq1 (into (act.getD i default).Form [p,q,r]) (m8 wi),?_⟩|refine wq ?_|refine ⟨_,ihy _ _ _ _ (by omega) rfl (by simp) rfl,?_⟩|refine ⟨_,ihn _ _ _ _ (by omega) rfl (by simp) rfl,?_⟩)<;>conv=>whnf)|(refine apN (by first|(simp only [xzi]; omega)|(simp; omega)) ?_;conv=>whnf)
           all_goals first
            | (exfalso; simp_all; done)
            | skip
           exact ⟨by rw [<- hW,xet hil hk]; exact congrArg (fun x=>TV.one (AV.sl _ x)) x0q.symm,rfl⟩
         · obtain ⟨hp0,hp2⟩:=xa3 hx hk;have hpot:(act.getD i default).Pot=0\/(act.getD i default).Pot=1\/(act.getD i default).Pot=2:=by omega
           rcases hpot with hpot|hpot|hpot
           all_goals repeat' first|((first|refine zz ?_|(refine xa ?_ ?_<;>intro _)|refine ixN (enc:=eL) default hil ?_|refine ⟨_,xey (act.getD i default).Form p q r fb (m7 wp.1) (m7 wp.2.1) (m7 wp.2.2) (zm.2 (m8 wi)),?_⟩)<;>conv=>whnf)|(refine ⟨_,za g (by have:=wl.1.1; omega) wl.1.2,?_⟩;conv=>whnf)|(refine ⟨_,za t (by have:=wl.2.1; omega) wl.2.2,?_⟩;conv=>whnf)|((first|refine ⟨_,za [p,q,r] (by simp) wps,?_⟩|refine ⟨_,qd p (into (act.getD i default).Form [p,q,r]) 1 (mS wp.1) (m8 wi) (by decide),?_⟩|refine ⟨_,qd q (into (act.getD i default).Form [p,q,r]) 1 (mS wp.2.1) (m8 wi) (by decide),?_⟩|refine ⟨_,qd r (into (act.getD i default).Form [p,q,r]) 1 (mS wp.2.2) (m8 wi) (by decide),?_⟩|refine wq ?_)<;>conv=>whnf)|((rw [hpot];conv=>whnf))|((first|refine ioN (by decide) (by simp) ?_|refine rwC rfl ?_)<;>conv=>whnf)
           all_goals first
            | (exfalso; simp_all; done)
            | skip
           · refine ⟨i+1,lin p (into (act.getD i default).Form [p,q,r]) 1,q,r,g,t,⟨show i+1<=100 from by omega,show act.length - (i+1)<n+1 from by omega,w.add hil hs (.inr rfl) (.inl rfl) (.inl rfl),by rw [<- hW,jn hil hk,hpot]; rfl,rfl⟩,show act.length - (i+1)<act.length - i from by omega,?_⟩;exact wk
           · refine ⟨i+1,p,lin q (into (act.getD i default).Form [p,q,r]) 1,r,g,t,⟨show i+1<=100 from by omega,show act.length - (i+1)<n+1 from by omega,w.add hil hs (.inl rfl) (.inr rfl) (.inl rfl),by rw [<- hW,jn hil hk,hpot]; rfl,rfl⟩,show act.length - (i+1)<act.length - i from by omega,?_⟩;exact wk
           · refine ⟨i+1,p,q,lin r (into (act.getD i default).Form [p,q,r]) 1,g,t,⟨show i+1<=100 from by omega,show act.length - (i+1)<n+1 from by omega,w.add hil hs (.inl rfl) (.inl rfl) (.inr rfl),by rw [<- hW,jn hil hk,hpot]; rfl,rfl⟩,show act.length - (i+1)<act.length - i from by omega,?_⟩;exact wk
         · repeat' first|((first|refine zz ?_|(refine xa ?_ ?_<;>intro _)|refine ixN (enc:=eL) default hil ?_|refine ⟨_,xey (act.getD i default).Form p q r fb (m7 wp.1) (m7 wp.2.1) (m7 wp.2.2) (zm.2 (m8 wi)),?_⟩)<;>conv=>whnf)|(refine ⟨_,za g (by have:=wl.1.1; omega) wl.1.2,?_⟩;conv=>whnf)|(refine ⟨_,za t (by have:=wl.2.1; omega) wl.2.2,?_⟩;conv=>whnf)|((first|refine ⟨_,za [p,q,r] (by simp) wps,?_⟩|refine wq ?_)<;>conv=>whnf)|(refine apN (by simp; omega) ?_;conv=>whnf)
           all_goals first
            | (exfalso; simp_all; done)
            | skip
           refine ⟨i+1,p,q,r,g,t++[into (act.getD i default).Form [p,q,r]],⟨show i+1<=100 from by omega,show act.length - (i+1)<n+1 from by omega,w.on hil hs (by omega) (.inl rfl) (.inr ⟨_,wi,rfl⟩),by rw [<- hW,xeu hil hk],rfl⟩,show act.length - (i+1)<act.length - i from by omega,?_⟩
           repeat' (first|exact True.intro|((conv=>whnf);first|exact True.intro|refine ⟨by rfl,?_⟩|refine ⟨by first|omega|(show (_:Int)=_;first|omega|(dsimp only;omega))|exact (x0q (f:=eF) (l₁:=t) (l₂:=[into (act.getD i default).Form [p,q,r]])).symm,?_⟩|refine ⟨?_,?_⟩))
         · exact absurd hk h4
     · repeat' first|((first|refine zz ?_|(refine xa ?_ ?_<;>intro _)|refine ⟨_,xwa p q r g t w.pots.1 w.pots.2.1 w.pots.2.2 w.lists.1 w.lists.2,?_⟩)<;>conv=>whnf)
       exact ⟨by rw [<- hW,xlw (by omega)]; rfl,rfl⟩
end Cc
end
