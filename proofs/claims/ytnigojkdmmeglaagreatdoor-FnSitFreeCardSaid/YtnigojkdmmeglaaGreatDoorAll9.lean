/- The laws FnMsgOk, FnSitFree: part 9 of 41. No conditions beyond the statement. -/
import Derived.Test.YtnigojkdmmeglaaGreatDoorAll6
set_option linter.unusedVariables false
set_option linter.unusedSimpArgs false
set_option maxRecDepth 100000
set_option maxHeartbeats 16000000
section
namespace Cc
open Go Go.AM
theorem xit {p f:Form} (hp:p.sh) (hf:f.sh):lin p (lin Form.zero f (-1)) 1=lin p f (-1):=by
 obtain ⟨C,D,K⟩:=p;obtain ⟨C',D',K'⟩:=f;obtain ⟨a,b,c,rfl⟩:=len3 hp.1;obtain ⟨d,e,rfl⟩:=len2 hp.2;obtain ⟨a',b',c',rfl⟩:=len3 hf.1;obtain ⟨d',e',rfl⟩:=len2 hf.2;simp [lin,Form.zero]
theorem xtx (act:List Line) (h6:act.length<=6) (hok:∀ x∈act,x.ok=true):∀ (n i:Nat),act.length - i<n->i<=100->∀ (p q r:Form) (g t:List Form),Wk act i p q r g t->∀ (rs:List (List AV)),rs.length+(walk (act.drop i) [p,q,r] g t).length<=1000 ->
 ∀ (j:Int) (rp rg rt:List (List AV)),j=i->rp=[p,q,r].map eF->rg=g.map eF->rt=t.map eF ->
 Sem P 279 [(.io 0 0,.agg [fLs act,.sl 200 rs]),(.pure,I j),(.own,.one (.sl 115 rg)),(.own,.one (.sl 115 rp)),(.own,.one (.sl 115 rt))]
  [.agg [fLs act,.sl 200 (rs++(walk (act.drop i) [p,q,r] g t).map eW)]] (.tup []):=by
 intro n
 induction n with
 | zero=>intro i h; omega
 | succ n ih =>
   intro i0 hn h100 p0 q0 r0 g0 t0 hw0 rs hrs j rp rg rt rfl rfl rfl rfl;refine yp (E:={ E0 with keep:=[9004,9009,9011,12001,15001,18001],fz:=[(1000000,[128,192,256]),(1,[768064,768256,960064,1152064,1152256]),(24,[1216386])] }) xm xn (fn:=Go.Proofs.Tryz.f279) (by kernel_rfl) (by kernel_rfl) (fun hb=>?_);have la:(act.map eL).length=act.length:=xzi ..;conv=>whnf
   (refine zA ?_)
   refine Vc.loop6 (fun (i:Nat) (ps g t:List Form) (d:List Row) (_:Unit)=>∃ p q r,ps=[p,q,r]/\i<=100/\act.length - i<n+1/\Wk act i p q r g t/\d++walk (act.drop i) [p,q,r] g t=walk (act.drop i0) [p0,q0,r0] g0 t0)
    (fun i ps g t d _=>updL [0,13,14,15,105,106,107,108,109,110,111,112,113,114,115,116,117,118,119,120,121,122,123,124,125,126,127,128,129,130,131,132,133,134,135,136,137] [(1,I i),(2,.one (fFs g)),(3,.one (fFs ps)),(4,.one (fFs t))] [(63,.box [fLs act,.ref 1]),(1,.arr 200 (rs++d.map eW) false)]) (fun i _ _ _ _ _=>act.length - i) i0 [p0,q0,r0] g0 t0 [] () ⟨p0,q0,r0,rfl,h100,hn,hw0,rfl⟩ ?_ (fun i ps g t d _ hs=>?_)
   · repeat' (first|exact True.intro|((conv=>whnf);first|exact True.intro|refine ⟨by rfl,?_⟩|refine ⟨by first|omega|(show (_:Int)=_;first|omega|(dsimp only;omega))|exact by simp,?_⟩|refine ⟨?_,?_⟩))
   · obtain ⟨p,q,r,rfl,h100',hn',w,hW⟩:=hs;have wp:=w.pots;have wl:=w.lists;have m7:∀ {f:Form},f.bd 1000000->f.bd 10000000:=fun h=>xh h (by decide);have m8:∀ {f:Form},f.bd 588246->f.bd 10000000:=fun h=>xh h (by decide);have sg:shs g:=⟨by have:=wl.1.1; omega,fun f hf=>(wl.1.2 f hf).1⟩;have st:shs t:=⟨by have:=wl.2.1; omega,fun f hf=>(wl.2.2 f hf).1⟩;have sps:shs [p,q,r]:=⟨by simp,by simp only [xzn,x0o,x2f]; rintro f (rfl|rfl|rfl); exact wp.1.1; exact wp.2.1.1; exact wp.2.2.1⟩;have hln:=congrArg List.length hW;rw [xzu] at hln;conv=>whnf
     (refine zA ?_)
     refine xd (fun gd=>?_) (fun gd=>?_)
     all_goals conv=>whnf
     · have hil:i<act.length:=by omega
       have hx:=hok (act.getD i default) (xp hil);by_cases h4:(act.getD i default).Kind=4
       · rw [xes hil h4] at hln
         repeat' first|((first|refine zz ?_|(refine xa ?_ ?_<;>intro _)|refine ixN (enc:=eL) default hil ?_|refine ⟨_,yu g sg,?_⟩)<;>conv=>whnf)|(refine apN (by simp only [xzu,xzi,xz6,xz4] at hln ⊢; omega) ?_;conv=>whnf)
         · exact ⟨rfl,by rw [<- hW,xes hil h4]; simp⟩
         all_goals (exfalso; simp_all; done)
       · have hs:=j4 hx h4;have wi:=w.into hil hs;have wm:=w.minus hil hs;have fb:(act.getD i default).Form.bd 10000000:=(qj hs).1;rcases xem hx with hk|hk|hk|hk
         · have hsk:=xel hx hk;rw [xet hil hk,xzu] at hln;have ihy:=ih (i+1) (by omega) (by omega) p q r (g++[into (act.getD i default).Form [p,q,r]]) t (w.on hil hs (by omega) (.inr ⟨_,wi,rfl⟩) (.inl rfl)) (rs++d.map eW) (by simp only [xzu,xzi]; omega);have b1:=yy (k:=1) xcs wi (n := -1) (by decide);have hK:=b1.2.2.2;have es:((i+1+(act.getD i default).Skip.toNat:Nat):Int)=i+(act.getD i default).Skip+1:=by omega
           repeat' first|((first|refine zz ?_|(refine xa ?_ ?_<;>intro _)|refine ixN (enc:=eL) default hil ?_|refine ⟨_,xew (act.getD i default).Form p q r fb (m7 wp.1) (m7 wp.2.1) (m7 wp.2.2) (zm.2 (m8 wi)),?_⟩|refine ⟨_,yu g sg,?_⟩|refine ⟨_,yu t st,?_⟩|refine ⟨_,yu [p,q,r] sps,?_⟩|refine wq ?_|refine ⟨_,_,ihy _ _ _ _ (by omega) rfl (by simp) rfl,?_⟩|refine ⟨_,xam (into (act.getD i default).Form [p,q,r]) (-1) (m8 wi) (by decide) (xc8 b1 (by decide)),?_⟩)<;>conv=>whnf)|(refine apN (by first|(simp only [xzi]; omega)|(simp; omega)|(exfalso; simp_all; done)) ?_;conv=>whnf)
           all_goals first
            | (exfalso; simp_all; done)
            | skip
           refine ⟨i+1+(act.getD i default).Skip.toNat,[p,q,r],g++[minus (into (act.getD i default).Form [p,q,r])],t,d++walk (act.drop (i+1)) [p,q,r] (g++[into (act.getD i default).Form [p,q,r]]) t,(),⟨p,q,r,rfl,by omega,by omega,w.on hil hs (by omega) (.inr ⟨_,wm,rfl⟩) (.inl rfl),by rw [<- hW,xet hil hk,x0c]⟩,show act.length - (i+1+(act.getD i default).Skip.toNat)<act.length - i from by omega,?_⟩
           repeat' (first|exact True.intro|((conv=>whnf);first|exact True.intro|refine ⟨by rfl,?_⟩|refine ⟨by first|omega|(show (_:Int)=_;first|omega|(dsimp only;omega))|exact (x0q (f:=eF) (l₁:=g) (l₂:=[minus (into (act.getD i default).Form [p,q,r])])).symm|exact es.symm|exact by simp,?_⟩|refine ⟨?_,?_⟩))
         · obtain ⟨hp0,hp2⟩:=xa3 hx hk;rw [jn hil hk] at hln;have ok1:∀ {x:Form},(x=p\/x=q\/x=r)->(lin x (into (act.getD i default).Form [p,q,r]) 1).ok=true:=fun h=>xc8 (w.sum hil hs h) (by decide);have hpot:(act.getD i default).Pot=0\/(act.getD i default).Pot=1\/(act.getD i default).Pot=2:=by omega
           rcases hpot with hpot|hpot|hpot
           all_goals repeat' first|((first|refine zz ?_|(refine xa ?_ ?_<;>intro _)|refine ixN (enc:=eL) default hil ?_|refine ⟨_,xew (act.getD i default).Form p q r fb (m7 wp.1) (m7 wp.2.1) (m7 wp.2.2) (zm.2 (m8 wi)),?_⟩|refine ⟨_,yu g sg,?_⟩|refine ⟨_,yu t st,?_⟩|refine ⟨_,yu [p,q,r] sps,?_⟩|refine wq ?_|refine ⟨_,qy p (into (act.getD i default).Form [p,q,r]) (m7 wp.1) (m8 wi) (ok1 (.inl rfl)),?_⟩|refine ⟨_,qy q (into (act.getD i default).Form [p,q,r]) (m7 wp.2.1) (m8 wi) (ok1 (.inr (.inl rfl))),?_⟩|refine ⟨_,qy r (into (act.getD i default).Form [p,q,r]) (m7 wp.2.2) (m8 wi) (ok1 (.inr (.inr rfl))),?_⟩)<;>conv=>whnf)|((rw [hpot];conv=>whnf))|((first|refine ioN (by decide) (by simp) ?_|refine rwC rfl ?_)<;>conv=>whnf)
           all_goals first
            | (exfalso; simp_all; done)
            | skip
           · refine ⟨i+1,[lin p (into (act.getD i default).Form [p,q,r]) 1,q,r],g,t,d,(),⟨_,_,_,rfl,by omega,by omega,w.add hil hs (.inr rfl) (.inl rfl) (.inl rfl),by rw [<- hW,jn hil hk,hpot]; rfl⟩,show act.length - (i+1)<act.length - i from by omega,?_⟩;exact wk
           · refine ⟨i+1,[p,lin q (into (act.getD i default).Form [p,q,r]) 1,r],g,t,d,(),⟨_,_,_,rfl,by omega,by omega,w.add hil hs (.inl rfl) (.inr rfl) (.inl rfl),by rw [<- hW,jn hil hk,hpot]; rfl⟩,show act.length - (i+1)<act.length - i from by omega,?_⟩;exact wk
           · refine ⟨i+1,[p,q,lin r (into (act.getD i default).Form [p,q,r]) 1],g,t,d,(),⟨_,_,_,rfl,by omega,by omega,w.add hil hs (.inl rfl) (.inl rfl) (.inr rfl),by rw [<- hW,jn hil hk,hpot]; rfl⟩,show act.length - (i+1)<act.length - i from by omega,?_⟩;exact wk
         · rw [xeu hil hk] at hln
           repeat' first|((first|refine zz ?_|(refine xa ?_ ?_<;>intro _)|refine ixN (enc:=eL) default hil ?_|refine ⟨_,xew (act.getD i default).Form p q r fb (m7 wp.1) (m7 wp.2.1) (m7 wp.2.2) (zm.2 (m8 wi)),?_⟩|refine ⟨_,yu g sg,?_⟩|refine ⟨_,yu t st,?_⟩|refine ⟨_,yu [p,q,r] sps,?_⟩|refine wq ?_)<;>conv=>whnf)|(refine apN (by first|(simp only [xzi]; omega)|(simp; omega)|(exfalso; simp_all; done)) ?_;conv=>whnf)
           all_goals first
            | (exfalso; simp_all; done)
            | skip
           refine ⟨i+1,[p,q,r],g,t++[into (act.getD i default).Form [p,q,r]],d,(),⟨_,_,_,rfl,by omega,by omega,w.on hil hs (by omega) (.inl rfl) (.inr ⟨_,wi,rfl⟩),by rw [<- hW,xeu hil hk]⟩,show act.length - (i+1)<act.length - i from by omega,?_⟩
           repeat' (first|exact True.intro|((conv=>whnf);first|exact True.intro|refine ⟨by rfl,?_⟩|refine ⟨by first|omega|(show (_:Int)=_;first|omega|(dsimp only;omega))|exact (x0q (f:=eF) (l₁:=t) (l₂:=[into (act.getD i default).Form [p,q,r]])).symm,?_⟩|refine ⟨?_,?_⟩))
         · exact absurd hk h4
     · repeat' first|((first|refine zz ?_|(refine xa ?_ ?_<;>intro _)|refine ⟨_,yu g sg,?_⟩|refine ⟨_,yu t st,?_⟩)<;>conv=>whnf)
       have oz:∀ v,(lin Form.zero (Form.pot v) (-1)).bd 1:=fun v=>xh (yy (k:=1) xcs (zq v) (by decide)) (by decide);have pz:∀ v,(Form.pot v).bd 10000000:=fun v=>xh (zq v) (by decide);have oa:∀ {x:Form} (v:Nat),x.bd 1000000->(lin x (lin Form.zero (Form.pot v) (-1)) 1).ok=true:=fun v h=>xc8 (yy (k:=1) h (oz v) (by decide)) (by decide);rw [xlw (by omega)] at hln hW;refine Vc.loop1 (fun (v:Nat)=>v<=3) (fun v=>updL [0,13,110,111,128,129,130,131,132,133,134,135,136,137] [(112,I v)] [(1216320,.box [fFs g,.ref 1216386,fFs t,eB false]),(1216386,.arr 115 (([lin p (lin Form.zero (Form.pot 0) (-1)) 1,lin q (lin Form.zero (Form.pot 1) (-1)) 1,lin r (lin Form.zero (Form.pot 2) (-1)) 1].take v).map eF) false)]) (fun v=>3 - v) 0 (by omega) ?_ (fun v hv=>?_)
       · exact wk
       · match v,hv with
         | 0,_ =>
           conv=>whnf
           repeat' first|((first|refine zz ?_|(refine xa ?_ ?_<;>intro _)|refine ixK rfl ?_|refine wq ?_|refine ⟨_,qm 0 (by decide),?_⟩|refine ⟨_,xam (Form.pot 0) (-1) (pz _) (by decide) (xc8 (oz _) (by decide)),?_⟩|refine ⟨_,qy p (lin Form.zero (Form.pot 0) (-1)) (m7 wp.1) (xh (oz _) (by decide)) (oa _ wp.1),?_⟩|refine apN (by simp) ?_)<;>conv=>whnf)
           refine ⟨1,by omega,by simp only; omega,?_⟩;exact wk
         | 1,_ =>
           conv=>whnf
           repeat' first|((first|refine zz ?_|(refine xa ?_ ?_<;>intro _)|refine ixK rfl ?_|refine wq ?_|refine ⟨_,qm 1 (by decide),?_⟩|refine ⟨_,xam (Form.pot 1) (-1) (pz _) (by decide) (xc8 (oz _) (by decide)),?_⟩|refine ⟨_,qy q (lin Form.zero (Form.pot 1) (-1)) (m7 wp.2.1) (xh (oz _) (by decide)) (oa _ wp.2.1),?_⟩|refine apN (by simp) ?_)<;>conv=>whnf)
           refine ⟨2,by omega,by simp only; omega,?_⟩;exact wk
         | 2,_ =>
           conv=>whnf
           repeat' first|((first|refine zz ?_|(refine xa ?_ ?_<;>intro _)|refine ixK rfl ?_|refine wq ?_|refine ⟨_,qm 2 (by decide),?_⟩|refine ⟨_,xam (Form.pot 2) (-1) (pz _) (by decide) (xc8 (oz _) (by decide)),?_⟩|refine ⟨_,qy r (lin Form.zero (Form.pot 2) (-1)) (m7 wp.2.2) (xh (oz _) (by decide)) (oa _ wp.2.2),?_⟩|refine apN (by simp) ?_)<;>conv=>whnf)
           refine ⟨3,by omega,by simp only; omega,?_⟩;exact wk
         | 3,_ =>
           conv=>whnf
           repeat' first|((first|refine zz ?_|(refine xa ?_ ?_<;>intro _))<;>conv=>whnf)|(refine apN (by simp at hln ⊢; omega) ?_;conv=>whnf)
           have er:rowEnd [p,q,r] g t=⟨g,[lin p (lin Form.zero (Form.pot 0) (-1)) 1,lin q (lin Form.zero (Form.pot 1) (-1)) 1,lin r (lin Form.zero (Form.pot 2) (-1)) 1],t,false⟩:=by
            rw [xit wp.1.1 (zq 0).1,xit wp.2.1.1 (zq 1).1,xit wp.2.2.1 (zq 2).1]; rfl
           refine ⟨rfl,?_⟩;rw [<- hW,er,x0q,<- x0c];rfl
theorem xca (act:List Line):Sem P 237 [(.pure,.one (sLs act))] [] (.one (sWs (rowsOf act))):=by
 by_cases ha:actOk act=true
 · obtain ⟨hok,h6,_⟩:=zk.1 ha;have hl:=xdd 6 (act.drop 0) (by simpa using h6) [Form.pot 0,Form.pot 1,Form.pot 2] [] [];have hw:=xtx act h6 hok 7 0 (by omega) (by decide) (Form.pot 0) (Form.pot 1) (Form.pot 2) [] [] (Wk.start h6) [] (by simp only [xz4]; omega);refine fO Go.Proofs.Tryz.f237 fun hb=>?_;conv=>whnf
   repeat' first|((first|refine zz ?_|(refine xa ?_ ?_<;>intro _)|refine ⟨_,xc9 act,?_⟩)<;>conv=>whnf)
   · exfalso; simp_all
   · refine Vc.loop1 (fun (v:Nat)=>v<=3) (fun v=>updL [2,3,21,22,24,25,26,27] [(12,I v),(4,.one (.ref 320000))] [(320000,.arr 115 (([Form.pot 0,Form.pot 1,Form.pot 2].take v).map eF) false)]) (fun v=>3 - v) 0 (by omega) ?_ (fun v hv=>?_)
     · exact wk
     · match v,hv with
       | 0,_ =>
         conv=>whnf
         repeat' first|((first|refine zz ?_|(refine xa ?_ ?_<;>intro _)|refine wq ?_|refine ⟨_,qm 0 (by decide),?_⟩|refine apN (by simp) ?_)<;>conv=>whnf)
         refine ⟨1,by omega,by simp only; omega,?_⟩;exact wk
       | 1,_ =>
         conv=>whnf
         repeat' first|((first|refine zz ?_|(refine xa ?_ ?_<;>intro _)|refine wq ?_|refine ⟨_,qm 1 (by decide),?_⟩|refine apN (by simp) ?_)<;>conv=>whnf)
         refine ⟨2,by omega,by simp only; omega,?_⟩;exact wk
       | 2,_ =>
         conv=>whnf
         repeat' first|((first|refine zz ?_|(refine xa ?_ ?_<;>intro _)|refine wq ?_|refine ⟨_,qm 2 (by decide),?_⟩|refine apN (by simp) ?_)<;>conv=>whnf)
         refine ⟨3,by omega,by simp only; omega,?_⟩;exact wk
       | 3,_ =>
         conv=>whnf
         repeat' first|((first|refine zz ?_|(refine xa ?_ ?_<;>intro _)|refine ⟨_,_,hw _ _ _ _ rfl rfl rfl rfl,?_⟩)<;>conv=>whnf)
         exact ⟨by rw [rowsOf,if_pos ha]; rfl,rfl⟩
 · refine fO Go.Proofs.Tryz.f237 fun hb=>?_;conv=>whnf
   repeat' first|((first|refine zz ?_|(refine xa ?_ ?_<;>intro _)|refine ⟨_,xc9 act,?_⟩)<;>conv=>whnf)
   · exact ⟨by rw [rowsOf,if_neg ha]; rfl,rfl⟩
   · exfalso; simp_all
end Cc
end
