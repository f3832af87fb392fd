/- The law FnClkFold: part 34 of 35. No conditions beyond the statement. -/
import Derived.Test.YtnigojkdmmeglaaGreatDoorClf28
import Derived.Test.YtnigojkdmmeglaaGreatDoorClf33
set_option linter.unusedVariables false
set_option linter.unusedSimpArgs false
set_option maxRecDepth 100000
set_option maxHeartbeats 16000000
section
namespace Cc
open Go Go.AM
theorem xlx (bs:List UInt8):∃ res,(∃ (p:Plan) (c:Clerk),res=.tup [(true,ePl p),(true,eK c)])/\Sem P 7 [(.pure,.one (sBy bs))] [] res:=by
 have key:∃ res outs,(outs=[]/\∃ (p:Plan) (c:Clerk),res=.tup [(true,ePl p),(true,eK c)])/\Sem P 7 [(.pure,.one (sBy bs))] outs res:=by
  refine x5 (E:={ E0 with keep:=[2001] }) xn xo (fn:=Go.Proofs.Tryz.f7) (by kernel_rfl) (by kernel_rfl) ?_;conv=>whnf
  repeat' first|((first|refine zz ?_|(refine xa ?_ ?_<;>intro _))<;>conv=>whnf)|(refine callS (xth bs) ?_; rintro _ ⟨cs,hcs,rfl⟩;conv=>whnf)|(refine callIo (xqq cs _ _ (by omega) (by decide) hcs) ?_; rintro _ _ ⟨p,c,w,b,hb,hw,rfl,rfl⟩;conv=>whnf)
  exact ⟨rfl,p,c,rfl⟩
 obtain ⟨r,o,⟨rfl,h⟩,h4⟩:=key;exact ⟨r,h,h4⟩
def valsAfter (p:Plan):List Call->List Int->List Int
 | [],v=>v
 | x::r,v=>valsAfter p r (runQ p v x).2
theorem xdb (p:Plan):∀ (l:List Call) (x:Call) (v:List Int),valsAfter p (l++[x]) v=(runQ p (valsAfter p l v) x).2
 | [],_,_=>rfl
 | y::r,x,v=>xdb p r x (runQ p v y).2
theorem xel (p:Plan) (got:List Got):∀ (l:List Call) (v:List Int) (d:List Done),(foldWants p got l v d).1=valsAfter p ((foldWants p got l v d).2.2.map Prod.fst) v /\
 ∀ i,i<(foldWants p got l v d).2.2.length->(runQ p (valsAfter p (((foldWants p got l v d).2.2.map Prod.fst).take i) v) (((foldWants p got l v d).2.2.map Prod.fst).getD i Call.nil)).1=((foldWants p got l v d).2.2.map Prod.snd).getD i Rslt.nil
 | [],v,d=>⟨rfl,fun i h=>by simp [foldWants] at h⟩
 | x::r,v,d=>by
   unfold foldWants
   split
   · obtain ⟨h1,h2⟩:=xel p got r (runQ p v x).2 (d.set x.Client.toNat ⟨x.Seq,(runQ p v x).1⟩);refine ⟨h1,fun i hi=>?_⟩
     cases i with
     | zero=>rfl
     | succ i=>exact h2 i (Nat.lt_of_succ_lt_succ hi)
   · exact xel p got r v d
theorem xtk {n:Nat} (h:1<=n) (u:Bool) (r:Int) (b:List Int) (d:List Done) (w:List Call):readyB ⟨u,r,b,d,w,List.replicate n Got.nil⟩=false:=by
 cases n with
 | zero=>omega
 | succ n=>rfl
theorem qj {f:Nat} {α:Type} [DecidableEq α] {a:α} {ins:List (Go.AM.Mode × TV)} (h:Sem P f ins [] (B (decide (a=a)))):Sem P f ins [] (B true):=by
 rw [x0w rfl] at h; exact h
theorem law_clkFold (bs:List UInt8):Sem P 3 [(.pure,.one (sBy bs))] [] (B true):=by
 refine fO Go.Proofs.Tryz.f3 fun hb=>?_;have lb:(bytesRows bs).length=bs.length:=xxs ..;conv=>whnf
 repeat' first|((first|refine zz ?_|(refine xa ?_ ?_<;>intro _))<;>conv=>whnf)|(refine callS (xlx bs) ?_; rintro _ ⟨p,c,rfl⟩;conv=>whnf)
 · exact ⟨rfl,rfl⟩
 have hI:=xlu p c;have hS:=xlv p c;have hO:=xc3 p c;have hR1:=xda p c;have hR2:=xje p c
 cases hk:clkOk p c with
 | false =>
   have e:clkFold p c=(Clerk.nil,[]):=by unfold clkFold; rw [hk]; rfl
   have e2:clkReady p c=false:=by unfold clkReady; rw [hk]; rfl
   rw [e] at hI hS;rw [e2] at hR1 hR2;rw [hk] at hO
   repeat' first|((first|refine zz ?_|(refine xa ?_ ?_<;>intro _)|refine ⟨_,hI,?_⟩|refine ⟨_,hS,?_⟩|refine ⟨_,hO,?_⟩|refine ⟨_,hR1,?_⟩|refine ⟨_,hR2,?_⟩|refine ⟨_,qj (xf0 Clerk.nil Clerk.nil),?_⟩|refine ⟨_,qj (xc4 [] []),?_⟩|refine ⟨_,qj (xc5 [] []),?_⟩|refine ⟨_,xvc,?_⟩)<;>conv=>whnf)
   all_goals first
    | exact ⟨rfl,rfl⟩
 | true =>
   obtain ⟨hp,hc⟩:=xhb hk;have hF:=planF hp;have e:clkFold p c=clerkFold p c:=by unfold clkFold; rw [hk]; rfl
   have e2:clkReady p c=readyB c:=by unfold clkReady; rw [hk]; rfl
   rw [e] at hI hS;rw [e2] at hR1 hR2;rw [hk] at hO;have hg3:=yp hp;have hgv:=xvb p c hc (by rw [hc.gl]; exact hg3);have hV:=qe (given c);have hrd:=hc.r
   cases hcnd:(!readyB c || decide (c.Round=200) || !valOk (given c)) with
   | true =>
     rw [xeh hcnd] at hI hS;generalize hb1:readyB c=b1 at *;generalize hb2:valOk (given c)=b2 at *;cases b1<;>cases b2
     all_goals repeat' first|((first|refine zz ?_|(refine xa ?_ ?_<;>intro _)|refine ⟨_,hI,?_⟩|refine ⟨_,hS,?_⟩|refine ⟨_,hO,?_⟩|refine ⟨_,hR1,?_⟩|refine ⟨_,hR2,?_⟩|refine ⟨_,qj (xf0 c c),?_⟩|refine ⟨_,qj (xc4 [] []),?_⟩|refine ⟨_,qj (xc5 [] []),?_⟩|refine ⟨_,hgv,?_⟩|refine ⟨_,hV,?_⟩)<;>conv=>whnf)
     all_goals first
      | exact ⟨rfl,rfl⟩
      | (exfalso; clear hI hS hO hR1 hR2 hgv hV hb; simp_all; done)
   | false =>
     rw [w6 hcnd] at hI hS;simp only [x0y,x09,xx5] at hcnd;obtain ⟨⟨h1,h2⟩,hv⟩:=hcnd;rw [h1] at hR1 hR2;obtain ⟨v1,v2⟩:=xel p c.Got c.Wants (given c) c.Done;have hok:=xaq hF hc;rw [w6 (by rw [h1,hv,x0l h2]; rfl)] at hok;obtain ⟨o1,o2,-,-,-⟩:=hok;simp only at o1 o2;have hlen:=kx p c.Got c.Wants (given c) c.Done;have hw4:=kc hc (xt hp);generalize foldWants p c.Got c.Wants (given c) c.Done=y at *;obtain ⟨vf,df,l⟩:=y;simp only at v1 v2 o1 o2 hlen;replace hI:Sem P 8 _ [] (.tup [(true,eK ⟨c.Up,c.Round+1,vf,df,[],List.replicate c.Got.length Got.nil⟩),(false,[fCs (l.map Prod.fst)]),(false,[fRs (l.map Prod.snd)])]):=hI;replace hS:Sem P 9 _ [] (.tup [(true,eK ⟨c.Up,c.Round+1,vf,df,[],List.replicate c.Got.length Got.nil⟩),(false,[fCs (l.map Prod.fst)]),(false,[fRs (l.map Prod.snd)])]):=hS;have hO2:=xc2 p ⟨c.Up,c.Round+1,vf,df,[],List.replicate c.Got.length Got.nil⟩;have hR3:=xda p ⟨c.Up,c.Round+1,vf,df,[],List.replicate c.Got.length Got.nil⟩;have hk2:clkOk p ⟨c.Up,c.Round+1,vf,df,[],List.replicate c.Got.length Got.nil⟩=true:=by unfold clkOk; rw [hp,clerkF.2 o1]; rfl
     have hk3:clkReady p ⟨c.Up,c.Round+1,vf,df,[],List.replicate c.Got.length Got.nil⟩=false:=by
      unfold clkReady; rw [xtk (by rw [hc.gl]; exact hF.g1.1)]; simp
     rw [hk2] at hO2;rw [hk3] at hR3;have lf:((l.map Prod.fst).map eC).length=l.length:=by simp
     have lf2:(l.map Prod.fst).length=l.length:=by simp
     have lr2:(l.map Prod.snd).length=l.length:=by simp
     have lpa:(p.Acts.map eA).length=p.Acts.length:=xxs ..;have hcl1:=qj (xf0 ⟨c.Up,c.Round+1,vf,df,[],List.replicate c.Got.length Got.nil⟩ ⟨c.Up,c.Round+1,vf,df,[],List.replicate c.Got.length Got.nil⟩)
     repeat' first|((first|refine zz ?_|(refine xa ?_ ?_<;>intro _)|refine ⟨_,hI,?_⟩|refine ⟨_,hS,?_⟩|refine ⟨_,hO,?_⟩|refine ⟨_,hR1,?_⟩|refine ⟨_,hR2,?_⟩|refine ⟨_,hcl1,?_⟩|refine ⟨_,qj (xc4 (l.map Prod.fst) (l.map Prod.fst)),?_⟩|refine ⟨_,qj (xc5 (l.map Prod.snd) (l.map Prod.snd)),?_⟩|refine ⟨_,hgv,?_⟩)<;>conv=>whnf)
     all_goals first
      | (exfalso; clear hI hS hO hR1 hR2 hgv hV hb hO2 hR3 hcl1; simp only [xzw] at *; omega)
      | skip
     refine Vc.loop1 (fun (i:Nat)=>i<=l.length) (fun i=>updL [3,4,5,6,7,137,138,139,140,141,142,143,144,145,146,147,148,149,150,151,152,153,154,155,156,157,158,159,160,161,162,163,164,165,166,167,168,169,170] [(12,I i),(11,.one (fI (valsAfter p ((l.map Prod.fst).take i) (given c))))] []) (fun i=>l.length - i) 0 (xyb _) ?_ (fun i hi=>?_)
     · exact wk
     · conv=>whnf
       (refine zA ?_)
       refine xd (fun g=>?_) (fun g=>?_)
       all_goals conv=>whnf
       · have hil:i<l.length:=by omega
         have hmem:=(o2 _ (xog hil)).1;have c3:0<=((l.map Prod.fst).getD i Call.nil).Act/\((l.map Prod.fst).getD i Call.nil).Act<=p.Acts.length - 1:=(xy.1 hmem).2.2.1;have hA:=xe7 (p.Acts.getD ((l.map Prod.fst).getD i Call.nil).Act.toNat []) (valsAfter p ((l.map Prod.fst).take i) (given c)) ((l.map Prod.fst).getD i Call.nil).Args;have hre:=v2 i hil;have hco:=qj (xlw ((l.map Prod.snd).getD i Rslt.nil) ((l.map Prod.snd).getD i Rslt.nil));have hnx:valsAfter p ((l.map Prod.fst).take (i+1)) (given c)=(runQ p (valsAfter p ((l.map Prod.fst).take i) (given c)) ((l.map Prod.fst).getD i Call.nil)).2:=by
          have e:(l.map Prod.fst).take (i+1)=(l.map Prod.fst).take i++[(l.map Prod.fst).getD i Call.nil]:=by
           rw [List.take_add_one,xxr (by omega),xxx,xxr (by omega)]; rfl
          rw [e,xdb]
         unfold runQ at hre hnx;rw [hre,<- hnx] at hA
         repeat' first|((first|refine zz ?_|(refine xa ?_ ?_<;>intro _)|refine ixN (enc:=eC) Call.nil (by omega) ?_|refine ixN (enc:=eR) Rslt.nil (by omega) ?_|refine ixI (enc:=eA) [] (by omega) (by omega) ?_|refine ⟨_,hA,?_⟩|refine ⟨_,hco,?_⟩|refine wq ?_)<;>conv=>whnf)
         refine ⟨i+1,by omega,by simp only; omega,?_⟩;exact wk
       · have e3:(l.map Prod.fst).take i=l.map Prod.fst:=xx7 (by omega);rw [e3,<- v1]
         repeat' first|((first|refine zz ?_|(refine xa ?_ ?_<;>intro _)|refine ⟨_,hR1,?_⟩|refine ⟨_,hO2,?_⟩|refine ⟨_,hR3,?_⟩|refine ⟨_,qj (xb8 vf vf),?_⟩|refine wq ?_)<;>conv=>whnf)
         all_goals first
          | exact ⟨rfl,rfl⟩
          | (exfalso; clear hI hS hO hR1 hR2 hgv hV hb hO2 hR3 hcl1; simp_all; done)
end Cc
end
