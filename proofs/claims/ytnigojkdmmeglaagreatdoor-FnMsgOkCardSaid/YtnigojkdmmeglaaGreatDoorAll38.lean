/- The laws FnMsgOk, FnSitFree: part 38 of 41. No conditions beyond the statement. -/
import Derived.Test.YtnigojkdmmeglaaGreatDoorAll33
import Derived.Test.YtnigojkdmmeglaaGreatDoorAll37
set_option linter.unusedVariables false
set_option linter.unusedSimpArgs false
set_option maxRecDepth 100000
set_option maxHeartbeats 16000000
section
namespace Cc
open Go Go.AM
theorem xm0 (p:Plan) (s:Site) (n:Int) (m:Msg):∀ x∈(sitHear p s n m).2,msgOk p x=true/\x.To = -1:=by
 intro x hx;unfold sitHear at hx
 split at hx
 · rename_i h;unfold siteOk msgOk at h;simp only [xzj] at h;obtain ⟨⟨⟨hp,hi⟩,hs⟩,-,hm⟩:=h;unfold siteHear at hx
   split at hx
   · cases hx
   · split at hx
     · rename_i h2;rw [xzq.1 hx];exact ⟨by unfold msgOk; rw [hp,xh0 (s:=s) hs hi]; rfl,rfl⟩
     · split at hx<;>cases hx
 · cases hx
theorem xm1 (p:Plan) (c:Clerk):∀ x∈clkTick p c,msgOk p x=true/\x.To ≠ -1:=by
 intro x hx;unfold clkTick at hx
 split at hx
 · rename_i h;obtain ⟨hp,hc⟩:=xmy h;obtain ⟨h1,h2⟩:=xiw hc x hx;exact ⟨by unfold msgOk; rw [hp,h1]; rfl,h2⟩
 · cases hx
theorem xow (p:Plan) (s:Site) (n:Int) (m:Msg):(sitHear p s n m).2.length<=1:=by
 unfold sitHear
 split
 · unfold siteHear
   split
   · simp
   · split
     · simp
     · split<;>simp
 · simp
theorem xox (p:Plan) (c:Clerk):(clkTick p c).length<=6:=by
 unfold clkTick
 split
 · rename_i h;obtain ⟨hp,hc⟩:=xmy h;have h3:=yk hp;have hg:=hc.gl;unfold clerkTick
   split
   · split<;>simp only [xzu,xz4,pacts,freezes,xzi,List.length_range]<;>omega
   · simp
 · simp
theorem law_msgOk (bs ds:List UInt8):Sem P 4 [(.pure,.one (sBy bs)),(.pure,.one (sBy ds))] [] (B true):=by
 refine fO Go.Proofs.Tryz.f4 fun hb=>?_;have lb:(bytesRows bs).length=bs.length:=xzi ..;have ld:(bytesRows ds).length=ds.length:=xzi ..;conv=>whnf
 repeat' first|((first|refine zz ?_|(refine xa ?_ ?_<;>intro _))<;>conv=>whnf)|(refine callS (xr8 bs) ?_; rintro _ ⟨p,m,hp,rfl⟩;conv=>whnf)
 all_goals first
  | exact ⟨rfl,rfl⟩
  | skip
 have hI:=wd p m;have hS:=xot p m;generalize msgOk p m=b at hI hS
 repeat' first|((first|refine zz ?_|(refine xa ?_ ?_<;>intro _)|refine ⟨_,hI,?_⟩|refine ⟨_,hS,?_⟩)<;>conv=>whnf)|(refine callS (xmv ds) ?_; rintro _ ⟨q,s,n,x,rfl⟩;conv=>whnf)
 all_goals first
  | (exfalso; clear hI hS hb; simp_all; done)
  | skip
 have hH:=xmx q s n x;have hs:=xm0 q s n x;have hl1:=xow q s n x;generalize sitHear q s n x=y at hH hs hl1;obtain ⟨s',out⟩:=y;dsimp only at hl1;replace hH:Sem P 27 [(.pure,.agg (aPl q)),(.pure,.agg (aS s)),(.pure,I n),(.pure,.agg (aM x))] [] (.tup [(true,eS s'),(false,[fMs out])]):=hH;have lo:(out.map eM).length=out.length:=xzi ..
 repeat' first|((first|refine zz ?_|(refine xa ?_ ?_<;>intro _)|refine ⟨_,hH,?_⟩)<;>conv=>whnf)
 refine Vc.loop1 (fun (i:Nat)=>i<=out.length) (fun i=>updL [1,7,12,14,15,16,17,74,75,76,77,78,79,80,81,82,83,84,85,86,87,88,89,90,91,92,93,94,95,96,97,98,99,100,101,102,103] [(13,I i)] []) (fun i=>out.length - i) 0 (xz1 _) ?_ (fun i hi=>?_)
 · exact wk
 · conv=>whnf
   (refine zA ?_)
   refine xa (fun g=>?_) (fun g=>?_)
   all_goals conv=>whnf
   · have hil:i<out.length:=by simp only [xzk] at g; omega
     have hx:=hs (out.getD i default) (xp hil);have hO:=wd q (out.getD i default);rw [hx.1] at hO;have ht:=hx.2
     repeat' first|((first|refine zz ?_|(refine xa ?_ ?_<;>intro _)|refine ixN (enc:=eM) default hil ?_|refine ⟨_,hO,?_⟩|refine wq ?_)<;>conv=>whnf)
     all_goals first
      | (exfalso; clear hI hS hb hH hO hs; simp only [bne_iff_ne,ne_eq] at *; omega)
      | (refine ⟨i+1,by omega,by simp only; omega,?_⟩
         exact wk
         done)
   · repeat' first|((first|refine zz ?_|(refine xa ?_ ?_<;>intro _))<;>conv=>whnf)|(refine callS (xmw ds) ?_; rintro _ ⟨k,c,rfl⟩;conv=>whnf)|((first|refine ⟨_,xmz k c,?_⟩)<;>conv=>whnf)
     have hs2:=xm1 k c;have hl2:=xox k c;generalize clkTick k c=said at hs2 hl2 ⊢;have l2:(said.map eM).length=said.length:=xzi ..;refine Vc.loop1 (fun (j:Nat)=>j<=said.length) (fun j=>updL [14,16,103] [(17,I j)] []) (fun j=>said.length - j) 0 (xz1 _) ?_ (fun j hj=>?_)
     · exact wk
     · conv=>whnf
       (refine zA ?_)
       refine xa (fun g2=>?_) (fun g2=>?_)
       all_goals conv=>whnf
       · have hjl:j<said.length:=by simp only [xzk] at g2; omega
         have hx:=hs2 (said.getD j default) (xp hjl);have hO:=wd k (said.getD j default);rw [hx.1] at hO;have ht:=hx.2
         repeat' first|((first|refine zz ?_|(refine xa ?_ ?_<;>intro _)|refine ixN (enc:=eM) default hjl ?_|refine ⟨_,hO,?_⟩|refine wq ?_)<;>conv=>whnf)
         all_goals first
          | (exfalso; clear hI hS hb hH hO hs hs2; simp only [x1d,ne_eq] at *; omega)
          | (refine ⟨j+1,by omega,by simp only; omega,?_⟩
             exact wk
             done)
       · repeat' first|((first|refine zz ?_|(refine xa ?_ ?_<;>intro _)|refine ⟨_,xbj,?_⟩)<;>conv=>whnf)
         exact ⟨rfl,rfl⟩
end Cc
end
