/- The laws FnMsgOk, FnSitFree: part 17 of 41. No conditions beyond the statement. -/
import Derived.Test.YtnigojkdmmeglaaGreatDoorAll16
set_option linter.unusedVariables false
set_option linter.unusedSimpArgs false
set_option maxRecDepth 100000
set_option maxHeartbeats 16000000
section
namespace Cc
open Go Go.AM
theorem xf7 (w:World) (h1:planOk w.Plan=true):Sem P 113 [(.pure,.agg (aWd w)),(.pure,.one (sPs (partsOf w.Plan.Acts))),(.pure,.one (sBs (pinsOf w.Plan.Acts)))] [] (B (wldOk w)):=by
 have iff:=@xuc w;have ls:(w.Sites.map eS).length=w.Sites.length:=xzi ..;have lx:(w.Clients.map eX).length=w.Clients.length:=xzi ..;have lm:(w.Net.map eM).length=w.Net.length:=xzi ..;have lp:=xb w.Plan.Gives;by_cases h0:(planOk w.Plan && decide (w.Sites.length=w.Plan.Gives.length) && decide ((w.Clients.length:Int)=w.Plan.Clients) && decide (w.Net.length<=30) && logB w.Plan w.Log)=true
 · have h:=h0;simp only [xzj,xzk] at h;obtain ⟨⟨⟨⟨_,h2⟩,h3⟩,h4⟩,h5⟩:=h;have hc:=xi h1;have hcb:=xc.1 hc;refine fO Go.Proofs.Tryz.f113 fun hb=>?_;have hb1:(w.Sites.map eS).length<=1125899906842624:=(hb.1 (sSs w.Sites) (by simp)).1;have hb2:(w.Clients.map eX).length<=1125899906842624:=(hb.1 (sXs w.Clients) (by simp)).1;conv=>whnf
   repeat' first|((first|refine zz ?_|(refine xa ?_ ?_<;>intro _)|refine ⟨_,xlr w.Plan hc w.Log,?_⟩)<;>conv=>whnf)
   all_goals first
    | (clear iff; exfalso; simp_all; done)
    | (clear iff; exfalso; simp_all; omega)
    | skip
   refine Vc.loop1 (fun (i:Nat)=>i<=w.Sites.length/\∀ j,j<i->siteB w.Plan (w.Sites.getD j default) j=true) (fun i=>updL [1,2,3,7,9,10,59,60,61,62,63,64,65,66,67,68,69,70,71,72,73,74,75,76,77,78,79,80,81,82,83,84,85,86,87,88,89,90,91,92,93,94,95] [(8,I i)] []) (fun i=>w.Sites.length - i) 0 ⟨xz1 _,fun j hj=>absurd hj (x0z j)⟩ ?_ (fun i hi=>?_)
   · exact wk
   · obtain ⟨hi,hall⟩:=hi;conv=>whnf
     (refine zA ?_)
     refine xd (fun g=>?_) (fun g=>?_)
     all_goals conv=>whnf
     · have hil:i<w.Sites.length:=by omega
       have his:isSite w.Plan i=true:=xc.2 (by omega)
       repeat' first|((first|refine zz ?_|(refine xa ?_ ?_<;>intro _)|refine ixN (enc:=eS) default hil ?_|refine ⟨_,xf6 w.Plan (w.Sites.getD i default) i,?_⟩|refine wq ?_)<;>conv=>whnf)
       all_goals first
        | (refine rB ?_; symm; refine xh2 fun hB=>?_; have:=(iff.1 hB).2.1 i hil; clear iff hall; simp_all; done)
        | (refine ⟨i+1,⟨by omega,fun j hj=>?_⟩,by simp only; omega,?_⟩
           · by_cases hji:j<i
             · exact hall j hji
             · obtain rfl:j=i:=by omega
               clear iff hall;simp_all
           · exact wk)
     · have hS:∀ j,j<w.Sites.length->siteB w.Plan (w.Sites.getD j default) j=true:=fun j hj=>hall j (by omega)
       (refine zA ?_)
       refine Vc.loop1 (fun (i:Nat)=>i<=w.Clients.length/\∀ j,j<i->clientB w.Plan j (w.Clients.getD j default)=true) (fun i=>updL [1,2,3,7,10,75,76,77,78,79,80,81,82,83,84,85,86,87,88,89,90,91,92,93,94,95] [(9,I i)] []) (fun i=>w.Clients.length - i) 0 ⟨xz1 _,fun j hj=>absurd hj (x0z j)⟩ ?_ (fun k hk=>?_)
       · exact wk
       · obtain ⟨hk,hal2⟩:=hk;conv=>whnf
         (refine zA ?_)
         refine xd (fun g=>?_) (fun g=>?_)
         all_goals conv=>whnf
         · have hkl:k<w.Clients.length:=by omega
           repeat' first|((first|refine zz ?_|(refine xa ?_ ?_<;>intro _)|refine ixN (enc:=eX) default hkl ?_|refine ⟨_,xof w.Plan (w.Clients.getD k default) k hc,?_⟩|refine wq ?_)<;>conv=>whnf)
           all_goals first
            | (refine rB ?_; symm; refine xh2 fun hB=>?_; have:=(iff.1 hB).2.2.1 k hkl; clear iff hall hal2 hS; simp_all; done)
            | (refine ⟨k+1,⟨by omega,fun j hj=>?_⟩,by simp only; omega,?_⟩
               · by_cases hji:j<k
                 · exact hal2 j hji
                 · obtain rfl:j=k:=by omega
                   clear iff hall hal2 hS;simp_all
               · exact wk)
         · have hX:∀ j,j<w.Clients.length->clientB w.Plan j (w.Clients.getD j default)=true:=fun j hj=>hal2 j (by omega);have fin:wldOk w=(clerkB w.Plan w.Clerk && w.Net.all (msgB w.Plan)):=by
            cases e:(clerkB w.Plan w.Clerk && w.Net.all (msgB w.Plan)) with
            | true=>exact iff.2 ⟨h0,hS,hX,e⟩
            | false=>exact xh2 fun hB=>by rw [(iff.1 hB).2.2.2] at e; cases e
           clear iff hall hal2 hS hX
           (refine zA ?_)
           have hb3:(w.Net.map eM).length<=1125899906842624:=by omega
           refine Vc.loop1 (fun (i:Nat)=>i<=w.Net.length/\∀ j,j<i->(msgB w.Plan) (w.Net.getD j default)=true) (fun i=>updL [1,2,3,7,90,91,92,93,94,95] [(10,I i)] []) (fun i=>w.Net.length - i) 0 ⟨by omega,fun j hj=>absurd hj (x0z j)⟩ ?_ (fun i hi=>?_)
           · exact wl
           · obtain ⟨hi,ho⟩:=hi;have hlm:(w.Net.map eM).length=w.Net.length:=xzi ..;conv=>whnf
             (refine zA ?_)
             refine xd (fun g=>?_) (fun g=>?_)
             all_goals conv=>whnf
             · repeat' first|((first|refine zz ?_|(refine xa ?_ ?_<;>intro _)|refine ixN (enc:=eM) default (by omega) ?_|refine ⟨_,xdp w.Plan (w.Net.getD i default) hc,?_⟩|refine ⟨_,xe6 w.Plan w.Clerk hc,?_⟩|refine wq ?_)<;>conv=>whnf)
               all_goals first
                | (refine ⟨i+1,⟨by omega,fun j hj=>?_⟩,by simp only; omega,?_⟩
                   · by_cases h':j<i
                     · exact ho j h'
                     · obtain rfl:j=i:=by omega
                       clear ho;simp_all
                   · exact wl)
                | (have hp:(msgB w.Plan) (w.Net.getD i default)=false:=by (clear ho; simp_all )
                   have hn:w.Net.all (msgB w.Plan)=false:=z8 default (j:=i) (by omega) hp
                   (refine rB ?_; rw [fin,hn,x2y]))
             · have hall:w.Net.all (msgB w.Plan)=true:=z7 default fun j hj=>ho j (by omega)
               repeat' first|((first|refine zz ?_|(refine xa ?_ ?_<;>intro _)|refine ⟨_,xdp w.Plan (w.Net.getD i default) hc,?_⟩|refine ⟨_,xe6 w.Plan w.Clerk hc,?_⟩|refine wq ?_)<;>conv=>whnf)
               (refine rB ?_; rw [fin,hall,x24])
 · have hno:wldOk w=false:=xh2 fun hB=>h0 (iff.1 hB).1;clear iff;have hc:=xi h1;refine fO Go.Proofs.Tryz.f113 fun hb=>?_;conv=>whnf
   repeat' first|((first|refine zz ?_|(refine xa ?_ ?_<;>intro _)|refine ⟨_,xlr w.Plan hc w.Log,?_⟩)<;>conv=>whnf)
   all_goals first
    | (refine rB ?_; rw [hno]; done)
    | (exfalso; refine h0 ?_; clear h0 hno; simp only [xzj,xzk]; simp_all; omega)
theorem xao {p:Plan} (h:planOk p=true):p.Acts.length<=4:=j7 (qv h)
theorem xpu {a b:List Int} {m n:Int} (h:a.length=3) (h':b.length=3) (ha:∀ x∈a,-m<=x/\x<=m) (hb:∀ x∈b,-n<=x/\x<=n):(plus a b).length=3/\∀ x∈plus a b,-(m+n)<=x/\x<=m+n:=by
 obtain ⟨a1,a2,a3,rfl⟩:=len3 h;obtain ⟨b1,b2,b3,rfl⟩:=len3 h';refine ⟨rfl,?_⟩;have p1:=ha a1 (by simp); have p2:=ha a2 (by simp); have p3:=ha a3 (by simp);have q1:=hb b1 (by simp); have q2:=hb b2 (by simp); have q3:=hb b3 (by simp);intro x hx;simp only [plus,List.zipWith_cons_cons,List.zipWith_nil_left,xzn,x0o,x2f] at hx;rcases hx with rfl|rfl|rfl<;>omega
set_option maxHeartbeats 8000000
set_option maxHeartbeats 8000000
theorem kf (a b:List Int) (h1:a.length=3) (h2:b.length=3) (ha:mid a) (hb':mid b):Sem P 128 [(.pure,AI a),(.pure,AI b)] [] (AI (plus a b)):=by
 obtain ⟨x,y,z,rfl⟩:=len3 h1;obtain ⟨u,v,w,rfl⟩:=len3 h2;have hx:=ha x (by simp); have hy:=ha y (by simp); have hz:=ha z (by simp);have hu:=hb' u (by simp); have hv:=hb' v (by simp); have hw:=hb' w (by simp);refine fO Go.Proofs.Tryz.f128 fun hb=>?_;conv=>whnf
 (refine zA ?_)
 refine Vc.loop1 (fun (i:Nat)=>i<=3) (fun i=>updL [0,1,4,24] [(6,I i),(5,.one (.ref 128000))] [(128000,.arr 3 (ints ([x+u,y+v,z+w].take i)) false)]) (fun i=>3 - i) 0 (by omega) ?_ (fun i hi=>?_)
 · exact wk
 · match i,hi with
   | 0,_ =>
     conv=>whnf
     repeat' first|((first|refine zz ?_|(refine xa ?_ ?_<;>intro _)|refine ixK rfl ?_|refine wq ?_|refine apN (by simp) ?_)<;>conv=>whnf)
     refine ⟨1,by omega,by simp only; omega,?_⟩;exact wk
   | 1,_ =>
     conv=>whnf
     repeat' first|((first|refine zz ?_|(refine xa ?_ ?_<;>intro _)|refine ixK rfl ?_|refine wq ?_|refine apN (by simp) ?_)<;>conv=>whnf)
     refine ⟨2,by omega,by simp only; omega,?_⟩;exact wk
   | 2,_ =>
     conv=>whnf
     repeat' first|((first|refine zz ?_|(refine xa ?_ ?_<;>intro _)|refine ixK rfl ?_|refine wq ?_|refine apN (by simp) ?_)<;>conv=>whnf)
     refine ⟨3,by omega,by simp only; omega,?_⟩;exact wk
   | 3,_ =>
     conv=>whnf
     (refine zA ?_)
     exact ⟨rfl,rfl⟩
theorem xe7 (w:World):Sem P 259 [(.pure,.agg (aWd w))] [] (I (busy w)):=by
 have lg:(w.Clients.map eX).length=w.Clients.length:=xzi ..;refine fO Go.Proofs.Tryz.f259 fun hb=>?_;have hb1:(w.Clients.map eX).length<=1125899906842624:=(hb.1 (sXs w.Clients) (by simp)).1;conv=>whnf
 (refine zA ?_)
 refine Vc.loop2 (fun (i n:Nat)=>i<=w.Clients.length/\n=(w.Clients.take i).countP Client.Busy) (fun i n=>updL [1,2,20] [(4,I i),(3,I n)] []) (fun i _=>w.Clients.length - i) 0 0 ⟨xz1 _,rfl⟩ ?_ (fun i n hi=>?_)
 · exact wk
 · obtain ⟨hi,hn⟩:=hi;have hcl:=x2m (p:=Client.Busy) (l:=w.Clients.take i);rw [xz3] at hcl;conv=>whnf
   (refine zA ?_)
   refine xd (fun g=>?_) (fun g=>?_)
   all_goals conv=>whnf
   · have es:=xt (l:=w.Clients) (i:=i) (by omega)
     repeat' first|((first|refine zz ?_|(refine xa ?_ ?_<;>intro _)|refine ixN (enc:=eX) default (by omega) ?_|refine wq ?_)<;>conv=>whnf)
     · rename_i h;refine ⟨i+1,n+1,⟨by omega,by rw [es,x2a,<- hn,List.countP_cons_of_pos h]; rfl⟩,by simp only; omega,?_⟩;exact wk
     · rename_i h;refine ⟨i+1,n,⟨by omega,by rw [es,x2a,<- hn,List.countP_cons_of_neg (by rw [h]; decide)]; rfl⟩,by simp only; omega,?_⟩;exact wk
   ·
    (refine zA ?_)
    exact rI' (by unfold busy; rw [xzx (by omega)] at hn; omega)
end Cc
end
