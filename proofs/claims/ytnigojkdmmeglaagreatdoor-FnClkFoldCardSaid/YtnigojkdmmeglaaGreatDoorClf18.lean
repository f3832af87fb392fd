/- The law FnClkFold: part 18 of 35. No conditions beyond the statement. -/
import Derived.Test.YtnigojkdmmeglaaGreatDoorClf16
import Derived.Test.YtnigojkdmmeglaaGreatDoorClf17
set_option linter.unusedVariables false
set_option linter.unusedSimpArgs false
set_option maxRecDepth 100000
set_option maxHeartbeats 16000000
section
namespace Cc
open Go Go.AM
theorem xcw {α:Type} (e:α->List AV) (x:α) (i:Nat):(List.replicate i x).map e++[e x]=(List.replicate (i+1) x).map e:=by
 rw [List.replicate_succ',xy1]; rfl
theorem yp {p:Plan} (hp:planOk p=true):p.Gives.length<=3:=by
 unfold planOk trtOk givesOk at hp;simp only [xxt,xc] at hp;have:=hp.2.2.1;simp only [Plan.treaty] at this;omega
def zs {α:Type} (f:α->Nat) (l:List α):Nat:=(l.map f).sum
theorem xxe {α:Type} (f:α->Nat) {l:List α} {x:α} (h:x∈l):f x<=zs f l:=by
 induction l with
 | nil=>cases h
 | cons a r ih =>
   unfold zs at *; rw [xyn,List.sum_cons]
   cases h with
   | head=>omega
   | tail _ h=>have:=ih h; omega
def zF (x:Form):Nat:=x.C.length+x.D.length
def zL (x:Line):Nat:=zF x.Form
def zLs (l:List Line):Nat:=l.length+zs zL l
def zAs (l:List (List Line)):Nat:=l.length+zs zLs l
def zPl (x:Plan):Nat:=zAs x.Acts+x.Gives.length+x.Start.length
def zR (x:Rslt):Nat:=x.Tells.length
def zD (x:Done):Nat:=zR x.Res
def zDs (l:List Done):Nat:=l.length+zs zD l
def zS (x:Site):Nat:=x.Base.length+x.Added.length+zDs x.Done
def zSs (l:List Site):Nat:=l.length+zs zS l
def zC (x:Call):Nat:=x.Args.length
def zCs (l:List Call):Nat:=l.length+zs zC l
def zG (x:Got):Nat:=x.Added.length+x.Seqs.length
def zGs (l:List Got):Nat:=l.length+zs zG l
def zK (x:Clerk):Nat:=x.Base.length+zDs x.Done+zCs x.Wants+zGs x.Got
def zX (x:Client):Nat:=zC x.Call+zR x.Res
def zXs (l:List Client):Nat:=l.length+zs zX l
def zM (x:Msg):Nat:=zC x.Call+x.Vals.length+x.Seqs.length+zDs x.Done
def zMs (l:List Msg):Nat:=l.length+zs zM l
def zO (x:LogD):Nat:=zC x.Call+zR x.Res
def zOs (l:List LogD):Nat:=l.length+zs zO l
def zWd (x:World):Nat:=zPl x.Plan+zSs x.Sites+zK x.Clerk+zXs x.Clients+zMs x.Net+zOs x.Log
theorem xff (w:World) (h1:planOk w.Plan=true):Sem P 113 [(.pure,.agg (aWd w)),(.pure,.one (sPs (partsOf w.Plan.Acts))),(.pure,.one (sBs (pinsOf w.Plan.Acts)))] [] (B (wldOk w)):=by
 have iff:=@xsq w;have ls:(w.Sites.map eS).length=w.Sites.length:=xxs ..;have lx:(w.Clients.map eX).length=w.Clients.length:=xxs ..;have lm:(w.Net.map eM).length=w.Net.length:=xxs ..;have lp:=xb w.Plan.Gives;by_cases h0:(planOk w.Plan && decide (w.Sites.length=w.Plan.Gives.length) && decide ((w.Clients.length:Int)=w.Plan.Clients) && decide (w.Net.length<=30) && logB w.Plan w.Log)=true
 · have h:=h0;simp only [xxt,xxy] at h;obtain ⟨⟨⟨⟨_,h2⟩,h3⟩,h4⟩,h5⟩:=h;have hc:=xt h1;have hcb:=xc.1 hc;refine fO Go.Proofs.Tryz.f113 fun hb=>?_;have hb1:(w.Sites.map eS).length<=1125899906842624:=(hb.1 (sSs w.Sites) (by simp)).1;have hb2:(w.Clients.map eX).length<=1125899906842624:=(hb.1 (sXs w.Clients) (by simp)).1;conv=>whnf
   repeat' first|((first|refine zz ?_|(refine xa ?_ ?_<;>intro _)|refine ⟨_,xkm w.Plan hc w.Log,?_⟩)<;>conv=>whnf)
   all_goals first
    | (clear iff; exfalso; simp_all; done)
    | (clear iff; exfalso; simp_all; omega)
    | skip
   refine Vc.loop1 (fun (i:Nat)=>i<=w.Sites.length/\∀ j,j<i->siteB w.Plan (w.Sites.getD j default) j=true) (fun i=>updL [1,2,3,7,9,10,59,60,61,62,63,64,65,66,67,68,69,70,71,72,73,74,75,76,77,78,79,80,81,82,83,84,85,86,87,88,89,90,91,92,93,94,95] [(8,I i)] []) (fun i=>w.Sites.length - i) 0 ⟨xyb _,fun j hj=>absurd hj (xza j)⟩ ?_ (fun i hi=>?_)
   · exact wk
   · obtain ⟨hi,hall⟩:=hi;conv=>whnf
     (refine zA ?_)
     refine xd (fun g=>?_) (fun g=>?_)
     all_goals conv=>whnf
     · have hil:i<w.Sites.length:=by omega
       have his:isSite w.Plan i=true:=xc.2 (by omega)
       repeat' first|((first|refine zz ?_|(refine xa ?_ ?_<;>intro _)|refine ixN (enc:=eS) default hil ?_|refine ⟨_,xm5 w.Plan (w.Sites.getD i default) i,?_⟩|refine wq ?_)<;>conv=>whnf)
       all_goals first
        | (refine rB ?_; symm; refine xgz fun hB=>?_; have:=(iff.1 hB).2.1 i hil; clear iff hall; simp_all; done)
        | (refine ⟨i+1,⟨by omega,fun j hj=>?_⟩,by simp only; omega,?_⟩
           · by_cases hji:j<i
             · exact hall j hji
             · obtain rfl:j=i:=by omega
               clear iff hall;simp_all
           · exact wk)
     · have hS:∀ j,j<w.Sites.length->siteB w.Plan (w.Sites.getD j default) j=true:=fun j hj=>hall j (by omega)
       (refine zA ?_)
       refine Vc.loop1 (fun (i:Nat)=>i<=w.Clients.length/\∀ j,j<i->clientB w.Plan j (w.Clients.getD j default)=true) (fun i=>updL [1,2,3,7,10,75,76,77,78,79,80,81,82,83,84,85,86,87,88,89,90,91,92,93,94,95] [(9,I i)] []) (fun i=>w.Clients.length - i) 0 ⟨xyb _,fun j hj=>absurd hj (xza j)⟩ ?_ (fun k hk=>?_)
       · exact wk
       · obtain ⟨hk,hal2⟩:=hk;conv=>whnf
         (refine zA ?_)
         refine xd (fun g=>?_) (fun g=>?_)
         all_goals conv=>whnf
         · have hkl:k<w.Clients.length:=by omega
           repeat' first|((first|refine zz ?_|(refine xa ?_ ?_<;>intro _)|refine ixN (enc:=eX) default hkl ?_|refine ⟨_,xm4 w.Plan (w.Clients.getD k default) k hc,?_⟩|refine wq ?_)<;>conv=>whnf)
           all_goals first
            | (refine rB ?_; symm; refine xgz fun hB=>?_; have:=(iff.1 hB).2.2.1 k hkl; clear iff hall hal2 hS; simp_all; done)
            | (refine ⟨k+1,⟨by omega,fun j hj=>?_⟩,by simp only; omega,?_⟩
               · by_cases hji:j<k
                 · exact hal2 j hji
                 · obtain rfl:j=k:=by omega
                   clear iff hall hal2 hS;simp_all
               · exact wk)
         · have hX:∀ j,j<w.Clients.length->clientB w.Plan j (w.Clients.getD j default)=true:=fun j hj=>hal2 j (by omega);have fin:wldOk w=(clerkB w.Plan w.Clerk && w.Net.all (msgB w.Plan)):=by
            cases e:(clerkB w.Plan w.Clerk && w.Net.all (msgB w.Plan)) with
            | true=>exact iff.2 ⟨h0,hS,hX,e⟩
            | false=>exact xgz fun hB=>by rw [(iff.1 hB).2.2.2] at e; cases e
           clear iff hall hal2 hS hX
           (refine zA ?_)
           have hb3:(w.Net.map eM).length<=1125899906842624:=by omega
           refine Vc.loop1 (fun (i:Nat)=>i<=w.Net.length/\∀ j,j<i->(msgB w.Plan) (w.Net.getD j default)=true) (fun i=>updL [1,2,3,7,90,91,92,93,94,95] [(10,I i)] []) (fun i=>w.Net.length - i) 0 ⟨by omega,fun j hj=>absurd hj (xza j)⟩ ?_ (fun i hi=>?_)
           · exact wl
           · obtain ⟨hi,ho⟩:=hi;have hlm:(w.Net.map eM).length=w.Net.length:=xxs ..;conv=>whnf
             (refine zA ?_)
             refine xd (fun g=>?_) (fun g=>?_)
             all_goals conv=>whnf
             · repeat' first|((first|refine zz ?_|(refine xa ?_ ?_<;>intro _)|refine ixN (enc:=eM) default (by omega) ?_|refine ⟨_,xg1 w.Plan (w.Net.getD i default) hc,?_⟩|refine ⟨_,xaw w.Plan w.Clerk hc,?_⟩|refine wq ?_)<;>conv=>whnf)
               all_goals first
                | (refine ⟨i+1,⟨by omega,fun j hj=>?_⟩,by simp only; omega,?_⟩
                   · by_cases h':j<i
                     · exact ho j h'
                     · obtain rfl:j=i:=by omega
                       clear ho;simp_all
                   · exact wl)
                | (have hp:(msgB w.Plan) (w.Net.getD i default)=false:=by (clear ho; simp_all )
                   have hn:w.Net.all (msgB w.Plan)=false:=zw default (j:=i) (by omega) hp
                   (refine rB ?_; rw [fin,hn,x1b]))
             · have hall:w.Net.all (msgB w.Plan)=true:=zu default fun j hj=>ho j (by omega)
               repeat' first|((first|refine zz ?_|(refine xa ?_ ?_<;>intro _)|refine ⟨_,xg1 w.Plan (w.Net.getD i default) hc,?_⟩|refine ⟨_,xaw w.Plan w.Clerk hc,?_⟩|refine wq ?_)<;>conv=>whnf)
               (refine rB ?_; rw [fin,hall,x1h])
 · have hno:wldOk w=false:=xgz fun hB=>h0 (iff.1 hB).1;clear iff;have hc:=xt h1;refine fO Go.Proofs.Tryz.f113 fun hb=>?_;conv=>whnf
   repeat' first|((first|refine zz ?_|(refine xa ?_ ?_<;>intro _)|refine ⟨_,xkm w.Plan hc w.Log,?_⟩)<;>conv=>whnf)
   all_goals first
    | (refine rB ?_; rw [hno]; done)
    | (exfalso; refine h0 ?_; clear h0 hno; simp only [xxt,xxy]; simp_all; omega)
theorem xcx {p:Plan} (h:planOk p=true):p.Acts.length<=4:=wy (xav h)
theorem xn8 {a b:List Int} {m n:Int} (h:a.length=3) (h':b.length=3) (ha:∀ x∈a,-m<=x/\x<=m) (hb:∀ x∈b,-n<=x/\x<=n):(plus a b).length=3/\∀ x∈plus a b,-(m+n)<=x/\x<=m+n:=by
 obtain ⟨a1,a2,a3,rfl⟩:=len3 h;obtain ⟨b1,b2,b3,rfl⟩:=len3 h';refine ⟨rfl,?_⟩;have p1:=ha a1 (by simp); have p2:=ha a2 (by simp); have p3:=ha a3 (by simp);have q1:=hb b1 (by simp); have q2:=hb b2 (by simp); have q3:=hb b3 (by simp);intro x hx;simp only [plus,List.zipWith_cons_cons,List.zipWith_nil_left,xxw,xyx,x0x] at hx;rcases hx with rfl|rfl|rfl<;>omega
set_option maxHeartbeats 8000000
set_option maxHeartbeats 8000000
end Cc
end
