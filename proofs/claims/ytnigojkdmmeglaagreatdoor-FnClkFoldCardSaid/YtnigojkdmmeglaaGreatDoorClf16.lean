/- The law FnClkFold: part 16 of 35. No conditions beyond the statement. -/
import Derived.Test.YtnigojkdmmeglaaGreatDoorClf15
set_option linter.unusedVariables false
set_option linter.unusedSimpArgs false
set_option maxRecDepth 100000
set_option maxHeartbeats 16000000
section
namespace Cc
open Go Go.AM
theorem xav {p:Plan} (h:planOk p=true):catOk p.Acts=true:=by
 unfold planOk at h; simp only [xxt] at h; exact h.1.1.2
theorem xsq {w:World}:wldOk w=true↔((planOk w.Plan && decide (w.Sites.length=w.Plan.Gives.length) && decide ((w.Clients.length:Int)=w.Plan.Clients) && decide (w.Net.length<=30) && logB w.Plan w.Log)=true) /\
 (∀ j,j<w.Sites.length->siteB w.Plan (w.Sites.getD j default) j=true)/\(∀ j,j<w.Clients.length->clientB w.Plan j (w.Clients.getD j default)=true)/\(clerkB w.Plan w.Clerk && w.Net.all (msgB w.Plan))=true:=by
 unfold wldOk;simp only [xxt,zi];constructor
 · rintro ⟨⟨⟨⟨h1,h2⟩,h3⟩,h4⟩,h5⟩; exact ⟨h1,h2,h3,h5,h4⟩
 · rintro ⟨h1,h2,h3,h5,h4⟩; exact ⟨⟨⟨⟨h1,h2⟩,h3⟩,h4⟩,h5⟩
theorem xgz {w:World} (h:wldOk w=true->False):wldOk w=false:=by
 cases e:wldOk w with
 | false=>rfl
 | true=>exact (h e).elim
def cpA (acts:List (List Line)):Prop:=acts.length<=100/\∀ a∈acts,a.length<=100/\∀ l∈a,l.Form.C.length<=100000/\l.Form.D.length<=100000
theorem xsr {l:Line} (h:l.ok=true):l.Form.C.length<=100000/\l.Form.D.length<=100000:=by
 by_cases h4:l.Kind=4
 · unfold Line.ok at h;rw [if_neg (by omega),if_neg (by omega),if_neg (by omega),if_pos h4] at h;simp only [xxt,xxy] at h;rw [h.2]; simp [Form.nil]
 · have:=(yx (js h h4)).1.1;rw [this.1,this.2]; decide
theorem xn7 {acts:List (List Line)} (h:catOk acts=true):cpA acts:=by
 refine ⟨by have:=wy h; omega,fun a ha=>?_⟩;unfold catOk at h;rw [xxt,xxv] at h;obtain ⟨h1,h2,_⟩:=y6.1 (h.2 a ha);exact ⟨by omega,fun l hl=>xsr (h1 l hl)⟩
def mid (l:List Int):Prop:=∀ x∈l,-1000000000000000<=x/\x<=1000000000000000
theorem xuw {a b:List Int} (h:a.length=b.length):plus a b=addL a b 1:=by
 rw [xcq 1 a b h]; unfold plus; congr 1; funext x y; omega
theorem xiu (a b:List Int) (h:a.length=b.length) (h1:a.length<=100) (ha:mid a) (hb':mid b):Sem P 125 [(.pure,AI a),(.pure,AI b)] [] (AI (plus a b)):=by
 have lb:=xb b;refine fK [2001] Go.Proofs.Tryz.f125 fun hb=>?_;conv=>whnf
 repeat' first|((first|refine zz ?_|(refine xa ?_ ?_<;>intro _)|refine ⟨_,x7 a (by omega),?_⟩)<;>conv=>whnf)
 refine Vc.loop1 (fun (i:Nat)=>i<=b.length) (fun i=>updL [4,5,10,11,25] [(12,I i)] [(128064,.arr 3 (ints (addL a (b.take i) 1)) false)]) (fun i=>b.length - i) 0 (xyb _) ?_ (fun i hi=>?_)
 · repeat' (first|exact True.intro|((conv=>whnf);first|exact True.intro|refine ⟨by rfl,?_⟩|refine ⟨by first|omega|(show (_:Int)=_;first|omega|(dsimp only;omega))|exact congrArg ints (j9 _ _).symm,?_⟩|refine ⟨?_,?_⟩))
 · have hlo:(ints (addL a (b.take i) 1)).length=a.length:=by rw [xb,jc]
   have hlo':=jc a (b.take i) 1;conv=>whnf
   (refine zA ?_)
   refine xd (fun g=>?_) (fun g=>?_)
   all_goals conv=>whnf
   · have hil:i<b.length:=by omega
     have b1:=ha (a.getD i 0) (xw (by omega));have b2:=hb' (b.getD i 0) (xw hil);have e1:=xcp 1 a b i;have e2:=xa9 1 a b i hil (by omega);rw [x02] at e2
     repeat' first|((first|refine zz ?_|(refine xa ?_ ?_<;>intro _)|refine ixN (enc:=rI) 0 (by omega) ?_|refine ioN (by omega) (by omega) ?_)<;>conv=>whnf)|(refine rwN (enc:=rI) 0 (by simp only [xym]; omega) ?_;conv=>whnf)|(refine w64 (by first|omega|(simp only [xym]; omega)) (by first|omega|(simp only [xym]; omega)) ?_;conv=>whnf)
     refine ⟨i+1,by omega,by simp only; omega,?_⟩
     repeat' (first|exact True.intro|((conv=>whnf);first|exact True.intro|refine ⟨by rfl,?_⟩|refine ⟨by first|omega|(show (_:Int)=_;first|omega|(dsimp only;omega))|exact (by simp only [xym]; rw [yr,e1,e2]),?_⟩|refine ⟨?_,?_⟩))
   ·
    (refine zA ?_)
    have hend:b.take i=b:=xx7 (by omega);exact ⟨by rw [hend,xuw h],rfl⟩
end Cc
end
