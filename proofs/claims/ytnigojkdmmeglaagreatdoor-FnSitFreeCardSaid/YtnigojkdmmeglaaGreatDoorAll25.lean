/- The laws FnMsgOk, FnSitFree: part 25 of 41. No conditions beyond the statement. -/
import Derived.Test.YtnigojkdmmeglaaGreatDoorAll23
set_option linter.unusedVariables false
set_option linter.unusedSimpArgs false
set_option maxRecDepth 100000
set_option maxHeartbeats 16000000
section
namespace Cc
open Go Go.AM
theorem xrw (bs:List UInt8) (a k t:Int) (w:World) (hw:WorldF w) (ha:0<=a/\a<=5000000000) (hbs:bs.length<=2000) :
 ∃ os res,(∃ (e:Event) (a':Int),(a<=a'/\a'<=a+30)/\e.Args.length<=3/\res=.agg (eE e)/\os=aRd bs a')/\Sem P 185 [(.io 0 0,.agg (aRd bs a)),(.pure,.agg (aWd w)),(.pure,I k),(.pure,I t)] [.agg os] res:=by
 refine drEventEnd ?_;obtain ⟨⟨s1,s2⟩,⟨c1,c2⟩,⟨p1,p2⟩,hn,hq⟩:=ql hw;have ls:(w.Sites.map eS).length=w.Sites.length:=xzi ..;have lx:(w.Clients.map eX).length=w.Clients.length:=xzi ..;have lm:(w.Net.map eM).length=w.Net.length:=xzi ..;refine xw (E:=E0) xm xn (fn:=Go.Proofs.Tryz.f185) (by kernel_rfl) (by kernel_rfl) ?_;conv=>whnf
 repeat' first|((first|refine zz ?_|(refine xa ?_ ?_<;>intro _))<;>conv=>whnf)|(refine callIo (xf bs _ _ (by first|omega|(simp only [xzk,xzw] at *; omega)) (by first|omega|(simp only [xzk,xzw] at *; omega)) hbs) ?_; rintro _ _ ⟨n,hn,rfl,rfl⟩;conv=>whnf)|(refine w64 (by first|omega|(simp only [xzk,xzw] at *; omega)) (by first|omega|(simp only [xzk,xzw] at *; omega)) ?_;conv=>whnf)
 all_goals
  first
   | (refine drEv0 rfl ⟨?_,?_⟩<;>omega)
   | (refine drEv1 hl rfl ⟨?_,?_⟩<;>omega)
end Cc
end
