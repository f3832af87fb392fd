/- The laws FnMsgOk, FnSitFree: part 24 of 41. No conditions beyond the statement. -/
import Derived.Test.YtnigojkdmmeglaaGreatDoorAll23
set_option linter.unusedVariables false
set_option linter.unusedSimpArgs false
set_option maxRecDepth 100000
set_option maxHeartbeats 16000000
section
namespace Cc
open Go Go.AM
theorem xon (bs:List UInt8) (a:Int) (w:World) (hw:WorldF w) (h0:0<w.Net.length) (ha:0<=a/\a<=5000000000) (hbs:bs.length<=2000) :
 ∃ os res,(∃ (e:Event) (a':Int),(a<=a'/\a'<=a+30)/\e.Args.length<=3/\res=.agg (eE e)/\os=aRd bs a')/\Sem P 184 [(.io 0 0,.agg (aRd bs a)),(.pure,.agg (aWd w))] [.agg os] res:=by
 refine drEventEnd ?_;obtain ⟨⟨s1,s2⟩,⟨c1,c2⟩,⟨p1,p2⟩,hn,hq⟩:=ql hw;have ls:(w.Sites.map eS).length=w.Sites.length:=xzi ..;have lx:(w.Clients.map eX).length=w.Clients.length:=xzi ..;have la:(w.Plan.Acts.map eA).length=w.Plan.Acts.length:=xzi ..;have lm:(w.Net.map eM).length=w.Net.length:=xzi ..;refine xip (E:=E0) xm xn (fn:=Go.Proofs.Tryz.f184) (by kernel_rfl) (by kernel_rfl) ?_;conv=>whnf
 refine xa (fun g=>?_) (fun g=>?_)
 rotate_left
 · exfalso; simp only [xzw] at g; omega
 conv=>whnf
 refine callIo (xf bs _ 3 (by omega) (by decide) hbs) ?_;rintro _ _ ⟨q,hqq,rfl,rfl⟩;conv=>whnf
 refine xa (fun g1=>?_) (fun g1=>?_)
 all_goals conv=>whnf
 refine callIo (xf bs _ ((w.Net.map eM).length:Int) (by omega) (by omega) hbs) ?_;rintro _ _ ⟨z,hzz,rfl,rfl⟩;conv=>whnf
 all_goals
  refine callIo (xf bs _ 32 (by omega) (by decide) hbs) ?_;rintro _ _ ⟨n,hn,rfl,rfl⟩;have h32:n=0\/n=1\/n=2\/n=3\/n=4\/n=5\/n=6\/n=7\/n=8\/n=9\/n=10\/n=11\/n=12\/n=13\/n=14\/n=15\/n=16\/n=17\/n=18\/n=19\/n=20\/n=21\/n=22\/n=23\/n=24\/n=25\/n=26\/n=27\/n=28\/n=29\/n=30\/n=31:=by omega
  rcases h32 with rfl|rfl|rfl|rfl|rfl|rfl|rfl|rfl|rfl|rfl|rfl|rfl|rfl|rfl|rfl|rfl|rfl|rfl|rfl|rfl|rfl|rfl|rfl|rfl|rfl|rfl|rfl|rfl|rfl|rfl|rfl|rfl
 all_goals conv=>whnf
 all_goals
  repeat' first|((first|refine callIo (xf bs _ _ (by omega) (by omega) hbs) ?_|refine callIo (xf bs _ 2 (by omega) (by decide) hbs) ?_); rintro _ _ ⟨n,hn,rfl,rfl⟩;conv=>whnf)|(refine callIo (xbs bs _ _ (by omega) (by decide) hbs) ?_; rintro _ _ ⟨l,b'',hb'',hl,rfl,rfl⟩;conv=>whnf)|(refine wq ?_;conv=>whnf)
  first
   | (refine drEv0 rfl ⟨?_,?_⟩<;>omega)
   | (refine drEv1 hl rfl ⟨?_,?_⟩<;>omega)
end Cc
end
