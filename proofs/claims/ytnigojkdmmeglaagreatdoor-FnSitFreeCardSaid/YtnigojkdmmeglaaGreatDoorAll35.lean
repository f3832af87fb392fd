/- The laws FnMsgOk, FnSitFree: part 35 of 41. No conditions beyond the statement. -/
import Derived.Test.YtnigojkdmmeglaaGreatDoorAll25
import Derived.Test.YtnigojkdmmeglaaGreatDoorAll30
import Derived.Test.YtnigojkdmmeglaaGreatDoorAll34
set_option linter.unusedVariables false
set_option linter.unusedSimpArgs false
set_option maxRecDepth 100000
set_option maxHeartbeats 16000000
section
namespace Cc
open Go Go.AM
theorem xr4 (w:World) (e:Event) (hw:WorldF w) (ha:e.Args.length<=3):Sem P 47 [(.pure,.agg (aWd w)),(.pure,.agg (aE e))] [] (.agg (eWd (step w e))):=by
 have h:=xux w e (by omega);have e':wldStep w e=step w e:=by unfold wldStep; rw [worldF.2 hw]; rfl
 rw [e'] at h; exact h
theorem kw (l:List Event) (x:Event):l.map eE++[eE x]=(l++[x]).map eE:=by simp
theorem xr5 (bs:List UInt8) (a n:Int) (w:World) (hw:WorldF w) (ha:0<=a/\a<=4000000000) (hn:0<=n/\n<=1000) (hbs:bs.length<=2000) :
 ∃ os res,(∃ (l:List Event) (v:World) (a':Int),(a<=a'/\a'<=a+1+n*100)/\WorldF v/\l.length<=n/\(∀ e∈l,e.Args.length<=3)/\res=.tup [(false,[sEs l]),(true,eWd v)]/\os=aRd bs a')/\Sem P 96 [(.io 0 0,.agg (aRd bs a)),(.pure,.agg (aWd w)),(.pure,I n)] [.agg os] res:=by
 have key:∃ res outs,(∃ (l:List Event) (v:World) (a':Int),(a<=a'/\a'<=a+1+n*100)/\WorldF v/\l.length<=n/\(∀ e∈l,e.Args.length<=3)/\res=.tup [(false,[sEs l]),(true,eWd v)]/\outs=[.agg (aRd bs a')])/\Sem P 96 [(.io 0 0,.agg (aRd bs a)),(.pure,.agg (aWd w)),(.pure,I n)] outs res:=by
  refine xw (E:=E0) xm xn (fn:=Go.Proofs.Tryz.f96) (by kernel_rfl) (by kernel_rfl) ?_;conv=>whnf
  repeat' first|((first|refine zz ?_|(refine xa ?_ ?_<;>intro _))<;>conv=>whnf)|(refine callIo (xf bs _ _ (by first|omega|(dsimp only; omega)|(simp<;>omega)|(simp_all<;>omega)) (by first|omega|(dsimp only; omega)|(simp<;>omega)|(simp_all<;>omega)) hbs) ?_; rintro _ _ ⟨m,hm,rfl,rfl⟩;conv=>whnf)
  refine Vc.loop6 (fun (k:Nat) (out:List Event) (v:World) (story what b:Int)=>(k:Int)<=n/\out.length=k/\(∀ e∈out,e.Args.length<=3)/\WorldF v/\(0<=story/\story<=14)/\a<=b/\b<=a+1+k*100) (fun k out v story what b=>updL [0,2,4,6,7,9,77,78] [(12,I k),(8,.one (.ref 128000)),(10,I story),(11,I what)] [(64000,.box (eWd v)),(128000,.arr 94 (out.map eE) false),(63,.box (aRd bs b))]) (fun k _ _ _ _ _=>n.toNat - k) 0 [] w 14 0 (a+1) ⟨by omega,rfl,by simp,hw,by omega,by omega,by omega⟩ ?_ (fun k out v story what b hi=>?_)
  · exact wk
  · obtain ⟨hk,ho,hoe,hv,hst,b1,b2⟩:=hi;obtain ⟨⟨s1,s2⟩,⟨c1,c2⟩,⟨p1,p2⟩,hnn,hq⟩:=ql hv;have ls:(v.Sites.map eS).length=v.Sites.length:=xzi ..;have lw:(v.Clerk.Wants.map eC).length=v.Clerk.Wants.length:=xzi ..;have lo:(out.map eE).length=out.length:=xzi ..;conv=>whnf
    repeat' first|((first|refine zz ?_|(refine xa ?_ ?_<;>intro _))<;>conv=>whnf)|(refine callIo (xf bs _ _ (by omega) (by omega) hbs) ?_; rintro _ _ ⟨m',hm',rfl,rfl⟩;conv=>whnf)|(refine callIo (xrv bs _ _ hv (by omega) hbs) ?_; rintro _ _ ⟨e,b',hb',he,rfl,rfl⟩;conv=>whnf)|(refine callIo (xrw bs _ _ _ _ hv (by omega) hbs) ?_; rintro _ _ ⟨e',b',hb',he',rfl,rfl⟩;conv=>whnf)|(refine callIo (xoo bs _ _ _ hv (by omega) (by omega) hbs) ?_; rintro _ _ ⟨e',b',hb',he',rfl,rfl⟩;conv=>whnf)|((first|refine ⟨_,xr4 v _ hv (by assumption),?_⟩)<;>conv=>whnf)|(refine apN (by rw [lo]; show _+1<=_; omega) ?_;conv=>whnf)|(refine wq ?_;conv=>whnf)
    all_goals first
     | (refine ⟨k+1,out++[e'],step v e',story+1,what,b',⟨by simp only [xzk] at *; omega,by simp only [xzu,x0e]; omega,fun x hx=>?_,xaw hv _,by simp only [xzk,xzw] at *; omega,by omega,by simp only [x2d,x2e,x23,x2p]; omega⟩,by simp only [xzk] at *; omega,?_⟩
        · rcases xzs.1 hx with h|h
          · exact hoe x h
          · rw [xzq.1 h]; exact he'
        · repeat' (first|exact True.intro|((conv=>whnf);first|exact True.intro|refine ⟨by rfl,?_⟩|refine ⟨by first|omega|(show (_:Int)=_;first|omega|(dsimp only;omega))|exact kw _ _,?_⟩|refine ⟨?_,?_⟩))
        done)
     | (refine ⟨k+1,out++[e'],step v e',1,m',b',⟨by simp only [xzk] at *; omega,by simp only [xzu,x0e]; omega,fun x hx=>?_,xaw hv _,by simp only [xzk,xzw] at *; omega,by omega,by simp only [x2d,x2e,x23,x2p]; omega⟩,by simp only [xzk] at *; omega,?_⟩
        · rcases xzs.1 hx with h|h
          · exact hoe x h
          · rw [xzq.1 h]; exact he'
        · repeat' (first|exact True.intro|((conv=>whnf);first|exact True.intro|refine ⟨by rfl,?_⟩|refine ⟨by first|omega|(show (_:Int)=_;first|omega|(dsimp only;omega))|exact kw _ _,?_⟩|refine ⟨?_,?_⟩))
        done)
     | (refine ⟨k+1,out++[e'],step v e',story,what,b',⟨by simp only [xzk] at *; omega,by simp only [xzu,x0e]; omega,fun x hx=>?_,xaw hv _,by simp only [xzk,xzw] at *; omega,by omega,by simp only [x2d,x2e,x23,x2p]; omega⟩,by simp only [xzk] at *; omega,?_⟩
        · rcases xzs.1 hx with h|h
          · exact hoe x h
          · rw [xzq.1 h]; exact he'
        · repeat' (first|exact True.intro|((conv=>whnf);first|exact True.intro|refine ⟨by rfl,?_⟩|refine ⟨by first|omega|(show (_:Int)=_;first|omega|(dsimp only;omega))|exact kw _ _,?_⟩|refine ⟨?_,?_⟩))
        done)
     | (refine ⟨k+1,out++[e],step v e,story,what,b',⟨by simp only [xzk] at *; omega,by simp only [xzu,x0e]; omega,fun x hx=>?_,xaw hv _,by simp only [xzk,xzw] at *; omega,by omega,by simp only [x2d,x2e,x23,x2p]; omega⟩,by simp only [xzk] at *; omega,?_⟩
        · rcases xzs.1 hx with h|h
          · exact hoe x h
          · rw [xzq.1 h]; exact he
        · repeat' (first|exact True.intro|((conv=>whnf);first|exact True.intro|refine ⟨by rfl,?_⟩|refine ⟨by first|omega|(show (_:Int)=_;first|omega|(dsimp only;omega))|exact kw _ _,?_⟩|refine ⟨?_,?_⟩))
        done)
     | (refine ⟨k+1,out++[e],step v e,story,what,(b'+1),⟨by simp only [xzk] at *; omega,by simp only [xzu,x0e]; omega,fun x hx=>?_,xaw hv _,by simp only [xzk,xzw] at *; omega,by omega,by simp only [x2d,x2e,x23,x2p]; omega⟩,by simp only [xzk] at *; omega,?_⟩
        · rcases xzs.1 hx with h|h
          · exact hoe x h
          · rw [xzq.1 h]; exact he
        · repeat' (first|exact True.intro|((conv=>whnf);first|exact True.intro|refine ⟨by rfl,?_⟩|refine ⟨by first|omega|(show (_:Int)=_;first|omega|(dsimp only;omega))|exact kw _ _,?_⟩|refine ⟨?_,?_⟩))
        done)
     | (refine ⟨k+1,out++[e],step v e,story,what,(b'+1+1),⟨by simp only [xzk] at *; omega,by simp only [xzu,x0e]; omega,fun x hx=>?_,xaw hv _,by simp only [xzk,xzw] at *; omega,by omega,by simp only [x2d,x2e,x23,x2p]; omega⟩,by simp only [xzk] at *; omega,?_⟩
        · rcases xzs.1 hx with h|h
          · exact hoe x h
          · rw [xzq.1 h]; exact he
        · repeat' (first|exact True.intro|((conv=>whnf);first|exact True.intro|refine ⟨by rfl,?_⟩|refine ⟨by first|omega|(show (_:Int)=_;first|omega|(dsimp only;omega))|exact kw _ _,?_⟩|refine ⟨?_,?_⟩))
        done)
     | (exfalso; simp only [xzk,xzw,x2c] at *; omega)
     | (refine ⟨out,v,b,⟨by omega,?_⟩,hv,by omega,hoe,rfl,rfl⟩
        have:(k:Int)*100<=n*100:=x2b hk (by decide)
        omega)
 obtain ⟨r,o,⟨l,v,a',h1,h2,h3,h4,h5,rfl⟩,h6⟩:=key;exact ⟨_,r,⟨l,v,a',h1,h2,h3,h4,h5,rfl⟩,h6⟩
theorem xdu (bs:List UInt8) (a:Int) (ha:0<=a/\a<=3000000000) (hbs:bs.length<=2000) :
 ∃ os res,(∃ (w:World) (a':Int),(a<=a'/\a'<=a+10000)/\WorldF w/\res=.agg (eWd w)/\os=aRd bs a')/\Sem P 71 [(.io 0 0,.agg (aRd bs a))] [.agg os] res:=by
 have key:∃ res outs,(∃ (w:World) (a':Int),(a<=a'/\a'<=a+10000)/\WorldF w/\res=.agg (eWd w)/\outs=[.agg (aRd bs a')])/\Sem P 71 [(.io 0 0,.agg (aRd bs a))] outs res:=by
  refine xw (E:=E0) xm xn (fn:=Go.Proofs.Tryz.f71) (by kernel_rfl) (by kernel_rfl) ?_;conv=>whnf
  repeat' first|((first|refine zz ?_|(refine xa ?_ ?_<;>intro _))<;>conv=>whnf)|(refine callIo (xjh bs _ (by omega) hbs) ?_; rintro _ _ ⟨p,b',hb',hp,rfl,rfl⟩;conv=>whnf)|((first|refine ⟨_,xoe p hp,?_⟩)<;>conv=>whnf)|(refine callIo (xf bs _ _ (by omega) (by omega) hbs) ?_; rintro _ _ ⟨n,hn,rfl,rfl⟩;conv=>whnf)|(refine ioN (by first|omega|(dsimp only; omega)|(simp<;>omega)|(simp_all<;>omega)) (by first|omega|(dsimp only; omega)|(simp<;>omega)|(simp_all<;>omega)) ?_;conv=>whnf)|(refine rwI rfl (by first|omega|(dsimp only; omega)|(simp<;>omega)|(simp_all<;>omega)) (by first|omega|(dsimp only; omega)|(simp<;>omega)|(simp_all<;>omega)) fun c hc=>?_;conv=>whnf)|(refine rwN (enc:=rI) 0 (by first|omega|(dsimp only; omega)|(simp<;>omega)|(simp_all<;>omega)) ?_;conv=>whnf)|(refine wq ?_;conv=>whnf)|(refine apN (by simp; omega) ?_;conv=>whnf)
  have hcb:0<=c/\c<=50:=by
   simp only [unI,xzn,x0o,x2f] at hc;omega
  have hw:WorldF (worldNew p):=xob (planF hp)
  repeat' first|((first|refine zz ?_|(refine xa ?_ ?_<;>intro _))<;>conv=>whnf)|(refine callIo (xr5 bs _ _ _ hw (by omega) (by omega) hbs) ?_; rintro _ _ ⟨l,v,b'',hb'',hv,hl,hle,rfl,rfl⟩;conv=>whnf)
  exact ⟨v,_,⟨by omega,by omega⟩,hv,rfl,rfl⟩
 obtain ⟨r,o,⟨w,a',h1,h2,h3,rfl⟩,h4⟩:=key;exact ⟨_,r,⟨w,a',h1,h2,h3,rfl⟩,h4⟩
end Cc
end
