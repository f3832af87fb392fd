/- The laws FnMsgOk, FnSitFree: part 30 of 41. No conditions beyond the statement. -/
import Derived.Test.YtnigojkdmmeglaaGreatDoorAll23
import Derived.Test.YtnigojkdmmeglaaGreatDoorAll28
set_option linter.unusedVariables false
set_option linter.unusedSimpArgs false
set_option maxRecDepth 100000
set_option maxHeartbeats 16000000
section
namespace Cc
open Go Go.AM
theorem xoo (bs:List UInt8) (a k:Int) (w:World) (hw:WorldF w) (ha:0<=a/\a<=5000000000) (hk:0<=k/\k<=1000000) (hbs:bs.length<=2000) :
 ∃ os res,(∃ (e:Event) (a':Int),(a<=a'/\a'<=a+30)/\e.Args.length<=3/\res=.agg (eE e)/\os=aRd bs a')/\Sem P 186 [(.io 0 0,.agg (aRd bs a)),(.pure,.agg (aWd w)),(.pure,I k)] [.agg os] res:=by
 refine drEventEnd ?_;obtain ⟨⟨s1,s2⟩,⟨c1,c2⟩,⟨p1,p2⟩,hn,hq⟩:=ql hw;have ls:(w.Sites.map eS).length=w.Sites.length:=xzi ..;have lx:(w.Clients.map eX).length=w.Clients.length:=xzi ..;have la:(w.Plan.Acts.map eA).length=w.Plan.Acts.length:=xzi ..;have lm:(w.Net.map eM).length=w.Net.length:=xzi ..;have lw:(w.Clerk.Wants.map eC).length=w.Clerk.Wants.length:=xzi ..;refine xw (E:=E0) xm xn (fn:=Go.Proofs.Tryz.f186) (by kernel_rfl) (by kernel_rfl) ?_;conv=>whnf
 repeat' first|((first|refine zz ?_|(refine xa ?_ ?_<;>intro _))<;>conv=>whnf)|(refine callIo (xf bs _ _ (by first|omega|(dsimp only; omega)|(simp<;>omega)|(simp_all<;>omega)) (by first|omega|(dsimp only; omega)|(simp<;>omega)|(simp_all<;>omega)) hbs) ?_; rintro _ _ ⟨n,hn,rfl,rfl⟩;conv=>whnf)|(refine callIo (xbs bs _ _ (by omega) (by omega) hbs) ?_; rintro _ _ ⟨l,b'',hb'',hl,rfl,rfl⟩;conv=>whnf)|((first|refine r64g (by omega) (by omega) fun c h1 h2 h3=>?_|refine wq ?_)<;>conv=>whnf)
 all_goals first
  | (refine drEv0 rfl ⟨?_,?_⟩<;>omega)
  | (refine drEv1 hl rfl ⟨?_,?_⟩<;>omega)
  | skip
 all_goals
  refine Vc.loop2 (fun (i:Nat) (c:Int)=>i<=w.Clients.length/\0<=c/\c<w.Clients.length) (fun i c=>updL [4,6,15,55,56,57,58,59,60,61,62,63,64,65,66,67,68,69,70,71] [(8,I i),(7,I c)] []) (fun i _=>w.Clients.length - i) 0 n ⟨by omega,by omega,by omega⟩ ?_ (fun i c hi=>?_)
  · exact wk
  · obtain ⟨hi,h0,h1⟩:=hi;conv=>whnf
    repeat' first|((first|refine zz ?_|(refine xa ?_ ?_<;>intro _)|refine ixI (enc:=eX) default (by omega) (by omega) ?_|refine r64g (by omega) (by omega) fun c' g1 g2 g3=>?_|refine wq ?_)<;>conv=>whnf)
    all_goals first
     | (refine ⟨i+1,_,⟨by simp only [xzk] at *; omega,by omega,by omega⟩,by simp only [xzk] at *; omega,?_⟩
        exact wk
        done)
     | (refine drEv0 rfl ⟨?_,?_⟩<;>omega)
theorem xuz (l:List Done) (hl:l.length<=100000):Sem P 173 [(.pure,.one (sDs l))] [] (AI (l.map Done.Seq)):=by
 refine fO Go.Proofs.Tryz.f173 fun hb=>?_;have hlm:(l.map eD).length=l.length:=xzi ..;conv=>whnf
 (refine zA ?_)
 refine Vc.loop1 (fun (i:Nat)=>i<=l.length) (fun i=>updL [2,6,7,18] [(8,I i),(3,.one (.ref 128000))] [(128000,.arr 3 (ints ((l.map Done.Seq).take i)) false)]) (fun i=>l.length - i) 0 (xz1 _) ?_ (fun i hi=>?_)
 · exact wk
 · have hlo:(ints ((l.map Done.Seq).take i)).length=i:=by rw [xb,xz3,xzi]; omega
   conv=>whnf
   (refine zA ?_)
   refine xd (fun g=>?_) (fun g=>?_)
   all_goals conv=>whnf
   · repeat' first|((first|refine zz ?_|(refine xa ?_ ?_<;>intro _)|refine ixN (enc:=eD) default (by omega) ?_)<;>conv=>whnf)|(refine apN (by rw [hlo]; show i+1<=_; omega) ?_;conv=>whnf)|((first|refine wq ?_)<;>conv=>whnf)
     refine ⟨i+1,by omega,by simp only; omega,?_⟩
     repeat' (first|exact True.intro|((conv=>whnf);first|exact True.intro|refine ⟨by rfl,?_⟩|refine ⟨by first|omega|(show (_:Int)=_;first|omega|(dsimp only;omega))|exact xjw (by omega),?_⟩|refine ⟨?_,?_⟩))
   · have hend:(l.map Done.Seq).take i=l.map Done.Seq:=xzx (by rw [xzi]; omega)
     (refine zA ?_)
     exact ⟨by rw [hend],rfl⟩
theorem xb0 (s:Site) (h:zS s<=100000):Sem P 79 [(.pure,.agg (aS s))] [] (.agg (aS s)):=by
 unfold zS at h;refine fK [2002,2005,2008] Go.Proofs.Tryz.f79 fun hb=>?_;conv=>whnf
 repeat' first|((first|refine zz ?_|(refine xa ?_ ?_<;>intro _)|refine ⟨_,yj s.Base (by omega),?_⟩|refine ⟨_,yj s.Added (by omega),?_⟩|refine ⟨_,xic s.Done (by omega),?_⟩)<;>conv=>whnf)
 exact ⟨rfl,rfl⟩
theorem xdv (p:Plan) (s:Site) (n:Int):Sem P 78 [(.pure,.agg (aPl p)),(.pure,.agg (aS s)),(.pure,I n)] [] (B (siteOk p s n)):=by
 have h1:=jc p;have e:siteOk p s n=(planOk p && (isSite p n && siteB p s n)):=by unfold siteOk; rw [Bool.and_assoc]
 rw [e]
 cases hp:planOk p with
 | false =>
   rw [hp] at h1;refine fO Go.Proofs.Tryz.f78 fun hb=>?_;conv=>whnf
   repeat' first|((first|refine zz ?_|(refine xa ?_ ?_<;>intro _)|refine ⟨_,h1,?_⟩)<;>conv=>whnf)
   exact ⟨rfl,rfl⟩
 | true =>
   rw [hp] at h1;refine fO Go.Proofs.Tryz.f78 fun hb=>?_;conv=>whnf
   repeat' first|((first|refine zz ?_|(refine xa ?_ ?_<;>intro _)|refine ⟨_,h1,?_⟩|refine ⟨_,xdh p.Acts (qv hp),?_⟩|refine ⟨_,xmb p s n,?_⟩)<;>conv=>whnf)
   exact ⟨rfl,rfl⟩
theorem wd (p:Plan) (x:Msg):Sem P 24 [(.pure,.agg (aPl p)),(.pure,.agg (aM x))] [] (B (msgOk p x)):=by
 have h1:=jc p;unfold msgOk
 cases hp:planOk p with
 | false =>
   rw [hp] at h1;refine fO Go.Proofs.Tryz.f24 fun hb=>?_;conv=>whnf
   repeat' first|((first|refine zz ?_|(refine xa ?_ ?_<;>intro _)|refine ⟨_,h1,?_⟩)<;>conv=>whnf)
   exact ⟨rfl,rfl⟩
 | true =>
   rw [hp] at h1;refine fO Go.Proofs.Tryz.f24 fun hb=>?_;conv=>whnf
   repeat' first|((first|refine zz ?_|(refine xa ?_ ?_<;>intro _)|refine ⟨_,h1,?_⟩|refine ⟨_,xrk p x (xi hp),?_⟩)<;>conv=>whnf)
   exact ⟨rfl,rfl⟩
theorem xot (p:Plan) (x:Msg):Sem P 25 [(.pure,.agg (aPl p)),(.pure,.agg (aM x))] [] (B (msgOk p x)):=by
 have h1:=zh p;unfold msgOk
 cases hp:planOk p with
 | false =>
   rw [hp] at h1;refine fO Go.Proofs.Tryz.f25 fun hb=>?_;conv=>whnf
   repeat' first|((first|refine zz ?_|(refine xa ?_ ?_<;>intro _)|refine ⟨_,h1,?_⟩)<;>conv=>whnf)
   exact ⟨rfl,rfl⟩
 | true =>
   rw [hp] at h1;refine fO Go.Proofs.Tryz.f25 fun hb=>?_;conv=>whnf
   repeat' first|((first|refine zz ?_|(refine xa ?_ ?_<;>intro _)|refine ⟨_,h1,?_⟩|refine ⟨_,xdp p x (xi hp),?_⟩)<;>conv=>whnf)
   exact ⟨rfl,rfl⟩
end Cc
end
