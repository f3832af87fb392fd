/- The laws FnMsgOk, FnSitFree: part 27 of 41. No conditions beyond the statement. -/
import Derived.Test.YtnigojkdmmeglaaGreatDoorAll24
set_option linter.unusedVariables false
set_option linter.unusedSimpArgs false
set_option maxRecDepth 100000
set_option maxHeartbeats 16000000
section
namespace Cc
open Go Go.AM
theorem drI {a m:Int} {bs:List UInt8} {rows:List (List AV)} {os:List TV} {l:List Int} {a':Int} (e:rows=ints l) (e2:os=[.agg (aRd bs a')]) (hb:a<=a'/\a'<=a+m) :
 ∃ (l:List Int) (a':Int),(a<=a'/\a'<=a+m)/\TV.one (.sl 3 rows)=AI l/\os=[.agg (aRd bs a')]:=⟨l,a',hb,by rw [e],e2⟩
theorem xpz (l:List Int) (n:Nat):(ints l).take n=ints (l.take n):=x1u.symm
theorem xds (bs:List UInt8) (a k:Int) (ha:0<=a/\a<=10000000000) (hk:1<=k/\k<=1000000) (hbs:bs.length<=2000) :
 ∃ os res,(∃ (l:List Int) (a':Int),(a<=a'/\a'<=a+10)/\res=AI l/\os=aRd bs a')/\Sem P 165 [(.io 0 0,.agg (aRd bs a)),(.pure,I k)] [.agg os] res:=by
 have key:∃ res outs,(∃ (l:List Int) (a':Int),(a<=a'/\a'<=a+10)/\res=AI l/\outs=[.agg (aRd bs a')])/\Sem P 165 [(.io 0 0,.agg (aRd bs a)),(.pure,I k)] outs res:=by
  refine xw (E:={ E0 with cut:=[7001] }) xm xn (fn:=Go.Proofs.Tryz.f165) (by kernel_rfl) (by kernel_rfl) ?_;conv=>whnf
  repeat' first|((first|refine zz ?_|(refine xa ?_ ?_<;>intro _))<;>conv=>whnf)|(refine callIo (xf bs _ _ (by omega) (by omega) hbs) ?_; rintro _ _ ⟨n,hn,rfl,rfl⟩;conv=>whnf)|(refine ioN (by first|omega|(dsimp only; omega)|(simp<;>omega)|(simp_all<;>omega)) (by first|omega|(dsimp only; omega)|(simp<;>omega)|(simp_all<;>omega)) ?_;conv=>whnf)|(refine rwI rfl (by first|omega|(dsimp only; omega)|(simp<;>omega)|(simp_all<;>omega)) (by first|omega|(dsimp only; omega)|(simp<;>omega)|(simp_all<;>omega)) fun c hc=>?_;conv=>whnf)|(refine rwN (enc:=rI) 0 (by first|omega|(dsimp only; omega)|(simp<;>omega)|(simp_all<;>omega)) ?_;conv=>whnf)|(refine wq ?_;conv=>whnf)|(refine apN (by simp; omega) ?_;conv=>whnf)|((first|refine apN (by simp) ?_)<;>conv=>whnf)|(refine slN (by decide) (by decide) (by first|omega|(dsimp only; omega)|(simp<;>omega)|(simp_all<;>omega)) ?_;conv=>whnf)|((first|refine ctN ?_)<;>conv=>whnf)
  all_goals
   first
    | (refine drI (l:=[_,_,_]) rfl rfl ⟨?_,?_⟩<;>omega)
    | (refine drI (l:=_) (yz [_,_,_] _ _) rfl ⟨?_,?_⟩<;>omega)
    | (refine drI (l:=_) (y0 [_,_,_] _) rfl ⟨?_,?_⟩<;>omega)
    | (refine drI (l:=_) (xpz [_,_,_] 2) rfl ⟨?_,?_⟩<;>omega)
 obtain ⟨r,o,⟨l,a',h1,h2,rfl⟩,h4⟩:=key;exact ⟨_,r,⟨l,a',h1,h2,rfl⟩,h4⟩
theorem xj3 (bs:List UInt8) (a k:Int) (ha:0<=a/\a<=10000000000) (hk:1<=k/\k<=1000000) (hbs:bs.length<=2000) :
 ∃ os res,(∃ (l:List Int) (a':Int),(a<=a'/\a'<=a+10)/\res=AI l/\os=aRd bs a')/\Sem P 218 [(.io 0 0,.agg (aRd bs a)),(.pure,I k)] [.agg os] res:=by
 have key:∃ res outs,(∃ (l:List Int) (a':Int),(a<=a'/\a'<=a+10)/\res=AI l/\outs=[.agg (aRd bs a')])/\Sem P 218 [(.io 0 0,.agg (aRd bs a)),(.pure,I k)] outs res:=by
  refine xw (E:={ E0 with cut:=[11001] }) xm xn (fn:=Go.Proofs.Tryz.f218) (by kernel_rfl) (by kernel_rfl) ?_;conv=>whnf
  (refine zA ?_)
  refine Vc.loop3 (fun (i:Nat) (l:List Int) (b:Int)=>i<=3/\l.length=i/\a<=b/\b<=a+i) (fun i l b=>updL [0,1,4,20,21,22,23,24,25,26,27,28,29,30,31,32,33,34,35,36,37,38,39,40,41,42,43,44] [(6,I i),(5,.one (.ref 128000))] [(128000,.arr 3 (ints l) false),(63,.box (aRd bs b))]) (fun i _ _=>3 - i) 0 [] a ⟨by omega,rfl,by omega,by omega⟩ ?_ (fun i l b hi=>?_)
  · exact wk
  · obtain ⟨i3,hl,b1,b2⟩:=hi;have ll:=xb l;conv=>whnf
    (refine zA ?_)
    refine xd (fun g=>?_) (fun g=>?_)
    all_goals conv=>whnf
    · repeat' first|((first|refine zz ?_|(refine xa ?_ ?_<;>intro _))<;>conv=>whnf)|(refine callIo (xf bs _ _ (by omega) (by omega) hbs) ?_; rintro _ _ ⟨n,hn,rfl,rfl⟩;conv=>whnf)|(refine ioN (by first|omega|(dsimp only; omega)|(simp<;>omega)|(simp_all<;>omega)) (by first|omega|(dsimp only; omega)|(simp<;>omega)|(simp_all<;>omega)) ?_;conv=>whnf)|(refine rwI rfl (by first|omega|(dsimp only; omega)|(simp<;>omega)|(simp_all<;>omega)) (by first|omega|(dsimp only; omega)|(simp<;>omega)|(simp_all<;>omega)) fun c hc=>?_;conv=>whnf)|(refine rwN (enc:=rI) 0 (by first|omega|(dsimp only; omega)|(simp<;>omega)|(simp_all<;>omega)) ?_;conv=>whnf)|(refine wq ?_;conv=>whnf)|(refine apN (by simp; omega) ?_;conv=>whnf)
      refine ⟨i+1,l++[c],b+1,⟨by omega,by simp; omega,by omega,by omega⟩,by simp only; omega,?_⟩
      repeat' (first|exact True.intro|((conv=>whnf);first|exact True.intro|refine ⟨by rfl,?_⟩|refine ⟨by first|omega|(show (_:Int)=_;first|omega|(dsimp only;omega))|exact y0 _ _,?_⟩|refine ⟨?_,?_⟩))
    · have hl3:l.length=3:=by omega
      repeat' first|((first|refine zz ?_|(refine xa ?_ ?_<;>intro _))<;>conv=>whnf)|(refine callIo (xf bs _ _ (by omega) (by omega) hbs) ?_; rintro _ _ ⟨n,hn,rfl,rfl⟩;conv=>whnf)|(refine ioN (by first|omega|(dsimp only; omega)|(simp<;>omega)|(simp_all<;>omega)) (by first|omega|(dsimp only; omega)|(simp<;>omega)|(simp_all<;>omega)) ?_;conv=>whnf)|(refine rwI rfl (by first|omega|(dsimp only; omega)|(simp<;>omega)|(simp_all<;>omega)) (by first|omega|(dsimp only; omega)|(simp<;>omega)|(simp_all<;>omega)) fun c hc=>?_;conv=>whnf)|(refine rwN (enc:=rI) 0 (by first|omega|(dsimp only; omega)|(simp<;>omega)|(simp_all<;>omega)) ?_;conv=>whnf)|(refine wq ?_;conv=>whnf)|(refine apN (by simp; omega) ?_;conv=>whnf)|((first|refine apN (by simp) ?_)<;>conv=>whnf)|(refine slN (by decide) (by decide) (by first|omega|(dsimp only; omega)|(simp<;>omega)|(simp_all<;>omega)) ?_;conv=>whnf)|((first|refine ctN ?_)<;>conv=>whnf)
      all_goals
       first
        | (refine drI (l:=l) (rfl:ints l=ints l) rfl ⟨?_,?_⟩<;>omega)
        | (refine drI (l:=_) (yz l _ _) rfl ⟨?_,?_⟩<;>omega)
        | (refine drI (l:=_) (y0 l _) rfl ⟨?_,?_⟩<;>omega)
        | (refine drI (l:=_) (xpz l 2) rfl ⟨?_,?_⟩<;>omega)
 obtain ⟨r,o,⟨l,a',h1,h2,rfl⟩,h4⟩:=key;exact ⟨_,r,⟨l,a',h1,h2,rfl⟩,h4⟩
theorem xwl (l:List Done) (x:Done):l.map eD++[eD x]=(l++[x]).map eD:=by simp
theorem xfb {l:List Done} {n c:Int} {t:List Int}:Cold (.sl 79 (l.map eD++[[eI n,eI c,fI t]])) (fDs (l++[⟨n,⟨c,t⟩⟩])):=by
 have e:=xwl l ⟨n,⟨c,t⟩⟩;unfold fDs;rw [<- e]; exact xg
theorem xun {l:List Done} {i:Nat} {n c:Int} {t:List Int}:Cold (.sl 79 ((l.map eD).set i [eI n,eI c,fI t])) (fDs (l.set i ⟨n,⟨c,t⟩⟩)):=by
 have e:=vq l i ⟨n,⟨c,t⟩⟩;unfold fDs;rw [<- e]; exact xg
theorem xh8 {l:List Done} {n c:Int}:Cold (.sl 79 (l.map eD++[[eI n,eI c,.fr [] 3 []]])) (fDs (l++[⟨n,⟨c,[]⟩⟩])):=xfb (t:=[])
theorem xom (bs:List UInt8) (a:Int) (w:World) (hw:WorldF w) (h0:w.Net.length=0) (ha:0<=a/\a<=5000000000) (hbs:bs.length<=2000) :
 ∃ os res,(∃ (e:Event) (a':Int),(a<=a'/\a'<=a+30)/\e.Args.length<=3/\res=.agg (eE e)/\os=aRd bs a')/\Sem P 184 [(.io 0 0,.agg (aRd bs a)),(.pure,.agg (aWd w))] [.agg os] res:=by
 refine drEventEnd ?_;obtain ⟨⟨s1,s2⟩,⟨c1,c2⟩,⟨p1,p2⟩,hn,hq⟩:=ql hw;have ls:(w.Sites.map eS).length=w.Sites.length:=xzi ..;have lx:(w.Clients.map eX).length=w.Clients.length:=xzi ..;have la:(w.Plan.Acts.map eA).length=w.Plan.Acts.length:=xzi ..;have lm:(w.Net.map eM).length=w.Net.length:=xzi ..;refine xip (E:=E0) xm xn (fn:=Go.Proofs.Tryz.f184) (by kernel_rfl) (by kernel_rfl) ?_;conv=>whnf
 refine xa (fun g=>?_) (fun g=>?_)
 · exfalso; simp only [xzk] at g; omega
 conv=>whnf
 all_goals
  refine callIo (xf bs _ 32 (by omega) (by decide) hbs) ?_;rintro _ _ ⟨n,hn,rfl,rfl⟩;have h32:n=0\/n=1\/n=2\/n=3\/n=4\/n=5\/n=6\/n=7\/n=8\/n=9\/n=10\/n=11\/n=12\/n=13\/n=14\/n=15\/n=16\/n=17\/n=18\/n=19\/n=20\/n=21\/n=22\/n=23\/n=24\/n=25\/n=26\/n=27\/n=28\/n=29\/n=30\/n=31:=by omega
  rcases h32 with rfl|rfl|rfl|rfl|rfl|rfl|rfl|rfl|rfl|rfl|rfl|rfl|rfl|rfl|rfl|rfl|rfl|rfl|rfl|rfl|rfl|rfl|rfl|rfl|rfl|rfl|rfl|rfl|rfl|rfl|rfl|rfl
 all_goals conv=>whnf
 all_goals
  repeat' first|((first|refine callIo (xf bs _ _ (by omega) (by omega) hbs) ?_|refine callIo (xf bs _ 2 (by omega) (by decide) hbs) ?_); rintro _ _ ⟨n,hn,rfl,rfl⟩;conv=>whnf)|(refine callIo (xbs bs _ _ (by omega) (by decide) hbs) ?_; rintro _ _ ⟨l,b'',hb'',hl,rfl,rfl⟩;conv=>whnf)|(refine wq ?_;conv=>whnf)
  first
   | (refine drEv0 rfl ⟨?_,?_⟩<;>omega)
   | (refine drEv1 hl rfl ⟨?_,?_⟩<;>omega)
theorem xrv (bs:List UInt8) (a:Int) (w:World) (hw:WorldF w) (ha:0<=a/\a<=5000000000) (hbs:bs.length<=2000) :
 ∃ os res,(∃ (e:Event) (a':Int),(a<=a'/\a'<=a+30)/\e.Args.length<=3/\res=.agg (eE e)/\os=aRd bs a')/\Sem P 184 [(.io 0 0,.agg (aRd bs a)),(.pure,.agg (aWd w))] [.agg os] res:=by
 by_cases h0:w.Net.length=0
 · exact xom bs a w hw h0 ha hbs
 · exact xon bs a w hw (by omega) ha hbs
end Cc
end
