/- The laws FnMsgOk, FnSitFree: part 10 of 41. No conditions beyond the statement. -/
import Derived.Test.YtnigojkdmmeglaaGreatDoorAll7
import Derived.Test.YtnigojkdmmeglaaGreatDoorAll8
set_option linter.unusedVariables false
set_option linter.unusedSimpArgs false
set_option maxRecDepth 100000
set_option maxHeartbeats 16000000
section
namespace Cc
open Go Go.AM
theorem apS {r:List (List AV)} {k:Prop} (h:allSh r) (hk:k):allSh r/\k:=⟨h,hk⟩
theorem xv1 (l:List Line):allSh (l.map eL):=by
 intro row hr a ha;obtain ⟨x,_,rfl⟩:=xzv.1 hr;simp only [eL,xzn,x0o,x2f] at ha
 rcases ha with rfl|rfl|rfl|rfl|rfl|rfl<;>first|exact .inl ⟨_,rfl⟩|exact .inr ⟨_,_,rfl⟩
theorem xjf (l:List Line) (x:Line):l.map eL++[eL x]=(l++[x]).map eL:=by simp
theorem xnz (out:List Line) (l:Line):Sem P 219 [(.pure,.one (.sl 122 ([]++out.map eL++[eL l])))] [] (B (actOk (out++[l]))):=by
 have e:[]++out.map eL++[eL l]=(out++[l]).map eL:=by simp
 rw [e]; exact qu _
theorem xlt (bs:List UInt8) (a:Int) (ha:0<=a/\a<=9000000000) (hbs:bs.length<=2000) :
 ∃ os res,(∃ (act:List Line) (a':Int),(a<=a'/\a'<=a+60)/\actOk act=true/\res=.one (sLs act)/\os=aRd bs a')/\Sem P 253 [(.io 0 0,.agg (aRd bs a))] [.agg os] res:=by
 have key:∃ res outs,(∃ (act:List Line) (a':Int),(a<=a'/\a'<=a+60)/\actOk act=true/\res=.one (sLs act)/\outs=[.agg (aRd bs a')])/\Sem P 253 [(.io 0 0,.agg (aRd bs a))] outs res:=by
  refine xw (E:={ E0 with keep:=[6000,10000,12000,14000,14001,20002] }) xm xn (fn:=Go.Proofs.Tryz.f253) (by kernel_rfl) (by kernel_rfl) ?_;conv=>whnf
  repeat' first|((first|refine zz ?_|(refine xa ?_ ?_<;>intro _))<;>conv=>whnf)
  refine callIo (xf bs _ _ (by omega) (by omega) hbs) ?_;rintro _ _ ⟨v,hv,rfl,rfl⟩;have hv2:v=0\/v=1:=by omega
  rcases hv2 with rfl|rfl
  all_goals conv=>whnf
  all_goals repeat' first|((first|refine zz ?_|(refine xa ?_ ?_<;>intro _))<;>conv=>whnf)|(refine callIo (xf bs _ _ (by omega) (by omega) hbs) ?_; rintro _ _ ⟨n,hn,rfl,rfl⟩;conv=>whnf)|((first|refine ⟨_,xvz _ _ _,?_⟩|refine ⟨_,xer _ 0 _ (by decide),?_⟩|refine ⟨_,xer _ 1 _ (by decide),?_⟩|refine ⟨_,xer _ 2 _ (by decide),?_⟩|refine wq ?_)<;>conv=>whnf)
  all_goals first
   | exact ⟨[⟨_,_,_,⟨_,_,_⟩⟩],_,⟨by omega,by omega⟩,by decide,rfl,rfl⟩
   | exact ⟨[⟨_,_,_,⟨_,_,_⟩⟩,⟨_,_,_,⟨_,_,_⟩⟩],_,⟨by omega,by omega⟩,by decide,rfl,rfl⟩
   | exact ⟨[⟨_,_,_,⟨_,_,_⟩⟩,⟨_,_,_,⟨_,_,_⟩⟩,⟨_,_,_,⟨_,_,_⟩⟩],_,⟨by omega,by omega⟩,by decide,rfl,rfl⟩
   | exact ⟨[⟨_,_,_,⟨_,_,_⟩⟩,⟨_,_,_,⟨_,_,_⟩⟩,⟨_,_,_,⟨_,_,_⟩⟩,⟨_,_,_,⟨_,_,_⟩⟩,⟨_,_,_,Form.nil⟩],_,⟨by omega,by omega⟩,by decide,rfl,rfl⟩
   | skip
  all_goals
   refine Vc.loop3 (fun (i:Int) (out:List Line) (b:Int)=>0<=i/\i<=5/\(out.length:Int)<=5 - i/\actOk out=true/\a<=b/\b<=a+3+(5 - i)*10) (fun i out b=>updL [0,2,83] [(5,I i),(4,.one (.ref 960000))] [(960000,.arr 122 (out.map eL) false),(63,.box (aRd bs b))]) (fun i _ _=>i.toNat) (1+n) [] (a+1+1+1) ⟨by omega,by omega,by simp; omega,rfl,by omega,by omega⟩ ?_ (fun i out b hi=>?_)
   · exact wk
   · obtain ⟨i0,i5,ho,hok,b1,b2⟩:=hi;have lo:(out.map eL).length=out.length:=xzi ..;conv=>whnf
     (refine zA ?_)
     refine xd (fun g=>?_) (fun g=>?_)
     all_goals conv=>whnf
     · repeat' first|((first|refine zz ?_|(refine xa ?_ ?_<;>intro _))<;>conv=>whnf)|(refine callIo (xto bs _ (by omega) hbs) ?_; rintro _ _ ⟨l,b',hb',hl,rfl,rfl⟩;conv=>whnf)|(refine apN (by simp; omega) ?_;conv=>whnf)|((first|refine apS (xv1 _) ?_|refine ⟨_,xnz _ _,?_⟩|refine wq ?_)<;>conv=>whnf)
       · rename_i h;refine ⟨i - 1,out++[l],b',⟨by omega,by omega,by simp; omega,h,by omega,by omega⟩,by simp only; omega,?_⟩
         repeat' (first|exact True.intro|((conv=>whnf);first|exact True.intro|refine ⟨by rfl,?_⟩|refine ⟨by first|omega|(show (_:Int)=_;first|omega|(dsimp only;omega))|exact xjf _ _,?_⟩|refine ⟨?_,?_⟩))
       · refine ⟨i - 1,out,b',⟨by omega,by omega,by omega,hok,by omega,by omega⟩,by simp only; omega,?_⟩;exact wk
     · repeat' first|((first|refine zz ?_|(refine xa ?_ ?_<;>intro _))<;>conv=>whnf)
       exact ⟨out,b,⟨by omega,by omega⟩,hok,rfl,rfl⟩
 obtain ⟨r,o,⟨f,a',h1,h2,h3,rfl⟩,h4⟩:=key;exact ⟨_,r,⟨f,a',h1,h2,h3,rfl⟩,h4⟩
theorem xtr {act:List Line} (h:actOk act=true):act.length<=6:=(zk.1 h).2.1
theorem xlu (l:List (List Line)) (x:List Line):l.map eA++[eA x]=(l++[x]).map eA:=by simp
theorem xbt {l:List (List Line)}:catOk l=true↔(1<=l.length/\l.length<=4)/\∀ x∈l,actOk x=true:=by
 simp [catOk,xc]; omega
theorem xjg (bs:List UInt8) (a:Int) (ha:0<=a/\a<=8000000000) (hbs:bs.length<=2000) :
 ∃ os res,(∃ (acts:List (List Line)) (a':Int),(a<=a'/\a'<=a+250)/\catOk acts=true/\res=.one (sAs acts)/\os=aRd bs a')/\Sem P 183 [(.io 0 0,.agg (aRd bs a))] [.agg os] res:=by
 have key:∃ res outs,(∃ (acts:List (List Line)) (a':Int),(a<=a'/\a'<=a+250)/\catOk acts=true/\res=.one (sAs acts)/\outs=[.agg (aRd bs a')])/\Sem P 183 [(.io 0 0,.agg (aRd bs a))] outs res:=by
  refine xw (E:=E0) xm xn (fn:=Go.Proofs.Tryz.f183) (by kernel_rfl) (by kernel_rfl) ?_;conv=>whnf
  repeat' first|((first|refine zz ?_|(refine xa ?_ ?_<;>intro _))<;>conv=>whnf)|(refine callIo (xf bs _ _ (by omega) (by omega) hbs) ?_; rintro _ _ ⟨n,hn,rfl,rfl⟩;conv=>whnf)|(refine ioN (by first|omega|(dsimp only; omega)|(simp<;>omega)|(simp_all<;>omega)) (by first|omega|(dsimp only; omega)|(simp<;>omega)|(simp_all<;>omega)) ?_;conv=>whnf)|(refine rwI rfl (by first|omega|(dsimp only; omega)|(simp<;>omega)|(simp_all<;>omega)) (by first|omega|(dsimp only; omega)|(simp<;>omega)|(simp_all<;>omega)) fun c hc=>?_;conv=>whnf)|(refine rwN (enc:=rI) 0 (by first|omega|(dsimp only; omega)|(simp<;>omega)|(simp_all<;>omega)) ?_;conv=>whnf)|(refine wq ?_;conv=>whnf)|(refine apN (by simp; omega) ?_;conv=>whnf)
  refine Vc.loop3 (fun (i:Int) (out:List (List Line)) (b:Int)=>0<=i/\(out.length:Int)=1+n - i/\(∀ x∈out,actOk x=true)/\a<=b/\b<=a+1+(1+n - i)*60) (fun i out b=>updL [0,2,18] [(4,I i),(3,.one (.ref 128000))] [(128000,.arr 48 (out.map eA) false),(63,.box (aRd bs b))]) (fun i _ _=>i.toNat) (1+n) [] (a+1) ⟨by omega,by simp,by simp,by omega,by omega⟩ ?_ (fun i out b hi=>?_)
  · exact wk
  · obtain ⟨i0,ho,hok,b1,b2⟩:=hi;have lo:(out.map eA).length=out.length:=xzi ..;conv=>whnf
    (refine zA ?_)
    refine xd (fun g=>?_) (fun g=>?_)
    all_goals conv=>whnf
    · repeat' first|((first|refine zz ?_|(refine xa ?_ ?_<;>intro _))<;>conv=>whnf)|(refine callIo (xlt bs _ (by omega) hbs) ?_; rintro _ _ ⟨l,b',hb',hl,rfl,rfl⟩;conv=>whnf)|(refine apN (by simp; omega) ?_;conv=>whnf)|(refine wq ?_;conv=>whnf)
      refine ⟨i - 1,out++[l],b',⟨by omega,by simp; omega,fun x hx=>?_,by omega,by omega⟩,by simp only; omega,?_⟩
      · rcases xzs.1 hx with h|h
        · exact hok x h
        · rw [xzq.1 h]; exact hl
      · repeat' (first|exact True.intro|((conv=>whnf);first|exact True.intro|refine ⟨by rfl,?_⟩|refine ⟨by first|omega|(show (_:Int)=_;first|omega|(dsimp only;omega))|exact xlu _ _,?_⟩|refine ⟨?_,?_⟩))
    · repeat' first|((first|refine zz ?_|(refine xa ?_ ?_<;>intro _))<;>conv=>whnf)
      exact ⟨out,b,⟨by omega,by omega⟩,xbt.2 ⟨⟨by omega,by omega⟩,hok⟩,rfl,rfl⟩
 obtain ⟨r,o,⟨f,a',h1,h2,h3,rfl⟩,h4⟩:=key;exact ⟨_,r,⟨f,a',h1,h2,h3,rfl⟩,h4⟩
theorem xts (l:List Line) (i:Nat) (x:Line):(l.map eL).set i (eL x)=(l.set i x).map eL:=x1y.symm
theorem xv2 (l:List Line) (i:Nat) (k p s:Int) (f:Form):(l.map eL).set i [eI k,eI p,eI s,fI f.C,fI f.D,eI f.K]=(l.set i ⟨k,p,s,f⟩).map eL:=xts l i ⟨k,p,s,f⟩
theorem xtt (l:List Line) (k p s:Int) (f:Form) (k' p' s':Int) (f':Form):l.map eL++[[eI k,eI p,eI s,fI f.C,fI f.D,eI f.K],[eI k',eI p',eI s',fI f'.C,fI f'.D,eI f'.K]]=(l++[(⟨k,p,s,f⟩:Line),⟨k',p',s',f'⟩]).map eL:=by simp
theorem xn0 (bs:List UInt8) (a k:Int) (ha:0<=a/\a<=8000000000) (hk:1<=k/\k<=1000000) (hbs:bs.length<=2000) :
 ∃ os res,(∃ (act:List Line) (a':Int),(a<=a'/\a'<=a+120)/\act.length<=10/\res=.one (sLs act)/\os=aRd bs a')/\Sem P 265 [(.io 0 0,.agg (aRd bs a)),(.pure,I k)] [.agg os] res:=by
 have key:∃ res outs,(∃ (act:List Line) (a':Int),(a<=a'/\a'<=a+120)/\act.length<=10/\res=.one (sLs act)/\outs=[.agg (aRd bs a')])/\Sem P 265 [(.io 0 0,.agg (aRd bs a)),(.pure,I k)] outs res:=by
  refine xw (E:={ E0 with keep:=[2001] }) xm xn (fn:=Go.Proofs.Tryz.f265) (by kernel_rfl) (by kernel_rfl) ?_;conv=>whnf
  repeat' first|((first|refine zz ?_|(refine xa ?_ ?_<;>intro _))<;>conv=>whnf)|(refine callIo (xlt bs _ (by omega) hbs) ?_; rintro _ _ ⟨l,b',hb',hl,rfl,rfl⟩; have hll:=xtr hl; have lo:(l.map eL).length=l.length:=xzi ..;conv=>whnf)|(refine callIo (xf bs _ _ (by omega) (by omega) hbs) ?_; rintro _ _ ⟨n,hn,rfl,rfl⟩;conv=>whnf)|(refine ioN (by first|omega|(dsimp only; omega)|(simp<;>omega)|(simp_all<;>omega)) (by first|omega|(dsimp only; omega)|(simp<;>omega)|(simp_all<;>omega)) ?_;conv=>whnf)|(refine rwI rfl (by first|omega|(dsimp only; omega)|(simp<;>omega)|(simp_all<;>omega)) (by first|omega|(dsimp only; omega)|(simp<;>omega)|(simp_all<;>omega)) fun c hc=>?_;conv=>whnf)|(refine rwN (enc:=rI) 0 (by first|omega|(dsimp only; omega)|(simp<;>omega)|(simp_all<;>omega)) ?_;conv=>whnf)|(refine wq ?_;conv=>whnf)|(refine apN (by simp; omega) ?_;conv=>whnf)
  · exact ⟨l,b',⟨by omega,by omega⟩,by omega,rfl,rfl⟩
  · exact ⟨l,b'+1,⟨by omega,by omega⟩,by omega,rfl,rfl⟩
  · rename_i h0 _;have h0:1<=l.length:=by rw [x00] at h0; omega
    repeat' first|((first|refine zz ?_|(refine xa ?_ ?_<;>intro _))<;>conv=>whnf)|(refine callIo (xf bs _ ((l.map eL).length:Int) (by omega) (by omega) hbs) ?_; rintro _ _ ⟨n,hn,rfl,rfl⟩;conv=>whnf)
    repeat' first|((first|refine zz ?_|(refine xa ?_ ?_<;>intro _))<;>conv=>whnf)|(refine callIo (xf bs _ _ (by omega) (by omega) hbs) ?_; rintro _ _ ⟨n,hn,rfl,rfl⟩;conv=>whnf)|(refine ioN (by first|omega|(dsimp only; omega)|(simp<;>omega)|(simp_all<;>omega)) (by first|omega|(dsimp only; omega)|(simp<;>omega)|(simp_all<;>omega)) ?_;conv=>whnf)|(refine rwI rfl (by first|omega|(dsimp only; omega)|(simp<;>omega)|(simp_all<;>omega)) (by first|omega|(dsimp only; omega)|(simp<;>omega)|(simp_all<;>omega)) fun c hc=>?_;conv=>whnf)|(refine rwN (enc:=rI) 0 (by first|omega|(dsimp only; omega)|(simp<;>omega)|(simp_all<;>omega)) ?_;conv=>whnf)|(refine wq ?_;conv=>whnf)|(refine apN (by simp; omega) ?_;conv=>whnf)|(refine rwN (enc:=eL) default (by first|omega|(dsimp only; omega)|(simp<;>omega)|(simp_all<;>omega)) ?_;conv=>whnf)|(refine callIo (xtq bs _ _ (by omega) (by omega) hbs) ?_; rintro _ _ ⟨f,b'',hb'',rfl,rfl⟩;conv=>whnf)|(refine callIo (xdc bs _ (by omega) hbs) ?_; rintro _ _ ⟨f,b'',hb'',hf,rfl,rfl⟩;conv=>whnf)
    all_goals first
     | exact ⟨_,_,⟨by omega,by omega⟩,x1r (Nat.le_of_eq x03) (by omega),congrArg (fun x=>TV.one (.sl 122 x)) (xv2 l _ _ _ _ _),rfl⟩
     | exact ⟨_,_,⟨by omega,by omega⟩,by simp; omega,congrArg (fun x=>TV.one (.sl 122 x)) (xtt l _ _ _ _ _ _ _ _),rfl⟩
     | skip
    rename_i m hm _ _ _ _ _;refine Vc.loop1 (fun (out:List Line)=>l.length<=out.length/\out.length<=7) (fun out=>updL [0,4,6,25,26,27,28,29,30,31,32,33,87] [(5,.one (.ref 128064))] [(128064,.arr 122 (out.map eL) false)]) (fun out=>7 - out.length) l ⟨by omega,by omega⟩ ?_ (fun out hi=>?_)
    · exact wk
    · have lo':(out.map eL).length=out.length:=xzi ..;obtain ⟨h1,h2⟩:=hi;conv=>whnf
      (refine zA ?_)
      refine xd (fun g=>?_) (fun g=>?_)
      all_goals conv=>whnf
      · repeat' first|((first|refine zz ?_|(refine xa ?_ ?_<;>intro _))<;>conv=>whnf)|(refine ioN (by first|omega|(dsimp only; omega)|(simp<;>omega)|(simp_all<;>omega)) (by first|omega|(dsimp only; omega)|(simp<;>omega)|(simp_all<;>omega)) ?_;conv=>whnf)|(refine rwN (enc:=eL) default (by first|omega|(dsimp only; omega)|(simp<;>omega)|(simp_all<;>omega)) ?_;conv=>whnf)|(refine apN (by simp; omega) ?_;conv=>whnf)
        refine ⟨out++[out.getD m.toNat default],⟨by simp; omega,by simp; omega⟩,by simp; omega,?_⟩
        repeat' (first|exact True.intro|((conv=>whnf);first|exact True.intro|refine ⟨by rfl,?_⟩|refine ⟨by first|omega|(show (_:Int)=_;first|omega|(dsimp only;omega))|exact xjf _ _,?_⟩|refine ⟨?_,?_⟩))
      · repeat' first|((first|refine zz ?_|(refine xa ?_ ?_<;>intro _))<;>conv=>whnf)
        exact ⟨out,_,⟨by omega,by omega⟩,by omega,rfl,rfl⟩
 obtain ⟨r,o,⟨f,a',h1,h2,h3,rfl⟩,h4⟩:=key;exact ⟨_,r,⟨f,a',h1,h2,h3,rfl⟩,h4⟩
theorem xf2 (act:List Line):Sem P 140 [(.pure,.one (sLs act))] [] (.one (sWs (rowsOf act))):=by
 by_cases ha:actOk act=true
 · obtain ⟨hok,h6,_⟩:=zk.1 ha;have hw:=xt2 act h6 hok 7 0 (by omega) (by decide) (Form.pot 0) (Form.pot 1) (Form.pot 2) [] [] (Wk.start h6);refine fK [4007] Go.Proofs.Tryz.f140 fun hb=>?_;conv=>whnf
   repeat' first|((first|refine zz ?_|(refine xa ?_ ?_<;>intro _)|refine ⟨_,qu act,?_⟩|refine ⟨_,ze 0 (by decide),?_⟩|refine ⟨_,ze 1 (by decide),?_⟩|refine ⟨_,ze 2 (by decide),?_⟩|refine ⟨_,hw _ _ _ _ rfl rfl rfl rfl,?_⟩)<;>conv=>whnf)
   · exfalso; simp_all
   · exact ⟨by rw [rowsOf,if_pos ha]; rfl,rfl⟩
 · refine fK [4007] Go.Proofs.Tryz.f140 fun hb=>?_;conv=>whnf
   repeat' first|((first|refine zz ?_|(refine xa ?_ ?_<;>intro _)|refine ⟨_,qu act,?_⟩)<;>conv=>whnf)
   · exact ⟨by rw [rowsOf,if_neg ha]; rfl,rfl⟩
   · exfalso; simp_all
theorem xra (l:List Bool):allPrim (l.map fun b=>[eB b]):=by
 intro row h a ha;obtain ⟨b,_,rfl⟩:=xzv.1 h;simp only [xzq] at ha;exact ⟨_,ha⟩
theorem xgn (l:List (List Int)) (p:List Int):Sem P 143 [(.pure,.one (sPs l)),(.pure,AI p)] [] (I (idxOf (fun q=>decide (q=p)) l)):=by
 refine fO Go.Proofs.Tryz.f143 fun hb=>?_;have la:(l.map eP).length=l.length:=xzi ..;have hb1:(l.map eP).length<=1125899906842624:=hb.1.1;conv=>whnf
 (refine zA ?_)
 refine Vc.loop1 (fun (i:Nat)=>i<=l.length/\∀ j,j<i->decide (l.getD j []=p)=false) (fun i=>updL [0,1] [(5,I i)] []) (fun i=>l.length - i) 0 ⟨by omega,fun j hj=>absurd hj (x0z j)⟩ ?_ (fun i hi=>?_)
 · exact wl
 · obtain ⟨hi,ho⟩:=hi;conv=>whnf
   (refine zA ?_)
   refine xd (fun g=>?_) (fun g=>?_)
   all_goals conv=>whnf
   · repeat' first|((first|refine zz ?_|(refine xa ?_ ?_<;>intro _)|refine ixN (enc:=eP) [] (by omega) ?_|refine ⟨_,xex (l.getD i []) p,?_⟩|refine wq ?_)<;>conv=>whnf)
     · rename_i h;exact ⟨by rw [yw (p:=fun q=>decide (q=p)) [] (by omega) h ho],rfl⟩
     · rename_i h;refine ⟨i+1,⟨by omega,fun j hj=>?_⟩,by simp only; omega,?_⟩
       · by_cases h':j<i
         · exact ho j h'
         · obtain rfl:j=i:=by omega
           exact h
       · exact wl
   ·
    (refine zA ?_)
    exact ⟨by rw [yf (p:=fun q=>decide (q=p)) [] (fun j hj=>ho j (by omega))],rfl⟩
theorem xdi {l:List Form} {i:Nat} (h:i<l.length) (v:Nat):reads (l.take (i+1)) v=(reads (l.take i) v || decide ((l.getD i default).C.getD v 0≠0)):=by
 have e:l.getD i default=l[i]:=by rw [xzo,xzh h]; rfl
 unfold reads;rw [x14,xzh h,e,List.any_append];simp only [Option.toList,x3u,List.any_nil,x26]
theorem xhw (a b c:Bool) (l:List Form) (hl:shs l):Sem P 141 [(.pure,.one (sBs [a,b,c])),(.pure,.one (sFs l))] [] (.one (sBs [a || reads l 0,b || reads l 1,c || reads l 2])):=by
 refine fO Go.Proofs.Tryz.f141 fun hb=>?_;have la:(l.map eF).length=l.length:=xzi ..;have hl1:=hl.1;conv=>whnf
 repeat' first|((first|refine zz ?_|(refine xa ?_ ?_<;>intro _)|refine apN (by simp) ?_|refine apP (xra _) ?_)<;>conv=>whnf)
 refine Vc.loop1 (fun (i:Nat)=>i<=l.length) (fun i=>updL [1,4,5,33] [(6,I i)] [(128128,.arr 4 [[eB (a || reads (l.take i) 0)],[eB (b || reads (l.take i) 1)],[eB (c || reads (l.take i) 2)]] false)]) (fun i=>l.length - i) 0 (xz1 _) ?_ (fun i hi=>?_)
 · repeat' (first|exact True.intro|((conv=>whnf);first|exact True.intro|refine ⟨by rfl,?_⟩|refine ⟨by first|omega|(show (_:Int)=_;first|omega|(dsimp only;omega))|exact by simp [reads],?_⟩|refine ⟨?_,?_⟩))
 · conv=>whnf
   (refine zA ?_)
   refine xd (fun g=>?_) (fun g=>?_)
   all_goals conv=>whnf
   · have hil:i<l.length:=by omega
     have hs:=hl.2 _ (xp hil);have r0:=xdi hil 0;have r1:=xdi hil 1;have r2:=xdi hil 2;obtain ⟨x,y,z,hC⟩:=len3 hs.1;rw [hC] at r0 r1 r2
     (refine zA ?_)
     refine Vc.loop1 (fun (v:Nat)=>v<=3) (fun v=>updL [1,4,5,6,11,12,13,14,15,16,33] [(7,I v)] [(128128,.arr 4 [[eB (a || reads (l.take i) 0 || (decide (0<v) && decide (x≠0)))],[eB (b || reads (l.take i) 1 || (decide (1<v) && decide (y≠0)))],[eB (c || reads (l.take i) 2 || (decide (2<v) && decide (z≠0)))]] false)]) (fun v=>3 - v) 0 (by omega) ?_ (fun v hv=>?_)
     · repeat' (first|exact True.intro|((conv=>whnf);first|exact True.intro|refine ⟨by rfl,?_⟩|refine ⟨by first|omega|(show (_:Int)=_;first|omega|(dsimp only;omega))|exact by simp,?_⟩|refine ⟨?_,?_⟩))
     · match v,hv with
       | 0,_ =>
         conv=>whnf
         repeat' first|((first|refine zz ?_|(refine xa ?_ ?_<;>intro _)|refine ixN (enc:=eF) default hil ?_)<;>conv=>whnf)|((rw [hC];conv=>whnf))|((first|refine ixK rfl ?_|refine ioN (by decide) (by simp) ?_|refine rwC rfl ?_|refine wq ?_)<;>conv=>whnf)
         all_goals (refine ⟨1,by omega,by simp only; omega,?_⟩)
         all_goals (repeat' (first|exact True.intro|((conv=>whnf);first|exact True.intro|refine ⟨by rfl,?_⟩|refine ⟨by first|omega|(show (_:Int)=_;first|omega|(dsimp only;omega))|exact by simp_all,?_⟩|refine ⟨?_,?_⟩)))
       | 1,_ =>
         conv=>whnf
         repeat' first|((first|refine zz ?_|(refine xa ?_ ?_<;>intro _)|refine ixN (enc:=eF) default hil ?_)<;>conv=>whnf)|((rw [hC];conv=>whnf))|((first|refine ixK rfl ?_|refine ioN (by decide) (by simp) ?_|refine rwC rfl ?_|refine wq ?_)<;>conv=>whnf)
         all_goals (refine ⟨2,by omega,by simp only; omega,?_⟩)
         all_goals (repeat' (first|exact True.intro|((conv=>whnf);first|exact True.intro|refine ⟨by rfl,?_⟩|refine ⟨by first|omega|(show (_:Int)=_;first|omega|(dsimp only;omega))|exact by simp_all,?_⟩|refine ⟨?_,?_⟩)))
       | 2,_ =>
         conv=>whnf
         repeat' first|((first|refine zz ?_|(refine xa ?_ ?_<;>intro _)|refine ixN (enc:=eF) default hil ?_)<;>conv=>whnf)|((rw [hC];conv=>whnf))|((first|refine ixK rfl ?_|refine ioN (by decide) (by simp) ?_|refine rwC rfl ?_|refine wq ?_)<;>conv=>whnf)
         all_goals (refine ⟨3,by omega,by simp only; omega,?_⟩)
         all_goals (repeat' (first|exact True.intro|((conv=>whnf);first|exact True.intro|refine ⟨by rfl,?_⟩|refine ⟨by first|omega|(show (_:Int)=_;first|omega|(dsimp only;omega))|exact by simp_all,?_⟩|refine ⟨?_,?_⟩)))
       | 3,_ =>
         conv=>whnf
         repeat' first|((first|refine zz ?_|(refine xa ?_ ?_<;>intro _)|refine wq ?_)<;>conv=>whnf)
         refine ⟨i+1,by omega,by simp only; omega,?_⟩
         repeat' (first|exact True.intro|((conv=>whnf);first|exact True.intro|refine ⟨by rfl,?_⟩|refine ⟨by first|omega|(show (_:Int)=_;first|omega|(dsimp only;omega))|exact by simp [r0,r1,r2,x3v],?_⟩|refine ⟨?_,?_⟩))
   ·
    (refine zA ?_)
    have hend:l.take i=l:=xzx (by omega);exact ⟨by rw [hend]; rfl,rfl⟩
theorem w6 (acts:List (List Line)) (h4:acts.length<=4):Sem P 58 [(.pure,.one (sAs acts))] [] (.tup [(false,[sPs (partsOf acts)]),(false,[fBs (pinsOf acts)])]):=by
 refine yp (E:={ E0 with fz:=[(3,[192000])] }) xm xn (fn:=Go.Proofs.Tryz.f58) (by kernel_rfl) (by kernel_rfl) (fun hb=>?_);have la:(acts.map eA).length=acts.length:=xzi ..;conv=>whnf
 (refine zA ?_)
 refine Vc.loop1 (fun (v:Nat)=>v<=3) (fun v=>updL [0,2,3,5,7,8,9,10,11,24,25,26,27,28,29,30,31,32,33,34,35,36,37,38,39,40,41,42,43,44,45,46,47,48,49,50,51,52,53,54,55,56,57,58,59,60,61,62,63,64,65,66,67,68,69,70,71,72,73,74,75,76,77,78,79,80,81,82,83,84,85,86,87,88,89] [(6,I v),(4,.one (.ref 128000))] [(128000,.arr 24 (([[1,0,0],[0,1,0],[0,0,1]].take v).map eP) false)]) (fun v=>3 - v) 0 (by omega) ?_ (fun v hv=>?_)
 · exact wk
 · match v,hv with
   | 0,_ =>
     conv=>whnf
     repeat' first|((first|refine zz ?_|(refine xa ?_ ?_<;>intro _)|refine ⟨_,ze 0 (by decide),?_⟩|refine apN (by simp) ?_|refine wq ?_)<;>conv=>whnf)
     refine ⟨1,by omega,by simp only; omega,?_⟩;exact wk
   | 1,_ =>
     conv=>whnf
     repeat' first|((first|refine zz ?_|(refine xa ?_ ?_<;>intro _)|refine ⟨_,ze 1 (by decide),?_⟩|refine apN (by simp) ?_|refine wq ?_)<;>conv=>whnf)
     refine ⟨2,by omega,by simp only; omega,?_⟩;exact wk
   | 2,_ =>
     conv=>whnf
     repeat' first|((first|refine zz ?_|(refine xa ?_ ?_<;>intro _)|refine ⟨_,ze 2 (by decide),?_⟩|refine apN (by simp) ?_|refine wq ?_)<;>conv=>whnf)
     refine ⟨3,by omega,by simp only; omega,?_⟩;exact wk
   | 3,_ =>
     conv=>whnf
     (refine zA ?_)
     refine Vc.loop1 (fun (i:Nat)=>i<=acts.length) (fun i=>updL [0,2,3,88,89] [(7,I i),(4,.one (.ref 128000)),(5,.one (fBs [reads (fAt acts i 0) 0,reads (fAt acts i 0) 1,reads (fAt acts i 0) 2]))] [(128000,.arr 24 ((pAt (gAt acts i 0)).map eP) false)]) (fun i=>acts.length - i) 0 (by omega) ?_ (fun i hi=>?_)
     · exact wk
     · conv=>whnf
       (refine zA ?_)
       refine xd (fun g=>?_) (fun g=>?_)
       all_goals conv=>whnf
       · have hil:i<acts.length:=by omega
         have hb1:(List.map eW (rowsOf (acts.getD i []))).length=(rowsOf (acts.getD i [])).length:=xzi ..
         repeat' first|((first|refine zz ?_|(refine xa ?_ ?_<;>intro _)|refine ixN (enc:=eA) [] hil ?_|refine ⟨_,xf2 (acts.getD i []),?_⟩)<;>conv=>whnf)
         refine Vc.loop1 (fun (k:Nat)=>k<=(rowsOf (acts.getD i [])).length) (fun k=>updL [0,2,3,7,8,24,25,26,27,28,29,30,31,32,33,34,88,89] [(9,I k),(4,.one (.ref 128000)),(5,.one (fBs [reads (fAt acts i k) 0,reads (fAt acts i k) 1,reads (fAt acts i k) 2]))] [(128000,.arr 24 ((pAt (gAt acts i k)).map eP) false)]) (fun k=>(rowsOf (acts.getD i [])).length - k) 0 (by omega) ?_ (fun k hk=>?_)
         · exact wk
         · conv=>whnf
           (refine zA ?_)
           refine xd (fun g=>?_) (fun g=>?_)
           all_goals conv=>whnf
           · have hkl:k<(rowsOf (acts.getD i [])).length:=by omega
             have rl:=vj (acts.getD i []);have hmem:(rowsOf (acts.getD i [])).getD k default∈rowsOf (acts.getD i []):=xp hkl;obtain ⟨sg,sa,st⟩:=xgm hmem
             repeat' first|((first|refine zz ?_|(refine xa ?_ ?_<;>intro _)|refine ixN (enc:=eW) default hkl ?_|refine ⟨_,xhw _ _ _ ((rowsOf (acts.getD i [])).getD k default).Adds sa,?_⟩|refine ⟨_,xhw _ _ _ ((rowsOf (acts.getD i [])).getD k default).Tells st,?_⟩)<;>conv=>whnf)
             refine Vc.loop1 (fun (j:Nat)=>j<=((rowsOf (acts.getD i [])).getD k default).Guards.length) (fun j=>updL [0,2,3,5,7,8,9,24,25,26,27,28,29,30,31,32,33,34,35,36,37,38,39,40,41,42,43,44,45,46,47,48,49,50,51,52,53,88,89] [(10,I j),(4,.one (.ref 128000))] [(128000,.arr 24 ((pAt (gAt acts i k++((rowsOf (acts.getD i [])).getD k default).Guards.take j)).map eP) false)]) (fun j=>((rowsOf (acts.getD i [])).getD k default).Guards.length - j) 0 (by omega) ?_ (fun j hj=>?_)
             · repeat' (first|exact True.intro|((conv=>whnf);first|exact True.intro|refine ⟨by rfl,?_⟩|refine ⟨by first|omega|(show (_:Int)=_;first|omega|(dsimp only;omega))|exact by simp,?_⟩|refine ⟨?_,?_⟩))
             · have hg1:(List.map eF ((rowsOf (acts.getD i [])).getD k default).Guards).length=((rowsOf (acts.getD i [])).getD k default).Guards.length:=xzi ..;conv=>whnf
               (refine zA ?_)
               refine ixN (enc:=eW) default hkl ?_;conv=>whnf
               (refine zA ?_)
               refine xd (fun g=>?_) (fun g=>?_)
               all_goals conv=>whnf
               · have hjl:j<((rowsOf (acts.getD i [])).getD k default).Guards.length:=by omega
                 have hjm:((rowsOf (acts.getD i [])).getD k default).Guards.getD j default∈((rowsOf (acts.getD i [])).getD k default).Guards:=xp hjl;have hjb:=xh ((ke hmem).1 _ hjm) (m':=1000000000000) (by decide);have pl:=xpp (gAt acts i k++((rowsOf (acts.getD i [])).getD k default).Guards.take j);have gl:=xdz acts i k;have tl:=xz3 (i:=i) (l:=acts);have gl2:=xz3 (i:=j) (l:=((rowsOf (acts.getD i [])).getD k default).Guards);have g6:=sg.1;rw [xzu] at pl;have e1:pAt (gAt acts i k++((rowsOf (acts.getD i [])).getD k default).Guards.take (j+1))=addPart (pAt (gAt acts i k++((rowsOf (acts.getD i [])).getD k default).Guards.take j)) (((rowsOf (acts.getD i [])).getD k default).Guards.getD j default):=by rw [xt hjl,<- x0c,xpo]
                 rw [xq6 hjb.1] at e1
                 repeat' first|((first|refine zz ?_|(refine xa ?_ ?_<;>intro _)|refine ixN (enc:=eW) default hkl ?_|refine ixN (enc:=eF) default hjl ?_)<;>conv=>whnf)|(refine ⟨_,xbv (((rowsOf (acts.getD i [])).getD k default).Guards.getD j default).C (((rowsOf (acts.getD i [])).getD k default).Guards.getD j default).D (((rowsOf (acts.getD i [])).getD k default).Guards.getD j default).K (by rw [hjb.1.1]; decide) hjb.2.1,?_⟩;conv=>whnf)|((first|refine ⟨_,xgn _ _,?_⟩|refine ⟨_,z6,?_⟩|refine ⟨_,xex (part ((rowsOf (acts.getD i [])).getD k default |>.Guards.getD j default).C) [0,0,0],?_⟩)<;>conv=>whnf)|(refine apN (by rw [xzi]; show _+1<=_; omega) ?_;conv=>whnf)|((first|refine wq ?_)<;>conv=>whnf)
                 all_goals (refine ⟨j+1,by omega,by simp only; omega,?_⟩)
                 all_goals (repeat' (first|exact True.intro|((conv=>whnf);first|exact True.intro|refine ⟨by rfl,?_⟩|refine ⟨by first|omega|(show (_:Int)=_;first|omega|(dsimp only;omega))|exact (by rw [e1,if_pos (by clear e1; simp_all; done),x0q]; rfl)|exact (by rw [e1,if_neg (by clear e1; first|(simp_all; done)|(simp_all; omega))]),?_⟩|refine ⟨?_,?_⟩)))
               · repeat' first|((first|refine zz ?_|(refine xa ?_ ?_<;>intro _)|refine wq ?_)<;>conv=>whnf)
                 refine ⟨k+1,by omega,by simp only; omega,?_⟩
                 repeat' (first|exact True.intro|((conv=>whnf);first|exact True.intro|refine ⟨by rfl,?_⟩|refine ⟨by first|omega|(show (_:Int)=_;first|omega|(dsimp only;omega))|exact (by rw [xpi hkl,xzx (by omega)])|exact (by simp [xpj hkl,xji,x3v]),?_⟩|refine ⟨?_,?_⟩))
           · repeat' first|((first|refine zz ?_|(refine xa ?_ ?_<;>intro _)|refine wq ?_)<;>conv=>whnf)
             refine ⟨i+1,by omega,by simp only; omega,?_⟩
             repeat' (first|exact True.intro|((conv=>whnf);first|exact True.intro|refine ⟨by rfl,?_⟩|refine ⟨by first|omega|(show (_:Int)=_;first|omega|(dsimp only;omega))|exact (by rw [xpk hil (by omega)])|exact (by rw [xpl hil (by omega)]),?_⟩|refine ⟨?_,?_⟩))
       ·
        (refine zA ?_)
        refine ⟨?_,rfl⟩;rw [xpm (by omega),xpn (by omega)];rfl
end Cc
end
