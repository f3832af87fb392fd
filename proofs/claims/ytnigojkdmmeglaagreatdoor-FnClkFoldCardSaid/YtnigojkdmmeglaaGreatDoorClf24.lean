/- The law FnClkFold: part 24 of 35. No conditions beyond the statement. -/
import Derived.Test.YtnigojkdmmeglaaGreatDoorClf22
set_option linter.unusedVariables false
set_option linter.unusedSimpArgs false
set_option maxRecDepth 100000
set_option maxHeartbeats 16000000
section
namespace Cc
open Go Go.AM
theorem xr5 {act:List Line} (h:actOk act=true):act.length<=6:=(y6.1 h).2.1
theorem xko (l:List (List Line)) (x:List Line):l.map eA++[eA x]=(l++[x]).map eA:=by simp
theorem xa7 {l:List (List Line)}:catOk l=true↔(1<=l.length/\l.length<=4)/\∀ x∈l,actOk x=true:=by
 simp [catOk,xc]; omega
theorem xie (bs:List UInt8) (a:Int) (ha:0<=a/\a<=8000000000) (hbs:bs.length<=2000) :
 ∃ os res,(∃ (acts:List (List Line)) (a':Int),(a<=a'/\a'<=a+250)/\catOk acts=true/\res=.one (sAs acts)/\os=aRd bs a')/\Sem P 183 [(.io 0 0,.agg (aRd bs a))] [.agg os] res:=by
 have key:∃ res outs,(∃ (acts:List (List Line)) (a':Int),(a<=a'/\a'<=a+250)/\catOk acts=true/\res=.one (sAs acts)/\outs=[.agg (aRd bs a')])/\Sem P 183 [(.io 0 0,.agg (aRd bs a))] outs res:=by
  refine x5 (E:=E0) xn xo (fn:=Go.Proofs.Tryz.f183) (by kernel_rfl) (by kernel_rfl) ?_;conv=>whnf
  repeat' first|((first|refine zz ?_|(refine xa ?_ ?_<;>intro _))<;>conv=>whnf)|(refine callIo (xh bs _ _ (by omega) (by omega) hbs) ?_; rintro _ _ ⟨n,hn,rfl,rfl⟩;conv=>whnf)|(refine ioN (by first|omega|(dsimp only; omega)|(simp<;>omega)|(simp_all<;>omega)) (by first|omega|(dsimp only; omega)|(simp<;>omega)|(simp_all<;>omega)) ?_;conv=>whnf)|(refine rwI rfl (by first|omega|(dsimp only; omega)|(simp<;>omega)|(simp_all<;>omega)) (by first|omega|(dsimp only; omega)|(simp<;>omega)|(simp_all<;>omega)) fun c hc=>?_;conv=>whnf)|(refine rwN (enc:=rI) 0 (by first|omega|(dsimp only; omega)|(simp<;>omega)|(simp_all<;>omega)) ?_;conv=>whnf)|(refine wq ?_;conv=>whnf)|(refine apN (by simp; omega) ?_;conv=>whnf)
  refine Vc.loop3 (fun (i:Int) (out:List (List Line)) (b:Int)=>0<=i/\(out.length:Int)=1+n - i/\(∀ x∈out,actOk x=true)/\a<=b/\b<=a+1+(1+n - i)*60) (fun i out b=>updL [0,2,18] [(4,I i),(3,.one (.ref 128000))] [(128000,.arr 48 (out.map eA) false),(63,.box (aRd bs b))]) (fun i _ _=>i.toNat) (1+n) [] (a+1) ⟨by omega,by simp,by simp,by omega,by omega⟩ ?_ (fun i out b hi=>?_)
  · exact wk
  · obtain ⟨i0,ho,hok,b1,b2⟩:=hi;have lo:(out.map eA).length=out.length:=xxs ..;conv=>whnf
    (refine zA ?_)
    refine xd (fun g=>?_) (fun g=>?_)
    all_goals conv=>whnf
    · repeat' first|((first|refine zz ?_|(refine xa ?_ ?_<;>intro _))<;>conv=>whnf)|(refine callIo (xkn bs _ (by omega) hbs) ?_; rintro _ _ ⟨l,b',hb',hl,rfl,rfl⟩;conv=>whnf)|(refine apN (by simp; omega) ?_;conv=>whnf)|(refine wq ?_;conv=>whnf)
      refine ⟨i - 1,out++[l],b',⟨by omega,by simp; omega,fun x hx=>?_,by omega,by omega⟩,by simp only; omega,?_⟩
      · rcases xx2.1 hx with h|h
        · exact hok x h
        · rw [xx1.1 h]; exact hl
      · repeat' (first|exact True.intro|((conv=>whnf);first|exact True.intro|refine ⟨by rfl,?_⟩|refine ⟨by first|omega|(show (_:Int)=_;first|omega|(dsimp only;omega))|exact xko _ _,?_⟩|refine ⟨?_,?_⟩))
    · repeat' first|((first|refine zz ?_|(refine xa ?_ ?_<;>intro _))<;>conv=>whnf)
      exact ⟨out,b,⟨by omega,by omega⟩,xa7.2 ⟨⟨by omega,by omega⟩,hok⟩,rfl,rfl⟩
 obtain ⟨r,o,⟨f,a',h1,h2,h3,rfl⟩,h4⟩:=key;exact ⟨_,r,⟨f,a',h1,h2,h3,rfl⟩,h4⟩
theorem xr6 (l:List Line) (i:Nat) (x:Line):(l.map eL).set i (eL x)=(l.set i x).map eL:=xz8.symm
theorem xui (l:List Line) (i:Nat) (k p s:Int) (f:Form):(l.map eL).set i [eI k,eI p,eI s,fI f.C,fI f.D,eI f.K]=(l.set i ⟨k,p,s,f⟩).map eL:=xr6 l i ⟨k,p,s,f⟩
theorem xr7 (l:List Line) (k p s:Int) (f:Form) (k' p' s':Int) (f':Form):l.map eL++[[eI k,eI p,eI s,fI f.C,fI f.D,eI f.K],[eI k',eI p',eI s',fI f'.C,fI f'.D,eI f'.K]]=(l++[(⟨k,p,s,f⟩:Line),⟨k',p',s',f'⟩]).map eL:=by simp
theorem xmp (bs:List UInt8) (a k:Int) (ha:0<=a/\a<=8000000000) (hk:1<=k/\k<=1000000) (hbs:bs.length<=2000) :
 ∃ os res,(∃ (act:List Line) (a':Int),(a<=a'/\a'<=a+120)/\act.length<=10/\res=.one (sLs act)/\os=aRd bs a')/\Sem P 265 [(.io 0 0,.agg (aRd bs a)),(.pure,I k)] [.agg os] res:=by
 have key:∃ res outs,(∃ (act:List Line) (a':Int),(a<=a'/\a'<=a+120)/\act.length<=10/\res=.one (sLs act)/\outs=[.agg (aRd bs a')])/\Sem P 265 [(.io 0 0,.agg (aRd bs a)),(.pure,I k)] outs res:=by
  refine x5 (E:={ E0 with keep:=[2001] }) xn xo (fn:=Go.Proofs.Tryz.f265) (by kernel_rfl) (by kernel_rfl) ?_;conv=>whnf
  repeat' first|((first|refine zz ?_|(refine xa ?_ ?_<;>intro _))<;>conv=>whnf)|(refine callIo (xkn bs _ (by omega) hbs) ?_; rintro _ _ ⟨l,b',hb',hl,rfl,rfl⟩; have hll:=xr5 hl; have lo:(l.map eL).length=l.length:=xxs ..;conv=>whnf)|(refine callIo (xh bs _ _ (by omega) (by omega) hbs) ?_; rintro _ _ ⟨n,hn,rfl,rfl⟩;conv=>whnf)|(refine ioN (by first|omega|(dsimp only; omega)|(simp<;>omega)|(simp_all<;>omega)) (by first|omega|(dsimp only; omega)|(simp<;>omega)|(simp_all<;>omega)) ?_;conv=>whnf)|(refine rwI rfl (by first|omega|(dsimp only; omega)|(simp<;>omega)|(simp_all<;>omega)) (by first|omega|(dsimp only; omega)|(simp<;>omega)|(simp_all<;>omega)) fun c hc=>?_;conv=>whnf)|(refine rwN (enc:=rI) 0 (by first|omega|(dsimp only; omega)|(simp<;>omega)|(simp_all<;>omega)) ?_;conv=>whnf)|(refine wq ?_;conv=>whnf)|(refine apN (by simp; omega) ?_;conv=>whnf)
  · exact ⟨l,b',⟨by omega,by omega⟩,by omega,rfl,rfl⟩
  · exact ⟨l,b'+1,⟨by omega,by omega⟩,by omega,rfl,rfl⟩
  · rename_i h0 _;have h0:1<=l.length:=by rw [xzc] at h0; omega
    repeat' first|((first|refine zz ?_|(refine xa ?_ ?_<;>intro _))<;>conv=>whnf)|(refine callIo (xh bs _ ((l.map eL).length:Int) (by omega) (by omega) hbs) ?_; rintro _ _ ⟨n,hn,rfl,rfl⟩;conv=>whnf)
    repeat' first|((first|refine zz ?_|(refine xa ?_ ?_<;>intro _))<;>conv=>whnf)|(refine callIo (xh bs _ _ (by omega) (by omega) hbs) ?_; rintro _ _ ⟨n,hn,rfl,rfl⟩;conv=>whnf)|(refine ioN (by first|omega|(dsimp only; omega)|(simp<;>omega)|(simp_all<;>omega)) (by first|omega|(dsimp only; omega)|(simp<;>omega)|(simp_all<;>omega)) ?_;conv=>whnf)|(refine rwI rfl (by first|omega|(dsimp only; omega)|(simp<;>omega)|(simp_all<;>omega)) (by first|omega|(dsimp only; omega)|(simp<;>omega)|(simp_all<;>omega)) fun c hc=>?_;conv=>whnf)|(refine rwN (enc:=rI) 0 (by first|omega|(dsimp only; omega)|(simp<;>omega)|(simp_all<;>omega)) ?_;conv=>whnf)|(refine wq ?_;conv=>whnf)|(refine apN (by simp; omega) ?_;conv=>whnf)|(refine rwN (enc:=eL) default (by first|omega|(dsimp only; omega)|(simp<;>omega)|(simp_all<;>omega)) ?_;conv=>whnf)|(refine callIo (xr4 bs _ _ (by omega) (by omega) hbs) ?_; rintro _ _ ⟨f,b'',hb'',rfl,rfl⟩;conv=>whnf)|(refine callIo (xcn bs _ (by omega) hbs) ?_; rintro _ _ ⟨f,b'',hb'',hf,rfl,rfl⟩;conv=>whnf)
    all_goals first
     | exact ⟨_,_,⟨by omega,by omega⟩,xz1 (Nat.le_of_eq xzd) (by omega),congrArg (fun x=>TV.one (.sl 122 x)) (xui l _ _ _ _ _),rfl⟩
     | exact ⟨_,_,⟨by omega,by omega⟩,by simp; omega,congrArg (fun x=>TV.one (.sl 122 x)) (xr7 l _ _ _ _ _ _ _ _),rfl⟩
     | skip
    rename_i m hm _ _ _ _ _;refine Vc.loop1 (fun (out:List Line)=>l.length<=out.length/\out.length<=7) (fun out=>updL [0,4,6,25,26,27,28,29,30,31,32,33,87] [(5,.one (.ref 128064))] [(128064,.arr 122 (out.map eL) false)]) (fun out=>7 - out.length) l ⟨by omega,by omega⟩ ?_ (fun out hi=>?_)
    · exact wk
    · have lo':(out.map eL).length=out.length:=xxs ..;obtain ⟨h1,h2⟩:=hi;conv=>whnf
      (refine zA ?_)
      refine xd (fun g=>?_) (fun g=>?_)
      all_goals conv=>whnf
      · repeat' first|((first|refine zz ?_|(refine xa ?_ ?_<;>intro _))<;>conv=>whnf)|(refine ioN (by first|omega|(dsimp only; omega)|(simp<;>omega)|(simp_all<;>omega)) (by first|omega|(dsimp only; omega)|(simp<;>omega)|(simp_all<;>omega)) ?_;conv=>whnf)|(refine rwN (enc:=eL) default (by first|omega|(dsimp only; omega)|(simp<;>omega)|(simp_all<;>omega)) ?_;conv=>whnf)|(refine apN (by simp; omega) ?_;conv=>whnf)
        refine ⟨out++[out.getD m.toNat default],⟨by simp; omega,by simp; omega⟩,by simp; omega,?_⟩
        repeat' (first|exact True.intro|((conv=>whnf);first|exact True.intro|refine ⟨by rfl,?_⟩|refine ⟨by first|omega|(show (_:Int)=_;first|omega|(dsimp only;omega))|exact xid _ _,?_⟩|refine ⟨?_,?_⟩))
      · repeat' first|((first|refine zz ?_|(refine xa ?_ ?_<;>intro _))<;>conv=>whnf)
        exact ⟨out,_,⟨by omega,by omega⟩,by omega,rfl,rfl⟩
 obtain ⟨r,o,⟨f,a',h1,h2,h3,rfl⟩,h4⟩:=key;exact ⟨_,r,⟨f,a',h1,h2,h3,rfl⟩,h4⟩
theorem xv3 (l:List (List Line)) (i:Nat) (x:List Line):(l.map eA).set i [fLs x]=(l.set i x).map eA:=xz8.symm
theorem xkp (bs:List UInt8) (a k:Int) (ha:0<=a/\a<=7000000000) (hk:1<=k/\k<=1000000) (hbs:bs.length<=2000) :
 ∃ os res,(∃ (acts:List (List Line)) (a':Int),(a<=a'/\a'<=a+400)/\acts.length<=10/\res=.one (sAs acts)/\os=aRd bs a')/\Sem P 217 [(.io 0 0,.agg (aRd bs a)),(.pure,I k)] [.agg os] res:=by
 have key:∃ res outs,(∃ (acts:List (List Line)) (a':Int),(a<=a'/\a'<=a+400)/\acts.length<=10/\res=.one (sAs acts)/\outs=[.agg (aRd bs a')])/\Sem P 217 [(.io 0 0,.agg (aRd bs a)),(.pure,I k)] outs res:=by
  refine x5 (E:={ E0 with keep:=[2001] }) xn xo (fn:=Go.Proofs.Tryz.f217) (by kernel_rfl) (by kernel_rfl) ?_;conv=>whnf
  repeat' first|((first|refine zz ?_|(refine xa ?_ ?_<;>intro _))<;>conv=>whnf)|(refine callIo (xie bs _ (by omega) hbs) ?_; rintro _ _ ⟨l,b',hb',hl,rfl,rfl⟩; obtain ⟨⟨l1,l4⟩,hl⟩:=xa7.1 hl; have lo:(l.map eA).length=l.length:=xxs ..;conv=>whnf)|(refine callIo (xh bs _ _ (by omega) (by omega) hbs) ?_; rintro _ _ ⟨n,hn,rfl,rfl⟩;conv=>whnf)|(refine ioN (by first|omega|(dsimp only; omega)|(simp<;>omega)|(simp_all<;>omega)) (by first|omega|(dsimp only; omega)|(simp<;>omega)|(simp_all<;>omega)) ?_;conv=>whnf)|(refine rwI rfl (by first|omega|(dsimp only; omega)|(simp<;>omega)|(simp_all<;>omega)) (by first|omega|(dsimp only; omega)|(simp<;>omega)|(simp_all<;>omega)) fun c hc=>?_;conv=>whnf)|(refine rwN (enc:=rI) 0 (by first|omega|(dsimp only; omega)|(simp<;>omega)|(simp_all<;>omega)) ?_;conv=>whnf)|(refine wq ?_;conv=>whnf)|(refine apN (by simp; omega) ?_;conv=>whnf)|(refine callIo (xmp bs _ _ (by omega) (by omega) hbs) ?_; rintro _ _ ⟨f,b'',hb'',hf,rfl,rfl⟩;conv=>whnf)|(refine ioN (by decide) (by first|omega|(dsimp only; omega)|(simp<;>omega)|(simp_all<;>omega)) ?_;conv=>whnf)|(refine rwN (enc:=eA) default (by first|omega|(dsimp only; omega)|(simp<;>omega)|(simp_all<;>omega)) ?_;conv=>whnf)
  all_goals first
   | exact ⟨_,_,⟨by omega,by omega⟩,by first|omega|simp|(simp; omega),rfl,rfl⟩
   | exact ⟨[],_,⟨by omega,by omega⟩,by simp,rfl,rfl⟩
   | exact ⟨_,_,⟨by omega,by omega⟩,by simp; omega,congrArg (fun x=>TV.one (.sl 48 x)) (xv3 l _ _),rfl⟩
   | skip
  refine Vc.loop1 (fun (out:List (List Line))=>l.length<=out.length/\out.length<=5) (fun out=>updL [4,33] [(5,.one (.ref 128064))] [(128064,.arr 48 (out.map eA) false)]) (fun out=>7 - out.length) l ⟨by omega,by omega⟩ ?_ (fun out hi=>?_)
  · exact wk
  · have lo':(out.map eA).length=out.length:=xxs ..;obtain ⟨h1,h2⟩:=hi;conv=>whnf
    (refine zA ?_)
    refine xd (fun g=>?_) (fun g=>?_)
    all_goals conv=>whnf
    · repeat' first|((first|refine zz ?_|(refine xa ?_ ?_<;>intro _))<;>conv=>whnf)|(refine ioN (by decide) (by first|omega|(dsimp only; omega)|(simp<;>omega)|(simp_all<;>omega)) ?_;conv=>whnf)|(refine rwN (enc:=eA) default (by first|omega|(dsimp only; omega)|(simp<;>omega)|(simp_all<;>omega)) ?_;conv=>whnf)|(refine apN (by simp; omega) ?_;conv=>whnf)
      refine ⟨out++[out.getD 0 default],⟨by simp; omega,by simp; omega⟩,by simp; omega,?_⟩
      repeat' (first|exact True.intro|((conv=>whnf);first|exact True.intro|refine ⟨by rfl,?_⟩|refine ⟨by first|omega|(show (_:Int)=_;first|omega|(dsimp only;omega))|exact xko _ _,?_⟩|refine ⟨?_,?_⟩))
    · repeat' first|((first|refine zz ?_|(refine xa ?_ ?_<;>intro _))<;>conv=>whnf)
      exact ⟨out,_,⟨by omega,by omega⟩,by omega,rfl,rfl⟩
 obtain ⟨r,o,⟨f,a',h1,h2,h3,rfl⟩,h4⟩:=key;exact ⟨_,r,⟨f,a',h1,h2,h3,rfl⟩,h4⟩
abbrev dPl (p:Plan):List AV:=[eI p.Clients,fAs p.Acts,sI p.Gives,sI p.Start]
theorem xif (bs:List UInt8) (a:Int) (ha:0<=a/\a<=7000000000) (hbs:bs.length<=2000) :
 ∃ os res,(∃ (p:Plan) (a':Int),(a<=a'/\a'<=a+300)/\planOk p=true/\res=.agg (dPl p)/\os=aRd bs a')/\Sem P 95 [(.io 0 0,.agg (aRd bs a))] [.agg os] res:=by
 have key:∃ res outs,(∃ (p:Plan) (a':Int),(a<=a'/\a'<=a+300)/\planOk p=true/\res=.agg (dPl p)/\outs=[.agg (aRd bs a')])/\Sem P 95 [(.io 0 0,.agg (aRd bs a))] outs res:=by
  refine x5 (E:=E0) xn xo (fn:=Go.Proofs.Tryz.f95) (by kernel_rfl) (by kernel_rfl) ?_;conv=>whnf
  repeat' first|((first|refine zz ?_|(refine xa ?_ ?_<;>intro _))<;>conv=>whnf)|(refine callIo (xie bs _ (by omega) hbs) ?_; rintro _ _ ⟨l,b',hb',hl,rfl,rfl⟩;conv=>whnf)|(refine callIo (xh bs _ _ (by omega) (by omega) hbs) ?_; rintro _ _ ⟨n,hn,rfl,rfl⟩;conv=>whnf)|(refine ioN (by first|omega|(dsimp only; omega)|(simp<;>omega)|(simp_all<;>omega)) (by first|omega|(dsimp only; omega)|(simp<;>omega)|(simp_all<;>omega)) ?_;conv=>whnf)|(refine rwI rfl (by first|omega|(dsimp only; omega)|(simp<;>omega)|(simp_all<;>omega)) (by first|omega|(dsimp only; omega)|(simp<;>omega)|(simp_all<;>omega)) fun c hc=>?_;conv=>whnf)|(refine rwN (enc:=rI) 0 (by first|omega|(dsimp only; omega)|(simp<;>omega)|(simp_all<;>omega)) ?_;conv=>whnf)|(refine wq ?_;conv=>whnf)|(refine apN (by simp; omega) ?_;conv=>whnf)
  rename_i m hm;refine Vc.loop3 (fun (i:Int) (g:List Int) (b:Int)=>0<=i/\(g.length:Int)=1+n - i/\(∀ x∈g,0<=x/\x<=50)/\a<=b/\b<=a+256 - i) (fun i g b=>updL [0,2,3,5,29,30,31,32,33,34,35,36,37,38,39,40,41,42,43] [(4,I i)] [(128384,.box [eI (1+m),fAs l,.ref 128451,.ref 128452]),(128451,.arr 3 (ints g) false),(63,.box (aRd bs b))]) (fun i _ _=>i.toNat) (1+n) [] (b'+1) ⟨by omega,by simp,by simp,by omega,by omega⟩ ?_ (fun i g b hi=>?_)
  · exact wk
  · obtain ⟨i0,hg,hgb,b1,b2⟩:=hi;have lg:=xb g;conv=>whnf
    (refine zA ?_)
    refine xd (fun gd=>?_) (fun gd=>?_)
    all_goals conv=>whnf
    · repeat' first|((first|refine zz ?_|(refine xa ?_ ?_<;>intro _))<;>conv=>whnf)|(refine callIo (xh bs _ _ (by omega) (by omega) hbs) ?_; rintro _ _ ⟨n,hn,rfl,rfl⟩;conv=>whnf)|(refine ioN (by first|omega|(dsimp only; omega)|(simp<;>omega)|(simp_all<;>omega)) (by first|omega|(dsimp only; omega)|(simp<;>omega)|(simp_all<;>omega)) ?_;conv=>whnf)|(refine rwI rfl (by first|omega|(dsimp only; omega)|(simp<;>omega)|(simp_all<;>omega)) (by first|omega|(dsimp only; omega)|(simp<;>omega)|(simp_all<;>omega)) fun c hc=>?_;conv=>whnf)|(refine rwN (enc:=rI) 0 (by first|omega|(dsimp only; omega)|(simp<;>omega)|(simp_all<;>omega)) ?_;conv=>whnf)|(refine wq ?_;conv=>whnf)|(refine apN (by simp; omega) ?_;conv=>whnf)
      have hc2:0<=c/\c<=50:=by simp [unI] at hc; omega
      refine ⟨i - 1,g++[c],b+1,⟨by omega,by simp; omega,fun x hx=>?_,by omega,by omega⟩,by simp only; omega,?_⟩
      · rcases xx2.1 hx with h|h
        · exact hgb x h
        · rw [xx1.1 h]; exact hc2
      · repeat' (first|exact True.intro|((conv=>whnf);first|exact True.intro|refine ⟨by rfl,?_⟩|refine ⟨by first|omega|(show (_:Int)=_;first|omega|(dsimp only;omega))|exact qa _ _,?_⟩|refine ⟨?_,?_⟩))
    ·
     (refine zA ?_)
     refine Vc.loop3 (fun (v:Nat) (st:List Int) (b3:Int)=>v<=3/\st.length=v/\(∀ x∈st,-1000<=x/\x<=1000)/\a<=b3/\b3<=a+260+v) (fun v st b3=>updL [0,2,3,43] [(5,I v)] [(128384,.box [eI (1+m),fAs l,.ref 128451,.ref 128452]),(128452,.arr 3 (ints st) false),(63,.box (aRd bs b3))]) (fun v _ _=>3 - v) 0 [] b ⟨by omega,rfl,by simp,by omega,by omega⟩ ?_ (fun v st b3 hi=>?_)
     · exact wk
     · obtain ⟨v3,hs,hsb,c1,c2⟩:=hi;have ls:=xb st;conv=>whnf
       (refine zA ?_)
       refine xd (fun gd2=>?_) (fun gd2=>?_)
       all_goals conv=>whnf
       · repeat' first|((first|refine zz ?_|(refine xa ?_ ?_<;>intro _))<;>conv=>whnf)|(refine callIo (xh bs _ _ (by omega) (by omega) hbs) ?_; rintro _ _ ⟨n,hn,rfl,rfl⟩;conv=>whnf)|(refine ioN (by first|omega|(dsimp only; omega)|(simp<;>omega)|(simp_all<;>omega)) (by first|omega|(dsimp only; omega)|(simp<;>omega)|(simp_all<;>omega)) ?_;conv=>whnf)|(refine rwI rfl (by first|omega|(dsimp only; omega)|(simp<;>omega)|(simp_all<;>omega)) (by first|omega|(dsimp only; omega)|(simp<;>omega)|(simp_all<;>omega)) fun c hc=>?_;conv=>whnf)|(refine rwN (enc:=rI) 0 (by first|omega|(dsimp only; omega)|(simp<;>omega)|(simp_all<;>omega)) ?_;conv=>whnf)|(refine wq ?_;conv=>whnf)|(refine apN (by simp; omega) ?_;conv=>whnf)
         have hc2 : -1000<=c/\c<=1000:=by simp [unI] at hc; omega
         refine ⟨v+1,st++[c],b3+1,⟨by omega,by simp; omega,fun x hx=>?_,by omega,by omega⟩,by simp only; omega,?_⟩
         · rcases xx2.1 hx with h|h
           · exact hsb x h
           · rw [xx1.1 h]; exact hc2
         · repeat' (first|exact True.intro|((conv=>whnf);first|exact True.intro|refine ⟨by rfl,?_⟩|refine ⟨by first|omega|(show (_:Int)=_;first|omega|(dsimp only;omega))|exact qa _ _,?_⟩|refine ⟨?_,?_⟩))
       ·
        (refine zA ?_)
        refine ⟨⟨1+m,l,g,st⟩,b3,⟨by omega,by omega⟩,?_,rfl,rfl⟩;simp only [planOk,xxt,Plan.treaty,trtOk,givesOk,valOk,xxv];refine ⟨⟨⟨xc.2 (by omega),hl⟩,xe.2 ⟨by omega,hsb⟩⟩,xe.2 ⟨by omega,fun x hx=>?_⟩,xc.2 (by omega),fun x hx=>xc.2 (hgb x hx)⟩;have:=hsb x hx; omega
 obtain ⟨r,o,⟨f,a',h1,h2,h3,rfl⟩,h4⟩:=key;exact ⟨_,r,⟨f,a',h1,h2,h3,rfl⟩,h4⟩
theorem xam {p:Plan} (h:planOk p=true):(1<=p.Clients/\p.Clients<=4)/\(1<=p.Acts.length/\p.Acts.length<=4)/\(1<=p.Gives.length/\p.Gives.length<=3)/\p.Start.length=3:=by
 simp only [planOk,xxt,Plan.treaty,trtOk,givesOk] at h;obtain ⟨⟨⟨h1,h2⟩,h3⟩,h4,h5,h6⟩:=h;have h1:=xc.1 h1;have h2:=(xa7.1 h2).1;have h5:=xc.1 h5;have h3:=(xe.1 h3).1;exact ⟨h1,h2,by omega,h3⟩
def planS (p:Plan):Prop:=(-10<=p.Clients/\p.Clients<=10)/\p.Acts.length<=10/\p.Gives.length<=10/\p.Start.length<=3
theorem drPlan {a m:Int} {bs:List UInt8} {res:TV} {os:List TV} {c:Int} {l:List (List Line)} {g s:List Int} {a':Int} (e:res=.agg [eI c,fAs l,sI g,sI s]) (e2:os=[.agg (aRd bs a')]) (hb:a<=a'/\a'<=a+m) (h:planS ⟨c,l,g,s⟩) :
 ∃ (p:Plan) (a':Int),(a<=a'/\a'<=a+m)/\planS p/\res=.agg (dPl p)/\os=[.agg (aRd bs a')]:=⟨⟨c,l,g,s⟩,a',hb,h,e,e2⟩
theorem xr8 (l:List Int) (x y z:Int):ints l++[rI x,rI y,rI z]=ints (l++[x,y,z]):=by simp
theorem xd1 (bs:List UInt8) (a k:Int) (ha:0<=a/\a<=6000000000) (hk:1<=k/\k<=1000000) (hbs:bs.length<=2000) :
 ∃ os res,(∃ (p:Plan) (a':Int),(a<=a'/\a'<=a+800)/\planS p/\res=.agg (dPl p)/\os=aRd bs a')/\Sem P 121 [(.io 0 0,.agg (aRd bs a)),(.pure,I k)] [.agg os] res:=by
 have key:∃ res outs,(∃ (p:Plan) (a':Int),(a<=a'/\a'<=a+800)/\planS p/\res=.agg (dPl p)/\outs=[.agg (aRd bs a')])/\Sem P 121 [(.io 0 0,.agg (aRd bs a)),(.pure,I k)] outs res:=by
  refine x5 (E:={ E0 with keep:=[2001],cut:=[6002] }) xn xo (fn:=Go.Proofs.Tryz.f121) (by kernel_rfl) (by kernel_rfl) ?_;conv=>whnf
  repeat' first|((first|refine zz ?_|(refine xa ?_ ?_<;>intro _))<;>conv=>whnf)|(refine callIo (xif bs _ (by omega) hbs) ?_; rintro _ _ ⟨p,b',hb',hp,rfl,rfl⟩; obtain ⟨p1,p2,p3,p4⟩:=xam hp;conv=>whnf)|(refine callIo (xh bs _ _ (by omega) (by omega) hbs) ?_; rintro _ _ ⟨n,hn,rfl,rfl⟩;conv=>whnf)|(refine ioN (by first|omega|(dsimp only; omega)|(simp<;>omega)|(simp_all<;>omega)) (by first|omega|(dsimp only; omega)|(simp<;>omega)|(simp_all<;>omega)) ?_;conv=>whnf)|(refine rwI rfl (by first|omega|(dsimp only; omega)|(simp<;>omega)|(simp_all<;>omega)) (by first|omega|(dsimp only; omega)|(simp<;>omega)|(simp_all<;>omega)) fun c hc=>?_;conv=>whnf)|(refine rwN (enc:=rI) 0 (by first|omega|(dsimp only; omega)|(simp<;>omega)|(simp_all<;>omega)) ?_;conv=>whnf)|(refine wq ?_;conv=>whnf)|(refine apN (by simp; omega) ?_;conv=>whnf)|(refine callIo (xkp bs _ _ (by omega) (by omega) hbs) ?_; rintro _ _ ⟨l,b'',hb'',hl,rfl,rfl⟩;conv=>whnf)|(refine ioN (by decide) (by first|omega|(dsimp only; omega)|(simp<;>omega)|(simp_all<;>omega)) ?_;conv=>whnf)|(refine rwN (enc:=rI) 0 (by first|omega|(dsimp only; omega)|(simp<;>omega)|(simp_all<;>omega)) ?_;conv=>whnf)|(refine slN (by decide) (by decide) (by first|omega|(dsimp only; omega)|(simp<;>omega)|(simp_all<;>omega)) ?_;conv=>whnf)|((first|refine ctN ?_)<;>conv=>whnf)
  all_goals
   apply drPlan
   · (try simp only [yr,xr8,xic]); rfl
   · rfl
   · constructor<;>omega
   · (try simp only [unI,xxw,xyx,x0x] at hc); (simp [planS]; omega)
 obtain ⟨r,o,⟨f,a',h1,h2,h3,rfl⟩,h4⟩:=key;exact ⟨_,r,⟨f,a',h1,h2,h3,rfl⟩,h4⟩
def cllS (c:Call):Prop:=(-10<=c.Client/\c.Client<=10)/\(0<=c.Seq/\c.Seq<=400)/\(-10<=c.Act/\c.Act<=10)/\c.Args.length<=3
theorem drCall {a m:Int} {bs:List UInt8} {res:TV} {os:List TV} {x y z:Int} {g:List Int} {a':Int} (e:res=.agg [eI x,eI y,eI z,fI g]) (e2:os=[.agg (aRd bs a')]) (hb:a<=a'/\a'<=a+m) (h:cllS ⟨x,y,z,g⟩) :
 ∃ (c:Call) (a':Int),(a<=a'/\a'<=a+m)/\cllS c/\res=.agg (eC c)/\os=[.agg (aRd bs a')]:=⟨⟨x,y,z,g⟩,a',hb,h,e,e2⟩
theorem xuj {a b:Int} (hb:0<b) (ha:0<=a):a % b<=a:=by
 have h1:=Int.emod_add_mul_ediv a b;have h2:0<=b*(a / b):=Int.mul_nonneg (by omega) (x1s ha (by omega));omega
theorem r64g {a b:Int} {k:Int->Prop} (hb:0<b) (ha:0<=a) (h:∀ c,0<=c->c<b->c<=a->k c):b≠0/\∃ c,a.tmod b=c/\k c :=
 r64 hb ha (h _ (xz3 _ (by omega)) (xzt _ hb) (xuj hb ha))
theorem xd2 (bs:List UInt8) (a k:Int) (p:Plan) (hp:planS p) (ha:0<=a/\a<=6000000000) (hk:1<=k/\k<=1000000) (hbs:bs.length<=2000) :
 ∃ os res,(∃ (c:Call) (a':Int),(a<=a'/\a'<=a+30)/\cllS c/\res=.agg (eC c)/\os=aRd bs a')/\Sem P 119 [(.io 0 0,.agg (aRd bs a)),(.pure,.agg (aPl p)),(.pure,I k)] [.agg os] res:=by
 have key:∃ res outs,(∃ (c:Call) (a':Int),(a<=a'/\a'<=a+30)/\cllS c/\res=.agg (eC c)/\outs=[.agg (aRd bs a')])/\Sem P 119 [(.io 0 0,.agg (aRd bs a)),(.pure,.agg (aPl p)),(.pure,I k)] outs res:=by
  obtain ⟨p1,p2,p3,p4⟩:=hp;have la:(p.Acts.map eA).length=p.Acts.length:=xxs ..;refine x5 (E:=E0) xn xo (fn:=Go.Proofs.Tryz.f119) (by kernel_rfl) (by kernel_rfl) ?_;conv=>whnf
  repeat' first|((first|refine zz ?_|(refine xa ?_ ?_<;>intro _))<;>conv=>whnf)|(refine callIo (xh bs _ _ (by omega) (by omega) hbs) ?_; rintro _ _ ⟨n,hn,rfl,rfl⟩;conv=>whnf)|(refine ioN (by first|omega|(dsimp only; omega)|(simp<;>omega)|(simp_all<;>omega)) (by first|omega|(dsimp only; omega)|(simp<;>omega)|(simp_all<;>omega)) ?_;conv=>whnf)|(refine rwI rfl (by first|omega|(dsimp only; omega)|(simp<;>omega)|(simp_all<;>omega)) (by first|omega|(dsimp only; omega)|(simp<;>omega)|(simp_all<;>omega)) fun c hc=>?_;conv=>whnf)|(refine rwN (enc:=rI) 0 (by first|omega|(dsimp only; omega)|(simp<;>omega)|(simp_all<;>omega)) ?_;conv=>whnf)|(refine wq ?_;conv=>whnf)|(refine apN (by simp; omega) ?_;conv=>whnf)|(refine callIo (xa6 bs _ _ (by omega) (by omega) hbs) ?_; rintro _ _ ⟨l,b'',hb'',hl,rfl,rfl⟩;conv=>whnf)|(refine r64g (by first|omega|(dsimp only; omega)|(simp<;>omega)|(simp_all<;>omega)) (by first|omega|(dsimp only; omega)|(simp<;>omega)|(simp_all<;>omega)) fun c h1 h2 h3=>?_;conv=>whnf)
  all_goals
   apply drCall
   · rfl
   · rfl
   · constructor<;>omega
   · (try simp only [unI,xxw,xyx,x0x] at hc); (simp [cllS]; omega)
 obtain ⟨r,o,⟨f,a',h1,h2,h3,rfl⟩,h4⟩:=key;exact ⟨_,r,⟨f,a',h1,h2,h3,rfl⟩,h4⟩
theorem kk {c:Call} (h:c.none=true):c.Args.length<=2:=by
 unfold Call.none at h;simp only [xxt,xzu] at h;rw [h.2]; simp
theorem kd {p:Plan} {c:Call} (h:callB p c=true):c.Args.length<=2:=by
 have:=(xe.1 (xy.1 h).2.2.2).1; omega
theorem xej {p:Plan} {l:List Int} (hcl:inB p.Clients 0 4=true) (h:seqsOk p l=true):l.length<=4:=by
 have hb:=xc.1 hcl;unfold seqsOk at h;simp only [xxt,xxy] at h;omega
theorem jn {p:Plan} {m:Msg} (hcl:inB p.Clients 0 4=true) (h:msgB p m=true):zM m<=1000:=by
 have key:m.Call.Args.length<=2/\m.Vals.length<=3/\m.Seqs.length<=4/\zDs m.Done<=100:=by
  unfold msgB at h;rw [xxt] at h;obtain ⟨_,h⟩:=h
  split at h
  · simp only [xxt,xzu] at h;exact ⟨kd h.1.1.1.2,by rw [h.1.1.2]; simp,by rw [h.1.2]; simp,by rw [h.2]; simp [zDs,zs]⟩
  · split at h
    · simp only [xxt,xzu] at h;exact ⟨kk h.1.1.1.2,by rw [h.1.1.2]; simp,by rw [h.1.2]; simp,by rw [h.2]; simp [zDs,zs]⟩
    · split at h
      · simp only [xxt,xzu] at h;exact ⟨kk h.1.2,by have:=(xq h.1.1.1.2).1; omega,xej hcl h.1.1.2,by rw [h.2]; simp [zDs,zs]⟩
      · split at h
        · simp only [xxt,xzu] at h;exact ⟨kk h.1.2,by have:=(xe.1 h.1.1.1.2).1; omega,by rw [h.2]; simp,(yy hcl h.1.1.2).2⟩
        · cases h
 unfold zM zC; omega
theorem xll {p:Plan} {x:Client} {n:Int} (h:clientB p n x=true):zX x<=10:=by
 unfold clientB at h;rw [xxt] at h;have h1:=w5 h.1;have h2:x.Call.Args.length<=2:=by
  have h:=h.2
  split at h
  · simp only [xxt] at h; exact kd h.1.1
  · exact kk h
 unfold zX zC zR;simp only at h1;omega
theorem xm7 {l:Line} (h:l.ok=true):zL l<=5:=by
 have hs:l.Form.small=true->zL l<=5:=fun h=>by
  unfold Form.small at h;simp only [xxt] at h;have:=(xe.1 h.1.1).1;have:=(xe.1 h.1.2).1;unfold zL zF; omega
 unfold Line.ok at h
 split at h
 · simp only [xxt] at h; exact hs h.2
 · split at h
   · simp only [xxt] at h; exact hs h.2
   · split at h
     · simp only [xxt] at h; exact hs h.2
     · split at h
       · simp only [xxt,xxy] at h;unfold zL zF; rw [h.2]; simp [Form.nil]
       · cases h
theorem xp8 {p:Plan} (h:planOk p=true):zPl p<=200:=by
 have hl:=xam h;have hc:=xa7.1 (xav h);have h1:zs zLs p.Acts<=p.Acts.length*36:=kw fun a ha=>by
  have hk:=y6.1 (hc.2 a ha);have:zs zL a<=a.length*5:=kw fun l hl=>xm7 (hk.1 l hl);have h6:=hk.2.1;have:a.length*5<=6*5:=xyk _ h6;unfold zLs; omega
 have h2:p.Acts.length*36<=4*36:=xyk _ (by omega);unfold zPl zAs; omega
theorem xg4 {α:Type} [Inhabited α] {l:List α} {x:α} (h:x∈l):∃ i,i<l.length/\l.getD i default=x:=by
 obtain ⟨i,hi,rfl⟩:=xyt.1 h;exact ⟨i,hi,by rw [xxx,xxr hi]; rfl⟩
theorem xm8 {w:World} (h:WorldF w):zWd w<=100000:=by
 have hcl:=xt h.p.ok;have hb:=xc.1 hcl;have hg:=yp h.p.ok;have h1:=xp8 h.p.ok;have h2:zs zS w.Sites<=w.Sites.length*1000:=kw fun x hx=>by
  obtain ⟨i,hi,rfl⟩:=xg4 hx;exact xcz hcl (zi.1 h.s i hi)
 have h3:zs zX w.Clients<=w.Clients.length*10:=kw fun x hx=>by
  obtain ⟨i,hi,rfl⟩:=xg4 hx;exact xll (zi.1 h.c i hi)
 have h4:zs zM w.Net<=w.Net.length*1000:=kw fun x hx=>jn hcl (h.n x hx);have h5:zs zO w.Log<=w.Log.length*8:=kw fun x hx=>by
  have:=h.l x hx;have a:=kd this.1;have b:=(yj.1 this.2).2.2.1;unfold zO zC zR; omega
 have h6:=qv h.k hcl hg;have e1:w.Sites.length*1000<=3*1000:=xyk _ (by rw [h.sl]; exact hg);have e2:w.Clients.length*10<=4*10:=xyk _ (by have:=h.cl; omega);have e3:w.Net.length*1000<=30*1000:=xyk _ h.nl;have e4:w.Log.length*8<=100*8:=xyk _ h.ll;have:=h.sl; have:=h.cl; have:=h.nl; have:=h.ll;unfold zWd zSs zXs zMs zOs;omega
theorem xp9 (e:Event):∀ (k:Nat) (a b:AV),(aE e)[k]?=some a->(eE e)[k]?=some b->Cold a b:=fun k a b ha hb=>by
 match k,ha,hb with
 | 0,ha,hb=>cases ha; cases hb; exact xl
 | 1,ha,hb=>cases ha; cases hb; exact xl
 | 2,ha,hb=>cases ha; cases hb; exact xl
 | 3,ha,hb=>cases ha; cases hb; exact xg
 | k+4,ha,hb=>simp at ha
theorem drEv0 {a m:Int} {bs:List UInt8} {os:List TV} {x y z:Int} {a':Int} (e2:os=[.agg (aRd bs a')]) (hb:a<=a'/\a'<=a+m) :
 ∃ (c:Event) (a':Int),(a<=a'/\a'<=a+m)/\c.Args.length<=3/\(TV.agg [eI x,eI y,eI z,.sl 3 []]=.agg (eE c)\/TV.agg [eI x,eI y,eI z,.sl 3 []]=.agg (aE c))/\os=[.agg (aRd bs a')]:=⟨⟨x,y,z,[]⟩,a',hb,xyb _,.inr rfl,e2⟩
theorem drEv1 {a m:Int} {bs:List UInt8} {os:List TV} {x y z:Int} {g:List Int} {a':Int} (h:g.length<=3) (e2:os=[.agg (aRd bs a')]) (hb:a<=a'/\a'<=a+m) :
 ∃ (c:Event) (a':Int),(a<=a'/\a'<=a+m)/\c.Args.length<=3/\(TV.agg [eI x,eI y,eI z,fI g]=.agg (eE c)\/TV.agg [eI x,eI y,eI z,fI g]=.agg (aE c))/\os=[.agg (aRd bs a')]:=⟨⟨x,y,z,g⟩,a',hb,h,.inl rfl,e2⟩
theorem drEventEnd {f:Nat} {ins:List (Go.AM.Mode × TV)} {a m:Int} {bs:List UInt8} (key:∃ res outs,(∃ (c:Event) (a':Int),(a<=a'/\a'<=a+m)/\c.Args.length<=3/\(res=.agg (eE c)\/res=.agg (aE c))/\outs=[.agg (aRd bs a')])/\Sem P f ins outs res) :
 ∃ os res,(∃ (c:Event) (a':Int),(a<=a'/\a'<=a+m)/\c.Args.length<=3/\res=.agg (eE c)/\os=aRd bs a')/\Sem P f ins [.agg os] res:=by
 obtain ⟨r,o,⟨c,a',h1,h2,h3,rfl⟩,h4⟩:=key;rcases h3 with rfl|rfl
 · exact ⟨_,_,⟨c,a',h1,h2,rfl,rfl⟩,h4⟩
 · exact ⟨_,_,⟨c,a',h1,h2,rfl,rfl⟩,Sem.cold (cs:=aE c) rfl (xp9 c) h4⟩
theorem kl {w:World} (hw:WorldF w):(1<=w.Sites.length/\w.Sites.length<=3)/\(1<=w.Clients.length/\w.Clients.length<=4)/\(1<=w.Plan.Acts.length/\w.Plan.Acts.length<=4)/\w.Net.length<=30/\w.Clerk.Wants.length<=4:=by
 have hp:=hw.p.ok;have hl:=xam hp;have h1:=hw.sl;have h2:=hw.cl;have h3:=kc hw.k (xt hp);have h4:=hw.nl;exact ⟨by omega,by omega,by omega,h4,h3⟩
abbrev sBy (bs:List UInt8):AV:=.sl 5 (bytesRows bs)
theorem xqp (bs:List UInt8) (n:Nat):(bytesRows bs).take n=bytesRows (bs.take n):=x0k.symm
theorem xth (bs:List UInt8):∃ res,(∃ cs:List UInt8,cs.length<=2000/\res=.one (.fp [] (aRd cs 0) 0))/\Sem P 50 [(.pure,.one (sBy bs))] [] res:=by
 have lb:(bytesRows bs).length=bs.length:=xxs ..;by_cases h:bs.length<=2000
 · refine ⟨_,⟨bs,h,rfl⟩,?_⟩;refine fO Go.Proofs.Tryz.f50 fun hb=>?_;conv=>whnf
   repeat' first|((first|refine zz ?_|(refine xa ?_ ?_<;>intro _))<;>conv=>whnf)|(refine slN (by decide) (by decide) (by first|omega|(dsimp only; omega)|(simp<;>omega)|(simp_all<;>omega)) ?_;conv=>whnf)
   all_goals first|exact ⟨rfl,rfl⟩|(exfalso; simp_all; omega)
 · refine ⟨_,⟨bs.take 2000,by simp; omega,rfl⟩,?_⟩;refine fO Go.Proofs.Tryz.f50 fun hb=>?_;conv=>whnf
   repeat' first|((first|refine zz ?_|(refine xa ?_ ?_<;>intro _))<;>conv=>whnf)|(refine slN (by decide) (by decide) (by first|omega|(dsimp only; omega)|(simp<;>omega)|(simp_all<;>omega)) ?_;conv=>whnf)
   all_goals first|exact ⟨congrArg (fun x=>TV.one (.fp [] [.fr [] 5 x,eI 0] 0)) (xqp _ _),rfl⟩|(exfalso; simp_all; omega)
end Cc
end
