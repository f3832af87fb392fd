/- The laws FnMsgOk, FnSitFree: part 11 of 41. No conditions beyond the statement. -/
import Derived.Test.YtnigojkdmmeglaaGreatDoorAll9
import Derived.Test.YtnigojkdmmeglaaGreatDoorAll10
set_option linter.unusedVariables false
set_option linter.unusedSimpArgs false
set_option maxRecDepth 100000
set_option maxHeartbeats 16000000
section
namespace Cc
open Go Go.AM
theorem xxm (l:List (List Line)) (i:Nat) (x:List Line):(l.map eA).set i [fLs x]=(l.set i x).map eA:=x1y.symm
theorem xlv (bs:List UInt8) (a k:Int) (ha:0<=a/\a<=7000000000) (hk:1<=k/\k<=1000000) (hbs:bs.length<=2000) :
 ∃ os res,(∃ (acts:List (List Line)) (a':Int),(a<=a'/\a'<=a+400)/\acts.length<=10/\res=.one (sAs acts)/\os=aRd bs a')/\Sem P 217 [(.io 0 0,.agg (aRd bs a)),(.pure,I k)] [.agg os] res:=by
 have key:∃ res outs,(∃ (acts:List (List Line)) (a':Int),(a<=a'/\a'<=a+400)/\acts.length<=10/\res=.one (sAs acts)/\outs=[.agg (aRd bs a')])/\Sem P 217 [(.io 0 0,.agg (aRd bs a)),(.pure,I k)] outs res:=by
  refine xw (E:={ E0 with keep:=[2001] }) xm xn (fn:=Go.Proofs.Tryz.f217) (by kernel_rfl) (by kernel_rfl) ?_;conv=>whnf
  repeat' first|((first|refine zz ?_|(refine xa ?_ ?_<;>intro _))<;>conv=>whnf)|(refine callIo (xjg bs _ (by omega) hbs) ?_; rintro _ _ ⟨l,b',hb',hl,rfl,rfl⟩; obtain ⟨⟨l1,l4⟩,hl⟩:=xbt.1 hl; have lo:(l.map eA).length=l.length:=xzi ..;conv=>whnf)|(refine callIo (xf bs _ _ (by omega) (by omega) hbs) ?_; rintro _ _ ⟨n,hn,rfl,rfl⟩;conv=>whnf)|(refine ioN (by first|omega|(dsimp only; omega)|(simp<;>omega)|(simp_all<;>omega)) (by first|omega|(dsimp only; omega)|(simp<;>omega)|(simp_all<;>omega)) ?_;conv=>whnf)|(refine rwI rfl (by first|omega|(dsimp only; omega)|(simp<;>omega)|(simp_all<;>omega)) (by first|omega|(dsimp only; omega)|(simp<;>omega)|(simp_all<;>omega)) fun c hc=>?_;conv=>whnf)|(refine rwN (enc:=rI) 0 (by first|omega|(dsimp only; omega)|(simp<;>omega)|(simp_all<;>omega)) ?_;conv=>whnf)|(refine wq ?_;conv=>whnf)|(refine apN (by simp; omega) ?_;conv=>whnf)|(refine callIo (xn0 bs _ _ (by omega) (by omega) hbs) ?_; rintro _ _ ⟨f,b'',hb'',hf,rfl,rfl⟩;conv=>whnf)|(refine ioN (by decide) (by first|omega|(dsimp only; omega)|(simp<;>omega)|(simp_all<;>omega)) ?_;conv=>whnf)|(refine rwN (enc:=eA) default (by first|omega|(dsimp only; omega)|(simp<;>omega)|(simp_all<;>omega)) ?_;conv=>whnf)
  all_goals first
   | exact ⟨_,_,⟨by omega,by omega⟩,by first|omega|simp|(simp; omega),rfl,rfl⟩
   | exact ⟨[],_,⟨by omega,by omega⟩,by simp,rfl,rfl⟩
   | exact ⟨_,_,⟨by omega,by omega⟩,by simp; omega,congrArg (fun x=>TV.one (.sl 48 x)) (xxm l _ _),rfl⟩
   | skip
  refine Vc.loop1 (fun (out:List (List Line))=>l.length<=out.length/\out.length<=5) (fun out=>updL [4,33] [(5,.one (.ref 128064))] [(128064,.arr 48 (out.map eA) false)]) (fun out=>7 - out.length) l ⟨by omega,by omega⟩ ?_ (fun out hi=>?_)
  · exact wk
  · have lo':(out.map eA).length=out.length:=xzi ..;obtain ⟨h1,h2⟩:=hi;conv=>whnf
    (refine zA ?_)
    refine xd (fun g=>?_) (fun g=>?_)
    all_goals conv=>whnf
    · repeat' first|((first|refine zz ?_|(refine xa ?_ ?_<;>intro _))<;>conv=>whnf)|(refine ioN (by decide) (by first|omega|(dsimp only; omega)|(simp<;>omega)|(simp_all<;>omega)) ?_;conv=>whnf)|(refine rwN (enc:=eA) default (by first|omega|(dsimp only; omega)|(simp<;>omega)|(simp_all<;>omega)) ?_;conv=>whnf)|(refine apN (by simp; omega) ?_;conv=>whnf)
      refine ⟨out++[out.getD 0 default],⟨by simp; omega,by simp; omega⟩,by simp; omega,?_⟩
      repeat' (first|exact True.intro|((conv=>whnf);first|exact True.intro|refine ⟨by rfl,?_⟩|refine ⟨by first|omega|(show (_:Int)=_;first|omega|(dsimp only;omega))|exact xlu _ _,?_⟩|refine ⟨?_,?_⟩))
    · repeat' first|((first|refine zz ?_|(refine xa ?_ ?_<;>intro _))<;>conv=>whnf)
      exact ⟨out,_,⟨by omega,by omega⟩,by omega,rfl,rfl⟩
 obtain ⟨r,o,⟨f,a',h1,h2,h3,rfl⟩,h4⟩:=key;exact ⟨_,r,⟨f,a',h1,h2,h3,rfl⟩,h4⟩
abbrev dPl (p:Plan):List AV:=[eI p.Clients,fAs p.Acts,sI p.Gives,sI p.Start]
theorem xjh (bs:List UInt8) (a:Int) (ha:0<=a/\a<=7000000000) (hbs:bs.length<=2000) :
 ∃ os res,(∃ (p:Plan) (a':Int),(a<=a'/\a'<=a+300)/\planOk p=true/\res=.agg (dPl p)/\os=aRd bs a')/\Sem P 95 [(.io 0 0,.agg (aRd bs a))] [.agg os] res:=by
 have key:∃ res outs,(∃ (p:Plan) (a':Int),(a<=a'/\a'<=a+300)/\planOk p=true/\res=.agg (dPl p)/\outs=[.agg (aRd bs a')])/\Sem P 95 [(.io 0 0,.agg (aRd bs a))] outs res:=by
  refine xw (E:=E0) xm xn (fn:=Go.Proofs.Tryz.f95) (by kernel_rfl) (by kernel_rfl) ?_;conv=>whnf
  repeat' first|((first|refine zz ?_|(refine xa ?_ ?_<;>intro _))<;>conv=>whnf)|(refine callIo (xjg bs _ (by omega) hbs) ?_; rintro _ _ ⟨l,b',hb',hl,rfl,rfl⟩;conv=>whnf)|(refine callIo (xf bs _ _ (by omega) (by omega) hbs) ?_; rintro _ _ ⟨n,hn,rfl,rfl⟩;conv=>whnf)|(refine ioN (by first|omega|(dsimp only; omega)|(simp<;>omega)|(simp_all<;>omega)) (by first|omega|(dsimp only; omega)|(simp<;>omega)|(simp_all<;>omega)) ?_;conv=>whnf)|(refine rwI rfl (by first|omega|(dsimp only; omega)|(simp<;>omega)|(simp_all<;>omega)) (by first|omega|(dsimp only; omega)|(simp<;>omega)|(simp_all<;>omega)) fun c hc=>?_;conv=>whnf)|(refine rwN (enc:=rI) 0 (by first|omega|(dsimp only; omega)|(simp<;>omega)|(simp_all<;>omega)) ?_;conv=>whnf)|(refine wq ?_;conv=>whnf)|(refine apN (by simp; omega) ?_;conv=>whnf)
  rename_i m hm;refine Vc.loop3 (fun (i:Int) (g:List Int) (b:Int)=>0<=i/\(g.length:Int)=1+n - i/\(∀ x∈g,0<=x/\x<=50)/\a<=b/\b<=a+256 - i) (fun i g b=>updL [0,2,3,5,29,30,31,32,33,34,35,36,37,38,39,40,41,42,43] [(4,I i)] [(128384,.box [eI (1+m),fAs l,.ref 128451,.ref 128452]),(128451,.arr 3 (ints g) false),(63,.box (aRd bs b))]) (fun i _ _=>i.toNat) (1+n) [] (b'+1) ⟨by omega,by simp,by simp,by omega,by omega⟩ ?_ (fun i g b hi=>?_)
  · exact wk
  · obtain ⟨i0,hg,hgb,b1,b2⟩:=hi;have lg:=xb g;conv=>whnf
    (refine zA ?_)
    refine xd (fun gd=>?_) (fun gd=>?_)
    all_goals conv=>whnf
    · repeat' first|((first|refine zz ?_|(refine xa ?_ ?_<;>intro _))<;>conv=>whnf)|(refine callIo (xf bs _ _ (by omega) (by omega) hbs) ?_; rintro _ _ ⟨n,hn,rfl,rfl⟩;conv=>whnf)|(refine ioN (by first|omega|(dsimp only; omega)|(simp<;>omega)|(simp_all<;>omega)) (by first|omega|(dsimp only; omega)|(simp<;>omega)|(simp_all<;>omega)) ?_;conv=>whnf)|(refine rwI rfl (by first|omega|(dsimp only; omega)|(simp<;>omega)|(simp_all<;>omega)) (by first|omega|(dsimp only; omega)|(simp<;>omega)|(simp_all<;>omega)) fun c hc=>?_;conv=>whnf)|(refine rwN (enc:=rI) 0 (by first|omega|(dsimp only; omega)|(simp<;>omega)|(simp_all<;>omega)) ?_;conv=>whnf)|(refine wq ?_;conv=>whnf)|(refine apN (by simp; omega) ?_;conv=>whnf)
      have hc2:0<=c/\c<=50:=by simp [unI] at hc; omega
      refine ⟨i - 1,g++[c],b+1,⟨by omega,by simp; omega,fun x hx=>?_,by omega,by omega⟩,by simp only; omega,?_⟩
      · rcases xzs.1 hx with h|h
        · exact hgb x h
        · rw [xzq.1 h]; exact hc2
      · repeat' (first|exact True.intro|((conv=>whnf);first|exact True.intro|refine ⟨by rfl,?_⟩|refine ⟨by first|omega|(show (_:Int)=_;first|omega|(dsimp only;omega))|exact y0 _ _,?_⟩|refine ⟨?_,?_⟩))
    ·
     (refine zA ?_)
     refine Vc.loop3 (fun (v:Nat) (st:List Int) (b3:Int)=>v<=3/\st.length=v/\(∀ x∈st,-1000<=x/\x<=1000)/\a<=b3/\b3<=a+260+v) (fun v st b3=>updL [0,2,3,43] [(5,I v)] [(128384,.box [eI (1+m),fAs l,.ref 128451,.ref 128452]),(128452,.arr 3 (ints st) false),(63,.box (aRd bs b3))]) (fun v _ _=>3 - v) 0 [] b ⟨by omega,rfl,by simp,by omega,by omega⟩ ?_ (fun v st b3 hi=>?_)
     · exact wk
     · obtain ⟨v3,hs,hsb,c1,c2⟩:=hi;have ls:=xb st;conv=>whnf
       (refine zA ?_)
       refine xd (fun gd2=>?_) (fun gd2=>?_)
       all_goals conv=>whnf
       · repeat' first|((first|refine zz ?_|(refine xa ?_ ?_<;>intro _))<;>conv=>whnf)|(refine callIo (xf bs _ _ (by omega) (by omega) hbs) ?_; rintro _ _ ⟨n,hn,rfl,rfl⟩;conv=>whnf)|(refine ioN (by first|omega|(dsimp only; omega)|(simp<;>omega)|(simp_all<;>omega)) (by first|omega|(dsimp only; omega)|(simp<;>omega)|(simp_all<;>omega)) ?_;conv=>whnf)|(refine rwI rfl (by first|omega|(dsimp only; omega)|(simp<;>omega)|(simp_all<;>omega)) (by first|omega|(dsimp only; omega)|(simp<;>omega)|(simp_all<;>omega)) fun c hc=>?_;conv=>whnf)|(refine rwN (enc:=rI) 0 (by first|omega|(dsimp only; omega)|(simp<;>omega)|(simp_all<;>omega)) ?_;conv=>whnf)|(refine wq ?_;conv=>whnf)|(refine apN (by simp; omega) ?_;conv=>whnf)
         have hc2 : -1000<=c/\c<=1000:=by simp [unI] at hc; omega
         refine ⟨v+1,st++[c],b3+1,⟨by omega,by simp; omega,fun x hx=>?_,by omega,by omega⟩,by simp only; omega,?_⟩
         · rcases xzs.1 hx with h|h
           · exact hsb x h
           · rw [xzq.1 h]; exact hc2
         · repeat' (first|exact True.intro|((conv=>whnf);first|exact True.intro|refine ⟨by rfl,?_⟩|refine ⟨by first|omega|(show (_:Int)=_;first|omega|(dsimp only;omega))|exact y0 _ _,?_⟩|refine ⟨?_,?_⟩))
       ·
        (refine zA ?_)
        refine ⟨⟨1+m,l,g,st⟩,b3,⟨by omega,by omega⟩,?_,rfl,rfl⟩;simp only [planOk,xzj,Plan.treaty,trtOk,givesOk,valOk,xzl];refine ⟨⟨⟨xc.2 (by omega),hl⟩,xe.2 ⟨by omega,hsb⟩⟩,xe.2 ⟨by omega,fun x hx=>?_⟩,xc.2 (by omega),fun x hx=>xc.2 (hgb x hx)⟩;have:=hsb x hx; omega
 obtain ⟨r,o,⟨f,a',h1,h2,h3,rfl⟩,h4⟩:=key;exact ⟨_,r,⟨f,a',h1,h2,h3,rfl⟩,h4⟩
theorem xa6 {p:Plan} (h:planOk p=true):(1<=p.Clients/\p.Clients<=4)/\(1<=p.Acts.length/\p.Acts.length<=4)/\(1<=p.Gives.length/\p.Gives.length<=3)/\p.Start.length=3:=by
 simp only [planOk,xzj,Plan.treaty,trtOk,givesOk] at h;obtain ⟨⟨⟨h1,h2⟩,h3⟩,h4,h5,h6⟩:=h;have h1:=xc.1 h1;have h2:=(xbt.1 h2).1;have h5:=xc.1 h5;have h3:=(xe.1 h3).1;exact ⟨h1,h2,by omega,h3⟩
def planS (p:Plan):Prop:=(-10<=p.Clients/\p.Clients<=10)/\p.Acts.length<=10/\p.Gives.length<=10/\p.Start.length<=3
theorem drPlan {a m:Int} {bs:List UInt8} {res:TV} {os:List TV} {c:Int} {l:List (List Line)} {g s:List Int} {a':Int} (e:res=.agg [eI c,fAs l,sI g,sI s]) (e2:os=[.agg (aRd bs a')]) (hb:a<=a'/\a'<=a+m) (h:planS ⟨c,l,g,s⟩) :
 ∃ (p:Plan) (a':Int),(a<=a'/\a'<=a+m)/\planS p/\res=.agg (dPl p)/\os=[.agg (aRd bs a')]:=⟨⟨c,l,g,s⟩,a',hb,h,e,e2⟩
theorem xtu (l:List Int) (x y z:Int):ints l++[rI x,rI y,rI z]=ints (l++[x,y,z]):=by simp
theorem xa7 (bs:List UInt8) (a k:Int) (ha:0<=a/\a<=6000000000) (hk:1<=k/\k<=1000000) (hbs:bs.length<=2000) :
 ∃ os res,(∃ (p:Plan) (a':Int),(a<=a'/\a'<=a+800)/\planS p/\res=.agg (dPl p)/\os=aRd bs a')/\Sem P 121 [(.io 0 0,.agg (aRd bs a)),(.pure,I k)] [.agg os] res:=by
 have key:∃ res outs,(∃ (p:Plan) (a':Int),(a<=a'/\a'<=a+800)/\planS p/\res=.agg (dPl p)/\outs=[.agg (aRd bs a')])/\Sem P 121 [(.io 0 0,.agg (aRd bs a)),(.pure,I k)] outs res:=by
  refine xw (E:={ E0 with keep:=[2001],cut:=[6002] }) xm xn (fn:=Go.Proofs.Tryz.f121) (by kernel_rfl) (by kernel_rfl) ?_;conv=>whnf
  repeat' first|((first|refine zz ?_|(refine xa ?_ ?_<;>intro _))<;>conv=>whnf)|(refine callIo (xjh bs _ (by omega) hbs) ?_; rintro _ _ ⟨p,b',hb',hp,rfl,rfl⟩; obtain ⟨p1,p2,p3,p4⟩:=xa6 hp;conv=>whnf)|(refine callIo (xf bs _ _ (by omega) (by omega) hbs) ?_; rintro _ _ ⟨n,hn,rfl,rfl⟩;conv=>whnf)|(refine ioN (by first|omega|(dsimp only; omega)|(simp<;>omega)|(simp_all<;>omega)) (by first|omega|(dsimp only; omega)|(simp<;>omega)|(simp_all<;>omega)) ?_;conv=>whnf)|(refine rwI rfl (by first|omega|(dsimp only; omega)|(simp<;>omega)|(simp_all<;>omega)) (by first|omega|(dsimp only; omega)|(simp<;>omega)|(simp_all<;>omega)) fun c hc=>?_;conv=>whnf)|(refine rwN (enc:=rI) 0 (by first|omega|(dsimp only; omega)|(simp<;>omega)|(simp_all<;>omega)) ?_;conv=>whnf)|(refine wq ?_;conv=>whnf)|(refine apN (by simp; omega) ?_;conv=>whnf)|(refine callIo (xlv bs _ _ (by omega) (by omega) hbs) ?_; rintro _ _ ⟨l,b'',hb'',hl,rfl,rfl⟩;conv=>whnf)|(refine ioN (by decide) (by first|omega|(dsimp only; omega)|(simp<;>omega)|(simp_all<;>omega)) ?_;conv=>whnf)|(refine rwN (enc:=rI) 0 (by first|omega|(dsimp only; omega)|(simp<;>omega)|(simp_all<;>omega)) ?_;conv=>whnf)|(refine slN (by decide) (by decide) (by first|omega|(dsimp only; omega)|(simp<;>omega)|(simp_all<;>omega)) ?_;conv=>whnf)|((first|refine ctN ?_)<;>conv=>whnf)
  all_goals
   apply drPlan
   · (try simp only [yz,xtu,xje]); rfl
   · rfl
   · constructor<;>omega
   · (try simp only [unI,xzn,x0o,x2f] at hc); (simp [planS]; omega)
 obtain ⟨r,o,⟨f,a',h1,h2,h3,rfl⟩,h4⟩:=key;exact ⟨_,r,⟨f,a',h1,h2,h3,rfl⟩,h4⟩
def cllS (c:Call):Prop:=(-10<=c.Client/\c.Client<=10)/\(0<=c.Seq/\c.Seq<=400)/\(-10<=c.Act/\c.Act<=10)/\c.Args.length<=3
theorem drCall {a m:Int} {bs:List UInt8} {res:TV} {os:List TV} {x y z:Int} {g:List Int} {a':Int} (e:res=.agg [eI x,eI y,eI z,fI g]) (e2:os=[.agg (aRd bs a')]) (hb:a<=a'/\a'<=a+m) (h:cllS ⟨x,y,z,g⟩) :
 ∃ (c:Call) (a':Int),(a<=a'/\a'<=a+m)/\cllS c/\res=.agg (eC c)/\os=[.agg (aRd bs a')]:=⟨⟨x,y,z,g⟩,a',hb,h,e,e2⟩
theorem xv3 {a b:Int} (hb:0<b) (ha:0<=a):a % b<=a:=by
 have h1:=Int.emod_add_mul_ediv a b;have h2:0<=b*(a / b):=Int.mul_nonneg (by omega) (x3g ha (by omega));omega
theorem r64g {a b:Int} {k:Int->Prop} (hb:0<b) (ha:0<=a) (h:∀ c,0<=c->c<b->c<=a->k c):b≠0/\∃ c,a.tmod b=c/\k c :=
 r64 hb ha (h _ (x12 _ (by omega)) (x1q _ hb) (xv3 hb ha))
theorem jx (bs:List UInt8) (a k:Int) (p:Plan) (hp:planS p) (ha:0<=a/\a<=6000000000) (hk:1<=k/\k<=1000000) (hbs:bs.length<=2000) :
 ∃ os res,(∃ (c:Call) (a':Int),(a<=a'/\a'<=a+30)/\cllS c/\res=.agg (eC c)/\os=aRd bs a')/\Sem P 119 [(.io 0 0,.agg (aRd bs a)),(.pure,.agg (aPl p)),(.pure,I k)] [.agg os] res:=by
 have key:∃ res outs,(∃ (c:Call) (a':Int),(a<=a'/\a'<=a+30)/\cllS c/\res=.agg (eC c)/\outs=[.agg (aRd bs a')])/\Sem P 119 [(.io 0 0,.agg (aRd bs a)),(.pure,.agg (aPl p)),(.pure,I k)] outs res:=by
  obtain ⟨p1,p2,p3,p4⟩:=hp;have la:(p.Acts.map eA).length=p.Acts.length:=xzi ..;refine xw (E:=E0) xm xn (fn:=Go.Proofs.Tryz.f119) (by kernel_rfl) (by kernel_rfl) ?_;conv=>whnf
  repeat' first|((first|refine zz ?_|(refine xa ?_ ?_<;>intro _))<;>conv=>whnf)|(refine callIo (xf bs _ _ (by omega) (by omega) hbs) ?_; rintro _ _ ⟨n,hn,rfl,rfl⟩;conv=>whnf)|(refine ioN (by first|omega|(dsimp only; omega)|(simp<;>omega)|(simp_all<;>omega)) (by first|omega|(dsimp only; omega)|(simp<;>omega)|(simp_all<;>omega)) ?_;conv=>whnf)|(refine rwI rfl (by first|omega|(dsimp only; omega)|(simp<;>omega)|(simp_all<;>omega)) (by first|omega|(dsimp only; omega)|(simp<;>omega)|(simp_all<;>omega)) fun c hc=>?_;conv=>whnf)|(refine rwN (enc:=rI) 0 (by first|omega|(dsimp only; omega)|(simp<;>omega)|(simp_all<;>omega)) ?_;conv=>whnf)|(refine wq ?_;conv=>whnf)|(refine apN (by simp; omega) ?_;conv=>whnf)|(refine callIo (xbs bs _ _ (by omega) (by omega) hbs) ?_; rintro _ _ ⟨l,b'',hb'',hl,rfl,rfl⟩;conv=>whnf)|(refine r64g (by first|omega|(dsimp only; omega)|(simp<;>omega)|(simp_all<;>omega)) (by first|omega|(dsimp only; omega)|(simp<;>omega)|(simp_all<;>omega)) fun c h1 h2 h3=>?_;conv=>whnf)
  all_goals
   apply drCall
   · rfl
   · rfl
   · constructor<;>omega
   · (try simp only [unI,xzn,x0o,x2f] at hc); (simp [cllS]; omega)
 obtain ⟨r,o,⟨f,a',h1,h2,h3,rfl⟩,h4⟩:=key;exact ⟨_,r,⟨f,a',h1,h2,h3,rfl⟩,h4⟩
theorem xxn (n:Int):Sem P 281 [(.pure,I n)] [] (B (!decide (n=0))):=by
 refine fO Go.Proofs.Tryz.f281 fun hb=>?_;conv=>whnf
 (refine zA ?_)
 exact rB rfl
theorem xlz  (l:List Int):Sem P 225 [(.pure,.one (sI l)),(.pure,.one (.fn 281 []))] [] (I (idxOf (fun (x:Int)=>!decide (x=0)) l)):=by
 refine fO Go.Proofs.Tryz.f225 fun hb=>?_;have la:(ints l).length=l.length:=xzi ..;have hb1:(ints l).length<=1125899906842624:=hb.1.1;conv=>whnf
 (refine zA ?_)
 refine Vc.loop { i:Nat // ∀ j,j<i->j<l.length->(fun (x:Int)=>!decide (x=0)) (l.getD j default)=false } (fun i=>updL [0,1,7] [(8,I i.1)] []) (fun i=>l.length - i.1) ⟨0,by simp⟩ ?_ (fun i=>?_)
 · exact wl
 · have hi:=i.2;conv=>whnf
   (refine zA ?_)
   refine xd (fun g=>?_) (fun g=>?_)
   all_goals conv=>whnf
   · repeat' first|((first|refine zz ?_|(refine xa ?_ ?_<;>intro _)|refine ixN (enc:=rI) default (by omega) ?_|refine ⟨_,xxn _,?_⟩|refine wq ?_)<;>conv=>whnf)
     · rename_i h;exact rI' (yw (p:=fun (x:Int)=>!decide (x=0)) default (by omega) h fun j hj=>hi j hj (by omega)).symm
     · rename_i h;refine ⟨⟨i.1+1,fun j hj hl=>?_⟩,?_,?_⟩
       · by_cases hji:j<i.1
         · exact hi j hji hl
         · obtain rfl:j=i.1:=by omega
           exact h
       · simp only; omega
       · exact wl
   ·
    (refine zA ?_)
    exact rI' (yf (p:=fun (x:Int)=>!decide (x=0)) default fun j hj=>hi j (by omega) hj).symm
theorem xty  (l:List Int):Sem P 149 [(.pure,.one (sI l)),(.pure,.one (.fn 281 []))] [] (B (l.any fun (x:Int)=>!decide (x=0))):=by
 refine fO Go.Proofs.Tryz.f149 fun hb=>?_;conv=>whnf
 repeat' first|((first|refine zz ?_|(refine xa ?_ ?_<;>intro _)|refine ⟨_,xlz  l,?_⟩)<;>conv=>whnf)
 exact rB (zd _ _)
theorem xhv (l:List Int):Sem P 239 [(.pure,AI l)] [] (B (zeros l)):=by
 refine fO Go.Proofs.Tryz.f239 fun hb=>?_;conv=>whnf
 repeat' first|((first|refine zz ?_|(refine xa ?_ ?_<;>intro _)|refine ⟨_,xty l,?_⟩)<;>conv=>whnf)
 exact rB (ju _ _)
theorem xyr (n:Int):Sem P 280 [(.pure,I n)] [] (B (!decide (n=0))):=by
 refine fO Go.Proofs.Tryz.f280 fun hb=>?_;conv=>whnf
 (refine zA ?_)
 exact rB rfl
theorem xn5  (l:List Int):Sem P 225 [(.pure,.one (sI l)),(.pure,.one (.fn 280 []))] [] (I (idxOf (fun (x:Int)=>!decide (x=0)) l)):=by
 refine fO Go.Proofs.Tryz.f225 fun hb=>?_;have la:(ints l).length=l.length:=xzi ..;have hb1:(ints l).length<=1125899906842624:=hb.1.1;conv=>whnf
 (refine zA ?_)
 refine Vc.loop { i:Nat // ∀ j,j<i->j<l.length->(fun (x:Int)=>!decide (x=0)) (l.getD j default)=false } (fun i=>updL [0,1,7] [(8,I i.1)] []) (fun i=>l.length - i.1) ⟨0,by simp⟩ ?_ (fun i=>?_)
 · exact wl
 · have hi:=i.2;conv=>whnf
   (refine zA ?_)
   refine xd (fun g=>?_) (fun g=>?_)
   all_goals conv=>whnf
   · repeat' first|((first|refine zz ?_|(refine xa ?_ ?_<;>intro _)|refine ixN (enc:=rI) default (by omega) ?_|refine ⟨_,xyr _,?_⟩|refine wq ?_)<;>conv=>whnf)
     · rename_i h;exact rI' (yw (p:=fun (x:Int)=>!decide (x=0)) default (by omega) h fun j hj=>hi j hj (by omega)).symm
     · rename_i h;refine ⟨⟨i.1+1,fun j hj hl=>?_⟩,?_,?_⟩
       · by_cases hji:j<i.1
         · exact hi j hji hl
         · obtain rfl:j=i.1:=by omega
           exact h
       · simp only; omega
       · exact wl
   ·
    (refine zA ?_)
    exact rI' (yf (p:=fun (x:Int)=>!decide (x=0)) default fun j hj=>hi j (by omega) hj).symm
theorem xzc (q p:List Int):Sem P 283 [(.pure,AI q),(.pure,.one (.fp [] [sI p] 0))] [] (B (decide (q=p))):=by
 refine fO Go.Proofs.Tryz.f283 fun hb=>?_;conv=>whnf
 repeat' first|((first|refine zz ?_|(refine xa ?_ ?_<;>intro _)|refine ⟨_,xpc q p,?_⟩)<;>conv=>whnf)
 exact ⟨rfl,rfl⟩
theorem xq8 (p:List Int) (l:List (List Int)):Sem P 282 [(.pure,.one (sPs l)),(.pure,.one (.fn 283 [.fp [] [sI p] 0]))] [] (I (idxOf (fun (x:(List Int))=>decide (x=p)) l)):=by
 refine fO Go.Proofs.Tryz.f282 fun hb=>?_;have la:(l.map eP).length=l.length:=xzi ..;have hb1:(l.map eP).length<=1125899906842624:=hb.1.1;conv=>whnf
 (refine zA ?_)
 refine Vc.loop { i:Nat // ∀ j,j<i->j<l.length->(fun (x:(List Int))=>decide (x=p)) (l.getD j default)=false } (fun i=>updL [0,1,7] [(8,I i.1)] []) (fun i=>l.length - i.1) ⟨0,by simp⟩ ?_ (fun i=>?_)
 · exact wl
 · have hi:=i.2;conv=>whnf
   (refine zA ?_)
   refine xd (fun g=>?_) (fun g=>?_)
   all_goals conv=>whnf
   · repeat' first|((first|refine zz ?_|(refine xa ?_ ?_<;>intro _)|refine ixN (enc:=eP) default (by omega) ?_|refine ⟨_,xzc _ p,?_⟩|refine wq ?_)<;>conv=>whnf)
     · rename_i h;exact rI' (yw (p:=fun (x:(List Int))=>decide (x=p)) default (by omega) h fun j hj=>hi j hj (by omega)).symm
     · rename_i h;refine ⟨⟨i.1+1,fun j hj hl=>?_⟩,?_,?_⟩
       · by_cases hji:j<i.1
         · exact hi j hji hl
         · obtain rfl:j=i.1:=by omega
           exact h
       · simp only; omega
       · exact wl
   ·
    (refine zA ?_)
    exact rI' (yf (p:=fun (x:(List Int))=>decide (x=p)) default fun j hj=>hi j (by omega) hj).symm
theorem xl0 (l:List (List Int)) (p:List Int):Sem P 240 [(.pure,.one (sPs l)),(.pure,AI p)] [] (I (idxOf (fun q=>decide (q=p)) l)):=by
 refine fO Go.Proofs.Tryz.f240 fun hb=>?_;conv=>whnf
 repeat' first|((first|refine zz ?_|(refine xa ?_ ?_<;>intro _)|refine ⟨_,xq8 p l,?_⟩)<;>conv=>whnf)
 exact ⟨rfl,rfl⟩
theorem xl1:∀ c:List Int,(idxOf (fun n=>!decide (n=0)) c<0->∀ x∈c,x=0)/\(0<=idxOf (fun n=>!decide (n=0)) c->idxOf (fun n=>!decide (n=0)) c<c.length /\
 (c.getD (idxOf (fun n=>!decide (n=0)) c).toNat 0<0->sign c = -1)/\(¬ c.getD (idxOf (fun n=>!decide (n=0)) c).toNat 0<0->sign c=1))
 | []=>by simp [idxOf]
 | a::r=>by
   obtain ⟨h1,h2⟩:=xl1 r;by_cases ha:a=0
   · subst ha;have lo:=xle (fun n:Int=>!decide (n=0)) r
     have e:idxOf (fun n=>!decide (n=0)) ((0:Int)::r)=if idxOf (fun n=>!decide (n=0)) r<0 then -1 else idxOf (fun n=>!decide (n=0)) r+1:=by simp [idxOf]
     have es:sign (0::r)=sign r:=by simp [sign]
     rw [e,es];by_cases hr:idxOf (fun n=>!decide (n=0)) r<0
     · rw [if_pos hr];refine ⟨fun _ x hx=>?_,fun h=>by omega⟩;rcases xzn.1 hx with rfl|hx
       · rfl
       · exact h1 hr x hx
     · rw [if_neg hr];obtain ⟨a1,a2,a3⟩:=h2 (by omega);refine ⟨fun h=>by omega,fun _=>⟨by simp only [xz6]; omega,?_⟩⟩;have et:(idxOf (fun n=>!decide (n=0)) r+1).toNat=(idxOf (fun n=>!decide (n=0)) r).toNat+1:=by omega
       rw [et,List.getD_cons_succ];exact ⟨a2,a3⟩
   · have e:idxOf (fun n=>!decide (n=0)) (a::r)=0:=by simp [idxOf,ha]
     rw [e];refine ⟨fun h=>by omega,fun _=>⟨by simp only [xz6]; omega,fun h=>?_,fun h=>?_⟩⟩
     · have h:a<0:=by simpa using h
       simp only [sign]; rw [if_neg (by omega),if_pos h]
     · have h:¬ a<0:=by simpa using h
       simp only [sign]; rw [if_pos (by omega)]
theorem xjj {c:List Int} (h:∀ x∈c,x=0):part c=c:=by
 unfold part
 calc c.map (fun x=>sign c*x)=c.map id:=x06 fun x hx=>by rw [h x hx]; simp
  _=c:=by simp
theorem xv7 {c:List Int} (h:sign c=1):part c=c:=by unfold part; rw [h]; simp
theorem xv8 {c:List Int} (h:sign c = -1):part c=c.map fun x => -x:=by unfold part; rw [h]; exact x06 fun x _=>by omega
theorem xjk (c D:List Int) (K:Int) (hl:c.length<=100) (hx:∀ x∈c,-1000000000000<=x/\x<=1000000000000):Sem P 238 [(.pure,.agg [sI c,sI D,eI K])] [] (AI (part c)):=by
 obtain ⟨i1,i2⟩:=xl1 c;have px:=xn5 c;generalize idxOf (fun (x:Int)=>!decide (x=0)) c=ix at i1 i2 px;have lc:=xb c;by_cases h0:0<=ix
 · obtain ⟨i3,i4,i5⟩:=i2 h0;refine fK [2002] Go.Proofs.Tryz.f238 fun hb=>?_;conv=>whnf
   repeat' first|((first|refine zz ?_|(refine xa ?_ ?_<;>intro _)|refine ⟨_,yj c (by omega),?_⟩|refine ⟨_,px,?_⟩|refine ioN (by omega) (by omega) ?_|refine rwN (enc:=rI) 0 (by omega) ?_)<;>conv=>whnf)
   · rename_i h2;have hs:=i4 (x1j h2);refine Vc.loop1 (fun (k:Nat)=>k<=c.length) (fun k=>updL [2,3,21,34] [(22,I k)] [(128128,.arr 3 (ints ((c.take k).map (fun x => -x)++c.drop k)) false)]) (fun k=>c.length - k) 0 (xz1 _) ?_ (fun k hk=>?_)
     · exact wk
     · have hlo:(ints ((c.take k).map (fun x => -x)++c.drop k)).length=c.length:=by rw [xb,xzu,xzi,xz3,List.length_drop]; omega
       conv=>whnf
       (refine zA ?_)
       refine xd (fun g=>?_) (fun g=>?_)
       all_goals conv=>whnf
       · have hkl:k<c.length:=by omega
         have b1:=hx (c.getD k 0) (xp hkl);have eg:((c.take k).map (fun x => -x)++c.drop k).getD k 0=c.getD k 0:=by
          rw [xzo,xz8 (by rw [xzi,xz3]; omega),xzi,xz3,x1k (by omega),x0p];simp [xzo]
         have es:((c.take k).map (fun x => -x)++c.drop k).set k (-(c.getD k 0))=(c.take (k+1)).map (fun x => -x)++c.drop (k+1):=by
          rw [List.set_append_right _ _ (by rw [xzi,xz3]; omega),xzi,xz3,x1k (by omega),Nat.sub_self,x16 hkl,List.set_cons_zero,show c.take (k+1)=c.take k++[c.getD k 0] from xt hkl,x0q,x0c];rfl
         repeat' first|((first|refine zz ?_|(refine xa ?_ ?_<;>intro _)|refine ioN (by omega) (by omega) ?_)<;>conv=>whnf)|(refine rwN (enc:=rI) 0 (by rw [<- xb]; omega) ?_;conv=>whnf)|(refine w64 (by first|omega|(simp only [xz9]; omega)) (by first|omega|(simp only [xz9]; omega)) ?_;conv=>whnf)
         refine ⟨k+1,by omega,by simp only; omega,?_⟩
         repeat' (first|exact True.intro|((conv=>whnf);first|exact True.intro|refine ⟨by rfl,?_⟩|refine ⟨by first|omega|(show (_:Int)=_;first|omega|(dsimp only;omega))|exact (by simp only [xz9]; rw [yz,eg,x3h,es]),?_⟩|refine ⟨?_,?_⟩))
       ·
        (refine zA ?_)
        have hend:k=c.length:=by omega
        subst hend;exact ⟨by rw [xv8 hs,x1e,List.drop_length,x0l],rfl⟩
   · rename_i h2;exact ⟨by rw [xv7 (i5 (x3q h2))],rfl⟩
   all_goals (exfalso; simp_all; done)
 · refine fK [2002] Go.Proofs.Tryz.f238 fun hb=>?_;conv=>whnf
   repeat' first|((first|refine zz ?_|(refine xa ?_ ?_<;>intro _)|refine ⟨_,yj c (by omega),?_⟩|refine ⟨_,px,?_⟩)<;>conv=>whnf)
   · exfalso; rename_i h; exact h0 (x1j h)
   · exact ⟨by rw [xjj (i1 (by omega))],rfl⟩
theorem xzf (f:Form) (v:Nat) (hv:v<3) (hf:f.sh):Sem P 285 [(.pure,.agg (aF f)),(.pure,.one (.fp [] [eI v] 0))] [] (B (!decide (f.C.getD v 0=0))):=by
 have hC:=hf.1;have lc:=xb f.C;refine fO Go.Proofs.Tryz.f285 fun hb=>?_;conv=>whnf
 repeat' first|((first|refine zz ?_|(refine xa ?_ ?_<;>intro _)|refine ixN (enc:=rI) 0 (by omega) ?_)<;>conv=>whnf)
 exact ⟨rfl,rfl⟩
theorem xtz (v:Nat) (hv:v<3) (l:List Form) (hl:∀ (x:Form),x∈l->x.sh):Sem P 287 [(.pure,.one (sFs l)),(.pure,.one (.fn 285 [.fp [] [eI v] 0]))] [] (I (idxOf (fun (x:Form)=>!decide (x.C.getD v 0=0)) l)):=by
 refine fO Go.Proofs.Tryz.f287 fun hb=>?_;have la:(l.map eF).length=l.length:=xzi ..;have hb1:(l.map eF).length<=1125899906842624:=hb.1.1;conv=>whnf
 (refine zA ?_)
 refine Vc.loop { i:Nat // ∀ j,j<i->j<l.length->(fun (x:Form)=>!decide (x.C.getD v 0=0)) (l.getD j default)=false } (fun i=>updL [0,1,7] [(8,I i.1)] []) (fun i=>l.length - i.1) ⟨0,by simp⟩ ?_ (fun i=>?_)
 · exact wl
 · have hi:=i.2;conv=>whnf
   (refine zA ?_)
   refine xd (fun g=>?_) (fun g=>?_)
   all_goals conv=>whnf
   · repeat' first|((first|refine zz ?_|(refine xa ?_ ?_<;>intro _)|refine ixN (enc:=eF) default (by omega) ?_|refine ⟨_,xzf _ v hv (hl _ (xp (by omega))),?_⟩|refine wq ?_)<;>conv=>whnf)
     · rename_i h;exact rI' (yw (p:=fun (x:Form)=>!decide (x.C.getD v 0=0)) default (by omega) h fun j hj=>hi j hj (by omega)).symm
     · rename_i h;refine ⟨⟨i.1+1,fun j hj hl=>?_⟩,?_,?_⟩
       · by_cases hji:j<i.1
         · exact hi j hji hl
         · obtain rfl:j=i.1:=by omega
           exact h
       · simp only; omega
       · exact wl
   ·
    (refine zA ?_)
    exact rI' (yf (p:=fun (x:Form)=>!decide (x.C.getD v 0=0)) default fun j hj=>hi j (by omega) hj).symm
theorem xys (v:Nat) (hv:v<3) (l:List Form) (hl:∀ (x:Form),x∈l->x.sh):Sem P 247 [(.pure,.one (sFs l)),(.pure,.one (.fn 285 [.fp [] [eI v] 0]))] [] (B (l.any fun (x:Form)=>!decide (x.C.getD v 0=0))):=by
 refine fO Go.Proofs.Tryz.f247 fun hb=>?_;conv=>whnf
 repeat' first|((first|refine zz ?_|(refine xa ?_ ?_<;>intro _)|refine ⟨_,xtz v hv l hl,?_⟩)<;>conv=>whnf)
 exact rB (zd _ _)
theorem xjl {l:List (List Form)} {i:Nat} (h:i<l.length):(l.take (i+1)).flatten=(l.take i).flatten++l.getD i []:=by
 rw [show l.take (i+1)=l.take i++[l.getD i []] from xt h,x07]; simp
theorem flat_len:∀ (l:List (List Form)),(∀ x∈l,x.length<=100)->l.flatten.length<=l.length*100
 | [],_=>by simp
 | a::r,h=>by
   have:=flat_len r fun x hx=>h x (xzp _ hx);have:=h a (by simp);simp only [x01,xzu,xz6]; omega
theorem xt0 (l:List Form):frzOk (l.map eF):=by
 intro row h a ha;obtain ⟨f,_,rfl⟩:=xzv.1 h;simp only [xzn,x0o,x2f] at ha;rcases ha with rfl|rfl|rfl
 · exact .inr (.inr ⟨_,_,rfl⟩)
 · exact .inr (.inr ⟨_,_,rfl⟩)
 · exact .inl ⟨_,rfl⟩
theorem xyt (l:List Form):(l.map eF).map (List.map frz)=l.map eF:=by rw [x2k]; rfl
theorem apF {p k:Prop} {r:List (List AV)} (h:frzOk r) (hk:k):p\/(([]:List Nat)=[]/\frzOk r/\k):=.inr ⟨rfl,h,hk⟩
theorem xl2 (l:List (List Form)) (h1:l.length<=10) (h2:∀ x∈l,x.length<=100):Sem P 284 [(.pure,.one (.sl 198 (l.map fun x=>[fFs x])))] [] (.one (sFs l.flatten)):=by
 refine fK [10001,14002] Go.Proofs.Tryz.f284 fun hb=>?_;have la:(l.map fun x=>[fFs x]).length=l.length:=xzi ..;have fl:=fun i=>flat_len (l.take i) fun x hx=>h2 x (x0u hx);have tl:=fun i=>xz3 (i:=i) (l:=l);conv=>whnf
 (refine zA ?_)
 refine Vc.loop1 (fun (i:Nat)=>i<=l.length) (fun i=>updL [0,2,6,8,9,10,23,24,25,26,27,28,29,30,31,32,33,34,35] [(11,I i),(3,I (l.take i).flatten.length)] []) (fun i=>l.length - i) 0 (xz1 _) ?_ (fun i hi=>?_)
 · exact wk
 · have fi:=fl i;have ti:=tl i;conv=>whnf
   (refine zA ?_)
   refine xd (fun g=>?_) (fun g=>?_)
   all_goals conv=>whnf
   · have hil:i<l.length:=by omega
     have tf:=congrArg List.length (xjl hil);rw [xzu] at tf;have hx:(l.getD i []).length<=100:=h2 _ (xp hil);have lf:(List.map eF (l.getD i [])).length=(l.getD i []).length:=xzi ..
     repeat' first|((first|refine zz ?_|(refine xa ?_ ?_<;>intro _)|refine ixN (enc:=fun x=>[fFs x]) [] (by omega) ?_|refine wq ?_)<;>conv=>whnf)
     refine ⟨i+1,by omega,by simp only; omega,?_⟩;exact wk
   · have hend:l.take i=l:=xzx (by omega)
     repeat' first|((first|refine zz ?_|(refine xa ?_ ?_<;>intro _)|refine ⟨_,xq7 (l.take i).flatten.length (by omega),?_⟩)<;>conv=>whnf)
     refine Vc.loop1 (fun (i:Nat)=>i<=l.length) (fun i=>updL [2,25,26,35] [(27,I i),(6,.one (.ref 640064))] [(640064,.arr 115 ((l.take i).flatten.map eF) false)]) (fun i=>l.length - i) 0 (xz1 _) ?_ (fun i hi=>?_)
     · exact wk
     · have fi:=fl i;have ti:=tl i;conv=>whnf
       (refine zA ?_)
       refine xd (fun g=>?_) (fun g=>?_)
       all_goals conv=>whnf
       · have hil:i<l.length:=by omega
         have hx:(l.getD i []).length<=100:=h2 _ (xp hil)
         repeat' first|((first|refine zz ?_|(refine xa ?_ ?_<;>intro _)|refine ixN (enc:=fun x=>[fFs x]) [] (by omega) ?_|refine wq ?_)<;>conv=>whnf)|(refine apN (by simp only [xzi]; omega) ?_;conv=>whnf)|((first|refine apF (xt0 _) ?_)<;>conv=>whnf)
         refine ⟨i+1,by omega,by simp only; omega,?_⟩
         repeat' (first|exact True.intro|((conv=>whnf);first|exact True.intro|refine ⟨by rfl,?_⟩|refine ⟨by first|omega|(show (_:Int)=_;first|omega|(dsimp only;omega))|exact (by rw [xjl hil,x0q,xyt]),?_⟩|refine ⟨?_,?_⟩))
       · have hend:l.take i=l:=xzx (by omega)
         (refine zA ?_)
         exact ⟨by rw [hend],rfl⟩
theorem xdg (r:Row) (v:Nat) (hv:v<3) (h1:shs r.Adds) (h2:shs r.Tells):Sem P 242 [(.pure,.agg (aW r)),(.pure,I v)] [] (B (reads (r.Adds++r.Tells) v)):=by
 refine fO Go.Proofs.Tryz.f242 fun hb=>?_;conv=>whnf
 repeat' first|((first|refine zz ?_|(refine xa ?_ ?_<;>intro _))<;>conv=>whnf)|(refine ⟨_,xl2 [r.Adds,r.Tells] (by simp) (by simp only [xzn,x0o,x2f]; rintro x (rfl|rfl); exact h1.1; exact h2.1),?_⟩;conv=>whnf)|(refine ⟨_,xys v hv [r.Adds,r.Tells].flatten (fun f hf=>by simp only [x01,x32,x0l] at hf; rcases xzs.1 hf with hf|hf; exact h1.2 f hf; exact h2.2 f hf),?_⟩;conv=>whnf)
 exact rB (by simp [reads])
theorem j7 {acts:List (List Line)} (h:catOk acts=true):acts.length<=4:=by
 unfold catOk at h;rw [xzj] at h;have:=xc.1 h.1; omega
theorem xn6 {out:List (List Int)} {g:Form} (h:g.sh):addPart out g=if (!zeros (part g.C) && decide (idxOf (fun q=>decide (q=part g.C)) out<0))=true then out++[part g.C] else out:=by
 unfold addPart;simp only [xpq]
theorem xt1 (acts:List (List Line)) (h4:acts.length<=4):Sem P 241 [(.pure,.one (sAs acts)),(.pure,.one (.fn 242 []))] [] (.one (sBs (pinsOf acts))):=by
 refine fO Go.Proofs.Tryz.f241 fun hb=>?_;have la:(acts.map eA).length=acts.length:=xzi ..;conv=>whnf
 (refine zA ?_)
 refine Vc.loop1 (fun (i:Nat)=>i<=acts.length) (fun i=>updL [1,4,5,12,13,46] [(14,I i)] [(128000,.arr 4 [[eB (reads (fAt acts i 0) 0)],[eB (reads (fAt acts i 0) 1)],[eB (reads (fAt acts i 0) 2)]] false)]) (fun i=>acts.length - i) 0 (by omega) ?_ (fun i hi=>?_)
 · exact wk
 · conv=>whnf
   (refine zA ?_)
   refine xd (fun g=>?_) (fun g=>?_)
   all_goals conv=>whnf
   · have hil:i<acts.length:=by omega
     have hb1:(List.map eW (rowsOf (acts.getD i []))).length=(rowsOf (acts.getD i [])).length:=xzi ..;have rl:=vj (acts.getD i [])
     repeat' first|((first|refine zz ?_|(refine xa ?_ ?_<;>intro _)|refine ixN (enc:=eA) [] hil ?_|refine ⟨_,xca (acts.getD i []),?_⟩)<;>conv=>whnf)
     refine Vc.loop1 (fun (k:Nat)=>k<=(rowsOf (acts.getD i [])).length) (fun k=>updL [1,4,5,7,12,13,14,15,16,17,18,19,20,45,46] [(21,I k)] [(128000,.arr 4 [[eB (reads (fAt acts i k) 0)],[eB (reads (fAt acts i k) 1)],[eB (reads (fAt acts i k) 2)]] false)]) (fun k=>(rowsOf (acts.getD i [])).length - k) 0 (by omega) ?_ (fun k hk=>?_)
     · exact wk
     · conv=>whnf
       (refine zA ?_)
       refine xd (fun g=>?_) (fun g=>?_)
       all_goals conv=>whnf
       · have hkl:k<(rowsOf (acts.getD i [])).length:=by omega
         have hmem:(rowsOf (acts.getD i [])).getD k default∈rowsOf (acts.getD i []):=xp hkl;obtain ⟨sg,sa,st⟩:=xgm hmem;have er:=xpj hkl
         repeat' first|((first|refine zz ?_|(refine xa ?_ ?_<;>intro _)|refine ixN (enc:=eW) default hkl ?_)<;>conv=>whnf)
         refine Vc.loop1 (fun (v:Nat)=>v<=3) (fun v=>updL [1,4,5,7,9,12,13,14,15,16,17,18,19,20,21,22,23,24,25,26,44,45,46] [(27,I v)] [(128000,.arr 4 [[eB (reads (fAt acts i k) 0 || (decide (0<v) && reads (((rowsOf (acts.getD i [])).getD k default).Adds++((rowsOf (acts.getD i [])).getD k default).Tells) 0))],[eB (reads (fAt acts i k) 1 || (decide (1<v) && reads (((rowsOf (acts.getD i [])).getD k default).Adds++((rowsOf (acts.getD i [])).getD k default).Tells) 1))],[eB (reads (fAt acts i k) 2 || (decide (2<v) && reads (((rowsOf (acts.getD i [])).getD k default).Adds++((rowsOf (acts.getD i [])).getD k default).Tells) 2))]] false)]) (fun v=>3 - v) 0 (by omega) ?_ (fun v hv=>?_)
         · repeat' (first|exact True.intro|((conv=>whnf);first|exact True.intro|refine ⟨by rfl,?_⟩|refine ⟨by first|omega|(show (_:Int)=_;first|omega|(dsimp only;omega))|exact by simp,?_⟩|refine ⟨?_,?_⟩))
         · match v,hv with
           | 0,_ =>
             conv=>whnf
             repeat' first|((first|refine zz ?_|(refine xa ?_ ?_<;>intro _)|refine ioN (by decide) (by simp) ?_|refine rwC rfl ?_|refine ⟨_,xdg ((rowsOf (acts.getD i [])).getD k default) 0 (by decide) sa st,?_⟩|refine wq ?_)<;>conv=>whnf)
             all_goals (refine ⟨1,by omega,by simp only; omega,?_⟩)
             all_goals (repeat' (first|exact True.intro|((conv=>whnf);first|exact True.intro|refine ⟨by rfl,?_⟩|refine ⟨by first|omega|(show (_:Int)=_;first|omega|(dsimp only;omega))|exact by simp_all,?_⟩|refine ⟨?_,?_⟩)))
           | 1,_ =>
             conv=>whnf
             repeat' first|((first|refine zz ?_|(refine xa ?_ ?_<;>intro _)|refine ioN (by decide) (by simp) ?_|refine rwC rfl ?_|refine ⟨_,xdg ((rowsOf (acts.getD i [])).getD k default) 1 (by decide) sa st,?_⟩|refine wq ?_)<;>conv=>whnf)
             all_goals (refine ⟨2,by omega,by simp only; omega,?_⟩)
             all_goals (repeat' (first|exact True.intro|((conv=>whnf);first|exact True.intro|refine ⟨by rfl,?_⟩|refine ⟨by first|omega|(show (_:Int)=_;first|omega|(dsimp only;omega))|exact by simp_all,?_⟩|refine ⟨?_,?_⟩)))
           | 2,_ =>
             conv=>whnf
             repeat' first|((first|refine zz ?_|(refine xa ?_ ?_<;>intro _)|refine ioN (by decide) (by simp) ?_|refine rwC rfl ?_|refine ⟨_,xdg ((rowsOf (acts.getD i [])).getD k default) 2 (by decide) sa st,?_⟩|refine wq ?_)<;>conv=>whnf)
             all_goals (refine ⟨3,by omega,by simp only; omega,?_⟩)
             all_goals (repeat' (first|exact True.intro|((conv=>whnf);first|exact True.intro|refine ⟨by rfl,?_⟩|refine ⟨by first|omega|(show (_:Int)=_;first|omega|(dsimp only;omega))|exact by simp_all,?_⟩|refine ⟨?_,?_⟩)))
           | 3,_ =>
             conv=>whnf
             repeat' first|((first|refine zz ?_|(refine xa ?_ ?_<;>intro _)|refine wq ?_)<;>conv=>whnf)
             refine ⟨k+1,by omega,by simp only; omega,?_⟩
             repeat' (first|exact True.intro|((conv=>whnf);first|exact True.intro|refine ⟨by rfl,?_⟩|refine ⟨by first|omega|(show (_:Int)=_;first|omega|(dsimp only;omega))|exact by simp [er,xji,x3v],?_⟩|refine ⟨?_,?_⟩))
       · repeat' first|((first|refine zz ?_|(refine xa ?_ ?_<;>intro _)|refine wq ?_)<;>conv=>whnf)
         refine ⟨i+1,by omega,by simp only; omega,?_⟩
         repeat' (first|exact True.intro|((conv=>whnf);first|exact True.intro|refine ⟨by rfl,?_⟩|refine ⟨by first|omega|(show (_:Int)=_;first|omega|(dsimp only;omega))|exact (by rw [xpl hil (by omega)]),?_⟩|refine ⟨?_,?_⟩))
   ·
    (refine zA ?_)
    exact ⟨by rw [xpn (by omega)]; rfl,rfl⟩
theorem xkc (acts:List (List Line)) (hc:catOk acts=true):Sem P 161 [(.pure,.one (sAs acts))] [] (.one (sPs (partsOf acts))):=by
 have h4:acts.length<=4:=j7 hc;refine fO Go.Proofs.Tryz.f161 fun hb=>?_;have la:(acts.map eA).length=acts.length:=xzi ..;conv=>whnf
 repeat' first|((first|refine zz ?_|(refine xa ?_ ?_<;>intro _)|refine ⟨_,xak acts,?_⟩)<;>conv=>whnf)
 · exfalso; rename_i h; rw [hc] at h; cases h
 refine Vc.loop1 (fun (v:Nat)=>v<=3) (fun v=>updL [0,2,6,8,10,11,25,26,27,28,29,30,31,32,33,34,35,36,37,38,39,40,41,42,43,44,45,46,47,48,49,50,51,52,53,54,55,56,57,58,59,60,61,62,63] [(15,I v),(3,.one (.ref 256000))] [(256000,.arr 24 (([[1,0,0],[0,1,0],[0,0,1]].take v).map eP) false)]) (fun v=>3 - v) 0 (by omega) ?_ (fun v hv=>?_)
 · exact wk
 · match v,hv with
   | 0,_ =>
     conv=>whnf
     repeat' first|((first|refine zz ?_|(refine xa ?_ ?_<;>intro _)|refine ⟨_,qm 0 (by decide),?_⟩|refine apN (by simp) ?_|refine wq ?_)<;>conv=>whnf)
     refine ⟨1,by omega,by simp only; omega,?_⟩;exact wk
   | 1,_ =>
     conv=>whnf
     repeat' first|((first|refine zz ?_|(refine xa ?_ ?_<;>intro _)|refine ⟨_,qm 1 (by decide),?_⟩|refine apN (by simp) ?_|refine wq ?_)<;>conv=>whnf)
     refine ⟨2,by omega,by simp only; omega,?_⟩;exact wk
   | 2,_ =>
     conv=>whnf
     repeat' first|((first|refine zz ?_|(refine xa ?_ ?_<;>intro _)|refine ⟨_,qm 2 (by decide),?_⟩|refine apN (by simp) ?_|refine wq ?_)<;>conv=>whnf)
     refine ⟨3,by omega,by simp only; omega,?_⟩;exact wk
   | 3,_ =>
     conv=>whnf
     (refine zA ?_)
     refine Vc.loop1 (fun (i:Nat)=>i<=acts.length) (fun i=>updL [2,25,26,63] [(27,I i),(3,.one (.ref 256000))] [(256000,.arr 24 ((pAt (gAt acts i 0)).map eP) false)]) (fun i=>acts.length - i) 0 (by omega) ?_ (fun i hi=>?_)
     · exact wk
     · conv=>whnf
       (refine zA ?_)
       refine xd (fun g=>?_) (fun g=>?_)
       all_goals conv=>whnf
       · have hil:i<acts.length:=by omega
         have hb1:(List.map eW (rowsOf (acts.getD i []))).length=(rowsOf (acts.getD i [])).length:=xzi ..;have rl:=vj (acts.getD i [])
         repeat' first|((first|refine zz ?_|(refine xa ?_ ?_<;>intro _)|refine ixN (enc:=eA) [] hil ?_|refine ⟨_,xca (acts.getD i []),?_⟩)<;>conv=>whnf)
         refine Vc.loop1 (fun (k:Nat)=>k<=(rowsOf (acts.getD i [])).length) (fun k=>updL [2,6,25,26,27,28,29,30,31,32,33,62,63] [(34,I k),(3,.one (.ref 256000))] [(256000,.arr 24 ((pAt (gAt acts i k)).map eP) false)]) (fun k=>(rowsOf (acts.getD i [])).length - k) 0 (by omega) ?_ (fun k hk=>?_)
         · exact wk
         · conv=>whnf
           (refine zA ?_)
           refine xd (fun g=>?_) (fun g=>?_)
           all_goals conv=>whnf
           · have hkl:k<(rowsOf (acts.getD i [])).length:=by omega
             have hmem:(rowsOf (acts.getD i [])).getD k default∈rowsOf (acts.getD i []):=xp hkl;obtain ⟨sg,sa,st⟩:=xgm hmem
             repeat' first|((first|refine zz ?_|(refine xa ?_ ?_<;>intro _)|refine ixN (enc:=eW) default hkl ?_)<;>conv=>whnf)
             refine Vc.loop1 (fun (j:Nat)=>j<=((rowsOf (acts.getD i [])).getD k default).Guards.length) (fun j=>updL [2,6,8,25,26,27,28,29,30,31,32,33,34,35,36,37,38,39,40,61,62,63] [(41,I j),(3,.one (.ref 256000))] [(256000,.arr 24 ((pAt (gAt acts i k++((rowsOf (acts.getD i [])).getD k default).Guards.take j)).map eP) false)]) (fun j=>((rowsOf (acts.getD i [])).getD k default).Guards.length - j) 0 (by omega) ?_ (fun j hj=>?_)
             · repeat' (first|exact True.intro|((conv=>whnf);first|exact True.intro|refine ⟨by rfl,?_⟩|refine ⟨by first|omega|(show (_:Int)=_;first|omega|(dsimp only;omega))|exact by simp,?_⟩|refine ⟨?_,?_⟩))
             · have hg1:(List.map eF ((rowsOf (acts.getD i [])).getD k default).Guards).length=((rowsOf (acts.getD i [])).getD k default).Guards.length:=xzi ..;conv=>whnf
               (refine zA ?_)
               refine xd (fun g=>?_) (fun g=>?_)
               all_goals conv=>whnf
               · have hjl:j<((rowsOf (acts.getD i [])).getD k default).Guards.length:=by omega
                 have hjm:((rowsOf (acts.getD i [])).getD k default).Guards.getD j default∈((rowsOf (acts.getD i [])).getD k default).Guards:=xp hjl;have hjb:=xh ((ke hmem).1 _ hjm) (m':=1000000000000) (by decide);have pl:=xpp (gAt acts i k++((rowsOf (acts.getD i [])).getD k default).Guards.take j);have gl:=xdz acts i k;have tl:=xz3 (i:=i) (l:=acts);have gl2:=xz3 (i:=j) (l:=((rowsOf (acts.getD i [])).getD k default).Guards);have g6:=sg.1;rw [xzu] at pl;have e1:pAt (gAt acts i k++((rowsOf (acts.getD i [])).getD k default).Guards.take (j+1))=addPart (pAt (gAt acts i k++((rowsOf (acts.getD i [])).getD k default).Guards.take j)) (((rowsOf (acts.getD i [])).getD k default).Guards.getD j default):=by rw [xt hjl,<- x0c,xpo]
                 rw [xn6 hjb.1] at e1
                 repeat' first|((first|refine zz ?_|(refine xa ?_ ?_<;>intro _)|refine ixN (enc:=eF) default hjl ?_)<;>conv=>whnf)|(refine ⟨_,xjk (((rowsOf (acts.getD i [])).getD k default).Guards.getD j default).C (((rowsOf (acts.getD i [])).getD k default).Guards.getD j default).D (((rowsOf (acts.getD i [])).getD k default).Guards.getD j default).K (by rw [hjb.1.1]; decide) hjb.2.1,?_⟩;conv=>whnf)|((first|refine ⟨_,xhv _,?_⟩|refine ⟨_,xl0 _ _,?_⟩)<;>conv=>whnf)|(refine apN (by rw [xzi]; show _+1<=_; omega) ?_;conv=>whnf)|((first|refine wq ?_)<;>conv=>whnf)
                 all_goals (refine ⟨j+1,by omega,by simp only; omega,?_⟩)
                 all_goals (repeat' (first|exact True.intro|((conv=>whnf);first|exact True.intro|refine ⟨by rfl,?_⟩|refine ⟨by first|omega|(show (_:Int)=_;first|omega|(dsimp only;omega))|exact (by rw [e1,if_pos (by clear e1; simp_all; done),x0q]; rfl)|exact (by rw [e1,if_neg (by clear e1; first|(simp_all; done)|(simp_all; omega))]),?_⟩|refine ⟨?_,?_⟩)))
               · repeat' first|((first|refine zz ?_|(refine xa ?_ ?_<;>intro _)|refine wq ?_)<;>conv=>whnf)
                 refine ⟨k+1,by omega,by simp only; omega,?_⟩
                 repeat' (first|exact True.intro|((conv=>whnf);first|exact True.intro|refine ⟨by rfl,?_⟩|refine ⟨by first|omega|(show (_:Int)=_;first|omega|(dsimp only;omega))|exact (by rw [xpi hkl,xzx (by omega)]),?_⟩|refine ⟨?_,?_⟩))
           · repeat' first|((first|refine zz ?_|(refine xa ?_ ?_<;>intro _)|refine wq ?_)<;>conv=>whnf)
             refine ⟨i+1,by omega,by simp only; omega,?_⟩
             repeat' (first|exact True.intro|((conv=>whnf);first|exact True.intro|refine ⟨by rfl,?_⟩|refine ⟨by first|omega|(show (_:Int)=_;first|omega|(dsimp only;omega))|exact (by rw [xpk hil (by omega)]),?_⟩|refine ⟨?_,?_⟩))
       ·
        (refine zA ?_)
        refine ⟨?_,rfl⟩;rw [xpm (by omega)];rfl
theorem xl3 (acts:List (List Line)) (hc:catOk acts=true):Sem P 162 [(.pure,.one (sAs acts))] [] (.one (sBs (pinsOf acts))):=by
 refine fK [4001] Go.Proofs.Tryz.f162 fun hb=>?_;conv=>whnf
 repeat' first|((first|refine zz ?_|(refine xa ?_ ?_<;>intro _)|refine ⟨_,xak acts,?_⟩|refine ⟨_,xt1 acts (j7 hc),?_⟩)<;>conv=>whnf)
 · exfalso; rename_i h; rw [hc] at h; cases h
 · exact ⟨rfl,rfl⟩
theorem xdh (acts:List (List Line)) (hc:catOk acts=true):Sem P 70 [(.pure,.one (sAs acts))] [] (.agg [fAs acts,fPs (partsOf acts),fBs (pinsOf acts)]):=by
 refine fO Go.Proofs.Tryz.f70 fun hb=>?_;conv=>whnf
 repeat' first|((first|refine zz ?_|(refine xa ?_ ?_<;>intro _)|refine ⟨_,xkc acts hc,?_⟩|refine ⟨_,xl3 acts hc,?_⟩)<;>conv=>whnf)
 exact ⟨rfl,rfl⟩
theorem xxo (p:List Int):Sem P 315 [(.pure,AI p)] [] (B (!within p 3 10000000)):=by
 refine fO Go.Proofs.Tryz.f315 fun hb=>?_;conv=>whnf
 repeat' first|((first|refine zz ?_|(refine xa ?_ ?_<;>intro _)|refine ⟨_,yq _ 3 _ (by omega),?_⟩)<;>conv=>whnf)
 exact ⟨rfl,rfl⟩
theorem xl4  (l:List (List Int)):Sem P 282 [(.pure,.one (sPs l)),(.pure,.one (.fn 315 []))] [] (I (idxOf (fun (x:(List Int))=>!within x 3 10000000) l)):=by
 refine fO Go.Proofs.Tryz.f282 fun hb=>?_;have la:(l.map eP).length=l.length:=xzi ..;have hb1:(l.map eP).length<=1125899906842624:=hb.1.1;conv=>whnf
 (refine zA ?_)
 refine Vc.loop { i:Nat // ∀ j,j<i->j<l.length->(fun (x:(List Int))=>!within x 3 10000000) (l.getD j default)=false } (fun i=>updL [0,1,7] [(8,I i.1)] []) (fun i=>l.length - i.1) ⟨0,by simp⟩ ?_ (fun i=>?_)
 · exact wl
 · have hi:=i.2;conv=>whnf
   (refine zA ?_)
   refine xd (fun g=>?_) (fun g=>?_)
   all_goals conv=>whnf
   · repeat' first|((first|refine zz ?_|(refine xa ?_ ?_<;>intro _)|refine ixN (enc:=eP) default (by omega) ?_|refine ⟨_,xxo _,?_⟩|refine wq ?_)<;>conv=>whnf)
     · rename_i h;exact rI' (yw (p:=fun (x:(List Int))=>!within x 3 10000000) default (by omega) h fun j hj=>hi j hj (by omega)).symm
     · rename_i h;refine ⟨⟨i.1+1,fun j hj hl=>?_⟩,?_,?_⟩
       · by_cases hji:j<i.1
         · exact hi j hji hl
         · obtain rfl:j=i.1:=by omega
           exact h
       · simp only; omega
       · exact wl
   ·
    (refine zA ?_)
    exact rI' (yf (p:=fun (x:(List Int))=>!within x 3 10000000) default fun j hj=>hi j (by omega) hj).symm
theorem xt3  (l:List (List Int)):Sem P 277 [(.pure,.one (sPs l)),(.pure,.one (.fn 315 []))] [] (B (l.any fun (x:(List Int))=>!within x 3 10000000)):=by
 refine fO Go.Proofs.Tryz.f277 fun hb=>?_;conv=>whnf
 repeat' first|((first|refine zz ?_|(refine xa ?_ ?_<;>intro _)|refine ⟨_,xl4  l,?_⟩)<;>conv=>whnf)
 exact rB (zd _ _)
theorem xl5 (l:List (List Int)):Sem P 302 [(.pure,.one (sPs l))] [] (B (partsOk l)):=by
 refine fO Go.Proofs.Tryz.f302 fun hb=>?_;conv=>whnf
 repeat' first|((first|refine zz ?_|(refine xa ?_ ?_<;>intro _)|refine ⟨_,xt3 l,?_⟩)<;>conv=>whnf)
 exact rB (ju _ _)
theorem xba (l:List Int):Sem P 169 [(.pure,AI l)] [] (B (addedOk l)):=by
 refine fO Go.Proofs.Tryz.f169 fun hb=>?_;conv=>whnf
 repeat' first|((first|refine zz ?_|(refine xa ?_ ?_<;>intro _)|refine ⟨_,yq _ 3 _ (by omega),?_⟩)<;>conv=>whnf)
 exact ⟨rfl,rfl⟩
theorem jf (t:Treaty) (parts:List (List Int)) (s:Int) (a:List Int):Sem P 276 [(.pure,.agg (aT t)),(.pure,.one (sPs parts)),(.pure,I s),(.pure,AI a)] []
 (B (trtOk t && partsOk parts && inB s 0 (t.Gives.length - 1) && addedOk a)):=by
 refine fO Go.Proofs.Tryz.f276 fun hb=>?_;have la:=xb t.Gives;have hb1:(ints t.Gives).length<=1125899906842624:=(hb.1 (sI t.Gives) (by simp)).1;conv=>whnf
 repeat' first|((first|refine zz ?_|(refine xa ?_ ?_<;>intro _)|refine ⟨_,xhs t,?_⟩|refine ⟨_,xl5 parts,?_⟩|refine ⟨_,x6 _ _ _,?_⟩|refine ⟨_,xba a,?_⟩|refine wq ?_)<;>conv=>whnf)
 all_goals exact rB (by simp_all)
theorem xu {a:List Int} (h:addedOk a=true):a.length=3/\∀ x∈a,-20000<=x/\x<=20000:=xe.1 h
theorem xxp (p a:List Int) (g:Int) (ha:addedOk a=true) (hg : -1000<=g/\g<=1000) (hp:within p 3 10000000=true):Sem P 278 [(.pure,AI p),(.pure,.one (.fp [] [sI a] 0)),(.pure,.one (.fp [] [eI g] 0))] [] (B (!inB (dot p a) (-g) g)):=by
 obtain ⟨h1,h2⟩:=xu ha;obtain ⟨h3,h4⟩:=xe.1 hp;refine fO Go.Proofs.Tryz.f278 fun hb=>?_;conv=>whnf
 repeat' first|((first|refine zz ?_|(refine xa ?_ ?_<;>intro _))<;>conv=>whnf)|(refine ⟨_,xgj p a (by omega) (by omega) h4 (fun x hx=>by have:=h2 x hx; omega),?_⟩;conv=>whnf)|((first|refine ⟨_,x6 _ _ _,?_⟩|refine wq ?_)<;>conv=>whnf)
 exact rB (by rw [x3h])
theorem xl6 (a:List Int) (gv:Int) (ha:addedOk a=true) (hg : -1000<=gv/\gv<=1000) (l:List (List Int)) (hl:∀ (x:(List Int)),x∈l->within x 3 10000000=true):Sem P 282 [(.pure,.one (sPs l)),(.pure,.one (.fn 278 [.fp [] [sI a] 0,.fp [] [eI gv] 0]))] [] (I (idxOf (fun (x:(List Int))=>!inB (dot x a) (-gv) gv) l)):=by
 refine fO Go.Proofs.Tryz.f282 fun hb=>?_;have la:(l.map eP).length=l.length:=xzi ..;have hb1:(l.map eP).length<=1125899906842624:=hb.1.1;conv=>whnf
 (refine zA ?_)
 refine Vc.loop { i:Nat // ∀ j,j<i->j<l.length->(fun (x:(List Int))=>!inB (dot x a) (-gv) gv) (l.getD j default)=false } (fun i=>updL [0,1,7] [(8,I i.1)] []) (fun i=>l.length - i.1) ⟨0,by simp⟩ ?_ (fun i=>?_)
 · exact wl
 · have hi:=i.2;conv=>whnf
   (refine zA ?_)
   refine xd (fun g=>?_) (fun g=>?_)
   all_goals conv=>whnf
   · repeat' first|((first|refine zz ?_|(refine xa ?_ ?_<;>intro _)|refine ixN (enc:=eP) default (by omega) ?_|refine ⟨_,xxp _ a gv ha hg (hl _ (xp (by omega))),?_⟩|refine wq ?_)<;>conv=>whnf)
     · rename_i h;exact rI' (yw (p:=fun (x:(List Int))=>!inB (dot x a) (-gv) gv) default (by omega) h fun j hj=>hi j hj (by omega)).symm
     · rename_i h;refine ⟨⟨i.1+1,fun j hj hl=>?_⟩,?_,?_⟩
       · by_cases hji:j<i.1
         · exact hi j hji hl
         · obtain rfl:j=i.1:=by omega
           exact h
       · simp only; omega
       · exact wl
   ·
    (refine zA ?_)
    exact rI' (yf (p:=fun (x:(List Int))=>!inB (dot x a) (-gv) gv) default fun j hj=>hi j (by omega) hj).symm
theorem xt4 (a:List Int) (gv:Int) (ha:addedOk a=true) (hg : -1000<=gv/\gv<=1000) (l:List (List Int)) (hl:∀ (x:(List Int)),x∈l->within x 3 10000000=true):Sem P 277 [(.pure,.one (sPs l)),(.pure,.one (.fn 278 [.fp [] [sI a] 0,.fp [] [eI gv] 0]))] [] (B (l.any fun (x:(List Int))=>!inB (dot x a) (-gv) gv)):=by
 refine fO Go.Proofs.Tryz.f277 fun hb=>?_;conv=>whnf
 repeat' first|((first|refine zz ?_|(refine xa ?_ ?_<;>intro _)|refine ⟨_,xl6 a gv ha hg l hl,?_⟩)<;>conv=>whnf)
 exact rB (zd _ _)
theorem xjn {t:Treaty} (h:trtOk t=true) {s:Int} (hs:inB s 0 (t.Gives.length - 1)=true):0<=s/\s<t.Gives.length/\t.Gives.length<=3/\0<=t.Gives.getD s.toNat 0/\t.Gives.getD s.toNat 0<=50:=by
 unfold trtOk givesOk at h;simp only [xzj,xzl,xc] at h;have h1:=xc.1 hs;have hm:t.Gives.getD s.toNat 0∈t.Gives:=xp (by omega);have:=h.2.2 _ hm;omega
theorem xcb (t:Treaty) (parts:List (List Int)) (s:Int) (a:List Int):Sem P 233 [(.pure,.agg (aT t)),(.pure,.one (sPs parts)),(.pure,I s),(.pure,AI a)] [] (B (trtKeeps t parts s a)):=by
 have la:=xb t.Gives;by_cases hok:(trtOk t && partsOk parts && inB s 0 (t.Gives.length - 1) && addedOk a)=true
 · have h:=hok;simp only [xzj] at h;obtain ⟨⟨⟨h1,h2⟩,h3⟩,h4⟩:=h;obtain ⟨g1,g2,g3,g4,g5⟩:=xjn h1 h3;refine fO Go.Proofs.Tryz.f233 fun hb=>?_;conv=>whnf
   repeat' first|((first|refine zz ?_|(refine xa ?_ ?_<;>intro _)|refine ⟨_,jf t parts s a,?_⟩|refine ixI (enc:=rI) 0 (by omega) (by omega) ?_|refine ⟨_,xt4 a (t.Gives.getD s.toNat 0) h4 (by omega) parts (xzl.1 h2),?_⟩)<;>conv=>whnf)
   · exfalso; simp_all
   · exact rB (by rw [ju]; unfold trtKeeps; rw [hok,x1h]; rfl)
 · refine fO Go.Proofs.Tryz.f233 fun hb=>?_;conv=>whnf
   repeat' first|((first|refine zz ?_|(refine xa ?_ ?_<;>intro _)|refine ⟨_,jf t parts s a,?_⟩)<;>conv=>whnf)
   · exact rB (by unfold trtKeeps; simp_all)
   · exfalso; simp_all
theorem xd0 (acts:List (List Line)) (parts:List (List Int)) (p q r:Bool) (x y z:Int):Sem P 234 [(.pure,.agg [sAs acts,sPs parts,sBs [p,q,r]]),(.pure,AI [x,y,z])] [] (B (unpinned [p,q,r] [x,y,z])):=by
 refine fO Go.Proofs.Tryz.f234 fun hb=>?_;conv=>whnf
 (refine zA ?_)
 refine Vc.loop1 (fun (v:Nat)=>v<=3/\(0<v->(!p || decide (x=0))=true)/\(1<v->(!q || decide (y=0))=true)/\(2<v->(!r || decide (z=0))=true)) (fun v=>updL [2,7,8] [(9,I v)] []) (fun v=>3 - v) 0 (by simp) ?_ (fun v hv=>?_)
 · exact wk
 · match v,hv with
   | 0,hv =>
     conv=>whnf
     repeat' first|((first|refine zz ?_|(refine xa ?_ ?_<;>intro _)|refine ixK rfl ?_|refine wq ?_)<;>conv=>whnf)
     all_goals first
      | exact rB (by simp_all [unpinned])
      | (refine ⟨1,by simp_all,by simp only; omega,?_⟩; exact wk)
   | 1,hv =>
     conv=>whnf
     repeat' first|((first|refine zz ?_|(refine xa ?_ ?_<;>intro _)|refine ixK rfl ?_|refine wq ?_)<;>conv=>whnf)
     all_goals first
      | exact rB (by simp_all [unpinned])
      | (refine ⟨2,by simp_all,by simp only; omega,?_⟩; exact wk)
   | 2,hv =>
     conv=>whnf
     repeat' first|((first|refine zz ?_|(refine xa ?_ ?_<;>intro _)|refine ixK rfl ?_|refine wq ?_)<;>conv=>whnf)
     all_goals first
      | exact rB (by simp_all [unpinned])
      | (refine ⟨3,by simp_all,by simp only; omega,?_⟩; exact wk)
   | 3,hv =>
     conv=>whnf
     (refine zA ?_)
     exact rB (by simp_all [unpinned])
theorem xdj (acts:List (List Line)) (parts:List (List Int)) (p q r:Bool) (t:Treaty) (s:Int) (a:List Int):Sem P 158 [(.pure,.agg [sAs acts,sPs parts,sBs [p,q,r]]),(.pure,.agg (aT t)),(.pure,I s),(.pure,AI a)] [] (B (trtKeeps t parts s a && unpinned [p,q,r] a)):=by
 by_cases hk:trtKeeps t parts s a=true
 · have ha:addedOk a=true:=by unfold trtKeeps at hk; simp only [xzj] at hk; exact hk.1.2
   obtain ⟨x,y,z,rfl⟩:=len3 (xu ha).1;refine fO Go.Proofs.Tryz.f158 fun hb=>?_;conv=>whnf
   repeat' first|((first|refine zz ?_|(refine xa ?_ ?_<;>intro _)|refine ⟨_,xcb t parts s [x,y,z],?_⟩|refine ⟨_,xd0 acts parts p q r x y z,?_⟩)<;>conv=>whnf)
   all_goals exact rB (by simp_all)
 · refine fO Go.Proofs.Tryz.f158 fun hb=>?_;conv=>whnf
   repeat' first|((first|refine zz ?_|(refine xa ?_ ?_<;>intro _)|refine ⟨_,xcb t parts s a,?_⟩)<;>conv=>whnf)
   · exfalso; simp_all
   · exact rB (by simp_all)
abbrev aRu (acts:List (List Line)):List AV:=[sAs acts,sPs (partsOf acts),sBs (pinsOf acts)]
theorem j8 {α:Type} (l:List α):((l.length:Int) == 0)=l.isEmpty:=by
 cases l with
 | nil=>rfl
 | cons a r=>simp only [xz6,List.isEmpty_cons,x00,ne_eq]; omega
theorem xf3 (p:Plan) (n:Int):Sem P 168 [(.pure,.agg (aPl p)),(.pure,I n)] [] (B (isSite p n)):=by
 refine fO Go.Proofs.Tryz.f168 fun hb=>?_;have la:=xb p.Gives;have hb1:(ints p.Gives).length<=1125899906842624:=(hb.1 (sI p.Gives) (by simp)).1;conv=>whnf
 repeat' first|((first|refine zz ?_|(refine xa ?_ ?_<;>intro _)|refine ⟨_,x6 _ _ _,?_⟩|refine wq ?_)<;>conv=>whnf)
 exact rB (by rw [la]; rfl)
theorem xl7 (r:Rslt):Sem P 256 [(.pure,.agg (aR r))] [] (B r.none):=by
 refine fO Go.Proofs.Tryz.f256 fun hb=>?_;conv=>whnf
 repeat' first|((first|refine zz ?_|(refine xa ?_ ?_<;>intro _))<;>conv=>whnf)
 all_goals exact rB (by simp_all [Rslt.none,j8])
theorem xkd (c:Call):Sem P 167 [(.pure,.agg (aC c))] [] (B c.none):=by
 refine fO Go.Proofs.Tryz.f167 fun hb=>?_;conv=>whnf
 repeat' first|((first|refine zz ?_|(refine xa ?_ ?_<;>intro _))<;>conv=>whnf)
 all_goals exact rB (by simp_all [Call.none,j8])
theorem xl8 (d:Done):Sem P 193 [(.pure,.agg (aD d))] [] (B d.ok):=by
 refine fO Go.Proofs.Tryz.f193 fun hb=>?_;conv=>whnf
 repeat' first|((first|refine zz ?_|(refine xa ?_ ?_<;>intro _)|refine ⟨_,xl7 d.Res,?_⟩|refine ⟨_,x6 _ _ _,?_⟩|refine ⟨_,xq4 d.Res,?_⟩)<;>conv=>whnf)
 all_goals exact rB (by simp_all [Done.ok])
theorem xyu (d:Done):Sem P 232 [(.pure,.agg (aD d))] [] (B (!d.ok)):=by
 refine fO Go.Proofs.Tryz.f232 fun hb=>?_;conv=>whnf
 repeat' first|((first|refine zz ?_|(refine xa ?_ ?_<;>intro _)|refine ⟨_,xl8 d,?_⟩)<;>conv=>whnf)
 exact ⟨rfl,rfl⟩
theorem xl9  (l:List Done):Sem P 275 [(.pure,.one (sDs l)),(.pure,.one (.fn 232 []))] [] (I (idxOf (fun (x:Done)=>!x.ok) l)):=by
 refine fO Go.Proofs.Tryz.f275 fun hb=>?_;have la:(l.map eD).length=l.length:=xzi ..;have hb1:(l.map eD).length<=1125899906842624:=hb.1.1;conv=>whnf
 (refine zA ?_)
 refine Vc.loop { i:Nat // ∀ j,j<i->j<l.length->(fun (x:Done)=>!x.ok) (l.getD j default)=false } (fun i=>updL [0,1,7] [(8,I i.1)] []) (fun i=>l.length - i.1) ⟨0,by simp⟩ ?_ (fun i=>?_)
 · exact wl
 · have hi:=i.2;conv=>whnf
   (refine zA ?_)
   refine xd (fun g=>?_) (fun g=>?_)
   all_goals conv=>whnf
   · repeat' first|((first|refine zz ?_|(refine xa ?_ ?_<;>intro _)|refine ixN (enc:=eD) default (by omega) ?_|refine ⟨_,xyu _,?_⟩|refine wq ?_)<;>conv=>whnf)
     · rename_i h;exact rI' (yw (p:=fun (x:Done)=>!x.ok) default (by omega) h fun j hj=>hi j hj (by omega)).symm
     · rename_i h;refine ⟨⟨i.1+1,fun j hj hl=>?_⟩,?_,?_⟩
       · by_cases hji:j<i.1
         · exact hi j hji hl
         · obtain rfl:j=i.1:=by omega
           exact h
       · simp only; omega
       · exact wl
   ·
    (refine zA ?_)
    exact rI' (yf (p:=fun (x:Done)=>!x.ok) default fun j hj=>hi j (by omega) hj).symm
theorem xt5  (l:List Done):Sem P 231 [(.pure,.one (sDs l)),(.pure,.one (.fn 232 []))] [] (B (l.any fun (x:Done)=>!x.ok)):=by
 refine fO Go.Proofs.Tryz.f231 fun hb=>?_;conv=>whnf
 repeat' first|((first|refine zz ?_|(refine xa ?_ ?_<;>intro _)|refine ⟨_,xl9  l,?_⟩)<;>conv=>whnf)
 exact rB (zd _ _)
theorem v8 (p:Plan) (l:List Done):Sem P 156 [(.pure,.agg (aPl p)),(.pure,.one (sDs l))] [] (B (doneOk p l)):=by
 refine fO Go.Proofs.Tryz.f156 fun hb=>?_;have la:(l.map eD).length=l.length:=xzi ..;conv=>whnf
 repeat' first|((first|refine zz ?_|(refine xa ?_ ?_<;>intro _)|refine ⟨_,xt5 l,?_⟩)<;>conv=>whnf)
 all_goals exact rB (by simp_all [doneOk,ju])
theorem xyv (n:Int):Sem P 235 [(.pure,I n)] [] (B (!inB n 0 300)):=by
 refine fO Go.Proofs.Tryz.f235 fun hb=>?_;conv=>whnf
 repeat' first|((first|refine zz ?_|(refine xa ?_ ?_<;>intro _)|refine ⟨_,x6 _ _ _,?_⟩)<;>conv=>whnf)
 exact ⟨rfl,rfl⟩
theorem xn7  (l:List Int):Sem P 225 [(.pure,.one (sI l)),(.pure,.one (.fn 235 []))] [] (I (idxOf (fun (x:Int)=>!inB x 0 300) l)):=by
 refine fO Go.Proofs.Tryz.f225 fun hb=>?_;have la:(ints l).length=l.length:=xzi ..;have hb1:(ints l).length<=1125899906842624:=hb.1.1;conv=>whnf
 (refine zA ?_)
 refine Vc.loop { i:Nat // ∀ j,j<i->j<l.length->(fun (x:Int)=>!inB x 0 300) (l.getD j default)=false } (fun i=>updL [0,1,7] [(8,I i.1)] []) (fun i=>l.length - i.1) ⟨0,by simp⟩ ?_ (fun i=>?_)
 · exact wl
 · have hi:=i.2;conv=>whnf
   (refine zA ?_)
   refine xd (fun g=>?_) (fun g=>?_)
   all_goals conv=>whnf
   · repeat' first|((first|refine zz ?_|(refine xa ?_ ?_<;>intro _)|refine ixN (enc:=rI) default (by omega) ?_|refine ⟨_,xyv _,?_⟩|refine wq ?_)<;>conv=>whnf)
     · rename_i h;exact rI' (yw (p:=fun (x:Int)=>!inB x 0 300) default (by omega) h fun j hj=>hi j hj (by omega)).symm
     · rename_i h;refine ⟨⟨i.1+1,fun j hj hl=>?_⟩,?_,?_⟩
       · by_cases hji:j<i.1
         · exact hi j hji hl
         · obtain rfl:j=i.1:=by omega
           exact h
       · simp only; omega
       · exact wl
   ·
    (refine zA ?_)
    exact rI' (yf (p:=fun (x:Int)=>!inB x 0 300) default fun j hj=>hi j (by omega) hj).symm
theorem xwb  (l:List Int):Sem P 149 [(.pure,.one (sI l)),(.pure,.one (.fn 235 []))] [] (B (l.any fun (x:Int)=>!inB x 0 300)):=by
 refine fO Go.Proofs.Tryz.f149 fun hb=>?_;conv=>whnf
 repeat' first|((first|refine zz ?_|(refine xa ?_ ?_<;>intro _)|refine ⟨_,xn7  l,?_⟩)<;>conv=>whnf)
 exact rB (zd _ _)
theorem xf4 (p:Plan) (l:List Int):Sem P 159 [(.pure,.agg (aPl p)),(.pure,AI l)] [] (B (seqsOk p l)):=by
 refine fO Go.Proofs.Tryz.f159 fun hb=>?_;have la:=xb l;conv=>whnf
 repeat' first|((first|refine zz ?_|(refine xa ?_ ?_<;>intro _)|refine ⟨_,xwb l,?_⟩)<;>conv=>whnf)
 all_goals exact rB (by simp_all [seqsOk,ju])
theorem xma (g:Got):Sem P 160 [(.pure,.agg (aG g))] [] (B g.none):=by
 refine fO Go.Proofs.Tryz.f160 fun hb=>?_;conv=>whnf
 repeat' first|((first|refine zz ?_|(refine xa ?_ ?_<;>intro _))<;>conv=>whnf)
 all_goals exact rB (by simp_all [Got.none,j8])
theorem xmb (p:Plan) (s:Site) (n:Int):Sem P 107 [(.pure,.agg (aPl p)),(.pure,.agg (aRu p.Acts)),(.pure,.agg (aS s)),(.pure,I n)] [] (B (isSite p n && siteB p s n)):=by
 refine fO Go.Proofs.Tryz.f107 fun hb=>?_;conv=>whnf
 repeat' first|((first|refine zz ?_|(refine xa ?_ ?_<;>intro _)|refine ⟨_,xf3 p n,?_⟩|refine ⟨_,x6 _ _ _,?_⟩|refine ⟨_,j3 _,?_⟩|refine ⟨_,jb p s.Base,?_⟩|refine ⟨_,xdj p.Acts (partsOf p.Acts) _ _ _ ⟨s.Base,p.Gives⟩ n s.Added,?_⟩|refine ⟨_,v8 p s.Done,?_⟩)<;>conv=>whnf)
 all_goals exact rB (by simp_all [siteB,keeps,Plan.treaty,pinsOf])
theorem xdn:∀ {l:List Call},rising l=true↔∀ j,j+1<l.length->(l.getD j default).Client<(l.getD (j+1) default).Client
 | []=>by simp [rising]
 | [a]=>by simp [rising]
 | a::b::r=>by
   have ih:=xdn (l:=b::r);simp only [rising,xzj,xzk,ih];constructor
   · rintro ⟨h1,h2⟩ j hj
     cases j with
     | zero=>exact h1
     | succ j=>exact h2 j (by simpa using hj)
   · intro h;exact ⟨h 0 (by simp),fun j hj=>h (j+1) (by simpa using hj)⟩
theorem qf {α:Type} [Inhabited α] {f:Int->α->Bool} {l:List α}:allI f 0 l=true↔∀ (j:Nat),j<l.length->f j (l.getD j default)=true:=by
 rw [jq];constructor
 · intro h j hj;have:=h j (l.getD j default) (by rw [xzo,xzh hj]; rfl);rw [Nat.zero_add] at this; exact this
 · intro h k x hk;obtain ⟨hj,e⟩:=xzm.1 hk;have:=h k hj;rw [xzo,hk] at this;rw [Nat.zero_add]; exact this
theorem xmg {α:Type} [Inhabited α] {p:α->Bool} {l:List α}:l.all p=true↔∀ j,j<l.length->p (l.getD j default)=true:=by
 constructor
 · intro h j hj; exact xzl.1 h _ (xp hj)
 · intro h; exact z7 default h
theorem xrj {p:Plan} {c:Clerk}:clerkB p c=true↔((inB c.Round 0 200 && valOk c.Base && doneOk p c.Done && decide (c.Got.length=p.Gives.length))=true) /\
 (∀ j,j<c.Wants.length->callB p (c.Wants.getD j default)=true/\(0<j->(c.Wants.getD (j - 1) default).Client<(c.Wants.getD j default).Client)/\c.Up=true) /\
 (∀ j,j<c.Got.length->((c.Up && (c.Got.getD j default).Has && keeps p.Acts (p.treaty c.Base) j (c.Got.getD j default).Added && seqsOk p (c.Got.getD j default).Seqs) || (c.Got.getD j default).none)=true):=by
 unfold clerkB;simp only [xzj,x04,qf,xdn,xmg,xzk];constructor
 · rintro ⟨⟨⟨⟨⟨⟨⟨h1,h2⟩,h3⟩,h4⟩,h5⟩,h6⟩,h7⟩,h8⟩;refine ⟨⟨⟨⟨h1,h2⟩,h3⟩,h4⟩,fun j hj=>⟨h6 j hj,fun h0=>?_,?_⟩,fun j hj=>?_⟩
   · have:=h7 (j - 1) (by omega);rw [show j - 1+1=j from by omega] at this; exact this
   · rcases h8 with h8|⟨h8,_⟩
     · exact h8
     · cases hw:c.Wants with
       | nil=>rw [hw] at hj; simp at hj
       | cons a r=>rw [hw] at h8; cases h8
   · have h5:=h5 j hj;unfold gotB at h5;simp only [x04,xzj] at h5;rcases h5 with h5|⟨⟨h5,h5'⟩,h5''⟩
     · exact .inr h5
     · rcases h8 with h8|⟨_,h8⟩
       · exact .inl ⟨⟨⟨h8,h5⟩,h5'⟩,h5''⟩
       · have:=h8 j hj; rw [h5] at this; cases this
 · rintro ⟨⟨⟨⟨h1,h2⟩,h3⟩,h4⟩,h5,h6⟩;refine ⟨⟨⟨⟨⟨⟨⟨h1,h2⟩,h3⟩,h4⟩,fun j hj=>?_⟩,fun j hj=>(h5 j hj).1⟩,fun j hj=>?_⟩,?_⟩
   · have:=h6 j hj;unfold gotB;simp only [x04,xzj];rcases this with ⟨⟨⟨_,a⟩,b⟩,d⟩|h
     · exact .inr ⟨⟨a,b⟩,d⟩
     · exact .inl h
   · have:=(h5 (j+1) hj).2.1 (by omega);simpa using this
   · cases hu:c.Up with
     | true=>exact .inl rfl
     | false =>
       refine .inr ⟨?_,fun j hj=>?_⟩
       · cases hw:c.Wants with
         | nil=>rfl
         | cons a r=>have:=(h5 0 (by rw [hw]; simp)).2.2; rw [hu] at this; cases this
       · have:=h6 j hj;rw [hu] at this;simp only [x2u,false_and,false_or] at this;unfold Got.none at this;simp only [xzj] at this;exact this.1.1
theorem xh3 (p a:List Int) (hp:within p 3 10000000=true) (ha:nums a 3):Sem P 252 [(.pure,AI p),(.pure,AI a)] [] (I (dot p a)):=by
 obtain ⟨x,y,z,rfl,hx,hy,hz⟩:=within3 hp;obtain ⟨u,v,w,rfl,hu,hv,hw⟩:=nums3 ha;have m1:=xo hx hu;have m2:=xo hy hv;have m3:=xo hz hw;refine fO Go.Proofs.Tryz.f252 fun hb=>?_;conv=>whnf
 (refine zA ?_)
 refine Vc.loop2 (fun (i:Nat) (n:Int)=>i<=3/\(i=0->n=0)/\(i=1->n=x*u)/\(i=2->n=x*u+y*v)/\(i=3->n=x*u+y*v+z*w)) (fun i n=>updL [0,1,4,22] [(6,I i),(5,I n)] []) (fun i _=>3 - i) 0 0 (by simp) ?_ (fun i n hi=>?_)
 · exact wk
 · obtain ⟨hi,h0,h1,h2,h3⟩:=hi
   match i,hi with
   | 0,_ =>
     have hn:=h0 rfl;subst hn;conv=>whnf
     repeat' first|((first|refine zz ?_|(refine xa ?_ ?_<;>intro _)|refine ixK rfl ?_|refine wq ?_)<;>conv=>whnf)
     refine ⟨1,x*u,by simp,by simp only; omega,?_⟩;exact wk
   | 1,_ =>
     have hn:=h1 rfl;subst hn;conv=>whnf
     repeat' first|((first|refine zz ?_|(refine xa ?_ ?_<;>intro _)|refine ixK rfl ?_|refine wq ?_)<;>conv=>whnf)
     refine ⟨2,x*u+y*v,by simp,by simp only; omega,?_⟩;exact wk
   | 2,_ =>
     have hn:=h2 rfl;subst hn;conv=>whnf
     repeat' first|((first|refine zz ?_|(refine xa ?_ ?_<;>intro _)|refine ixK rfl ?_|refine wq ?_)<;>conv=>whnf)
     refine ⟨3,x*u+y*v+z*w,by simp,by simp only; omega,?_⟩;exact wk
   | 3,_ =>
     have hn:=h3 rfl;subst hn;conv=>whnf
     (refine zA ?_)
     have e:dot [x,y,z] [u,v,w]=x*u+y*v+z*w:=by simp only [dot]; omega
     exact ⟨congrArg (fun n=>I n) e.symm,rfl⟩
theorem j9 (l:List (List Int)):Sem P 251 [(.pure,.one (sPs l))] [] (B (partsOk l)):=by
 refine fO Go.Proofs.Tryz.f251 fun hb=>?_;have la:(l.map eP).length=l.length:=xzi ..;have hb1:(l.map eP).length<=1125899906842624:=hb.1.1;conv=>whnf
 (refine zA ?_)
 refine Vc.loop1 (fun (i:Nat)=>i<=l.length/\∀ j,j<i->(fun p=>within p 3 10000000) (l.getD j default)=true) (fun i=>updL [0] [(3,I i)] []) (fun i=>l.length - i) 0 ⟨by omega,fun j hj=>absurd hj (x0z j)⟩ ?_ (fun i hi=>?_)
 · exact wl
 · obtain ⟨hi,ho⟩:=hi;have hlm:(l.map eP).length=l.length:=xzi ..;conv=>whnf
   (refine zA ?_)
   refine xd (fun g=>?_) (fun g=>?_)
   all_goals conv=>whnf
   · repeat' first|((first|refine zz ?_|(refine xa ?_ ?_<;>intro _)|refine ixN (enc:=eP) default (by omega) ?_|refine ⟨_,x9 _ 3 _ (by omega),?_⟩|refine wq ?_)<;>conv=>whnf)
     all_goals first
      | (refine ⟨i+1,⟨by omega,fun j hj=>?_⟩,by simp only; omega,?_⟩
         · by_cases h':j<i
           · exact ho j h'
           · obtain rfl:j=i:=by omega
             clear ho;simp_all
         · exact wl)
      | (have hp:(fun p=>within p 3 10000000) (l.getD i default)=false:=by (clear ho; simp_all )
         have hn:l.all (fun p=>within p 3 10000000)=false:=z8 default (j:=i) (by omega) hp
         exact rB (by simp_all [partsOk]))
   · have hall:l.all (fun p=>within p 3 10000000)=true:=z7 default fun j hj=>ho j (by omega)
     repeat' first|((first|refine zz ?_|(refine xa ?_ ?_<;>intro _)|refine ⟨_,x9 _ 3 _ (by omega),?_⟩|refine wq ?_)<;>conv=>whnf)
     exact rB (by simp_all [partsOk])
theorem jd (t:Treaty) (parts:List (List Int)) (s:Int) (a:List Int):Sem P 181 [(.pure,.agg (aT t)),(.pure,.one (sPs parts)),(.pure,I s),(.pure,AI a)] [] (B (trtKeeps t parts s a)):=by
 have la:=xb t.Gives;have lp:(parts.map eP).length=parts.length:=xzi ..;by_cases hok:(trtOk t && partsOk parts && inB s 0 (t.Gives.length - 1) && addedOk a)=true
 · have h:=hok;simp only [xzj] at h;obtain ⟨⟨⟨h1,h2⟩,h3⟩,h4⟩:=h;obtain ⟨g1,g2,g3,g4,g5⟩:=xjn h1 h3;have hn:nums a 3:=⟨(xu h4).1,fun x hx=>by have:=(xu h4).2 x hx; omega⟩;have hp:=xzl.1 h2;refine fO Go.Proofs.Tryz.f181 fun hb=>?_;have hb1:(ints t.Gives).length<=1125899906842624:=(hb.1 (sI t.Gives) (by simp)).1;have hb2:(parts.map eP).length<=1125899906842624:=hb.2.1.1;conv=>whnf
   repeat' first|((first|refine zz ?_|(refine xa ?_ ?_<;>intro _)|refine ⟨_,j5 t,?_⟩|refine ⟨_,j9 parts,?_⟩|refine ⟨_,xj _ _ _,?_⟩|refine ⟨_,x9 a 3 _ (by omega),?_⟩|refine wq ?_)<;>conv=>whnf)
   all_goals first
    | (exfalso; simp_all [addedOk]; done)
    | skip
   have hp':∀ i,i<parts.length->within (parts.getD i default) 3 10000000=true:=fun i hi=>hp _ (xp hi);have hkp:∀ b,(parts.all fun p=>inB (dot p a) (-(t.Gives.getD s.toNat 0)) (t.Gives.getD s.toNat 0))=b->trtKeeps t parts s a=b:=fun b hb=>by unfold trtKeeps keepsP; rw [hok,x1h,hb]
   refine Vc.loop1 (fun (i:Nat)=>i<=parts.length/\∀ j,j<i->(fun p=>inB (dot p a) (-(t.Gives.getD s.toNat 0)) (t.Gives.getD s.toNat 0)) (parts.getD j default)=true) (fun i=>updL [1,2,3,4] [(9,I i)] []) (fun i=>parts.length - i) 0 ⟨by omega,fun j hj=>absurd hj (x0z j)⟩ ?_ (fun i hi=>?_)
   · exact wl
   · obtain ⟨hi,ho⟩:=hi;have hlm:(parts.map eP).length=parts.length:=xzi ..;conv=>whnf
     (refine zA ?_)
     refine xd (fun g=>?_) (fun g=>?_)
     all_goals conv=>whnf
     · repeat' first|((first|refine zz ?_|(refine xa ?_ ?_<;>intro _)|refine ixN (enc:=eP) default (by omega) ?_|refine ⟨_,xh3 (parts.getD i default) a (hp' i (by omega)) hn,?_⟩|refine ixI (enc:=rI) 0 (by omega) (by omega) ?_|refine ⟨_,xj _ _ _,?_⟩|refine wq ?_)<;>conv=>whnf)
       all_goals first
        | (refine ⟨i+1,⟨by omega,fun j hj=>?_⟩,by simp only; omega,?_⟩
           · by_cases h':j<i
             · exact ho j h'
             · obtain rfl:j=i:=by omega
               clear ho;simp_all
           · exact wl)
        | (have hp:(fun p=>inB (dot p a) (-(t.Gives.getD s.toNat 0)) (t.Gives.getD s.toNat 0)) (parts.getD i default)=false:=by (clear ho; simp_all )
           have hn:parts.all (fun p=>inB (dot p a) (-(t.Gives.getD s.toNat 0)) (t.Gives.getD s.toNat 0))=false:=z8 default (j:=i) (by omega) hp
           exact rB (hkp _ hn).symm)
     · have hall:parts.all (fun p=>inB (dot p a) (-(t.Gives.getD s.toNat 0)) (t.Gives.getD s.toNat 0))=true:=z7 default fun j hj=>ho j (by omega)
       repeat' first|((first|refine zz ?_|(refine xa ?_ ?_<;>intro _)|refine ⟨_,xh3 (parts.getD i default) a (hp' i (by omega)) hn,?_⟩|refine ixI (enc:=rI) 0 (by omega) (by omega) ?_|refine ⟨_,xj _ _ _,?_⟩|refine wq ?_)<;>conv=>whnf)
       exact rB (hkp _ hall).symm
 · refine fO Go.Proofs.Tryz.f181 fun hb=>?_;have hb1:(ints t.Gives).length<=1125899906842624:=(hb.1 (sI t.Gives) (by simp)).1;conv=>whnf
   repeat' first|((first|refine zz ?_|(refine xa ?_ ?_<;>intro _)|refine ⟨_,j5 t,?_⟩|refine ⟨_,j9 parts,?_⟩|refine ⟨_,xj _ _ _,?_⟩|refine ⟨_,x9 a 3 _ (by omega),?_⟩|refine wq ?_)<;>conv=>whnf)
   all_goals first
    | exact rB (by unfold trtKeeps; simp_all)
    | (exfalso; simp_all [addedOk]; done)
theorem xrm (p q r:Bool) (x y z:Int):Sem P 182 [(.pure,.one (sBs [p,q,r])),(.pure,AI [x,y,z])] [] (B (unpinned [p,q,r] [x,y,z])):=by
 refine fO Go.Proofs.Tryz.f182 fun hb=>?_;conv=>whnf
 (refine zA ?_)
 refine Vc.loop1 (fun (v:Nat)=>v<=3/\(0<v->(!p || decide (x=0))=true)/\(1<v->(!q || decide (y=0))=true)/\(2<v->(!r || decide (z=0))=true)) (fun v=>updL [0,1] [(5,I v)] []) (fun v=>3 - v) 0 (by simp) ?_ (fun v hv=>?_)
 · exact wk
 · match v,hv with
   | 0,hv =>
     conv=>whnf
     repeat' first|((first|refine zz ?_|(refine xa ?_ ?_<;>intro _)|refine ixK rfl ?_|refine wq ?_)<;>conv=>whnf)
     all_goals first
      | exact rB (by simp_all [unpinned])
      | (refine ⟨1,by simp_all,by simp only; omega,?_⟩; exact wk)
   | 1,hv =>
     conv=>whnf
     repeat' first|((first|refine zz ?_|(refine xa ?_ ?_<;>intro _)|refine ixK rfl ?_|refine wq ?_)<;>conv=>whnf)
     all_goals first
      | exact rB (by simp_all [unpinned])
      | (refine ⟨2,by simp_all,by simp only; omega,?_⟩; exact wk)
   | 2,hv =>
     conv=>whnf
     repeat' first|((first|refine zz ?_|(refine xa ?_ ?_<;>intro _)|refine ixK rfl ?_|refine wq ?_)<;>conv=>whnf)
     all_goals first
      | exact rB (by simp_all [unpinned])
      | (refine ⟨3,by simp_all,by simp only; omega,?_⟩; exact wk)
   | 3,hv =>
     conv=>whnf
     (refine zA ?_)
     exact rB (by simp_all [unpinned])
abbrev sBy (bs:List UInt8):AV:=.sl 5 (bytesRows bs)
theorem xr6 (bs:List UInt8) (n:Nat):(bytesRows bs).take n=bytesRows (bs.take n):=x1u.symm
theorem xby (bs:List UInt8):∃ res,(∃ cs:List UInt8,cs.length<=2000/\res=.one (.fp [] (aRd cs 0) 0))/\Sem P 50 [(.pure,.one (sBy bs))] [] res:=by
 have lb:(bytesRows bs).length=bs.length:=xzi ..;by_cases h:bs.length<=2000
 · refine ⟨_,⟨bs,h,rfl⟩,?_⟩;refine fO Go.Proofs.Tryz.f50 fun hb=>?_;conv=>whnf
   repeat' first|((first|refine zz ?_|(refine xa ?_ ?_<;>intro _))<;>conv=>whnf)|(refine slN (by decide) (by decide) (by first|omega|(dsimp only; omega)|(simp<;>omega)|(simp_all<;>omega)) ?_;conv=>whnf)
   all_goals first|exact ⟨rfl,rfl⟩|(exfalso; simp_all; omega)
 · refine ⟨_,⟨bs.take 2000,by simp; omega,rfl⟩,?_⟩;refine fO Go.Proofs.Tryz.f50 fun hb=>?_;conv=>whnf
   repeat' first|((first|refine zz ?_|(refine xa ?_ ?_<;>intro _))<;>conv=>whnf)|(refine slN (by decide) (by decide) (by first|omega|(dsimp only; omega)|(simp<;>omega)|(simp_all<;>omega)) ?_;conv=>whnf)
   all_goals first|exact ⟨congrArg (fun x=>TV.one (.fp [] [.fr [] 5 x,eI 0] 0)) (xr6 _ _),rfl⟩|(exfalso; simp_all; omega)
end Cc
end
