/- The law FnMsgOk: part 28 of 38. No conditions beyond the statement. -/
import Derived.Test.YtnigojkdmmeglaaGreatDoorMok23
import Derived.Test.YtnigojkdmmeglaaGreatDoorMok24
import Derived.Test.YtnigojkdmmeglaaGreatDoorMok27
set_option linter.unusedVariables false
set_option linter.unusedSimpArgs false
set_option maxRecDepth 100000
set_option maxHeartbeats 16000000
section
namespace Cc
open Go Go.AM
theorem xqf (bs:List UInt8) (a:Int) (w:World) (hw:WorldF w) (ha:0<=a/\a<=5000000000) (hbs:bs.length<=2000) :
 ∃ os res,(∃ (e:Event) (a':Int),(a<=a'/\a'<=a+30)/\e.Args.length<=3/\res=.agg (eE e)/\os=aRd bs a')/\Sem P 184 [(.io 0 0,.agg (aRd bs a)),(.pure,.agg (aWd w))] [.agg os] res:=by
 by_cases h0:w.Net.length=0
 · exact xnc bs a w hw h0 ha hbs
 · exact xnd bs a w hw (by omega) ha hbs
theorem xne (bs:List UInt8) (a k:Int) (w:World) (hw:WorldF w) (ha:0<=a/\a<=5000000000) (hk:0<=k/\k<=1000000) (hbs:bs.length<=2000) :
 ∃ os res,(∃ (e:Event) (a':Int),(a<=a'/\a'<=a+30)/\e.Args.length<=3/\res=.agg (eE e)/\os=aRd bs a')/\Sem P 186 [(.io 0 0,.agg (aRd bs a)),(.pure,.agg (aWd w)),(.pure,I k)] [.agg os] res:=by
 refine drEventEnd ?_;obtain ⟨⟨s1,s2⟩,⟨c1,c2⟩,⟨p1,p2⟩,hn,hq⟩:=qe hw;have ls:(w.Sites.map eS).length=w.Sites.length:=xx3 ..;have lx:(w.Clients.map eX).length=w.Clients.length:=xx3 ..;have la:(w.Plan.Acts.map eA).length=w.Plan.Acts.length:=xx3 ..;have lm:(w.Net.map eM).length=w.Net.length:=xx3 ..;have lw:(w.Clerk.Wants.map eC).length=w.Clerk.Wants.length:=xx3 ..;refine xw (E:=E0) xm xn (fn:=Go.Proofs.Tryz.f186) (by kernel_rfl) (by kernel_rfl) ?_;conv=>whnf
 repeat' first|((first|refine zz ?_|(refine xa ?_ ?_<;>intro _))<;>conv=>whnf)|(refine callIo (xe bs _ _ (by first|omega|(dsimp only; omega)|(simp<;>omega)|(simp_all<;>omega)) (by first|omega|(dsimp only; omega)|(simp<;>omega)|(simp_all<;>omega)) hbs) ?_; rintro _ _ ⟨n,hn,rfl,rfl⟩;conv=>whnf)|(refine callIo (xa6 bs _ _ (by omega) (by omega) hbs) ?_; rintro _ _ ⟨l,b'',hb'',hl,rfl,rfl⟩;conv=>whnf)|((first|refine r64g (by omega) (by omega) fun c h1 h2 h3=>?_|refine wq ?_)<;>conv=>whnf)
 all_goals first
  | (refine drEv0 rfl ⟨?_,?_⟩<;>omega)
  | (refine drEv1 hl rfl ⟨?_,?_⟩<;>omega)
  | skip
 all_goals
  refine Vc.loop2 (fun (i:Nat) (c:Int)=>i<=w.Clients.length/\0<=c/\c<w.Clients.length) (fun i c=>updL [4,6,15,55,56,57,58,59,60,61,62,63,64,65,66,67,68,69,70,71] [(8,I i),(7,I c)] []) (fun i _=>w.Clients.length - i) 0 n ⟨by omega,by omega,by omega⟩ ?_ (fun i c hi=>?_)
  · exact wk
  · obtain ⟨hi,h0,h1⟩:=hi;conv=>whnf
    repeat' first|((first|refine zz ?_|(refine xa ?_ ?_<;>intro _)|refine ixI (enc:=eX) default (by omega) (by omega) ?_|refine r64g (by omega) (by omega) fun c' g1 g2 g3=>?_|refine wq ?_)<;>conv=>whnf)
    all_goals first
     | (refine ⟨i+1,_,⟨by simp only [xx7] at *; omega,by omega,by omega⟩,by simp only [xx7] at *; omega,?_⟩
        exact wk
        done)
     | (refine drEv0 rfl ⟨?_,?_⟩<;>omega)
theorem xtp (l:List Done) (hl:l.length<=100000):Sem P 173 [(.pure,.one (sDs l))] [] (AI (l.map Done.Seq)):=by
 refine fO Go.Proofs.Tryz.f173 fun hb=>?_;have hlm:(l.map eD).length=l.length:=xx3 ..;conv=>whnf
 (refine zA ?_)
 refine Vc.loop1 (fun (i:Nat)=>i<=l.length) (fun i=>updL [2,6,7,18] [(8,I i),(3,.one (.ref 128000))] [(128000,.arr 3 (ints ((l.map Done.Seq).take i)) false)]) (fun i=>l.length - i) 0 (xym _) ?_ (fun i hi=>?_)
 · exact wk
 · have hlo:(ints ((l.map Done.Seq).take i)).length=i:=by rw [xb,xyo,xx3]; omega
   conv=>whnf
   (refine zA ?_)
   refine xd (fun g=>?_) (fun g=>?_)
   all_goals conv=>whnf
   · repeat' first|((first|refine zz ?_|(refine xa ?_ ?_<;>intro _)|refine ixN (enc:=eD) default (by omega) ?_)<;>conv=>whnf)|(refine apN (by rw [hlo]; show i+1<=_; omega) ?_;conv=>whnf)|((first|refine wq ?_)<;>conv=>whnf)
     refine ⟨i+1,by omega,by simp only; omega,?_⟩
     repeat' (first|exact True.intro|((conv=>whnf);first|exact True.intro|refine ⟨by rfl,?_⟩|refine ⟨by first|omega|(show (_:Int)=_;first|omega|(dsimp only;omega))|exact xiu (by omega),?_⟩|refine ⟨?_,?_⟩))
   · have hend:(l.map Done.Seq).take i=l.map Done.Seq:=xyj (by rw [xx3]; omega)
     (refine zA ?_)
     exact ⟨by rw [hend],rfl⟩
theorem xhb (s:Site) (h:zS s<=100000):Sem P 79 [(.pure,.agg (aS s))] [] (.agg (aS s)):=by
 unfold zS at h;refine fK [2002,2005,2008] Go.Proofs.Tryz.f79 fun hb=>?_;conv=>whnf
 repeat' first|((first|refine zz ?_|(refine xa ?_ ?_<;>intro _)|refine ⟨_,y9 s.Base (by omega),?_⟩|refine ⟨_,y9 s.Added (by omega),?_⟩|refine ⟨_,xha s.Done (by omega),?_⟩)<;>conv=>whnf)
 exact ⟨rfl,rfl⟩
theorem xqt (p:Plan) (s:Site) (n:Int):Sem P 78 [(.pure,.agg (aPl p)),(.pure,.agg (aS s)),(.pure,I n)] [] (B (siteOk p s n)):=by
 have h1:=xbj p;have e:siteOk p s n=(planOk p && (isSite p n && siteB p s n)):=by unfold siteOk; rw [Bool.and_assoc]
 rw [e]
 cases hp:planOk p with
 | false =>
   rw [hp] at h1;refine fO Go.Proofs.Tryz.f78 fun hb=>?_;conv=>whnf
   repeat' first|((first|refine zz ?_|(refine xa ?_ ?_<;>intro _)|refine ⟨_,h1,?_⟩)<;>conv=>whnf)
   exact ⟨rfl,rfl⟩
 | true =>
   rw [hp] at h1;refine fO Go.Proofs.Tryz.f78 fun hb=>?_;conv=>whnf
   repeat' first|((first|refine zz ?_|(refine xa ?_ ?_<;>intro _)|refine ⟨_,h1,?_⟩|refine ⟨_,xgt p.Acts (j8 hp),?_⟩|refine ⟨_,xk5 p s n,?_⟩)<;>conv=>whnf)
   exact ⟨rfl,rfl⟩
theorem vm (p:Plan) (x:Msg):Sem P 24 [(.pure,.agg (aPl p)),(.pure,.agg (aM x))] [] (B (msgOk p x)):=by
 have h1:=xbj p;unfold msgOk
 cases hp:planOk p with
 | false =>
   rw [hp] at h1;refine fO Go.Proofs.Tryz.f24 fun hb=>?_;conv=>whnf
   repeat' first|((first|refine zz ?_|(refine xa ?_ ?_<;>intro _)|refine ⟨_,h1,?_⟩)<;>conv=>whnf)
   exact ⟨rfl,rfl⟩
 | true =>
   rw [hp] at h1;refine fO Go.Proofs.Tryz.f24 fun hb=>?_;conv=>whnf
   repeat' first|((first|refine zz ?_|(refine xa ?_ ?_<;>intro _)|refine ⟨_,h1,?_⟩|refine ⟨_,xp3 p x (xo hp),?_⟩)<;>conv=>whnf)
   exact ⟨rfl,rfl⟩
theorem xni (p:Plan) (x:Msg):Sem P 25 [(.pure,.agg (aPl p)),(.pure,.agg (aM x))] [] (B (msgOk p x)):=by
 have h1:=qf p;unfold msgOk
 cases hp:planOk p with
 | false =>
   rw [hp] at h1;refine fO Go.Proofs.Tryz.f25 fun hb=>?_;conv=>whnf
   repeat' first|((first|refine zz ?_|(refine xa ?_ ?_<;>intro _)|refine ⟨_,h1,?_⟩)<;>conv=>whnf)
   exact ⟨rfl,rfl⟩
 | true =>
   rw [hp] at h1;refine fO Go.Proofs.Tryz.f25 fun hb=>?_;conv=>whnf
   repeat' first|((first|refine zz ?_|(refine xa ?_ ?_<;>intro _)|refine ⟨_,h1,?_⟩|refine ⟨_,xcs p x (xo hp),?_⟩)<;>conv=>whnf)
   exact ⟨rfl,rfl⟩
theorem xnj (c:Clerk) (hg:c.Got.length<=1000) (hb':c.Base.length<=100000) (hd:zDs c.Done<=100000):Sem P 174 [(.io 0 0,.agg (eK c))] [.agg (eK c)] (.one (sMs (pacts c))):=by
 have lg:(c.Got.map eG).length=c.Got.length:=xx3 ..;refine fO Go.Proofs.Tryz.f174 fun hb=>?_;conv=>whnf
 (refine zA ?_)
 refine Vc.loop1 (fun (i:Nat)=>i<=c.Got.length) (fun i=>updL [0,2,9,33] [(10,I i),(3,.one (.ref 128000))] [(128000,.arr 55 (((List.range i).map fun (k:Nat)=>pactM c k).map eM) false)]) (fun i=>c.Got.length - i) 0 (xym _) ?_ (fun i hi=>?_)
 · exact wk
 · have hlo:(((List.range i).map fun (k:Nat)=>pactM c k).map eM).length=i:=by simp
   conv=>whnf
   (refine zA ?_)
   refine xd (fun g=>?_) (fun g=>?_)
   all_goals conv=>whnf
   · repeat' first|((first|refine zz ?_|(refine xa ?_ ?_<;>intro _)|refine ⟨_,y9 c.Base (by omega),?_⟩|refine ⟨_,xha c.Done (by omega),?_⟩)<;>conv=>whnf)|(refine apN (by rw [hlo]; show i+1<=_; omega) ?_;conv=>whnf)|((first|refine wq ?_)<;>conv=>whnf)
     refine ⟨i+1,by omega,by simp only; omega,?_⟩
     repeat' (first|exact True.intro|((conv=>whnf);first|exact True.intro|refine ⟨by rfl,?_⟩|refine ⟨by first|omega|(show (_:Int)=_;first|omega|(dsimp only;omega))|exact xiw (fun k=>pactM c k) i,?_⟩|refine ⟨?_,?_⟩))
   · have ei:i=c.Got.length:=by omega
     subst ei
     (refine zA ?_)
     exact ⟨rfl,rfl⟩
theorem xxm (g:Got):Sem P 175 [(.pure,.agg (aG g))] [] (B g.Has):=by
 refine fO Go.Proofs.Tryz.f175 fun hb=>?_;conv=>whnf
 repeat' first|((first|refine zz ?_|(refine xa ?_ ?_<;>intro _))<;>conv=>whnf)
 exact ⟨rfl,rfl⟩
theorem xnk  (l:List Got):Sem P 222 [(.pure,.one (sGs l)),(.pure,.one (.fn 175 []))] [] (I (idxOf (fun (x:Got)=>x.Has) l)):=by
 refine fO Go.Proofs.Tryz.f222 fun hb=>?_;have la:(l.map eG).length=l.length:=xx3 ..;have hb1:(l.map eG).length<=1125899906842624:=hb.1.1;conv=>whnf
 (refine zA ?_)
 refine Vc.loop { i:Nat // ∀ j,j<i->j<l.length->(fun (x:Got)=>x.Has) (l.getD j default)=false } (fun i=>updL [0,1,7] [(8,I i.1)] []) (fun i=>l.length - i.1) ⟨0,by simp⟩ ?_ (fun i=>?_)
 · exact wl
 · have hi:=i.2;conv=>whnf
   (refine zA ?_)
   refine xd (fun g=>?_) (fun g=>?_)
   all_goals conv=>whnf
   · repeat' first|((first|refine zz ?_|(refine xa ?_ ?_<;>intro _)|refine ixN (enc:=eG) default (by omega) ?_|refine ⟨_,xxm _,?_⟩|refine wq ?_)<;>conv=>whnf)
     · rename_i h;exact rI' (yy (p:=fun (x:Got)=>x.Has) default (by omega) h fun j hj=>hi j hj (by omega)).symm
     · rename_i h;refine ⟨⟨i.1+1,fun j hj hl=>?_⟩,?_,?_⟩
       · by_cases hji:j<i.1
         · exact hi j hji hl
         · obtain rfl:j=i.1:=by omega
           exact h
       · simp only; omega
       · exact wl
   ·
    (refine zA ?_)
    exact rI' (yp (p:=fun (x:Got)=>x.Has) default fun j hj=>hi j (by omega) hj).symm
theorem xvj  (l:List Got):Sem P 134 [(.pure,.one (sGs l)),(.pure,.one (.fn 175 []))] [] (B (l.any fun (x:Got)=>x.Has)):=by
 refine fO Go.Proofs.Tryz.f134 fun hb=>?_;conv=>whnf
 repeat' first|((first|refine zz ?_|(refine xa ?_ ?_<;>intro _)|refine ⟨_,xnk  l,?_⟩)<;>conv=>whnf)
 exact rB (ze _ _)
theorem xqu (c:Clerk) (hg:c.Got.length<=1000) (hb':c.Base.length<=100000) (hd:zDs c.Done<=100000):Sem P 82 [(.io 0 0,.agg (eK c))] [.agg (eK c)] (.one (sMs (clerkTick c))):=by
 have lg:(c.Got.map eG).length=c.Got.length:=xx3 ..;have lw:(c.Wants.map eC).length=c.Wants.length:=xx3 ..;have lp:((pacts c).map eM).length=c.Got.length:=by simp [pacts]
 have hP:=xnj c hg hb' hd;have hA:=xvj c.Got
 have e:clerkTick c=if c.Up then pacts c++(if !c.Wants.isEmpty || c.Got.any Got.Has then freezes c else []) else []:=rfl
 have ew:(!c.Wants.isEmpty)=decide ((c.Wants.length:Int)>0):=by
  cases c.Wants with
  | nil=>rfl
  | cons a r=>symm; simp only [List.isEmpty_cons,x04,xx7,xyr]; omega
 rw [ew] at e
 cases hu:c.Up with
 | false =>
   rw [hu,if_neg (by decide)] at e;rw [e];obtain ⟨up,rd,bs,dn,wa,go⟩:=c;simp only at hu;subst hu;refine fO Go.Proofs.Tryz.f82 fun hb=>?_;conv=>whnf
   repeat' first|((first|refine zz ?_|(refine xa ?_ ?_<;>intro _))<;>conv=>whnf)
   exact ⟨rfl,rfl⟩
 | true =>
   rw [hu,if_pos rfl] at e;obtain ⟨up,rd,bs,dn,wa,go⟩:=c;simp only at hu hg hb' hd lw lg lp e hA;subst hu
   cases hf:(decide ((wa.length:Int)>0) || go.any Got.Has) with
   | false =>
     rw [hf,if_neg (by decide),xy5] at e;rw [e];simp only [x13] at hf;rw [hf.2] at hA;refine fK [4001] Go.Proofs.Tryz.f82 fun hb=>?_;conv=>whnf
     repeat' first|((first|refine zz ?_|(refine xa ?_ ?_<;>intro _)|refine ⟨_,_,hP,?_⟩|refine ⟨_,hA,?_⟩)<;>conv=>whnf)
     all_goals first
      | exact ⟨rfl,rfl⟩
      | (exfalso; simp only [xx7,xyh] at *; omega)
   | true =>
     rw [hf,if_pos rfl] at e;rw [e];generalize hb2:go.any Got.Has=b2 at *;cases b2
     all_goals
      refine fK [4001] Go.Proofs.Tryz.f82 fun hb=>?_;conv=>whnf
      repeat' first|((first|refine zz ?_|(refine xa ?_ ?_<;>intro _)|refine ⟨_,_,hP,?_⟩|refine ⟨_,hA,?_⟩)<;>conv=>whnf)
     all_goals first
      | (exfalso; simp only [xzr,xx7,xyh,x1e,x00] at *; omega)
      | skip
     all_goals
      refine Vc.loop1 (fun (i:Nat)=>i<=go.length) (fun i=>updL [0,2,29,43] [(30,I i),(3,.one (.ref 256064))] [(256064,.arr 55 ((pacts ⟨true,rd,bs,dn,wa,go⟩++(List.range i).map fun (k:Nat)=>freezeM ⟨true,rd,bs,dn,wa,go⟩ k).map eM) false)]) (fun i=>go.length - i) 0 (xym _) ?_ (fun i hi=>?_)
      · repeat' (first|exact True.intro|((conv=>whnf);first|exact True.intro|refine ⟨by rfl,?_⟩|refine ⟨by first|omega|(show (_:Int)=_;first|omega|(dsimp only;omega))|exact (by simp),?_⟩|refine ⟨?_,?_⟩))
      · have hlo:((pacts ⟨true,rd,bs,dn,wa,go⟩++(List.range i).map fun (k:Nat)=>freezeM ⟨true,rd,bs,dn,wa,go⟩ k).map eM).length=go.length+i:=by simp [pacts]
        conv=>whnf
        (refine zA ?_)
        refine xd (fun g=>?_) (fun g=>?_)
        all_goals conv=>whnf
        all_goals dsimp only at g
        · repeat' first|((first|refine zz ?_|(refine xa ?_ ?_<;>intro _))<;>conv=>whnf)|(refine apN (by rw [hlo]; show go.length+i+1<=_; omega) ?_;conv=>whnf)|((first|refine wq ?_)<;>conv=>whnf)
          refine ⟨i+1,by omega,by simp only; omega,?_⟩
          repeat' (first|exact True.intro|((conv=>whnf);first|exact True.intro|refine ⟨by rfl,?_⟩|refine ⟨by first|omega|(show (_:Int)=_;first|omega|(dsimp only;omega))|exact xg3 _ (fun k=>freezeM ⟨true,rd,bs,dn,wa,go⟩ k) i,?_⟩|refine ⟨?_,?_⟩))
        · have ei:i=go.length:=by omega
          subst ei
          (refine zA ?_)
          exact ⟨rfl,rfl⟩
end Cc
end
