/- The laws FnMsgOk, FnSitFree: part 19 of 41. No conditions beyond the statement. -/
import Derived.Test.YtnigojkdmmeglaaGreatDoorAll17
set_option linter.unusedVariables false
set_option linter.unusedSimpArgs false
set_option maxRecDepth 100000
set_option maxHeartbeats 16000000
section
namespace Cc
open Go Go.AM
theorem w7 {α:Type} [Inhabited α] (f:α->Nat) {l:List α} {i n:Nat} (h:l.length+zs f l<=n) (hi:i<l.length):f (l.getD i default)<=n:=by
 have:=xyx f (xp hi); omega
theorem yh (r:Rslt) (h:r.Tells.length<=1000000):Sem P 131 [(.pure,.agg (aR r))] [] (.agg (aR r)):=by
 have lt:=xb r.Tells;refine fO Go.Proofs.Tryz.f131 fun hb=>?_;conv=>whnf
 repeat' first|((first|refine zz ?_|(refine xa ?_ ?_<;>intro _)|refine apI ?_)<;>conv=>whnf)|(refine apN (by simp only [xz4]; omega) ?_;conv=>whnf)
 exact ⟨rfl,rfl⟩
theorem x3 (c:Call) (h:c.Args.length<=1000000):Sem P 132 [(.pure,.agg (aC c))] [] (.agg (aC c)):=by
 have lt:=xb c.Args;refine fO Go.Proofs.Tryz.f132 fun hb=>?_;conv=>whnf
 repeat' first|((first|refine zz ?_|(refine xa ?_ ?_<;>intro _)|refine apI ?_)<;>conv=>whnf)|(refine apN (by simp only [xz4]; omega) ?_;conv=>whnf)
 exact ⟨rfl,rfl⟩
theorem jg (l:List Done) (h:zDs l<=1000000):Sem P 215 [(.pure,.one (sDs l))] [] (.one (sDs l)):=by
 have hl:l.length<=1000000:=by unfold zDs at h; omega
 refine fO Go.Proofs.Tryz.f215 fun hb=>?_;have hlm:(l.map eD).length=l.length:=xzi ..;conv=>whnf
 (refine zA ?_)
 refine Vc.loop1 (fun (i:Nat)=>i<=l.length) (fun i=>updL [0,2] [(4,I i),(3,.one (.ref 128000))] [(128000,.arr 79 ((l.take i).map eD) false)]) (fun i=>l.length - i) 0 (xz1 _) ?_ (fun i hi=>?_)
 · exact wk
 · have hlo:((l.take i).map eD).length=i:=by rw [xzi,xz3]; omega
   conv=>whnf
   (refine zA ?_)
   refine xd (fun g=>?_) (fun g=>?_)
   all_goals conv=>whnf
   · have hz:zD (l.getD i default)<=1000000:=w7 zD (by unfold zDs at h; exact h) (by omega)
     repeat' first|((first|refine zz ?_|(refine xa ?_ ?_<;>intro _)|refine ixN (enc:=eD) default (by omega) ?_)<;>conv=>whnf)|(refine ⟨_,yh (l.getD i default).Res (by unfold zD zR at hz; exact hz),?_⟩;conv=>whnf)|(refine apN (by rw [hlo]; show i+1<=_; omega) ?_;conv=>whnf)|((first|refine wq ?_)<;>conv=>whnf)
     refine ⟨i+1,by omega,by simp only; omega,?_⟩
     repeat' (first|exact True.intro|((conv=>whnf);first|exact True.intro|refine ⟨by rfl,?_⟩|refine ⟨by first|omega|(show (_:Int)=_;first|omega|(dsimp only;omega))|exact qe (by omega),?_⟩|refine ⟨?_,?_⟩))
   · have hend:l.take i=l:=xzx (by omega)
     (refine zA ?_)
     exact ⟨by rw [hend],rfl⟩
theorem jh (s:Site) (h:zS s<=1000000):Sem P 178 [(.pure,.agg (aS s))] [] (.agg (aS s)):=by
 have lb:=xb s.Base;have la:=xb s.Added;unfold zS at h;refine fK [2016] Go.Proofs.Tryz.f178 fun hb=>?_;conv=>whnf
 repeat' first|((first|refine zz ?_|(refine xa ?_ ?_<;>intro _)|refine apI ?_)<;>conv=>whnf)|(refine apN (by simp only [xz4]; omega) ?_;conv=>whnf)|((first|refine ⟨_,jg s.Done (by omega),?_⟩)<;>conv=>whnf)
 exact ⟨rfl,rfl⟩
theorem xbg (m:Msg) (h:zM m<=1000000):Sem P 164 [(.pure,.agg (aM m))] [] (.agg (aM m)):=by
 have lb:=xb m.Vals;have la:=xb m.Seqs;unfold zM zC at h;refine fK [2002,5002] Go.Proofs.Tryz.f164 fun hb=>?_;conv=>whnf
 repeat' first|((first|refine zz ?_|(refine xa ?_ ?_<;>intro _)|refine apI ?_)<;>conv=>whnf)|(refine apN (by simp only [xz4]; omega) ?_;conv=>whnf)|((first|refine ⟨_,jg m.Done (by omega),?_⟩|refine ⟨_,x3 m.Call (by omega),?_⟩)<;>conv=>whnf)
 exact ⟨rfl,rfl⟩
abbrev aKo (c:Clerk):List AV:=[eB c.Up,eI c.Round,sI c.Base,sDs c.Done,sCs c.Wants,.sl 105 (c.Got.map aG)]
theorem zo (c:Clerk) (h:zK c<=1000000):Sem P 117 [(.pure,.agg (aK c))] [] (.agg (aKo c)):=by
 have lb:=xb c.Base;unfold zK zCs zGs at h;refine yp (E:={ E0 with keep:=[2010],fz:=[] }) xm xn (fn:=Go.Proofs.Tryz.f117) (by kernel_rfl) (by kernel_rfl) (fun hb=>?_);have lw:(c.Wants.map eC).length=c.Wants.length:=xzi ..;have lg:(c.Got.map eG).length=c.Got.length:=xzi ..;conv=>whnf
 repeat' first|((first|refine zz ?_|(refine xa ?_ ?_<;>intro _)|refine apI ?_)<;>conv=>whnf)|(refine apN (by simp only [xz4]; omega) ?_;conv=>whnf)|((first|refine ⟨_,jg c.Done (by omega),?_⟩)<;>conv=>whnf)
 refine Vc.loop1 (fun (i:Nat)=>i<=c.Wants.length) (fun i=>updL [1,2,3,5,36,37,38,39,40,41,42,43,44,45,46,47,48,49,50,51,52,53,54,55,56,57,58,59,60,61,62,63,64,65,66,67,68,69,70,71] [(4,I i)] [(128837,.arr 50 ((c.Wants.take i).map eC) false)]) (fun i=>c.Wants.length - i) 0 (xz1 _) ?_ (fun i hi=>?_)
 · exact wk
 · have hlo:((c.Wants.take i).map eC).length=i:=by rw [xzi,xz3]; omega
   conv=>whnf
   (refine zA ?_)
   refine xd (fun g=>?_) (fun g=>?_)
   all_goals conv=>whnf
   · have hz:zC (c.Wants.getD i default)<=1000000:=w7 zC (by omega) (by omega)
     repeat' first|((first|refine zz ?_|(refine xa ?_ ?_<;>intro _)|refine ixN (enc:=eC) default (by omega) ?_)<;>conv=>whnf)|(refine ⟨_,x3 (c.Wants.getD i default) (by unfold zC at hz; exact hz),?_⟩;conv=>whnf)|(refine apN (by rw [hlo]; show i+1<=_; omega) ?_;conv=>whnf)|((first|refine wq ?_)<;>conv=>whnf)
     refine ⟨i+1,by omega,by simp only; omega,?_⟩
     repeat' (first|exact True.intro|((conv=>whnf);first|exact True.intro|refine ⟨by rfl,?_⟩|refine ⟨by first|omega|(show (_:Int)=_;first|omega|(dsimp only;omega))|exact qe (by omega),?_⟩|refine ⟨?_,?_⟩))
   · have hend:c.Wants.take i=c.Wants:=xzx (by omega);rw [hend]
     (refine zA ?_)
     refine Vc.loop1 (fun (k:Nat)=>k<=c.Got.length) (fun k=>updL [1,2,3,71] [(5,I k)] [(128838,.arr 105 ((c.Got.take k).map aG) false)]) (fun k=>c.Got.length - k) 0 (xz1 _) ?_ (fun k hk=>?_)
     · exact wk
     · have hlo:((c.Got.take k).map aG).length=k:=by rw [xzi,xz3]; omega
       conv=>whnf
       (refine zA ?_)
       refine xd (fun g=>?_) (fun g=>?_)
       all_goals conv=>whnf
       · have hz:zG (c.Got.getD k default)<=1000000:=w7 zG (by omega) (by omega);unfold zG at hz;have l1:=xb (c.Got.getD k default).Added;have l2:=xb (c.Got.getD k default).Seqs
         repeat' first|((first|refine zz ?_|(refine xa ?_ ?_<;>intro _)|refine ixN (enc:=eG) default (by omega) ?_|refine apI ?_)<;>conv=>whnf)|(refine apN (by simp only [xz4]; omega) ?_;conv=>whnf)|(refine apN (by rw [hlo]; show k+1<=_; omega) ?_;conv=>whnf)|((first|refine wq ?_)<;>conv=>whnf)
         refine ⟨k+1,by omega,by simp only; omega,?_⟩
         repeat' (first|exact True.intro|((conv=>whnf);first|exact True.intro|refine ⟨by rfl,?_⟩|refine ⟨by first|omega|(show (_:Int)=_;first|omega|(dsimp only;omega))|exact qe (by omega),?_⟩|refine ⟨?_,?_⟩))
       · have hend2:c.Got.take k=c.Got:=xzx (by omega)
         (refine zA ?_)
         exact ⟨by rw [hend2]; rfl,rfl⟩
theorem xfj (l:List Got):Cold (.sl 105 (l.map aG)) (fGs l):=xjr (fun _=>rfl) fun x k a b ha hb=>by
 match k,ha,hb with
 | 0,ha,hb=>cases ha; cases hb; exact Imp.rfl
 | 1,ha,hb=>cases ha; cases hb; exact qo Imp.rfl
 | 2,ha,hb=>cases ha; cases hb; exact qo Imp.rfl
 | k+3,ha,hb=>simp at ha
theorem xiz (c:Clerk) (h:zK c<=1000000):Sem P 117 [(.pure,.agg (aK c))] [] (.agg (eK c)):=by
 refine Sem.cold (cs:=aKo c) (cs':=eK c) rfl (fun k a b ha hb=>?_) (zo c h)
 match k,ha,hb with
 | 0,ha,hb=>cases ha; cases hb; exact xl
 | 1,ha,hb=>cases ha; cases hb; exact xl
 | 2,ha,hb=>cases ha; cases hb; exact xg
 | 3,ha,hb=>cases ha; cases hb; exact xg
 | 4,ha,hb=>cases ha; cases hb; exact xg
 | 5,ha,hb=>cases ha; cases hb; exact xfj c.Got
 | k+6,ha,hb=>simp at ha
abbrev oWd (w:World):List AV:=[eI w.Plan.Clients,fAs w.Plan.Acts,fI w.Plan.Gives,fI w.Plan.Start,sSs w.Sites,eB w.Clerk.Up,eI w.Clerk.Round,fI w.Clerk.Base,fDs w.Clerk.Done,fCs w.Clerk.Wants,fGs w.Clerk.Got,sXs w.Clients,sMs w.Net,sOs w.Log]
theorem xi0 (w:World) (h:zWd w<=1000000) (hp:cpA w.Plan.Acts) (hg:w.Plan.Gives.length<=100) (hst:w.Plan.Start.length<=100):Sem P 115 [(.pure,.agg (aWd w))] [] (.agg (oWd w)):=by
 unfold zWd zSs zXs zMs zOs at h;refine fO Go.Proofs.Tryz.f115 fun hb=>?_;have l1:(w.Sites.map eS).length=w.Sites.length:=xzi ..;have l2:(w.Clients.map eX).length=w.Clients.length:=xzi ..;have l3:(w.Net.map eM).length=w.Net.length:=xzi ..;have l4:(w.Log.map eO).length=w.Log.length:=xzi ..;conv=>whnf
 repeat' first|((first|refine zz ?_|(refine xa ?_ ?_<;>intro _)|refine ⟨_,xd1 w.Plan hp hg hst,?_⟩|refine ⟨_,xiz w.Clerk (by omega),?_⟩)<;>conv=>whnf)
 refine Vc.loop1 (fun (i:Nat)=>i<=w.Sites.length) (fun i=>updL [1,2,3,5,6,7,8,34,35,36,37,38,39,40,41,42,43,44,45,46,47,48,49,50,51,52,53,54,55,56,57,58,59,60,61,62,63,64,65,66,67,68,69,70,71,72,73,74,75,76,77,78,79,80,81,82,83,84,85,86,87,88,89,90,91,92,93,94,95,96,97,98,99,100,101,102,103,104,105,106,107] [(4,I i)] [(128517,.arr 60 ((w.Sites.take i).map eS) false)]) (fun i=>w.Sites.length - i) 0 (xz1 _) ?_ (fun i hi=>?_)
 · exact wk
 · have hlo:((w.Sites.take i).map eS).length=i:=by rw [xzi,xz3]; omega
   conv=>whnf
   (refine zA ?_)
   refine xd (fun g=>?_) (fun g=>?_)
   all_goals conv=>whnf
   · have hz:zS (w.Sites.getD i default)<=1000000:=w7 zS (by omega) (by omega)
     repeat' first|((first|refine zz ?_|(refine xa ?_ ?_<;>intro _)|refine ixN (enc:=eS) default (by omega) ?_|refine ⟨_,jh (w.Sites.getD i default) hz,?_⟩)<;>conv=>whnf)|(refine apN (by rw [hlo]; show i+1<=_; omega) ?_;conv=>whnf)|((first|refine wq ?_)<;>conv=>whnf)
     refine ⟨i+1,by omega,by simp only; omega,?_⟩
     repeat' (first|exact True.intro|((conv=>whnf);first|exact True.intro|refine ⟨by rfl,?_⟩|refine ⟨by first|omega|(show (_:Int)=_;first|omega|(dsimp only;omega))|exact qe (by omega),?_⟩|refine ⟨?_,?_⟩))
   · have hend:w.Sites.take i=w.Sites:=xzx (by omega);rw [hend]
     (refine zA ?_)
     refine Vc.loop1 (fun (i:Nat)=>i<=w.Clients.length) (fun i=>updL [1,2,3,7,8,62,63,64,65,66,67,68,69,70,71,72,73,74,75,76,77,78,79,80,81,82,83,84,85,86,87,88,89,90,91,92,93,94,95,96,97,98,99,100,101,102,103,104,105,106,107] [(5,I i)] [(128524,.arr 163 ((w.Clients.take i).map eX) false)]) (fun i=>w.Clients.length - i) 0 (xz1 _) ?_ (fun i hi=>?_)
     · exact wk
     · have hlo:((w.Clients.take i).map eX).length=i:=by rw [xzi,xz3]; omega
       conv=>whnf
       (refine zA ?_)
       refine xd (fun g=>?_) (fun g=>?_)
       all_goals conv=>whnf
       · have hz:zX (w.Clients.getD i default)<=1000000:=w7 zX (by omega) (by omega);unfold zX zC zR at hz
         repeat' first|((first|refine zz ?_|(refine xa ?_ ?_<;>intro _)|refine ixN (enc:=eX) default (by omega) ?_|refine ⟨_,x3 (w.Clients.getD i default).Call (by omega),?_⟩|refine ⟨_,yh (w.Clients.getD i default).Res (by omega),?_⟩)<;>conv=>whnf)|(refine apN (by rw [hlo]; show i+1<=_; omega) ?_;conv=>whnf)|((first|refine wq ?_)<;>conv=>whnf)
         refine ⟨i+1,by omega,by simp only; omega,?_⟩
         repeat' (first|exact True.intro|((conv=>whnf);first|exact True.intro|refine ⟨by rfl,?_⟩|refine ⟨by first|omega|(show (_:Int)=_;first|omega|(dsimp only;omega))|exact qe (by omega),?_⟩|refine ⟨?_,?_⟩))
       · have hend:w.Clients.take i=w.Clients:=xzx (by omega);rw [hend]
         (refine zA ?_)
         refine Vc.loop1 (fun (i:Nat)=>i<=w.Net.length) (fun i=>updL [1,2,3,8,80,81,82,83,84,85,86,87,88,89,90,91,92,93,94,95,96,97,98,99,100,101,102,103,104,105,106,107] [(7,I i)] [(128525,.arr 55 ((w.Net.take i).map eM) false)]) (fun i=>w.Net.length - i) 0 (xz1 _) ?_ (fun i hi=>?_)
         · exact wk
         · have hlo:((w.Net.take i).map eM).length=i:=by rw [xzi,xz3]; omega
           conv=>whnf
           (refine zA ?_)
           refine xd (fun g=>?_) (fun g=>?_)
           all_goals conv=>whnf
           · have hz:zM (w.Net.getD i default)<=1000000:=w7 zM (by omega) (by omega)
             repeat' first|((first|refine zz ?_|(refine xa ?_ ?_<;>intro _)|refine ixN (enc:=eM) default (by omega) ?_|refine ⟨_,xbg (w.Net.getD i default) hz,?_⟩)<;>conv=>whnf)|(refine apN (by rw [hlo]; show i+1<=_; omega) ?_;conv=>whnf)|((first|refine wq ?_)<;>conv=>whnf)
             refine ⟨i+1,by omega,by simp only; omega,?_⟩
             repeat' (first|exact True.intro|((conv=>whnf);first|exact True.intro|refine ⟨by rfl,?_⟩|refine ⟨by first|omega|(show (_:Int)=_;first|omega|(dsimp only;omega))|exact qe (by omega),?_⟩|refine ⟨?_,?_⟩))
           · have hend:w.Net.take i=w.Net:=xzx (by omega);rw [hend]
             (refine zA ?_)
             refine Vc.loop1 (fun (i:Nat)=>i<=w.Log.length) (fun i=>updL [1,2,3,107] [(8,I i)] [(128526,.arr 230 ((w.Log.take i).map eO) false)]) (fun i=>w.Log.length - i) 0 (xz1 _) ?_ (fun i hi=>?_)
             · exact wk
             · have hlo:((w.Log.take i).map eO).length=i:=by rw [xzi,xz3]; omega
               conv=>whnf
               (refine zA ?_)
               refine xd (fun g=>?_) (fun g=>?_)
               all_goals conv=>whnf
               · have hz:zO (w.Log.getD i default)<=1000000:=w7 zO (by omega) (by omega);unfold zO zC zR at hz
                 repeat' first|((first|refine zz ?_|(refine xa ?_ ?_<;>intro _)|refine ixN (enc:=eO) default (by omega) ?_|refine ⟨_,x3 (w.Log.getD i default).Call (by omega),?_⟩|refine ⟨_,yh (w.Log.getD i default).Res (by omega),?_⟩)<;>conv=>whnf)|(refine apN (by rw [hlo]; show i+1<=_; omega) ?_;conv=>whnf)|((first|refine wq ?_)<;>conv=>whnf)
                 refine ⟨i+1,by omega,by simp only; omega,?_⟩
                 repeat' (first|exact True.intro|((conv=>whnf);first|exact True.intro|refine ⟨by rfl,?_⟩|refine ⟨by first|omega|(show (_:Int)=_;first|omega|(dsimp only;omega))|exact qe (by omega),?_⟩|refine ⟨?_,?_⟩))
               · have hend:w.Log.take i=w.Log:=xzx (by omega);rw [hend]
                 (refine zA ?_)
                 exact ⟨rfl,rfl⟩
theorem xjs (x c:Call) (r:List Call):wantIn (x::r) c=if c.Client<x.Client then c::x::r else if x.Client=c.Client then (if c.Seq<x.Seq then x::r else c::r) else x::wantIn r c:=rfl
theorem xbx {α:Type} [Inhabited α] {l:List α} {i:Nat} (h:i<l.length):l.drop i=l.getD i default::l.drop (i+1):=by
 rw [x16 h,xzo,xzh h]; rfl
theorem jy (l:List Call) (x:Call):l.map eC++[eC x]=(l++[x]).map eC:=by simp
theorem xrl (l:List Call) (x y:Call):l.map eC++[eC x]++[eC y]=(l++[x,y]).map eC:=by simp
theorem w9 (l:List Call) (c:Call) (hl:l.length<=1000) (ha:c.Args.length<=1000000):Sem P 120 [(.pure,.one (sCs l)),(.pure,.agg (aC c))] [] (.one (sCs (wantIn l c))):=by
 have lm:(l.map eC).length=l.length:=xzi ..;refine fO Go.Proofs.Tryz.f120 fun hb=>?_;conv=>whnf
 (refine zA ?_)
 refine Vc.loop3 (fun (i:Nat) (d:Bool) (out:List Call)=>i<=l.length/\out.length<=i+1/\(d=true->out++l.drop i=wantIn l c)/\(d=false->out.length<=i/\out++wantIn (l.drop i) c=wantIn l c)) (fun i d out=>updL [0,1,3,4] [(7,I i),(6,B d),(5,.one (.ref 128000))] [(128000,.arr 50 (out.map eC) false)]) (fun i _ _=>l.length - i) 0 false [] ⟨xz1 _,by simp,fun h=>by simp at h,fun _=>⟨x0r _,rfl⟩⟩ ?_ (fun i d out hi=>?_)
 · exact wk
 · obtain ⟨hi,ho,h1,h2⟩:=hi;have lo:(out.map eC).length=out.length:=xzi ..
   cases d with
   | true =>
     have h1:=h1 rfl;conv=>whnf
     (refine zA ?_)
     refine xd (fun g=>?_) (fun g=>?_)
     all_goals conv=>whnf
     · have hil:i<l.length:=by omega
       rw [xbx hil] at h1
       repeat' first|((first|refine zz ?_|(refine xa ?_ ?_<;>intro _)|refine ixN (enc:=eC) default hil ?_)<;>conv=>whnf)|(refine apN (by rw [lo]; show _+1<=_; omega) ?_;conv=>whnf)|((first|refine wq ?_)<;>conv=>whnf)
       refine ⟨i+1,true,out++[l.getD i default],⟨by omega,by simp only [xzu,x0e]; omega,fun _=>by rw [x0c]; exact h1,fun h=>by simp at h⟩,by simp only; omega,?_⟩
       repeat' (first|exact True.intro|((conv=>whnf);first|exact True.intro|refine ⟨by rfl,?_⟩|refine ⟨by first|omega|(show (_:Int)=_;first|omega|(dsimp only;omega))|exact jy _ _,?_⟩|refine ⟨?_,?_⟩))
     ·
      (refine zA ?_)
      have e:l.drop i=[]:=x1x (by omega);rw [e,x0l] at h1;exact ⟨by rw [h1],rfl⟩
   | false =>
     obtain ⟨ho2,h2⟩:=h2 rfl;conv=>whnf
     (refine zA ?_)
     refine xd (fun g=>?_) (fun g=>?_)
     all_goals conv=>whnf
     · have hil:i<l.length:=by omega
       rw [xbx hil,xjs] at h2;have hcase:(l.getD i default).Client<c.Client\/((l.getD i default).Client=c.Client/\c.Seq<(l.getD i default).Seq)\/((l.getD i default).Client=c.Client/\¬ c.Seq<(l.getD i default).Seq)\/c.Client<(l.getD i default).Client:=by omega
       rcases hcase with hA|hA|hA|hA
       · have hq:(out++[l.getD i default])++wantIn (l.drop (i+1)) c=wantIn l c:=by
          rw [if_neg (by omega),if_neg (by omega)] at h2; rw [x0c]; exact h2
         repeat' first|((first|refine zz ?_|(refine xa ?_ ?_<;>intro _)|refine ixN (enc:=eC) default hil ?_|refine ⟨_,x3 c ha,?_⟩)<;>conv=>whnf)|(refine apN (by rw [lo]; show _+1<=_; omega) ?_;conv=>whnf)|(refine apN (by simp only [xzu,xzi,xz6,xz4]; omega) ?_;conv=>whnf)|((first|refine wq ?_)<;>conv=>whnf)
         all_goals first
          | (exfalso; simp only [xzk,xzw,x1d,x00,ne_eq,ge_iff_le,x2c] at *; omega)
          | (refine ⟨i+1,false,out++[l.getD i default],⟨by omega,by simp only [xzu,xz6,xz4]; omega,fun h=>by simp at h,fun _=>⟨by simp only [xzu,xz6,xz4]; omega,hq⟩⟩,by simp only; omega,?_⟩
             repeat' (first|exact True.intro|((conv=>whnf);first|exact True.intro|refine ⟨by rfl,?_⟩|refine ⟨by first|omega|(show (_:Int)=_;first|omega|(dsimp only;omega))|exact jy _ _,?_⟩|refine ⟨?_,?_⟩)))
       · have hq:(out++[l.getD i default])++l.drop (i+1)=wantIn l c:=by
          rw [if_neg (by omega),if_pos (by omega),if_pos (by omega)] at h2; rw [x0c]; exact h2
         repeat' first|((first|refine zz ?_|(refine xa ?_ ?_<;>intro _)|refine ixN (enc:=eC) default hil ?_|refine ⟨_,x3 c ha,?_⟩)<;>conv=>whnf)|(refine apN (by rw [lo]; show _+1<=_; omega) ?_;conv=>whnf)|(refine apN (by simp only [xzu,xzi,xz6,xz4]; omega) ?_;conv=>whnf)|((first|refine wq ?_)<;>conv=>whnf)
         all_goals first
          | (exfalso; simp only [xzk,xzw,x1d,x00,ne_eq,ge_iff_le,x2c] at *; omega)
          | (refine ⟨i+1,true,out++[l.getD i default],⟨by omega,by simp only [xzu,xz6,xz4]; omega,fun _=>hq,fun h=>by simp at h⟩,by simp only; omega,?_⟩
             repeat' (first|exact True.intro|((conv=>whnf);first|exact True.intro|refine ⟨by rfl,?_⟩|refine ⟨by first|omega|(show (_:Int)=_;first|omega|(dsimp only;omega))|exact jy _ _,?_⟩|refine ⟨?_,?_⟩)))
       · have hq:(out++[c])++l.drop (i+1)=wantIn l c:=by
          rw [if_neg (by omega),if_pos (by omega),if_neg (by omega)] at h2; rw [x0c]; exact h2
         repeat' first|((first|refine zz ?_|(refine xa ?_ ?_<;>intro _)|refine ixN (enc:=eC) default hil ?_|refine ⟨_,x3 c ha,?_⟩)<;>conv=>whnf)|(refine apN (by rw [lo]; show _+1<=_; omega) ?_;conv=>whnf)|(refine apN (by simp only [xzu,xzi,xz6,xz4]; omega) ?_;conv=>whnf)|((first|refine wq ?_)<;>conv=>whnf)
         all_goals first
          | (exfalso; simp only [xzk,xzw,x1d,x00,ne_eq,ge_iff_le,x2c] at *; omega)
          | (refine ⟨i+1,true,out++[c],⟨by omega,by simp only [xzu,xz6,xz4]; omega,fun _=>hq,fun h=>by simp at h⟩,by simp only; omega,?_⟩
             repeat' (first|exact True.intro|((conv=>whnf);first|exact True.intro|refine ⟨by rfl,?_⟩|refine ⟨by first|omega|(show (_:Int)=_;first|omega|(dsimp only;omega))|exact jy _ _,?_⟩|refine ⟨?_,?_⟩)))
       · have hq:(out++[c,l.getD i default])++l.drop (i+1)=wantIn l c:=by
          rw [if_pos (by omega)] at h2; rw [x0c]; exact h2
         repeat' first|((first|refine zz ?_|(refine xa ?_ ?_<;>intro _)|refine ixN (enc:=eC) default hil ?_|refine ⟨_,x3 c ha,?_⟩)<;>conv=>whnf)|(refine apN (by rw [lo]; show _+1<=_; omega) ?_;conv=>whnf)|(refine apN (by simp only [xzu,xzi,xz6,xz4]; omega) ?_;conv=>whnf)|((first|refine wq ?_)<;>conv=>whnf)
         all_goals first
          | (exfalso; simp only [xzk,xzw,x1d,x00,ne_eq,ge_iff_le,x2c] at *; omega)
          | (refine ⟨i+1,true,out++[c,l.getD i default],⟨by omega,by simp only [xzu,xz6,xz4]; omega,fun _=>hq,fun h=>by simp at h⟩,by simp only; omega,?_⟩
             repeat' (first|exact True.intro|((conv=>whnf);first|exact True.intro|refine ⟨by rfl,?_⟩|refine ⟨by first|omega|(show (_:Int)=_;first|omega|(dsimp only;omega))|exact xrl _ _ _,?_⟩|refine ⟨?_,?_⟩)))
     · have e:l.drop i=[]:=x1x (by omega);rw [e] at h2
       repeat' first|((first|refine zz ?_|(refine xa ?_ ?_<;>intro _)|refine ⟨_,x3 c ha,?_⟩)<;>conv=>whnf)|(refine apN (by rw [lo]; show _+1<=_; omega) ?_;conv=>whnf)
       exact ⟨by rw [jy,h2.symm]; rfl,rfl⟩
theorem xjw {l:List Done} {i:Nat} (h:i<l.length):ints ((l.map Done.Seq).take i)++[rI (l.getD i default).Seq]=ints ((l.map Done.Seq).take (i+1)):=by
 rw [y0,<- x1u,<- x1u,xt h,x0q]; rfl
theorem xdr (s:Site) (n:Int) (ha:s.Added.length<=1000000) (hd:s.Done.length<=1000000):Sem P 118 [(.pure,.agg (aS s)),(.pure,I n)] [] (.agg (aM (giveMsg s n))):=by
 have la:=xb s.Added;have ld:(s.Done.map eD).length=s.Done.length:=xzi ..;refine fO Go.Proofs.Tryz.f118 fun hb=>?_;conv=>whnf
 repeat' first|((first|refine zz ?_|(refine xa ?_ ?_<;>intro _)|refine apI ?_)<;>conv=>whnf)|(refine apN (by simp only [xz4]; omega) ?_;conv=>whnf)
 refine Vc.loop1 (fun (i:Nat)=>i<=s.Done.length) (fun i=>updL [2,4,5,33] [(6,I i)] [(128586,.arr 3 (ints ((s.Done.map Done.Seq).take i)) false)]) (fun i=>s.Done.length - i) 0 (xz1 _) ?_ (fun i hi=>?_)
 · exact wk
 · have hlo:(ints ((s.Done.map Done.Seq).take i)).length=i:=by rw [xb,xz3,xzi]; omega
   conv=>whnf
   (refine zA ?_)
   refine xd (fun g=>?_) (fun g=>?_)
   all_goals conv=>whnf
   · repeat' first|((first|refine zz ?_|(refine xa ?_ ?_<;>intro _)|refine ixN (enc:=eD) default (by omega) ?_)<;>conv=>whnf)|(refine apN (by rw [hlo]; show i+1<=_; omega) ?_;conv=>whnf)|((first|refine wq ?_)<;>conv=>whnf)
     refine ⟨i+1,by omega,by simp only; omega,?_⟩
     repeat' (first|exact True.intro|((conv=>whnf);first|exact True.intro|refine ⟨by rfl,?_⟩|refine ⟨by first|omega|(show (_:Int)=_;first|omega|(dsimp only;omega))|exact xjw (by omega),?_⟩|refine ⟨?_,?_⟩))
   · have hend:(s.Done.map Done.Seq).take i=s.Done.map Done.Seq:=xzx (by rw [xzi]; omega);rw [hend]
     (refine zA ?_)
     exact ⟨rfl,rfl⟩
def pactM (c:Clerk) (i:Int):Msg:=⟨4,i,0,c.Round,Call.nil,c.Base,[],c.Done⟩
def freezeM (c:Clerk) (i:Int):Msg:=⟨2,i,0,c.Round,Call.nil,[],[],[]⟩
theorem xjx (c:Clerk) (n:Int) (hb':c.Base.length<=1000000) (hd:zDs c.Done<=1000000):Sem P 163 [(.pure,.agg (aK c)),(.pure,I n)] [] (.agg (aM (pactM c n))):=by
 have la:=xb c.Base;refine fK [2009] Go.Proofs.Tryz.f163 fun hb=>?_;conv=>whnf
 repeat' first|((first|refine zz ?_|(refine xa ?_ ?_<;>intro _)|refine apI ?_)<;>conv=>whnf)|(refine apN (by simp only [xz4]; omega) ?_;conv=>whnf)|((first|refine ⟨_,jg c.Done hd,?_⟩)<;>conv=>whnf)
 exact ⟨rfl,rfl⟩
theorem xjy (f:Int->Msg) (i:Nat):((List.range i).map fun (k:Nat)=>f k).map eM++[eM (f i)]=((List.range (i+1)).map fun (k:Nat)=>f k).map eM:=by
 rw [List.range_succ,x0q,x0q]; rfl
theorem xjz (p:Plan) (c:Clerk) (hg:c.Got.length=p.Gives.length) (h3:p.Gives.length<=1000) (hb':c.Base.length<=1000000) (hd:zDs c.Done<=1000000):Sem P 263 [(.pure,.agg (aPl p)),(.pure,.agg (aK c))] [] (.one (sMs (pacts c))):=by
 have lg:=xb p.Gives;refine fO Go.Proofs.Tryz.f263 fun hb=>?_;conv=>whnf
 (refine zA ?_)
 refine Vc.loop1 (fun (i:Nat)=>i<=p.Gives.length) (fun i=>updL [0,1,2,3,4] [(6,I i),(5,.one (.ref 128000))] [(128000,.arr 55 (((List.range i).map fun (k:Nat)=>pactM c k).map eM) false)]) (fun i=>p.Gives.length - i) 0 (xz1 _) ?_ (fun i hi=>?_)
 · exact wk
 · have hlo:(((List.range i).map fun (k:Nat)=>pactM c k).map eM).length=i:=by simp
   conv=>whnf
   (refine zA ?_)
   refine xd (fun g=>?_) (fun g=>?_)
   all_goals conv=>whnf
   · repeat' first|((first|refine zz ?_|(refine xa ?_ ?_<;>intro _)|refine ⟨_,xjx c i hb' hd,?_⟩)<;>conv=>whnf)|(refine apN (by rw [hlo]; show i+1<=_; omega) ?_;conv=>whnf)|((first|refine wq ?_)<;>conv=>whnf)
     refine ⟨i+1,by omega,by simp only; omega,?_⟩
     repeat' (first|exact True.intro|((conv=>whnf);first|exact True.intro|refine ⟨by rfl,?_⟩|refine ⟨by first|omega|(show (_:Int)=_;first|omega|(dsimp only;omega))|exact xjy (pactM c) i,?_⟩|refine ⟨?_,?_⟩))
   ·
    (refine zA ?_)
    have e:i=c.Got.length:=by omega
    subst e;exact ⟨rfl,rfl⟩
theorem xxv (c:Clerk):(!c.Wants.isEmpty || c.Got.any Got.Has)=(decide ((c.Wants.length:Int)>0) || decide ((c.Got.countP Got.Has:Int)>0)):=by
 have e1:(!c.Wants.isEmpty)=decide ((c.Wants.length:Int)>0):=by
  cases c.Wants with
  | nil=>rfl
  | cons a r=>symm; simp only [List.isEmpty_cons,x2j,xzk,xz6]; omega
 have e2:c.Got.any Got.Has=decide ((c.Got.countP Got.Has:Int)>0):=by
  cases h:c.Got.any Got.Has with
  | true =>
    symm;obtain ⟨x,hx,hh⟩:=List.any_eq_true.1 h;have:=List.countP_pos_iff.2 ⟨x,hx,hh⟩;simp only [xzk]; omega
  | false =>
    symm;have:=List.countP_eq_zero.2 (fun x hx=>by have:=List.any_eq_false.1 h x hx; exact this);rw [this]; rfl
 rw [e1,e2]
theorem xh4 (l:List Msg) (f:Int->Msg) (i:Nat):(l++(List.range i).map fun (k:Nat)=>f k).map eM++[eM (f i)]=(l++(List.range (i+1)).map fun (k:Nat)=>f k).map eM:=by
 rw [List.range_succ,x0q,x0q,x0q,x0q,x0c]; rfl
theorem xuf (p:Plan) (c:Clerk) (hg:c.Got.length=p.Gives.length) (h3:p.Gives.length<=1000) (hb':c.Base.length<=1000000) (hd:zDs c.Done<=1000000):Sem P 211 [(.pure,.agg (aPl p)),(.pure,.agg (aK c))] [] (.one (sMs (clerkTick c))):=by
 have lg:=xb p.Gives;have lw:(c.Wants.map eC).length=c.Wants.length:=xzi ..;have te:=xxv c
 cases hu:c.Up with
 | false =>
   obtain ⟨up,rd,bs,dn,wa,go⟩:=c;simp only at hu;subst hu;refine fK [4002] Go.Proofs.Tryz.f211 fun hb=>?_;conv=>whnf
   repeat' first|((first|refine zz ?_|(refine xa ?_ ?_<;>intro _))<;>conv=>whnf)
   exact ⟨rfl,rfl⟩
 | true =>
   have lp:((pacts c).map eM).length=p.Gives.length:=by simp [pacts,hg]
   have hT:=xjz p c hg h3 hb' hd;have e:clerkTick c=pacts c++(if !c.Wants.isEmpty || c.Got.any Got.Has then freezes c else []):=by unfold clerkTick; rw [hu]; rfl
   have hH:=xe5 c;obtain ⟨up,rd,bs,dn,wa,go⟩:=c;simp only at hu hg hb' hd lw;subst hu;rw [te] at e;simp only at e
   cases hf:(decide ((wa.length:Int)>0) || decide ((go.countP Got.Has:Int)>0)) with
   | false =>
     rw [hf] at e;simp only [x3j] at hf;refine fK [4002] Go.Proofs.Tryz.f211 fun hb=>?_;conv=>whnf
     repeat' first|((first|refine zz ?_|(refine xa ?_ ?_<;>intro _)|refine ⟨_,hT,?_⟩)<;>conv=>whnf)
     refine Vc.loop1 (fun (i:Nat)=>i<=0) (fun i=>updL [0,1,2,3,4] [(6,I i),(5,.one (.ref 256128))] [(256128,.arr 55 ((pacts ⟨true,rd,bs,dn,wa,go⟩++(List.range i).map fun (k:Nat)=>freezeM ⟨true,rd,bs,dn,wa,go⟩ k).map eM) false)]) (fun i=>p.Gives.length - i) 0 (xz1 _) ?_ (fun i hi=>?_)
     · repeat' (first|exact True.intro|((conv=>whnf);first|exact True.intro|refine ⟨by rfl,?_⟩|refine ⟨by first|omega|(show (_:Int)=_;first|omega|(dsimp only;omega))|exact (by simp),?_⟩|refine ⟨?_,?_⟩))
     · obtain rfl:i=0:=by omega
       conv=>whnf
       repeat' first|((first|refine zz ?_|(refine xa ?_ ?_<;>intro _)|refine ⟨_,hH,?_⟩|refine wq ?_)<;>conv=>whnf)
       all_goals first
        | (exfalso; clear e hT hH hb te; simp only [x04,xzk,xzw] at *; omega)
        | (refine ⟨?_,rfl⟩; rw [e]; simp; done)
   | true =>
     rw [hf] at e;refine fK [4002] Go.Proofs.Tryz.f211 fun hb=>?_;conv=>whnf
     repeat' first|((first|refine zz ?_|(refine xa ?_ ?_<;>intro _)|refine ⟨_,hT,?_⟩)<;>conv=>whnf)
     refine Vc.loop1 (fun (i:Nat)=>i<=p.Gives.length) (fun i=>updL [0,1,2,3,4] [(6,I i),(5,.one (.ref 256128))] [(256128,.arr 55 ((pacts ⟨true,rd,bs,dn,wa,go⟩++(List.range i).map fun (k:Nat)=>freezeM ⟨true,rd,bs,dn,wa,go⟩ k).map eM) false)]) (fun i=>p.Gives.length - i) 0 (xz1 _) ?_ (fun i hi=>?_)
     · repeat' (first|exact True.intro|((conv=>whnf);first|exact True.intro|refine ⟨by rfl,?_⟩|refine ⟨by first|omega|(show (_:Int)=_;first|omega|(dsimp only;omega))|exact (by simp),?_⟩|refine ⟨?_,?_⟩))
     · have hlo:((pacts ⟨true,rd,bs,dn,wa,go⟩++(List.range i).map fun (k:Nat)=>freezeM ⟨true,rd,bs,dn,wa,go⟩ k).map eM).length=p.Gives.length+i:=by simp [pacts,hg]
       conv=>whnf
       repeat' first|((first|refine zz ?_|(refine xa ?_ ?_<;>intro _)|refine ⟨_,hH,?_⟩)<;>conv=>whnf)|(refine apN (by rw [hlo]; show _+1<=_; omega) ?_;conv=>whnf)|((first|refine wq ?_)<;>conv=>whnf)
       all_goals first
        | (exfalso; clear e hT hH hb te hlo; simp only [x04,xzk,xzw] at *; omega)
        | (refine ⟨i+1,by simp only [xzk] at *; omega,by simp only [xzk] at *; omega,?_⟩
           repeat' (first|exact True.intro|((conv=>whnf);first|exact True.intro|refine ⟨by rfl,?_⟩|refine ⟨by first|omega|(show (_:Int)=_;first|omega|(dsimp only;omega))|exact xh4 _ (freezeM ⟨true,rd,bs,dn,wa,go⟩) i,?_⟩|refine ⟨?_,?_⟩))
           done)
        | (refine ⟨?_,rfl⟩
           rw [e];have ei:i=go.length:=by simp only [xzw] at *; omega
           subst ei
           rfl)
end Cc
end
