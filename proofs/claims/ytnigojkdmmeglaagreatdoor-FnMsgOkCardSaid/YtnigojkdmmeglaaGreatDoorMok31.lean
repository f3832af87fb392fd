/- The law FnMsgOk: part 31 of 38. No conditions beyond the statement. -/
import Derived.Test.YtnigojkdmmeglaaGreatDoorMok26
import Derived.Test.YtnigojkdmmeglaaGreatDoorMok28
set_option linter.unusedVariables false
set_option linter.unusedSimpArgs false
set_option maxRecDepth 100000
set_option maxHeartbeats 16000000
section
namespace Cc
open Go Go.AM
theorem xqv (p:Plan) (c:Clerk):Sem P 22 [(.pure,.agg (aPl p)),(.pure,.agg (aK c))] [] (B (clkOk p c)):=by
 have h1:=xbj p;unfold clkOk
 cases hp:planOk p with
 | false =>
   rw [hp] at h1;refine fO Go.Proofs.Tryz.f22 fun hb=>?_;conv=>whnf
   repeat' first|((first|refine zz ?_|(refine xa ?_ ?_<;>intro _)|refine ⟨_,h1,?_⟩)<;>conv=>whnf)
   exact ⟨rfl,rfl⟩
 | true =>
   rw [hp] at h1;refine fO Go.Proofs.Tryz.f22 fun hb=>?_;conv=>whnf
   repeat' first|((first|refine zz ?_|(refine xa ?_ ?_<;>intro _)|refine ⟨_,h1,?_⟩|refine ⟨_,xgt p.Acts (j8 hp),?_⟩|refine ⟨_,xjb p c (xo hp),?_⟩)<;>conv=>whnf)
   exact ⟨rfl,rfl⟩
theorem xlv {p:Plan} {c:Clerk} (h:clkOk p c=true):planOk p=true/\ClerkF p c:=by
 unfold clkOk at h;rw [xx4] at h;exact ⟨h.1,clerkF.1 h.2⟩
theorem xtr (l:List Msg):Sem P 81 [(.pure,.one (sMs l))] [] (.one (fMs l)):=by
 have lm:(l.map eM).length=l.length:=xx3 ..;refine fO Go.Proofs.Tryz.f81 fun hb=>?_;conv=>whnf
 repeat' first|((first|refine zz ?_|(refine xa ?_ ?_<;>intro _)|refine ⟨by omega,by omega,by omega,by omega,?_⟩)<;>conv=>whnf)
 refine ⟨?_,rfl⟩;show TV.one (.fr [] _ (((l.map eM).take (Int.toNat ((l.map eM).length:Nat))).drop 0))=_;rw [xy3,xzy,List.drop_zero]
theorem cold1 {P:Program} {f:Nat} {ins:List (Go.AM.Mode × TV)} {outs:List TV} {a b:AV} (hc:Cold a b) (h:Sem P f ins outs (.one a)):Sem P f ins outs (.one b):=by
 refine ⟨h.1,fun w Z io vals fin hg hin h1 h2 h3 h4=>?_⟩;refine (h.2 w Z io vals fin hg hin h1 h2 h3 h4).mono ?_;rintro e w' ⟨v,rfl,Z',fr,g,p1,p2,p3,p4,p5,p6,p7⟩
 cases p4 with
 | one ho =>
   have hrd:Rd P w' (fun b=>Z' b\/b∈fr) a v:=ho.rd (fun b hb=>.inr hb) (fun b hb=>.inl hb);have ho':Ow P w' (fun b=>Z' b\/b∈fr) b v []:=by
    rcases hc with ⟨u,rfl,rfl⟩|⟨t,rows,rfl,him⟩
    · cases hrd with
      | prim h=>exact .prim h
    · exact .fr0 (him P w' _ v hrd)
   refine ⟨_,rfl,fun b=>Z' b\/b∈fr,[],g,p1,fun b hb=>.inl (p2 b hb),fun b hb=>?_,.one ho',xd6 p5 (fun b hb=>.inl hb),(xy2.1 p6).2.1,fun b hb=>?_⟩
   rotate_left
   · obtain ⟨q1,q2,q3,q4⟩:=p7 b (xyk _ hb);exact ⟨q1,q2,fun h=>h.elim q3 (xfv p6 hb),q4⟩
   rcases hb with hb|hb
   · exact p3 b hb
   · obtain ⟨q1,q2,_,q4⟩:=p7 b (xye _ hb);exact ⟨q1.elim (fun h=>.inr (.inl h)) (fun h=>.inr (.inr h)),q2,q4⟩
theorem xlw (p:Plan) (c:Clerk):Sem P 29 [(.pure,.agg (aPl p)),(.pure,.agg (aK c))] [] (.one (fMs (clkTick p c))):=by
 have h1:=xqv p c;unfold clkTick
 cases hk:clkOk p c with
 | false =>
   rw [hk] at h1;refine cold1 (a:=sMs []) xg ?_;refine fO Go.Proofs.Tryz.f29 fun hb=>?_;conv=>whnf
   repeat' first|((first|refine zz ?_|(refine xa ?_ ?_<;>intro _)|refine ⟨_,h1,?_⟩)<;>conv=>whnf)
   exact ⟨rfl,rfl⟩
 | true =>
   rw [hk] at h1;obtain ⟨hp,hc⟩:=xlv hk;have hz:=qu hc (xo hp) (yo hp);have hg:=hc.gl;have hg3:=yo hp;have hbl:=(xf.1 hc.b).1;have hdl:=(yf (xo hp) hc.d).2;have hT:=xqu c (by omega) (by omega) (by omega);refine fO Go.Proofs.Tryz.f29 fun hb=>?_;conv=>whnf
   repeat' first|((first|refine zz ?_|(refine xa ?_ ?_<;>intro _)|refine ⟨_,h1,?_⟩|refine ⟨_,_,hT,?_⟩|refine ⟨_,xtr (clerkTick c),?_⟩)<;>conv=>whnf)
   exact ⟨rfl,rfl⟩
end Cc
end
