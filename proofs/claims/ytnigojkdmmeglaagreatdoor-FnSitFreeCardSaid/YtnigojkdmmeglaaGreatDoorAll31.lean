/- The laws FnMsgOk, FnSitFree: part 31 of 41. No conditions beyond the statement. -/
import Derived.Test.YtnigojkdmmeglaaGreatDoorAll23
import Derived.Test.YtnigojkdmmeglaaGreatDoorAll26
import Derived.Test.YtnigojkdmmeglaaGreatDoorAll28
set_option linter.unusedVariables false
set_option linter.unusedSimpArgs false
set_option maxRecDepth 100000
set_option maxHeartbeats 16000000
section
namespace Cc
open Go Go.AM
abbrev tHk (b:Clerk × List Msg × List (Call × Rslt)):TV:=.tup [(true,eK b.1),(false,[fMs b.2.1]),(false,[fCs (b.2.2.map Prod.fst)]),(false,[fRs (b.2.2.map Prod.snd)])]
theorem xfd {a b:AV} (h:Cold a b):[a].length=[b].length/\∀ (j:Nat) (x y:AV),[a][j]?=some x->[b][j]?=some y->Cold x y:=by
 refine ⟨rfl,fun j x y h1 h2=>?_⟩
 match j,h1,h2 with
 | 0,h1,h2=>cases h1; cases h2; exact h
 | j+1,h1,h2=>simp at h1
theorem coldHear9 {f:Nat} {ins:List (Go.AM.Mode × TV)} {cs:List AV} {a1 a2 a3:AV} {b:Clerk × List Msg × List (Call × Rslt)} (hl:cs.length=6) (hk:∀ (k:Nat) (a b':AV),cs[k]?=some a->(eK b.1)[k]?=some b'->Cold a b')
 (h1:Cold a1 (fMs b.2.1)) (h2:Cold a2 (fCs (b.2.2.map Prod.fst))) (h3:Cold a3 (fRs (b.2.2.map Prod.snd))) (h:Sem P f ins [] (.tup [(true,cs),(false,[a1]),(false,[a2]),(false,[a3])])):Sem P f ins [] (tHk b):=by
 refine Sem.coldT (vs:=[(true,cs),(false,[a1]),(false,[a2]),(false,[a3])]) rfl (fun k a cs b cs' g1 g2=>?_) h
 match k,g1,g2 with
 | 0,g1,g2=>cases g1; cases g2; exact ⟨rfl,hl,hk⟩
 | 1,g1,g2=>cases g1; cases g2; exact ⟨rfl,xfd h1⟩
 | 2,g1,g2=>cases g1; cases g2; exact ⟨rfl,xfd h2⟩
 | 3,g1,g2=>cases g1; cases g2; exact ⟨rfl,xfd h3⟩
 | k+4,g1,g2=>simp at g1
abbrev wK (c:Clerk):List AV:=[eB c.Up,eI c.Round,sI c.Base,sDs c.Done,fCs c.Wants,.sl 105 (c.Got.map aG)]
theorem xx1 (c:Clerk):∀ (k:Nat) (a b:AV),(wK c)[k]?=some a->(eK c)[k]?=some b->Cold a b:=fun k a b ha hb=>by
 match k,ha,hb with
 | 0,ha,hb=>cases ha; cases hb; exact xl
 | 1,ha,hb=>cases ha; cases hb; exact xl
 | 2,ha,hb=>cases ha; cases hb; exact xg
 | 3,ha,hb=>cases ha; cases hb; exact xg
 | 4,ha,hb=>cases ha; cases hb; exact x1
 | 5,ha,hb=>cases ha; cases hb; exact xfj c.Got
 | k+6,ha,hb=>simp at ha
theorem xp2 (c:Clerk):∀ (k:Nat) (a b:AV),(eK c)[k]?=some a->(eK c)[k]?=some b->Cold a b:=fun k a b ha hb=>by
 match k,ha,hb with
 | 0,ha,hb=>cases ha; cases hb; exact xl
 | 1,ha,hb=>cases ha; cases hb; exact xl
 | 2,ha,hb=>cases ha; cases hb; exact x1
 | 3,ha,hb=>cases ha; cases hb; exact x1
 | 4,ha,hb=>cases ha; cases hb; exact x1
 | 5,ha,hb=>cases ha; cases hb; exact x1
 | k+6,ha,hb=>simp at ha
theorem xr0 (p:Plan) (c:Clerk) (i:Nat) (g:Got) (hp:planOk p=true) (hc:ClerkF p { c with Got:=c.Got.set i g }) :
 Sem P 53 [(.pure,.agg (aPl p)),(.pure,.agg [eB c.Up,eI c.Round,sI c.Base,sDs c.Done,sCs c.Wants,.sl 105 ((c.Got.map aG).set i (aG g))])] [] (tFc (clerkFold p { c with Got:=c.Got.set i g })):=by
 rw [<- x1y];refine Sem.warm (j:=[(.pure,.agg (aPl p)),(.pure,.agg (aK { c with Got:=c.Got.set i g }))]) (.same (.agg rfl (fun k a b ha hb=>?_) .nil)) (xry p _ hp hc)
 match k,ha,hb with
 | 0,ha,hb=>cases ha; cases hb; exact Imp.rfl
 | 1,ha,hb=>cases ha; cases hb; exact Imp.rfl
 | 2,ha,hb=>cases ha; cases hb; exact Imp.rfl
 | 3,ha,hb=>cases ha; cases hb; exact Imp.rfl
 | 4,ha,hb=>cases ha; cases hb; exact Imp.rfl
 | 5,ha,hb =>
   cases ha; cases hb;refine xmi (fun _=>rfl) fun x k a b ha hb=>?_
   match k,ha,hb with
   | 0,ha,hb=>cases ha; cases hb; exact Imp.rfl
   | 1,ha,hb=>cases ha; cases hb; exact qo Imp.rfl
   | 2,ha,hb=>cases ha; cases hb; exact qo Imp.rfl
   | k+3,ha,hb=>simp at ha
 | k+6,ha,hb=>simp at ha
theorem xr1 (p:Plan) (c:Clerk) (m:Msg) (hp:planOk p=true) (hc:ClerkF p c) (hm:msgB p m=true) :
 Sem P 262 [(.pure,.agg (aPl p)),(.pure,.one (sPs (partsOf p.Acts))),(.pure,.one (sBs (pinsOf p.Acts))),(.pure,.agg (aK c)),(.pure,.agg (aM m))] [] (tHk (clerkHear p c m)):=by
 have hcl:=xi hp;have hF:=planF hp;have g3:=yk hp;have hz:=q9 hc hcl g3;have hcp:=zo c (by omega);have hgl:=hc.gl;have lga:(c.Got.map aG).length=c.Got.length:=xzi ..;by_cases h1:(!c.Up || decide (m.To ≠ -1))=true
 · have e:clerkHear p c m=(c,[],[]):=by unfold clerkHear; rw [if_pos h1]
   rw [e];refine coldHear9 (cs:=aKo c) rfl (xap c) xg xg xg ?_;refine fK [2001] Go.Proofs.Tryz.f262 fun hb=>?_;conv=>whnf
   repeat' first|((first|refine zz ?_|(refine xa ?_ ?_<;>intro _)|refine ⟨_,hcp,?_⟩)<;>conv=>whnf)
   all_goals first
    | exact ⟨rfl,rfl⟩
    | (exfalso; clear hcp hb hc hm; simp_all; done)
 · have hto:m.To = -1:=by simp only [x04,xzk,not_or] at h1; omega
   have hmg:=xgq hm hto;by_cases h2:m.Kind=1
   · have hcall:callB p m.Call=true:=by
      rcases hmg with h|h
      · exact h.2
      · omega
     have e:clerkHear p c m=({ c with Wants:=wantIn c.Wants m.Call },[],[]):=by unfold clerkHear; rw [if_neg h1,if_pos h2]
     rw [e];have hW:=w9 c.Wants m.Call (by have:=xaa hc hcl; omega) (by have:=kg hcall; omega);refine coldHear9 (cs:=wK { c with Wants:=wantIn c.Wants m.Call }) rfl (xx1 _) xg xg xg ?_;refine yp (E:={ E0 with keep:=[2001],fz:=[(5,[128068])] }) xm xn (fn:=Go.Proofs.Tryz.f262) (by kernel_rfl) (by kernel_rfl) (fun hb=>?_);conv=>whnf
     repeat' first|((first|refine zz ?_|(refine xa ?_ ?_<;>intro _)|refine ⟨_,hcp,?_⟩|refine ⟨_,hW,?_⟩)<;>conv=>whnf)
     all_goals first
      | exact ⟨rfl,rfl⟩
      | (exfalso; clear hcp hb hc hm hW e hmg hcall; simp_all; done)
   · obtain ⟨k3,hsi,hadd,hsq⟩:m.Kind=3/\isSite p m.From=true/\addedOk m.Vals=true/\seqsOk p m.Seqs=true:=by
      rcases hmg with h|h
      · exact absurd h.1 h2
      · exact h
     have hv3:=(xu hadd).1;have hs4:=xfa hcl hsq;have lmv:=xb m.Vals;have lms:=xb m.Seqs;have hsn:=xc.1 hsi;have hK:=jd ⟨c.Base,p.Gives⟩ (partsOf p.Acts) m.From m.Vals;have hI:=wc (pinsOf p.Acts) m.Vals (xdq _) hv3;have hke:keeps p.Acts (p.treaty c.Base) m.From m.Vals=(trtKeeps ⟨c.Base,p.Gives⟩ (partsOf p.Acts) m.From m.Vals && unpinned (pinsOf p.Acts) m.Vals):=rfl;by_cases h3:m.Round≠c.Round\/keeps p.Acts (p.treaty c.Base) m.From m.Vals=false
     · have e:clerkHear p c m=(c,[],[]):=by unfold clerkHear; rw [if_neg h1,if_neg h2,if_pos h3]
       rw [e];rw [hke] at h3;refine coldHear9 (cs:=aKo c) rfl (xap c) xg xg xg ?_;generalize trtKeeps ⟨c.Base,p.Gives⟩ (partsOf p.Acts) m.From m.Vals=b1 at *;generalize unpinned (pinsOf p.Acts) m.Vals=b2 at *;clear e hke;cases b1<;>cases b2
       all_goals
        refine fK [2001] Go.Proofs.Tryz.f262 fun hb=>?_;conv=>whnf
        repeat' first|((first|refine zz ?_|(refine xa ?_ ?_<;>intro _)|refine ⟨_,hcp,?_⟩|refine ⟨_,hK,?_⟩|refine ⟨_,hI,?_⟩)<;>conv=>whnf)
       all_goals first
        | exact ⟨rfl,rfl⟩
        | (exfalso; clear hcp hb hc hm hK hI hmg; simp_all; done)
     · have hro:m.Round=c.Round:=by simp only [not_or] at h3; omega
       have hkp:keeps p.Acts (p.treaty c.Base) m.From m.Vals=true:=by simp only [not_or,x3x] at h3; exact h3.2
       have hup:c.Up=true:=by simp only [x04,not_or,x05,x3x] at h1; exact h1.1
       have hcs:=xps hc hup hsi hkp hsq;have hFo:=xr0 p c m.From.toNat ⟨true,m.Vals,m.Seqs⟩ hp hcs;obtain ⟨y1,y2,y3,y4,y5⟩:=xe1 hF hcs;have e:clerkHear p c m=((clerkFold p { c with Got:=c.Got.set m.From.toNat ⟨true,m.Vals,m.Seqs⟩ }).1,if (clerkFold p { c with Got:=c.Got.set m.From.toNat ⟨true,m.Vals,m.Seqs⟩ }).1.Round=c.Round then [] else pacts (clerkFold p { c with Got:=c.Got.set m.From.toNat ⟨true,m.Vals,m.Seqs⟩ }).1,(clerkFold p { c with Got:=c.Got.set m.From.toNat ⟨true,m.Vals,m.Seqs⟩ }).2):=by
        unfold clerkHear; rw [if_neg h1,if_neg h2,if_neg h3]
       rw [e];rw [hke,xzj] at hkp;rw [hkp.1] at hK;rw [hkp.2] at hI;clear e hke h3 y5;generalize clerkFold p { c with Got:=c.Got.set m.From.toNat ⟨true,m.Vals,m.Seqs⟩ }=y at *;obtain ⟨y,lst⟩:=y;simp only at y1 y2 y3 y4;replace hFo:Sem P 53 _ [] (.tup [(true,eK y),(false,[fCs (lst.map Prod.fst)]),(false,[fRs (lst.map Prod.snd)])]):=hFo;have hT:=xjz p y y1.gl (by omega) (by have:=(xe.1 y1.b).1; omega) (by have:=(yl hcl y1.d).2; omega);by_cases hyr:y.Round=c.Round
       · rw [if_pos hyr];refine coldHear9 (cs:=eK y) rfl (xp2 y) xg x1 x1 ?_;refine yp (E:={ E0 with keep:=[2001],fz:=[(11,[128066,128067,128068,128069])] }) xm xn (fn:=Go.Proofs.Tryz.f262) (by kernel_rfl) (by kernel_rfl) (fun hb=>?_);conv=>whnf
         repeat' first|((first|refine zz ?_|(refine xa ?_ ?_<;>intro _)|refine ⟨_,hcp,?_⟩|refine ⟨_,hK,?_⟩|refine ⟨_,hI,?_⟩|refine ioN (by omega) (by omega) ?_|refine rwN (enc:=aG) Got.nil (by omega) ?_|refine apI ?_)<;>conv=>whnf)|(refine apN (by simp only [xz4]; omega) ?_;conv=>whnf)|((first|refine ⟨_,hFo,?_⟩)<;>conv=>whnf)
         all_goals first
          | exact ⟨rfl,rfl⟩
          | (exfalso; clear hcp hb hc hm hK hI hmg hFo hT y1 y2 y3 y4 hcs; simp_all; done)
       · rw [if_neg hyr];refine coldHear9 (cs:=eK y) rfl (xp2 y) x1 x1 x1 ?_;refine yp (E:={ E0 with keep:=[2001],fz:=[(11,[128066,128067,128068,128069])] }) xm xn (fn:=Go.Proofs.Tryz.f262) (by kernel_rfl) (by kernel_rfl) (fun hb=>?_);conv=>whnf
         repeat' first|((first|refine zz ?_|(refine xa ?_ ?_<;>intro _)|refine ⟨_,hcp,?_⟩|refine ⟨_,hK,?_⟩|refine ⟨_,hI,?_⟩|refine ioN (by omega) (by omega) ?_|refine rwN (enc:=aG) Got.nil (by omega) ?_|refine apI ?_)<;>conv=>whnf)|(refine apN (by simp only [xz4]; omega) ?_;conv=>whnf)|((first|refine ⟨_,hFo,?_⟩|refine ⟨_,hT,?_⟩)<;>conv=>whnf)
         all_goals first
          | exact ⟨rfl,rfl⟩
          | (exfalso; clear hcp hb hc hm hK hI hmg hFo hT y1 y2 y3 y4 hcs; simp_all; done)
end Cc
end
