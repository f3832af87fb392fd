/- The laws FnMsgOk, FnSitFree: part 15 of 41. No conditions beyond the statement. -/
import Derived.Test.YtnigojkdmmeglaaGreatDoorAll14
set_option linter.unusedVariables false
set_option linter.unusedSimpArgs false
set_option maxRecDepth 100000
set_option maxHeartbeats 16000000
section
namespace Cc
open Go Go.AM
def cpA (acts:List (List Line)):Prop:=acts.length<=100/\∀ a∈acts,a.length<=100/\∀ l∈a,l.Form.C.length<=100000/\l.Form.D.length<=100000
theorem xud {l:Line} (h:l.ok=true):l.Form.C.length<=100000/\l.Form.D.length<=100000:=by
 by_cases h4:l.Kind=4
 · unfold Line.ok at h;rw [if_neg (by omega),if_neg (by omega),if_neg (by omega),if_pos h4] at h;simp only [xzj,xzk] at h;rw [h.2]; simp [Form.nil]
 · have:=(qj (j4 h h4)).1.1;rw [this.1,this.2]; decide
theorem xpt {acts:List (List Line)} (h:catOk acts=true):cpA acts:=by
 refine ⟨by have:=j7 h; omega,fun a ha=>?_⟩;unfold catOk at h;rw [xzj,xzl] at h;obtain ⟨h1,h2,_⟩:=zk.1 (h.2 a ha);exact ⟨by omega,fun l hl=>xud (h1 l hl)⟩
theorem xdo {α:Type} (e:α->List AV) (x:α) (i:Nat):(List.replicate i x).map e++[e x]=(List.replicate (i+1) x).map e:=by
 rw [List.replicate_succ',x0q]; rfl
theorem yk {p:Plan} (hp:planOk p=true):p.Gives.length<=3:=by
 unfold planOk trtOk givesOk at hp;simp only [xzj,xc] at hp;have:=hp.2.2.1;simp only [Plan.treaty] at this;omega
def zs {α:Type} (f:α->Nat) (l:List α):Nat:=(l.map f).sum
theorem xyx {α:Type} (f:α->Nat) {l:List α} {x:α} (h:x∈l):f x<=zs f l:=by
 induction l with
 | nil=>cases h
 | cons a r ih =>
   unfold zs at *; rw [x0d,List.sum_cons]
   cases h with
   | head=>omega
   | tail _ h=>have:=ih h; omega
def zF (x:Form):Nat:=x.C.length+x.D.length
def zL (x:Line):Nat:=zF x.Form
def zLs (l:List Line):Nat:=l.length+zs zL l
def zAs (l:List (List Line)):Nat:=l.length+zs zLs l
def zPl (x:Plan):Nat:=zAs x.Acts+x.Gives.length+x.Start.length
def zR (x:Rslt):Nat:=x.Tells.length
def zD (x:Done):Nat:=zR x.Res
def zDs (l:List Done):Nat:=l.length+zs zD l
def zS (x:Site):Nat:=x.Base.length+x.Added.length+zDs x.Done
def zSs (l:List Site):Nat:=l.length+zs zS l
def zC (x:Call):Nat:=x.Args.length
def zCs (l:List Call):Nat:=l.length+zs zC l
def zG (x:Got):Nat:=x.Added.length+x.Seqs.length
def zGs (l:List Got):Nat:=l.length+zs zG l
def zK (x:Clerk):Nat:=x.Base.length+zDs x.Done+zCs x.Wants+zGs x.Got
def zX (x:Client):Nat:=zC x.Call+zR x.Res
def zXs (l:List Client):Nat:=l.length+zs zX l
def zM (x:Msg):Nat:=zC x.Call+x.Vals.length+x.Seqs.length+zDs x.Done
def zMs (l:List Msg):Nat:=l.length+zs zM l
def zO (x:LogD):Nat:=zC x.Call+zR x.Res
def zOs (l:List LogD):Nat:=l.length+zs zO l
def zWd (x:World):Nat:=zPl x.Plan+zSs x.Sites+zK x.Clerk+zXs x.Clients+zMs x.Net+zOs x.Log
theorem xdq (acts:List (List Line)):(pinsOf acts).length=3:=rfl
theorem xe4 {t:Treaty} {parts:List (List Int)} {s:Int} {a:List Int} (h:trtKeeps t parts s a=true):a.length=3:=by
 unfold trtKeeps at h;simp only [xzj] at h;exact (xu h.1.2).1
theorem wc (b:List Bool) (l:List Int) (hb:b.length=3) (hl:l.length=3):Sem P 182 [(.pure,.one (sBs b)),(.pure,AI l)] [] (B (unpinned b l)):=by
 obtain ⟨p,q,r,rfl⟩:=len3 hb;obtain ⟨x,y,z,rfl⟩:=len3 hl;exact xrm p q r x y z
theorem qz (p:Plan) (s:Site):Sem P 89 [(.pure,.agg (aPl p)),(.pure,.agg (aS s))] [] (.agg [fI s.Base,fI p.Gives]):=by
 refine fO Go.Proofs.Tryz.f89 fun hb=>?_;conv=>whnf
 repeat' first|((first|refine zz ?_|(refine xa ?_ ?_<;>intro _))<;>conv=>whnf)
 exact ⟨rfl,rfl⟩
theorem xf6 (p:Plan) (s:Site) (n:Int):Sem P 92 [(.pure,.agg (aPl p)),(.pure,.one (sPs (partsOf p.Acts))),(.pure,.one (sBs (pinsOf p.Acts))),(.pure,.agg (aS s)),(.pure,I n)] [] (B (siteB p s n)):=by
 have hk:keeps p.Acts (p.treaty s.Base) n s.Added=(trtKeeps ⟨s.Base,p.Gives⟩ (partsOf p.Acts) n s.Added && unpinned (pinsOf p.Acts) s.Added):=rfl;have hkT:=jd ⟨s.Base,p.Gives⟩ (partsOf p.Acts) n s.Added
 cases hkb:trtKeeps ⟨s.Base,p.Gives⟩ (partsOf p.Acts) n s.Added with
 | false =>
   rw [hkb] at hkT hk;refine fO Go.Proofs.Tryz.f92 fun hb=>?_;conv=>whnf
   repeat' first|((first|refine zz ?_|(refine xa ?_ ?_<;>intro _)|refine ⟨_,xj _ _ _,?_⟩|refine ⟨_,zg _,?_⟩|refine ⟨_,qz p s,?_⟩|refine ⟨_,hkT,?_⟩)<;>conv=>whnf)
   all_goals (refine rB ?_; unfold siteB; rw [hk]; clear hk hb hkT; simp_all)
 | true =>
   have hl:=xe4 hkb;rw [hkb] at hkT hk;refine fO Go.Proofs.Tryz.f92 fun hb=>?_;conv=>whnf
   repeat' first|((first|refine zz ?_|(refine xa ?_ ?_<;>intro _)|refine ⟨_,xj _ _ _,?_⟩|refine ⟨_,zg _,?_⟩|refine ⟨_,qz p s,?_⟩|refine ⟨_,hkT,?_⟩|refine ⟨_,wc (pinsOf p.Acts) s.Added (xdq _) hl,?_⟩|refine ⟨_,wb p s.Done,?_⟩)<;>conv=>whnf)
   all_goals (refine rB ?_; unfold siteB; rw [hk]; clear hk hb hkT; simp_all)
theorem xe5 (c:Clerk):Sem P 56 [(.pure,.agg (aK c))] [] (I (c.Got.countP Got.Has)):=by
 have lg:(c.Got.map eG).length=c.Got.length:=xzi ..;refine fO Go.Proofs.Tryz.f56 fun hb=>?_;have hb1:(c.Got.map eG).length<=1125899906842624:=(hb.1 (sGs c.Got) (by simp)).1;conv=>whnf
 (refine zA ?_)
 refine Vc.loop2 (fun (i n:Nat)=>i<=c.Got.length/\n=(c.Got.take i).countP Got.Has) (fun i n=>updL [1,2,20] [(4,I i),(3,I n)] []) (fun i _=>c.Got.length - i) 0 0 ⟨xz1 _,rfl⟩ ?_ (fun i n hi=>?_)
 · exact wk
 · obtain ⟨hi,hn⟩:=hi;have hcl:=x2m (p:=Got.Has) (l:=c.Got.take i);rw [xz3] at hcl;conv=>whnf
   (refine zA ?_)
   refine xd (fun g=>?_) (fun g=>?_)
   all_goals conv=>whnf
   · have es:=xt (l:=c.Got) (i:=i) (by omega)
     repeat' first|((first|refine zz ?_|(refine xa ?_ ?_<;>intro _)|refine ixN (enc:=eG) default (by omega) ?_|refine wq ?_)<;>conv=>whnf)
     · rename_i h;refine ⟨i+1,n+1,⟨by omega,by rw [es,x2a,<- hn,List.countP_cons_of_pos h]; rfl⟩,by simp only; omega,?_⟩;exact wk
     · rename_i h;refine ⟨i+1,n,⟨by omega,by rw [es,x2a,<- hn,List.countP_cons_of_neg (by rw [h]; decide)]; rfl⟩,by simp only; omega,?_⟩;exact wk
   ·
    (refine zA ?_)
    exact rI' (by rw [xzx (by omega)] at hn; omega)
theorem xju (p:Plan) (c:Clerk):Sem P 147 [(.pure,.agg (aPl p)),(.pure,.one (sPs (partsOf p.Acts))),(.pure,.one (sBs (pinsOf p.Acts))),(.pure,.agg (aK c))] [] (B (decide (c.Got.length=p.Gives.length) && allI (gotB p c.Base) 0 c.Got)):=by
 have lg:(c.Got.map eG).length=c.Got.length:=xzi ..;have lp:=xb p.Gives;have al:=@qf Got _ (gotB p c.Base) c.Got;refine fO Go.Proofs.Tryz.f147 fun hb=>?_;have hb1:(c.Got.map eG).length<=1125899906842624:=(hb.2.2.2.1 (sGs c.Got) (by simp)).1;have hb2:=(hb.2.2.2.1 (sGs c.Got) (by simp)).2;conv=>whnf
 repeat' first|((first|refine zz ?_|(refine xa ?_ ?_<;>intro _))<;>conv=>whnf)
 · rename_i hne;have hne:=yv hne;refine rB ?_;rw [x3i (fun e=>hne (by rw [lg,lp,e]))]; rfl
 · rename_i hne;have hlen:c.Got.length=p.Gives.length:=by clear al; simp at hne; omega
   refine Vc.loop1 (fun (i:Nat)=>i<=c.Got.length/\∀ j,j<i->gotB p c.Base j (c.Got.getD j default)=true) (fun i=>updL [1,2,4,7,9] [(10,I i)] []) (fun i=>c.Got.length - i) 0 ⟨xz1 _,fun j hj=>absurd hj (x0z j)⟩ ?_ (fun i hi=>?_)
   · exact wk
   · obtain ⟨hi,hall⟩:=hi;conv=>whnf
     (refine zA ?_)
     refine xd (fun g=>?_) (fun g=>?_)
     all_goals conv=>whnf
     · have hil:i<c.Got.length:=by omega
       have no:gotB p c.Base i (c.Got.getD i default)=false->(decide (c.Got.length=p.Gives.length) && allI (gotB p c.Base) 0 c.Got)=false:=fun h=>by
        cases e:allI (gotB p c.Base) 0 c.Got with
        | false=>exact x2y _
        | true=>have:=al.1 e i hil; rw [h] at this; cases this
       have hk:gotB p c.Base i (c.Got.getD i default)=((c.Got.getD i default).none || ((c.Got.getD i default).Has && (trtKeeps ⟨c.Base,p.Gives⟩ (partsOf p.Acts) i (c.Got.getD i default).Added && unpinned (pinsOf p.Acts) (c.Got.getD i default).Added) && seqsOk p (c.Got.getD i default).Seqs)):=rfl;have la:=xb (c.Got.getD i default).Added;have ls:=xb (c.Got.getD i default).Seqs;have hr:=hb2 (eG (c.Got.getD i default)) (List.mem_map_of_mem (xp hil));have h1a:(ints (c.Got.getD i default).Added).length<=1125899906842624:=(hr (fI (c.Got.getD i default).Added) (by simp)).1;have h1s:(ints (c.Got.getD i default).Seqs).length<=1125899906842624:=(hr (fI (c.Got.getD i default).Seqs) (by simp)).1;have en:(c.Got.getD i default).none=(!(c.Got.getD i default).Has && !decide (((ints (c.Got.getD i default).Added).length:Int)+(ints (c.Got.getD i default).Seqs).length>0)):=by
        rw [la,ls]; unfold Got.none;cases (c.Got.getD i default).Added<;>cases (c.Got.getD i default).Seqs<;>cases (c.Got.getD i default).Has<;>simp<;>omega
       have hkT:=jd ⟨c.Base,p.Gives⟩ (partsOf p.Acts) i (c.Got.getD i default).Added;rw [en] at hk;clear en hr;have fin:∀ {b:Bool},gotB p c.Base i (c.Got.getD i default)=b->b=true->∀ j,j<i+1->gotB p c.Base j (c.Got.getD j default)=true:=fun h1 h2 j hj=>by
        by_cases hji:j<i
        · exact hall j hji
        · obtain rfl:j=i:=by omega
          rw [h1]; exact h2
       cases hkb:trtKeeps ⟨c.Base,p.Gives⟩ (partsOf p.Acts) i (c.Got.getD i default).Added with
       | false =>
         rw [hkb] at hkT hk
         repeat' first|((first|refine zz ?_|(refine xa ?_ ?_<;>intro _)|refine ixN (enc:=eG) default hil ?_|refine ⟨_,hkT,?_⟩|refine wq ?_)<;>conv=>whnf)
         all_goals first
          | (refine rB ?_; rw [no (by rw [hk]; clear no hk hall al hb hb2 hkT fin; simp_all)]; done)
          | (refine ⟨i+1,⟨by omega,fin hk (by clear no hk hall al hb hb2 hkT fin; simp_all)⟩,by simp only; omega,?_⟩
             exact wk)
          | (exfalso; clear no hk hall al hb hb2 hkT fin; simp_all; done)
       | true =>
         have hl:=xe4 hkb;rw [hkb] at hkT hk
         repeat' first|((first|refine zz ?_|(refine xa ?_ ?_<;>intro _)|refine ixN (enc:=eG) default hil ?_|refine ⟨_,hkT,?_⟩|refine ⟨_,wc (pinsOf p.Acts) (c.Got.getD i default).Added (xdq _) hl,?_⟩|refine ⟨_,xjt p (c.Got.getD i default).Seqs,?_⟩|refine wq ?_)<;>conv=>whnf)
         all_goals first
          | (refine rB ?_; rw [no (by rw [hk]; clear no hk hall al hb hb2 hkT fin; simp_all)]; done)
          | (refine ⟨i+1,⟨by omega,fin hk (by clear no hk hall al hb hb2 hkT fin; simp_all)⟩,by simp only; omega,?_⟩
             exact wk)
          | (exfalso; clear no hk hall al hb hb2 hkT fin; simp_all; done)
     ·
      (refine zA ?_)
      refine rB ?_;rw [al.2 fun j hj=>hall j (by omega),x2x hlen]; rfl
theorem xog {p:Plan} {c:Clerk}:clerkB p c=true↔((inB c.Round 0 200 && valOk c.Base && doneOk p c.Done && (decide (c.Got.length=p.Gives.length) && allI (gotB p c.Base) 0 c.Got))=true) /\
 (∀ j,j<c.Wants.length->callB p (c.Wants.getD j default)=true/\(0<j->(c.Wants.getD (j - 1) default).Client<(c.Wants.getD j default).Client))/\(c.Up || (c.Wants.isEmpty && decide (c.Got.countP Got.Has=0)))=true:=by
 have e:(c.Got.all fun g=>!g.Has)=decide (c.Got.countP Got.Has=0):=by
  cases h:decide (c.Got.countP Got.Has=0) with
  | true=>have:=List.countP_eq_zero.1 (x1j h); rw [xzl]; intro x hx; simpa using this x hx
  | false =>
    have:=x3q h
    cases h':(c.Got.all fun g=>!g.Has) with
    | false=>rfl
    | true=>exact absurd (List.countP_eq_zero.2 fun x hx=>by have:=xzl.1 h' x hx; simpa using this) this
 unfold clerkB;rw [e];simp only [xzj,xdn,xmg];constructor
 · rintro ⟨⟨⟨⟨⟨⟨⟨h1,h2⟩,h3⟩,h4⟩,h5⟩,h6⟩,h7⟩,h8⟩;refine ⟨⟨⟨⟨h1,h2⟩,h3⟩,h4,h5⟩,fun j hj=>⟨h6 j hj,fun h0=>?_⟩,h8⟩;have:=h7 (j - 1) (by omega);rw [show j - 1+1=j from by omega] at this; exact this
 · rintro ⟨⟨⟨⟨h1,h2⟩,h3⟩,h4,h5⟩,h6,h8⟩;refine ⟨⟨⟨⟨⟨⟨⟨h1,h2⟩,h3⟩,h4⟩,h5⟩,fun j hj=>(h6 j hj).1⟩,fun j hj=>?_⟩,h8⟩;have:=(h6 (j+1) hj).2 (by omega);simpa using this
theorem xe6 (p:Plan) (c:Clerk) (hc:inB p.Clients 0 4=true):Sem P 59 [(.pure,.agg (aPl p)),(.pure,.one (sPs (partsOf p.Acts))),(.pure,.one (sBs (pinsOf p.Acts))),(.pure,.agg (aK c))] [] (B (clerkB p c)):=by
 have iff:=@xog p c;have lw:(c.Wants.map eC).length=c.Wants.length:=xzi ..;by_cases h0:(inB c.Round 0 200 && valOk c.Base && doneOk p c.Done && (decide (c.Got.length=p.Gives.length) && allI (gotB p c.Base) 0 c.Got))=true
 · refine fO Go.Proofs.Tryz.f59 fun hb=>?_;have hb1:(c.Wants.map eC).length<=1125899906842624:=(hb.2.2.2.1 (sCs c.Wants) (by simp)).1;conv=>whnf
   repeat' first|((first|refine zz ?_|(refine xa ?_ ?_<;>intro _)|refine ⟨_,xj _ _ _,?_⟩|refine ⟨_,zg _,?_⟩|refine ⟨_,wb p c.Done,?_⟩|refine ⟨_,xju p c,?_⟩)<;>conv=>whnf)
   all_goals first
    | (clear iff; exfalso; simp_all; done)
    | skip
   refine Vc.loop1 (fun (i:Nat)=>i<=c.Wants.length/\∀ j,j<i->callB p (c.Wants.getD j default)=true/\(0<j->(c.Wants.getD (j - 1) default).Client<(c.Wants.getD j default).Client)) (fun i=>updL [4,7,70,71,72,73,74,75,76,77,78,79,80,81,82] [(9,I i)] []) (fun i=>c.Wants.length - i) 0 ⟨xz1 _,fun j hj=>absurd hj (x0z j)⟩ ?_ (fun i hi=>?_)
   · exact wk
   · obtain ⟨hi,hall⟩:=hi;conv=>whnf
     (refine zA ?_)
     refine xd (fun g=>?_) (fun g=>?_)
     all_goals conv=>whnf
     · have hil:i<c.Wants.length:=by omega
       have no:∀ {q:Prop},(callB p (c.Wants.getD i default)=true/\(0<i->(c.Wants.getD (i - 1) default).Client<(c.Wants.getD i default).Client)->q)->(q->False)->clerkB p c=false:=fun h1 h2=>xbf fun hB=>h2 (h1 ((iff.1 hB).2.1 i hil));by_cases hz:i=0
       · subst hz
         repeat' first|((first|refine zz ?_|(refine xa ?_ ?_<;>intro _)|refine ixN (enc:=eC) default hil ?_|refine ⟨_,y9 p (c.Wants.getD 0 default) hc,?_⟩|refine wq ?_)<;>conv=>whnf)
         all_goals first
          | (refine rB ?_; rw [no id]; rintro ⟨a1,a2⟩; clear no iff hall; simp_all; done)
          | (refine ⟨1,⟨by omega,fun j hj=>?_⟩,by simp only; omega,?_⟩
             · obtain rfl:j=0:=by omega
               clear no iff hall;exact ⟨by simp_all,fun h=>absurd h (Nat.lt_irrefl 0)⟩
             · exact wk)
       · have hz1:((i:Int) - 1).toNat=i - 1:=by omega
         repeat' first|((first|refine zz ?_|(refine xa ?_ ?_<;>intro _)|refine ixN (enc:=eC) default hil ?_|refine ⟨_,y9 p (c.Wants.getD i default) hc,?_⟩|refine ixI (enc:=eC) default (by omega) (by omega) ?_|refine wq ?_)<;>conv=>whnf)
         all_goals first
          | (refine rB ?_; rw [no id]; rintro ⟨a1,a2⟩; have a2:=a2 (by omega); clear no iff hall; simp_all; done)
          | (refine rB ?_; rw [no id]; rintro ⟨a1,a2⟩; have a2:=a2 (by omega); clear no iff hall; simp_all; omega)
          | (refine ⟨i+1,⟨by omega,fun j hj=>?_⟩,by simp only; omega,?_⟩
             · by_cases hji:j<i
               · exact hall j hji
               · obtain rfl:j=i:=by omega
                 clear no iff hall;refine ⟨by simp_all,fun h=>?_⟩
                 first
                  | (simp_all; done)
                  | (simp_all; omega)
             · exact wk)
     · have hW:∀ j,j<c.Wants.length->callB p (c.Wants.getD j default)=true/\(0<j->(c.Wants.getD (j - 1) default).Client<(c.Wants.getD j default).Client):=fun j hj=>hall j (by omega);have e:clerkB p c=(c.Up || (c.Wants.isEmpty && decide (c.Got.countP Got.Has=0))):=x11.2 (iff.trans ⟨fun h=>h.2.2,fun h=>⟨h0,hW,h⟩⟩);clear iff hall hW;have e0:(((c.Got.countP Got.Has:Nat):Int) == 0)=decide (c.Got.countP Got.Has=0):=x11.2 (by simp only [x1d,xzk]; omega)
       repeat' first|((first|refine zz ?_|(refine xa ?_ ?_<;>intro _)|refine ⟨_,xe5 c,?_⟩)<;>conv=>whnf)
       all_goals refine rB ?_
       all_goals rw [e]
       all_goals clear e hb hb1 h0
       all_goals (try rw [e0])
       all_goals clear e0
       all_goals generalize decide (c.Got.countP Got.Has=0)=z
       all_goals simp_all [j8]
 · refine fO Go.Proofs.Tryz.f59 fun hb=>?_;conv=>whnf
   repeat' first|((first|refine zz ?_|(refine xa ?_ ?_<;>intro _)|refine ⟨_,xj _ _ _,?_⟩|refine ⟨_,zg _,?_⟩|refine ⟨_,wb p c.Done,?_⟩|refine ⟨_,xju p c,?_⟩)<;>conv=>whnf)
   all_goals first
    | (refine rB ?_; rw [xbf (fun hB=>h0 (iff.1 hB).1)]; done)
    | (exfalso; refine h0 ?_; clear h0 iff; simp only [xzj,xzk]; simp_all; done)
def mid (l:List Int):Prop:=∀ x∈l,-1000000000000000<=x/\x<=1000000000000000
theorem xwg {a b:List Int} (h:a.length=b.length):plus a b=addL a b 1:=by
 rw [xdf 1 a b h]; unfold plus; congr 1; funext x y; omega
theorem xjv (a b:List Int) (h:a.length=b.length) (h1:a.length<=100) (ha:mid a) (hb':mid b):Sem P 125 [(.pure,AI a),(.pure,AI b)] [] (AI (plus a b)):=by
 have lb:=xb b;refine fK [2001] Go.Proofs.Tryz.f125 fun hb=>?_;conv=>whnf
 repeat' first|((first|refine zz ?_|(refine xa ?_ ?_<;>intro _)|refine ⟨_,yj a (by omega),?_⟩)<;>conv=>whnf)
 refine Vc.loop1 (fun (i:Nat)=>i<=b.length) (fun i=>updL [4,5,10,11,25] [(12,I i)] [(128064,.arr 3 (ints (addL a (b.take i) 1)) false)]) (fun i=>b.length - i) 0 (xz1 _) ?_ (fun i hi=>?_)
 · repeat' (first|exact True.intro|((conv=>whnf);first|exact True.intro|refine ⟨by rfl,?_⟩|refine ⟨by first|omega|(show (_:Int)=_;first|omega|(dsimp only;omega))|exact congrArg ints (vk _ _).symm,?_⟩|refine ⟨?_,?_⟩))
 · have hlo:(ints (addL a (b.take i) 1)).length=a.length:=by rw [xb,jo]
   have hlo':=jo a (b.take i) 1;conv=>whnf
   (refine zA ?_)
   refine xd (fun g=>?_) (fun g=>?_)
   all_goals conv=>whnf
   · have hil:i<b.length:=by omega
     have b1:=ha (a.getD i 0) (xp (by omega));have b2:=hb' (b.getD i 0) (xp hil);have e1:=xde 1 a b i;have e2:=xbu 1 a b i hil (by omega);rw [x2p] at e2
     repeat' first|((first|refine zz ?_|(refine xa ?_ ?_<;>intro _)|refine ixN (enc:=rI) 0 (by omega) ?_|refine ioN (by omega) (by omega) ?_)<;>conv=>whnf)|(refine rwN (enc:=rI) 0 (by simp only [xz9]; omega) ?_;conv=>whnf)|(refine w64 (by first|omega|(simp only [xz9]; omega)) (by first|omega|(simp only [xz9]; omega)) ?_;conv=>whnf)
     refine ⟨i+1,by omega,by simp only; omega,?_⟩
     repeat' (first|exact True.intro|((conv=>whnf);first|exact True.intro|refine ⟨by rfl,?_⟩|refine ⟨by first|omega|(show (_:Int)=_;first|omega|(dsimp only;omega))|exact (by simp only [xz9]; rw [yz,e1,e2]),?_⟩|refine ⟨?_,?_⟩))
   ·
    (refine zA ?_)
    have hend:b.take i=b:=xzx (by omega);exact ⟨by rw [hend,xwg h],rfl⟩
end Cc
end
