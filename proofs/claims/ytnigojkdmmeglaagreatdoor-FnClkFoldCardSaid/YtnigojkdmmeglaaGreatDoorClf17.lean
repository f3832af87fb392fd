/- The law FnClkFold: part 17 of 35. No conditions beyond the statement. -/
import Derived.Test.YtnigojkdmmeglaaGreatDoorClf15
set_option linter.unusedVariables false
set_option linter.unusedSimpArgs false
set_option maxRecDepth 100000
set_option maxHeartbeats 16000000
section
namespace Cc
open Go Go.AM
theorem ve (d:Done):d.ok=(inB d.Seq 0 300 && ((d.Seq == 0) == (d.Res.Code == 0)) && (!(d.Seq == 0) || !decide (0<d.Res.Tells.length)) && (!(decide (0<d.Seq)) || resOk d.Res)):=by
 have hr:resOk d.Res=true->d.Res.Code≠0:=fun h=>by have:=(yj.1 h).1; omega
 by_cases h:d.Seq=0
 · have e:d.Res.Tells.isEmpty=!decide (0<d.Res.Tells.length):=by cases d.Res.Tells<;>simp
   rw [<- e];simp [Done.ok,h,Rslt.none,inB];rfl
 · have hd:d.ok=(inB d.Seq 1 300 && resOk d.Res):=by unfold Done.ok; rw [if_neg h]
   have hb:(d.Seq == 0)=false:=by simpa using h
   rw [hd,hb];by_cases h2:0<d.Seq
   · have e:inB d.Seq 1 300=inB d.Seq 0 300:=x0b.2 (by rw [xc,xc]; omega);rw [e,x0w h2]
     cases hres:resOk d.Res with
     | false=>simp
     | true=>have:=hr hres; simp [this]
   · have e1:inB d.Seq 1 300=false:=by cases e:inB d.Seq 1 300 with|false=>rfl|true=>have:=xc.1 e; omega
     have e2:inB d.Seq 0 300=false:=by cases e:inB d.Seq 0 300 with|false=>rfl|true=>have:=xc.1 e; omega
     rw [e1,e2]; simp
theorem vo (p:Plan) (l:List Done):Sem P 146 [(.pure,.agg (aPl p)),(.pure,.one (sDs l))] [] (B (doneOk p l)):=by
 refine fO Go.Proofs.Tryz.f146 fun hb=>?_;have la:(l.map eD).length=l.length:=xxs ..;have hb1:(l.map eD).length<=1125899906842624:=(hb.2.1).1;conv=>whnf
 repeat' first|((first|refine zz ?_|(refine xa ?_ ?_<;>intro _))<;>conv=>whnf)
 · exact rB (by simp_all [doneOk])
 · rename_i h;have hl:(l.length:Int)=p.Clients:=by simp at h; omega
   refine Vc.loop1 (fun (i:Nat)=>i<=l.length/\∀ j,j<i->Done.ok (l.getD j default)=true) (fun i=>updL [1] [(5,I i)] []) (fun i=>l.length - i) 0 ⟨by omega,fun j hj=>absurd hj (xza j)⟩ ?_ (fun i hi=>?_)
   · exact wl
   · obtain ⟨hi,ho⟩:=hi;have hlm:(l.map eD).length=l.length:=xxs ..;conv=>whnf
     (refine zA ?_)
     refine xd (fun g=>?_) (fun g=>?_)
     all_goals conv=>whnf
     · repeat' first|((first|refine zz ?_|(refine xa ?_ ?_<;>intro _)|refine ixN (enc:=eD) default (by omega) ?_|refine ⟨_,xi _ _ _,?_⟩|refine ⟨_,jv (l.getD i default).Res,?_⟩|refine wq ?_)<;>conv=>whnf)
       all_goals first
        | (refine ⟨i+1,⟨by omega,fun j hj=>?_⟩,by simp only; omega,?_⟩
           · by_cases h':j<i
             · exact ho j h'
             · obtain rfl:j=i:=by omega
               clear ho;simp_all [ve]
           · exact wl)
        | (have hp:Done.ok (l.getD i default)=false:=by (clear ho; simp_all [ve])
           have hn:l.all Done.ok=false:=zw default (j:=i) (by omega) hp
           exact rB (by simp only [doneOk,hn,x1b]))
     · have hall:l.all Done.ok=true:=zu default fun j hj=>ho j (by omega)
       repeat' first|((first|refine zz ?_|(refine xa ?_ ?_<;>intro _)|refine ⟨_,xi _ _ _,?_⟩|refine ⟨_,jv (l.getD i default).Res,?_⟩|refine wq ?_)<;>conv=>whnf)
       exact rB (by simp only [doneOk,hall,hl,decide_true,x1h])
theorem xir (p:Plan) (l:List Int):Sem P 171 [(.pure,.agg (aPl p)),(.pure,AI l)] [] (B (seqsOk p l)):=by
 refine fO Go.Proofs.Tryz.f171 fun hb=>?_;have la:=xb l;have hb1:(ints l).length<=1125899906842624:=(hb.2.1).1;conv=>whnf
 repeat' first|((first|refine zz ?_|(refine xa ?_ ?_<;>intro _))<;>conv=>whnf)
 · exact rB (by simp_all [seqsOk])
 · rename_i h;have hl:(l.length:Int)=p.Clients:=by simp at h; omega
   refine Vc.loop1 (fun (i:Nat)=>i<=l.length/\∀ j,j<i->(fun n=>inB n 0 300) (l.getD j default)=true) (fun i=>updL [1] [(5,I i)] []) (fun i=>l.length - i) 0 ⟨by omega,fun j hj=>absurd hj (xza j)⟩ ?_ (fun i hi=>?_)
   · exact wl
   · obtain ⟨hi,ho⟩:=hi;have hlm:(l.map rI).length=l.length:=xxs ..;conv=>whnf
     (refine zA ?_)
     refine xd (fun g=>?_) (fun g=>?_)
     all_goals conv=>whnf
     · repeat' first|((first|refine zz ?_|(refine xa ?_ ?_<;>intro _)|refine ixN (enc:=rI) default (by omega) ?_|refine ⟨_,xi _ _ _,?_⟩|refine wq ?_)<;>conv=>whnf)
       all_goals first
        | (refine ⟨i+1,⟨by omega,fun j hj=>?_⟩,by simp only; omega,?_⟩
           · by_cases h':j<i
             · exact ho j h'
             · obtain rfl:j=i:=by omega
               clear ho;simp_all
           · exact wl)
        | (have hp:(fun n=>inB n 0 300) (l.getD i default)=false:=by (clear ho; simp_all )
           have hn:l.all (fun n=>inB n 0 300)=false:=zw default (j:=i) (by omega) hp
           exact rB (by simp only [seqsOk,hn,x1b]))
     · have hall:l.all (fun n=>inB n 0 300)=true:=zu default fun j hj=>ho j (by omega)
       repeat' first|((first|refine zz ?_|(refine xa ?_ ?_<;>intro _)|refine ⟨_,xi _ _ _,?_⟩|refine wq ?_)<;>conv=>whnf)
       exact rB (by simp only [seqsOk,hall,hl,decide_true,x1h])
theorem xst (x:Msg) (a b c d:Bool):Sem P 170 [(.pure,.agg (aM x)),(.pure,B a),(.pure,B b),(.pure,B c),(.pure,B d)] [] (B ((a || x.Call.none) && (b || x.Vals.isEmpty) && (c || x.Seqs.isEmpty) && (d || x.Done.isEmpty))):=by
 refine fO Go.Proofs.Tryz.f170 fun hb=>?_;conv=>whnf
 repeat' first|((first|refine zz ?_|(refine xa ?_ ?_<;>intro _))<;>conv=>whnf)
 all_goals exact rB (by simp_all [Call.none,xb3])
theorem xg1 (p:Plan) (x:Msg) (hc:inB p.Clients 0 4=true):Sem P 76 [(.pure,.agg (aPl p)),(.pure,.agg (aM x))] [] (B (msgB p x)):=by
 obtain ⟨k,to,from_,round,call,vals,seqs,done⟩:=x;have lg:=xb p.Gives;have hk:k=1\/k=2\/k=3\/k=4\/(k≠1/\k≠2/\k≠3/\k≠4):=by omega
 rcases hk with rfl|rfl|rfl|rfl|hk
 all_goals refine fO Go.Proofs.Tryz.f76 fun hb=>?_
 all_goals have hb1:(ints p.Gives).length<=1125899906842624:=(hb.1 (sI p.Gives) (by simp)).1
 all_goals conv=>whnf
 all_goals repeat' first|((first|refine zz ?_|(refine xa ?_ ?_<;>intro _)|refine ⟨_,xi _ _ _,?_⟩|refine ⟨_,ze p call hc,?_⟩|refine ⟨_,xst _ _ _ _ _,?_⟩|refine ⟨_,x9 vals 3 _ (by omega),?_⟩|refine ⟨_,zc _,?_⟩|refine ⟨_,xir p seqs,?_⟩|refine ⟨_,vo p done,?_⟩|refine wq ?_)<;>conv=>whnf)
 all_goals first
  | (refine rB ?_; simp_all [msgB,isSite,addedOk]; done)
  | (refine rB ?_; simp_all [msgB,isSite,addedOk,inB]; done)
  | (exfalso; simp_all; done)
theorem xm4 (p:Plan) (x:Client) (n:Int) (hc:inB p.Clients 0 4=true):Sem P 205 [(.pure,.agg (aPl p)),(.pure,.agg (aX x)),(.pure,I n)] [] (B (clientB p n x)):=by
 by_cases h:inB x.Seq 0 300=true
 · have hs:=xc.1 h;have ce:clientB p n x=((inB x.Seq 0 300 && ((x.Seq == 0) == (x.Res.Code == 0)) && (!(x.Seq == 0) || !decide (0<x.Res.Tells.length)) && (!(decide (0<x.Seq)) || resOk x.Res)) && if x.Busy then callB p x.Call && (x.Call.Client == n) && (x.Call.Seq == x.Seq+1) else ((x.Call.Client == 0) && (x.Call.Seq == 0) && (x.Call.Act == 0) && x.Call.Args.isEmpty)):=by
    unfold clientB; rw [ve]; rfl
   refine fO Go.Proofs.Tryz.f205 fun hb=>?_;conv=>whnf
   repeat' first|((first|refine zz ?_|(refine xa ?_ ?_<;>intro _)|refine ⟨_,xi _ _ _,?_⟩|refine ⟨_,jv x.Res,?_⟩|refine ⟨_,ze p x.Call hc,?_⟩|refine wq ?_)<;>conv=>whnf)
   all_goals refine rB ?_
   all_goals rw [ce]
   all_goals clear ce hb
   all_goals first
    | (simp_all [xb3]; done)
    | (simp only [x08] at *
       generalize (x.Res.Code == 0)=bc at *;generalize (x.Seq == 0)=bs at *
       cases bs<;>cases bc<;>first|(exfalso; simp_all; done)|(simp_all [xb3]; done))
 · have hf:inB x.Seq 0 300=false:=by simpa using h
   have ce0:clientB p n x=false:=by unfold clientB; rw [ve]; simp only; rw [hf]; rfl
   refine fO Go.Proofs.Tryz.f205 fun hb=>?_;conv=>whnf
   repeat' first|((first|refine zz ?_|(refine xa ?_ ?_<;>intro _)|refine ⟨_,xi _ _ _,?_⟩)<;>conv=>whnf)
   all_goals first
    | exact rB ce0.symm
    | (exfalso; simp_all; done)
theorem xfw (acts:List (List Line)):(pinsOf acts).length=3:=rfl
theorem xis {t:Treaty} {parts:List (List Int)} {s:Int} {a:List Int} (h:trtKeeps t parts s a=true):a.length=3:=by
 unfold trtKeeps at h;simp only [xxt] at h;exact (xq h.1.2).1
theorem xbn (b:List Bool) (l:List Int) (hb:b.length=3) (hl:l.length=3):Sem P 182 [(.pure,.one (sBs b)),(.pure,AI l)] [] (B (unpinned b l)):=by
 obtain ⟨p,q,r,rfl⟩:=len3 hb;obtain ⟨x,y,z,rfl⟩:=len3 hl;exact xp3 p q r x y z
theorem kt (p:Plan) (s:Site):Sem P 89 [(.pure,.agg (aPl p)),(.pure,.agg (aS s))] [] (.agg [fI s.Base,fI p.Gives]):=by
 refine fO Go.Proofs.Tryz.f89 fun hb=>?_;conv=>whnf
 repeat' first|((first|refine zz ?_|(refine xa ?_ ?_<;>intro _))<;>conv=>whnf)
 exact ⟨rfl,rfl⟩
theorem xm5 (p:Plan) (s:Site) (n:Int):Sem P 92 [(.pure,.agg (aPl p)),(.pure,.one (sPs (partsOf p.Acts))),(.pure,.one (sBs (pinsOf p.Acts))),(.pure,.agg (aS s)),(.pure,I n)] [] (B (siteB p s n)):=by
 have hk:keeps p.Acts (p.treaty s.Base) n s.Added=(trtKeeps ⟨s.Base,p.Gives⟩ (partsOf p.Acts) n s.Added && unpinned (pinsOf p.Acts) s.Added):=rfl;have hkT:=vn ⟨s.Base,p.Gives⟩ (partsOf p.Acts) n s.Added
 cases hkb:trtKeeps ⟨s.Base,p.Gives⟩ (partsOf p.Acts) n s.Added with
 | false =>
   rw [hkb] at hkT hk;refine fO Go.Proofs.Tryz.f92 fun hb=>?_;conv=>whnf
   repeat' first|((first|refine zz ?_|(refine xa ?_ ?_<;>intro _)|refine ⟨_,xi _ _ _,?_⟩|refine ⟨_,zc _,?_⟩|refine ⟨_,kt p s,?_⟩|refine ⟨_,hkT,?_⟩)<;>conv=>whnf)
   all_goals (refine rB ?_; unfold siteB; rw [hk]; clear hk hb hkT; simp_all)
 | true =>
   have hl:=xis hkb;rw [hkb] at hkT hk;refine fO Go.Proofs.Tryz.f92 fun hb=>?_;conv=>whnf
   repeat' first|((first|refine zz ?_|(refine xa ?_ ?_<;>intro _)|refine ⟨_,xi _ _ _,?_⟩|refine ⟨_,zc _,?_⟩|refine ⟨_,kt p s,?_⟩|refine ⟨_,hkT,?_⟩|refine ⟨_,xbn (pinsOf p.Acts) s.Added (xfw _) hl,?_⟩|refine ⟨_,vo p s.Done,?_⟩)<;>conv=>whnf)
   all_goals (refine rB ?_; unfold siteB; rw [hk]; clear hk hb hkT; simp_all)
theorem xbc (c:Clerk):Sem P 56 [(.pure,.agg (aK c))] [] (I (c.Got.countP Got.Has)):=by
 have lg:(c.Got.map eG).length=c.Got.length:=xxs ..;refine fO Go.Proofs.Tryz.f56 fun hb=>?_;have hb1:(c.Got.map eG).length<=1125899906842624:=(hb.1 (sGs c.Got) (by simp)).1;conv=>whnf
 (refine zA ?_)
 refine Vc.loop2 (fun (i n:Nat)=>i<=c.Got.length/\n=(c.Got.take i).countP Got.Has) (fun i n=>updL [1,2,20] [(4,I i),(3,I n)] []) (fun i _=>c.Got.length - i) 0 0 ⟨xyb _,rfl⟩ ?_ (fun i n hi=>?_)
 · exact wk
 · obtain ⟨hi,hn⟩:=hi;have hcl:=x0c (p:=Got.Has) (l:=c.Got.take i);rw [xyc] at hcl;conv=>whnf
   (refine zA ?_)
   refine xd (fun g=>?_) (fun g=>?_)
   all_goals conv=>whnf
   · have es:=xp (l:=c.Got) (i:=i) (by omega)
     repeat' first|((first|refine zz ?_|(refine xa ?_ ?_<;>intro _)|refine ixN (enc:=eG) default (by omega) ?_|refine wq ?_)<;>conv=>whnf)
     · rename_i h;refine ⟨i+1,n+1,⟨by omega,by rw [es,x0m,<- hn,List.countP_cons_of_pos h]; rfl⟩,by simp only; omega,?_⟩;exact wk
     · rename_i h;refine ⟨i+1,n,⟨by omega,by rw [es,x0m,<- hn,List.countP_cons_of_neg (by rw [h]; decide)]; rfl⟩,by simp only; omega,?_⟩;exact wk
   ·
    (refine zA ?_)
    exact rI' (by rw [xx7 (by omega)] at hn; omega)
theorem xit (p:Plan) (c:Clerk):Sem P 147 [(.pure,.agg (aPl p)),(.pure,.one (sPs (partsOf p.Acts))),(.pure,.one (sBs (pinsOf p.Acts))),(.pure,.agg (aK c))] [] (B (decide (c.Got.length=p.Gives.length) && allI (gotB p c.Base) 0 c.Got)):=by
 have lg:(c.Got.map eG).length=c.Got.length:=xxs ..;have lp:=xb p.Gives;have al:=@zi Got _ (gotB p c.Base) c.Got;refine fO Go.Proofs.Tryz.f147 fun hb=>?_;have hb1:(c.Got.map eG).length<=1125899906842624:=(hb.2.2.2.1 (sGs c.Got) (by simp)).1;have hb2:=(hb.2.2.2.1 (sGs c.Got) (by simp)).2;conv=>whnf
 repeat' first|((first|refine zz ?_|(refine xa ?_ ?_<;>intro _))<;>conv=>whnf)
 · rename_i hne;have hne:=yt hne;refine rB ?_;rw [x0l (fun e=>hne (by rw [lg,lp,e]))]; rfl
 · rename_i hne;have hlen:c.Got.length=p.Gives.length:=by clear al; simp at hne; omega
   refine Vc.loop1 (fun (i:Nat)=>i<=c.Got.length/\∀ j,j<i->gotB p c.Base j (c.Got.getD j default)=true) (fun i=>updL [1,2,4,7,9] [(10,I i)] []) (fun i=>c.Got.length - i) 0 ⟨xyb _,fun j hj=>absurd hj (xza j)⟩ ?_ (fun i hi=>?_)
   · exact wk
   · obtain ⟨hi,hall⟩:=hi;conv=>whnf
     (refine zA ?_)
     refine xd (fun g=>?_) (fun g=>?_)
     all_goals conv=>whnf
     · have hil:i<c.Got.length:=by omega
       have no:gotB p c.Base i (c.Got.getD i default)=false->(decide (c.Got.length=p.Gives.length) && allI (gotB p c.Base) 0 c.Got)=false:=fun h=>by
        cases e:allI (gotB p c.Base) 0 c.Got with
        | false=>exact x1b _
        | true=>have:=al.1 e i hil; rw [h] at this; cases this
       have hk:gotB p c.Base i (c.Got.getD i default)=((c.Got.getD i default).none || ((c.Got.getD i default).Has && (trtKeeps ⟨c.Base,p.Gives⟩ (partsOf p.Acts) i (c.Got.getD i default).Added && unpinned (pinsOf p.Acts) (c.Got.getD i default).Added) && seqsOk p (c.Got.getD i default).Seqs)):=rfl;have la:=xb (c.Got.getD i default).Added;have ls:=xb (c.Got.getD i default).Seqs;have hr:=hb2 (eG (c.Got.getD i default)) (List.mem_map_of_mem (xw hil));have h1a:(ints (c.Got.getD i default).Added).length<=1125899906842624:=(hr (fI (c.Got.getD i default).Added) (by simp)).1;have h1s:(ints (c.Got.getD i default).Seqs).length<=1125899906842624:=(hr (fI (c.Got.getD i default).Seqs) (by simp)).1;have en:(c.Got.getD i default).none=(!(c.Got.getD i default).Has && !decide (((ints (c.Got.getD i default).Added).length:Int)+(ints (c.Got.getD i default).Seqs).length>0)):=by
        rw [la,ls]; unfold Got.none;cases (c.Got.getD i default).Added<;>cases (c.Got.getD i default).Seqs<;>cases (c.Got.getD i default).Has<;>simp<;>omega
       have hkT:=vn ⟨c.Base,p.Gives⟩ (partsOf p.Acts) i (c.Got.getD i default).Added;rw [en] at hk;clear en hr;have fin:∀ {b:Bool},gotB p c.Base i (c.Got.getD i default)=b->b=true->∀ j,j<i+1->gotB p c.Base j (c.Got.getD j default)=true:=fun h1 h2 j hj=>by
        by_cases hji:j<i
        · exact hall j hji
        · obtain rfl:j=i:=by omega
          rw [h1]; exact h2
       cases hkb:trtKeeps ⟨c.Base,p.Gives⟩ (partsOf p.Acts) i (c.Got.getD i default).Added with
       | false =>
         rw [hkb] at hkT hk
         repeat' first|((first|refine zz ?_|(refine xa ?_ ?_<;>intro _)|refine ixN (enc:=eG) default hil ?_|refine ⟨_,hkT,?_⟩|refine wq ?_)<;>conv=>whnf)
         all_goals first
          | (refine rB ?_; rw [no (by rw [hk]; clear no hk hall al hb hb2 hkT fin; simp_all)]; done)
          | (refine ⟨i+1,⟨by omega,fin hk (by clear no hk hall al hb hb2 hkT fin; simp_all)⟩,by simp only; omega,?_⟩
             exact wk)
          | (exfalso; clear no hk hall al hb hb2 hkT fin; simp_all; done)
       | true =>
         have hl:=xis hkb;rw [hkb] at hkT hk
         repeat' first|((first|refine zz ?_|(refine xa ?_ ?_<;>intro _)|refine ixN (enc:=eG) default hil ?_|refine ⟨_,hkT,?_⟩|refine ⟨_,xbn (pinsOf p.Acts) (c.Got.getD i default).Added (xfw _) hl,?_⟩|refine ⟨_,xir p (c.Got.getD i default).Seqs,?_⟩|refine wq ?_)<;>conv=>whnf)
         all_goals first
          | (refine rB ?_; rw [no (by rw [hk]; clear no hk hall al hb hb2 hkT fin; simp_all)]; done)
          | (refine ⟨i+1,⟨by omega,fin hk (by clear no hk hall al hb hb2 hkT fin; simp_all)⟩,by simp only; omega,?_⟩
             exact wk)
          | (exfalso; clear no hk hall al hb hb2 hkT fin; simp_all; done)
     ·
      (refine zA ?_)
      refine rB ?_;rw [al.2 fun j hj=>hall j (by omega),x0w hlen]; rfl
theorem xm6 {p:Plan} {c:Clerk}:clerkB p c=true↔((inB c.Round 0 200 && valOk c.Base && doneOk p c.Done && (decide (c.Got.length=p.Gives.length) && allI (gotB p c.Base) 0 c.Got))=true) /\
 (∀ j,j<c.Wants.length->callB p (c.Wants.getD j default)=true/\(0<j->(c.Wants.getD (j - 1) default).Client<(c.Wants.getD j default).Client))/\(c.Up || (c.Wants.isEmpty && decide (c.Got.countP Got.Has=0)))=true:=by
 have e:(c.Got.all fun g=>!g.Has)=decide (c.Got.countP Got.Has=0):=by
  cases h:decide (c.Got.countP Got.Has=0) with
  | true=>have:=List.countP_eq_zero.1 (x0e h); rw [xxv]; intro x hx; simpa using this x hx
  | false =>
    have:=x11 h
    cases h':(c.Got.all fun g=>!g.Has) with
    | false=>rfl
    | true=>exact absurd (List.countP_eq_zero.2 fun x hx=>by have:=xxv.1 h' x hx; simpa using this) this
 unfold clerkB;rw [e];simp only [xxt,xcv,xla];constructor
 · rintro ⟨⟨⟨⟨⟨⟨⟨h1,h2⟩,h3⟩,h4⟩,h5⟩,h6⟩,h7⟩,h8⟩;refine ⟨⟨⟨⟨h1,h2⟩,h3⟩,h4,h5⟩,fun j hj=>⟨h6 j hj,fun h0=>?_⟩,h8⟩;have:=h7 (j - 1) (by omega);rw [show j - 1+1=j from by omega] at this; exact this
 · rintro ⟨⟨⟨⟨h1,h2⟩,h3⟩,h4,h5⟩,h6,h8⟩;refine ⟨⟨⟨⟨⟨⟨⟨h1,h2⟩,h3⟩,h4⟩,h5⟩,fun j hj=>(h6 j hj).1⟩,fun j hj=>?_⟩,h8⟩;have:=(h6 (j+1) hj).2 (by omega);simpa using this
theorem xaw (p:Plan) (c:Clerk) (hc:inB p.Clients 0 4=true):Sem P 59 [(.pure,.agg (aPl p)),(.pure,.one (sPs (partsOf p.Acts))),(.pure,.one (sBs (pinsOf p.Acts))),(.pure,.agg (aK c))] [] (B (clerkB p c)):=by
 have iff:=@xm6 p c;have lw:(c.Wants.map eC).length=c.Wants.length:=xxs ..;by_cases h0:(inB c.Round 0 200 && valOk c.Base && doneOk p c.Done && (decide (c.Got.length=p.Gives.length) && allI (gotB p c.Base) 0 c.Got))=true
 · refine fO Go.Proofs.Tryz.f59 fun hb=>?_;have hb1:(c.Wants.map eC).length<=1125899906842624:=(hb.2.2.2.1 (sCs c.Wants) (by simp)).1;conv=>whnf
   repeat' first|((first|refine zz ?_|(refine xa ?_ ?_<;>intro _)|refine ⟨_,xi _ _ _,?_⟩|refine ⟨_,zc _,?_⟩|refine ⟨_,vo p c.Done,?_⟩|refine ⟨_,xit p c,?_⟩)<;>conv=>whnf)
   all_goals first
    | (clear iff; exfalso; simp_all; done)
    | skip
   refine Vc.loop1 (fun (i:Nat)=>i<=c.Wants.length/\∀ j,j<i->callB p (c.Wants.getD j default)=true/\(0<j->(c.Wants.getD (j - 1) default).Client<(c.Wants.getD j default).Client)) (fun i=>updL [4,7,70,71,72,73,74,75,76,77,78,79,80,81,82] [(9,I i)] []) (fun i=>c.Wants.length - i) 0 ⟨xyb _,fun j hj=>absurd hj (xza j)⟩ ?_ (fun i hi=>?_)
   · exact wk
   · obtain ⟨hi,hall⟩:=hi;conv=>whnf
     (refine zA ?_)
     refine xd (fun g=>?_) (fun g=>?_)
     all_goals conv=>whnf
     · have hil:i<c.Wants.length:=by omega
       have no:∀ {q:Prop},(callB p (c.Wants.getD i default)=true/\(0<i->(c.Wants.getD (i - 1) default).Client<(c.Wants.getD i default).Client)->q)->(q->False)->clerkB p c=false:=fun h1 h2=>xau fun hB=>h2 (h1 ((iff.1 hB).2.1 i hil));by_cases hz:i=0
       · subst hz
         repeat' first|((first|refine zz ?_|(refine xa ?_ ?_<;>intro _)|refine ixN (enc:=eC) default hil ?_|refine ⟨_,ze p (c.Wants.getD 0 default) hc,?_⟩|refine wq ?_)<;>conv=>whnf)
         all_goals first
          | (refine rB ?_; rw [no id]; rintro ⟨a1,a2⟩; clear no iff hall; simp_all; done)
          | (refine ⟨1,⟨by omega,fun j hj=>?_⟩,by simp only; omega,?_⟩
             · obtain rfl:j=0:=by omega
               clear no iff hall;exact ⟨by simp_all,fun h=>absurd h (Nat.lt_irrefl 0)⟩
             · exact wk)
       · have hz1:((i:Int) - 1).toNat=i - 1:=by omega
         repeat' first|((first|refine zz ?_|(refine xa ?_ ?_<;>intro _)|refine ixN (enc:=eC) default hil ?_|refine ⟨_,ze p (c.Wants.getD i default) hc,?_⟩|refine ixI (enc:=eC) default (by omega) (by omega) ?_|refine wq ?_)<;>conv=>whnf)
         all_goals first
          | (refine rB ?_; rw [no id]; rintro ⟨a1,a2⟩; have a2:=a2 (by omega); clear no iff hall; simp_all; done)
          | (refine rB ?_; rw [no id]; rintro ⟨a1,a2⟩; have a2:=a2 (by omega); clear no iff hall; simp_all; omega)
          | (refine ⟨i+1,⟨by omega,fun j hj=>?_⟩,by simp only; omega,?_⟩
             · by_cases hji:j<i
               · exact hall j hji
               · obtain rfl:j=i:=by omega
                 clear no iff hall;refine ⟨by simp_all,fun h=>?_⟩
                 first
                  | (simp_all; done)
                  | (simp_all; omega)
             · exact wk)
     · have hW:∀ j,j<c.Wants.length->callB p (c.Wants.getD j default)=true/\(0<j->(c.Wants.getD (j - 1) default).Client<(c.Wants.getD j default).Client):=fun j hj=>hall j (by omega);have e:clerkB p c=(c.Up || (c.Wants.isEmpty && decide (c.Got.countP Got.Has=0))):=x0b.2 (iff.trans ⟨fun h=>h.2.2,fun h=>⟨h0,hW,h⟩⟩);clear iff hall hW;have e0:(((c.Got.countP Got.Has:Nat):Int) == 0)=decide (c.Got.countP Got.Has=0):=x0b.2 (by simp only [xzw,xxy]; omega)
       repeat' first|((first|refine zz ?_|(refine xa ?_ ?_<;>intro _)|refine ⟨_,xbc c,?_⟩)<;>conv=>whnf)
       all_goals refine rB ?_
       all_goals rw [e]
       all_goals clear e hb hb1 h0
       all_goals (try rw [e0])
       all_goals clear e0
       all_goals generalize decide (c.Got.countP Got.Has=0)=z
       all_goals simp_all [xb3]
 · refine fO Go.Proofs.Tryz.f59 fun hb=>?_;conv=>whnf
   repeat' first|((first|refine zz ?_|(refine xa ?_ ?_<;>intro _)|refine ⟨_,xi _ _ _,?_⟩|refine ⟨_,zc _,?_⟩|refine ⟨_,vo p c.Done,?_⟩|refine ⟨_,xit p c,?_⟩)<;>conv=>whnf)
   all_goals first
    | (refine rB ?_; rw [xau (fun hB=>h0 (iff.1 hB).1)]; done)
    | (exfalso; refine h0 ?_; clear h0 iff; simp only [xxt,xxy]; simp_all; done)
end Cc
end
