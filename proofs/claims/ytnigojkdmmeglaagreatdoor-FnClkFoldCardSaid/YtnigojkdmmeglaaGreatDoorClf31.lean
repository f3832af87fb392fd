/- The law FnClkFold: part 31 of 35. No conditions beyond the statement. -/
import Derived.Test.YtnigojkdmmeglaaGreatDoorClf29
set_option linter.unusedVariables false
set_option linter.unusedSimpArgs false
set_option maxRecDepth 100000
set_option maxHeartbeats 16000000
section
namespace Cc
open Go Go.AM
def logs (l:List (Call × Rslt)):List LogD:=l.map fun y=>⟨y.1,y.2⟩
theorem xu7 {l:List (Call × Rslt)} {i:Nat} (h:i<l.length):(logs l).getD i default=⟨(l.map Prod.fst).getD i Call.nil,(l.map Prod.snd).getD i Rslt.nil⟩:=by
 unfold logs;rw [xxx,xxx,xxx,xx0,xx0,xx0,xxr h]; rfl
theorem xqk {log:List LogD} {l:List LogD} {i:Nat} (h:i<l.length):write (write log (l.take i)) [l.getD i default]=write log (l.take (i+1)):=by
 unfold write;by_cases h1:log.length+i<100
 · rw [xx7 (l:=l.take i) (by rw [xyc]; omega),xx7 (l:=l.take (i+1)) (by rw [xyc]; omega)];rw [xx7 (l:=[l.getD i default]) (by simp only [xyo,xx3,xyc]; omega),xyl,xp h]
 · have e1:(l.take i).take (100 - log.length)=l.take (100 - log.length):=by rw [List.take_take,xzs (by omega)]
   have e2:(l.take (i+1)).take (100 - log.length)=l.take (100 - log.length):=by rw [List.take_take,xzs (by omega)]
   rw [e1,e2];have e3:100 - (log++l.take (100 - log.length)).length=0:=by rw [xx3,xyc]; omega
   rw [e3]; simp
theorem xu8 {p:Plan} {m:Msg} (hm:msgB p m=true) (h:m.To ≠ -1):isSite p m.To=true:=by
 unfold msgB at hm;rw [xxt] at hm;obtain ⟨_,hm⟩:=hm
 split at hm
 · simp only [xxt,xxy] at hm; exact absurd hm.1.1.1.1.1.1 h
 · split at hm
   · simp only [xxt] at hm; exact hm.1.1.1.1.1
   · split at hm
     · simp only [xxt,xxy] at hm; exact absurd hm.1.1.1.1.1 h
     · split at hm
       · simp only [xxt] at hm; exact hm.1.1.1.1.1
       · cases hm
theorem xlp (p:Plan) (s:Site) (n:Int) (m:Msg):(siteHear p s n m).2.length<=1:=by
 unfold siteHear
 split
 · simp
 · split
   · simp
   · split<;>simp
theorem xte (c:Clerk):(pacts c).length=c.Got.length:=by simp [pacts]
theorem xjd {p:Plan} {c:Clerk} {m:Msg} (hp:PlanF p) (hc:ClerkF p c) (hm:msgB p m=true):(clerkHear p c m).2.1.length<=p.Gives.length:=by
 have h:=(xar hp hc hm).1.gl;unfold clerkHear at h ⊢
 split
 · simp
 · split
   · simp
   · split
     · simp
     · rename_i g1 g2 g3;rw [if_neg g1,if_neg g2,if_neg g3] at h;simp only
       split
       · simp
       · rw [xte]; simp only at h; omega
theorem kx (p:Plan) (got:List Got):∀ (l:List Call) (v:List Int) (d:List Done),(foldWants p got l v d).2.2.length<=l.length
 | [],_,_=>by simp [foldWants]
 | x::r,v,d=>by
   unfold foldWants
   split
   · have:=kx p got r (actRun (p.Acts.getD x.Act.toNat []) v x.Args).2 (d.set x.Client.toNat ⟨x.Seq,(actRun (p.Acts.getD x.Act.toNat []) v x.Args).1⟩);simp only [xyg]; omega
   · have:=kx p got r v d;simp only [xyg]; omega
theorem xg8 (p:Plan) (c:Clerk) (m:Msg):(clerkHear p c m).2.2.length<=c.Wants.length:=by
 unfold clerkHear
 split
 · simp
 · split
   · simp
   · split
     · simp
     · simp only;unfold clerkFold
       split
       · simp
       · exact kx ..
theorem xql {w:World} {n:Int} (hi:inB n 0 (w.Net.length - 1)=true) (ht:(w.Net.getD n.toNat default).To ≠ -1):doBring w n={ w with
 Sites:=w.Sites.set (w.Net.getD n.toNat default).To.toNat (siteHear w.Plan (w.Sites.getD (w.Net.getD n.toNat default).To.toNat Site.nil) (w.Net.getD n.toNat default).To (w.Net.getD n.toNat default)).1
 Net:=send (cut w.Net n) (siteHear w.Plan (w.Sites.getD (w.Net.getD n.toNat default).To.toNat Site.nil) (w.Net.getD n.toNat default).To (w.Net.getD n.toNat default)).2 }:=by
 have hn:=xc.1 hi;have e:w.Net[n.toNat]?=some (w.Net.getD n.toNat default):=by rw [xxx,xxr (by omega)]; rfl
 unfold doBring;rw [if_pos hi,e];simp only;rw [if_pos ht]
theorem xne {w:World} {n:Int} (hi:inB n 0 (w.Net.length - 1)=true) (ht:¬ (w.Net.getD n.toNat default).To ≠ -1):doBring w n={ w with
 Clerk:=(clerkHear w.Plan w.Clerk (w.Net.getD n.toNat default)).1
 Net:=send (cut w.Net n) (clerkHear w.Plan w.Clerk (w.Net.getD n.toNat default)).2.1
 Log:=write w.Log (logs (clerkHear w.Plan w.Clerk (w.Net.getD n.toNat default)).2.2) }:=by
 have hn:=xc.1 hi;have e:w.Net[n.toNat]?=some (w.Net.getD n.toNat default):=by rw [xxx,xxr (by omega)]; rfl
 unfold doBring;rw [if_pos hi,e];simp only;rw [if_neg ht];rfl
theorem xog {l:List (Call × Rslt)} {i:Nat} (h:i<l.length):((l.map Prod.fst).getD i Call.nil,(l.map Prod.snd).getD i Rslt.nil)∈l:=by
 have:((l.map Prod.fst).getD i Call.nil,(l.map Prod.snd).getD i Rslt.nil)=l[i]:=by
  rw [xxx,xxx,xx0,xx0,xxr h]; rfl
 rw [this]; exact xyy h
theorem xlq (w:World) (n:Int) (hw:WorldF w):Sem P 208 [(.own,.agg (oWd w)),(.pure,.one (sPs (partsOf w.Plan.Acts))),(.pure,.one (sBs (pinsOf w.Plan.Acts))),(.pure,I n)] [] (.agg (oWd (doBring w n))):=by
 have hF:=hw.p;have hp:=hF.ok;have hcl:=xt hp;have g3:=yp hp;have lm:(w.Net.map eM).length=w.Net.length:=xxs ..;have ls:(w.Sites.map eS).length=w.Sites.length:=xxs ..;have hsl:=hw.sl;have hnl:=hw.nl;have hcu:(cut w.Net n).length<=w.Net.length:=xac
 cases h:inB n 0 (w.Net.length - 1) with
 | false =>
   have e:doBring w n=w:=by unfold doBring; rw [h]; rfl
   rw [e];refine fO Go.Proofs.Tryz.f208 fun hb=>?_;conv=>whnf
   repeat' first|((first|refine zz ?_|(refine xa ?_ ?_<;>intro _)|refine ⟨_,xi _ _ _,?_⟩|refine wq ?_)<;>conv=>whnf)
   all_goals first
    | exact ⟨rfl,rfl⟩
    | (exfalso; simp_all; done)
 | true =>
   have hn:=xc.1 h;have hC:Sem P 209 [(.own,.agg (oWd w)),(.pure,I n)] [] (.agg (xWd w.Plan (w.Sites.map eS) w.Clerk w.Clients (cut w.Net n) w.Log)):=xlo w n (by omega);have hm:msgB w.Plan (w.Net.getD n.toNat default)=true:=hw.n _ (xw (by omega));by_cases ht:(w.Net.getD n.toNat default).To ≠ -1
   · have hsi:=xc.1 (xu8 hm ht);rw [xql h ht];have hmk:(w.Net.map eM)[n.toNat]?=some (eM (w.Net.getD n.toNat default)):=by rw [xx0,xxx,xxr (by omega)]; rfl
     generalize w.Net.getD n.toNat default=m at *;have hs:=xfx hw hsi.1 (by omega);have hH:=xqh w.Plan (w.Sites.getD m.To.toNat Site.nil) m.To m hp hsi.1 hs hm;have hok:=xfe hF (i:=m.To.toNat) (s:=w.Sites.getD m.To.toNat Site.nil) (m:=m) (by rw [x0j hsi.1]; exact hs) (by omega) hm;rw [x0j hsi.1] at hok;have hl1:=xlp w.Plan (w.Sites.getD m.To.toNat Site.nil) m.To m;generalize siteHear w.Plan (w.Sites.getD m.To.toNat Site.nil) m.To m=y at *;obtain ⟨s',out⟩:=y;simp only at hok hl1;replace hH:Sem P 261 _ [] (.tup [(true,eS s'),(false,[fMs out])]):=hH;have hS:=xc1 w.Plan _ (yv w.Sites m.To.toNat s') w.Clerk w.Clients (cut w.Net n) w.Log out (by omega) (by omega) (fun x hx=>by have:=jn hcl (hok.2.1 x hx); omega);refine fK [5002,9002,15009,16002] Go.Proofs.Tryz.f208 fun hb=>?_;conv=>whnf
     repeat' first|((first|refine zz ?_|(refine xa ?_ ?_<;>intro _)|refine ⟨_,xi _ _ _,?_⟩|refine wq ?_|refine ioN (by omega) (by omega) ?_|refine rwC hmk ?_|refine rwN (enc:=eS) Site.nil (by omega) ?_|refine ⟨_,hC,?_⟩|refine ⟨_,hH,?_⟩|refine ⟨_,hS,?_⟩)<;>conv=>whnf)
     all_goals first
      | (exfalso; clear hb hC hH hS hok hs hm; simp_all; done)
      | (refine ⟨?_,rfl⟩
         show TV.agg [eI w.Plan.Clients,fAs w.Plan.Acts,fI w.Plan.Gives,fI w.Plan.Start,.sl 60 ((w.Sites.map eS).set _ (eS s')),eB w.Clerk.Up,eI w.Clerk.Round,fI w.Clerk.Base,fDs w.Clerk.Done,fCs w.Clerk.Wants,fGs w.Clerk.Got,_,_,_]=_;rw [yv]
         done)
   · rw [xne h ht];have hmk:(w.Net.map eM)[n.toNat]?=some (eM (w.Net.getD n.toNat default)):=by rw [xx0,xxx,xxr (by omega)]; rfl
     generalize w.Net.getD n.toNat default=m at *;have hH:=xqj w.Plan w.Clerk m hp hw.k hm;obtain ⟨y1,y2,y3,-,-⟩:=xar hF hw.k hm;have hl1:=xjd hF hw.k hm;have hl2:=xg8 w.Plan w.Clerk m;have hw4:=kc hw.k hcl;generalize clerkHear w.Plan w.Clerk m=y at *;obtain ⟨c',out,l⟩:=y;simp only at y1 y2 y3 hl1 hl2;replace hH:Sem P 262 _ [] (.tup [(true,eK c'),(false,[fMs out]),(false,[fCs (l.map Prod.fst)]),(false,[fRs (l.map Prod.snd)])]):=hH;have lf:((l.map Prod.fst).map eC).length=l.length:=by simp
     have lr:((l.map Prod.snd).map eR).length=l.length:=by simp
     have lf2:(l.map Prod.fst).length=l.length:=by simp
     have lr2:(l.map Prod.snd).length=l.length:=by simp
     have lgl:(logs l).length=l.length:=by simp [logs]
     have hS:=xc1 w.Plan _ (rfl:w.Sites.map eS=_) c' w.Clients (cut w.Net n) (write w.Log (logs l)) out (by omega) (by omega) (fun x hx=>by have:=jn hcl (y2 x hx).1; omega);refine fK [5002,9002,15009,16002] Go.Proofs.Tryz.f208 fun hb=>?_;conv=>whnf
     repeat' first|((first|refine zz ?_|(refine xa ?_ ?_<;>intro _)|refine ⟨_,xi _ _ _,?_⟩|refine wq ?_|refine ioN (by omega) (by omega) ?_|refine rwC hmk ?_|refine ⟨_,hC,?_⟩|refine ⟨_,hH,?_⟩)<;>conv=>whnf)
     all_goals first
      | (exfalso; clear hb hC hH hS hm y1 y2 y3; simp_all; done)
      | skip
     refine Vc.loop1 (fun (i:Nat)=>i<=l.length) (fun i=>updL [4,8,13,14,15,91,92,93] [(16,I i)] [(320141,.arr 230 ((write w.Log ((logs l).take i)).map eO) false)]) (fun i=>l.length - i) 0 (xyb _) ?_ (fun i hi=>?_)
     · repeat' (first|exact True.intro|((conv=>whnf);first|exact True.intro|refine ⟨by rfl,?_⟩|refine ⟨by first|omega|(show (_:Int)=_;first|omega|(dsimp only;omega))|exact (by simp [write]),?_⟩|refine ⟨?_,?_⟩))
     · conv=>whnf
       (refine zA ?_)
       refine xd (fun g=>?_) (fun g=>?_)
       all_goals conv=>whnf
       · have hil:i<l.length:=by omega
         have hmem:=y3 _ (xog hil);have hW:=xfi w.Plan _ (rfl:w.Sites.map eS=_) c' w.Clients (cut w.Net n) (write w.Log ((logs l).take i)) ((l.map Prod.fst).getD i Call.nil) ((l.map Prod.snd).getD i Rslt.nil) (by have:=kd hmem.1; simp only at this; omega) (by have:=(yj.1 hmem.2).2.2.1; simp only at this; omega);rw [<- xu7 hil,xqk (by omega)] at hW
         repeat' first|((first|refine zz ?_|(refine xa ?_ ?_<;>intro _)|refine ixN (enc:=eC) Call.nil (by omega) ?_|refine ixN (enc:=eR) Rslt.nil (by omega) ?_|refine ⟨_,hW,?_⟩|refine wq ?_)<;>conv=>whnf)
         refine ⟨i+1,by omega,by simp only; omega,?_⟩;exact wk
       · have e:(logs l).take i=logs l:=xx7 (by omega);rw [e]
         repeat' first|((first|refine zz ?_|(refine xa ?_ ?_<;>intro _)|refine ⟨_,hS,?_⟩)<;>conv=>whnf)
         all_goals first
          | exact ⟨rfl,rfl⟩
theorem xnf {w:World} (hw:WorldF w):∀ x∈w.Clients,0<=x.Seq/\x.Seq<=300:=fun x hx=>by
 obtain ⟨i,hi,rfl⟩:=xg4 hx;have h:=zi.1 hw.c i hi;unfold clientB at h;rw [xxt,ve] at h;have h:=h.1;simp only [xxt] at h;exact xc.1 h.1.1.1
theorem xtf {w:World} {k a b:Int} {l:List Int} (h:¬ (1<=k/\k<=10)):step w ⟨k,a,b,l⟩=w:=by
 unfold step;simp only;rw [if_neg (by omega),if_neg (by omega),if_neg (by omega),if_neg (by omega),if_neg (by omega),if_neg (by omega),if_neg (by omega),if_neg (by omega),if_neg (by omega),if_neg (by omega)]
theorem xng (w:World) (e:Event) (hw:WorldF w) (ha:e.Args.length<=1000000):Sem P 114 [(.own,.agg (oWd w)),(.pure,.one (sPs (partsOf w.Plan.Acts))),(.pure,.one (sBs (pinsOf w.Plan.Acts))),(.pure,.agg (aE e))] [] (.agg (oWd (step w e))):=by
 have hp:=hw.p.ok;have hcl:=xt hp;have hcl4:=xc.1 hcl;have g3:=yp hp;have lm:(w.Net.map eM).length=w.Net.length:=xxs ..;have hnl:=hw.nl;have hcu:=fun n=>@xac w.Net n;obtain ⟨k,n,act,args⟩:=e;simp only at ha;show Sem P 114 [(.own,.agg (oWd w)),(.pure,.one (sPs (partsOf w.Plan.Acts))),(.pure,.one (sBs (pinsOf w.Plan.Acts))),(.pure,.agg [eI k,eI n,eI act,sI args])] [] (.agg (oWd (step w ⟨k,n,act,args⟩)));by_cases hk:1<=k/\k<=10
 · have hk:k=1\/k=2\/k=3\/k=4\/k=5\/k=6\/k=7\/k=8\/k=9\/k=10:=by omega
   rcases hk with rfl|rfl|rfl|rfl|rfl|rfl|rfl|rfl|rfl|rfl
   · have hC:=xm9 w n act args hcl (by have:=hw.cl; omega) hw.ll (xnf hw) ha;refine fK [4007,7008,9005,11003,14008,16006,18003,20003] Go.Proofs.Tryz.f114 fun hb=>?_;conv=>whnf
     repeat' first|((first|refine zz ?_|(refine xa ?_ ?_<;>intro _)|refine ⟨_,hC,?_⟩)<;>conv=>whnf)
     all_goals first
      | exact ⟨rfl,rfl⟩
      | (exfalso; clear hb hC; simp_all; done)
   · have hC:=xg5 w n false hw;refine fK [4007,7008,9005,11003,14008,16006,18003,20003] Go.Proofs.Tryz.f114 fun hb=>?_;conv=>whnf
     repeat' first|((first|refine zz ?_|(refine xa ?_ ?_<;>intro _)|refine ⟨_,hC,?_⟩)<;>conv=>whnf)
     all_goals first
      | exact ⟨rfl,rfl⟩
      | (exfalso; clear hb hC; simp_all; done)
   · have hC:=xg5 w n true hw;refine fK [4007,7008,9005,11003,14008,16006,18003,20003] Go.Proofs.Tryz.f114 fun hb=>?_;conv=>whnf
     repeat' first|((first|refine zz ?_|(refine xa ?_ ?_<;>intro _)|refine ⟨_,hC,?_⟩)<;>conv=>whnf)
     all_goals first
      | exact ⟨rfl,rfl⟩
      | (exfalso; clear hb hC; simp_all; done)
   · have hC:=xlq w n hw;refine fK [4007,7008,9005,11003,14008,16006,18003,20003] Go.Proofs.Tryz.f114 fun hb=>?_;conv=>whnf
     repeat' first|((first|refine zz ?_|(refine xa ?_ ?_<;>intro _)|refine ⟨_,hC,?_⟩)<;>conv=>whnf)
     all_goals first
      | exact ⟨rfl,rfl⟩
      | (exfalso; clear hb hC; simp_all; done)
   · have hC:=xlo w n (by omega);refine fK [4007,7008,9005,11003,14008,16006,18003,20003] Go.Proofs.Tryz.f114 fun hb=>?_;conv=>whnf
     repeat' first|((first|refine zz ?_|(refine xa ?_ ?_<;>intro _)|refine ⟨_,hC,?_⟩)<;>conv=>whnf)
     all_goals first
      | exact ⟨rfl,rfl⟩
      | (exfalso; clear hb hC; simp_all; done)
   · cases h:inB n 0 (w.Net.length - 1) with
     | false =>
       have e:step w ⟨6,n,act,args⟩=w:=by
        show (match (if 0<=n then w.Net[n.toNat]? else none) with
         | some m=>{ w with Net:=send w.Net [m] }
         | none=>w)=w
        have:(if 0<=n then w.Net[n.toNat]? else none)=none:=by
         split
         · refine xz9 ?_;have:¬ (0<=n/\n<=w.Net.length - 1):=fun h'=>by rw [xc.2 h'] at h; cases h
           omega
         · rfl
        rw [this]
       rw [e];have hI:=xi n 0 (w.Net.length - 1);rw [h] at hI;refine fK [4007,7008,9005,11003,14008,16006,18003,20003] Go.Proofs.Tryz.f114 fun hb=>?_;conv=>whnf
       repeat' first|((first|refine zz ?_|(refine xa ?_ ?_<;>intro _)|refine ⟨_,xi _ _ _,?_⟩|refine wq ?_)<;>conv=>whnf)
       all_goals first
        | exact ⟨rfl,rfl⟩
        | (exfalso; simp_all; done)
     | true =>
       have hn:=xc.1 h;have e:step w ⟨6,n,act,args⟩={ w with Net:=send w.Net [w.Net.getD n.toNat default] }:=by
        show (match (if 0<=n then w.Net[n.toNat]? else none) with
         | some m=>{ w with Net:=send w.Net [m] }
         | none=>w)=_
        have:(if 0<=n then w.Net[n.toNat]? else none)=some (w.Net.getD n.toNat default):=by
         rw [if_pos hn.1,xxx,xxr (by omega)]; rfl
        rw [this]
       rw [e];have hm:msgB w.Plan (w.Net.getD n.toNat default)=true:=hw.n _ (xw (by omega));have hS:=Sem.give (xei w [w.Net.getD n.toNat default] (by simp) (by omega) (fun m h=>by rw [xx1.1 h]; have:=jn hcl hm; omega));refine yh (E:={ E0 with keep:=[14008],M:=(210,[.own,.own])::M0 }) xn xo (fn:=Go.Proofs.Tryz.f114) (by kernel_rfl) (by kernel_rfl) (fun hb=>?_);conv=>whnf
       repeat' first|((first|refine zz ?_|(refine xa ?_ ?_<;>intro _)|refine ⟨_,xi _ _ _,?_⟩|refine wq ?_|refine ioN (by omega) (by omega) ?_|refine rwN (enc:=eM) default (by omega) ?_|refine ⟨_,hS,?_⟩)<;>conv=>whnf)
       all_goals first
        | exact ⟨rfl,rfl⟩
        | (exfalso; clear hb hS hm; simp_all; done)
   · have hT:=xsx w.Plan w.Clerk hw.k.gl (by omega) (by have:=(xe.1 hw.k.b).1; omega) (by have:=(yy hcl hw.k.d).2; omega);have hto:=xn5 hw.k;have hlt:(clerkTick w.Clerk).length<=1000:=by
      unfold clerkTick;have:=hw.k.gl
      split
      · split<;>simp [pacts,freezes]<;>omega
      · simp
     have hC:=xei w (clerkTick w.Clerk) hlt (by omega) (fun m hm=>by have:=jn hcl (hto m hm).1; omega);refine fK [4007,7008,9005,11003,14008,16006,18003,20003] Go.Proofs.Tryz.f114 fun hb=>?_;conv=>whnf
     repeat' first|((first|refine zz ?_|(refine xa ?_ ?_<;>intro _)|refine ⟨_,hT,?_⟩|refine ⟨_,hC,?_⟩)<;>conv=>whnf)
     all_goals first
      | exact ⟨rfl,rfl⟩
      | (exfalso; clear hb hC; simp_all; done)
   · have hC:=xix w n false;refine fK [4007,7008,9005,11003,14008,16006,18003,20003] Go.Proofs.Tryz.f114 fun hb=>?_;conv=>whnf
     repeat' first|((first|refine zz ?_|(refine xa ?_ ?_<;>intro _)|refine ⟨_,hC,?_⟩)<;>conv=>whnf)
     all_goals first
      | exact ⟨rfl,rfl⟩
      | (exfalso; clear hb hC; simp_all; done)
   · have hC:=xix w n true;refine fK [4007,7008,9005,11003,14008,16006,18003,20003] Go.Proofs.Tryz.f114 fun hb=>?_;conv=>whnf
     repeat' first|((first|refine zz ?_|(refine xa ?_ ?_<;>intro _)|refine ⟨_,hC,?_⟩)<;>conv=>whnf)
     all_goals first
      | exact ⟨rfl,rfl⟩
      | (exfalso; clear hb hC; simp_all; done)
   · have hz:=qv hw.k hcl g3;have hC:=xp5 w.Plan w.Clerk (decide (n>0)) (by omega) hw.k.gl (by omega);refine fK [4007,7008,9005,11003,14008,16006,18003,20003] Go.Proofs.Tryz.f114 fun hb=>?_;conv=>whnf
     repeat' first|((first|refine zz ?_|(refine xa ?_ ?_<;>intro _)|refine ⟨_,hC,?_⟩)<;>conv=>whnf)
     all_goals first
      | exact ⟨rfl,rfl⟩
      | (exfalso; clear hb hC; simp_all; done)
 · rw [xtf hk];refine fK [4007,7008,9005,11003,14008,16006,18003,20003] Go.Proofs.Tryz.f114 fun hb=>?_;conv=>whnf
   repeat' first|((first|refine zz ?_|(refine xa ?_ ?_<;>intro _))<;>conv=>whnf)
   all_goals first
    | exact ⟨rfl,rfl⟩
    | (exfalso; clear hb; simp only [xzw,xxy] at *; omega)
theorem xu9 (w:World):∀ (k:Nat) (a b:AV),(oWd w)[k]?=some a->(eWd w)[k]?=some b->Cold a b:=fun k a b ha hb=>by
 match k,ha,hb with
 | 0,ha,hb=>cases ha; cases hb; exact xl
 | 1,ha,hb=>cases ha; cases hb; exact x6
 | 2,ha,hb=>cases ha; cases hb; exact x6
 | 3,ha,hb=>cases ha; cases hb; exact x6
 | 4,ha,hb=>cases ha; cases hb; exact xg
 | 5,ha,hb=>cases ha; cases hb; exact xl
 | 6,ha,hb=>cases ha; cases hb; exact xl
 | 7,ha,hb=>cases ha; cases hb; exact x6
 | 8,ha,hb=>cases ha; cases hb; exact x6
 | 9,ha,hb=>cases ha; cases hb; exact x6
 | 10,ha,hb=>cases ha; cases hb; exact x6
 | 11,ha,hb=>cases ha; cases hb; exact xg
 | 12,ha,hb=>cases ha; cases hb; exact xg
 | 13,ha,hb=>cases ha; cases hb; exact xg
 | k+14,ha,hb=>simp at ha
theorem xva (w:World):∀ (k:Nat) (a b:AV),(aWd w)[k]?=some a->(eWd w)[k]?=some b->Cold a b:=fun k a b ha hb=>by
 match k,ha,hb with
 | 0,ha,hb=>cases ha; cases hb; exact xl
 | 1,ha,hb=>cases ha; cases hb; exact xg
 | 2,ha,hb=>cases ha; cases hb; exact xg
 | 3,ha,hb=>cases ha; cases hb; exact xg
 | 4,ha,hb=>cases ha; cases hb; exact xg
 | 5,ha,hb=>cases ha; cases hb; exact xl
 | 6,ha,hb=>cases ha; cases hb; exact xl
 | 7,ha,hb=>cases ha; cases hb; exact xg
 | 8,ha,hb=>cases ha; cases hb; exact xg
 | 9,ha,hb=>cases ha; cases hb; exact xg
 | 10,ha,hb=>cases ha; cases hb; exact xg
 | 11,ha,hb=>cases ha; cases hb; exact xg
 | 12,ha,hb=>cases ha; cases hb; exact xg
 | 13,ha,hb=>cases ha; cases hb; exact xg
 | k+14,ha,hb=>simp at ha
theorem xtg (w:World) (e:Event) (ha:e.Args.length<=1000000):Sem P 47 [(.pure,.agg (aWd w)),(.pure,.agg (aE e))] [] (.agg (eWd (wldStep w e))):=by
 cases h:wldOk w with
 | false =>
   have en:wldStep w e=World.nil:=by unfold wldStep; rw [h]; rfl
   rw [en];refine Sem.cold (cs:=aWd World.nil) rfl (xva _) ?_
   cases hp:planOk w.Plan with
   | false =>
     refine fO Go.Proofs.Tryz.f47 fun hb=>?_;conv=>whnf
     repeat' first|((first|refine zz ?_|(refine xa ?_ ?_<;>intro _)|refine ⟨_,qh w.Plan,?_⟩)<;>conv=>whnf)
     all_goals first
      | exact ⟨rfl,rfl⟩
      | (exfalso; simp_all; done)
   | true =>
     refine fO Go.Proofs.Tryz.f47 fun hb=>?_;conv=>whnf
     repeat' first|((first|refine zz ?_|(refine xa ?_ ?_<;>intro _)|refine ⟨_,qh w.Plan,?_⟩|refine ⟨_,xea w.Plan.Acts (xcx hp),?_⟩|refine ⟨_,xff w hp,?_⟩)<;>conv=>whnf)
     all_goals first
      | exact ⟨rfl,rfl⟩
      | (exfalso; simp_all; done)
 | true =>
   have hw:=worldF.1 h;have hp:=hw.p.ok;have en:wldStep w e=step w e:=by unfold wldStep; rw [h]; rfl
   rw [en];have hz:=xm8 hw;have hpl:=xam hp;have hC:=xhy w (by omega) (xn7 (xav hp)) (by omega) (by omega);have hD:=xng w e hw ha;refine Sem.cold (cs:=oWd (step w e)) rfl (xu9 _) ?_;refine fK [7001,7005] Go.Proofs.Tryz.f47 fun hb=>?_;conv=>whnf
   repeat' first|((first|refine zz ?_|(refine xa ?_ ?_<;>intro _)|refine ⟨_,qh w.Plan,?_⟩|refine ⟨_,xea w.Plan.Acts (xcx hp),?_⟩|refine ⟨_,xff w hp,?_⟩|refine ⟨_,hC,?_⟩|refine ⟨_,hD,?_⟩)<;>conv=>whnf)
   all_goals first
    | exact ⟨rfl,rfl⟩
    | (exfalso; clear hb hC hD; simp_all; done)
end Cc
end
