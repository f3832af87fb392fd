/- The laws FnMsgOk, FnSitFree: part 32 of 41. No conditions beyond the statement. -/
import Derived.Test.YtnigojkdmmeglaaGreatDoorAll23
set_option linter.unusedVariables false
set_option linter.unusedSimpArgs false
set_option maxRecDepth 100000
set_option maxHeartbeats 16000000
section
namespace Cc
open Go Go.AM
abbrev xWd (p:Plan) (rows:List (List AV)) (k:Clerk) (xs:List Client) (net:List Msg) (log:List LogD):List AV:=[eI p.Clients,fAs p.Acts,fI p.Gives,fI p.Start,.sl 60 rows,eB k.Up,eI k.Round,fI k.Base,fDs k.Done,fCs k.Wants,fGs k.Got,sXs xs,sMs net,sOs log]
theorem xdt (p:Plan) (ss:List Site) {rows:List (List AV)} (hr:rows=ss.map eS) (k:Clerk) (xs:List Client) (net:List Msg) (log:List LogD) (l:List Msg) (hl:l.length<=1000) (hn:net.length<=1000) (hz:∀ m∈l,zM m<=1000000):Sem P 210 [(.own,.agg (xWd p rows k xs net log)),(.pure,.one (sMs l))] [] (.agg (xWd p rows k xs (send net l) log)):=by
 subst hr; exact xe9 ⟨p,ss,k,xs,net,log⟩ l hl hn hz
theorem xga (p:Plan) (ss:List Site) {rows:List (List AV)} (hr:rows=ss.map eS) (k:Clerk) (xs:List Client) (net:List Msg) (log:List LogD) (c:Call) (r:Rslt) (hc:c.Args.length<=1000000) (hr':r.Tells.length<=1000000):Sem P 260 [(.own,.agg (xWd p rows k xs net log)),(.pure,.agg (aC c)),(.pure,.agg (aR r))] [] (.agg (xWd p rows k xs net (write log [⟨c,r⟩]))):=by
 subst hr; exact xrs ⟨p,ss,k,xs,net,log⟩ c r hc hr'
theorem xol (p:Plan) (s:Site) (n:Int) (c:Call):(siteTry p s n c).2.2.length<=1:=by
 unfold siteTry;simp only
 split
 · simp
 · split
   · simp
   · split<;>simp
theorem xrt {w:World} (hw:WorldF w) {n:Int} (h0:0<=n) (h1:n<w.Clients.length):clientB w.Plan n (w.Clients.getD n.toNat Client.nil)=true:=by
 have:=qf.1 hw.c n.toNat (by omega);rw [x19 h0] at this; exact this
theorem xgw {w:World} (hw:WorldF w) {n:Int} (h0:0<=n) (h1:n<w.Sites.length):siteB w.Plan (w.Sites.getD n.toNat Site.nil) n=true:=by
 have:=qf.1 hw.s n.toNat (by omega);rw [x19 h0] at this; exact this
theorem kv {p:Plan} {s:Site} {n:Int} (h:siteB p s n=true):(s.Done.length:Int)=p.Clients:=by
 have hd:=(siteE h).2.2.2;unfold doneOk at hd; simp only [xzj,xzk] at hd; exact hd.1
theorem xh9 (w:World) (n:Int) (deaf:Bool) (hw:WorldF w):Sem P 207 [(.own,.agg (oWd w)),(.pure,.one (sPs (partsOf w.Plan.Acts))),(.pure,.one (sBs (pinsOf w.Plan.Acts))),(.pure,I n),(.pure,B deaf)] [] (.agg (oWd (doTry w n deaf))):=by
 have hF:=hw.p;have hp:=hF.ok;have hcl:=xi hp;have hcl4:=xc.1 hcl;have g1:=hF.g1;have g3:=yk hp;have lg:=xb w.Plan.Gives;have lx:(w.Clients.map eX).length=w.Clients.length:=xzi ..;have ls:(w.Sites.map eS).length=w.Sites.length:=xzi ..;have hsl:=hw.sl;have hxl:=hw.cl;have hnl:=hw.nl
 cases h:inB n 0 (w.Clients.length - 1) with
 | false =>
   have e:doTry w n deaf=w:=by unfold doTry; rw [h]; rfl
   rw [e];refine fO Go.Proofs.Tryz.f207 fun hb=>?_;conv=>whnf
   repeat' first|((first|refine zz ?_|(refine xa ?_ ?_<;>intro _)|refine ⟨_,xj _ _ _,?_⟩|refine wq ?_)<;>conv=>whnf)
   all_goals first
    | exact ⟨rfl,rfl⟩
    | (exfalso; simp_all; done)
 | true =>
   have hn:=xc.1 h
   cases hbz:(w.Clients.getD n.toNat Client.nil).Busy with
   | false =>
     have e:doTry w n deaf=w:=by unfold doTry; rw [h,hbz]; rfl
     rw [e];refine fO Go.Proofs.Tryz.f207 fun hb=>?_;conv=>whnf
     repeat' first|((first|refine zz ?_|(refine xa ?_ ?_<;>intro _)|refine ⟨_,xj _ _ _,?_⟩|refine wq ?_|refine ioN (by omega) (by omega) ?_|refine rwN (enc:=eX) Client.nil (by omega) ?_)<;>conv=>whnf)
     all_goals first
      | exact ⟨rfl,rfl⟩
      | (exfalso; clear hb; simp_all; done)
   | true =>
     have hcb:=xrt hw hn.1 (by omega);have hm0:0<=n % (ints w.Plan.Gives).length:=x12 _ (by omega);have hm1:n % (ints w.Plan.Gives).length<(ints w.Plan.Gives).length:=x1q _ (by omega);have hs:=xgw hw hm0 (by omega);have hdc:=kv hs;generalize hcc:(w.Clients.getD n.toNat Client.nil)=x0 at *;have hxk:(w.Clients.map eX)[n.toNat]?=some (eX x0):=by rw [xzr,<- hcc,xzo,xzh (by omega)]; rfl
     have hcall:callB w.Plan x0.Call=true:=by
      unfold clientB at hcb;rw [hbz,if_pos rfl] at hcb;simp only [xzj] at hcb;exact hcb.2.1.1
     have hT:=xj2 w.Plan (w.Sites.getD (n % (ints w.Plan.Gives).length).toNat Site.nil) (n % (ints w.Plan.Gives).length) x0.Call hp hs hcall;obtain ⟨k1,k2,k3,k4⟩:=xhz hF hs hcall;have k5:=xol w.Plan (w.Sites.getD (n % (ints w.Plan.Gives).length).toNat Site.nil) (n % (ints w.Plan.Gives).length) x0.Call
     have e:doTry w n deaf={ w with
      Sites:=w.Sites.set (n % (ints w.Plan.Gives).length).toNat (siteTry w.Plan (w.Sites.getD (n % (ints w.Plan.Gives).length).toNat Site.nil) (n % (ints w.Plan.Gives).length) x0.Call).1
      Net:=send w.Net (siteTry w.Plan (w.Sites.getD (n % (ints w.Plan.Gives).length).toNat Site.nil) (n % (ints w.Plan.Gives).length) x0.Call).2.2
      Log:=if ((siteTry w.Plan (w.Sites.getD (n % (ints w.Plan.Gives).length).toNat Site.nil) (n % (ints w.Plan.Gives).length) x0.Call).1.Done.getD n.toNat Done.nil).Seq>((w.Sites.getD (n % (ints w.Plan.Gives).length).toNat Site.nil).Done.getD n.toNat Done.nil).Seq then write w.Log [⟨x0.Call,(siteTry w.Plan (w.Sites.getD (n % (ints w.Plan.Gives).length).toNat Site.nil) (n % (ints w.Plan.Gives).length) x0.Call).2.1⟩] else w.Log
      Clients:=if (siteTry w.Plan (w.Sites.getD (n % (ints w.Plan.Gives).length).toNat Site.nil) (n % (ints w.Plan.Gives).length) x0.Call).2.1.Code≠0/\deaf=false then w.Clients.set n.toNat ⟨x0.Call.Seq,false,Call.nil,(siteTry w.Plan (w.Sites.getD (n % (ints w.Plan.Gives).length).toNat Site.nil) (n % (ints w.Plan.Gives).length) x0.Call).2.1⟩ else w.Clients }:=by
      subst hcc;rw [lg];unfold doTry; rw [h,hbz]; rfl
     rw [e];clear e;generalize siteTry w.Plan (w.Sites.getD (n % (ints w.Plan.Gives).length).toNat Site.nil) (n % (ints w.Plan.Gives).length) x0.Call=y at *;obtain ⟨s',r,out⟩:=y;simp only at k1 k2 k3 k4 k5;replace hT:Sem P 87 _ [] (.tup [(true,eS s'),(true,eR r),(false,[fMs out])]):=hT;have hdc':=kv k1;have lds:((w.Sites.getD (n % (ints w.Plan.Gives).length).toNat Site.nil).Done.map eD).length=(w.Sites.getD (n % (ints w.Plan.Gives).length).toNat Site.nil).Done.length:=xzi ..;have lds':(s'.Done.map eD).length=s'.Done.length:=xzi ..;have ht6:r.Tells.length<=6:=by
      by_cases h0:r.Code=0
      · rw [(k4 h0).1]; simp [Rslt.nil]
      · exact (yg.1 (k3 h0)).2.2.1
     have hS:=xdt w.Plan _ (yx w.Sites (n % (ints w.Plan.Gives).length).toNat s') w.Clerk w.Clients w.Net w.Log out (by omega) (by omega) (fun m hm=>by have:=kh hcl (k2 m hm); omega);have hW:=xga w.Plan _ (yx w.Sites (n % (ints w.Plan.Gives).length).toNat s') w.Clerk w.Clients (send w.Net out) w.Log x0.Call r (by have:=kg hcall; omega) (by omega);have hR:=yh r (by omega);by_cases hq:(s'.Done.getD n.toNat Done.nil).Seq>((w.Sites.getD (n % (ints w.Plan.Gives).length).toNat Site.nil).Done.getD n.toNat Done.nil).Seq
     · rw [if_pos hq];by_cases hr:r.Code≠0/\deaf=false
       · rw [if_pos hr];refine fK [9002,11003] Go.Proofs.Tryz.f207 fun hb=>?_;conv=>whnf
         repeat' first|((first|refine zz ?_|(refine xa ?_ ?_<;>intro _)|refine ⟨_,xj _ _ _,?_⟩|refine wq ?_|refine r64 (by omega) (by omega) ?_|refine ioN (by omega) (by omega) ?_)<;>conv=>whnf)|(refine ioN (by omega) (by rw [x03]; omega) ?_;conv=>whnf)|((first|refine rwC hxk ?_|refine rwN (enc:=eS) Site.nil (by omega) ?_|refine ixI (enc:=eD) Done.nil (by omega) (by omega) ?_|refine ⟨_,hT,?_⟩|refine ⟨_,hS,?_⟩|refine ⟨_,hW,?_⟩|refine ⟨_,hR,?_⟩)<;>conv=>whnf)
         all_goals first
          | (exfalso; clear hb hT hS hW hR k1 k2 k3 k4 k5; simp_all; done)
          | (exfalso; clear hb hT hS hW hR k1 k2 k3 k4 k5; simp_all; omega)
          | (refine ⟨?_,rfl⟩
             show TV.agg [eI w.Plan.Clients,fAs w.Plan.Acts,fI w.Plan.Gives,fI w.Plan.Start,.sl 60 ((w.Sites.map eS).set _ (eS s')),eB w.Clerk.Up,eI w.Clerk.Round,fI w.Clerk.Base,fDs w.Clerk.Done,fCs w.Clerk.Wants,fGs w.Clerk.Got,.sl 163 ((w.Clients.map eX).set n.toNat (eX ⟨x0.Call.Seq,false,Call.nil,r⟩)),_,_]=_;rw [yx,je]
             done)
          | (refine ⟨?_,rfl⟩
             show TV.agg [eI w.Plan.Clients,fAs w.Plan.Acts,fI w.Plan.Gives,fI w.Plan.Start,.sl 60 ((w.Sites.map eS).set _ (eS s')),eB w.Clerk.Up,eI w.Clerk.Round,fI w.Clerk.Base,fDs w.Clerk.Done,fCs w.Clerk.Wants,fGs w.Clerk.Got,sXs w.Clients,_,_]=_;rw [yx]
             done)
       · rw [if_neg hr];refine fK [9002,11003] Go.Proofs.Tryz.f207 fun hb=>?_;conv=>whnf
         repeat' first|((first|refine zz ?_|(refine xa ?_ ?_<;>intro _)|refine ⟨_,xj _ _ _,?_⟩|refine wq ?_|refine r64 (by omega) (by omega) ?_|refine ioN (by omega) (by omega) ?_)<;>conv=>whnf)|(refine ioN (by omega) (by rw [x03]; omega) ?_;conv=>whnf)|((first|refine rwC hxk ?_|refine rwN (enc:=eS) Site.nil (by omega) ?_|refine ixI (enc:=eD) Done.nil (by omega) (by omega) ?_|refine ⟨_,hT,?_⟩|refine ⟨_,hS,?_⟩|refine ⟨_,hW,?_⟩|refine ⟨_,hR,?_⟩)<;>conv=>whnf)
         all_goals first
          | (exfalso; clear hb hT hS hW hR k1 k2 k3 k4 k5; simp_all; done)
          | (exfalso; clear hb hT hS hW hR k1 k2 k3 k4 k5; simp_all; omega)
          | (refine ⟨?_,rfl⟩
             show TV.agg [eI w.Plan.Clients,fAs w.Plan.Acts,fI w.Plan.Gives,fI w.Plan.Start,.sl 60 ((w.Sites.map eS).set _ (eS s')),eB w.Clerk.Up,eI w.Clerk.Round,fI w.Clerk.Base,fDs w.Clerk.Done,fCs w.Clerk.Wants,fGs w.Clerk.Got,.sl 163 ((w.Clients.map eX).set n.toNat (eX ⟨x0.Call.Seq,false,Call.nil,r⟩)),_,_]=_;rw [yx,je]
             done)
          | (refine ⟨?_,rfl⟩
             show TV.agg [eI w.Plan.Clients,fAs w.Plan.Acts,fI w.Plan.Gives,fI w.Plan.Start,.sl 60 ((w.Sites.map eS).set _ (eS s')),eB w.Clerk.Up,eI w.Clerk.Round,fI w.Clerk.Base,fDs w.Clerk.Done,fCs w.Clerk.Wants,fGs w.Clerk.Got,sXs w.Clients,_,_]=_;rw [yx]
             done)
     · rw [if_neg hq];by_cases hr:r.Code≠0/\deaf=false
       · rw [if_pos hr];refine fK [9002,11003] Go.Proofs.Tryz.f207 fun hb=>?_;conv=>whnf
         repeat' first|((first|refine zz ?_|(refine xa ?_ ?_<;>intro _)|refine ⟨_,xj _ _ _,?_⟩|refine wq ?_|refine r64 (by omega) (by omega) ?_|refine ioN (by omega) (by omega) ?_)<;>conv=>whnf)|(refine ioN (by omega) (by rw [x03]; omega) ?_;conv=>whnf)|((first|refine rwC hxk ?_|refine rwN (enc:=eS) Site.nil (by omega) ?_|refine ixI (enc:=eD) Done.nil (by omega) (by omega) ?_|refine ⟨_,hT,?_⟩|refine ⟨_,hS,?_⟩|refine ⟨_,hW,?_⟩|refine ⟨_,hR,?_⟩)<;>conv=>whnf)
         all_goals first
          | (exfalso; clear hb hT hS hW hR k1 k2 k3 k4 k5; simp_all; done)
          | (exfalso; clear hb hT hS hW hR k1 k2 k3 k4 k5; simp_all; omega)
          | (refine ⟨?_,rfl⟩
             show TV.agg [eI w.Plan.Clients,fAs w.Plan.Acts,fI w.Plan.Gives,fI w.Plan.Start,.sl 60 ((w.Sites.map eS).set _ (eS s')),eB w.Clerk.Up,eI w.Clerk.Round,fI w.Clerk.Base,fDs w.Clerk.Done,fCs w.Clerk.Wants,fGs w.Clerk.Got,.sl 163 ((w.Clients.map eX).set n.toNat (eX ⟨x0.Call.Seq,false,Call.nil,r⟩)),_,_]=_;rw [yx,je]
             done)
          | (refine ⟨?_,rfl⟩
             show TV.agg [eI w.Plan.Clients,fAs w.Plan.Acts,fI w.Plan.Gives,fI w.Plan.Start,.sl 60 ((w.Sites.map eS).set _ (eS s')),eB w.Clerk.Up,eI w.Clerk.Round,fI w.Clerk.Base,fDs w.Clerk.Done,fCs w.Clerk.Wants,fGs w.Clerk.Got,sXs w.Clients,_,_]=_;rw [yx]
             done)
       · rw [if_neg hr];refine fK [9002,11003] Go.Proofs.Tryz.f207 fun hb=>?_;conv=>whnf
         repeat' first|((first|refine zz ?_|(refine xa ?_ ?_<;>intro _)|refine ⟨_,xj _ _ _,?_⟩|refine wq ?_|refine r64 (by omega) (by omega) ?_|refine ioN (by omega) (by omega) ?_)<;>conv=>whnf)|(refine ioN (by omega) (by rw [x03]; omega) ?_;conv=>whnf)|((first|refine rwC hxk ?_|refine rwN (enc:=eS) Site.nil (by omega) ?_|refine ixI (enc:=eD) Done.nil (by omega) (by omega) ?_|refine ⟨_,hT,?_⟩|refine ⟨_,hS,?_⟩|refine ⟨_,hW,?_⟩|refine ⟨_,hR,?_⟩)<;>conv=>whnf)
         all_goals first
          | (exfalso; clear hb hT hS hW hR k1 k2 k3 k4 k5; simp_all; done)
          | (exfalso; clear hb hT hS hW hR k1 k2 k3 k4 k5; simp_all; omega)
          | (refine ⟨?_,rfl⟩
             show TV.agg [eI w.Plan.Clients,fAs w.Plan.Acts,fI w.Plan.Gives,fI w.Plan.Start,.sl 60 ((w.Sites.map eS).set _ (eS s')),eB w.Clerk.Up,eI w.Clerk.Round,fI w.Clerk.Base,fDs w.Clerk.Done,fCs w.Clerk.Wants,fGs w.Clerk.Got,.sl 163 ((w.Clients.map eX).set n.toNat (eX ⟨x0.Call.Seq,false,Call.nil,r⟩)),_,_]=_;rw [yx,je]
             done)
          | (refine ⟨?_,rfl⟩
             show TV.agg [eI w.Plan.Clients,fAs w.Plan.Acts,fI w.Plan.Gives,fI w.Plan.Start,.sl 60 ((w.Sites.map eS).set _ (eS s')),eB w.Clerk.Up,eI w.Clerk.Round,fI w.Clerk.Base,fDs w.Clerk.Done,fCs w.Clerk.Wants,fGs w.Clerk.Got,sXs w.Clients,_,_]=_;rw [yx]
             done)
end Cc
end
