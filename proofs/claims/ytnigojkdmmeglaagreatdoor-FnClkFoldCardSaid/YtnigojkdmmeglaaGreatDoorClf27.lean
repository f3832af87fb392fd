/- The law FnClkFold: part 27 of 35. No conditions beyond the statement. -/
import Derived.Test.YtnigojkdmmeglaaGreatDoorClf23
import Derived.Test.YtnigojkdmmeglaaGreatDoorClf24
set_option linter.unusedVariables false
set_option linter.unusedSimpArgs false
set_option maxRecDepth 100000
set_option maxHeartbeats 16000000
section
namespace Cc
open Go Go.AM
theorem drI {a m:Int} {bs:List UInt8} {rows:List (List AV)} {os:List TV} {l:List Int} {a':Int} (e:rows=ints l) (e2:os=[.agg (aRd bs a')]) (hb:a<=a'/\a'<=a+m) :
 ∃ (l:List Int) (a':Int),(a<=a'/\a'<=a+m)/\TV.one (.sl 3 rows)=AI l/\os=[.agg (aRd bs a')]:=⟨l,a',hb,by rw [e],e2⟩
theorem xoc (l:List Int) (n:Nat):(ints l).take n=ints (l.take n):=x0k.symm
theorem xqa (bs:List UInt8) (a k:Int) (ha:0<=a/\a<=10000000000) (hk:1<=k/\k<=1000000) (hbs:bs.length<=2000) :
 ∃ os res,(∃ (l:List Int) (a':Int),(a<=a'/\a'<=a+10)/\res=AI l/\os=aRd bs a')/\Sem P 165 [(.io 0 0,.agg (aRd bs a)),(.pure,I k)] [.agg os] res:=by
 have key:∃ res outs,(∃ (l:List Int) (a':Int),(a<=a'/\a'<=a+10)/\res=AI l/\outs=[.agg (aRd bs a')])/\Sem P 165 [(.io 0 0,.agg (aRd bs a)),(.pure,I k)] outs res:=by
  refine x5 (E:={ E0 with cut:=[7001] }) xn xo (fn:=Go.Proofs.Tryz.f165) (by kernel_rfl) (by kernel_rfl) ?_;conv=>whnf
  repeat' first|((first|refine zz ?_|(refine xa ?_ ?_<;>intro _))<;>conv=>whnf)|(refine callIo (xh bs _ _ (by omega) (by omega) hbs) ?_; rintro _ _ ⟨n,hn,rfl,rfl⟩;conv=>whnf)|(refine ioN (by first|omega|(dsimp only; omega)|(simp<;>omega)|(simp_all<;>omega)) (by first|omega|(dsimp only; omega)|(simp<;>omega)|(simp_all<;>omega)) ?_;conv=>whnf)|(refine rwI rfl (by first|omega|(dsimp only; omega)|(simp<;>omega)|(simp_all<;>omega)) (by first|omega|(dsimp only; omega)|(simp<;>omega)|(simp_all<;>omega)) fun c hc=>?_;conv=>whnf)|(refine rwN (enc:=rI) 0 (by first|omega|(dsimp only; omega)|(simp<;>omega)|(simp_all<;>omega)) ?_;conv=>whnf)|(refine wq ?_;conv=>whnf)|(refine apN (by simp; omega) ?_;conv=>whnf)|((first|refine apN (by simp) ?_)<;>conv=>whnf)|(refine slN (by decide) (by decide) (by first|omega|(dsimp only; omega)|(simp<;>omega)|(simp_all<;>omega)) ?_;conv=>whnf)|((first|refine ctN ?_)<;>conv=>whnf)
  all_goals
   first
    | (refine drI (l:=[_,_,_]) rfl rfl ⟨?_,?_⟩<;>omega)
    | (refine drI (l:=_) (yr [_,_,_] _ _) rfl ⟨?_,?_⟩<;>omega)
    | (refine drI (l:=_) (qa [_,_,_] _) rfl ⟨?_,?_⟩<;>omega)
    | (refine drI (l:=_) (xoc [_,_,_] 2) rfl ⟨?_,?_⟩<;>omega)
 obtain ⟨r,o,⟨l,a',h1,h2,rfl⟩,h4⟩:=key;exact ⟨_,r,⟨l,a',h1,h2,rfl⟩,h4⟩
theorem xs8 (bs:List UInt8) (a k:Int) (ha:0<=a/\a<=10000000000) (hk:1<=k/\k<=1000000) (hbs:bs.length<=2000) :
 ∃ os res,(∃ (l:List Int) (a':Int),(a<=a'/\a'<=a+10)/\res=AI l/\os=aRd bs a')/\Sem P 218 [(.io 0 0,.agg (aRd bs a)),(.pure,I k)] [.agg os] res:=by
 have key:∃ res outs,(∃ (l:List Int) (a':Int),(a<=a'/\a'<=a+10)/\res=AI l/\outs=[.agg (aRd bs a')])/\Sem P 218 [(.io 0 0,.agg (aRd bs a)),(.pure,I k)] outs res:=by
  refine x5 (E:={ E0 with cut:=[11001] }) xn xo (fn:=Go.Proofs.Tryz.f218) (by kernel_rfl) (by kernel_rfl) ?_;conv=>whnf
  (refine zA ?_)
  refine Vc.loop3 (fun (i:Nat) (l:List Int) (b:Int)=>i<=3/\l.length=i/\a<=b/\b<=a+i) (fun i l b=>updL [0,1,4,20,21,22,23,24,25,26,27,28,29,30,31,32,33,34,35,36,37,38,39,40,41,42,43,44] [(6,I i),(5,.one (.ref 128000))] [(128000,.arr 3 (ints l) false),(63,.box (aRd bs b))]) (fun i _ _=>3 - i) 0 [] a ⟨by omega,rfl,by omega,by omega⟩ ?_ (fun i l b hi=>?_)
  · exact wk
  · obtain ⟨i3,hl,b1,b2⟩:=hi;have ll:=xb l;conv=>whnf
    (refine zA ?_)
    refine xd (fun g=>?_) (fun g=>?_)
    all_goals conv=>whnf
    · repeat' first|((first|refine zz ?_|(refine xa ?_ ?_<;>intro _))<;>conv=>whnf)|(refine callIo (xh bs _ _ (by omega) (by omega) hbs) ?_; rintro _ _ ⟨n,hn,rfl,rfl⟩;conv=>whnf)|(refine ioN (by first|omega|(dsimp only; omega)|(simp<;>omega)|(simp_all<;>omega)) (by first|omega|(dsimp only; omega)|(simp<;>omega)|(simp_all<;>omega)) ?_;conv=>whnf)|(refine rwI rfl (by first|omega|(dsimp only; omega)|(simp<;>omega)|(simp_all<;>omega)) (by first|omega|(dsimp only; omega)|(simp<;>omega)|(simp_all<;>omega)) fun c hc=>?_;conv=>whnf)|(refine rwN (enc:=rI) 0 (by first|omega|(dsimp only; omega)|(simp<;>omega)|(simp_all<;>omega)) ?_;conv=>whnf)|(refine wq ?_;conv=>whnf)|(refine apN (by simp; omega) ?_;conv=>whnf)
      refine ⟨i+1,l++[c],b+1,⟨by omega,by simp; omega,by omega,by omega⟩,by simp only; omega,?_⟩
      repeat' (first|exact True.intro|((conv=>whnf);first|exact True.intro|refine ⟨by rfl,?_⟩|refine ⟨by first|omega|(show (_:Int)=_;first|omega|(dsimp only;omega))|exact qa _ _,?_⟩|refine ⟨?_,?_⟩))
    · have hl3:l.length=3:=by omega
      repeat' first|((first|refine zz ?_|(refine xa ?_ ?_<;>intro _))<;>conv=>whnf)|(refine callIo (xh bs _ _ (by omega) (by omega) hbs) ?_; rintro _ _ ⟨n,hn,rfl,rfl⟩;conv=>whnf)|(refine ioN (by first|omega|(dsimp only; omega)|(simp<;>omega)|(simp_all<;>omega)) (by first|omega|(dsimp only; omega)|(simp<;>omega)|(simp_all<;>omega)) ?_;conv=>whnf)|(refine rwI rfl (by first|omega|(dsimp only; omega)|(simp<;>omega)|(simp_all<;>omega)) (by first|omega|(dsimp only; omega)|(simp<;>omega)|(simp_all<;>omega)) fun c hc=>?_;conv=>whnf)|(refine rwN (enc:=rI) 0 (by first|omega|(dsimp only; omega)|(simp<;>omega)|(simp_all<;>omega)) ?_;conv=>whnf)|(refine wq ?_;conv=>whnf)|(refine apN (by simp; omega) ?_;conv=>whnf)|((first|refine apN (by simp) ?_)<;>conv=>whnf)|(refine slN (by decide) (by decide) (by first|omega|(dsimp only; omega)|(simp<;>omega)|(simp_all<;>omega)) ?_;conv=>whnf)|((first|refine ctN ?_)<;>conv=>whnf)
      all_goals
       first
        | (refine drI (l:=l) (rfl:ints l=ints l) rfl ⟨?_,?_⟩<;>omega)
        | (refine drI (l:=_) (yr l _ _) rfl ⟨?_,?_⟩<;>omega)
        | (refine drI (l:=_) (qa l _) rfl ⟨?_,?_⟩<;>omega)
        | (refine drI (l:=_) (xoc l 2) rfl ⟨?_,?_⟩<;>omega)
 obtain ⟨r,o,⟨l,a',h1,h2,rfl⟩,h4⟩:=key;exact ⟨_,r,⟨l,a',h1,h2,rfl⟩,h4⟩
theorem xu2 (l:List Done) (x:Done):l.map eD++[eD x]=(l++[x]).map eD:=by simp
theorem xs9 {l:List Done} {n c:Int} {t:List Int}:Cold (.sl 79 (l.map eD++[[eI n,eI c,fI t]])) (fDs (l++[⟨n,⟨c,t⟩⟩])):=by
 have e:=xu2 l ⟨n,⟨c,t⟩⟩;unfold fDs;rw [<- e]; exact xg
theorem xqb {l:List Done} {n c:Int}:Cold (.sl 79 (l.map eD++[[eI n,eI c,.fr [] 3 []]])) (fDs (l++[⟨n,⟨c,[]⟩⟩])):=xs9 (t:=[])
abbrev xWd (p:Plan) (rows:List (List AV)) (k:Clerk) (xs:List Client) (net:List Msg) (log:List LogD):List AV:=[eI p.Clients,fAs p.Acts,fI p.Gives,fI p.Start,.sl 60 rows,eB k.Up,eI k.Round,fI k.Base,fDs k.Done,fCs k.Wants,fGs k.Got,sXs xs,sMs net,sOs log]
theorem xc1 (p:Plan) (ss:List Site) {rows:List (List AV)} (hr:rows=ss.map eS) (k:Clerk) (xs:List Client) (net:List Msg) (log:List LogD) (l:List Msg) (hl:l.length<=1000) (hn:net.length<=1000) (hz:∀ m∈l,zM m<=1000000):Sem P 210 [(.own,.agg (xWd p rows k xs net log)),(.pure,.one (sMs l))] [] (.agg (xWd p rows k xs (send net l) log)):=by
 subst hr; exact xei ⟨p,ss,k,xs,net,log⟩ l hl hn hz
theorem xfi (p:Plan) (ss:List Site) {rows:List (List AV)} (hr:rows=ss.map eS) (k:Clerk) (xs:List Client) (net:List Msg) (log:List LogD) (c:Call) (r:Rslt) (hc:c.Args.length<=1000000) (hr':r.Tells.length<=1000000):Sem P 260 [(.own,.agg (xWd p rows k xs net log)),(.pure,.agg (aC c)),(.pure,.agg (aR r))] [] (.agg (xWd p rows k xs net (write log [⟨c,r⟩]))):=by
 subst hr; exact xqc ⟨p,ss,k,xs,net,log⟩ c r hc hr'
theorem xna (p:Plan) (s:Site) (n:Int) (c:Call):(siteTry p s n c).2.2.length<=1:=by
 unfold siteTry;simp only
 split
 · simp
 · split
   · simp
   · split<;>simp
theorem xqd {w:World} (hw:WorldF w) {n:Int} (h0:0<=n) (h1:n<w.Clients.length):clientB w.Plan n (w.Clients.getD n.toNat Client.nil)=true:=by
 have:=zi.1 hw.c n.toNat (by omega);rw [x0j h0] at this; exact this
theorem xfx {w:World} (hw:WorldF w) {n:Int} (h0:0<=n) (h1:n<w.Sites.length):siteB w.Plan (w.Sites.getD n.toNat Site.nil) n=true:=by
 have:=zi.1 hw.s n.toNat (by omega);rw [x0j h0] at this; exact this
theorem w7 {p:Plan} {s:Site} {n:Int} (h:siteB p s n=true):(s.Done.length:Int)=p.Clients:=by
 have hd:=(siteE h).2.2.2;unfold doneOk at hd; simp only [xxt,xxy] at hd; exact hd.1
theorem xg5 (w:World) (n:Int) (deaf:Bool) (hw:WorldF w):Sem P 207 [(.own,.agg (oWd w)),(.pure,.one (sPs (partsOf w.Plan.Acts))),(.pure,.one (sBs (pinsOf w.Plan.Acts))),(.pure,I n),(.pure,B deaf)] [] (.agg (oWd (doTry w n deaf))):=by
 have hF:=hw.p;have hp:=hF.ok;have hcl:=xt hp;have hcl4:=xc.1 hcl;have g1:=hF.g1;have g3:=yp hp;have lg:=xb w.Plan.Gives;have lx:(w.Clients.map eX).length=w.Clients.length:=xxs ..;have ls:(w.Sites.map eS).length=w.Sites.length:=xxs ..;have hsl:=hw.sl;have hxl:=hw.cl;have hnl:=hw.nl
 cases h:inB n 0 (w.Clients.length - 1) with
 | false =>
   have e:doTry w n deaf=w:=by unfold doTry; rw [h]; rfl
   rw [e];refine fO Go.Proofs.Tryz.f207 fun hb=>?_;conv=>whnf
   repeat' first|((first|refine zz ?_|(refine xa ?_ ?_<;>intro _)|refine ⟨_,xi _ _ _,?_⟩|refine wq ?_)<;>conv=>whnf)
   all_goals first
    | exact ⟨rfl,rfl⟩
    | (exfalso; simp_all; done)
 | true =>
   have hn:=xc.1 h
   cases hbz:(w.Clients.getD n.toNat Client.nil).Busy with
   | false =>
     have e:doTry w n deaf=w:=by unfold doTry; rw [h,hbz]; rfl
     rw [e];refine fO Go.Proofs.Tryz.f207 fun hb=>?_;conv=>whnf
     repeat' first|((first|refine zz ?_|(refine xa ?_ ?_<;>intro _)|refine ⟨_,xi _ _ _,?_⟩|refine wq ?_|refine ioN (by omega) (by omega) ?_|refine rwN (enc:=eX) Client.nil (by omega) ?_)<;>conv=>whnf)
     all_goals first
      | exact ⟨rfl,rfl⟩
      | (exfalso; clear hb; simp_all; done)
   | true =>
     have hcb:=xqd hw hn.1 (by omega);have hm0:0<=n % (ints w.Plan.Gives).length:=xz3 _ (by omega);have hm1:n % (ints w.Plan.Gives).length<(ints w.Plan.Gives).length:=xzt _ (by omega);have hs:=xfx hw hm0 (by omega);have hdc:=w7 hs;generalize hcc:(w.Clients.getD n.toNat Client.nil)=x0 at *;have hxk:(w.Clients.map eX)[n.toNat]?=some (eX x0):=by rw [xx0,<- hcc,xxx,xxr (by omega)]; rfl
     have hcall:callB w.Plan x0.Call=true:=by
      unfold clientB at hcb;rw [hbz,if_pos rfl] at hcb;simp only [xxt] at hcb;exact hcb.2.1.1
     have hT:=xs6 w.Plan (w.Sites.getD (n % (ints w.Plan.Gives).length).toNat Site.nil) (n % (ints w.Plan.Gives).length) x0.Call hp hs hcall;obtain ⟨k1,k2,k3,k4⟩:=xgx hF hs hcall;have k5:=xna w.Plan (w.Sites.getD (n % (ints w.Plan.Gives).length).toNat Site.nil) (n % (ints w.Plan.Gives).length) x0.Call
     have e:doTry w n deaf={ w with
      Sites:=w.Sites.set (n % (ints w.Plan.Gives).length).toNat (siteTry w.Plan (w.Sites.getD (n % (ints w.Plan.Gives).length).toNat Site.nil) (n % (ints w.Plan.Gives).length) x0.Call).1
      Net:=send w.Net (siteTry w.Plan (w.Sites.getD (n % (ints w.Plan.Gives).length).toNat Site.nil) (n % (ints w.Plan.Gives).length) x0.Call).2.2
      Log:=if ((siteTry w.Plan (w.Sites.getD (n % (ints w.Plan.Gives).length).toNat Site.nil) (n % (ints w.Plan.Gives).length) x0.Call).1.Done.getD n.toNat Done.nil).Seq>((w.Sites.getD (n % (ints w.Plan.Gives).length).toNat Site.nil).Done.getD n.toNat Done.nil).Seq then write w.Log [⟨x0.Call,(siteTry w.Plan (w.Sites.getD (n % (ints w.Plan.Gives).length).toNat Site.nil) (n % (ints w.Plan.Gives).length) x0.Call).2.1⟩] else w.Log
      Clients:=if (siteTry w.Plan (w.Sites.getD (n % (ints w.Plan.Gives).length).toNat Site.nil) (n % (ints w.Plan.Gives).length) x0.Call).2.1.Code≠0/\deaf=false then w.Clients.set n.toNat ⟨x0.Call.Seq,false,Call.nil,(siteTry w.Plan (w.Sites.getD (n % (ints w.Plan.Gives).length).toNat Site.nil) (n % (ints w.Plan.Gives).length) x0.Call).2.1⟩ else w.Clients }:=by
      subst hcc;rw [lg];unfold doTry; rw [h,hbz]; rfl
     rw [e];clear e;generalize siteTry w.Plan (w.Sites.getD (n % (ints w.Plan.Gives).length).toNat Site.nil) (n % (ints w.Plan.Gives).length) x0.Call=y at *;obtain ⟨s',r,out⟩:=y;simp only at k1 k2 k3 k4 k5;replace hT:Sem P 87 _ [] (.tup [(true,eS s'),(true,eR r),(false,[fMs out])]):=hT;have hdc':=w7 k1;have lds:((w.Sites.getD (n % (ints w.Plan.Gives).length).toNat Site.nil).Done.map eD).length=(w.Sites.getD (n % (ints w.Plan.Gives).length).toNat Site.nil).Done.length:=xxs ..;have lds':(s'.Done.map eD).length=s'.Done.length:=xxs ..;have ht6:r.Tells.length<=6:=by
      by_cases h0:r.Code=0
      · rw [(k4 h0).1]; simp [Rslt.nil]
      · exact (yj.1 (k3 h0)).2.2.1
     have hS:=xc1 w.Plan _ (yv w.Sites (n % (ints w.Plan.Gives).length).toNat s') w.Clerk w.Clients w.Net w.Log out (by omega) (by omega) (fun m hm=>by have:=jn hcl (k2 m hm); omega);have hW:=xfi w.Plan _ (yv w.Sites (n % (ints w.Plan.Gives).length).toNat s') w.Clerk w.Clients (send w.Net out) w.Log x0.Call r (by have:=kd hcall; omega) (by omega);have hR:=yf r (by omega);by_cases hq:(s'.Done.getD n.toNat Done.nil).Seq>((w.Sites.getD (n % (ints w.Plan.Gives).length).toNat Site.nil).Done.getD n.toNat Done.nil).Seq
     · rw [if_pos hq];by_cases hr:r.Code≠0/\deaf=false
       · rw [if_pos hr];refine fK [9002,11003] Go.Proofs.Tryz.f207 fun hb=>?_;conv=>whnf
         repeat' first|((first|refine zz ?_|(refine xa ?_ ?_<;>intro _)|refine ⟨_,xi _ _ _,?_⟩|refine wq ?_|refine r64 (by omega) (by omega) ?_|refine ioN (by omega) (by omega) ?_)<;>conv=>whnf)|(refine ioN (by omega) (by rw [xzd]; omega) ?_;conv=>whnf)|((first|refine rwC hxk ?_|refine rwN (enc:=eS) Site.nil (by omega) ?_|refine ixI (enc:=eD) Done.nil (by omega) (by omega) ?_|refine ⟨_,hT,?_⟩|refine ⟨_,hS,?_⟩|refine ⟨_,hW,?_⟩|refine ⟨_,hR,?_⟩)<;>conv=>whnf)
         all_goals first
          | (exfalso; clear hb hT hS hW hR k1 k2 k3 k4 k5; simp_all; done)
          | (exfalso; clear hb hT hS hW hR k1 k2 k3 k4 k5; simp_all; omega)
          | (refine ⟨?_,rfl⟩
             show TV.agg [eI w.Plan.Clients,fAs w.Plan.Acts,fI w.Plan.Gives,fI w.Plan.Start,.sl 60 ((w.Sites.map eS).set _ (eS s')),eB w.Clerk.Up,eI w.Clerk.Round,fI w.Clerk.Base,fDs w.Clerk.Done,fCs w.Clerk.Wants,fGs w.Clerk.Got,.sl 163 ((w.Clients.map eX).set n.toNat (eX ⟨x0.Call.Seq,false,Call.nil,r⟩)),_,_]=_;rw [yv,ku]
             done)
          | (refine ⟨?_,rfl⟩
             show TV.agg [eI w.Plan.Clients,fAs w.Plan.Acts,fI w.Plan.Gives,fI w.Plan.Start,.sl 60 ((w.Sites.map eS).set _ (eS s')),eB w.Clerk.Up,eI w.Clerk.Round,fI w.Clerk.Base,fDs w.Clerk.Done,fCs w.Clerk.Wants,fGs w.Clerk.Got,sXs w.Clients,_,_]=_;rw [yv]
             done)
       · rw [if_neg hr];refine fK [9002,11003] Go.Proofs.Tryz.f207 fun hb=>?_;conv=>whnf
         repeat' first|((first|refine zz ?_|(refine xa ?_ ?_<;>intro _)|refine ⟨_,xi _ _ _,?_⟩|refine wq ?_|refine r64 (by omega) (by omega) ?_|refine ioN (by omega) (by omega) ?_)<;>conv=>whnf)|(refine ioN (by omega) (by rw [xzd]; omega) ?_;conv=>whnf)|((first|refine rwC hxk ?_|refine rwN (enc:=eS) Site.nil (by omega) ?_|refine ixI (enc:=eD) Done.nil (by omega) (by omega) ?_|refine ⟨_,hT,?_⟩|refine ⟨_,hS,?_⟩|refine ⟨_,hW,?_⟩|refine ⟨_,hR,?_⟩)<;>conv=>whnf)
         all_goals first
          | (exfalso; clear hb hT hS hW hR k1 k2 k3 k4 k5; simp_all; done)
          | (exfalso; clear hb hT hS hW hR k1 k2 k3 k4 k5; simp_all; omega)
          | (refine ⟨?_,rfl⟩
             show TV.agg [eI w.Plan.Clients,fAs w.Plan.Acts,fI w.Plan.Gives,fI w.Plan.Start,.sl 60 ((w.Sites.map eS).set _ (eS s')),eB w.Clerk.Up,eI w.Clerk.Round,fI w.Clerk.Base,fDs w.Clerk.Done,fCs w.Clerk.Wants,fGs w.Clerk.Got,.sl 163 ((w.Clients.map eX).set n.toNat (eX ⟨x0.Call.Seq,false,Call.nil,r⟩)),_,_]=_;rw [yv,ku]
             done)
          | (refine ⟨?_,rfl⟩
             show TV.agg [eI w.Plan.Clients,fAs w.Plan.Acts,fI w.Plan.Gives,fI w.Plan.Start,.sl 60 ((w.Sites.map eS).set _ (eS s')),eB w.Clerk.Up,eI w.Clerk.Round,fI w.Clerk.Base,fDs w.Clerk.Done,fCs w.Clerk.Wants,fGs w.Clerk.Got,sXs w.Clients,_,_]=_;rw [yv]
             done)
     · rw [if_neg hq];by_cases hr:r.Code≠0/\deaf=false
       · rw [if_pos hr];refine fK [9002,11003] Go.Proofs.Tryz.f207 fun hb=>?_;conv=>whnf
         repeat' first|((first|refine zz ?_|(refine xa ?_ ?_<;>intro _)|refine ⟨_,xi _ _ _,?_⟩|refine wq ?_|refine r64 (by omega) (by omega) ?_|refine ioN (by omega) (by omega) ?_)<;>conv=>whnf)|(refine ioN (by omega) (by rw [xzd]; omega) ?_;conv=>whnf)|((first|refine rwC hxk ?_|refine rwN (enc:=eS) Site.nil (by omega) ?_|refine ixI (enc:=eD) Done.nil (by omega) (by omega) ?_|refine ⟨_,hT,?_⟩|refine ⟨_,hS,?_⟩|refine ⟨_,hW,?_⟩|refine ⟨_,hR,?_⟩)<;>conv=>whnf)
         all_goals first
          | (exfalso; clear hb hT hS hW hR k1 k2 k3 k4 k5; simp_all; done)
          | (exfalso; clear hb hT hS hW hR k1 k2 k3 k4 k5; simp_all; omega)
          | (refine ⟨?_,rfl⟩
             show TV.agg [eI w.Plan.Clients,fAs w.Plan.Acts,fI w.Plan.Gives,fI w.Plan.Start,.sl 60 ((w.Sites.map eS).set _ (eS s')),eB w.Clerk.Up,eI w.Clerk.Round,fI w.Clerk.Base,fDs w.Clerk.Done,fCs w.Clerk.Wants,fGs w.Clerk.Got,.sl 163 ((w.Clients.map eX).set n.toNat (eX ⟨x0.Call.Seq,false,Call.nil,r⟩)),_,_]=_;rw [yv,ku]
             done)
          | (refine ⟨?_,rfl⟩
             show TV.agg [eI w.Plan.Clients,fAs w.Plan.Acts,fI w.Plan.Gives,fI w.Plan.Start,.sl 60 ((w.Sites.map eS).set _ (eS s')),eB w.Clerk.Up,eI w.Clerk.Round,fI w.Clerk.Base,fDs w.Clerk.Done,fCs w.Clerk.Wants,fGs w.Clerk.Got,sXs w.Clients,_,_]=_;rw [yv]
             done)
       · rw [if_neg hr];refine fK [9002,11003] Go.Proofs.Tryz.f207 fun hb=>?_;conv=>whnf
         repeat' first|((first|refine zz ?_|(refine xa ?_ ?_<;>intro _)|refine ⟨_,xi _ _ _,?_⟩|refine wq ?_|refine r64 (by omega) (by omega) ?_|refine ioN (by omega) (by omega) ?_)<;>conv=>whnf)|(refine ioN (by omega) (by rw [xzd]; omega) ?_;conv=>whnf)|((first|refine rwC hxk ?_|refine rwN (enc:=eS) Site.nil (by omega) ?_|refine ixI (enc:=eD) Done.nil (by omega) (by omega) ?_|refine ⟨_,hT,?_⟩|refine ⟨_,hS,?_⟩|refine ⟨_,hW,?_⟩|refine ⟨_,hR,?_⟩)<;>conv=>whnf)
         all_goals first
          | (exfalso; clear hb hT hS hW hR k1 k2 k3 k4 k5; simp_all; done)
          | (exfalso; clear hb hT hS hW hR k1 k2 k3 k4 k5; simp_all; omega)
          | (refine ⟨?_,rfl⟩
             show TV.agg [eI w.Plan.Clients,fAs w.Plan.Acts,fI w.Plan.Gives,fI w.Plan.Start,.sl 60 ((w.Sites.map eS).set _ (eS s')),eB w.Clerk.Up,eI w.Clerk.Round,fI w.Clerk.Base,fDs w.Clerk.Done,fCs w.Clerk.Wants,fGs w.Clerk.Got,.sl 163 ((w.Clients.map eX).set n.toNat (eX ⟨x0.Call.Seq,false,Call.nil,r⟩)),_,_]=_;rw [yv,ku]
             done)
          | (refine ⟨?_,rfl⟩
             show TV.agg [eI w.Plan.Clients,fAs w.Plan.Acts,fI w.Plan.Gives,fI w.Plan.Start,.sl 60 ((w.Sites.map eS).set _ (eS s')),eB w.Clerk.Up,eI w.Clerk.Round,fI w.Clerk.Base,fDs w.Clerk.Done,fCs w.Clerk.Wants,fGs w.Clerk.Got,sXs w.Clients,_,_]=_;rw [yv]
             done)
theorem xlm {p:Plan} (h:planOk p=true):planS p:=by
 obtain ⟨h1,h2,h3,h4⟩:=xam h;unfold planS; omega
theorem ixS {w:World} (hw:WorldF w) {i:Int} {k:List AV->Prop} (h0:0<=i) (h:i<w.Sites.length) (hk:∀ s,siteB w.Plan s i=true->k (eS s)):0<=i/\∃ row,(w.Sites.map eS)[i.toNat]?=some row/\k row:=ixI Site.nil h0 h (hk _ (xfx hw h0 h))
theorem xbe {p:Plan} {s:Site} {n:Int} (hcl:inB p.Clients 0 4=true) (h:siteB p s n=true):(0<=s.Round/\s.Round<=200)/\s.Added.length=3/\s.Done.length<=4/\zDs s.Done<=100:=by
 obtain ⟨h1,h2,h3,h4⟩:=siteE h;have:=yy hcl h4;exact ⟨h1,(xq h3).1,this.1,this.2⟩
theorem xnb (bs:List UInt8) (a:Int) (w:World) (hw:WorldF w) (h0:w.Net.length=0) (ha:0<=a/\a<=5000000000) (hbs:bs.length<=2000) :
 ∃ os res,(∃ (e:Event) (a':Int),(a<=a'/\a'<=a+30)/\e.Args.length<=3/\res=.agg (eE e)/\os=aRd bs a')/\Sem P 184 [(.io 0 0,.agg (aRd bs a)),(.pure,.agg (aWd w))] [.agg os] res:=by
 refine drEventEnd ?_;obtain ⟨⟨s1,s2⟩,⟨c1,c2⟩,⟨p1,p2⟩,hn,hq⟩:=kl hw;have ls:(w.Sites.map eS).length=w.Sites.length:=xxs ..;have lx:(w.Clients.map eX).length=w.Clients.length:=xxs ..;have la:(w.Plan.Acts.map eA).length=w.Plan.Acts.length:=xxs ..;have lm:(w.Net.map eM).length=w.Net.length:=xxs ..;refine xhn (E:=E0) xn xo (fn:=Go.Proofs.Tryz.f184) (by kernel_rfl) (by kernel_rfl) ?_;conv=>whnf
 refine xa (fun g=>?_) (fun g=>?_)
 · exfalso; simp only [xxy] at g; omega
 conv=>whnf
 all_goals
  refine callIo (xh bs _ 32 (by omega) (by decide) hbs) ?_;rintro _ _ ⟨n,hn,rfl,rfl⟩;have h32:n=0\/n=1\/n=2\/n=3\/n=4\/n=5\/n=6\/n=7\/n=8\/n=9\/n=10\/n=11\/n=12\/n=13\/n=14\/n=15\/n=16\/n=17\/n=18\/n=19\/n=20\/n=21\/n=22\/n=23\/n=24\/n=25\/n=26\/n=27\/n=28\/n=29\/n=30\/n=31:=by omega
  rcases h32 with rfl|rfl|rfl|rfl|rfl|rfl|rfl|rfl|rfl|rfl|rfl|rfl|rfl|rfl|rfl|rfl|rfl|rfl|rfl|rfl|rfl|rfl|rfl|rfl|rfl|rfl|rfl|rfl|rfl|rfl|rfl|rfl
 all_goals conv=>whnf
 all_goals
  repeat' first|((first|refine callIo (xh bs _ _ (by omega) (by omega) hbs) ?_|refine callIo (xh bs _ 2 (by omega) (by decide) hbs) ?_); rintro _ _ ⟨n,hn,rfl,rfl⟩;conv=>whnf)|(refine callIo (xa6 bs _ _ (by omega) (by decide) hbs) ?_; rintro _ _ ⟨l,b'',hb'',hl,rfl,rfl⟩;conv=>whnf)|(refine wq ?_;conv=>whnf)
  first
   | (refine drEv0 rfl ⟨?_,?_⟩<;>omega)
   | (refine drEv1 hl rfl ⟨?_,?_⟩<;>omega)
end Cc
end
