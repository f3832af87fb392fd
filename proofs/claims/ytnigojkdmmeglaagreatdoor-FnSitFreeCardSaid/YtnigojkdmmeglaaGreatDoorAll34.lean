/- The laws FnMsgOk, FnSitFree: part 34 of 41. No conditions beyond the statement. -/
import Derived.Test.YtnigojkdmmeglaaGreatDoorAll27
import Derived.Test.YtnigojkdmmeglaaGreatDoorAll31
import Derived.Test.YtnigojkdmmeglaaGreatDoorAll32
set_option linter.unusedVariables false
set_option linter.unusedSimpArgs false
set_option maxRecDepth 100000
set_option maxHeartbeats 16000000
section
namespace Cc
open Go Go.AM
theorem drMsg {a m:Int} {bs:List UInt8} {cs:List AV} {os:List TV} {k t f r:Int} {c1 c2 c3:Int} {g v q:List Int} {dn:List Done} {a':Int} (e2:os=[.agg (aRd bs a')]) (hb:a<=a'/\a'<=a+m) (h:Colds cs [eI k,eI t,eI f,eI r,eI c1,eI c2,eI c3,fI g,fI v,fI q,fDs dn]) (hz:g.length+v.length+q.length+zDs dn<=10000) :
 ∃ (x:Msg) (cs':List AV) (a':Int),(a<=a'/\a'<=a+m)/\zM x<=10000/\Colds cs' (eM x)/\TV.agg cs=.agg cs'/\os=[.agg (aRd bs a')]:=⟨⟨k,t,f,r,⟨c1,c2,c3,g⟩,v,q,dn⟩,cs,a',hb,hz,h,rfl,e2⟩
theorem xbi {p:Plan} (h:planOk p=true):planS p:=by
 obtain ⟨h1,h2,h3,h4⟩:=xa6 h;unfold planS; omega
theorem xup:Cold (.sl 3 []) (fI []):=xg (rows:=[])
theorem xuq:Cold (.sl 79 []) (fDs []):=xg (rows:=[])
theorem xp0:zDs []=0:=rfl
theorem xur {l:List Int} {n:Int}:Cold (.sl 3 (ints l++[rI n])) (fI (l++[n])):=by
 have e:=y0 l n;unfold fI;rw [<- e]; exact xg
theorem drMsg0 {a m:Int} {bs:List UInt8} {cs:List AV} {os:List TV} {k t f r:Int} {c1 c2 c3:Int} {g v q:List Int} {dn:List Done} {a':Int} (e2:os=[.agg (aRd bs a')]) (hb:a<=a'/\a'<=a+m) (h:Colds cs [eI k,eI t,eI f,eI r,eI c1,eI c2,eI c3,fI g,fI v,fI q,fDs dn]) :
 ∃ (x:Msg) (cs':List AV) (a':Int),(a<=a'/\a'<=a+m)/\Colds cs' (eM x)/\TV.agg cs=.agg cs'/\os=[.agg (aRd bs a')]:=⟨⟨k,t,f,r,⟨c1,c2,c3,g⟩,v,q,dn⟩,cs,a',hb,h,rfl,e2⟩
theorem ixS {w:World} (hw:WorldF w) {i:Int} {k:List AV->Prop} (h0:0<=i) (h:i<w.Sites.length) (hk:∀ s,siteB w.Plan s i=true->k (eS s)):0<=i/\∃ row,(w.Sites.map eS)[i.toNat]?=some row/\k row:=ixI Site.nil h0 h (hk _ (xgw hw h0 h))
theorem ixM {w:World} (hw:WorldF w) {i:Int} {k:List AV->Prop} (h0:0<=i) (h:i<w.Net.length) (hk:∀ m,msgB w.Plan m=true->k (eM m)):0<=i/\∃ row,(w.Net.map eM)[i.toNat]?=some row/\k row:=ixI default h0 h (hk _ (hw.n _ (xp (by omega))))
theorem ki {p:Plan} {s:Site} {n:Int} (hcl:inB p.Clients 0 4=true) (h:siteB p s n=true):(0<=s.Round/\s.Round<=200)/\s.Added.length=3/\s.Done.length<=4/\zDs s.Done<=100:=by
 obtain ⟨h1,h2,h3,h4⟩:=siteE h;have:=yl hcl h4;exact ⟨h1,(xu h3).1,this.1,this.2⟩
theorem xfc (bs:List UInt8) (a:Int) (w:World) (hw:WorldF w) (ha:0<=a/\a<=4000000000) (hbs:bs.length<=2000) :
 ∃ os res,(∃ (x:Msg) (a':Int),(a<=a'/\a'<=a+50)/\zM x<=10000/\res=.agg (eM x)/\os=aRd bs a')/\Sem P 72 [(.io 0 0,.agg (aRd bs a)),(.pure,.agg (aWd w))] [.agg os] res:=by
 have key:∃ res outs,(∃ (x:Msg) (cs':List AV) (a':Int),(a<=a'/\a'<=a+50)/\zM x<=10000/\Colds cs' (eM x)/\res=.agg cs'/\outs=[.agg (aRd bs a')])/\Sem P 72 [(.io 0 0,.agg (aRd bs a)),(.pure,.agg (aWd w))] outs res:=by
  obtain ⟨⟨s1,s2⟩,⟨c1,c2⟩,⟨p1,p2⟩,hnn,hq⟩:=ql hw;have hcl:=xi hw.p.ok;have hps:=xbi hw.p.ok;have ls:(w.Sites.map eS).length=w.Sites.length:=xzi ..;have lm:(w.Net.map eM).length=w.Net.length:=xzi ..;have hkb:=(xe.1 hw.k.b).1;have hkd:=(yl hcl hw.k.d).2;have hkr:=hw.k.r;have hP:∀ i,Sem P 163 [(.pure,.agg (aK w.Clerk)),(.pure,I i)] [] (.agg [eI 4,eI i,eI 0,eI w.Clerk.Round,eI 0,eI 0,eI 0,sI [],sI w.Clerk.Base,sI [],sDs w.Clerk.Done]):=fun i=>xjx w.Clerk i (by omega) (by omega);have hG:∀ s n,siteB w.Plan s n=true->Sem P 118 [(.pure,.agg (aS s)),(.pure,I n)] [] (.agg [eI 3,eI (-1),eI n,eI s.Round,eI 0,eI 0,eI 0,sI [],sI s.Added,sI (s.Done.map Done.Seq),sDs []]):=fun s n hs=>by
   have:=ki hcl hs;exact xdr s n (by omega) (by omega)
  refine xw (E:=E0) xm xn (fn:=Go.Proofs.Tryz.f72) (by kernel_rfl) (by kernel_rfl) ?_;conv=>whnf
  repeat' first|((first|refine zz ?_|(refine xa ?_ ?_<;>intro _))<;>conv=>whnf)|(refine callIo (xf bs _ _ (by omega) (by first|omega|(simp only [xzk] at *; omega)) hbs) ?_; rintro _ _ ⟨n,hn,rfl,rfl⟩;conv=>whnf)|(refine callIo (jx bs _ _ w.Plan hps (by omega) (by omega) hbs) ?_; rintro _ _ ⟨c,b,hb,hc,rfl,rfl⟩;conv=>whnf)|(refine ixS hw (by omega) (by omega) fun s hs=>?_; have hsl:=ki hcl hs;conv=>whnf)|(refine ixM hw (by omega) (by omega) fun s hs=>?_; have hsl:=kh hcl hs;conv=>whnf)|((first|refine ⟨_,hP _,?_⟩|refine ⟨_,hG s _ hs,?_⟩|refine wq ?_)<;>conv=>whnf)
  all_goals first
   | (apply drMsg
      · rfl
      · constructor<;>omega
      · repeat' first|exact Colds.nil|refine Colds.cons (by first|exact xl|exact xup|exact xuq|exact x1) ?_
      · first|(unfold cllS at hc; simp only [xz4,xp0]; omega)|(simp only [xz4,xzi,xp0]; omega)|(unfold zM zC at hsl; omega)
      done)
 obtain ⟨r,o,⟨x,cs',a',h1,h2,h3,rfl,rfl⟩,h4⟩:=key;exact ⟨_,_,⟨x,a',h1,h2,rfl,rfl⟩,Sem.colds h3 h4⟩
theorem va (bs:List UInt8) (a:Int) (w:World) (x:Msg) (hw:WorldF w) (hz:zM x<=10000) (ha:0<=a/\a<=4000000000) (hbs:bs.length<=2000) :
 ∃ os res,(∃ (x':Msg) (a':Int),(a<=a'/\a'<=a+50)/\res=.agg (eM x')/\os=aRd bs a')/\Sem P 74 [(.io 0 0,.agg (aRd bs a)),(.pure,.agg (aWd w)),(.pure,.agg (aM x))] [.agg os] res:=by
 have key:∃ res outs,(∃ (x':Msg) (cs':List AV) (a':Int),(a<=a'/\a'<=a+50)/\Colds cs' (eM x')/\res=.agg cs'/\outs=[.agg (aRd bs a')])/\Sem P 74 [(.io 0 0,.agg (aRd bs a)),(.pure,.agg (aWd w)),(.pure,.agg (aM x))] outs res:=by
  have hps:=xbi hw.p.ok;have hcp:=xbg x (by omega);have hzl:x.Seqs.length<=10000/\x.Done.length<=10000:=by unfold zM zDs at hz; omega
  have lq:=xb x.Seqs;have ld:(x.Done.map eD).length=x.Done.length:=xzi ..;refine xw (E:={ E0 with keep:=[2001] }) xm xn (fn:=Go.Proofs.Tryz.f74) (by kernel_rfl) (by kernel_rfl) ?_;conv=>whnf
  repeat' first|((first|refine zz ?_|(refine xa ?_ ?_<;>intro _)|refine ⟨_,hcp,?_⟩)<;>conv=>whnf)|(refine callIo (xf bs _ _ (by omega) (by omega) hbs) ?_; rintro _ _ ⟨n,hn,rfl,rfl⟩;conv=>whnf)|(refine callIo (jx bs _ _ w.Plan hps (by omega) (by omega) hbs) ?_; rintro _ _ ⟨c,b,hb,hc,rfl,rfl⟩;conv=>whnf)|(refine callIo (xds bs _ _ (by omega) (by omega) hbs) ?_; rintro _ _ ⟨l,b,hb,rfl,rfl⟩;conv=>whnf)|(refine callIo (xls bs _ _ (by omega) (by omega) hbs) ?_; rintro _ _ ⟨r,d,hd,(rfl|rfl),rfl⟩<;>conv=>whnf)|(refine callIo (xf bs _ _ (by omega) (by omega) hbs) ?_; rintro _ _ ⟨n,hn,rfl,rfl⟩;conv=>whnf)|(refine ioN (by first|omega|(dsimp only; omega)|(simp<;>omega)|(simp_all<;>omega)) (by first|omega|(dsimp only; omega)|(simp<;>omega)|(simp_all<;>omega)) ?_;conv=>whnf)|(refine rwI rfl (by first|omega|(dsimp only; omega)|(simp<;>omega)|(simp_all<;>omega)) (by first|omega|(dsimp only; omega)|(simp<;>omega)|(simp_all<;>omega)) fun c hc=>?_;conv=>whnf)|(refine rwN (enc:=rI) 0 (by first|omega|(dsimp only; omega)|(simp<;>omega)|(simp_all<;>omega)) ?_;conv=>whnf)|(refine wq ?_;conv=>whnf)|(refine apN (by simp; omega) ?_;conv=>whnf)
  all_goals first
   | (apply drMsg0
      · rfl
      · constructor<;>omega
      · repeat' first|exact Colds.nil|refine Colds.cons (by first|exact xl|exact xur|exact xfb|exact xg|exact x1) ?_
      done)
 obtain ⟨r,o,⟨x,cs',a',h1,h3,rfl,rfl⟩,h4⟩:=key;exact ⟨_,_,⟨x,a',h1,rfl,rfl⟩,Sem.colds h3 h4⟩
theorem xmp:∀ l:List (List AV),Rowz l l
 | []=>.nil
 | r::l=>.cons rfl (fun k a b ha hb=>by rw [ha] at hb; cases hb; exact Imp.rfl) (xmp l)
theorem xgx (l:List Got):Rowz (l.map aG) (l.map eG):=Rowz.map (e:=aG) (e':=eG) (fun _=>rfl) (fun x k a b ha hb=>by
 match k,ha,hb with
 | 0,ha,hb=>cases ha; cases hb; exact Imp.rfl
 | 1,ha,hb=>cases ha; cases hb; exact qo Imp.rfl
 | 2,ha,hb=>cases ha; cases hb; exact qo Imp.rfl
 | k+3,ha,hb=>simp at ha) l
theorem xru {l:List Got}:Cold (.sl 105 (l.map aG++[[eB false,.fr [] 3 [],.fr [] 3 []]])) (fGs (l++[Got.nil])):=by
 have e:(l++[Got.nil]).map eG=l.map eG++[[eB false,.fr [] 3 [],.fr [] 3 []]]:=by simp [Got.nil]
 unfold fGs;rw [e];exact xbw (Rowz.app (xgx l) (xmp _))
theorem xus {l:List Got} {b:Bool} {x:List Int} {i n:Nat}:Cold (.sl 105 ((l.map aG).set i [eB b,fI x,.sl 3 (List.replicate n [AV.prim (Value.int .i64 0)])])) (fGs (l.set i ⟨b,x,List.replicate n 0⟩)):=by
 have e:(l.set i ⟨b,x,List.replicate n 0⟩).map eG=(l.map eG).set i [eB b,fI x,fI (List.replicate n 0)]:=x1y;have e2:List.replicate n [AV.prim (Value.int .i64 0)]=ints (List.replicate n 0):=by rw [ints,List.map_replicate]
 unfold fGs;rw [e,e2];refine xbw (Rowz.set (r:=[eB b,fI x,sI (List.replicate n 0)]) (r':=[eB b,fI x,fI (List.replicate n 0)]) (xgx l) rfl (fun k a b ha hb=>?_) i)
 match k,ha,hb with
 | 0,ha,hb=>cases ha; cases hb; exact Imp.rfl
 | 1,ha,hb=>cases ha; cases hb; exact Imp.rfl
 | 2,ha,hb=>cases ha; cases hb; exact qo Imp.rfl
 | k+3,ha,hb=>simp at ha
theorem xut {l:List Call} {x:Call}:Cold (.sl 50 (l.map eC++[eC x])) (fCs (l++[x])):=by
 have e:=jy l x;unfold fCs;rw [<- e]; exact xg
theorem drClk {a m:Int} {bs:List UInt8} {cs:List AV} {os:List TV} {u:Bool} {r:Int} {b:List Int} {dn:List Done} {ws:List Call} {gs:List Got} {a':Int} (e2:os=[.agg (aRd bs a')]) (hb:a<=a'/\a'<=a+m) (h:Colds cs [eB u,eI r,fI b,fDs dn,fCs ws,fGs gs]) :
 ∃ (c:Clerk) (cs':List AV) (a':Int),(a<=a'/\a'<=a+m)/\Colds cs' (eK c)/\TV.agg cs=.agg cs'/\os=[.agg (aRd bs a')]:=⟨⟨u,r,b,dn,ws,gs⟩,cs,a',hb,h,rfl,e2⟩
theorem xkh (bs:List UInt8) (a:Int) (w:World) (c:Clerk) (hw:WorldF w) (hz:zK c<=10000) (ha:0<=a/\a<=4000000000) (hbs:bs.length<=2000) :
 ∃ os res,(∃ (c':Clerk) (a':Int),(a<=a'/\a'<=a+50)/\res=.agg (eK c')/\os=aRd bs a')/\Sem P 122 [(.io 0 0,.agg (aRd bs a)),(.pure,.agg (aWd w)),(.pure,.agg (aK c))] [.agg os] res:=by
 have key:∃ res outs,(∃ (c':Clerk) (cs':List AV) (a':Int),(a<=a'/\a'<=a+50)/\Colds cs' (eK c')/\res=.agg cs'/\outs=[.agg (aRd bs a')])/\Sem P 122 [(.io 0 0,.agg (aRd bs a)),(.pure,.agg (aWd w)),(.pure,.agg (aK c))] outs res:=by
  have hps:=xbi hw.p.ok;have hcl:=hw.p.cl;have hcp:=zo c (by omega);have hzl:c.Done.length<=10000/\c.Wants.length<=10000/\c.Got.length<=10000:=by unfold zK zDs zCs zGs at hz; omega
  have ld:(c.Done.map eD).length=c.Done.length:=xzi ..;have lw:(c.Wants.map eC).length=c.Wants.length:=xzi ..;have lg:(c.Got.map aG).length=c.Got.length:=xzi ..;refine xw (E:={ E0 with keep:=[2001] }) xm xn (fn:=Go.Proofs.Tryz.f122) (by kernel_rfl) (by kernel_rfl) ?_;conv=>whnf
  repeat' first|((first|refine zz ?_|(refine xa ?_ ?_<;>intro _)|refine ⟨_,hcp,?_⟩)<;>conv=>whnf)|(refine callIo (xf bs _ _ (by omega) (by omega) hbs) ?_; rintro _ _ ⟨n,hn,rfl,rfl⟩;conv=>whnf)|(refine callIo (jx bs _ _ w.Plan hps (by omega) (by omega) hbs) ?_; rintro _ _ ⟨x,b,hb,hc,rfl,rfl⟩;conv=>whnf)|(refine callIo (xds bs _ _ (by omega) (by omega) hbs) ?_; rintro _ _ ⟨l,b,hb,rfl,rfl⟩;conv=>whnf)|(refine callIo (xj3 bs _ _ (by omega) (by omega) hbs) ?_; rintro _ _ ⟨l,b,hb,rfl,rfl⟩;conv=>whnf)|(refine callIo (xf bs _ _ (by omega) (by omega) hbs) ?_; rintro _ _ ⟨n,hn,rfl,rfl⟩;conv=>whnf)|(refine ioN (by first|omega|(dsimp only; omega)|(simp<;>omega)|(simp_all<;>omega)) (by first|omega|(dsimp only; omega)|(simp<;>omega)|(simp_all<;>omega)) ?_;conv=>whnf)|(refine rwI rfl (by first|omega|(dsimp only; omega)|(simp<;>omega)|(simp_all<;>omega)) (by first|omega|(dsimp only; omega)|(simp<;>omega)|(simp_all<;>omega)) fun c hc=>?_;conv=>whnf)|(refine rwN (enc:=rI) 0 (by first|omega|(dsimp only; omega)|(simp<;>omega)|(simp_all<;>omega)) ?_;conv=>whnf)|(refine wq ?_;conv=>whnf)|(refine apN (by simp; omega) ?_;conv=>whnf)|(refine rwN (enc:=aG) Got.nil (by first|omega|(simp only [xzk] at *; omega)) ?_;conv=>whnf)
  all_goals first
   | (apply drClk
      · rfl
      · constructor<;>omega
      · repeat' first|exact Colds.nil|refine Colds.cons (by first|exact xl|exact xut|exact xru|exact xus|exact xfj _|exact xh8|exact xg|exact x1) ?_
      done)
 obtain ⟨r,o,⟨x,cs',a',h1,h3,rfl,rfl⟩,h4⟩:=key;exact ⟨_,_,⟨x,a',h1,rfl,rfl⟩,Sem.colds h3 h4⟩
def logs (l:List (Call × Rslt)):List LogD:=l.map fun y=>⟨y.1,y.2⟩
theorem xwp {l:List (Call × Rslt)} {i:Nat} (h:i<l.length):(logs l).getD i default=⟨(l.map Prod.fst).getD i Call.nil,(l.map Prod.snd).getD i Rslt.nil⟩:=by
 unfold logs;rw [xzo,xzo,xzo,xzr,xzr,xzr,xzh h]; rfl
theorem xr2 {log:List LogD} {l:List LogD} {i:Nat} (h:i<l.length):write (write log (l.take i)) [l.getD i default]=write log (l.take (i+1)):=by
 unfold write;by_cases h1:log.length+i<100
 · rw [xzx (l:=l.take i) (by rw [xz3]; omega),xzx (l:=l.take (i+1)) (by rw [xz3]; omega)];rw [xzx (l:=[l.getD i default]) (by simp only [x0e,xzu,xz3]; omega),x0c,xt h]
 · have e1:(l.take i).take (100 - log.length)=l.take (100 - log.length):=by rw [List.take_take,x1k (by omega)]
   have e2:(l.take (i+1)).take (100 - log.length)=l.take (100 - log.length):=by rw [List.take_take,x1k (by omega)]
   rw [e1,e2];have e3:100 - (log++l.take (100 - log.length)).length=0:=by rw [xzu,xz3]; omega
   rw [e3]; simp
theorem xwq {p:Plan} {m:Msg} (hm:msgB p m=true) (h:m.To ≠ -1):isSite p m.To=true:=by
 unfold msgB at hm;rw [xzj] at hm;obtain ⟨_,hm⟩:=hm
 split at hm
 · simp only [xzj,xzk] at hm; exact absurd hm.1.1.1.1.1.1 h
 · split at hm
   · simp only [xzj] at hm; exact hm.1.1.1.1.1
   · split at hm
     · simp only [xzj,xzk] at hm; exact absurd hm.1.1.1.1.1 h
     · split at hm
       · simp only [xzj] at hm; exact hm.1.1.1.1.1
       · cases hm
theorem xms (p:Plan) (s:Site) (n:Int) (m:Msg):(siteHear p s n m).2.length<=1:=by
 unfold siteHear
 split
 · simp
 · split
   · simp
   · split<;>simp
theorem xuv (c:Clerk):(pacts c).length=c.Got.length:=by simp [pacts]
theorem xki {p:Plan} {c:Clerk} {m:Msg} (hp:PlanF p) (hc:ClerkF p c) (hm:msgB p m=true):(clerkHear p c m).2.1.length<=p.Gives.length:=by
 have h:=(xbc hp hc hm).1.gl;unfold clerkHear at h ⊢
 split
 · simp
 · split
   · simp
   · split
     · simp
     · rename_i g1 g2 g3;rw [if_neg g1,if_neg g2,if_neg g3] at h;simp only
       split
       · simp
       · rw [xuv]; simp only at h; omega
theorem xac (p:Plan) (got:List Got):∀ (l:List Call) (v:List Int) (d:List Done),(foldWants p got l v d).2.2.length<=l.length
 | [],_,_=>by simp [foldWants]
 | x::r,v,d=>by
   unfold foldWants
   split
   · have:=xac p got r (actRun (p.Acts.getD x.Act.toNat []) v x.Args).2 (d.set x.Client.toNat ⟨x.Seq,(actRun (p.Acts.getD x.Act.toNat []) v x.Args).1⟩);simp only [xz6]; omega
   · have:=xac p got r v d;simp only [xz6]; omega
theorem xia (p:Plan) (c:Clerk) (m:Msg):(clerkHear p c m).2.2.length<=c.Wants.length:=by
 unfold clerkHear
 split
 · simp
 · split
   · simp
   · split
     · simp
     · simp only;unfold clerkFold
       split
       · simp
       · exact xac ..
theorem xr3 {w:World} {n:Int} (hi:inB n 0 (w.Net.length - 1)=true) (ht:(w.Net.getD n.toNat default).To ≠ -1):doBring w n={ w with
 Sites:=w.Sites.set (w.Net.getD n.toNat default).To.toNat (siteHear w.Plan (w.Sites.getD (w.Net.getD n.toNat default).To.toNat Site.nil) (w.Net.getD n.toNat default).To (w.Net.getD n.toNat default)).1
 Net:=send (cut w.Net n) (siteHear w.Plan (w.Sites.getD (w.Net.getD n.toNat default).To.toNat Site.nil) (w.Net.getD n.toNat default).To (w.Net.getD n.toNat default)).2 }:=by
 have hn:=xc.1 hi;have e:w.Net[n.toNat]?=some (w.Net.getD n.toNat default):=by rw [xzo,xzh (by omega)]; rfl
 unfold doBring;rw [if_pos hi,e];simp only;rw [if_pos ht]
theorem xop {w:World} {n:Int} (hi:inB n 0 (w.Net.length - 1)=true) (ht:¬ (w.Net.getD n.toNat default).To ≠ -1):doBring w n={ w with
 Clerk:=(clerkHear w.Plan w.Clerk (w.Net.getD n.toNat default)).1
 Net:=send (cut w.Net n) (clerkHear w.Plan w.Clerk (w.Net.getD n.toNat default)).2.1
 Log:=write w.Log (logs (clerkHear w.Plan w.Clerk (w.Net.getD n.toNat default)).2.2) }:=by
 have hn:=xc.1 hi;have e:w.Net[n.toNat]?=some (w.Net.getD n.toNat default):=by rw [xzo,xzh (by omega)]; rfl
 unfold doBring;rw [if_pos hi,e];simp only;rw [if_neg ht];rfl
theorem xx2 {l:List (Call × Rslt)} {i:Nat} (h:i<l.length):((l.map Prod.fst).getD i Call.nil,(l.map Prod.snd).getD i Rslt.nil)∈l:=by
 have:((l.map Prod.fst).getD i Call.nil,(l.map Prod.snd).getD i Rslt.nil)=l[i]:=by
  rw [xzo,xzo,xzr,xzr,xzh h]; rfl
 rw [this]; exact x0m h
theorem xmt (w:World) (n:Int) (hw:WorldF w):Sem P 208 [(.own,.agg (oWd w)),(.pure,.one (sPs (partsOf w.Plan.Acts))),(.pure,.one (sBs (pinsOf w.Plan.Acts))),(.pure,I n)] [] (.agg (oWd (doBring w n))):=by
 have hF:=hw.p;have hp:=hF.ok;have hcl:=xi hp;have g3:=yk hp;have lm:(w.Net.map eM).length=w.Net.length:=xzi ..;have ls:(w.Sites.map eS).length=w.Sites.length:=xzi ..;have hsl:=hw.sl;have hnl:=hw.nl;have hcu:(cut w.Net n).length<=w.Net.length:=xav
 cases h:inB n 0 (w.Net.length - 1) with
 | false =>
   have e:doBring w n=w:=by unfold doBring; rw [h]; rfl
   rw [e];refine fO Go.Proofs.Tryz.f208 fun hb=>?_;conv=>whnf
   repeat' first|((first|refine zz ?_|(refine xa ?_ ?_<;>intro _)|refine ⟨_,xj _ _ _,?_⟩|refine wq ?_)<;>conv=>whnf)
   all_goals first
    | exact ⟨rfl,rfl⟩
    | (exfalso; simp_all; done)
 | true =>
   have hn:=xc.1 h;have hC:Sem P 209 [(.own,.agg (oWd w)),(.pure,I n)] [] (.agg (xWd w.Plan (w.Sites.map eS) w.Clerk w.Clients (cut w.Net n) w.Log)):=xmq w n (by omega);have hm:msgB w.Plan (w.Net.getD n.toNat default)=true:=hw.n _ (xp (by omega));by_cases ht:(w.Net.getD n.toNat default).To ≠ -1
   · have hsi:=xc.1 (xwq hm ht);rw [xr3 h ht];have hmk:(w.Net.map eM)[n.toNat]?=some (eM (w.Net.getD n.toNat default)):=by rw [xzr,xzo,xzh (by omega)]; rfl
     generalize w.Net.getD n.toNat default=m at *;have hs:=xgw hw hsi.1 (by omega);have hH:=xrz w.Plan (w.Sites.getD m.To.toNat Site.nil) m.To m hp hsi.1 hs hm;have hok:=xf5 hF (i:=m.To.toNat) (s:=w.Sites.getD m.To.toNat Site.nil) (m:=m) (by rw [x19 hsi.1]; exact hs) (by omega) hm;rw [x19 hsi.1] at hok;have hl1:=xms w.Plan (w.Sites.getD m.To.toNat Site.nil) m.To m;generalize siteHear w.Plan (w.Sites.getD m.To.toNat Site.nil) m.To m=y at *;obtain ⟨s',out⟩:=y;simp only at hok hl1;replace hH:Sem P 261 _ [] (.tup [(true,eS s'),(false,[fMs out])]):=hH;have hS:=xdt w.Plan _ (yx w.Sites m.To.toNat s') w.Clerk w.Clients (cut w.Net n) w.Log out (by omega) (by omega) (fun x hx=>by have:=kh hcl (hok.2.1 x hx); omega);refine fK [5002,9002,15009,16002] Go.Proofs.Tryz.f208 fun hb=>?_;conv=>whnf
     repeat' first|((first|refine zz ?_|(refine xa ?_ ?_<;>intro _)|refine ⟨_,xj _ _ _,?_⟩|refine wq ?_|refine ioN (by omega) (by omega) ?_|refine rwC hmk ?_|refine rwN (enc:=eS) Site.nil (by omega) ?_|refine ⟨_,hC,?_⟩|refine ⟨_,hH,?_⟩|refine ⟨_,hS,?_⟩)<;>conv=>whnf)
     all_goals first
      | (exfalso; clear hb hC hH hS hok hs hm; simp_all; done)
      | (refine ⟨?_,rfl⟩
         show TV.agg [eI w.Plan.Clients,fAs w.Plan.Acts,fI w.Plan.Gives,fI w.Plan.Start,.sl 60 ((w.Sites.map eS).set _ (eS s')),eB w.Clerk.Up,eI w.Clerk.Round,fI w.Clerk.Base,fDs w.Clerk.Done,fCs w.Clerk.Wants,fGs w.Clerk.Got,_,_,_]=_;rw [yx]
         done)
   · rw [xop h ht];have hmk:(w.Net.map eM)[n.toNat]?=some (eM (w.Net.getD n.toNat default)):=by rw [xzr,xzo,xzh (by omega)]; rfl
     generalize w.Net.getD n.toNat default=m at *;have hH:=xr1 w.Plan w.Clerk m hp hw.k hm;obtain ⟨y1,y2,y3,-,-⟩:=xbc hF hw.k hm;have hl1:=xki hF hw.k hm;have hl2:=xia w.Plan w.Clerk m;have hw4:=xaa hw.k hcl;generalize clerkHear w.Plan w.Clerk m=y at *;obtain ⟨c',out,l⟩:=y;simp only at y1 y2 y3 hl1 hl2;replace hH:Sem P 262 _ [] (.tup [(true,eK c'),(false,[fMs out]),(false,[fCs (l.map Prod.fst)]),(false,[fRs (l.map Prod.snd)])]):=hH;have lf:((l.map Prod.fst).map eC).length=l.length:=by simp
     have lr:((l.map Prod.snd).map eR).length=l.length:=by simp
     have lf2:(l.map Prod.fst).length=l.length:=by simp
     have lr2:(l.map Prod.snd).length=l.length:=by simp
     have lgl:(logs l).length=l.length:=by simp [logs]
     have hS:=xdt w.Plan _ (rfl:w.Sites.map eS=_) c' w.Clients (cut w.Net n) (write w.Log (logs l)) out (by omega) (by omega) (fun x hx=>by have:=kh hcl (y2 x hx).1; omega);refine fK [5002,9002,15009,16002] Go.Proofs.Tryz.f208 fun hb=>?_;conv=>whnf
     repeat' first|((first|refine zz ?_|(refine xa ?_ ?_<;>intro _)|refine ⟨_,xj _ _ _,?_⟩|refine wq ?_|refine ioN (by omega) (by omega) ?_|refine rwC hmk ?_|refine ⟨_,hC,?_⟩|refine ⟨_,hH,?_⟩)<;>conv=>whnf)
     all_goals first
      | (exfalso; clear hb hC hH hS hm y1 y2 y3; simp_all; done)
      | skip
     refine Vc.loop1 (fun (i:Nat)=>i<=l.length) (fun i=>updL [4,8,13,14,15,91,92,93] [(16,I i)] [(320141,.arr 230 ((write w.Log ((logs l).take i)).map eO) false)]) (fun i=>l.length - i) 0 (xz1 _) ?_ (fun i hi=>?_)
     · repeat' (first|exact True.intro|((conv=>whnf);first|exact True.intro|refine ⟨by rfl,?_⟩|refine ⟨by first|omega|(show (_:Int)=_;first|omega|(dsimp only;omega))|exact (by simp [write]),?_⟩|refine ⟨?_,?_⟩))
     · conv=>whnf
       (refine zA ?_)
       refine xd (fun g=>?_) (fun g=>?_)
       all_goals conv=>whnf
       · have hil:i<l.length:=by omega
         have hmem:=y3 _ (xx2 hil);have hW:=xga w.Plan _ (rfl:w.Sites.map eS=_) c' w.Clients (cut w.Net n) (write w.Log ((logs l).take i)) ((l.map Prod.fst).getD i Call.nil) ((l.map Prod.snd).getD i Rslt.nil) (by have:=kg hmem.1; simp only at this; omega) (by have:=(yg.1 hmem.2).2.2.1; simp only at this; omega);rw [<- xwp hil,xr2 (by omega)] at hW
         repeat' first|((first|refine zz ?_|(refine xa ?_ ?_<;>intro _)|refine ixN (enc:=eC) Call.nil (by omega) ?_|refine ixN (enc:=eR) Rslt.nil (by omega) ?_|refine ⟨_,hW,?_⟩|refine wq ?_)<;>conv=>whnf)
         refine ⟨i+1,by omega,by simp only; omega,?_⟩;exact wk
       · have e:(logs l).take i=logs l:=xzx (by omega);rw [e]
         repeat' first|((first|refine zz ?_|(refine xa ?_ ?_<;>intro _)|refine ⟨_,hS,?_⟩)<;>conv=>whnf)
         all_goals first
          | exact ⟨rfl,rfl⟩
theorem xoq {w:World} (hw:WorldF w):∀ x∈w.Clients,0<=x.Seq/\x.Seq<=300:=fun x hx=>by
 obtain ⟨i,hi,rfl⟩:=xh7 hx;have h:=qf.1 hw.c i hi;unfold clientB at h;rw [xzj,kq] at h;have h:=h.1;simp only [xzj] at h;exact xc.1 h.1.1.1
theorem xuw {w:World} {k a b:Int} {l:List Int} (h:¬ (1<=k/\k<=10)):step w ⟨k,a,b,l⟩=w:=by
 unfold step;simp only;rw [if_neg (by omega),if_neg (by omega),if_neg (by omega),if_neg (by omega),if_neg (by omega),if_neg (by omega),if_neg (by omega),if_neg (by omega),if_neg (by omega),if_neg (by omega)]
theorem xos (w:World) (e:Event) (hw:WorldF w) (ha:e.Args.length<=1000000):Sem P 114 [(.own,.agg (oWd w)),(.pure,.one (sPs (partsOf w.Plan.Acts))),(.pure,.one (sBs (pinsOf w.Plan.Acts))),(.pure,.agg (aE e))] [] (.agg (oWd (step w e))):=by
 have hp:=hw.p.ok;have hcl:=xi hp;have hcl4:=xc.1 hcl;have g3:=yk hp;have lm:(w.Net.map eM).length=w.Net.length:=xzi ..;have hnl:=hw.nl;have hcu:=fun n=>@xav w.Net n;obtain ⟨k,n,act,args⟩:=e;simp only at ha;show Sem P 114 [(.own,.agg (oWd w)),(.pure,.one (sPs (partsOf w.Plan.Acts))),(.pure,.one (sBs (pinsOf w.Plan.Acts))),(.pure,.agg [eI k,eI n,eI act,sI args])] [] (.agg (oWd (step w ⟨k,n,act,args⟩)));by_cases hk:1<=k/\k<=10
 · have hk:k=1\/k=2\/k=3\/k=4\/k=5\/k=6\/k=7\/k=8\/k=9\/k=10:=by omega
   rcases hk with rfl|rfl|rfl|rfl|rfl|rfl|rfl|rfl|rfl|rfl
   · have hC:=xok w n act args hcl (by have:=hw.cl; omega) hw.ll (xoq hw) ha;refine fK [4007,7008,9005,11003,14008,16006,18003,20003] Go.Proofs.Tryz.f114 fun hb=>?_;conv=>whnf
     repeat' first|((first|refine zz ?_|(refine xa ?_ ?_<;>intro _)|refine ⟨_,hC,?_⟩)<;>conv=>whnf)
     all_goals first
      | exact ⟨rfl,rfl⟩
      | (exfalso; clear hb hC; simp_all; done)
   · have hC:=xh9 w n false hw;refine fK [4007,7008,9005,11003,14008,16006,18003,20003] Go.Proofs.Tryz.f114 fun hb=>?_;conv=>whnf
     repeat' first|((first|refine zz ?_|(refine xa ?_ ?_<;>intro _)|refine ⟨_,hC,?_⟩)<;>conv=>whnf)
     all_goals first
      | exact ⟨rfl,rfl⟩
      | (exfalso; clear hb hC; simp_all; done)
   · have hC:=xh9 w n true hw;refine fK [4007,7008,9005,11003,14008,16006,18003,20003] Go.Proofs.Tryz.f114 fun hb=>?_;conv=>whnf
     repeat' first|((first|refine zz ?_|(refine xa ?_ ?_<;>intro _)|refine ⟨_,hC,?_⟩)<;>conv=>whnf)
     all_goals first
      | exact ⟨rfl,rfl⟩
      | (exfalso; clear hb hC; simp_all; done)
   · have hC:=xmt w n hw;refine fK [4007,7008,9005,11003,14008,16006,18003,20003] Go.Proofs.Tryz.f114 fun hb=>?_;conv=>whnf
     repeat' first|((first|refine zz ?_|(refine xa ?_ ?_<;>intro _)|refine ⟨_,hC,?_⟩)<;>conv=>whnf)
     all_goals first
      | exact ⟨rfl,rfl⟩
      | (exfalso; clear hb hC; simp_all; done)
   · have hC:=xmq w n (by omega);refine fK [4007,7008,9005,11003,14008,16006,18003,20003] Go.Proofs.Tryz.f114 fun hb=>?_;conv=>whnf
     repeat' first|((first|refine zz ?_|(refine xa ?_ ?_<;>intro _)|refine ⟨_,hC,?_⟩)<;>conv=>whnf)
     all_goals first
      | exact ⟨rfl,rfl⟩
      | (exfalso; clear hb hC; simp_all; done)
   · cases h:inB n 0 (w.Net.length - 1) with
     | false =>
       have e:step w ⟨6,n,act,args⟩=w:=by
        show (match (if 0<=n then w.Net[n.toNat]? else none) with
         | some m=>{ w with Net:=send w.Net [m] }
         | none=>w)=w
        have:(if 0<=n then w.Net[n.toNat]? else none)=none:=by
         split
         · refine x1z ?_;have:¬ (0<=n/\n<=w.Net.length - 1):=fun h'=>by rw [xc.2 h'] at h; cases h
           omega
         · rfl
        rw [this]
       rw [e];have hI:=xj n 0 (w.Net.length - 1);rw [h] at hI;refine fK [4007,7008,9005,11003,14008,16006,18003,20003] Go.Proofs.Tryz.f114 fun hb=>?_;conv=>whnf
       repeat' first|((first|refine zz ?_|(refine xa ?_ ?_<;>intro _)|refine ⟨_,xj _ _ _,?_⟩|refine wq ?_)<;>conv=>whnf)
       all_goals first
        | exact ⟨rfl,rfl⟩
        | (exfalso; simp_all; done)
     | true =>
       have hn:=xc.1 h;have e:step w ⟨6,n,act,args⟩={ w with Net:=send w.Net [w.Net.getD n.toNat default] }:=by
        show (match (if 0<=n then w.Net[n.toNat]? else none) with
         | some m=>{ w with Net:=send w.Net [m] }
         | none=>w)=_
        have:(if 0<=n then w.Net[n.toNat]? else none)=some (w.Net.getD n.toNat default):=by
         rw [if_pos hn.1,xzo,xzh (by omega)]; rfl
        rw [this]
       rw [e];have hm:msgB w.Plan (w.Net.getD n.toNat default)=true:=hw.n _ (xp (by omega));have hS:=Sem.give (xe9 w [w.Net.getD n.toNat default] (by simp) (by omega) (fun m h=>by rw [xzq.1 h]; have:=kh hcl hm; omega));refine yp (E:={ E0 with keep:=[14008],M:=(210,[.own,.own])::M0 }) xm xn (fn:=Go.Proofs.Tryz.f114) (by kernel_rfl) (by kernel_rfl) (fun hb=>?_);conv=>whnf
       repeat' first|((first|refine zz ?_|(refine xa ?_ ?_<;>intro _)|refine ⟨_,xj _ _ _,?_⟩|refine wq ?_|refine ioN (by omega) (by omega) ?_|refine rwN (enc:=eM) default (by omega) ?_|refine ⟨_,hS,?_⟩)<;>conv=>whnf)
       all_goals first
        | exact ⟨rfl,rfl⟩
        | (exfalso; clear hb hS hm; simp_all; done)
   · have hT:=xuf w.Plan w.Clerk hw.k.gl (by omega) (by have:=(xe.1 hw.k.b).1; omega) (by have:=(yl hcl hw.k.d).2; omega);have hto:=xiw hw.k;have hlt:(clerkTick w.Clerk).length<=1000:=by
      unfold clerkTick;have:=hw.k.gl
      split
      · split<;>simp [pacts,freezes]<;>omega
      · simp
     have hC:=xe9 w (clerkTick w.Clerk) hlt (by omega) (fun m hm=>by have:=kh hcl (hto m hm).1; omega);refine fK [4007,7008,9005,11003,14008,16006,18003,20003] Go.Proofs.Tryz.f114 fun hb=>?_;conv=>whnf
     repeat' first|((first|refine zz ?_|(refine xa ?_ ?_<;>intro _)|refine ⟨_,hT,?_⟩|refine ⟨_,hC,?_⟩)<;>conv=>whnf)
     all_goals first
      | exact ⟨rfl,rfl⟩
      | (exfalso; clear hb hC; simp_all; done)
   · have hC:=xj4 w n false;refine fK [4007,7008,9005,11003,14008,16006,18003,20003] Go.Proofs.Tryz.f114 fun hb=>?_;conv=>whnf
     repeat' first|((first|refine zz ?_|(refine xa ?_ ?_<;>intro _)|refine ⟨_,hC,?_⟩)<;>conv=>whnf)
     all_goals first
      | exact ⟨rfl,rfl⟩
      | (exfalso; clear hb hC; simp_all; done)
   · have hC:=xj4 w n true;refine fK [4007,7008,9005,11003,14008,16006,18003,20003] Go.Proofs.Tryz.f114 fun hb=>?_;conv=>whnf
     repeat' first|((first|refine zz ?_|(refine xa ?_ ?_<;>intro _)|refine ⟨_,hC,?_⟩)<;>conv=>whnf)
     all_goals first
      | exact ⟨rfl,rfl⟩
      | (exfalso; clear hb hC; simp_all; done)
   · have hz:=q9 hw.k hcl g3;have hC:=xrn w.Plan w.Clerk (decide (n>0)) (by omega) hw.k.gl (by omega);refine fK [4007,7008,9005,11003,14008,16006,18003,20003] Go.Proofs.Tryz.f114 fun hb=>?_;conv=>whnf
     repeat' first|((first|refine zz ?_|(refine xa ?_ ?_<;>intro _)|refine ⟨_,hC,?_⟩)<;>conv=>whnf)
     all_goals first
      | exact ⟨rfl,rfl⟩
      | (exfalso; clear hb hC; simp_all; done)
 · rw [xuw hk];refine fK [4007,7008,9005,11003,14008,16006,18003,20003] Go.Proofs.Tryz.f114 fun hb=>?_;conv=>whnf
   repeat' first|((first|refine zz ?_|(refine xa ?_ ?_<;>intro _))<;>conv=>whnf)
   all_goals first
    | exact ⟨rfl,rfl⟩
    | (exfalso; clear hb; simp only [x1d,xzk] at *; omega)
theorem xwr (w:World):∀ (k:Nat) (a b:AV),(oWd w)[k]?=some a->(eWd w)[k]?=some b->Cold a b:=fun k a b ha hb=>by
 match k,ha,hb with
 | 0,ha,hb=>cases ha; cases hb; exact xl
 | 1,ha,hb=>cases ha; cases hb; exact x1
 | 2,ha,hb=>cases ha; cases hb; exact x1
 | 3,ha,hb=>cases ha; cases hb; exact x1
 | 4,ha,hb=>cases ha; cases hb; exact xg
 | 5,ha,hb=>cases ha; cases hb; exact xl
 | 6,ha,hb=>cases ha; cases hb; exact xl
 | 7,ha,hb=>cases ha; cases hb; exact x1
 | 8,ha,hb=>cases ha; cases hb; exact x1
 | 9,ha,hb=>cases ha; cases hb; exact x1
 | 10,ha,hb=>cases ha; cases hb; exact x1
 | 11,ha,hb=>cases ha; cases hb; exact xg
 | 12,ha,hb=>cases ha; cases hb; exact xg
 | 13,ha,hb=>cases ha; cases hb; exact xg
 | k+14,ha,hb=>simp at ha
theorem xws (w:World):∀ (k:Nat) (a b:AV),(aWd w)[k]?=some a->(eWd w)[k]?=some b->Cold a b:=fun k a b ha hb=>by
 match k,ha,hb with
 | 0,ha,hb=>cases ha; cases hb; exact xl
 | 1,ha,hb=>cases ha; cases hb; exact xg
 | 2,ha,hb=>cases ha; cases hb; exact xg
 | 3,ha,hb=>cases ha; cases hb; exact xg
 | 4,ha,hb=>cases ha; cases hb; exact xg
 | 5,ha,hb=>cases ha; cases hb; exact xl
 | 6,ha,hb=>cases ha; cases hb; exact xl
 | 7,ha,hb=>cases ha; cases hb; exact xg
 | 8,ha,hb=>cases ha; cases hb; exact xg
 | 9,ha,hb=>cases ha; cases hb; exact xg
 | 10,ha,hb=>cases ha; cases hb; exact xg
 | 11,ha,hb=>cases ha; cases hb; exact xg
 | 12,ha,hb=>cases ha; cases hb; exact xg
 | 13,ha,hb=>cases ha; cases hb; exact xg
 | k+14,ha,hb=>simp at ha
theorem xux (w:World) (e:Event) (ha:e.Args.length<=1000000):Sem P 47 [(.pure,.agg (aWd w)),(.pure,.agg (aE e))] [] (.agg (eWd (wldStep w e))):=by
 cases h:wldOk w with
 | false =>
   have en:wldStep w e=World.nil:=by unfold wldStep; rw [h]; rfl
   rw [en];refine Sem.cold (cs:=aWd World.nil) rfl (xws _) ?_
   cases hp:planOk w.Plan with
   | false =>
     refine fO Go.Proofs.Tryz.f47 fun hb=>?_;conv=>whnf
     repeat' first|((first|refine zz ?_|(refine xa ?_ ?_<;>intro _)|refine ⟨_,zh w.Plan,?_⟩)<;>conv=>whnf)
     all_goals first
      | exact ⟨rfl,rfl⟩
      | (exfalso; simp_all; done)
   | true =>
     refine fO Go.Proofs.Tryz.f47 fun hb=>?_;conv=>whnf
     repeat' first|((first|refine zz ?_|(refine xa ?_ ?_<;>intro _)|refine ⟨_,zh w.Plan,?_⟩|refine ⟨_,w6 w.Plan.Acts (xao hp),?_⟩|refine ⟨_,xf7 w hp,?_⟩)<;>conv=>whnf)
     all_goals first
      | exact ⟨rfl,rfl⟩
      | (exfalso; simp_all; done)
 | true =>
   have hw:=worldF.1 h;have hp:=hw.p.ok;have en:wldStep w e=step w e:=by unfold wldStep; rw [h]; rfl
   rw [en];have hz:=xoj hw;have hpl:=xa6 hp;have hC:=xi0 w (by omega) (xpt (qv hp)) (by omega) (by omega);have hD:=xos w e hw ha;refine Sem.cold (cs:=oWd (step w e)) rfl (xwr _) ?_;refine fK [7001,7005] Go.Proofs.Tryz.f47 fun hb=>?_;conv=>whnf
   repeat' first|((first|refine zz ?_|(refine xa ?_ ?_<;>intro _)|refine ⟨_,zh w.Plan,?_⟩|refine ⟨_,w6 w.Plan.Acts (xao hp),?_⟩|refine ⟨_,xf7 w hp,?_⟩|refine ⟨_,hC,?_⟩|refine ⟨_,hD,?_⟩)<;>conv=>whnf)
   all_goals first
    | exact ⟨rfl,rfl⟩
    | (exfalso; clear hb hC hD; simp_all; done)
end Cc
end
