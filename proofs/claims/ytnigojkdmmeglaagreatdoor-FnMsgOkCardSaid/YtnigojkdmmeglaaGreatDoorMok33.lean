/- The law FnMsgOk: part 33 of 38. No conditions beyond the statement. -/
import Derived.Test.YtnigojkdmmeglaaGreatDoorMok28
import Derived.Test.YtnigojkdmmeglaaGreatDoorMok30
set_option linter.unusedVariables false
set_option linter.unusedSimpArgs false
set_option maxRecDepth 100000
set_option maxHeartbeats 16000000
section
namespace Cc
open Go Go.AM
theorem drMsg {a m:Int} {bs:List UInt8} {cs:List AV} {os:List TV} {k t f r:Int} {c1 c2 c3:Int} {g v q:List Int} {dn:List Done} {a':Int} (e2:os=[.agg (aRd bs a')]) (hb:a<=a'/\a'<=a+m) (h:Colds cs [eI k,eI t,eI f,eI r,eI c1,eI c2,eI c3,fI g,fI v,fI q,fDs dn]) (hz:g.length+v.length+q.length+zDs dn<=10000) :
 ∃ (x:Msg) (cs':List AV) (a':Int),(a<=a'/\a'<=a+m)/\zM x<=10000/\Colds cs' (eM x)/\TV.agg cs=.agg cs'/\os=[.agg (aRd bs a')]:=⟨⟨k,t,f,r,⟨c1,c2,c3,g⟩,v,q,dn⟩,cs,a',hb,hz,h,rfl,e2⟩
theorem xcx {p:Plan} (h:planOk p=true):planS p:=by
 obtain ⟨h1,h2,h3,h4⟩:=xal h;unfold planS; omega
theorem xte:Cold (.sl 3 []) (fI []):=xg (rows:=[])
theorem xtf:Cold (.sl 79 []) (fDs []):=xg (rows:=[])
theorem xoh:zDs []=0:=rfl
theorem xtg {l:List Int} {n:Int}:Cold (.sl 3 (ints l++[rI n])) (fI (l++[n])):=by
 have e:=y6 l n;unfold fI;rw [<- e]; exact xg
theorem drMsg0 {a m:Int} {bs:List UInt8} {cs:List AV} {os:List TV} {k t f r:Int} {c1 c2 c3:Int} {g v q:List Int} {dn:List Done} {a':Int} (e2:os=[.agg (aRd bs a')]) (hb:a<=a'/\a'<=a+m) (h:Colds cs [eI k,eI t,eI f,eI r,eI c1,eI c2,eI c3,fI g,fI v,fI q,fDs dn]) :
 ∃ (x:Msg) (cs':List AV) (a':Int),(a<=a'/\a'<=a+m)/\Colds cs' (eM x)/\TV.agg cs=.agg cs'/\os=[.agg (aRd bs a')]:=⟨⟨k,t,f,r,⟨c1,c2,c3,g⟩,v,q,dn⟩,cs,a',hb,h,rfl,e2⟩
theorem ixS {w:World} (hw:WorldF w) {i:Int} {k:List AV->Prop} (h0:0<=i) (h:i<w.Sites.length) (hk:∀ s,siteB w.Plan s i=true->k (eS s)):0<=i/\∃ row,(w.Sites.map eS)[i.toNat]?=some row/\k row:=ixI Site.nil h0 h (hk _ (xfx hw h0 h))
theorem ixM {w:World} (hw:WorldF w) {i:Int} {k:List AV->Prop} (h0:0<=i) (h:i<w.Net.length) (hk:∀ m,msgB w.Plan m=true->k (eM m)):0<=i/\∃ row,(w.Net.map eM)[i.toNat]?=some row/\k row:=ixI default h0 h (hk _ (hw.n _ (xu (by omega))))
theorem kc {p:Plan} {s:Site} {n:Int} (hcl:inB p.Clients 0 4=true) (h:siteB p s n=true):(0<=s.Round/\s.Round<=200)/\s.Added.length=3/\s.Done.length<=4/\zDs s.Done<=100:=by
 obtain ⟨h1,h2,h3,h4⟩:=siteE h;have:=yf hcl h4;exact ⟨h1,(xx h3).1,this.1,this.2⟩
theorem xee (bs:List UInt8) (a:Int) (w:World) (hw:WorldF w) (ha:0<=a/\a<=4000000000) (hbs:bs.length<=2000) :
 ∃ os res,(∃ (x:Msg) (a':Int),(a<=a'/\a'<=a+50)/\zM x<=10000/\res=.agg (eM x)/\os=aRd bs a')/\Sem P 72 [(.io 0 0,.agg (aRd bs a)),(.pure,.agg (aWd w))] [.agg os] res:=by
 have key:∃ res outs,(∃ (x:Msg) (cs':List AV) (a':Int),(a<=a'/\a'<=a+50)/\zM x<=10000/\Colds cs' (eM x)/\res=.agg cs'/\outs=[.agg (aRd bs a')])/\Sem P 72 [(.io 0 0,.agg (aRd bs a)),(.pure,.agg (aWd w))] outs res:=by
  obtain ⟨⟨s1,s2⟩,⟨c1,c2⟩,⟨p1,p2⟩,hnn,hq⟩:=qe hw;have hcl:=xo hw.p.ok;have hps:=xcx hw.p.ok;have ls:(w.Sites.map eS).length=w.Sites.length:=xx3 ..;have lm:(w.Net.map eM).length=w.Net.length:=xx3 ..;have hkb:=(xf.1 hw.k.b).1;have hkd:=(yf hcl hw.k.d).2;have hkr:=hw.k.r;have hP:∀ i,Sem P 163 [(.pure,.agg (aK w.Clerk)),(.pure,I i)] [] (.agg [eI 4,eI i,eI 0,eI w.Clerk.Round,eI 0,eI 0,eI 0,sI [],sI w.Clerk.Base,sI [],sDs w.Clerk.Done]):=fun i=>xiv w.Clerk i (by omega) (by omega);have hG:∀ s n,siteB w.Plan s n=true->Sem P 118 [(.pure,.agg (aS s)),(.pure,I n)] [] (.agg [eI 3,eI (-1),eI n,eI s.Round,eI 0,eI 0,eI 0,sI [],sI s.Added,sI (s.Done.map Done.Seq),sDs []]):=fun s n hs=>by
   have:=kc hcl hs;exact xct s n (by omega) (by omega)
  refine xw (E:=E0) xm xn (fn:=Go.Proofs.Tryz.f72) (by kernel_rfl) (by kernel_rfl) ?_;conv=>whnf
  repeat' first|((first|refine zz ?_|(refine xa ?_ ?_<;>intro _))<;>conv=>whnf)|(refine callIo (xe bs _ _ (by omega) (by first|omega|(simp only [xx7] at *; omega)) hbs) ?_; rintro _ _ ⟨n,hn,rfl,rfl⟩;conv=>whnf)|(refine callIo (vz bs _ _ w.Plan hps (by omega) (by omega) hbs) ?_; rintro _ _ ⟨c,b,hb,hc,rfl,rfl⟩;conv=>whnf)|(refine ixS hw (by omega) (by omega) fun s hs=>?_; have hsl:=kc hcl hs;conv=>whnf)|(refine ixM hw (by omega) (by omega) fun s hs=>?_; have hsl:=ka hcl hs;conv=>whnf)|((first|refine ⟨_,hP _,?_⟩|refine ⟨_,hG s _ hs,?_⟩|refine wq ?_)<;>conv=>whnf)
  all_goals first
   | (apply drMsg
      · rfl
      · constructor<;>omega
      · repeat' first|exact Colds.nil|refine Colds.cons (by first|exact xl|exact xte|exact xtf|exact xz) ?_
      · first|(unfold cllS at hc; simp only [xyp,xoh]; omega)|(simp only [xyp,xx3,xoh]; omega)|(unfold zM zC at hsl; omega)
      done)
 obtain ⟨r,o,⟨x,cs',a',h1,h2,h3,rfl,rfl⟩,h4⟩:=key;exact ⟨_,_,⟨x,a',h1,h2,rfl,rfl⟩,Sem.colds h3 h4⟩
theorem jx (bs:List UInt8) (a:Int) (w:World) (x:Msg) (hw:WorldF w) (hz:zM x<=10000) (ha:0<=a/\a<=4000000000) (hbs:bs.length<=2000) :
 ∃ os res,(∃ (x':Msg) (a':Int),(a<=a'/\a'<=a+50)/\res=.agg (eM x')/\os=aRd bs a')/\Sem P 74 [(.io 0 0,.agg (aRd bs a)),(.pure,.agg (aWd w)),(.pure,.agg (aM x))] [.agg os] res:=by
 have key:∃ res outs,(∃ (x':Msg) (cs':List AV) (a':Int),(a<=a'/\a'<=a+50)/\Colds cs' (eM x')/\res=.agg cs'/\outs=[.agg (aRd bs a')])/\Sem P 74 [(.io 0 0,.agg (aRd bs a)),(.pure,.agg (aWd w)),(.pure,.agg (aM x))] outs res:=by
  have hps:=xcx hw.p.ok;have hcp:=xaw x (by omega);have hzl:x.Seqs.length<=10000/\x.Done.length<=10000:=by unfold zM zDs at hz; omega
  have lq:=xb x.Seqs;have ld:(x.Done.map eD).length=x.Done.length:=xx3 ..;refine xw (E:={ E0 with keep:=[2001] }) xm xn (fn:=Go.Proofs.Tryz.f74) (by kernel_rfl) (by kernel_rfl) ?_;conv=>whnf
  repeat' first|((first|refine zz ?_|(refine xa ?_ ?_<;>intro _)|refine ⟨_,hcp,?_⟩)<;>conv=>whnf)|(refine callIo (xe bs _ _ (by omega) (by omega) hbs) ?_; rintro _ _ ⟨n,hn,rfl,rfl⟩;conv=>whnf)|(refine callIo (vz bs _ _ w.Plan hps (by omega) (by omega) hbs) ?_; rintro _ _ ⟨c,b,hb,hc,rfl,rfl⟩;conv=>whnf)|(refine callIo (xcv bs _ _ (by omega) (by omega) hbs) ?_; rintro _ _ ⟨l,b,hb,rfl,rfl⟩;conv=>whnf)|(refine callIo (xkn bs _ _ (by omega) (by omega) hbs) ?_; rintro _ _ ⟨r,d,hd,(rfl|rfl),rfl⟩<;>conv=>whnf)|(refine callIo (xe bs _ _ (by omega) (by omega) hbs) ?_; rintro _ _ ⟨n,hn,rfl,rfl⟩;conv=>whnf)|(refine ioN (by first|omega|(dsimp only; omega)|(simp<;>omega)|(simp_all<;>omega)) (by first|omega|(dsimp only; omega)|(simp<;>omega)|(simp_all<;>omega)) ?_;conv=>whnf)|(refine rwI rfl (by first|omega|(dsimp only; omega)|(simp<;>omega)|(simp_all<;>omega)) (by first|omega|(dsimp only; omega)|(simp<;>omega)|(simp_all<;>omega)) fun c hc=>?_;conv=>whnf)|(refine rwN (enc:=rI) 0 (by first|omega|(dsimp only; omega)|(simp<;>omega)|(simp_all<;>omega)) ?_;conv=>whnf)|(refine wq ?_;conv=>whnf)|(refine apN (by simp; omega) ?_;conv=>whnf)
  all_goals first
   | (apply drMsg0
      · rfl
      · constructor<;>omega
      · repeat' first|exact Colds.nil|refine Colds.cons (by first|exact xl|exact xtg|exact xed|exact xg|exact xz) ?_
      done)
 obtain ⟨r,o,⟨x,cs',a',h1,h3,rfl,rfl⟩,h4⟩:=key;exact ⟨_,_,⟨x,a',h1,rfl,rfl⟩,Sem.colds h3 h4⟩
theorem xln:∀ l:List (List AV),Rowz l l
 | []=>.nil
 | r::l=>.cons rfl (fun k a b ha hb=>by rw [ha] at hb; cases hb; exact Imp.rfl) (xln l)
theorem xfy (l:List Got):Rowz (l.map aG) (l.map eG):=Rowz.map (e:=aG) (e':=eG) (fun _=>rfl) (fun x k a b ha hb=>by
 match k,ha,hb with
 | 0,ha,hb=>cases ha; cases hb; exact Imp.rfl
 | 1,ha,hb=>cases ha; cases hb; exact qh Imp.rfl
 | 2,ha,hb=>cases ha; cases hb; exact qh Imp.rfl
 | k+3,ha,hb=>simp at ha) l
theorem xqe {l:List Got}:Cold (.sl 105 (l.map aG++[[eB false,.fr [] 3 [],.fr [] 3 []]])) (fGs (l++[Got.nil])):=by
 have e:(l++[Got.nil]).map eG=l.map eG++[[eB false,.fr [] 3 [],.fr [] 3 []]]:=by simp [Got.nil]
 unfold fGs;rw [e];exact xba (Rowz.app (xfy l) (xln _))
theorem xth {l:List Got} {b:Bool} {x:List Int} {i n:Nat}:Cold (.sl 105 ((l.map aG).set i [eB b,fI x,.sl 3 (List.replicate n [AV.prim (Value.int .i64 0)])])) (fGs (l.set i ⟨b,x,List.replicate n 0⟩)):=by
 have e:(l.set i ⟨b,x,List.replicate n 0⟩).map eG=(l.map eG).set i [eB b,fI x,fI (List.replicate n 0)]:=x0i;have e2:List.replicate n [AV.prim (Value.int .i64 0)]=ints (List.replicate n 0):=by rw [ints,List.map_replicate]
 unfold fGs;rw [e,e2];refine xba (Rowz.set (r:=[eB b,fI x,sI (List.replicate n 0)]) (r':=[eB b,fI x,fI (List.replicate n 0)]) (xfy l) rfl (fun k a b ha hb=>?_) i)
 match k,ha,hb with
 | 0,ha,hb=>cases ha; cases hb; exact Imp.rfl
 | 1,ha,hb=>cases ha; cases hb; exact Imp.rfl
 | 2,ha,hb=>cases ha; cases hb; exact qh Imp.rfl
 | k+3,ha,hb=>simp at ha
theorem xti {l:List Call} {x:Call}:Cold (.sl 50 (l.map eC++[eC x])) (fCs (l++[x])):=by
 have e:=jj l x;unfold fCs;rw [<- e]; exact xg
theorem drClk {a m:Int} {bs:List UInt8} {cs:List AV} {os:List TV} {u:Bool} {r:Int} {b:List Int} {dn:List Done} {ws:List Call} {gs:List Got} {a':Int} (e2:os=[.agg (aRd bs a')]) (hb:a<=a'/\a'<=a+m) (h:Colds cs [eB u,eI r,fI b,fDs dn,fCs ws,fGs gs]) :
 ∃ (c:Clerk) (cs':List AV) (a':Int),(a<=a'/\a'<=a+m)/\Colds cs' (eK c)/\TV.agg cs=.agg cs'/\os=[.agg (aRd bs a')]:=⟨⟨u,r,b,dn,ws,gs⟩,cs,a',hb,h,rfl,e2⟩
theorem xjd (bs:List UInt8) (a:Int) (w:World) (c:Clerk) (hw:WorldF w) (hz:zK c<=10000) (ha:0<=a/\a<=4000000000) (hbs:bs.length<=2000) :
 ∃ os res,(∃ (c':Clerk) (a':Int),(a<=a'/\a'<=a+50)/\res=.agg (eK c')/\os=aRd bs a')/\Sem P 122 [(.io 0 0,.agg (aRd bs a)),(.pure,.agg (aWd w)),(.pure,.agg (aK c))] [.agg os] res:=by
 have key:∃ res outs,(∃ (c':Clerk) (cs':List AV) (a':Int),(a<=a'/\a'<=a+50)/\Colds cs' (eK c')/\res=.agg cs'/\outs=[.agg (aRd bs a')])/\Sem P 122 [(.io 0 0,.agg (aRd bs a)),(.pure,.agg (aWd w)),(.pure,.agg (aK c))] outs res:=by
  have hps:=xcx hw.p.ok;have hcl:=hw.p.cl;have hcp:=zf c (by omega);have hzl:c.Done.length<=10000/\c.Wants.length<=10000/\c.Got.length<=10000:=by unfold zK zDs zCs zGs at hz; omega
  have ld:(c.Done.map eD).length=c.Done.length:=xx3 ..;have lw:(c.Wants.map eC).length=c.Wants.length:=xx3 ..;have lg:(c.Got.map aG).length=c.Got.length:=xx3 ..;refine xw (E:={ E0 with keep:=[2001] }) xm xn (fn:=Go.Proofs.Tryz.f122) (by kernel_rfl) (by kernel_rfl) ?_;conv=>whnf
  repeat' first|((first|refine zz ?_|(refine xa ?_ ?_<;>intro _)|refine ⟨_,hcp,?_⟩)<;>conv=>whnf)|(refine callIo (xe bs _ _ (by omega) (by omega) hbs) ?_; rintro _ _ ⟨n,hn,rfl,rfl⟩;conv=>whnf)|(refine callIo (vz bs _ _ w.Plan hps (by omega) (by omega) hbs) ?_; rintro _ _ ⟨x,b,hb,hc,rfl,rfl⟩;conv=>whnf)|(refine callIo (xcv bs _ _ (by omega) (by omega) hbs) ?_; rintro _ _ ⟨l,b,hb,rfl,rfl⟩;conv=>whnf)|(refine callIo (xiy bs _ _ (by omega) (by omega) hbs) ?_; rintro _ _ ⟨l,b,hb,rfl,rfl⟩;conv=>whnf)|(refine callIo (xe bs _ _ (by omega) (by omega) hbs) ?_; rintro _ _ ⟨n,hn,rfl,rfl⟩;conv=>whnf)|(refine ioN (by first|omega|(dsimp only; omega)|(simp<;>omega)|(simp_all<;>omega)) (by first|omega|(dsimp only; omega)|(simp<;>omega)|(simp_all<;>omega)) ?_;conv=>whnf)|(refine rwI rfl (by first|omega|(dsimp only; omega)|(simp<;>omega)|(simp_all<;>omega)) (by first|omega|(dsimp only; omega)|(simp<;>omega)|(simp_all<;>omega)) fun c hc=>?_;conv=>whnf)|(refine rwN (enc:=rI) 0 (by first|omega|(dsimp only; omega)|(simp<;>omega)|(simp_all<;>omega)) ?_;conv=>whnf)|(refine wq ?_;conv=>whnf)|(refine apN (by simp; omega) ?_;conv=>whnf)|(refine rwN (enc:=aG) Got.nil (by first|omega|(simp only [xx7] at *; omega)) ?_;conv=>whnf)
  all_goals first
   | (apply drClk
      · rfl
      · constructor<;>omega
      · repeat' first|exact Colds.nil|refine Colds.cons (by first|exact xl|exact xti|exact xqe|exact xth|exact xem _|exact xg6|exact xg|exact xz) ?_
      done)
 obtain ⟨r,o,⟨x,cs',a',h1,h3,rfl,rfl⟩,h4⟩:=key;exact ⟨_,_,⟨x,a',h1,rfl,rfl⟩,Sem.colds h3 h4⟩
theorem xtq (p:Plan) (s:Site) (n:Int) (m:Msg) (hp:planOk p=true) (hn:0<=n) (hs:siteB p s n=true) (hm:msgB p m=true) :
 ∃ rows,Rowz rows ((siteHear p s n m).2.map eM)/\Sem P 80 [(.io 0 0,.agg (aS s)),(.pure,.agg (aPl p)),(.pure,I n),(.pure,.agg (aM m))] [.agg (aS (siteHear p s n m).1)] (.one (.sl 55 rows)):=by
 have hcl:=xo hp;obtain ⟨hr,hb',ha,hd⟩:=siteE hs;have g1:=(planF hp).g1;have lg:=xb p.Gives;have hdl:=(yf hcl hd).1;have ha3:=(xx ha).1;have lds:(s.Done.map eD).length=s.Done.length:=xx3 ..;by_cases h1:(!s.Up || decide (m.To≠n))=true
 · have e:siteHear p s n m=(s,[]):=by unfold siteHear; rw [if_pos h1]
   rw [e];refine ⟨[],.nil,?_⟩;refine fO Go.Proofs.Tryz.f80 fun hb=>?_;conv=>whnf
   repeat' first|((first|refine zz ?_|(refine xa ?_ ?_<;>intro _))<;>conv=>whnf)
   all_goals first
    | exact ⟨rfl,rfl⟩
    | (exfalso; clear hb hs hm hd; simp_all; done)
 · by_cases h2:m.Kind=2/\m.Round=s.Round
   · have e:siteHear p s n m=({ s with Frozen:=true },[giveMsg { s with Frozen:=true } n]):=by unfold siteHear; rw [if_neg h1,if_pos h2]; rfl
     rw [e];refine ⟨[[eI 3,eI (-1),eI n,eI s.Round,eI 0,eI 0,eI 0,.fr [] 3 [],sI s.Added,sI (s.Done.map Done.Seq),.fr [] 79 []]],.cons rfl (fun k a b ha hb=>?_) .nil,?_⟩
     · match k,ha,hb with
       | 0,ha,hb=>cases ha; cases hb; exact Imp.rfl
       | 1,ha,hb=>cases ha; cases hb; exact Imp.rfl
       | 2,ha,hb=>cases ha; cases hb; exact Imp.rfl
       | 3,ha,hb=>cases ha; cases hb; exact Imp.rfl
       | 4,ha,hb=>cases ha; cases hb; exact Imp.rfl
       | 5,ha,hb=>cases ha; cases hb; exact Imp.rfl
       | 6,ha,hb=>cases ha; cases hb; exact Imp.rfl
       | 7,ha,hb=>cases ha; cases hb; exact Imp.rfl
       | 8,ha,hb=>cases ha; cases hb; exact qh Imp.rfl
       | 9,ha,hb=>cases ha; cases hb; exact qh Imp.rfl
       | 10,ha,hb=>cases ha; cases hb; exact Imp.rfl
       | k+11,ha,hb=>simp at ha
     · refine fK [5009,5014] Go.Proofs.Tryz.f80 fun hb=>?_;conv=>whnf
       repeat' first|((first|refine zz ?_|(refine xa ?_ ?_<;>intro _)|refine ⟨_,y9 s.Added (by omega),?_⟩|refine ⟨_,xtp s.Done (by omega),?_⟩|refine akP (yi _) ?_)<;>conv=>whnf)
       all_goals first
        | exact ⟨rfl,rfl⟩
        | (exfalso; clear hb hs hm hd e; simp_all; done)
   · by_cases h3:m.Kind=4/\s.Round<m.Round
     · have e:siteHear p s n m=({ s with Round:=m.Round,Frozen:=false,Base:=m.Vals,Added:=[0,0,0],Done:=learn p n s.Done m.Done },[]):=by unfold siteHear; rw [if_neg h1,if_neg h2,if_pos h3]
       rw [e,<- xoi];have hmd:doneOk p m.Done=true/\valOk m.Vals=true:=by
        unfold msgB at hm;rw [if_neg (by omega),if_neg (by omega),if_neg (by omega),if_pos h3.1] at hm;simp only [xx4] at hm;exact ⟨hm.2.1.1.2,hm.2.1.1.1.2⟩
       have hmv:=(xf.1 hmd.2).1;have lmv:=xb m.Vals;have lmd:(m.Done.map eD).length=m.Done.length:=xx3 ..;have hc1:(s.Done.length:Int)=p.Clients:=by unfold doneOk at hd; simp only [xx4,xx7] at hd; exact hd.1
       have hc2:(m.Done.length:Int)=p.Clients:=by have:=hmd.1; unfold doneOk at this; simp only [xx4,xx7] at this; exact this.1
       have hmt:∀ i,i<m.Done.length->(m.Done.getD i Done.nil).Res.Tells.length<=6:=fun i hi=>by
        have:=hmd.1; unfold doneOk at this; simp only [xx4,xx6] at this;exact jv (this.2 _ (xu hi))
       refine ⟨[],.nil,?_⟩;refine fK [7008] Go.Proofs.Tryz.f80 fun hb=>?_;conv=>whnf
       repeat' first|((first|refine zz ?_|(refine xa ?_ ?_<;>intro _)|refine ⟨_,y9 m.Vals (by omega),?_⟩)<;>conv=>whnf)
       all_goals first
        | (exfalso; clear hb hs hm hd e hmt hmd; simp_all; done)
        | (exfalso; clear hb hs hm hd e hmt hmd; simp_all; omega)
        | skip
       refine Vc.loop1 (fun (i:Nat)=>i<=s.Done.length) (fun i=>updL [0,2,5,8,88,89] [(90,I i)] [(5,.arr 79 ((lrn p n s.Done m.Done i).map eD) false)]) (fun i=>s.Done.length - i) 0 (xym _) ?_ (fun i hi=>?_)
       · exact wk
       · have ll:=va p n s.Done m.Done i;have llm:((lrn p n s.Done m.Done i).map eD).length=s.Done.length:=by rw [xx3,ll]
         have hx:(lrn p n s.Done m.Done i).getD i Done.nil=s.Done.getD i Done.nil:=by rw [xen p n _ _ i hi,if_neg (by omega)]
         have hu:lrn p n s.Done m.Done (i+1)=if (s.Done.getD i Done.nil).Seq<(m.Done.getD i Done.nil).Seq/\(i:Int) % p.Gives.length=n then (lrn p n s.Done m.Done i).set i (m.Done.getD i Done.nil) else lrn p n s.Done m.Done i:=rfl
         conv=>whnf
         (refine zA ?_)
         refine xd (fun g=>?_) (fun g=>?_)
         all_goals conv=>whnf
         · have him:i<m.Done.length:=by omega
           have h6:=hmt i him;by_cases hc:(s.Done.getD i Done.nil).Seq<(m.Done.getD i Done.nil).Seq/\(i:Int) % p.Gives.length=n
           · rw [if_pos hc] at hu
             repeat' first|((first|refine zz ?_|(refine xa ?_ ?_<;>intro _)|refine ixN (enc:=eD) Done.nil him ?_|refine ioN (by omega) (by omega) ?_)<;>conv=>whnf)|(refine rwN (enc:=eD) Done.nil (by simp only [xy3]; omega) ?_;conv=>whnf)|((first|refine r64 (by omega) (by omega) ?_|refine wq ?_|refine ⟨_,vb (m.Done.getD i Done.nil).Res (by omega),?_⟩)<;>conv=>whnf)
             all_goals first
              | (exfalso; clear hb hs hm hd e hmt hmd hu; simp only [xy3,hx,lg,xx7,xyh,xz0,xzk,ne_eq,x0x] at *; omega)
              | (refine ⟨i+1,by omega,by simp only; omega,?_⟩
                 repeat' (first|exact True.intro|((conv=>whnf);first|exact True.intro|refine ⟨by rfl,?_⟩|refine ⟨by first|omega|(show (_:Int)=_;first|omega|(dsimp only;omega))|exact (by rw [hu,<- xay]; rfl),?_⟩|refine ⟨?_,?_⟩)))
           · rw [if_neg hc] at hu
             repeat' first|((first|refine zz ?_|(refine xa ?_ ?_<;>intro _)|refine ixN (enc:=eD) Done.nil him ?_|refine ioN (by omega) (by omega) ?_)<;>conv=>whnf)|(refine rwN (enc:=eD) Done.nil (by simp only [xy3]; omega) ?_;conv=>whnf)|((first|refine r64 (by omega) (by omega) ?_|refine wq ?_|refine ⟨_,vb (m.Done.getD i Done.nil).Res (by omega),?_⟩)<;>conv=>whnf)
             all_goals first
              | (exfalso; clear hb hs hm hd e hmt hmd hu; simp only [xy3,hx,lg,xx7,xyh,xz0,xzk,ne_eq,x0x] at *; omega)
              | (refine ⟨i+1,by omega,by simp only; omega,?_⟩
                 repeat' (first|exact True.intro|((conv=>whnf);first|exact True.intro|refine ⟨by rfl,?_⟩|refine ⟨by first|omega|(show (_:Int)=_;first|omega|(dsimp only;omega))|exact congrArg (List.map eD) hu.symm,?_⟩|refine ⟨?_,?_⟩)))
         · have ei:i=s.Done.length:=by omega
           subst ei
           (refine zA ?_)
           exact ⟨rfl,rfl⟩
     · have e:siteHear p s n m=(s,[]):=by unfold siteHear; rw [if_neg h1,if_neg h2,if_neg h3]
       rw [e];refine ⟨[],.nil,?_⟩;refine fO Go.Proofs.Tryz.f80 fun hb=>?_;conv=>whnf
       repeat' first|((first|refine zz ?_|(refine xa ?_ ?_<;>intro _))<;>conv=>whnf)
       all_goals first
        | exact ⟨rfl,rfl⟩
        | (exfalso; exact h3 ⟨by simpa using ‹(m.Kind == 4)=true›,by simpa using ‹decide (m.Round>s.Round)=true›⟩)
        | (exfalso; clear hb hs hm hd e; simp_all; done)
theorem coldHearR {f:Nat} {ins:List (Go.AM.Mode × TV)} {b:Site × List Msg} {rows:List (List AV)} (hr:Rowz rows (b.2.map eM)) (h:Sem P f ins [] (.tup [(true,aS b.1),(false,[.sl 55 rows])])):Sem P f ins [] (tHc b):=by
 refine Sem.coldT (vs:=[(true,aS b.1),(false,[.sl 55 rows])]) rfl (fun k a cs c cs' h1 h2=>?_) h
 match k,h1,h2 with
 | 0,h1,h2=>cases h1; cases h2; exact ⟨rfl,wc _⟩
 | 1,h1,h2 =>
   cases h1; cases h2;refine ⟨rfl,rfl,fun j x y h1 h2=>?_⟩
   match j,h1,h2 with
   | 0,h1,h2=>cases h1; cases h2; exact xba hr
   | j+1,h1,h2=>simp at h1
 | k+2,h1,h2=>simp at h1
theorem xlu (p:Plan) (s:Site) (n:Int) (m:Msg):Sem P 27 [(.pure,.agg (aPl p)),(.pure,.agg (aS s)),(.pure,I n),(.pure,.agg (aM m))] [] (tHc (sitHear p s n m)):=by
 have h1:=xqt p s n;have h2:=vm p m;unfold sitHear
 cases hs:siteOk p s n with
 | false =>
   rw [hs] at h1;refine coldHear ?_;refine fO Go.Proofs.Tryz.f27 fun hb=>?_;conv=>whnf
   repeat' first|((first|refine zz ?_|(refine xa ?_ ?_<;>intro _)|refine ⟨_,h1,?_⟩)<;>conv=>whnf)
   exact ⟨rfl,rfl⟩
 | true =>
   rw [hs] at h1
   cases hm:msgOk p m with
   | false =>
     rw [hm] at h2;refine coldHear ?_;refine fO Go.Proofs.Tryz.f27 fun hb=>?_;conv=>whnf
     repeat' first|((first|refine zz ?_|(refine xa ?_ ?_<;>intro _)|refine ⟨_,h1,?_⟩|refine ⟨_,h2,?_⟩)<;>conv=>whnf)
     exact ⟨rfl,rfl⟩
   | true =>
     rw [hm] at h2;unfold siteOk at hs;unfold msgOk at hm;simp only [xx4] at hs hm;obtain ⟨⟨hp,hi⟩,hs⟩:=hs;have hn:0<=n:=by simp only [isSite,xc] at hi; exact hi.1
     have hz:=jw (xo hp) hs;obtain ⟨rows,hr,hH⟩:=xtq p s n m hp hn hs hm.2;refine coldHearR (rows:=rows) hr ?_;refine fK [4001,5003] Go.Proofs.Tryz.f27 fun hb=>?_;conv=>whnf
     repeat' first|((first|refine zz ?_|(refine xa ?_ ?_<;>intro _)|refine ⟨_,h1,?_⟩|refine ⟨_,h2,?_⟩|refine ⟨_,xhb s (by omega),?_⟩|refine ⟨_,_,hH,?_⟩)<;>conv=>whnf)
     exact ⟨rfl,rfl⟩
end Cc
end
