/- The laws FnMsgOk, FnSitFree: part 37 of 41. No conditions beyond the statement. -/
import Derived.Test.YtnigojkdmmeglaaGreatDoorAll36
set_option linter.unusedVariables false
set_option linter.unusedSimpArgs false
set_option maxRecDepth 100000
set_option maxHeartbeats 16000000
section
namespace Cc
open Go Go.AM
def seqS (l:List Done):Prop:=∀ d∈l,0<=d.Seq/\d.Seq<=1000
theorem xx3 {l:List Done} {n c:Int} {g:List Int} (h:seqS l) (hn:0<=n/\n<=1000):seqS (l++[⟨n,⟨c,g⟩⟩]):=fun d hd=>by
 rcases xzs.1 hd with h'|h'
 · exact h d h'
 · rw [xzq.1 h']; exact hn
theorem xx4 {l:List Done} {i:Nat} {n c:Int} {g:List Int} (h:seqS l) (hn:0<=n/\n<=1000):seqS (l.set i ⟨n,⟨c,g⟩⟩):=fun d hd=>by
 rcases x1l hd with h'|h'
 · exact h d h'
 · rw [h']; exact hn
theorem xyy {p:Plan} {l:List Done} (h:doneOk p l=true):seqS l:=fun d hd=>by
 unfold doneOk at h;simp only [xzj,xzl] at h;have:=h.2 d hd;unfold Done.ok at this
 split at this
 · omega
 · simp only [xzj,xc] at this; omega
theorem drSite2 {a m:Int} {bs:List UInt8} {cs:List AV} {os:List TV} {u f:Bool} {r:Int} {b d:List Int} {dn:List Done} {a':Int} (e2:os=[.agg (aRd bs a')]) (hb:a<=a'/\a'<=a+m) (h:Colds cs [eB u,eB f,eI r,fI b,fI d,fDs dn]) (hq:seqS dn) :
 ∃ (s:Site) (cs':List AV) (a':Int),(a<=a'/\a'<=a+m)/\seqS s.Done/\Colds cs' (eS s)/\TV.agg cs=.agg cs'/\os=[.agg (aRd bs a')]:=⟨⟨u,f,r,b,d,dn⟩,cs,a',hb,hq,h,rfl,e2⟩
theorem xkj (bs:List UInt8) (a:Int) (s:Site) (hz:zS s<=100000) (hr:0<=s.Round/\s.Round<=1000) (hq:seqS s.Done) (ha:0<=a/\a<=5000000000) (hbs:bs.length<=2000) :
 ∃ os res,(∃ (s':Site) (a':Int),(a<=a'/\a'<=a+30)/\seqS s'.Done/\res=.agg (eS s')/\os=aRd bs a')/\Sem P 172 [(.io 0 0,.agg (aRd bs a)),(.pure,.agg (aS s))] [.agg os] res:=by
 have key:∃ res outs,(∃ (s':Site) (cs':List AV) (a':Int),(a<=a'/\a'<=a+30)/\seqS s'.Done/\Colds cs' (eS s')/\res=.agg cs'/\outs=[.agg (aRd bs a')])/\Sem P 172 [(.io 0 0,.agg (aRd bs a)),(.pure,.agg (aS s))] outs res:=by
  have hzd:s.Done.length<=100000:=by unfold zS zDs at hz; omega
  have ld:(s.Done.map eD).length=s.Done.length:=xzi ..;have hcp:=jh s (by omega);refine xw (E:={ E0 with keep:=[2001] }) xm xn (fn:=Go.Proofs.Tryz.f172) (by kernel_rfl) (by kernel_rfl) ?_;conv=>whnf
  repeat' first|((first|refine zz ?_|(refine xa ?_ ?_<;>intro _)|refine ⟨_,hcp,?_⟩)<;>conv=>whnf)|(refine callIo (xf bs _ _ (by omega) (by omega) hbs) ?_; rintro _ _ ⟨n,hn,rfl,rfl⟩;conv=>whnf)|(refine ioN (by first|omega|(dsimp only; omega)|(simp<;>omega)|(simp_all<;>omega)) (by first|omega|(dsimp only; omega)|(simp<;>omega)|(simp_all<;>omega)) ?_;conv=>whnf)|(refine rwI rfl (by first|omega|(dsimp only; omega)|(simp<;>omega)|(simp_all<;>omega)) (by first|omega|(dsimp only; omega)|(simp<;>omega)|(simp_all<;>omega)) fun c hc=>?_;conv=>whnf)|(refine rwN (enc:=rI) 0 (by first|omega|(dsimp only; omega)|(simp<;>omega)|(simp_all<;>omega)) ?_;conv=>whnf)|(refine wq ?_;conv=>whnf)|(refine apN (by simp; omega) ?_;conv=>whnf)|(refine callIo (xj3 bs _ _ (by omega) (by omega) hbs) ?_; rintro _ _ ⟨l,b,hb,rfl,rfl⟩;conv=>whnf)|(refine callIo (xds bs _ _ (by omega) (by omega) hbs) ?_; rintro _ _ ⟨l,b,hb,rfl,rfl⟩;conv=>whnf)|(refine callIo (xls bs _ _ (by omega) (by omega) hbs) ?_; rintro _ _ ⟨r,d,hd,(rfl|rfl),rfl⟩<;>conv=>whnf)|(refine wq ?_;conv=>whnf)|(refine rwN (enc:=eD) Done.nil (by first|omega|(simp only [xzk] at *; omega)) ?_;conv=>whnf)
  all_goals first
   | (apply drSite2
      · rfl
      · constructor<;>omega
      · repeat' first|exact Colds.nil|refine Colds.cons (by first|exact xl|exact xun|exact xh8|exact xfb|exact xg|exact x1) ?_
      · first|exact hq|exact xx3 hq (by omega)|exact xx4 hq (by omega)
      done)
 obtain ⟨r,o,⟨s',cs',a',h1,h2,h3,rfl,rfl⟩,h4⟩:=key;exact ⟨_,_,⟨s',a',h1,h2,rfl,rfl⟩,Sem.colds h3 h4⟩
theorem drSt {a m:Int} {bs:List UInt8} {pc:Int} {pa:List (List Line)} {pg pst:List Int} {u f:Bool} {r:Int} {b d:List Int} {dn:List Done} {n:Int} {w0:World} {os:List TV} {a':Int} (e2:os=[.agg (aRd bs a')]) (hb:a<=a'/\a'<=a+m) (hw:WorldF w0) (hn:0<=n/\n<=10) (hq:seqS dn) :
 ∃ (p:Plan) (s:Site) (n':Int) (w:World) (a':Int),(a<=a'/\a'<=a+m)/\WorldF w/\((0<=n'/\n'<=10)/\seqS s.Done)/\TV.tup [(true,[eI pc,fAs pa,fI pg,fI pst]),(true,[eB u,eB f,eI r,fI b,fI d,fDs dn]),(false,[eI n]),(true,eWd w0)]=.tup [(true,ePl p),(true,eS s),(false,[eI n']),(true,eWd w)]/\os=[.agg (aRd bs a')]:=⟨⟨pc,pa,pg,pst⟩,⟨u,f,r,b,d,dn⟩,n,w0,a',hb,hw,⟨hn,hq⟩,rfl,e2⟩
theorem xj5 (bs:List UInt8) (a k:Int) (ha:0<=a/\a<=2000000000) (hk:1<=k/\k<=1000000) (hbs:bs.length<=2000) :
 ∃ os res,(∃ (p:Plan) (s:Site) (n:Int) (w:World) (a':Int),(a<=a'/\a'<=a+12000)/\WorldF w/\((0<=n/\n<=10)/\seqS s.Done)/\res=.tup [(true,ePl p),(true,eS s),(false,[eI n]),(true,eWd w)]/\os=aRd bs a')/\Sem P 77 [(.io 0 0,.agg (aRd bs a)),(.pure,I k)] [.agg os] res:=by
 have key:∃ res outs,(∃ (p:Plan) (s:Site) (n:Int) (w:World) (a':Int),(a<=a'/\a'<=a+12000)/\WorldF w/\((0<=n/\n<=10)/\seqS s.Done)/\res=.tup [(true,ePl p),(true,eS s),(false,[eI n]),(true,eWd w)]/\outs=[.agg (aRd bs a')])/\Sem P 77 [(.io 0 0,.agg (aRd bs a)),(.pure,I k)] outs res:=by
  refine xw (E:=E0) xm xn (fn:=Go.Proofs.Tryz.f77) (by kernel_rfl) (by kernel_rfl) ?_;conv=>whnf
  repeat' first|((first|refine zz ?_|(refine xa ?_ ?_<;>intro _))<;>conv=>whnf)
  refine callIo (xdu bs _ (by omega) hbs) ?_;rintro _ _ ⟨w,b0,hb0,hw,rfl,rfl⟩;conv=>whnf
  have hp:=hw.p.ok;have hcl:=xi hp;obtain ⟨⟨s1,s2⟩,⟨c1,c2⟩,⟨p1,p2⟩,hnn,hq⟩:=ql hw;have ls:(w.Sites.map eS).length=w.Sites.length:=xzi ..
  repeat' first|((first|refine zz ?_|(refine xa ?_ ?_<;>intro _))<;>conv=>whnf)|(refine callIo (xf bs _ _ (by omega) (by omega) hbs) ?_; rintro _ _ ⟨m,hm,rfl,rfl⟩;conv=>whnf)|(refine ixS hw (by omega) (by omega) fun s hs=>?_; have hsl:=ki hcl hs; have hsz:=kt hcl hs; have hsq:=xyy (siteE hs).2.2.2;conv=>whnf)|(refine callIo (xa7 bs _ _ (by omega) (by decide) hbs) ?_; rintro _ _ ⟨p,d',hd',hpp,rfl,rfl⟩;conv=>whnf)|(refine callIo (xkj bs _ s (by omega) (by omega) hsq (by omega) hbs) ?_; rintro _ _ ⟨s',d',hd',hsq',rfl,rfl⟩;conv=>whnf)|((first|refine wq ?_)<;>conv=>whnf)
  all_goals first
   | (apply drSt (w0:=w)
      · rfl
      · constructor<;>omega
      · exact hw
      · constructor<;>omega
      · first|exact hsq'|exact hsq
      done)
 obtain ⟨r,o,⟨p,s,n,w,a',h1,h2,h3,rfl,rfl⟩,h4⟩:=key;exact ⟨_,_,⟨p,s,n,w,a',h1,h2,h3,rfl,rfl⟩,h4⟩
theorem xr8 (bs:List UInt8):∃ res,(∃ (p:Plan) (m:Msg),planOk p=true/\res=.tup [(true,ePl p),(true,eM m)])/\Sem P 23 [(.pure,.one (sBy bs))] [] res:=by
 have key:∃ res outs,(outs=[]/\∃ (p:Plan) (m:Msg),planOk p=true/\res=.tup [(true,ePl p),(true,eM m)])/\Sem P 23 [(.pure,.one (sBy bs))] outs res:=by
  refine xw (E:=E0) xm xn (fn:=Go.Proofs.Tryz.f23) (by kernel_rfl) (by kernel_rfl) ?_;conv=>whnf
  repeat' first|((first|refine zz ?_|(refine xa ?_ ?_<;>intro _))<;>conv=>whnf)
  refine callS (xby bs) ?_;rintro _ ⟨cs,hcs,rfl⟩;conv=>whnf
  repeat' first|((first|refine zz ?_|(refine xa ?_ ?_<;>intro _))<;>conv=>whnf)
  refine callIo (xdu cs _ (by omega) hcs) ?_;rintro _ _ ⟨w,b0,hb0,hw,rfl,rfl⟩;conv=>whnf
  repeat' first|((first|refine zz ?_|(refine xa ?_ ?_<;>intro _))<;>conv=>whnf)
  refine callIo (xfc cs _ w hw (by omega) hcs) ?_;rintro _ _ ⟨x,b1,hb1,hx,rfl,rfl⟩;conv=>whnf
  repeat' first|((first|refine zz ?_|(refine xa ?_ ?_<;>intro _))<;>conv=>whnf)|(refine callIo (xf cs _ _ (by omega) (by omega) hcs) ?_; rintro _ _ ⟨m,hm,rfl,rfl⟩;conv=>whnf)|(refine callIo (va cs _ w x hw hx (by omega) hcs) ?_; rintro _ _ ⟨x',b2,hb2,rfl,rfl⟩;conv=>whnf)
  · exact ⟨rfl,w.Plan,x',hw.p.ok,rfl⟩
  · exact ⟨rfl,w.Plan,x,hw.p.ok,rfl⟩
 obtain ⟨r,o,⟨rfl,h⟩,h4⟩:=key;exact ⟨r,h,h4⟩
theorem xzd {x:Msg} {n:Int} (h:zM x<=10000):zM ⟨x.Kind,n,x.From,x.Round,x.Call,x.Vals,x.Seqs,x.Done⟩<=10000:=h
theorem xmv (bs:List UInt8):∃ res,(∃ (p:Plan) (s:Site) (n:Int) (m:Msg),res=.tup [(true,ePl p),(true,eS s),(false,[eI n]),(true,eM m)])/\Sem P 26 [(.pure,.one (sBy bs))] [] res:=by
 have key:∃ res outs,(outs=[]/\∃ (p:Plan) (s:Site) (n:Int) (m:Msg),res=.tup [(true,ePl p),(true,eS s),(false,[eI n]),(true,eM m)])/\Sem P 26 [(.pure,.one (sBy bs))] outs res:=by
  refine xw (E:=E0) xm xn (fn:=Go.Proofs.Tryz.f26) (by kernel_rfl) (by kernel_rfl) ?_;conv=>whnf
  repeat' first|((first|refine zz ?_|(refine xa ?_ ?_<;>intro _))<;>conv=>whnf)
  refine callS (xby bs) ?_;rintro _ ⟨cs,hcs,rfl⟩;conv=>whnf
  repeat' first|((first|refine zz ?_|(refine xa ?_ ?_<;>intro _))<;>conv=>whnf)
  refine callIo (xj5 cs _ _ (by omega) (by omega) hcs) ?_;rintro _ _ ⟨p,s,n,w,b0,hb0,hw,⟨hn,hq⟩,rfl,rfl⟩;conv=>whnf
  repeat' first|((first|refine zz ?_|(refine xa ?_ ?_<;>intro _))<;>conv=>whnf)
  refine callIo (xfc cs _ w hw (by omega) hcs) ?_;rintro _ _ ⟨x,b1,hb1,hx,rfl,rfl⟩;conv=>whnf
  repeat' first|((first|refine zz ?_|(refine xa ?_ ?_<;>intro _))<;>conv=>whnf)|(refine callIo (xf cs _ _ (by omega) (by omega) hcs) ?_; rintro _ _ ⟨m,hm,rfl,rfl⟩;conv=>whnf)|(refine callIo (va cs _ w x hw hx (by omega) hcs) ?_; rintro _ _ ⟨x',b2,hb2,rfl,rfl⟩;conv=>whnf)|(refine callIo (va cs _ w ⟨x.Kind,n,x.From,x.Round,x.Call,x.Vals,x.Seqs,x.Done⟩ hw (xzd hx) (by omega) hcs) ?_; rintro _ _ ⟨x',b2,hb2,rfl,rfl⟩;conv=>whnf)
  all_goals first
   | exact ⟨rfl,p,s,n,x',rfl⟩
   | exact ⟨rfl,p,s,n,x,rfl⟩
   | exact ⟨rfl,p,s,n,⟨x.Kind,n,x.From,x.Round,x.Call,x.Vals,x.Seqs,x.Done⟩,rfl⟩
 obtain ⟨r,o,⟨rfl,h⟩,h4⟩:=key;exact ⟨r,h,h4⟩
theorem xmw (bs:List UInt8):∃ res,(∃ (p:Plan) (c:Clerk),res=.tup [(true,ePl p),(true,eK c)])/\Sem P 28 [(.pure,.one (sBy bs))] [] res:=by
 have key:∃ res outs,(outs=[]/\∃ (p:Plan) (c:Clerk),res=.tup [(true,ePl p),(true,eK c)])/\Sem P 28 [(.pure,.one (sBy bs))] outs res:=by
  refine xw (E:={ E0 with keep:=[2001] }) xm xn (fn:=Go.Proofs.Tryz.f28) (by kernel_rfl) (by kernel_rfl) ?_;conv=>whnf
  repeat' first|((first|refine zz ?_|(refine xa ?_ ?_<;>intro _))<;>conv=>whnf)|(refine callS (xby bs) ?_; rintro _ ⟨cs,hcs,rfl⟩;conv=>whnf)|(refine callIo (xr7 cs _ _ (by omega) (by decide) hcs) ?_; rintro _ _ ⟨p,c,w,b,hb,hw,rfl,rfl⟩;conv=>whnf)
  exact ⟨rfl,p,c,rfl⟩
 obtain ⟨r,o,⟨rfl,h⟩,h4⟩:=key;exact ⟨r,h,h4⟩
end Cc
end
