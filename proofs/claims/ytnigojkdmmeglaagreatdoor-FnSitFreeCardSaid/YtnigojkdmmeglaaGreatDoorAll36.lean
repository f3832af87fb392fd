/- The laws FnMsgOk, FnSitFree: part 36 of 41. No conditions beyond the statement. -/
import Derived.Test.YtnigojkdmmeglaaGreatDoorAll35
set_option linter.unusedVariables false
set_option linter.unusedSimpArgs false
set_option maxRecDepth 100000
set_option maxHeartbeats 16000000
section
namespace Cc
open Go Go.AM
theorem xuy {p:Plan} {c:Clerk} (hc:ClerkF p c) (hcl:inB p.Clients 0 4=true):∀ g∈c.Got,zG g<=10:=fun g hg=>by
 obtain ⟨i,hi,rfl⟩:=xh7 hg
 cases hh:(c.Got.getD i default).Has with
 | true =>
   obtain ⟨k1,k2⟩:=xcv hc hi hh;have k3:=(xu k1).1;have k4:=xfa hcl k2;unfold zG; omega
 | false =>
   have:=qf.1 hc.g i hi;unfold gotB Got.none at this;rw [hh] at this;simp only [x2j,x1h,Bool.false_and,x26,xzj,x1p] at this;unfold zG; rw [this.1,this.2]; simp
def GotR (rows:List (List AV)) (n:Nat):Prop:=rows.length=n/\(∀ j,j<n->∃ x y z,rows[j]?=some [x,y,z])/\∃ gs:List Got,Rowz rows (gs.map eG)/\gs.length=n/\∀ g∈gs,zG g<=10
theorem GotR.init {p:Plan} {c:Clerk} (hc:ClerkF p c) (hcl:inB p.Clients 0 4=true):GotR (c.Got.map aG) c.Got.length:=by
 refine ⟨xzi ..,fun j hj=>⟨eB c.Got[j].Has,sI c.Got[j].Added,sI c.Got[j].Seqs,?_⟩,c.Got,xgx _,rfl,xuy hc hcl⟩;rw [xzr,xzh hj]; rfl
theorem GotR.set {rows:List (List AV)} {n i:Nat} {x y:List Int} (h:GotR rows n) (hx:x.length<=5) (hy:y.length<=5):GotR (rows.set i [eB true,fI x,fI y]) n:=by
 obtain ⟨h1,h2,gs,h3,h4,h5⟩:=h;refine ⟨by rw [x03]; exact h1,fun j hj=>?_,gs.set i ⟨true,x,y⟩,?_,by rw [x03]; exact h4,fun g hg=>?_⟩
 · rw [List.getElem?_set];by_cases e:i=j
   · subst e; rw [if_pos rfl,if_pos (by omega)]; exact ⟨_,_,_,rfl⟩
   · rw [if_neg e]; exact h2 j hj
 · have e:(gs.set i ⟨true,x,y⟩).map eG=(gs.map eG).set i [eB true,fI x,fI y]:=x1y;rw [e];exact Rowz.set (r:=[eB true,fI x,fI y]) (r':=[eB true,fI x,fI y]) h3 rfl (fun k a b ha hb=>by rw [ha] at hb; cases hb; exact Imp.rfl) i
 · rcases x1l hg with h|rfl
   · exact h5 g h
   · show x.length+y.length<=10; omega
theorem rwG {rows:List (List AV)} {n i:Nat} {k:List AV->Prop} (h:GotR rows n) (hi:i<n) (hk:∀ x y z,k [x,y,z]):∃ row,rows[i]?=some row/\k row:=by
 obtain ⟨x,y,z,e⟩:=h.2.1 i hi;exact ⟨_,e,hk x y z⟩
theorem ixDn {p:Plan} {l:List Done} (h:doneOk p l=true) {i:Int} {k:List AV->Prop} (h0:0<=i) (h1:i<l.length) (hk:∀ d:Done,(0<=d.Seq/\d.Seq<=300)->k (eD d)):0<=i/\∃ row,(l.map eD)[i.toNat]?=some row/\k row:=by
 refine ixI Done.nil h0 h1 (hk _ ?_);unfold doneOk at h;simp only [xzj,xzl] at h;have:=h.2 _ (jp (l:=l) (i:=i.toNat) (d:=Done.nil) (by omega));rw [kq] at this;simp only [xzj] at this;exact xc.1 this.1.1.1
theorem xib (c:Call):∀ l:List Call,(wantIn l c).length<=l.length+1
 | []=>by simp [wantIn]
 | x::r=>by
   have:=xib c r;rw [xjs]
   split
   · simp
   · split
     · split<;>simp
     · simp only [xz6]; omega
theorem xmu {l:List Call} {c:Call} (h1:l.length<=4) (h2:∀ x∈l,x.Args.length<=10) (h3:c.Args.length<=10):(wantIn l c).length<=10/\∀ x∈wantIn l c,x.Args.length<=10:=by
 refine ⟨by have:=xib c l; omega,fun x hx=>?_⟩;rcases xdm hx with rfl|hx
 · exact h3
 · exact h2 x hx
theorem xcw (bs:List UInt8) (a:Int) (w:World) (u:Bool) (r:Int) (b:List Int) (dn:List Done) (ws:List Call) (rows:List (List AV)) (n:Nat) (hw:WorldF w) (hb:b.length<=10) (hd:zDs dn<=100) (hws:ws.length<=10/\∀ x∈ws,x.Args.length<=10) (hR:GotR rows n) (hn:n<=10) (ha:0<=a/\a<=4000000000) (hbs:bs.length<=2000) :
 ∃ os res,(∃ (c':Clerk) (a':Int),(a<=a'/\a'<=a+50)/\res=.agg (eK c')/\os=aRd bs a')/\Sem P 122 [(.io 0 0,.agg (aRd bs a)),(.pure,.agg (aWd w)),(.pure,.agg [eB u,eI r,sI b,sDs dn,sCs ws,.sl 105 rows])] [.agg os] res:=by
 obtain ⟨h1,h2,gs,h3,h4,h5⟩:=hR;have z1:zs zC ws<=ws.length*10:=ji fun x hx=>by unfold zC; exact hws.2 x hx
 have z2:zs zG gs<=gs.length*10:=ji h5;have z3:ws.length*10<=10*10:=x0b _ hws.1;have z4:gs.length*10<=10*10:=x0b _ (by omega);obtain ⟨os,res,h,hS⟩:=xkh bs a w ⟨u,r,b,dn,ws,gs⟩ hw (by unfold zK zCs zGs; simp only; omega) ha hbs;refine ⟨os,res,h,Sem.warm (j:=[(.io 0 0,.agg (aRd bs a)),(.pure,.agg (aWd w)),(.pure,.agg (aK ⟨u,r,b,dn,ws,gs⟩))]) (.same (.same (.agg rfl (fun k a b ha hb=>?_) .nil))) hS⟩
 match k,ha,hb with
 | 0,ha,hb=>cases ha; cases hb; exact Imp.rfl
 | 1,ha,hb=>cases ha; cases hb; exact Imp.rfl
 | 2,ha,hb=>cases ha; cases hb; exact Imp.rfl
 | 3,ha,hb=>cases ha; cases hb; exact Imp.rfl
 | 4,ha,hb=>cases ha; cases hb; exact Imp.rfl
 | 5,ha,hb=>cases ha; cases hb; exact xgr h3
 | k+6,ha,hb=>simp at ha
theorem drCk {a m:Int} {bs:List UInt8} {pc:Int} {pa:List (List Line)} {pg pst:List Int} {u:Bool} {r:Int} {b:List Int} {dn:List Done} {ws:List Call} {gs:List Got} {cs:List AV} {w0:World} {os:List TV} {a':Int} (e2:os=[.agg (aRd bs a')]) (hb:a<=a'/\a'<=a+m) (hw:WorldF w0) (h:Colds cs [eB u,eI r,fI b,fDs dn,fCs ws,fGs gs]) :
 ∃ (p:Plan) (c:Clerk) (cs':List AV) (w:World) (a':Int),(a<=a'/\a'<=a+m)/\WorldF w/\Colds cs' (eK c)/\TV.tup [(true,[eI pc,fAs pa,fI pg,fI pst]),(true,cs),(true,eWd w0)]=.tup [(true,ePl p),(true,cs'),(true,eWd w)]/\os=[.agg (aRd bs a')]:=⟨⟨pc,pa,pg,pst⟩,⟨u,r,b,dn,ws,gs⟩,cs,w0,a',hb,hw,h,rfl,e2⟩
theorem xr7 (bs:List UInt8) (a k:Int) (ha:0<=a/\a<=2000000000) (hk:1<=k/\k<=1000000) (hbs:bs.length<=2000) :
 ∃ os res,(∃ (p:Plan) (c:Clerk) (w:World) (a':Int),(a<=a'/\a'<=a+12000)/\WorldF w/\res=.tup [(true,ePl p),(true,eK c),(true,eWd w)]/\os=aRd bs a')/\Sem P 49 [(.io 0 0,.agg (aRd bs a)),(.pure,I k)] [.agg os] res:=by
 have key:∃ res outs,(∃ (p:Plan) (c:Clerk) (cs':List AV) (w:World) (a':Int),(a<=a'/\a'<=a+12000)/\WorldF w/\Colds cs' (eK c)/\res=.tup [(true,ePl p),(true,cs'),(true,eWd w)]/\outs=[.agg (aRd bs a')])/\Sem P 49 [(.io 0 0,.agg (aRd bs a)),(.pure,I k)] outs res:=by
  refine xw (E:={ E0 with keep:=[3002],fz:=[(14,[192132]),(19,[192130,192131,192132,192133])] }) xm xn (fn:=Go.Proofs.Tryz.f49) (by kernel_rfl) (by kernel_rfl) ?_;conv=>whnf
  repeat' first|((first|refine zz ?_|(refine xa ?_ ?_<;>intro _))<;>conv=>whnf)
  refine callIo (xdu bs _ (by omega) hbs) ?_;rintro _ _ ⟨w,b0,hb0,hw,rfl,rfl⟩;conv=>whnf
  have hp:=hw.p.ok;have hcl:=xi hp;have hg3:=yk hp;have hps:=xbi hp;have hzk:=q9 hw.k hcl hg3;have hcp:=zo w.Clerk (by omega);obtain ⟨⟨s1,s2⟩,⟨c1,c2⟩,⟨p1,p2⟩,hnn,hq⟩:=ql hw;have ls:(w.Sites.map eS).length=w.Sites.length:=xzi ..;have hgl:w.Clerk.Got.length=w.Sites.length:=by rw [hw.k.gl,hw.sl]
  have hbl:=(xe.1 hw.k.b).1;have hdl:=(yl hcl hw.k.d).2;have hwa:∀ x∈w.Clerk.Wants,x.Args.length<=10:=fun x hx=>by have:=kg (hw.k.w x hx); omega
  repeat' first|((first|refine zz ?_|(refine xa ?_ ?_<;>intro _)|refine ⟨_,hcp,?_⟩)<;>conv=>whnf)
  refine Vc.loop3 (fun (i:Nat) (rows:List (List AV)) (b:Int)=>i<=w.Sites.length/\GotR rows w.Sites.length/\b0<=b/\b<=b0+i) (fun i rows b=>updL [0,1,4,5,6,7,8,11,58,59,60,61,62,63,64,65,66,67,68,69,70,71,72,73,74,75,76,77,78,79,80,81,82,83,84,85,86,87,88,89,90,91,92,93,94,95,96,97,98,99,100,101,102,103,104,105,106,107,108,109,110,111,112,113,114,115,116,117,118,119,120,121,122,123,124,125,126] [(9,I i)] [(192133,.arr 105 rows false),(63,.box (aRd bs b))]) (fun i _ _=>w.Sites.length - i) 0 (w.Clerk.Got.map aG) b0 ⟨xz1 _,hgl▸GotR.init hw.k hcl,by omega,by omega⟩ ?_ (fun i rows b hi=>?_)
  · repeat' (first|exact True.intro|((conv=>whnf);first|exact True.intro|refine ⟨by rfl,?_⟩|refine ⟨by first|omega|(show (_:Int)=_;first|omega|(dsimp only;omega)),?_⟩|refine ⟨?_,?_⟩))
  · obtain ⟨hi,hR,b1,b2⟩:=hi;have lr:=hR.1;obtain ⟨gs,hR3,hR4,hR5⟩:=hR.2.2;have hcG:Cold (.sl 105 rows) (fGs gs):=xbw hR3;have hG:∀ s n,siteB w.Plan s n=true->Sem P 118 [(.pure,.agg (aS s)),(.pure,I n)] [] (.agg [eI 3,eI (-1),eI n,eI s.Round,eI 0,eI 0,eI 0,sI [],sI s.Added,sI (s.Done.map Done.Seq),sDs []]):=fun s n hs=>by
     have:=ki hcl hs;exact xdr s n (by omega) (by omega)
    conv=>whnf
    (refine zA ?_)
    refine xa (fun g=>?_) (fun g=>?_)
    all_goals conv=>whnf
    · have hil:i<w.Sites.length:=by simp only [xzk] at g; omega
      repeat' first|((first|refine zz ?_|(refine xa ?_ ?_<;>intro _))<;>conv=>whnf)|(refine callIo (xf bs _ 4 (by omega) (by decide) hbs) ?_; rintro _ _ ⟨m,hm,rfl,rfl⟩;conv=>whnf)|(refine ixS hw (by omega) (by omega) fun s hs=>?_; have hsl:=ki hcl hs;conv=>whnf)|((first|refine ⟨_,hG s _ hs,?_⟩|refine ioN (by omega) (by omega) ?_)<;>conv=>whnf)|(refine rwG hR (by simp only [xz9]; omega) fun x y z=>?_;conv=>whnf)|((first|refine wq ?_)<;>conv=>whnf)
      all_goals first
       | (refine ⟨i+1,rows.set i [eB true,fI s.Added,fI (s.Done.map Done.Seq)],b+1,⟨by omega,hR.set (by omega) (by rw [xzi]; omega),by omega,by omega⟩,by simp only; omega,?_⟩
          repeat' (first|exact True.intro|((conv=>whnf);first|exact True.intro|refine ⟨by rfl,?_⟩|refine ⟨by first|omega|(show (_:Int)=_;first|omega|(dsimp only;omega)),?_⟩|refine ⟨?_,?_⟩))
          done)
       | (refine ⟨i+1,rows,b+1,⟨by omega,hR,by omega,by omega⟩,by simp only; omega,?_⟩
          repeat' (first|exact True.intro|((conv=>whnf);first|exact True.intro|refine ⟨by rfl,?_⟩|refine ⟨by first|omega|(show (_:Int)=_;first|omega|(dsimp only;omega)),?_⟩|refine ⟨?_,?_⟩))
          done)
       | skip
      all_goals repeat' first|((first|refine zz ?_|(refine xa ?_ ?_<;>intro _))<;>conv=>whnf)|(refine callIo (xf bs _ _ (by omega) (by omega) hbs) ?_; rintro _ _ ⟨m,hm,rfl,rfl⟩;conv=>whnf)|(refine callIo (jx bs _ _ w.Plan hps (by omega) (by omega) hbs) ?_; rintro _ _ ⟨x,d',hd',hxc,rfl,rfl⟩; have hxa:=hxc.2.2.2;conv=>whnf)|((first|refine ⟨_,y9 w.Plan x hcl,?_⟩|refine ⟨_,y9 w.Plan ⟨x.Client,d.Seq+c,x.Act,x.Args⟩ hcl,?_⟩)<;>conv=>whnf)|(refine r64g (by omega) (by have hx:=(xy.1 (by assumption:callB w.Plan x=true)).1; have hcl':=hw.cl; omega) fun q q1 q2 q3=>?_;conv=>whnf)|(refine ixS hw (by omega) (by omega) fun s hs=>?_; have hsl:=ki hcl hs; have hsd:=kv hs; have hsdo:=(siteE hs).2.2.2;conv=>whnf)|(refine ixDn hsdo (by have hx:=(xy.1 (by assumption:callB w.Plan x=true)).1; have hcl':=hw.cl; omega) (by have hx:=(xy.1 (by assumption:callB w.Plan x=true)).1; have hcl':=hw.cl; omega) fun d hd=>?_;conv=>whnf)|(refine ioN (by omega) (by simp; omega) ?_;conv=>whnf)|(refine rwI rfl (by omega) (by simp; omega) fun c hc=>?_; have hcb : -10<=c/\c<=10:=(by simp [unI] at hc; omega);conv=>whnf)|((first|refine wq ?_|refine ⟨_,w9 w.Clerk.Wants x (by omega) (by omega),?_⟩)<;>conv=>whnf)|(refine ⟨_,w9 w.Clerk.Wants ⟨x.Client,d.Seq+c,x.Act,x.Args⟩ (by omega) (by simp only; omega),?_⟩;conv=>whnf)|(refine callIo (xa7 bs _ _ (by omega) (by decide) hbs) ?_; rintro _ _ ⟨p,d',hd',hpp,rfl,rfl⟩;conv=>whnf)|(refine callIo (xcw bs _ w _ _ _ _ _ rows w.Sites.length hw (by omega) hdl (by first|exact ⟨by omega,hwa⟩|exact xmu hq hwa (by first|omega|(simp only; omega))) hR (by omega) (by omega) hbs) ?_; rintro _ _ ⟨c',d',hd',rfl,rfl⟩;conv=>whnf)
      all_goals first
       | (apply drCk (w0:=w)
          · rfl
          · constructor<;>omega
          · exact hw
          · repeat' first|exact Colds.nil|refine Colds.cons (by first|exact xl|exact hcG|exact xg|exact x1) ?_
          done)
    · repeat' first|((first|refine zz ?_|(refine xa ?_ ?_<;>intro _))<;>conv=>whnf)|(refine callIo (xf bs _ _ (by omega) (by omega) hbs) ?_; rintro _ _ ⟨m,hm,rfl,rfl⟩;conv=>whnf)|(refine callIo (jx bs _ _ w.Plan hps (by omega) (by omega) hbs) ?_; rintro _ _ ⟨x,d',hd',hxc,rfl,rfl⟩; have hxa:=hxc.2.2.2;conv=>whnf)|((first|refine ⟨_,y9 w.Plan x hcl,?_⟩|refine ⟨_,y9 w.Plan ⟨x.Client,d.Seq+c,x.Act,x.Args⟩ hcl,?_⟩)<;>conv=>whnf)|(refine r64g (by omega) (by have hx:=(xy.1 (by assumption:callB w.Plan x=true)).1; have hcl':=hw.cl; omega) fun q q1 q2 q3=>?_;conv=>whnf)|(refine ixS hw (by omega) (by omega) fun s hs=>?_; have hsl:=ki hcl hs; have hsd:=kv hs; have hsdo:=(siteE hs).2.2.2;conv=>whnf)|(refine ixDn hsdo (by have hx:=(xy.1 (by assumption:callB w.Plan x=true)).1; have hcl':=hw.cl; omega) (by have hx:=(xy.1 (by assumption:callB w.Plan x=true)).1; have hcl':=hw.cl; omega) fun d hd=>?_;conv=>whnf)|(refine ioN (by omega) (by simp; omega) ?_;conv=>whnf)|(refine rwI rfl (by omega) (by simp; omega) fun c hc=>?_; have hcb : -10<=c/\c<=10:=(by simp [unI] at hc; omega);conv=>whnf)|((first|refine wq ?_|refine ⟨_,w9 w.Clerk.Wants x (by omega) (by omega),?_⟩)<;>conv=>whnf)|(refine ⟨_,w9 w.Clerk.Wants ⟨x.Client,d.Seq+c,x.Act,x.Args⟩ (by omega) (by simp only; omega),?_⟩;conv=>whnf)|(refine callIo (xa7 bs _ _ (by omega) (by decide) hbs) ?_; rintro _ _ ⟨p,d',hd',hpp,rfl,rfl⟩;conv=>whnf)|(refine callIo (xcw bs _ w _ _ _ _ _ rows w.Sites.length hw (by omega) hdl (by first|exact ⟨by omega,hwa⟩|exact xmu hq hwa (by first|omega|(simp only; omega))) hR (by omega) (by omega) hbs) ?_; rintro _ _ ⟨c',d',hd',rfl,rfl⟩;conv=>whnf)
      all_goals first
       | (apply drCk (w0:=w)
          · rfl
          · constructor<;>omega
          · exact hw
          · repeat' first|exact Colds.nil|refine Colds.cons (by first|exact xl|exact hcG|exact xg|exact x1) ?_
          done)
 obtain ⟨r,o,⟨p,c,cs',w,a',h1,h2,h3,rfl,rfl⟩,h4⟩:=key;refine ⟨_,_,⟨p,c,w,a',h1,h2,rfl,rfl⟩,Sem.coldT (vs:=[(true,ePl p),(true,cs'),(true,eWd w)]) rfl (fun k a cs b cs' g1 g2=>?_) h4⟩
 match k,g1,g2 with
 | 0,g1,g2 =>
   cases g1; cases g2
   have hC:Colds (ePl p) (ePl p):=by repeat' first|exact Colds.nil|refine Colds.cons (by first|exact xl|exact x1) ?_
   exact ⟨rfl,rfl,hC.get⟩
 | 1,g1,g2=>cases g1; cases g2; exact ⟨rfl,h3.len,h3.get⟩
 | 2,g1,g2 =>
   cases g1; cases g2
   have hC:Colds (eWd w) (eWd w):=by repeat' first|exact Colds.nil|refine Colds.cons (by first|exact xl|exact x1) ?_
   exact ⟨rfl,rfl,hC.get⟩
 | k+3,g1,g2=>simp at g1
end Cc
end
