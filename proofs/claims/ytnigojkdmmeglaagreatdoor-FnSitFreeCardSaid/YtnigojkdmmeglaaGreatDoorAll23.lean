/- The laws FnMsgOk, FnSitFree: part 23 of 41. No conditions beyond the statement. -/
import Derived.Test.YtnigojkdmmeglaaGreatDoorAll21
set_option linter.unusedVariables false
set_option linter.unusedSimpArgs false
set_option maxRecDepth 100000
set_option maxHeartbeats 16000000
section
namespace Cc
open Go Go.AM
theorem ku {c:Call} (h:c.none=true):c.Args.length<=2:=by
 unfold Call.none at h;simp only [xzj,x1p] at h;rw [h.2]; simp
theorem kg {p:Plan} {c:Call} (h:callB p c=true):c.Args.length<=2:=by
 have:=(xe.1 (xy.1 h).2.2.2).1; omega
theorem xfa {p:Plan} {l:List Int} (hcl:inB p.Clients 0 4=true) (h:seqsOk p l=true):l.length<=4:=by
 have hb:=xc.1 hcl;unfold seqsOk at h;simp only [xzj,xzk] at h;omega
theorem kh {p:Plan} {m:Msg} (hcl:inB p.Clients 0 4=true) (h:msgB p m=true):zM m<=1000:=by
 have key:m.Call.Args.length<=2/\m.Vals.length<=3/\m.Seqs.length<=4/\zDs m.Done<=100:=by
  unfold msgB at h;rw [xzj] at h;obtain ⟨_,h⟩:=h
  split at h
  · simp only [xzj,x1p] at h;exact ⟨kg h.1.1.1.2,by rw [h.1.1.2]; simp,by rw [h.1.2]; simp,by rw [h.2]; simp [zDs,zs]⟩
  · split at h
    · simp only [xzj,x1p] at h;exact ⟨ku h.1.1.1.2,by rw [h.1.1.2]; simp,by rw [h.1.2]; simp,by rw [h.2]; simp [zDs,zs]⟩
    · split at h
      · simp only [xzj,x1p] at h;exact ⟨ku h.1.2,by have:=(xu h.1.1.1.2).1; omega,xfa hcl h.1.1.2,by rw [h.2]; simp [zDs,zs]⟩
      · split at h
        · simp only [xzj,x1p] at h;exact ⟨ku h.1.2,by have:=(xe.1 h.1.1.1.2).1; omega,by rw [h.2]; simp,(yl hcl h.1.1.2).2⟩
        · cases h
 unfold zM zC; omega
theorem xmo {p:Plan} {x:Client} {n:Int} (h:clientB p n x=true):zX x<=10:=by
 unfold clientB at h;rw [xzj] at h;have h1:=kr h.1;have h2:x.Call.Args.length<=2:=by
  have h:=h.2
  split at h
  · simp only [xzj] at h; exact kg h.1.1
  · exact ku h
 unfold zX zC zR;simp only at h1;omega
theorem xoi {l:Line} (h:l.ok=true):zL l<=5:=by
 have hs:l.Form.small=true->zL l<=5:=fun h=>by
  unfold Form.small at h;simp only [xzj] at h;have:=(xe.1 h.1.1).1;have:=(xe.1 h.1.2).1;unfold zL zF; omega
 unfold Line.ok at h
 split at h
 · simp only [xzj] at h; exact hs h.2
 · split at h
   · simp only [xzj] at h; exact hs h.2
   · split at h
     · simp only [xzj] at h; exact hs h.2
     · split at h
       · simp only [xzj,xzk] at h;unfold zL zF; rw [h.2]; simp [Form.nil]
       · cases h
theorem xrq {p:Plan} (h:planOk p=true):zPl p<=200:=by
 have hl:=xa6 h;have hc:=xbt.1 (qv h);have h1:zs zLs p.Acts<=p.Acts.length*36:=ji fun a ha=>by
  have hk:=zk.1 (hc.2 a ha);have:zs zL a<=a.length*5:=ji fun l hl=>xoi (hk.1 l hl);have h6:=hk.2.1;have:a.length*5<=6*5:=x0b _ h6;unfold zLs; omega
 have h2:p.Acts.length*36<=4*36:=x0b _ (by omega);unfold zPl zAs; omega
theorem xh7 {α:Type} [Inhabited α] {l:List α} {x:α} (h:x∈l):∃ i,i<l.length/\l.getD i default=x:=by
 obtain ⟨i,hi,rfl⟩:=x0h.1 h;exact ⟨i,hi,by rw [xzo,xzh hi]; rfl⟩
theorem xoj {w:World} (h:WorldF w):zWd w<=100000:=by
 have hcl:=xi h.p.ok;have hb:=xc.1 hcl;have hg:=yk h.p.ok;have h1:=xrq h.p.ok;have h2:zs zS w.Sites<=w.Sites.length*1000:=ji fun x hx=>by
  obtain ⟨i,hi,rfl⟩:=xh7 hx;exact kt hcl (qf.1 h.s i hi)
 have h3:zs zX w.Clients<=w.Clients.length*10:=ji fun x hx=>by
  obtain ⟨i,hi,rfl⟩:=xh7 hx;exact xmo (qf.1 h.c i hi)
 have h4:zs zM w.Net<=w.Net.length*1000:=ji fun x hx=>kh hcl (h.n x hx);have h5:zs zO w.Log<=w.Log.length*8:=ji fun x hx=>by
  have:=h.l x hx;have a:=kg this.1;have b:=(yg.1 this.2).2.2.1;unfold zO zC zR; omega
 have h6:=q9 h.k hcl hg;have e1:w.Sites.length*1000<=3*1000:=x0b _ (by rw [h.sl]; exact hg);have e2:w.Clients.length*10<=4*10:=x0b _ (by have:=h.cl; omega);have e3:w.Net.length*1000<=30*1000:=x0b _ h.nl;have e4:w.Log.length*8<=100*8:=x0b _ h.ll;have:=h.sl; have:=h.cl; have:=h.nl; have:=h.ll;unfold zWd zSs zXs zMs zOs;omega
theorem xrr (e:Event):∀ (k:Nat) (a b:AV),(aE e)[k]?=some a->(eE e)[k]?=some b->Cold a b:=fun k a b ha hb=>by
 match k,ha,hb with
 | 0,ha,hb=>cases ha; cases hb; exact xl
 | 1,ha,hb=>cases ha; cases hb; exact xl
 | 2,ha,hb=>cases ha; cases hb; exact xl
 | 3,ha,hb=>cases ha; cases hb; exact xg
 | k+4,ha,hb=>simp at ha
theorem drEv0 {a m:Int} {bs:List UInt8} {os:List TV} {x y z:Int} {a':Int} (e2:os=[.agg (aRd bs a')]) (hb:a<=a'/\a'<=a+m) :
 ∃ (c:Event) (a':Int),(a<=a'/\a'<=a+m)/\c.Args.length<=3/\(TV.agg [eI x,eI y,eI z,.sl 3 []]=.agg (eE c)\/TV.agg [eI x,eI y,eI z,.sl 3 []]=.agg (aE c))/\os=[.agg (aRd bs a')]:=⟨⟨x,y,z,[]⟩,a',hb,xz1 _,.inr rfl,e2⟩
theorem drEv1 {a m:Int} {bs:List UInt8} {os:List TV} {x y z:Int} {g:List Int} {a':Int} (h:g.length<=3) (e2:os=[.agg (aRd bs a')]) (hb:a<=a'/\a'<=a+m) :
 ∃ (c:Event) (a':Int),(a<=a'/\a'<=a+m)/\c.Args.length<=3/\(TV.agg [eI x,eI y,eI z,fI g]=.agg (eE c)\/TV.agg [eI x,eI y,eI z,fI g]=.agg (aE c))/\os=[.agg (aRd bs a')]:=⟨⟨x,y,z,g⟩,a',hb,h,.inl rfl,e2⟩
theorem drEventEnd {f:Nat} {ins:List (Go.AM.Mode × TV)} {a m:Int} {bs:List UInt8} (key:∃ res outs,(∃ (c:Event) (a':Int),(a<=a'/\a'<=a+m)/\c.Args.length<=3/\(res=.agg (eE c)\/res=.agg (aE c))/\outs=[.agg (aRd bs a')])/\Sem P f ins outs res) :
 ∃ os res,(∃ (c:Event) (a':Int),(a<=a'/\a'<=a+m)/\c.Args.length<=3/\res=.agg (eE c)/\os=aRd bs a')/\Sem P f ins [.agg os] res:=by
 obtain ⟨r,o,⟨c,a',h1,h2,h3,rfl⟩,h4⟩:=key;rcases h3 with rfl|rfl
 · exact ⟨_,_,⟨c,a',h1,h2,rfl,rfl⟩,h4⟩
 · exact ⟨_,_,⟨c,a',h1,h2,rfl,rfl⟩,Sem.cold (cs:=aE c) rfl (xrr c) h4⟩
theorem ql {w:World} (hw:WorldF w):(1<=w.Sites.length/\w.Sites.length<=3)/\(1<=w.Clients.length/\w.Clients.length<=4)/\(1<=w.Plan.Acts.length/\w.Plan.Acts.length<=4)/\w.Net.length<=30/\w.Clerk.Wants.length<=4:=by
 have hp:=hw.p.ok;have hl:=xa6 hp;have h1:=hw.sl;have h2:=hw.cl;have h3:=xaa hw.k (xi hp);have h4:=hw.nl;exact ⟨by omega,by omega,by omega,h4,h3⟩
theorem xbz (c:Call) (h:c.Args.length<=100000):Sem P 123 [(.pure,.agg (aC c))] [] (.agg (aC c)):=by
 refine fK [2002] Go.Proofs.Tryz.f123 fun hb=>?_;conv=>whnf
 repeat' first|((first|refine zz ?_|(refine xa ?_ ?_<;>intro _)|refine ⟨_,yj c.Args h,?_⟩)<;>conv=>whnf)
 exact ⟨rfl,rfl⟩
theorem qp (r:Rslt) (h:r.Tells.length<=100000):Sem P 126 [(.pure,.agg (aR r))] [] (.agg (aR r)):=by
 refine fK [2004] Go.Proofs.Tryz.f126 fun hb=>?_;conv=>whnf
 repeat' first|((first|refine zz ?_|(refine xa ?_ ?_<;>intro _)|refine ⟨_,yj r.Tells h,?_⟩)<;>conv=>whnf)
 exact ⟨rfl,rfl⟩
theorem xic (l:List Done) (h:zDs l<=100000):Sem P 124 [(.pure,.one (sDs l))] [] (.one (sDs l)):=by
 have hl:l.length<=100000:=by unfold zDs at h; omega
 refine fO Go.Proofs.Tryz.f124 fun hb=>?_;have hlm:(l.map eD).length=l.length:=xzi ..;conv=>whnf
 (refine zA ?_)
 refine Vc.loop1 (fun (i:Nat)=>i<=l.length) (fun i=>updL [2,6,7,22] [(8,I i),(3,.one (.ref 128000))] [(128000,.arr 79 ((l.take i).map eD) false)]) (fun i=>l.length - i) 0 (xz1 _) ?_ (fun i hi=>?_)
 · exact wk
 · have hlo:((l.take i).map eD).length=i:=by rw [xzi,xz3]; omega
   conv=>whnf
   (refine zA ?_)
   refine xd (fun g=>?_) (fun g=>?_)
   all_goals conv=>whnf
   · have hz:zD (l.getD i default)<=100000:=w7 zD (by unfold zDs at h; exact h) (by omega)
     repeat' first|((first|refine zz ?_|(refine xa ?_ ?_<;>intro _)|refine ixN (enc:=eD) default (by omega) ?_)<;>conv=>whnf)|(refine ⟨_,qp (l.getD i default).Res (by unfold zD zR at hz; exact hz),?_⟩;conv=>whnf)|(refine apN (by rw [hlo]; show i+1<=_; omega) ?_;conv=>whnf)|((first|refine wq ?_)<;>conv=>whnf)
     refine ⟨i+1,by omega,by simp only; omega,?_⟩
     repeat' (first|exact True.intro|((conv=>whnf);first|exact True.intro|refine ⟨by rfl,?_⟩|refine ⟨by first|omega|(show (_:Int)=_;first|omega|(dsimp only;omega))|exact qe (by omega),?_⟩|refine ⟨?_,?_⟩))
   · have hend:l.take i=l:=xzx (by omega)
     (refine zA ?_)
     exact ⟨by rw [hend],rfl⟩
end Cc
end
