/- The law FnMsgOk: part 22 of 38. No conditions beyond the statement. -/
import Derived.Test.YtnigojkdmmeglaaGreatDoorMok21
set_option linter.unusedVariables false
set_option linter.unusedSimpArgs false
set_option maxRecDepth 100000
set_option maxHeartbeats 16000000
section
namespace Cc
open Go Go.AM
theorem ki {c:Call} (h:c.none=true):c.Args.length<=2:=by
 unfold Call.none at h;simp only [xx4,xz9] at h;rw [h.2]; simp
theorem q9 {p:Plan} {c:Call} (h:callB p c=true):c.Args.length<=2:=by
 have:=(xf.1 (x5.1 h).2.2.2).1; omega
theorem xec {p:Plan} {l:List Int} (hcl:inB p.Clients 0 4=true) (h:seqsOk p l=true):l.length<=4:=by
 have hb:=xc.1 hcl;unfold seqsOk at h;simp only [xx4,xx7] at h;omega
theorem ka {p:Plan} {m:Msg} (hcl:inB p.Clients 0 4=true) (h:msgB p m=true):zM m<=1000:=by
 have key:m.Call.Args.length<=2/\m.Vals.length<=3/\m.Seqs.length<=4/\zDs m.Done<=100:=by
  unfold msgB at h;rw [xx4] at h;obtain ⟨_,h⟩:=h
  split at h
  · simp only [xx4,xz9] at h;exact ⟨q9 h.1.1.1.2,by rw [h.1.1.2]; simp,by rw [h.1.2]; simp,by rw [h.2]; simp [zDs,zs]⟩
  · split at h
    · simp only [xx4,xz9] at h;exact ⟨ki h.1.1.1.2,by rw [h.1.1.2]; simp,by rw [h.1.2]; simp,by rw [h.2]; simp [zDs,zs]⟩
    · split at h
      · simp only [xx4,xz9] at h;exact ⟨ki h.1.2,by have:=(xx h.1.1.1.2).1; omega,xec hcl h.1.1.2,by rw [h.2]; simp [zDs,zs]⟩
      · split at h
        · simp only [xx4,xz9] at h;exact ⟨ki h.1.2,by have:=(xf.1 h.1.1.1.2).1; omega,by rw [h.2]; simp,(yf hcl h.1.1.2).2⟩
        · cases h
 unfold zM zC; omega
theorem xlm {p:Plan} {x:Client} {n:Int} (h:clientB p n x=true):zX x<=10:=by
 unfold clientB at h;rw [xx4] at h;have h1:=jv h.1;have h2:x.Call.Args.length<=2:=by
  have h:=h.2
  split at h
  · simp only [xx4] at h; exact q9 h.1.1
  · exact ki h
 unfold zX zC zR;simp only at h1;omega
theorem xm8 {l:Line} (h:l.ok=true):zL l<=5:=by
 have hs:l.Form.small=true->zL l<=5:=fun h=>by
  unfold Form.small at h;simp only [xx4] at h;have:=(xf.1 h.1.1).1;have:=(xf.1 h.1.2).1;unfold zL zF; omega
 unfold Line.ok at h
 split at h
 · simp only [xx4] at h; exact hs h.2
 · split at h
   · simp only [xx4] at h; exact hs h.2
   · split at h
     · simp only [xx4] at h; exact hs h.2
     · split at h
       · simp only [xx4,xx7] at h;unfold zL zF; rw [h.2]; simp [Form.nil]
       · cases h
theorem xqa {p:Plan} (h:planOk p=true):zPl p<=200:=by
 have hl:=xal h;have hc:=xa7.1 (j8 h);have h1:zs zLs p.Acts<=p.Acts.length*36:=kv fun a ha=>by
  have hk:=zc.1 (hc.2 a ha);have:zs zL a<=a.length*5:=kv fun l hl=>xm8 (hk.1 l hl);have h6:=hk.2.1;have:a.length*5<=6*5:=xyv _ h6;unfold zLs; omega
 have h2:p.Acts.length*36<=4*36:=xyv _ (by omega);unfold zPl zAs; omega
theorem xg5 {α:Type} [Inhabited α] {l:List α} {x:α} (h:x∈l):∃ i,i<l.length/\l.getD i default=x:=by
 obtain ⟨i,hi,rfl⟩:=xy0.1 h;exact ⟨i,hi,by rw [xx9,xx2 hi]; rfl⟩
theorem xm9 {w:World} (h:WorldF w):zWd w<=100000:=by
 have hcl:=xo h.p.ok;have hb:=xc.1 hcl;have hg:=yo h.p.ok;have h1:=xqa h.p.ok;have h2:zs zS w.Sites<=w.Sites.length*1000:=kv fun x hx=>by
  obtain ⟨i,hi,rfl⟩:=xg5 hx;exact jw hcl (z7.1 h.s i hi)
 have h3:zs zX w.Clients<=w.Clients.length*10:=kv fun x hx=>by
  obtain ⟨i,hi,rfl⟩:=xg5 hx;exact xlm (z7.1 h.c i hi)
 have h4:zs zM w.Net<=w.Net.length*1000:=kv fun x hx=>ka hcl (h.n x hx);have h5:zs zO w.Log<=w.Log.length*8:=kv fun x hx=>by
  have:=h.l x hx;have a:=q9 this.1;have b:=(yj.1 this.2).2.2.1;unfold zO zC zR; omega
 have h6:=qu h.k hcl hg;have e1:w.Sites.length*1000<=3*1000:=xyv _ (by rw [h.sl]; exact hg);have e2:w.Clients.length*10<=4*10:=xyv _ (by have:=h.cl; omega);have e3:w.Net.length*1000<=30*1000:=xyv _ h.nl;have e4:w.Log.length*8<=100*8:=xyv _ h.ll;have:=h.sl; have:=h.cl; have:=h.nl; have:=h.ll;unfold zWd zSs zXs zMs zOs;omega
theorem xqb (e:Event):∀ (k:Nat) (a b:AV),(aE e)[k]?=some a->(eE e)[k]?=some b->Cold a b:=fun k a b ha hb=>by
 match k,ha,hb with
 | 0,ha,hb=>cases ha; cases hb; exact xl
 | 1,ha,hb=>cases ha; cases hb; exact xl
 | 2,ha,hb=>cases ha; cases hb; exact xl
 | 3,ha,hb=>cases ha; cases hb; exact xg
 | k+4,ha,hb=>simp at ha
theorem drEv0 {a m:Int} {bs:List UInt8} {os:List TV} {x y z:Int} {a':Int} (e2:os=[.agg (aRd bs a')]) (hb:a<=a'/\a'<=a+m) :
 ∃ (c:Event) (a':Int),(a<=a'/\a'<=a+m)/\c.Args.length<=3/\(TV.agg [eI x,eI y,eI z,.sl 3 []]=.agg (eE c)\/TV.agg [eI x,eI y,eI z,.sl 3 []]=.agg (aE c))/\os=[.agg (aRd bs a')]:=⟨⟨x,y,z,[]⟩,a',hb,xym _,.inr rfl,e2⟩
theorem drEv1 {a m:Int} {bs:List UInt8} {os:List TV} {x y z:Int} {g:List Int} {a':Int} (h:g.length<=3) (e2:os=[.agg (aRd bs a')]) (hb:a<=a'/\a'<=a+m) :
 ∃ (c:Event) (a':Int),(a<=a'/\a'<=a+m)/\c.Args.length<=3/\(TV.agg [eI x,eI y,eI z,fI g]=.agg (eE c)\/TV.agg [eI x,eI y,eI z,fI g]=.agg (aE c))/\os=[.agg (aRd bs a')]:=⟨⟨x,y,z,g⟩,a',hb,h,.inl rfl,e2⟩
theorem drEventEnd {f:Nat} {ins:List (Go.AM.Mode × TV)} {a m:Int} {bs:List UInt8} (key:∃ res outs,(∃ (c:Event) (a':Int),(a<=a'/\a'<=a+m)/\c.Args.length<=3/\(res=.agg (eE c)\/res=.agg (aE c))/\outs=[.agg (aRd bs a')])/\Sem P f ins outs res) :
 ∃ os res,(∃ (c:Event) (a':Int),(a<=a'/\a'<=a+m)/\c.Args.length<=3/\res=.agg (eE c)/\os=aRd bs a')/\Sem P f ins [.agg os] res:=by
 obtain ⟨r,o,⟨c,a',h1,h2,h3,rfl⟩,h4⟩:=key;rcases h3 with rfl|rfl
 · exact ⟨_,_,⟨c,a',h1,h2,rfl,rfl⟩,h4⟩
 · exact ⟨_,_,⟨c,a',h1,h2,rfl,rfl⟩,Sem.cold (cs:=aE c) rfl (xqb c) h4⟩
theorem qe {w:World} (hw:WorldF w):(1<=w.Sites.length/\w.Sites.length<=3)/\(1<=w.Clients.length/\w.Clients.length<=4)/\(1<=w.Plan.Acts.length/\w.Plan.Acts.length<=4)/\w.Net.length<=30/\w.Clerk.Wants.length<=4:=by
 have hp:=hw.p.ok;have hl:=xal hp;have h1:=hw.sl;have h2:=hw.cl;have h3:=wd hw.k (xo hp);have h4:=hw.nl;exact ⟨by omega,by omega,by omega,h4,h3⟩
theorem vb (r:Rslt) (h:r.Tells.length<=100000):Sem P 126 [(.pure,.agg (aR r))] [] (.agg (aR r)):=by
 refine fK [2004] Go.Proofs.Tryz.f126 fun hb=>?_;conv=>whnf
 repeat' first|((first|refine zz ?_|(refine xa ?_ ?_<;>intro _)|refine ⟨_,y9 r.Tells h,?_⟩)<;>conv=>whnf)
 exact ⟨rfl,rfl⟩
theorem xha (l:List Done) (h:zDs l<=100000):Sem P 124 [(.pure,.one (sDs l))] [] (.one (sDs l)):=by
 have hl:l.length<=100000:=by unfold zDs at h; omega
 refine fO Go.Proofs.Tryz.f124 fun hb=>?_;have hlm:(l.map eD).length=l.length:=xx3 ..;conv=>whnf
 (refine zA ?_)
 refine Vc.loop1 (fun (i:Nat)=>i<=l.length) (fun i=>updL [2,6,7,22] [(8,I i),(3,.one (.ref 128000))] [(128000,.arr 79 ((l.take i).map eD) false)]) (fun i=>l.length - i) 0 (xym _) ?_ (fun i hi=>?_)
 · exact wk
 · have hlo:((l.take i).map eD).length=i:=by rw [xx3,xyo]; omega
   conv=>whnf
   (refine zA ?_)
   refine xd (fun g=>?_) (fun g=>?_)
   all_goals conv=>whnf
   · have hz:zD (l.getD i default)<=100000:=v8 zD (by unfold zDs at h; exact h) (by omega)
     repeat' first|((first|refine zz ?_|(refine xa ?_ ?_<;>intro _)|refine ixN (enc:=eD) default (by omega) ?_)<;>conv=>whnf)|(refine ⟨_,vb (l.getD i default).Res (by unfold zD zR at hz; exact hz),?_⟩;conv=>whnf)|(refine apN (by rw [hlo]; show i+1<=_; omega) ?_;conv=>whnf)|((first|refine wq ?_)<;>conv=>whnf)
     refine ⟨i+1,by omega,by simp only; omega,?_⟩
     repeat' (first|exact True.intro|((conv=>whnf);first|exact True.intro|refine ⟨by rfl,?_⟩|refine ⟨by first|omega|(show (_:Int)=_;first|omega|(dsimp only;omega))|exact z6 (by omega),?_⟩|refine ⟨?_,?_⟩))
   · have hend:l.take i=l:=xyj (by omega)
     (refine zA ?_)
     exact ⟨by rw [hend],rfl⟩
end Cc
end
