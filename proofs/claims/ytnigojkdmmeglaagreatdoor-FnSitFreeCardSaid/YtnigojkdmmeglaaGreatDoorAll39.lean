/- The laws FnMsgOk, FnSitFree: part 39 of 41. No conditions beyond the statement. -/
import Derived.Test.YtnigojkdmmeglaaGreatDoorAll22
import Derived.Test.YtnigojkdmmeglaaGreatDoorAll37
set_option linter.unusedVariables false
set_option linter.unusedSimpArgs false
set_option maxRecDepth 100000
set_option maxHeartbeats 16000000
section
namespace Cc
open Go Go.AM
theorem drAsk {a m:Int} {bs:List UInt8} {res:TV} {os:List TV} {x y z:Int} {g:List Int} {a':Int} (e:res=.agg [eI x,eI y,eI z,fI g]) (e2:os=[.agg (aRd bs a')]) (hb:a<=a'/\a'<=a+m) :
 ∃ (c:Call) (a':Int),(a<=a'/\a'<=a+m)/\res=.agg (eC c)/\os=[.agg (aRd bs a')]:=⟨⟨x,y,z,g⟩,a',hb,e,e2⟩
theorem xu2 (bs:List UInt8) (a:Int) (w:World) (s:Site) (n:Int) (hw:WorldF w) (hq:seqS s.Done) (hn:0<=n/\n<=10) (ha:0<=a/\a<=4000000000) (hbs:bs.length<=2000) :
 ∃ os res,(∃ (c:Call) (a':Int),(a<=a'/\a'<=a+100)/\res=.agg (eC c)/\os=aRd bs a')/\Sem P 176 [(.io 0 0,.agg (aRd bs a)),(.pure,.agg (aWd w)),(.pure,.agg (aS s)),(.pure,I n)] [.agg os] res:=by
 have key:∃ res outs,(∃ (c:Call) (a':Int),(a<=a'/\a'<=a+100)/\res=.agg (eC c)/\outs=[.agg (aRd bs a')])/\Sem P 176 [(.io 0 0,.agg (aRd bs a)),(.pure,.agg (aWd w)),(.pure,.agg (aS s)),(.pure,I n)] outs res:=by
  have hps:=xbi hw.p.ok;have hcl:=xi hw.p.ok;have lg:=xb w.Plan.Gives;have lds:(s.Done.map eD).length=s.Done.length:=xzi ..;refine xw (E:=E0) xm xn (fn:=Go.Proofs.Tryz.f176) (by kernel_rfl) (by kernel_rfl) ?_;conv=>whnf
  repeat' first|((first|refine zz ?_|(refine xa ?_ ?_<;>intro _))<;>conv=>whnf)
  refine callIo (jx bs _ _ w.Plan hps (by omega) (by omega) hbs) ?_;rintro _ _ ⟨c,b,hb,hc,rfl,rfl⟩;conv=>whnf
  repeat' first|((first|refine zz ?_|(refine xa ?_ ?_<;>intro _))<;>conv=>whnf)|(refine callIo (xf bs _ _ (by omega) (by omega) hbs) ?_; rintro _ _ ⟨m,hm,rfl,rfl⟩;conv=>whnf)|(refine ixI (enc:=eD) Done.nil (by omega) (by simp only [xzk,x1d] at *; omega) ?_; have hsd:=hq (s.Done.getD n.toNat Done.nil) (xp (by simp only [xzk,x1d] at *; omega));conv=>whnf)|(refine ioN (by omega) (by simp; omega) ?_;conv=>whnf)|(refine rwI rfl (by omega) (by simp; omega) fun c hc=>?_; have hcb : -10<=c/\c<=10:=(by simp [unI] at hc; omega);conv=>whnf)|((first|refine wq ?_)<;>conv=>whnf)
  all_goals first
   | (apply drAsk
      · rfl
      · rfl
      · constructor<;>omega
      done)
 obtain ⟨r,o,⟨c,a',h1,rfl,rfl⟩,h4⟩:=key;exact ⟨_,_,⟨c,a',h1,rfl,rfl⟩,h4⟩
theorem xoy (bs:List UInt8):∃ res,(∃ (p:Plan) (s:Site) (n:Int) (c:Call),res=.tup [(true,ePl p),(true,eS s),(false,[eI n]),(true,eC c)])/\Sem P 83 [(.pure,.one (sBy bs))] [] res:=by
 have key:∃ res outs,(outs=[]/\∃ (p:Plan) (s:Site) (n:Int) (c:Call),res=.tup [(true,ePl p),(true,eS s),(false,[eI n]),(true,eC c)])/\Sem P 83 [(.pure,.one (sBy bs))] outs res:=by
  refine xw (E:=E0) xm xn (fn:=Go.Proofs.Tryz.f83) (by kernel_rfl) (by kernel_rfl) ?_;conv=>whnf
  repeat' first|((first|refine zz ?_|(refine xa ?_ ?_<;>intro _))<;>conv=>whnf)
  refine callS (xby bs) ?_;rintro _ ⟨cs,hcs,rfl⟩;conv=>whnf
  repeat' first|((first|refine zz ?_|(refine xa ?_ ?_<;>intro _))<;>conv=>whnf)
  refine callIo (xj5 cs _ _ (by omega) (by omega) hcs) ?_;rintro _ _ ⟨p,s,n,w,b0,hb0,hw,⟨hn,hq⟩,rfl,rfl⟩;conv=>whnf
  repeat' first|((first|refine zz ?_|(refine xa ?_ ?_<;>intro _))<;>conv=>whnf)
  refine callIo (xu2 cs _ w s n hw hq hn (by omega) hcs) ?_;rintro _ _ ⟨c,b1,hb1,rfl,rfl⟩;conv=>whnf
  repeat' first|((first|refine zz ?_|(refine xa ?_ ?_<;>intro _))<;>conv=>whnf)
  exact ⟨rfl,p,s,n,c,rfl⟩
 obtain ⟨r,o,⟨rfl,h⟩,h4⟩:=key;exact ⟨r,h,h4⟩
theorem xm2 (bs:List UInt8):∃ res,(∃ (p:Plan) (s:Site) (n:Int) (c:Call),res=.tup [(true,ePl p),(true,eS s),(false,[eI n]),(true,eC c)])/\Sem P 30 [(.pure,.one (sBy bs))] [] res:=by
 have key:∃ res outs,(outs=[]/\∃ (p:Plan) (s:Site) (n:Int) (c:Call),res=.tup [(true,ePl p),(true,eS s),(false,[eI n]),(true,eC c)])/\Sem P 30 [(.pure,.one (sBy bs))] outs res:=by
  refine xw (E:=E0) xm xn (fn:=Go.Proofs.Tryz.f30) (by kernel_rfl) (by kernel_rfl) ?_;conv=>whnf
  repeat' first|((first|refine zz ?_|(refine xa ?_ ?_<;>intro _))<;>conv=>whnf)
  refine callS (xoy bs) ?_;rintro _ ⟨p,s,n,c,rfl⟩;conv=>whnf
  repeat' first|((first|refine zz ?_|(refine xa ?_ ?_<;>intro _))<;>conv=>whnf)
  exact ⟨rfl,p,s,n,c,rfl⟩
 obtain ⟨r,o,⟨rfl,h⟩,h4⟩:=key;exact ⟨r,h,h4⟩
theorem xaq {p:Plan} {s:Site} {n:Int} (hs:siteB p s n=true):keeps p.Acts ⟨s.Base,p.Gives⟩ n s.Added=true:=by
 unfold siteB at hs; simp only [xzj] at hs; exact hs.1.2
theorem xsc (p:Plan) (s:Site) (n:Int) (c:Call) (hp:planOk p=true) (hs:siteB p s n=true) (hc:callB p c=true) :
 Sem P 85 [(.io 0 0,.agg (aS s)),(.pure,.agg (aPl p)),(.pure,I n),(.pure,.agg (aC c))] [.agg (aS s)] (tR (alone p.Acts ⟨s.Base,p.Gives⟩ n s.Added c.Act c.Args)):=by
 obtain ⟨c1,c2,c3,c4⟩:=xy.1 hc;have hL:=xgc p.Acts ⟨s.Base,p.Gives⟩ n s.Added c.Act c.Args (qv hp) c4 (by omega) (xaq hs);refine fK [2017] Go.Proofs.Tryz.f85 fun hb=>?_;conv=>whnf
 repeat' first|((first|refine zz ?_|(refine xa ?_ ?_<;>intro _)|refine ⟨_,jb p s.Base,?_⟩|refine ⟨_,hL,?_⟩|refine akP (x7 _) ?_)<;>conv=>whnf)
 exact ⟨rfl,rfl⟩
theorem xo1 (p:Plan) (s:Site) (n:Int) (c:Call) (hp:planOk p=true) (hs:siteB p s n=true) (hc:callB p c=true) :
 Sem P 85 [(.io 0 0,.agg (eS s)),(.pure,.agg (aPl p)),(.pure,I n),(.pure,.agg (aC c))] [.agg (eS s)] (tR (alone p.Acts ⟨s.Base,p.Gives⟩ n s.Added c.Act c.Args)):=by
 obtain ⟨c1,c2,c3,c4⟩:=xy.1 hc;have hL:=xgc p.Acts ⟨s.Base,p.Gives⟩ n s.Added c.Act c.Args (qv hp) c4 (by omega) (xaq hs);refine fK [2017] Go.Proofs.Tryz.f85 fun hb=>?_;conv=>whnf
 repeat' first|((first|refine zz ?_|(refine xa ?_ ?_<;>intro _)|refine ⟨_,jb p s.Base,?_⟩|refine ⟨_,hL,?_⟩|refine akP (x7 _) ?_)<;>conv=>whnf)
 exact ⟨rfl,rfl⟩
abbrev tQ (r:Rslt) (l:List Msg):TV:=.tup [(true,eR r),(false,[fMs l])]
theorem coldQ {f:Nat} {ins:List (Go.AM.Mode × TV)} {outs:List TV} {cs:List AV} {r:Rslt} {l:List Msg} (hc:Colds cs (eR r)) (h:Sem P f ins outs (.tup [(true,cs),(false,[sMs l])])):Sem P f ins outs (tQ r l):=by
 refine Sem.coldT (vs:=[(true,cs),(false,[sMs l])]) rfl (fun k a x b y h1 h2=>?_) h
 match k,h1,h2 with
 | 0,h1,h2=>cases h1; cases h2; exact ⟨rfl,hc.len,hc.get⟩
 | 1,h1,h2=>cases h1; cases h2; exact ⟨rfl,vp _ _⟩
 | k+2,h1,h2=>simp at h1
theorem xgy (r:Rslt):Colds (aR r) (eR r):=Colds.cons xl (Colds.cons xg Colds.nil)
theorem xm5 (r:Rslt):Colds (eR r) (eR r):=Colds.cons xl (Colds.cons x1 Colds.nil)
theorem xww (p:Plan) (s:Site) (n:Int) (c:Call) (hp:planOk p=true) (hs:siteB p s n=true) (hc:callB p c=true) :
 Sem P 86 [(.io 0 0,.agg (aS s)),(.pure,.agg (aPl p)),(.pure,I n),(.pure,.agg (aC c))] [.agg (aS (siteTry p s n c).1)] (tQ (siteTry p s n c).2.1 (siteTry p s n c).2.2):=by
 have hcl:=xi hp;obtain ⟨hr,hb',ha,hd⟩:=siteE hs;obtain ⟨c1,c2,c3,c4⟩:=xy.1 hc;have g1:=(planF hp).g1;have lg:=xb p.Gives;have hdc:(s.Done.length:Int)=p.Clients:=by unfold doneOk at hd; simp only [xzj,xzk] at hd; exact hd.1
 have hA:=xsc p s n c hp hs hc;have hk:c.Client.toNat<s.Done.length:=by omega
 have hk2:c.Client<((s.Done.map eD).length:Int):=by rw [xzi]; omega
 have hdk:(s.Done.getD c.Client.toNat Done.nil).ok=true:=by unfold doneOk at hd; simp only [xzj,xzl] at hd; exact hd.2 _ (xp hk)
 have hseq:0<=(s.Done.getD c.Client.toNat Done.nil).Seq/\(s.Done.getD c.Client.toNat Done.nil).Seq<=300:=by
  rw [kq] at hdk; simp only [xzj] at hdk; exact xc.1 hdk.1.1.1
 have ht6:=kr hdk;have hca:c.Args.length<=100000:=by rw [(xe.1 c4).1]; decide
 have g0:(0:Int)<((ints p.Gives).length:Int):=by omega
 have e:siteTry p s n c=(if !s.Up || decide (c.Client % p.Gives.length≠n) || decide (c.Seq<(s.Done.getD c.Client.toNat Done.nil).Seq) || decide (c.Seq>(s.Done.getD c.Client.toNat Done.nil).Seq+1) then (s,Rslt.nil,[])
  else if c.Seq=(s.Done.getD c.Client.toNat Done.nil).Seq then (s,(s.Done.getD c.Client.toNat Done.nil).Res,[])
  else if !s.Frozen && (alone p.Acts ⟨s.Base,p.Gives⟩ n s.Added c.Act c.Args).2.2 then ({ s with Added:=(alone p.Acts ⟨s.Base,p.Gives⟩ n s.Added c.Act c.Args).2.1,Done:=s.Done.set c.Client.toNat ⟨c.Seq,(alone p.Acts ⟨s.Base,p.Gives⟩ n s.Added c.Act c.Args).1⟩ },(alone p.Acts ⟨s.Base,p.Gives⟩ n s.Added c.Act c.Args).1,[])
  else (s,Rslt.nil,[wantMsg c])):=rfl
 have hz:(alone p.Acts ⟨s.Base,p.Gives⟩ n s.Added c.Act c.Args).2.2=true->(alone p.Acts ⟨s.Base,p.Gives⟩ n s.Added c.Act c.Args).1.Tells.length<=100000:=fun h=>by
  have:=xdk (res:=(alone p.Acts ⟨s.Base,p.Gives⟩ n s.Added c.Act c.Args).1) (now:=(alone p.Acts ⟨s.Base,p.Gives⟩ n s.Added c.Act c.Args).2.1) c4 (xaq hs) (by rw [<- h]);have:=(yg.1 this.1).2.2.1;omega
 rw [e];clear e;generalize alone p.Acts ⟨s.Base,p.Gives⟩ n s.Added c.Act c.Args=x at *;obtain ⟨r,ad,ok⟩:=x;replace hA:Sem P 85 [(.io 0 0,.agg (aS s)),(.pure,.agg (aPl p)),(.pure,I n),(.pure,.agg (aC c))] [.agg (aS s)] (.tup [(true,[eI r.Code,sI r.Tells]),(false,[sI ad]),(false,[eB ok])]):=hA;have lds:(s.Done.map eD).length=s.Done.length:=xzi ..
 cases hb1:(!s.Up || decide (c.Client % p.Gives.length≠n) || decide (c.Seq<(s.Done.getD c.Client.toNat Done.nil).Seq) || decide (c.Seq>(s.Done.getD c.Client.toNat Done.nil).Seq+1)) with
 | true =>
   rw [if_pos rfl];rw [<- lg] at hb1;refine coldQ (xgy Rslt.nil) ?_;refine fK [10004] Go.Proofs.Tryz.f86 fun hb=>?_;conv=>whnf
   repeat' first|((first|refine zz ?_|(refine xa ?_ ?_<;>intro _)|refine ioN (by omega) (by omega) ?_|refine rwN (enc:=eD) Done.nil (by omega) ?_|refine r64 (by omega) (by omega) ?_|refine wq ?_)<;>conv=>whnf)
   all_goals first
    | exact ⟨rfl,rfl⟩
    | (exfalso; clear hA hb hs hc hd hdk hz; simp_all; done)
    | (exfalso; clear hA hb hs hc hd hdk hz; simp_all; omega)
 | false =>
   rw [if_neg (by decide)];rw [<- lg] at hb1;by_cases hq:c.Seq=(s.Done.getD c.Client.toNat Done.nil).Seq
   · rw [if_pos hq];refine coldQ (xm5 _) ?_;refine fK [10004] Go.Proofs.Tryz.f86 fun hb=>?_;conv=>whnf
     repeat' first|((first|refine zz ?_|(refine xa ?_ ?_<;>intro _)|refine ioN (by omega) (by omega) ?_|refine rwN (enc:=eD) Done.nil (by omega) ?_|refine r64 (by omega) (by omega) ?_|refine wq ?_|refine ⟨_,qp (s.Done.getD c.Client.toNat Done.nil).Res (by omega),?_⟩)<;>conv=>whnf)
     all_goals first
      | exact ⟨rfl,rfl⟩
      | (exfalso; clear hA hb hs hc hd hdk hz; simp_all; done)
      | (exfalso; clear hA hb hs hc hd hdk hz; simp_all; omega)
   · rw [if_neg hq]
     cases ok with
     | false =>
       rw [if_neg (by simp)];refine coldQ (xgy Rslt.nil) ?_;refine fK [10004] Go.Proofs.Tryz.f86 fun hb=>?_;conv=>whnf
       repeat' first|((first|refine zz ?_|(refine xa ?_ ?_<;>intro _)|refine ioN (by omega) (by omega) ?_|refine rwN (enc:=eD) Done.nil (by omega) ?_|refine r64 (by omega) (by omega) ?_|refine wq ?_|refine ⟨_,_,hA,?_⟩|refine akP (x7 _) ?_|refine ⟨_,xbz c hca,?_⟩)<;>conv=>whnf)
       all_goals first
        | exact ⟨rfl,rfl⟩
        | (exfalso; clear hA hb hs hc hd hdk hz; simp_all; done)
        | (exfalso; clear hA hb hs hc hd hdk hz; simp_all; omega)
     | true =>
       cases hfz:s.Frozen with
       | true =>
         rw [if_neg (by simp)];refine coldQ (xgy Rslt.nil) ?_;refine fK [10004] Go.Proofs.Tryz.f86 fun hb=>?_;conv=>whnf
         repeat' first|((first|refine zz ?_|(refine xa ?_ ?_<;>intro _)|refine ioN (by omega) (by omega) ?_|refine rwN (enc:=eD) Done.nil (by omega) ?_|refine r64 (by omega) (by omega) ?_|refine wq ?_|refine ⟨_,xbz c hca,?_⟩)<;>conv=>whnf)
         all_goals first
          | exact ⟨rfl,rfl⟩
          | (exfalso; clear hA hb hs hc hd hdk hz; simp_all; done)
          | (exfalso; clear hA hb hs hc hd hdk hz; simp_all; omega)
       | false =>
         rw [if_pos (by simp)];have hz':=hz rfl;refine coldQ (xm5 r) ?_;refine yp (E:={ E0 with keep:=[10004],fz:=[(12,[640257])] }) xm xn (fn:=Go.Proofs.Tryz.f86) (by kernel_rfl) (by kernel_rfl) (fun hb=>?_);conv=>whnf
         repeat' first|((first|refine zz ?_|(refine xa ?_ ?_<;>intro _)|refine ioN (by omega) (by omega) ?_|refine rwN (enc:=eD) Done.nil (by omega) ?_|refine r64 (by omega) (by omega) ?_|refine wq ?_|refine ⟨_,_,hA,?_⟩|refine akP (x7 _) ?_|refine ⟨_,qp r hz',?_⟩)<;>conv=>whnf)
         all_goals first
          | (exfalso; clear hA hb hs hc hd hdk hz; simp_all; done)
          | (exfalso; clear hA hb hs hc hd hdk hz; simp_all; omega)
          | (refine ⟨rfl,?_⟩
             show [TV.agg [eB s.Up,eB s.Frozen,eI s.Round,sI s.Base,sI ad,.sl 79 ((s.Done.map eD).set c.Client.toNat (eD ⟨c.Seq,r⟩))]]=_;rw [vq,hfz]
             try rfl)
theorem xfe (p:Plan) (c:Call):Sem P 84 [(.pure,.agg (aPl p)),(.pure,.agg (aC c))] [] (B (callOk p c)):=by
 have h1:=jc p;unfold callOk
 cases hp:planOk p with
 | false =>
   rw [hp] at h1;refine fO Go.Proofs.Tryz.f84 fun hb=>?_;conv=>whnf
   repeat' first|((first|refine zz ?_|(refine xa ?_ ?_<;>intro _)|refine ⟨_,h1,?_⟩)<;>conv=>whnf)
   exact ⟨rfl,rfl⟩
 | true =>
   rw [hp] at h1;refine fO Go.Proofs.Tryz.f84 fun hb=>?_;conv=>whnf
   repeat' first|((first|refine zz ?_|(refine xa ?_ ?_<;>intro _)|refine ⟨_,h1,?_⟩|refine ⟨_,vz p c (xi hp),?_⟩)<;>conv=>whnf)
   exact ⟨rfl,rfl⟩
theorem xo2 (p:Plan) (s:Site) (n:Int) (c:Call):Sem P 32 [(.pure,.agg (aPl p)),(.pure,.agg (aS s)),(.pure,I n),(.pure,.agg (aC c))] [] (tTc (sitTry p s n c)):=by
 have h1:=xdv p s n;have h2:=xfe p c;unfold sitTry
 cases hs:siteOk p s n with
 | false =>
   rw [hs] at h1;refine coldTry ?_;refine fO Go.Proofs.Tryz.f32 fun hb=>?_;conv=>whnf
   repeat' first|((first|refine zz ?_|(refine xa ?_ ?_<;>intro _)|refine ⟨_,h1,?_⟩)<;>conv=>whnf)
   exact ⟨rfl,rfl⟩
 | true =>
   rw [hs] at h1
   cases hc:callOk p c with
   | false =>
     rw [hc] at h2;refine coldTry ?_;refine fO Go.Proofs.Tryz.f32 fun hb=>?_;conv=>whnf
     repeat' first|((first|refine zz ?_|(refine xa ?_ ?_<;>intro _)|refine ⟨_,h1,?_⟩|refine ⟨_,h2,?_⟩)<;>conv=>whnf)
     exact ⟨rfl,rfl⟩
   | true =>
     rw [hc] at h2;unfold siteOk at hs;unfold callOk at hc;simp only [xzj] at hs hc;obtain ⟨⟨hp,hi⟩,hs⟩:=hs;have hz:=kt (xi hp) hs;have hT:=xww p s n c hp hs hc.2;rw [if_pos (show (true && true)=true from rfl)];generalize siteTry p s n c=x at hT ⊢;obtain ⟨s',r,l⟩:=x;replace hT:Sem P 86 [(.io 0 0,.agg (aS s)),(.pure,.agg (aPl p)),(.pure,I n),(.pure,.agg (aC c))] [.agg [eB s'.Up,eB s'.Frozen,eI s'.Round,sI s'.Base,sI s'.Added,sDs s'.Done]] (.tup [(true,[eI r.Code,fI r.Tells]),(false,[fMs l])]):=hT;refine Sem.coldT (vs:=[(true,aS s'),(true,eR r),(false,[fMs l])]) rfl (fun k a x b y h1 h2=>?_) ?_
     · match k,h1,h2 with
       | 0,h1,h2=>cases h1; cases h2; exact ⟨rfl,jz _⟩
       | 1,h1,h2=>cases h1; cases h2; exact ⟨rfl,xj1 _⟩
       | 2,h1,h2=>cases h1; cases h2; exact ⟨rfl,(Colds.cons x1 Colds.nil).len,(Colds.cons x1 Colds.nil).get⟩
       | k+3,h1,h2=>simp at h1
     · refine fK [4001] Go.Proofs.Tryz.f32 fun hb=>?_;conv=>whnf
       repeat' first|((first|refine zz ?_|(refine xa ?_ ?_<;>intro _)|refine ⟨_,h1,?_⟩|refine ⟨_,h2,?_⟩|refine ⟨_,xb0 s (by omega),?_⟩|refine ⟨_,_,hT,?_⟩)<;>conv=>whnf)
       exact ⟨rfl,rfl⟩
theorem xm6 (p:Plan) (s:Site) (n:Int) (c:Call):Sem P 31 [(.pure,.agg (aPl p)),(.pure,.agg (aS s)),(.pure,I n),(.pure,.agg (aC c))] [] (B (sitFree p s n c)):=by
 have h1:=xdv p s n;have h2:=xfe p c;unfold sitFree
 cases hs:siteOk p s n with
 | false =>
   rw [hs] at h1;refine fO Go.Proofs.Tryz.f31 fun hb=>?_;conv=>whnf
   repeat' first|((first|refine zz ?_|(refine xa ?_ ?_<;>intro _)|refine ⟨_,h1,?_⟩)<;>conv=>whnf)
   exact ⟨rfl,rfl⟩
 | true =>
   rw [hs] at h1
   cases hc:callOk p c with
   | false =>
     rw [hc] at h2;refine fO Go.Proofs.Tryz.f31 fun hb=>?_;conv=>whnf
     repeat' first|((first|refine zz ?_|(refine xa ?_ ?_<;>intro _)|refine ⟨_,h1,?_⟩|refine ⟨_,h2,?_⟩)<;>conv=>whnf)
     exact ⟨rfl,rfl⟩
   | true =>
     rw [hc] at h2;unfold siteOk at hs;unfold callOk at hc;simp only [xzj] at hs hc;obtain ⟨⟨hp,hi⟩,hs⟩:=hs;have hT:=xo1 p s n c hp hs hc.2;rw [show p.treaty s.Base=⟨s.Base,p.Gives⟩ from rfl];generalize alone p.Acts ⟨s.Base,p.Gives⟩ n s.Added c.Act c.Args=x at hT ⊢;obtain ⟨r,ad,ok⟩:=x;obtain ⟨up,fr,rd,bs,ad0,dn⟩:=s;replace hT:Sem P 85 [(.io 0 0,.agg (eS ⟨up,fr,rd,bs,ad0,dn⟩)),(.pure,.agg (aPl p)),(.pure,I n),(.pure,.agg (aC c))] [.agg (eS ⟨up,fr,rd,bs,ad0,dn⟩)] (.tup [(true,[eI r.Code,sI r.Tells]),(false,[sI ad]),(false,[eB ok])]):=hT;cases up<;>cases fr
     all_goals
      refine fO Go.Proofs.Tryz.f31 fun hb=>?_;conv=>whnf
      repeat' first|((first|refine zz ?_|(refine xa ?_ ?_<;>intro _)|refine ⟨_,h1,?_⟩|refine ⟨_,h2,?_⟩|refine ⟨_,_,hT,?_⟩)<;>conv=>whnf)
      exact ⟨rfl,rfl⟩
theorem xdw (p:Plan) (s:Site) (n:Int):Sem P 37 [(.pure,.agg (aPl p)),(.pure,.agg (aS s)),(.pure,I n)] [] (B (siteOk p s n)):=by
 have h1:=zh p;have lg:=xb p.Gives;have h2:Sem P 91 [(.pure,I n),(.pure,I 0),(.pure,I ((ints p.Gives).length - 1))] [] (B (isSite p n)):=by
  have:=xj n 0 ((ints p.Gives).length - 1);rw [lg] at this; rw [lg]; exact this
 unfold siteOk
 cases hp:planOk p with
 | false =>
   rw [hp] at h1;refine fO Go.Proofs.Tryz.f37 fun hb=>?_;conv=>whnf
   repeat' first|((first|refine zz ?_|(refine xa ?_ ?_<;>intro _)|refine ⟨_,h1,?_⟩)<;>conv=>whnf)
   exact ⟨rfl,rfl⟩
 | true =>
   rw [hp] at h1;have hg3:=yk hp
   cases hi:isSite p n with
   | false =>
     rw [hi] at h2;refine fO Go.Proofs.Tryz.f37 fun hb=>?_;conv=>whnf
     repeat' first|((first|refine zz ?_|(refine xa ?_ ?_<;>intro _)|refine ⟨_,h1,?_⟩|refine ⟨_,h2,?_⟩|refine wq ?_)<;>conv=>whnf)
     exact ⟨rfl,rfl⟩
   | true =>
     rw [hi] at h2;refine fO Go.Proofs.Tryz.f37 fun hb=>?_;conv=>whnf
     repeat' first|((first|refine zz ?_|(refine xa ?_ ?_<;>intro _)|refine ⟨_,h1,?_⟩|refine ⟨_,h2,?_⟩|refine ⟨_,w6 p.Acts (xao hp),?_⟩|refine ⟨_,xf6 p s n,?_⟩|refine wq ?_)<;>conv=>whnf)
     exact ⟨rfl,rfl⟩
theorem xbk (p:Plan) (c:Call):Sem P 38 [(.pure,.agg (aPl p)),(.pure,.agg (aC c))] [] (B (callOk p c)):=by
 have h1:=zh p;unfold callOk
 cases hp:planOk p with
 | false =>
   rw [hp] at h1;refine fO Go.Proofs.Tryz.f38 fun hb=>?_;conv=>whnf
   repeat' first|((first|refine zz ?_|(refine xa ?_ ?_<;>intro _)|refine ⟨_,h1,?_⟩)<;>conv=>whnf)
   exact ⟨rfl,rfl⟩
 | true =>
   rw [hp] at h1;refine fO Go.Proofs.Tryz.f38 fun hb=>?_;conv=>whnf
   repeat' first|((first|refine zz ?_|(refine xa ?_ ?_<;>intro _)|refine ⟨_,h1,?_⟩|refine ⟨_,y9 p c (xi hp),?_⟩)<;>conv=>whnf)
   exact ⟨rfl,rfl⟩
theorem xo3 (p:Plan) (s:Site) (n:Int) (c:Call):Sem P 33 [(.pure,.agg (aPl p)),(.pure,.agg (aS s)),(.pure,I n),(.pure,.agg (aC c))] [] (tTc (sitTry p s n c)):=by
 have h1:=xdw p s n;have h2:=xbk p c;unfold sitTry
 cases hs:siteOk p s n with
 | false =>
   rw [hs] at h1;refine coldTry ?_;refine fO Go.Proofs.Tryz.f33 fun hb=>?_;conv=>whnf
   repeat' first|((first|refine zz ?_|(refine xa ?_ ?_<;>intro _)|refine ⟨_,h1,?_⟩)<;>conv=>whnf)
   exact ⟨rfl,rfl⟩
 | true =>
   rw [hs] at h1
   cases hc:callOk p c with
   | false =>
     rw [hc] at h2;refine coldTry ?_;refine fO Go.Proofs.Tryz.f33 fun hb=>?_;conv=>whnf
     repeat' first|((first|refine zz ?_|(refine xa ?_ ?_<;>intro _)|refine ⟨_,h1,?_⟩|refine ⟨_,h2,?_⟩)<;>conv=>whnf)
     exact ⟨rfl,rfl⟩
   | true =>
     rw [hc] at h2;unfold siteOk at hs;unfold callOk at hc;simp only [xzj] at hs hc;obtain ⟨⟨hp,hi⟩,hs⟩:=hs;have hT:=xj2 p s n c hp hs hc.2;rw [if_pos (show (true && true)=true from rfl)];generalize siteTry p s n c=x at hT ⊢;obtain ⟨s',r,l⟩:=x;refine fO Go.Proofs.Tryz.f33 fun hb=>?_;conv=>whnf
     repeat' first|((first|refine zz ?_|(refine xa ?_ ?_<;>intro _)|refine ⟨_,h1,?_⟩|refine ⟨_,h2,?_⟩|refine ⟨_,w6 p.Acts (xao hp),?_⟩|refine ⟨_,hT,?_⟩)<;>conv=>whnf)
     exact ⟨rfl,rfl⟩
abbrev tRc (b:Rslt × List Int × Bool):TV:=.tup [(true,eR b.1),(false,[fI b.2.1]),(false,[eB b.2.2])]
theorem xo4 (acts:List (List Line)) (t:Treaty) (s:Int) (a:List Int) (k:Int) (args:List Int) (hcat:catOk acts=true) (hg:argOk args=true) (hk:0<=k/\k<acts.length) (hkeep:keeps acts t s a=true) :
 Sem P 88 [(.pure,.one (sAs acts)),(.pure,.agg (aT t)),(.pure,I s),(.pure,AI a),(.pure,I k),(.pure,AI args)] [] (tRc (alone acts t s a k args)):=by
 have hkp:(trtKeeps t (partsOf acts) s a && unpinned (pinsOf acts) a)=true:=hkeep;simp only [xzj] at hkp;have hK:=hkp.1;have hk3:=xe4 hK;unfold trtKeeps at hK;simp only [xzj] at hK;obtain ⟨⟨⟨⟨ht,hp⟩,hs⟩,ha⟩,-⟩:=hK;have i1:=xhr acts;rw [hcat] at i1;have i2:=ko args;rw [hg] at i2;have lac:(acts.map eA).length=acts.length:=xzi ..;have i3:Sem P 91 [(.pure,I k),(.pure,I 0),(.pure,I ((acts.map eA).length - 1))] [] (B true):=by
  have:=xj k 0 ((acts.map eA).length - 1);rw [xc.2 ⟨hk.1,by rw [lac]; omega⟩] at this; exact this
 have i4:=jd t (partsOf acts) s a;rw [hkp.1] at i4;have i5:=wc (pinsOf acts) a (xdq acts) hk3;rw [hkp.2] at i5;have i6:=xh6 acts t s a k args hk (xcu ht) ha hg
 have h4:=j7 hcat
 generalize alone acts t s a k args=x at i6 ⊢;obtain ⟨r,ad,ok⟩:=x;refine fO Go.Proofs.Tryz.f88 fun hb=>?_;conv=>whnf
 repeat' first|((first|refine zz ?_|(refine xa ?_ ?_<;>intro _)|refine ⟨_,i1,?_⟩|refine ⟨_,i2,?_⟩|refine ⟨_,i3,?_⟩|refine ⟨_,w6 acts h4,?_⟩|refine ⟨_,i4,?_⟩|refine ⟨_,i5,?_⟩|refine ⟨_,i6,?_⟩|refine wq ?_)<;>conv=>whnf)
 exact ⟨rfl,rfl⟩
theorem xm7 (p:Plan) (s:Site) (n:Int) (c:Call):Sem P 34 [(.pure,.agg (aPl p)),(.pure,.agg (aS s)),(.pure,I n),(.pure,.agg (aC c))] [] (B (sitFree p s n c)):=by
 have h1:=xdw p s n;have h2:=xbk p c;unfold sitFree
 cases hs:siteOk p s n with
 | false =>
   rw [hs] at h1;refine fO Go.Proofs.Tryz.f34 fun hb=>?_;conv=>whnf
   repeat' first|((first|refine zz ?_|(refine xa ?_ ?_<;>intro _)|refine ⟨_,h1,?_⟩)<;>conv=>whnf)
   exact ⟨rfl,rfl⟩
 | true =>
   rw [hs] at h1
   cases hc:callOk p c with
   | false =>
     rw [hc] at h2;refine fO Go.Proofs.Tryz.f34 fun hb=>?_;conv=>whnf
     repeat' first|((first|refine zz ?_|(refine xa ?_ ?_<;>intro _)|refine ⟨_,h1,?_⟩|refine ⟨_,h2,?_⟩)<;>conv=>whnf)
     exact ⟨rfl,rfl⟩
   | true =>
     rw [hc] at h2;unfold siteOk at hs;unfold callOk at hc;simp only [xzj] at hs hc;obtain ⟨⟨hp,hi⟩,hs⟩:=hs;obtain ⟨c1,c2,c3,c4⟩:=xy.1 hc.2;have hkp:keeps p.Acts ⟨s.Base,p.Gives⟩ n s.Added=true:=by unfold siteB at hs; simp only [xzj] at hs; exact hs.1.2
     have hT:=xo4 p.Acts ⟨s.Base,p.Gives⟩ n s.Added c.Act c.Args (qv hp) c4 (by omega) hkp;have hTr:=qz p s;rw [show p.treaty s.Base=⟨s.Base,p.Gives⟩ from rfl];generalize alone p.Acts ⟨s.Base,p.Gives⟩ n s.Added c.Act c.Args=x at hT ⊢;obtain ⟨r,ad,ok⟩:=x;obtain ⟨up,fr,rd,bs,ad0,dn⟩:=s;cases up<;>cases fr
     all_goals
      refine fO Go.Proofs.Tryz.f34 fun hb=>?_;conv=>whnf
      repeat' first|((first|refine zz ?_|(refine xa ?_ ?_<;>intro _)|refine ⟨_,h1,?_⟩|refine ⟨_,h2,?_⟩|refine ⟨_,hTr,?_⟩|refine ⟨_,hT,?_⟩)<;>conv=>whnf)
      exact ⟨rfl,rfl⟩
theorem xu3 (p:Plan) (c:Int):Sem P 39 [(.pure,.agg (aPl p)),(.pure,I c)] [] (I (home p c)):=by
 have h1:=jc p;have lg:=xb p.Gives;unfold home
 cases hp:planOk p with
 | false =>
   rw [hp] at h1;refine fO Go.Proofs.Tryz.f39 fun hb=>?_;conv=>whnf
   repeat' first|((first|refine zz ?_|(refine xa ?_ ?_<;>intro _)|refine ⟨_,h1,?_⟩)<;>conv=>whnf)
   exact ⟨rfl,rfl⟩
 | true =>
   rw [hp] at h1;have g1:=(planF hp).g1;have h2:=xdy p c (xi hp)
   cases hi:isClient p c with
   | false =>
     rw [hi] at h2;refine fO Go.Proofs.Tryz.f39 fun hb=>?_;conv=>whnf
     repeat' first|((first|refine zz ?_|(refine xa ?_ ?_<;>intro _)|refine ⟨_,h1,?_⟩|refine ⟨_,h2,?_⟩)<;>conv=>whnf)
     exact ⟨rfl,rfl⟩
   | true =>
     rw [hi] at h2;have hc:=xc.1 hi;refine fO Go.Proofs.Tryz.f39 fun hb=>?_;conv=>whnf
     repeat' first|((first|refine zz ?_|(refine xa ?_ ?_<;>intro _)|refine ⟨_,h1,?_⟩|refine ⟨_,h2,?_⟩|refine r64 (by omega) (by omega) ?_)<;>conv=>whnf)
     exact rI' (by rw [lg]; rfl)
theorem ya {f:Nat} {α:Type} [DecidableEq α] {a:α} {ins:List (Go.AM.Mode × TV)} (h:Sem P f ins [] (B (decide (a=a)))):Sem P f ins [] (B true):=by
 rw [x2x rfl] at h; exact h
def Next (p:Plan) (s:Site) (n:Int) (c:Call):Prop:=siteOk p s n=true/\callOk p c=true/\s.Up=true/\home p c.Client=n/\c.Seq=(s.Done.getD c.Client.toNat Done.nil).Seq+1
theorem xm8 {p:Plan} {c:Call} (hp:planOk p=true) (hc:callB p c=true):home p c.Client=c.Client % p.Gives.length:=by
 have hi:isClient p c.Client=true:=xc.2 (xy.1 hc).1;unfold home; rw [hp,hi]; rfl
theorem okE {p:Plan} {s:Site} {n:Int} {c:Call} (h1:siteOk p s n=true) (h2:callOk p c=true):planOk p=true/\siteB p s n=true/\callB p c=true:=by
 unfold siteOk at h1;unfold callOk at h2;simp only [xzj] at h1 h2;exact ⟨h1.1.1,h1.2,h2.2⟩
theorem xx6 {p:Plan} {s:Site} {n:Int} {c:Call} (h:¬ Next p s n c):(sitTry p s n c).2.2=[]:=by
 unfold sitTry
 split
 · rename_i hok;rw [xzj] at hok;obtain ⟨hp,hs,hc⟩:=okE hok.1 hok.2;have hh:=xm8 hp hc;unfold siteTry;dsimp only
   split
   · rfl
   · rename_i h1
     split
     · rfl
     · rename_i h2;exfalso;simp only [x04,x05,xzk,not_or,x3x] at h1;exact h ⟨hok.1,hok.2,h1.1.1.1,by rw [hh]; omega,by omega⟩
 · rfl
theorem xy1 {p:Plan} {s:Site} {n:Int} {c:Call} (h:Next p s n c) :
 (sitFree p s n c=true->∃ x r,sitTry p s n c=(x,r,[])/\r.Code≠0/\x.Done.length=s.Done.length/\x.Done.getD c.Client.toNat Done.nil=⟨c.Seq,r⟩)/\(sitFree p s n c=false->sitTry p s n c=(s,Rslt.nil,[wantMsg c])):=by
 obtain ⟨h1,h2,h3,h4,h5⟩:=h;obtain ⟨hp,hs,hc⟩:=okE h1 h2;have hh:=xm8 hp hc;obtain ⟨c1,c2,c3,c4⟩:=xy.1 hc;have hdc:=kv hs
 have e:sitTry p s n c=if (!s.Frozen && (alone p.Acts (p.treaty s.Base) n s.Added c.Act c.Args).2.2)=true then ({ s with Added:=(alone p.Acts (p.treaty s.Base) n s.Added c.Act c.Args).2.1,Done:=s.Done.set c.Client.toNat ⟨c.Seq,(alone p.Acts (p.treaty s.Base) n s.Added c.Act c.Args).1⟩ },(alone p.Acts (p.treaty s.Base) n s.Added c.Act c.Args).1,[]) else (s,Rslt.nil,[wantMsg c]):=by
  unfold sitTry;rw [h1,h2,if_pos (show (true && true)=true from rfl)];unfold siteTry;dsimp only;rw [if_neg (by rw [h3]; simp only [x3t,Bool.false_or,x04,xzk,not_or]; omega),if_neg (by omega)]
 have ef:sitFree p s n c=(!s.Frozen && (alone p.Acts (p.treaty s.Base) n s.Added c.Act c.Args).2.2):=by unfold sitFree; rw [h1,h2,h3]; rfl
 rw [ef,e];constructor
 · intro hf;rw [hf,if_pos rfl];have hok2:(alone p.Acts (p.treaty s.Base) n s.Added c.Act c.Args).2.2=true:=by simp only [xzj] at hf; exact hf.2
   have hok:=xdk (res:=(alone p.Acts (p.treaty s.Base) n s.Added c.Act c.Args).1) (now:=(alone p.Acts (p.treaty s.Base) n s.Added c.Act c.Args).2.1) c4 (xaq hs) (by rw [<- hok2]; rfl);exact ⟨_,_,rfl,xhy hok.1,x03 ..,by rw [xmr (by omega),if_pos rfl]⟩
 · intro hf;rw [hf,if_neg (by decide)]
theorem law_sitFree (bs:List UInt8):Sem P 5 [(.pure,.one (sBy bs))] [] (B true):=by
 refine fO Go.Proofs.Tryz.f5 fun hb=>?_;have lb:(bytesRows bs).length=bs.length:=xzi ..;conv=>whnf
 repeat' first|((first|refine zz ?_|(refine xa ?_ ?_<;>intro _))<;>conv=>whnf)|(refine callS (xm2 bs) ?_; rintro _ ⟨p,s,n,c,rfl⟩;conv=>whnf)
 · exact ⟨rfl,rfl⟩
 have hF1:=xm6 p s n c;have hF2:=xm7 p s n c;have hT1:=xo2 p s n c;have hT2:=xo3 p s n c;have hO:=xdw p s n;have hC:=xbk p c;have hH:=xu3 p c.Client;have lds:(s.Done.map eD).length=s.Done.length:=xzi ..;have h0:siteOk p s n=true->callOk p c=true->(0<=c.Client/\c.Client<s.Done.length)/\(0<=(s.Done.getD c.Client.toNat Done.nil).Seq/\(s.Done.getD c.Client.toNat Done.nil).Seq<=300):=fun g1 g2=>by
  obtain ⟨hp,hs,hc⟩:=okE g1 g2;have hdc:=kv hs;obtain ⟨c1,c2,c3,c4⟩:=xy.1 hc;refine ⟨by omega,?_⟩;have hd:=(siteE hs).2.2.2;have hk:c.Client.toNat<s.Done.length:=by omega
  have hdk:(s.Done.getD c.Client.toNat Done.nil).ok=true:=by unfold doneOk at hd; simp only [xzj,xzl] at hd; exact hd.2 _ (xp hk)
  rw [kq] at hdk; simp only [xzj] at hdk; exact xc.1 hdk.1.1.1
 by_cases hN:Next p s n c
 · obtain ⟨t1,t2⟩:=xy1 hN;obtain ⟨n1,n2,n3,n4,n5⟩:=hN;obtain ⟨h01,h02⟩:=h0 n1 n2;rw [n1] at hO;rw [n2] at hC;rw [n4] at hH
   cases hf:sitFree p s n c with
   | true =>
     obtain ⟨x,r,e,hr,hl,hd⟩:=t1 hf;rw [hf] at hF1 hF2;rw [e] at hT1 hT2;replace hT1:Sem P 32 [(.pure,.agg (aPl p)),(.pure,.agg (aS s)),(.pure,I n),(.pure,.agg (aC c))] [] (.tup [(true,eS x),(true,eR r),(false,[fMs []])]):=hT1;replace hT2:Sem P 33 [(.pure,.agg (aPl p)),(.pure,.agg (aS s)),(.pure,I n),(.pure,.agg (aC c))] [] (.tup [(true,eS x),(true,eR r),(false,[fMs []])]):=hT2;have lxd:(x.Done.map eD).length=x.Done.length:=xzi ..;have hco:=ya (vb r r);rw [show r=(x.Done.getD c.Client.toNat Done.nil).Res from by rw [hd]] at hco;have hco2:Sem P 20 [(.pure,.agg (aR (x.Done.getD c.Client.toNat Done.nil).Res)),(.pure,.agg (aR r))] [] (B true):=by
      have:=ya (vb r r);rw [hd]; exact this
     repeat' first|((first|refine zz ?_|(refine xa ?_ ?_<;>intro _)|refine ⟨_,hF1,?_⟩|refine ⟨_,hF2,?_⟩|refine ⟨_,hT1,?_⟩|refine ⟨_,hT2,?_⟩|refine ⟨_,hO,?_⟩|refine ⟨_,hC,?_⟩|refine ⟨_,hH,?_⟩|refine ⟨_,ya (xax x x),?_⟩|refine ⟨_,ya (vb r r),?_⟩|refine ⟨_,ya (xcx [] []),?_⟩|refine ⟨_,hco2,?_⟩|refine ixI (enc:=eD) Done.nil (by omega) (by omega) ?_|refine wq ?_)<;>conv=>whnf)
     all_goals first
      | (exfalso; clear hF1 hF2 hT1 hT2 hO hC hH hco hco2 hb; simp_all; done)
      | (exfalso; clear hF1 hF2 hT1 hT2 hO hC hH hco hco2 hb; simp_all; omega)
      | exact ⟨rfl,rfl⟩
   | false =>
     have e:=t2 hf;rw [hf] at hF1 hF2;rw [e] at hT1 hT2;replace hT1:Sem P 32 [(.pure,.agg (aPl p)),(.pure,.agg (aS s)),(.pure,I n),(.pure,.agg (aC c))] [] (.tup [(true,eS s),(true,eR Rslt.nil),(false,[fMs [wantMsg c]])]):=hT1;replace hT2:Sem P 33 [(.pure,.agg (aPl p)),(.pure,.agg (aS s)),(.pure,I n),(.pure,.agg (aC c))] [] (.tup [(true,eS s),(true,eR Rslt.nil),(false,[fMs [wantMsg c]])]):=hT2
     repeat' first|((first|refine zz ?_|(refine xa ?_ ?_<;>intro _)|refine ⟨_,hF1,?_⟩|refine ⟨_,hF2,?_⟩|refine ⟨_,hT1,?_⟩|refine ⟨_,hT2,?_⟩|refine ⟨_,hO,?_⟩|refine ⟨_,hC,?_⟩|refine ⟨_,hH,?_⟩|refine ⟨_,ya (xax s s),?_⟩|refine ⟨_,ya (vb Rslt.nil Rslt.nil),?_⟩|refine ⟨_,ya (xcx [wantMsg c] [wantMsg c]),?_⟩|refine ⟨_,ya (xp3 c c),?_⟩|refine ixK rfl ?_|refine ixI (enc:=eD) Done.nil (by omega) (by omega) ?_|refine wq ?_)<;>conv=>whnf)
     all_goals first
      | (exfalso; clear hF1 hF2 hT1 hT2 hO hC hH hb; simp_all; done)
      | (exfalso; clear hF1 hF2 hT1 hT2 hO hC hH hb; simp_all; omega)
      | exact ⟨rfl,rfl⟩
 · have ho:=xx6 hN;generalize hfr:sitFree p s n c=fr at hF1 hF2;clear hfr;generalize sitTry p s n c=x at hT1 hT2 ho;obtain ⟨x,r,out⟩:=x;simp only at ho;subst ho;cases g1:siteOk p s n<;>cases g2:callOk p c
   all_goals
    rw [g1] at hO;rw [g2] at hC
   · repeat' first|((first|refine zz ?_|(refine xa ?_ ?_<;>intro _)|refine ⟨_,hF1,?_⟩|refine ⟨_,hF2,?_⟩|refine ⟨_,hT1,?_⟩|refine ⟨_,hT2,?_⟩|refine ⟨_,hO,?_⟩|refine ⟨_,hC,?_⟩|refine ⟨_,hH,?_⟩|refine ⟨_,ya (xax x x),?_⟩|refine ⟨_,ya (vb r r),?_⟩|refine ⟨_,ya (xcx [] []),?_⟩|refine ⟨_,xbj,?_⟩)<;>conv=>whnf)
     all_goals first
      | (exfalso; clear hF1 hF2 hT1 hT2 hO hC hH hb h0; simp_all; done)
      | exact ⟨rfl,rfl⟩
   · repeat' first|((first|refine zz ?_|(refine xa ?_ ?_<;>intro _)|refine ⟨_,hF1,?_⟩|refine ⟨_,hF2,?_⟩|refine ⟨_,hT1,?_⟩|refine ⟨_,hT2,?_⟩|refine ⟨_,hO,?_⟩|refine ⟨_,hC,?_⟩|refine ⟨_,hH,?_⟩|refine ⟨_,ya (xax x x),?_⟩|refine ⟨_,ya (vb r r),?_⟩|refine ⟨_,ya (xcx [] []),?_⟩|refine ⟨_,xbj,?_⟩)<;>conv=>whnf)
     all_goals first
      | (exfalso; clear hF1 hF2 hT1 hT2 hO hC hH hb h0; simp_all; done)
      | exact ⟨rfl,rfl⟩
   · repeat' first|((first|refine zz ?_|(refine xa ?_ ?_<;>intro _)|refine ⟨_,hF1,?_⟩|refine ⟨_,hF2,?_⟩|refine ⟨_,hT1,?_⟩|refine ⟨_,hT2,?_⟩|refine ⟨_,hO,?_⟩|refine ⟨_,hC,?_⟩|refine ⟨_,hH,?_⟩|refine ⟨_,ya (xax x x),?_⟩|refine ⟨_,ya (vb r r),?_⟩|refine ⟨_,ya (xcx [] []),?_⟩|refine ⟨_,xbj,?_⟩)<;>conv=>whnf)
     all_goals first
      | (exfalso; clear hF1 hF2 hT1 hT2 hO hC hH hb h0; simp_all; done)
      | exact ⟨rfl,rfl⟩
   · obtain ⟨h01,h02⟩:=h0 g1 g2;have hN':s.Up=true->home p c.Client=n->¬ c.Seq=(s.Done.getD c.Client.toNat Done.nil).Seq+1:=fun a b d=>hN ⟨g1,g2,a,b,d⟩;clear hN h0
     repeat' first|((first|refine zz ?_|(refine xa ?_ ?_<;>intro _)|refine ⟨_,hF1,?_⟩|refine ⟨_,hF2,?_⟩|refine ⟨_,hT1,?_⟩|refine ⟨_,hT2,?_⟩|refine ⟨_,hO,?_⟩|refine ⟨_,hC,?_⟩|refine ⟨_,hH,?_⟩|refine ⟨_,ya (xax x x),?_⟩|refine ⟨_,ya (vb r r),?_⟩|refine ⟨_,ya (xcx [] []),?_⟩|refine ⟨_,xbj,?_⟩|refine ixI (enc:=eD) Done.nil (by omega) (by omega) ?_|refine wq ?_)<;>conv=>whnf)
     all_goals first
      | exact ⟨rfl,rfl⟩
      | (exfalso; clear hF1 hF2 hT1 hT2 hO hC hH hb; simp_all; done)
      | (exfalso; clear hF1 hF2 hT1 hT2 hO hC hH hb; simp_all; omega)
end Cc
end
