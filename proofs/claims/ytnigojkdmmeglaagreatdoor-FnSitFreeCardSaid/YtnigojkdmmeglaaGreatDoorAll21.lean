/- The laws FnMsgOk, FnSitFree: part 21 of 41. No conditions beyond the statement. -/
import Derived.Test.YtnigojkdmmeglaaGreatDoorAll20
set_option linter.unusedVariables false
set_option linter.unusedSimpArgs false
set_option maxRecDepth 100000
set_option maxHeartbeats 16000000
section
namespace Cc
open Go Go.AM
theorem ji {α:Type} {f:α->Nat} {m:Nat}:∀ {l:List α},(∀ x∈l,f x<=m)->zs f l<=l.length*m
 | [],_=>by simp [zs]
 | a::r,h=>by
   have h1:=h a (xz5 ..);have h2:=ji (f:=f) (m:=m) (l:=r) (fun x hx=>h x (xzp _ hx));unfold zs at *;rw [x0d,List.sum_cons,xz6,x1g];omega
theorem kr {d:Done} (h:d.ok=true):d.Res.Tells.length<=6:=by
 unfold Done.ok at h
 split at h
 · unfold Rslt.none at h;simp only [xzj,x1p] at h;rw [h.2]; simp
 · simp only [xzj] at h;exact (yg.1 h.2).2.2.1
theorem yl {p:Plan} {l:List Done} (hc:inB p.Clients 0 4=true) (h:doneOk p l=true):l.length<=4/\zDs l<=100:=by
 unfold doneOk at h;simp only [xzj,xzk,xzl] at h;have h1:=xc.1 hc;have h2:=ji (f:=zD) (m:=6) (l:=l) fun x hx=>by unfold zD zR; exact kr (h.2 x hx)
 have h3:l.length<=4:=by omega
 unfold zDs;have:l.length*6<=4*6:=x0b _ h3;omega
theorem siteE {p:Plan} {s:Site} {n:Int} (h:siteB p s n=true):(0<=s.Round/\s.Round<=200)/\valOk s.Base=true/\addedOk s.Added=true/\doneOk p s.Done=true:=by
 unfold siteB keeps trtKeeps at h;simp only [xzj] at h;exact ⟨xc.1 h.1.1.1,h.1.1.2,h.1.2.1.1.2,h.2⟩
theorem kt {p:Plan} {s:Site} {n:Int} (hc:inB p.Clients 0 4=true) (h:siteB p s n=true):zS s<=1000:=by
 obtain ⟨_,h1,h2,h3⟩:=siteE h;have a:=(xe.1 h1).1;have b:=(xu h2).1;have d:=(yl hc h3).2;unfold zS; omega
abbrev tT (b:Site × Rslt × List Msg):TV:=.tup [(true,aS b.1),(true,aR b.2.1),(false,[sMs b.2.2])]
abbrev tTf (b:Site × Rslt × List Msg):TV:=.tup [(true,aS b.1),(true,eR b.2.1),(false,[sMs b.2.2])]
abbrev tTc (b:Site × Rslt × List Msg):TV:=.tup [(true,eS b.1),(true,eR b.2.1),(false,[fMs b.2.2])]
theorem jz (s:Site):(aS s).length=(eS s).length/\∀ (j:Nat) (x y:AV),(aS s)[j]?=some x->(eS s)[j]?=some y->Cold x y:=by
 refine ⟨rfl,fun j x y h1 h2=>?_⟩
 match j,h1,h2 with
 | 0,h1,h2=>cases h1; cases h2; exact xl
 | 1,h1,h2=>cases h1; cases h2; exact xl
 | 2,h1,h2=>cases h1; cases h2; exact xl
 | 3,h1,h2=>cases h1; cases h2; exact xg
 | 4,h1,h2=>cases h1; cases h2; exact xg
 | 5,h1,h2=>cases h1; cases h2; exact xg
 | j+6,h1,h2=>simp at h1
theorem xwi (r:Rslt):(aR r).length=(eR r).length/\∀ (j:Nat) (x y:AV),(aR r)[j]?=some x->(eR r)[j]?=some y->Cold x y:=by
 refine ⟨rfl,fun j x y h1 h2=>?_⟩
 match j,h1,h2 with
 | 0,h1,h2=>cases h1; cases h2; exact xl
 | 1,h1,h2=>cases h1; cases h2; exact xg
 | j+2,h1,h2=>simp at h1
theorem xj1 (r:Rslt):(eR r).length=(eR r).length/\∀ (j:Nat) (x y:AV),(eR r)[j]?=some x->(eR r)[j]?=some y->Cold x y:=by
 refine ⟨rfl,fun j x y h1 h2=>?_⟩
 match j,h1,h2 with
 | 0,h1,h2=>cases h1; cases h2; exact xl
 | 1,h1,h2=>cases h1; cases h2; exact x1
 | j+2,h1,h2=>simp at h1
theorem vp (t:Nat) (rows:List (List AV)):([AV.sl t rows]:List AV).length=[AV.fr [] t rows].length/\∀ (j:Nat) (x y:AV),[AV.sl t rows][j]?=some x->[AV.fr [] t rows][j]?=some y->Cold x y:=by
 refine ⟨rfl,fun j x y h1 h2=>?_⟩
 match j,h1,h2 with
 | 0,h1,h2=>cases h1; cases h2; exact xg
 | j+1,h1,h2=>simp at h1
theorem coldTry {f:Nat} {ins:List (Go.AM.Mode × TV)} {b:Site × Rslt × List Msg} (h:Sem P f ins [] (tT b)):Sem P f ins [] (tTc b):=by
 refine Sem.coldT (vs:=[(true,aS b.1),(true,aR b.2.1),(false,[sMs b.2.2])]) rfl (fun k a cs c cs' h1 h2=>?_) h
 match k,h1,h2 with
 | 0,h1,h2=>cases h1; cases h2; exact ⟨rfl,jz _⟩
 | 1,h1,h2=>cases h1; cases h2; exact ⟨rfl,xwi _⟩
 | 2,h1,h2=>cases h1; cases h2; exact ⟨rfl,vp _ _⟩
 | k+3,h1,h2=>simp at h1
theorem coldTry2 {f:Nat} {ins:List (Go.AM.Mode × TV)} {b:Site × Rslt × List Msg} (h:Sem P f ins [] (tTf b)):Sem P f ins [] (tTc b):=by
 refine Sem.coldT (vs:=[(true,aS b.1),(true,eR b.2.1),(false,[sMs b.2.2])]) rfl (fun k a cs c cs' h1 h2=>?_) h
 match k,h1,h2 with
 | 0,h1,h2=>cases h1; cases h2; exact ⟨rfl,jz _⟩
 | 1,h1,h2=>cases h1; cases h2; exact ⟨rfl,xj1 _⟩
 | 2,h1,h2=>cases h1; cases h2; exact ⟨rfl,vp _ _⟩
 | k+3,h1,h2=>simp at h1
theorem vq (l:List Done) (k:Nat) (d:Done):(l.map eD).set k (eD d)=(l.set k d).map eD:=x1y.symm
theorem xj2 (p:Plan) (s:Site) (n:Int) (c:Call) (hp:planOk p=true) (hs:siteB p s n=true) (hc:callB p c=true) :
 Sem P 87 [(.pure,.agg (aPl p)),(.pure,.one (sPs (partsOf p.Acts))),(.pure,.one (sBs (pinsOf p.Acts))),(.pure,.agg (aS s)),(.pure,I n),(.pure,.agg (aC c))] [] (tTc (siteTry p s n c)):=by
 have hcl:=xi hp;have hsm:=kt hcl hs;obtain ⟨hr,hb',ha,hd⟩:=siteE hs;obtain ⟨c1,c2,c3,c4⟩:=xy.1 hc;have g1:=(planF hp).g1;have lg:=xb p.Gives;have hdl:=(yl hcl hd).1;have hdc:(s.Done.length:Int)=p.Clients:=by unfold doneOk at hd; simp only [xzj,xzk] at hd; exact hd.1
 have hcp:=jh s (by omega);have hA:=xh6 p.Acts ⟨s.Base,p.Gives⟩ n s.Added c.Act c.Args (by omega) hb' ha c4;have hk:c.Client.toNat<s.Done.length:=by omega
 have hk2:c.Client<((s.Done.map eD).length:Int):=by rw [xzi]; omega
 have hdk:(s.Done.getD c.Client.toNat Done.nil).ok=true:=by unfold doneOk at hd; simp only [xzj,xzl] at hd; exact hd.2 _ (xp hk)
 have hseq:0<=(s.Done.getD c.Client.toNat Done.nil).Seq/\(s.Done.getD c.Client.toNat Done.nil).Seq<=300:=by
  rw [kq] at hdk; simp only [xzj] at hdk; exact xc.1 hdk.1.1.1
 have ht6:=kr hdk;have g0:(0:Int)<((ints p.Gives).length:Int):=by omega
 have e:siteTry p s n c=(if !s.Up || decide (c.Client % p.Gives.length≠n) || decide (c.Seq<(s.Done.getD c.Client.toNat Done.nil).Seq) || decide (c.Seq>(s.Done.getD c.Client.toNat Done.nil).Seq+1) then (s,Rslt.nil,[])
  else if c.Seq=(s.Done.getD c.Client.toNat Done.nil).Seq then (s,(s.Done.getD c.Client.toNat Done.nil).Res,[])
  else if !s.Frozen && (alone p.Acts ⟨s.Base,p.Gives⟩ n s.Added c.Act c.Args).2.2 then ({ s with Added:=(alone p.Acts ⟨s.Base,p.Gives⟩ n s.Added c.Act c.Args).2.1,Done:=s.Done.set c.Client.toNat ⟨c.Seq,(alone p.Acts ⟨s.Base,p.Gives⟩ n s.Added c.Act c.Args).1⟩ },(alone p.Acts ⟨s.Base,p.Gives⟩ n s.Added c.Act c.Args).1,[])
  else (s,Rslt.nil,[wantMsg c])):=rfl
 have hz:(alone p.Acts ⟨s.Base,p.Gives⟩ n s.Added c.Act c.Args).2.2=true->(alone p.Acts ⟨s.Base,p.Gives⟩ n s.Added c.Act c.Args).1.Tells.length<=1000000:=fun h=>by
  have hkp:keeps p.Acts ⟨s.Base,p.Gives⟩ n s.Added=true:=by unfold siteB at hs; simp only [xzj] at hs; exact hs.1.2
  have:=xdk (res:=(alone p.Acts ⟨s.Base,p.Gives⟩ n s.Added c.Act c.Args).1) (now:=(alone p.Acts ⟨s.Base,p.Gives⟩ n s.Added c.Act c.Args).2.1) c4 hkp (by rw [<- h]);have:=(yg.1 this.1).2.2.1;omega
 rw [e];clear e;generalize alone p.Acts ⟨s.Base,p.Gives⟩ n s.Added c.Act c.Args=x at *;obtain ⟨r,ad,ok⟩:=x;have lds:(s.Done.map eD).length=s.Done.length:=xzi ..
 cases hb1:(!s.Up || decide (c.Client % p.Gives.length≠n) || decide (c.Seq<(s.Done.getD c.Client.toNat Done.nil).Seq) || decide (c.Seq>(s.Done.getD c.Client.toNat Done.nil).Seq+1)) with
 | true =>
   rw [if_pos rfl];rw [<- lg] at hb1;refine coldTry ?_;refine fK [2001,7003,9014] Go.Proofs.Tryz.f87 fun hb=>?_;conv=>whnf
   repeat' first|((first|refine zz ?_|(refine xa ?_ ?_<;>intro _)|refine ⟨_,hcp,?_⟩|refine ioN (by omega) (by omega) ?_|refine rwN (enc:=eD) Done.nil (by omega) ?_|refine r64 (by omega) (by omega) ?_|refine wq ?_)<;>conv=>whnf)
   all_goals first
    | exact ⟨rfl,rfl⟩
    | (exfalso; clear hA hcp hb hs hc hd hdk hz; simp_all; done)
    | (exfalso; clear hA hcp hb hs hc hd hdk hz; simp_all; omega)
 | false =>
   rw [if_neg (by decide)];rw [<- lg] at hb1;by_cases hq:c.Seq=(s.Done.getD c.Client.toNat Done.nil).Seq
   · rw [if_pos hq];refine coldTry ?_;refine fK [2001,7003,9014] Go.Proofs.Tryz.f87 fun hb=>?_;conv=>whnf
     repeat' first|((first|refine zz ?_|(refine xa ?_ ?_<;>intro _)|refine ⟨_,hcp,?_⟩|refine ioN (by omega) (by omega) ?_|refine rwN (enc:=eD) Done.nil (by omega) ?_|refine r64 (by omega) (by omega) ?_|refine wq ?_|refine ⟨_,yh (s.Done.getD c.Client.toNat Done.nil).Res (by omega),?_⟩)<;>conv=>whnf)
     all_goals first
      | exact ⟨rfl,rfl⟩
      | (exfalso; clear hA hcp hb hs hc hd hdk hz; simp_all; done)
      | (exfalso; clear hA hcp hb hs hc hd hdk hz; simp_all; omega)
   · rw [if_neg hq]
     cases ok with
     | false =>
       rw [if_neg (by simp)];refine coldTry ?_;refine fK [2001,7003,9014] Go.Proofs.Tryz.f87 fun hb=>?_;conv=>whnf
       repeat' first|((first|refine zz ?_|(refine xa ?_ ?_<;>intro _)|refine ⟨_,hcp,?_⟩|refine ioN (by omega) (by omega) ?_|refine rwN (enc:=eD) Done.nil (by omega) ?_|refine r64 (by omega) (by omega) ?_|refine wq ?_|refine ⟨_,qz p s,?_⟩|refine ⟨_,hA,?_⟩)<;>conv=>whnf)|(refine ⟨_,x3 c (by rw [(xe.1 c4).1]; decide),?_⟩;conv=>whnf)
       all_goals first
        | exact ⟨rfl,rfl⟩
        | (exfalso; clear hA hcp hb hs hc hd hdk hz; simp_all; done)
        | (exfalso; clear hA hcp hb hs hc hd hdk hz; simp_all; omega)
     | true =>
       cases hfz:s.Frozen with
       | true =>
         rw [if_neg (by simp)];refine coldTry ?_;refine fK [2001,7003,9014] Go.Proofs.Tryz.f87 fun hb=>?_;conv=>whnf
         repeat' first|((first|refine zz ?_|(refine xa ?_ ?_<;>intro _)|refine ⟨_,hcp,?_⟩|refine ioN (by omega) (by omega) ?_|refine rwN (enc:=eD) Done.nil (by omega) ?_|refine r64 (by omega) (by omega) ?_|refine wq ?_|refine ⟨_,qz p s,?_⟩|refine ⟨_,hA,?_⟩|refine ⟨_,yh r (hz rfl),?_⟩)<;>conv=>whnf)|(refine ⟨_,x3 c (by rw [(xe.1 c4).1]; decide),?_⟩;conv=>whnf)
         all_goals first
          | exact ⟨rfl,rfl⟩
          | (exfalso; clear hA hcp hb hs hc hd hdk hz; simp_all; done)
          | (exfalso; clear hA hcp hb hs hc hd hdk hz; simp_all; omega)
       | false =>
         rw [if_pos (by simp)];refine coldTry2 ?_;refine yp (E:={ E0 with keep:=[2001,7003,9014],fz:=[(11,[576897])] }) xm xn (fn:=Go.Proofs.Tryz.f87) (by kernel_rfl) (by kernel_rfl) (fun hb=>?_);conv=>whnf
         repeat' first|((first|refine zz ?_|(refine xa ?_ ?_<;>intro _)|refine ⟨_,hcp,?_⟩|refine ioN (by omega) (by omega) ?_|refine rwN (enc:=eD) Done.nil (by omega) ?_|refine r64 (by omega) (by omega) ?_|refine wq ?_|refine ⟨_,qz p s,?_⟩|refine ⟨_,hA,?_⟩|refine ⟨_,yh r (hz rfl),?_⟩)<;>conv=>whnf)|(refine ⟨_,x3 c (by rw [(xe.1 c4).1]; decide),?_⟩;conv=>whnf)
         all_goals first
          | (exfalso; clear hA hcp hb hs hc hd hdk hz; simp_all; done)
          | (exfalso; clear hA hcp hb hs hc hd hdk hz; simp_all; omega)
          | (refine ⟨?_,rfl⟩
             show TV.tup [(true,[eB s.Up,eB s.Frozen,eI s.Round,sI s.Base,sI ad,.sl 79 ((s.Done.map eD).set c.Client.toNat (eD ⟨c.Seq,r⟩))]),(true,eR r),(false,[.sl 55 []])]=_;rw [vq,hfz]
             rfl)
def gvAt (c:Clerk) (i:Nat):List Int:=(c.Got.take i).foldl (fun v g=>if g.Has then plus v g.Added else v) c.Base
theorem xe8 {c:Clerk} {i:Nat} (h:i<c.Got.length):gvAt c (i+1)=if (c.Got.getD i default).Has then plus (gvAt c i) (c.Got.getD i default).Added else gvAt c i:=by
 unfold gvAt; rw [xt h,List.foldl_append]; rfl
theorem xmn {c:Clerk} {i:Nat} (h:c.Got.length<=i):gvAt c i=given c:=by unfold gvAt given; rw [xzx h]
theorem xcv {p:Plan} {c:Clerk} (hc:ClerkF p c) {i:Nat} (h:i<c.Got.length) (hh:(c.Got.getD i default).Has=true):addedOk (c.Got.getD i default).Added=true/\seqsOk p (c.Got.getD i default).Seqs=true:=by
 have:=qf.1 hc.g i h;unfold gotB at this;rw [x04] at this;rcases this with h1|h1
 · unfold Got.none at h1; rw [hh] at h1; simp at h1
 · simp only [xzj] at h1;have hk:=h1.1.2;unfold keeps trtKeeps at hk;simp only [xzj] at hk;exact ⟨hk.1.1.2,h1.2⟩
theorem xpx {p:Plan} {c:Clerk} (hc:ClerkF p c):∀ i,i<=c.Got.length->(gvAt c i).length=3/\∀ x∈gvAt c i,-(10000+i*20000:Int)<=x/\x<=10000+i*20000:=by
 intro i
 induction i with
 | zero =>
   intro _;have:=xe.1 hc.b;simpa [gvAt] using this
 | succ i ih =>
   intro hi;obtain ⟨l,b⟩:=ih (by omega);rw [xe8 (by omega)]
   split
   · rename_i hh;have ha:=xu (xcv hc (i:=i) (by omega) hh).1;have:=xpu l ha.1 b ha.2;refine ⟨this.1,fun x hx=>?_⟩;have:=this.2 x hx;omega
   · exact ⟨l,fun x hx=>by have:=b x hx; omega⟩
def nextQ (p:Plan) (got:List Got) (x:Call):Int:=(got.getD (x.Client % p.Gives.length).toNat Got.nil).Seqs.getD x.Client.toNat 0+1
def runQ (p:Plan) (v:List Int) (x:Call):Rslt × List Int:=actRun (p.Acts.getD x.Act.toNat []) v x.Args
theorem xwj {p:Plan} {got:List Got} {wants:List Call} {v:List Int} {dn:List Done} {i:Nat} (h:i<wants.length) (hq:(wants.getD i default).Seq=nextQ p got (wants.getD i default)) :
 (foldWants p got (wants.drop i) v dn).1=(foldWants p got (wants.drop (i+1)) (runQ p v (wants.getD i default)).2 (dn.set (wants.getD i default).Client.toNat ⟨(wants.getD i default).Seq,(runQ p v (wants.getD i default)).1⟩)).1 /\
 (foldWants p got (wants.drop i) v dn).2.1=(foldWants p got (wants.drop (i+1)) (runQ p v (wants.getD i default)).2 (dn.set (wants.getD i default).Client.toNat ⟨(wants.getD i default).Seq,(runQ p v (wants.getD i default)).1⟩)).2.1 /\
 (foldWants p got (wants.drop i) v dn).2.2=(wants.getD i default,(runQ p v (wants.getD i default)).1)::(foldWants p got (wants.drop (i+1)) (runQ p v (wants.getD i default)).2 (dn.set (wants.getD i default).Client.toNat ⟨(wants.getD i default).Seq,(runQ p v (wants.getD i default)).1⟩)).2.2:=by
 rw [xbx h];generalize wants.getD i default=x at *;unfold nextQ at hq
 conv=>lhs; lhs; unfold foldWants
 conv=>rhs; lhs; lhs; unfold foldWants
 conv=>rhs; rhs; lhs; unfold foldWants
 rw [if_pos hq];exact ⟨rfl,rfl,rfl⟩
theorem xuk {p:Plan} {got:List Got} {wants:List Call} {v:List Int} {dn:List Done} {i:Nat} (h:i<wants.length) (hq:¬ (wants.getD i default).Seq=nextQ p got (wants.getD i default)) :
 foldWants p got (wants.drop i) v dn=foldWants p got (wants.drop (i+1)) v dn:=by
 rw [xbx h];generalize wants.getD i default=x at *;unfold nextQ at hq
 conv=>lhs; unfold foldWants
 rw [if_neg hq]
structure FAt (p:Plan) (c:Clerk) (i:Nat) (v:List Int) (dn:List Done) (ls:List (Call × Rslt)):Prop where
 hi:i<=c.Wants.length
 hv:valOk v=true
 hd:doneOk p dn=true
 hl:ls.length<=i
 h1:(foldWants p c.Got c.Wants (given c) c.Done).1=(foldWants p c.Got (c.Wants.drop i) v dn).1
 h2:(foldWants p c.Got c.Wants (given c) c.Done).2.1=(foldWants p c.Got (c.Wants.drop i) v dn).2.1
 h3:(foldWants p c.Got c.Wants (given c) c.Done).2.2=ls++(foldWants p c.Got (c.Wants.drop i) v dn).2.2
theorem FAt.zero {p:Plan} {c:Clerk} (hc:ClerkF p c) (hg:valOk (given c)=true):FAt p c 0 (given c) c.Done []:=⟨xz1 _,hg,hc.d,x0r _,rfl,rfl,rfl⟩
theorem FAt.yes {p:Plan} {c:Clerk} {i:Nat} {v:List Int} {dn:List Done} {ls:List (Call × Rslt)} (hp:PlanF p) (hc:ClerkF p c) (h:FAt p c i v dn ls) (hi:i<c.Wants.length) (hq:(c.Wants.getD i default).Seq=nextQ p c.Got (c.Wants.getD i default)) :
 FAt p c (i+1) (runQ p v (c.Wants.getD i default)).2 (dn.set (c.Wants.getD i default).Client.toNat ⟨(c.Wants.getD i default).Seq,(runQ p v (c.Wants.getD i default)).1⟩) (ls++[(c.Wants.getD i default,(runQ p v (c.Wants.getD i default)).1)]):=by
 have hx:=hc.w _ (xp hi);obtain ⟨k1,k2,k3⟩:=xe0 (xgo hp hx) h.hv (xy.1 hx).2.2.2;obtain ⟨e1,e2,e3⟩:=xwj (p:=p) (got:=c.Got) (v:=v) (dn:=dn) hi hq;refine ⟨hi,k2,xdl h.hd (xan (xy.1 hx).2.1 k1),?_,h.h1.trans e1,h.h2.trans e2,?_⟩
 · have:=h.hl; simp only [xzu,x0e]; omega
 · rw [h.h3,e3,x0c]; rfl
theorem FAt.no {p:Plan} {c:Clerk} {i:Nat} {v:List Int} {dn:List Done} {ls:List (Call × Rslt)} (h:FAt p c i v dn ls) (hi:i<c.Wants.length) (hq:¬ (c.Wants.getD i default).Seq=nextQ p c.Got (c.Wants.getD i default)):FAt p c (i+1) v dn ls:=by
 have e:=xuk (p:=p) (got:=c.Got) (v:=v) (dn:=dn) hi hq;exact ⟨hi,h.hv,h.hd,by have:=h.hl; omega,e▸h.h1,e▸h.h2,e▸h.h3⟩
theorem FAt.fin {p:Plan} {c:Clerk} {i:Nat} {v:List Int} {dn:List Done} {ls:List (Call × Rslt)} (h:FAt p c i v dn ls) (hi:c.Wants.length<=i) :
 (foldWants p c.Got c.Wants (given c) c.Done).1=v/\(foldWants p c.Got c.Wants (given c) c.Done).2.1=dn/\(foldWants p c.Got c.Wants (given c) c.Done).2.2=ls:=by
 have e:c.Wants.drop i=[]:=x1x hi;have h1:=h.h1; have h2:=h.h2; have h3:=h.h3;rw [e] at h1 h2 h3;exact ⟨h1,h2,h3.trans (x0l _)⟩
theorem FAt.run {p:Plan} {c:Clerk} {i:Nat} {v:List Int} {dn:List Done} {ls:List (Call × Rslt)} (hp:PlanF p) (hc:ClerkF p c) (h:FAt p c i v dn ls) (hi:i<c.Wants.length):(runQ p v (c.Wants.getD i default)).1.Tells.length<=6:=by
 have hx:=hc.w _ (xp hi);obtain ⟨k1,k2,k3⟩:=xe0 (xgo hp hx) h.hv (xy.1 hx).2.2.2;exact (yg.1 k1).2.2.1
theorem xul {p:Plan} {c:Clerk} (hg:c.Got.length=p.Gives.length):readyB c=!decide ((c.Got.countP Got.Has:Int)<(p.Gives.length:Int)):=by
 have hle:c.Got.countP Got.Has<=c.Got.length:=x2m;unfold readyB
 cases h:c.Got.all Got.Has with
 | true =>
   have:c.Got.countP Got.Has=c.Got.length:=List.countP_eq_length.2 (fun x hx=>xzl.1 h x hx);symm; rw [x05,xzw]; omega
 | false =>
   have:c.Got.countP Got.Has≠c.Got.length:=fun e=>by
    have:=List.countP_eq_length.1 e;rw [xzl.2 this] at h; cases h
   symm; rw [Bool.not_eq_false',xzk]; omega
theorem xum {p:Plan} {c:Clerk} (h:(!readyB c || decide (c.Round=200) || !valOk (given c))=true):clerkFold p c=(c,[]):=by unfold clerkFold; rw [if_pos h]
theorem xrp {p:Plan} {c:Clerk} (h:(!readyB c || decide (c.Round=200) || !valOk (given c))=false):clerkFold p c=({ Up:=c.Up,Round:=c.Round+1,Base:=(foldWants p c.Got c.Wants (given c) c.Done).1,Done:=(foldWants p c.Got c.Wants (given c) c.Done).2.1,Wants:=[],Got:=List.replicate c.Got.length Got.nil },(foldWants p c.Got c.Wants (given c) c.Done).2.2):=by unfold clerkFold; rw [if_neg (by rw [h]; simp)]
theorem xaa {p:Plan} {c:Clerk} (hc:ClerkF p c) (hcl:inB p.Clients 0 4=true):c.Wants.length<=4:=by
 have hb:=xc.1 hcl;have key:∀ (l:List Call) (n:Int),(∀ x∈l,n<=x.Client/\x.Client<=3)->l.Pairwise (fun a b=>a.Client<b.Client)->n<=4->(l.length:Int)<=4 - n:=by
  intro l
  induction l with
  | nil=>intro n _ _ h; simp only [xz4]; omega
  | cons a r ih =>
    intro n h1 h2 h3;have ha:=h1 a (xz5 ..);rw [x3s] at h2;have:=ih (a.Client+1) (fun x hx=>⟨by have:=h2.1 x hx; omega,(h1 x (xzp _ hx)).2⟩) h2.2 (by omega);simp only [xz6]; omega
 have:=key c.Wants 0 (fun x hx=>by have:=(xy.1 (hc.w x hx)).1; omega) hc.ri (by omega);omega
theorem q9 {p:Plan} {c:Clerk} (hc:ClerkF p c) (hcl:inB p.Clients 0 4=true) (hg:p.Gives.length<=3):zK c<=1000:=by
 have hb:=xc.1 hcl;have h1:=(xe.1 hc.b).1;have h2:=yl hcl hc.d;have h3:=xaa hc hcl;have h4:zs zC c.Wants<=c.Wants.length*2:=ji fun x hx=>by
  have:=(xe.1 (xy.1 (hc.w x hx)).2.2.2).1;unfold zC; omega
 have h5:zs zG c.Got<=c.Got.length*7:=ji fun x hx=>by
  obtain ⟨i,hi,rfl⟩:=x0h.1 hx;have e:c.Got.getD i default=c.Got[i]:=by rw [xzo,xzh hi]; rfl
  cases hh:(c.Got.getD i default).Has with
  | true =>
    obtain ⟨k1,k2⟩:=xcv hc hi hh;have k3:=(xu k1).1;unfold seqsOk at k2;simp only [xzj,xzk] at k2;rw [e] at k2 k3;unfold zG; omega
  | false =>
    have:=qf.1 hc.g i hi;unfold gotB Got.none at this;rw [hh] at this;simp only [x2j,x1h,Bool.false_and,x26,xzj,x1p] at this;rw [e] at this;unfold zG; rw [this.1,this.2]; simp
 have h6:c.Wants.length*2<=4*2:=x0b _ h3;have h7:c.Got.length*7<=3*7:=x0b _ (by rw [hc.gl]; exact hg);have:=hc.gl;unfold zK zCs zGs;omega
end Cc
end
