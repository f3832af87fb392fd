/- The laws FnMsgOk, FnSitFree: part 6 of 41. No conditions beyond the statement. -/
import Derived.Laws.Strings
import Derived.Test.YtnigojkdmmeglaaGreatDoorAll5
set_option linter.unusedVariables false
set_option linter.unusedSimpArgs false
set_option maxRecDepth 100000
set_option maxHeartbeats 16000000
section
namespace Cc
open Go Go.AM
abbrev eT (l:List UInt8):AV:=.prim (.string ⟨l.toArray⟩)
abbrev T (l:List UInt8):TV:=.one (eT l)
theorem w8 {e:Int} {k:Int->Prop} (h1:0<=e) (h2:e<=255) (h:k e):∃ c,IntKind.u8.wrap e=c/\k c:=⟨e,by simp [IntKind.wrap,IntKind.signed,IntKind.bits]; omega,h⟩
theorem v7 (a b:List UInt8):(⟨a.toArray⟩:ByteArray)++⟨b.toArray⟩=⟨(a++b).toArray⟩:=by
 apply ByteArray.ext;simp
theorem catT {a b:List UInt8} {q:Prop} (h:a.length+b.length<=9000000000000000000) (hq:q):(((⟨a.toArray⟩:ByteArray).size+(⟨b.toArray⟩:ByteArray).size:Nat):Int)<=9223372036854775807/\q:=by
 refine ⟨?_,hq⟩;show ((a.toArray.size+b.toArray.size:Nat):Int)<=_;simp only [x1t]; omega
theorem byteRow {n:Int} (h:0<=n/\n<=255):[[AV.prim (Value.int .u8 n)]]=bytesRows [UInt8.ofNat n.toNat]:=by
 have e:((UInt8.ofNat n.toNat).toNat:Int)=n:=by simp; omega
 simp only [bytesRows,x0d,x18,e]
theorem xkb {u:Nat} (h:¬ u<10):Lib.decDigits u=Lib.decDigits (u / 10)++[UInt8.ofNat (48+u % 10)]:=by rw [Lib.decDigits,dif_neg h]
theorem xq2 (u:Nat):Lib.nDigits u<=u+1:=by
 induction u using Nat.strongRecOn with
 | _ u ih =>
   by_cases h:u<10
   · rw [Lib.nDigits_small h]; omega
   · rw [Lib.nDigits_big h]; have:=ih (u / 10) (by omega); omega
theorem xep (n0:Int) (h0:0<=n0) (h1:n0<=1000000000000000):Sem P 301 [(.pure,I n0)] [] (T (Lib.decDigits n0.toNat)):=by
 refine fO Go.Proofs.Tryz.f301 fun hb=>?_;conv=>whnf
 (refine zA ?_)
 refine xa (fun h=>?_) (fun h=>?_)
 · exfalso; simp at h; omega
 · conv=>whnf
   (refine zA ?_)
   refine Vc.loop2 (fun (n:Int) (l:List UInt8)=>0<=n/\n<=n0/\Lib.decDigits n.toNat++l=Lib.decDigits n0.toNat) (fun n l=>updL [2,22,23,24,25,26,27,28] [(0,I n),(3,T l)] []) (fun n _=>n.toNat) n0 [] ⟨h0,by omega,by simp⟩ ?_ (fun n l hi=>?_)
   · exact wl
   · obtain ⟨g0,g1,g2⟩:=hi;have hlen:l.length<=n0.toNat+1:=by
      have e:=congrArg List.length g2;rw [xzu,Lib.decDigits_length,Lib.decDigits_length] at e
      have:=xq2 n0.toNat
      omega
     conv=>whnf
     (refine zA ?_)
     refine xd (fun g=>?_) (fun g=>?_)
     all_goals conv=>whnf
     · repeat' first|((first|refine zz ?_|(refine xa ?_ ?_<;>intro _)|refine r64 (by omega) (by omega) ?_|refine wq ?_|refine w8 (by omega) (by omega) ?_|refine ⟨_,byteRow (by omega),?_⟩)<;>conv=>whnf)|(refine catT (by simp; omega) ?_; rw [v7];conv=>whnf)|((first|refine q64 (by omega) (by omega) (by omega) ?_)<;>conv=>whnf)
       refine ⟨n / 10,[UInt8.ofNat (48+n % 10).toNat]++l,⟨by omega,by omega,?_⟩,by simp only; omega,?_⟩
       · rw [<- g2,xkb (u:=n.toNat) (by omega),x0c];have e1:(n / 10).toNat=n.toNat / 10:=by omega
         have e2:(48+n % 10).toNat=48+n.toNat % 10:=by omega
         rw [e1,e2]
       · exact wl
     · repeat' first|((first|refine zz ?_|(refine xa ?_ ?_<;>intro _)|refine wq ?_|refine w8 (by omega) (by omega) ?_|refine ⟨_,byteRow (by omega),?_⟩)<;>conv=>whnf)|(refine catT (by simp; omega) ?_; rw [v7];conv=>whnf)
       have e:n.toNat<10:=by omega
       rw [Lib.decDigits_one e] at g2;have e2:(48+n).toNat=48+n.toNat:=by omega
       exact ⟨by rw [e2,g2],rfl⟩
theorem xb9 (n:Int) (h0 : -1000000000000000<=n) (h1:n<=1000000000000000):Sem P 301 [(.pure,I n)] [] (T (Lib.itoa n)):=by
 by_cases hn:0<=n
 · have e:Lib.itoa n=Lib.decDigits n.toNat:=by rw [Lib.itoa,if_neg (by omega)]
   rw [e]; exact xep n hn h1
 · have e:Lib.itoa n=45::Lib.decDigits (0 - n).toNat:=by
    rw [Lib.itoa,if_pos (by omega)];congr 2; omega
   have hl:(Lib.decDigits (0 - n).toNat).length<=21:=by
    rw [Lib.decDigits_length];have:=v6 19 (u:=(0 - n).toNat) (by omega);omega
   rw [e];refine fO Go.Proofs.Tryz.f301 fun hb=>?_;conv=>whnf
   (refine zA ?_)
   refine xa (fun h=>?_) (fun h=>?_)
   · conv=>whnf
     repeat' first|((first|refine zz ?_|(refine xa ?_ ?_<;>intro _)|refine wq ?_|refine ⟨_,xep (0 - n) (by omega) (by omega),?_⟩)<;>conv=>whnf)|(refine catT (a:=[45]) (by rw [x0e]; omega) ?_; rw [v7 [45]];conv=>whnf)
     exact ⟨rfl,rfl⟩
   · exfalso; simp at h; omega
def codeT (n:Int):List UInt8:=if n=1 then [100,111,110,101] else if n=2 then [115,116,111,112,112,101,100] else [111,118,101,114]
def resT (r:Rslt):List UInt8:=if resOk r then codeT r.Code++joinT r.Tells else []
theorem yg {r:Rslt}:resOk r=true↔(1<=r.Code/\r.Code<=3)/\(r.Code=1\/r.Tells=[])/\r.Tells.length<=6/\within r.Tells r.Tells.length 999999999999=true:=by
 simp [resOk,xc,and_assoc]
theorem xlo {r:Rslt} (h:resOk r=true):∀ x∈r.Tells,-999999999999<=x/\x<=999999999999:=(xe.1 (yg.1 h).2.2.2).2
theorem xeq (n:Int):(codeT n).length<=7:=by unfold codeT; split<;>(try split)<;>decide
theorem xq3:Sem P 294 [] [] (.one (.sl 9 [[eT []],[eT [100,111,110,101]],[eT [115,116,111,112,112,101,100]],[eT [111,118,101,114]]])):=by
 refine fO Go.Proofs.Tryz.f294 fun hb=>?_;conv=>whnf
 repeat' first|((first|refine zz ?_|(refine xa ?_ ?_<;>intro _))<;>conv=>whnf)
 exact ⟨rfl,rfl⟩
theorem xlp (r:Rslt):Sem P 255 [(.pure,.agg (aR r))] [] (T (resT r)):=by
 by_cases hr:resOk r=true
 · have hb3:=xlo hr;have e:resT r=codeT r.Code++joinT r.Tells:=by rw [resT,if_pos hr]
   rw [e];obtain ⟨⟨h1,h2⟩,h3,h4,h5⟩:=yg.1 hr;obtain ⟨code,tells⟩:=r;simp only at h1 h2 h3 h4 h5 hb3 ⊢;have hj:=jw (l:=tells) fun x hx=>by have:=hb3 x hx; omega
   have lt:=xb tells;rw [<- lt] at h5;have hc:code=1\/code=2\/code=3:=by omega
   rcases hc with rfl|rfl|rfl
   all_goals
    refine fO Go.Proofs.Tryz.f255 fun hb=>?_;conv=>whnf
    repeat' first|((first|refine zz ?_|(refine xa ?_ ?_<;>intro _)|refine ⟨_,x6 _ _ _,?_⟩|refine ⟨_,yq tells (ints tells).length _ (by omega),?_⟩|refine ⟨_,xq3,?_⟩)<;>conv=>whnf)|(refine ⟨_,xny tells (by omega) (fun x hx=>by have:=hb3 x hx; omega),?_⟩;conv=>whnf)|(refine ixC (by dsimp only; decide) rfl ?_;conv=>whnf)|(refine catT (by simp; omega) ?_; rw [v7];conv=>whnf)
    all_goals first
     | exact ⟨rfl,rfl⟩
     | (exfalso; simp_all; done)
     | (exfalso; simp_all; omega)
 · have e:resT r=[]:=by rw [resT,if_neg hr]
   rw [e];refine fO Go.Proofs.Tryz.f255 fun hb=>?_;have lt:=xb r.Tells;conv=>whnf
   repeat' first|((first|refine zz ?_|(refine xa ?_ ?_<;>intro _)|refine ⟨_,x6 _ _ _,?_⟩|refine ⟨_,yq r.Tells (ints r.Tells).length _ (by omega),?_⟩)<;>conv=>whnf)
   all_goals first
    | exact ⟨rfl,rfl⟩
    | (exfalso; refine hr (yg.2 ?_); simp_all [xc]; done)
    | (exfalso; refine hr (yg.2 ?_); simp_all [xc]; omega)
theorem xpg (l:List UInt8):(!((⟨l.toArray⟩:ByteArray).toList == (⟨#[]⟩:ByteArray).toList))=!l.isEmpty:=by
 rw [ByteArray.toList_mk,show (⟨#[]⟩:ByteArray)=⟨([]:List UInt8).toArray⟩ from rfl,ByteArray.toList_mk];cases l<;>rfl
theorem xph (r:Rslt):(!(resT r).isEmpty)=resOk r:=by
 unfold resT;cases h:resOk r
 · rfl
 · simp only [if_true];unfold codeT
   split<;>(try split)<;>rfl
theorem xq4 (r:Rslt):Sem P 192 [(.pure,.agg (aR r))] [] (B (resOk r)):=by
 refine fO Go.Proofs.Tryz.f192 fun hb=>?_;conv=>whnf
 repeat' first|((first|refine zz ?_|(refine xa ?_ ?_<;>intro _)|refine ⟨_,xlp r,?_⟩)<;>conv=>whnf)
 exact rB (by rw [<- xph,<- xpg])
theorem xlq (r:Rslt):Sem P 272 [(.pure,.agg (aR r))] [] (T (resT r)):=by
 by_cases hr:resOk r=true
 · have hb3:=xlo hr;have e:resT r=codeT r.Code++joinT r.Tells:=by rw [resT,if_pos hr]
   rw [e];obtain ⟨⟨h1,h2⟩,h3,h4,h5⟩:=yg.1 hr;obtain ⟨code,tells⟩:=r;simp only at h1 h2 h3 h4 h5 hb3 ⊢;have lt:=xb tells;rw [<- lt] at h5;have hc:code=1\/code=2\/code=3:=by omega
   rcases hc with rfl|rfl|rfl
   · refine fO Go.Proofs.Tryz.f272 fun hb=>?_;conv=>whnf
     repeat' first|((first|refine zz ?_|(refine xa ?_ ?_<;>intro _)|refine ⟨_,xj _ _ _,?_⟩|refine ⟨_,x9 tells (ints tells).length _ (by omega),?_⟩|refine rwC rfl ?_)<;>conv=>whnf)|(refine ioN (by dsimp only; decide) (by dsimp only; decide) ?_;conv=>whnf)
     all_goals first
      | (exfalso; simp_all; done)
      | (exfalso; simp_all; omega)
      | skip
     refine Vc.loop2 (fun (i:Nat) (l:List UInt8)=>i<=tells.length/\l=codeT 1++joinT (tells.take i)) (fun i l=>updL [1,2,58] [(5,I i),(4,T l)] []) (fun i _=>tells.length - i) 0 (codeT 1) ⟨by omega,by simp [joinT]⟩ ?_ (fun i l hi=>?_)
     · exact wl
     · obtain ⟨hi,rfl⟩:=hi;have hj:=jw (l:=tells.take i) fun x hx=>by have:=hb3 x (x0u hx); omega
       rw [xz3,x1k hi] at hj;have hw:=xeq 1;conv=>whnf
       (refine zA ?_)
       refine xd (fun g=>?_) (fun g=>?_)
       all_goals conv=>whnf
       · have hin:i<tells.length:=by simp only at g; omega
         have hm:=hb3 (tells.getD i 0) (by rw [xzo,xzh hin]; exact x0m hin);have hil:=xa5 (n:=tells.getD i 0) (by omega)
         repeat' first|((first|refine zz ?_|(refine xa ?_ ?_<;>intro _))<;>conv=>whnf)|(with_reducible refine catT (b:=[32]) ?_ ?_; (simp only [xzu,x0e]; omega); rw [v7 _ [32]];conv=>whnf)|(with_reducible refine catT ?_ ?_; (simp only [xzu,x0e]; omega); rw [v7];conv=>whnf)|((first|refine wq ?_|refine ⟨_,xb9 (tells.getD i 0) (by omega) (by omega),?_⟩|refine ixN (enc:=rI) (L:=tells) 0 hin ?_)<;>conv=>whnf)
         refine ⟨i+1,codeT 1++joinT (tells.take i)++[32]++Lib.itoa (tells.getD i 0),⟨by omega,by rw [xal hin]; simp⟩,by simp only; omega,?_⟩;exact wl
       · repeat' first|((first|refine zz ?_|(refine xa ?_ ?_<;>intro _))<;>conv=>whnf)
         have e:i=tells.length:=by simp only at g; omega
         subst e;exact ⟨by rw [x1e],rfl⟩
   · refine fO Go.Proofs.Tryz.f272 fun hb=>?_;conv=>whnf
     repeat' first|((first|refine zz ?_|(refine xa ?_ ?_<;>intro _)|refine ⟨_,xj _ _ _,?_⟩|refine ⟨_,x9 tells (ints tells).length _ (by omega),?_⟩|refine rwC rfl ?_)<;>conv=>whnf)|(refine ioN (by dsimp only; decide) (by dsimp only; decide) ?_;conv=>whnf)
     all_goals first
      | (exfalso; simp_all; done)
      | (exfalso; simp_all; omega)
      | skip
     refine Vc.loop2 (fun (i:Nat) (l:List UInt8)=>i<=tells.length/\l=codeT 2++joinT (tells.take i)) (fun i l=>updL [1,2,58] [(5,I i),(4,T l)] []) (fun i _=>tells.length - i) 0 (codeT 2) ⟨by omega,by simp [joinT]⟩ ?_ (fun i l hi=>?_)
     · exact wl
     · obtain ⟨hi,rfl⟩:=hi;have hj:=jw (l:=tells.take i) fun x hx=>by have:=hb3 x (x0u hx); omega
       rw [xz3,x1k hi] at hj;have hw:=xeq 2;conv=>whnf
       (refine zA ?_)
       refine xd (fun g=>?_) (fun g=>?_)
       all_goals conv=>whnf
       · have hin:i<tells.length:=by simp only at g; omega
         have hm:=hb3 (tells.getD i 0) (by rw [xzo,xzh hin]; exact x0m hin);have hil:=xa5 (n:=tells.getD i 0) (by omega)
         repeat' first|((first|refine zz ?_|(refine xa ?_ ?_<;>intro _))<;>conv=>whnf)|(with_reducible refine catT (b:=[32]) ?_ ?_; (simp only [xzu,x0e]; omega); rw [v7 _ [32]];conv=>whnf)|(with_reducible refine catT ?_ ?_; (simp only [xzu,x0e]; omega); rw [v7];conv=>whnf)|((first|refine wq ?_|refine ⟨_,xb9 (tells.getD i 0) (by omega) (by omega),?_⟩|refine ixN (enc:=rI) (L:=tells) 0 hin ?_)<;>conv=>whnf)
         refine ⟨i+1,codeT 2++joinT (tells.take i)++[32]++Lib.itoa (tells.getD i 0),⟨by omega,by rw [xal hin]; simp⟩,by simp only; omega,?_⟩;exact wl
       · repeat' first|((first|refine zz ?_|(refine xa ?_ ?_<;>intro _))<;>conv=>whnf)
         have e:i=tells.length:=by simp only at g; omega
         subst e;exact ⟨by rw [x1e],rfl⟩
   · refine fO Go.Proofs.Tryz.f272 fun hb=>?_;conv=>whnf
     repeat' first|((first|refine zz ?_|(refine xa ?_ ?_<;>intro _)|refine ⟨_,xj _ _ _,?_⟩|refine ⟨_,x9 tells (ints tells).length _ (by omega),?_⟩|refine rwC rfl ?_)<;>conv=>whnf)|(refine ioN (by dsimp only; decide) (by dsimp only; decide) ?_;conv=>whnf)
     all_goals first
      | (exfalso; simp_all; done)
      | (exfalso; simp_all; omega)
      | skip
     refine Vc.loop2 (fun (i:Nat) (l:List UInt8)=>i<=tells.length/\l=codeT 3++joinT (tells.take i)) (fun i l=>updL [1,2,58] [(5,I i),(4,T l)] []) (fun i _=>tells.length - i) 0 (codeT 3) ⟨by omega,by simp [joinT]⟩ ?_ (fun i l hi=>?_)
     · exact wl
     · obtain ⟨hi,rfl⟩:=hi;have hj:=jw (l:=tells.take i) fun x hx=>by have:=hb3 x (x0u hx); omega
       rw [xz3,x1k hi] at hj;have hw:=xeq 3;conv=>whnf
       (refine zA ?_)
       refine xd (fun g=>?_) (fun g=>?_)
       all_goals conv=>whnf
       · have hin:i<tells.length:=by simp only at g; omega
         have hm:=hb3 (tells.getD i 0) (by rw [xzo,xzh hin]; exact x0m hin);have hil:=xa5 (n:=tells.getD i 0) (by omega)
         repeat' first|((first|refine zz ?_|(refine xa ?_ ?_<;>intro _))<;>conv=>whnf)|(with_reducible refine catT (b:=[32]) ?_ ?_; (simp only [xzu,x0e]; omega); rw [v7 _ [32]];conv=>whnf)|(with_reducible refine catT ?_ ?_; (simp only [xzu,x0e]; omega); rw [v7];conv=>whnf)|((first|refine wq ?_|refine ⟨_,xb9 (tells.getD i 0) (by omega) (by omega),?_⟩|refine ixN (enc:=rI) (L:=tells) 0 hin ?_)<;>conv=>whnf)
         refine ⟨i+1,codeT 3++joinT (tells.take i)++[32]++Lib.itoa (tells.getD i 0),⟨by omega,by rw [xal hin]; simp⟩,by simp only; omega,?_⟩;exact wl
       · repeat' first|((first|refine zz ?_|(refine xa ?_ ?_<;>intro _))<;>conv=>whnf)
         have e:i=tells.length:=by simp only at g; omega
         subst e;exact ⟨by rw [x1e],rfl⟩
 · have e:resT r=[]:=by rw [resT,if_neg hr]
   rw [e];refine fO Go.Proofs.Tryz.f272 fun hb=>?_;have lt:=xb r.Tells;conv=>whnf
   repeat' first|((first|refine zz ?_|(refine xa ?_ ?_<;>intro _)|refine ⟨_,xj _ _ _,?_⟩|refine ⟨_,x9 r.Tells (ints r.Tells).length _ (by omega),?_⟩)<;>conv=>whnf)
   all_goals first
    | exact ⟨rfl,rfl⟩
    | (exfalso; refine hr (yg.2 ?_); simp_all [xc]; done)
    | (exfalso; refine hr (yg.2 ?_); simp_all [xc]; omega)
theorem j6 (r:Rslt):Sem P 224 [(.pure,.agg (aR r))] [] (B (resOk r)):=by
 refine fO Go.Proofs.Tryz.f224 fun hb=>?_;conv=>whnf
 repeat' first|((first|refine zz ?_|(refine xa ?_ ?_<;>intro _)|refine ⟨_,xlq r,?_⟩)<;>conv=>whnf)
 exact rB (by rw [<- xph,<- xpg])
end Cc
end
section
namespace Go.AM
open Go
def loopQ6 {E:Env} {α β γ δ ε ζ:Type} (P:α->β->γ->δ->ε->ζ->Prop) (upd:α->β->γ->δ->ε->ζ->St->St) (μ:α->β->γ->δ->ε->ζ->Nat) (st:St) (m:Nat) (Q:Ex->St->Prop) (e:Ex) (st':St):Prop:=match e with
 | .normal=>∃ a' b' c' d' e' f',P a' b' c' d' e' f'/\μ a' b' c' d' e' f'<m/\weak st' (upd a' b' c' d' e' f' st)
 | .exit id=>Q (.exit id) st'
 | .ret=>Q .ret st'
theorem Vc.loop6 {E:Env} {cd:Code} {st:St} {Q:Ex->St->Prop} {α β γ δ ε ζ:Type} (P:α->β->γ->δ->ε->ζ->Prop) (upd:α->β->γ->δ->ε->ζ->St->St) (μ:α->β->γ->δ->ε->ζ->Nat) (a0:α) (b0:β) (c0:γ) (d0:δ) (e0:ε) (f0:ζ) (h0:P a0 b0 c0 d0 e0 f0) (h1:weak st (upd a0 b0 c0 d0 e0 f0 st))
 (h2:∀ a b c d e f,P a b c d e f->fSt (upd a b c d e f st) fun s=>Vc E cd s (loopQ6 (E:=E) P upd μ st (μ a b c d e f) Q)):Vc E (.loop cd) st Q:=by
 refine Vc.loop1 (α:=α × β × γ × δ × ε × ζ) (fun x=>P x.1 x.2.1 x.2.2.1 x.2.2.2.1 x.2.2.2.2.1 x.2.2.2.2.2) (fun x=>upd x.1 x.2.1 x.2.2.1 x.2.2.2.1 x.2.2.2.2.1 x.2.2.2.2.2) (fun x=>μ x.1 x.2.1 x.2.2.1 x.2.2.2.1 x.2.2.2.2.1 x.2.2.2.2.2) (a0,b0,c0,d0,e0,f0) h0 h1 fun x hx=>?_;have h:=h2 x.1 x.2.1 x.2.2.1 x.2.2.2.1 x.2.2.2.2.1 x.2.2.2.2.2 hx;rw [xek] at h ⊢;have e:loopQ6 (E:=E) P upd μ st (μ x.1 x.2.1 x.2.2.1 x.2.2.2.1 x.2.2.2.2.1 x.2.2.2.2.2) Q=loopQ1 (α:=α × β × γ × δ × ε × ζ) (fun x=>P x.1 x.2.1 x.2.2.1 x.2.2.2.1 x.2.2.2.2.1 x.2.2.2.2.2) (fun x=>upd x.1 x.2.1 x.2.2.1 x.2.2.2.1 x.2.2.2.2.1 x.2.2.2.2.2) (fun x=>μ x.1 x.2.1 x.2.2.1 x.2.2.2.1 x.2.2.2.2.1 x.2.2.2.2.2) st (μ x.1 x.2.1 x.2.2.1 x.2.2.2.1 x.2.2.2.2.1 x.2.2.2.2.2) Q:=by
  funext e st'
  cases e with
  | normal=>exact propext ⟨fun ⟨a',b',c',d',e',f',q⟩=>⟨(a',b',c',d',e',f'),q⟩,fun ⟨x,q⟩=>⟨x.1,x.2.1,x.2.2.1,x.2.2.2.1,x.2.2.2.2.1,x.2.2.2.2.2,q⟩⟩
  | exit id=>rfl
  | ret=>rfl
 rw [<- e]; exact h
end Go.AM
namespace Cc
open Go Go.AM
theorem xfh {act:List Line} {i:Nat} (h:i<act.length):act.drop i=act.getD i default::act.drop (i+1):=by
 rw [x16 h,xzo,xzh h]; rfl
structure Wk (act:List Line) (i:Nat) (p q r:Form) (g t:List Form):Prop where
 b:∃ m:Int,0<=m/\(m+4)*pw (act.length - i)<=588245/\p.bd m/\q.bd m/\r.bd m
 g:g.length+(act.length - i)<=50/\∀ f∈g,f.bd 588246
 t:t.length+(act.length - i)<=50/\∀ f∈t,f.bd 588246
section
variable {act:List Line} {i:Nat} {p q r:Form} {g t:List Form}
theorem Wk.start (h:act.length<=6):Wk act 0 (Form.pot 0) (Form.pot 1) (Form.pot 2) [] []:=by
 refine ⟨⟨1,by decide,?_,zq 0,zq 1,zq 2⟩,⟨by simp; omega,by simp⟩,⟨by simp; omega,by simp⟩⟩;have h1:=xat (n:=act.length - 0) (k:=6) (by omega);have h2:pw 6=117649:=by decide
 omega
theorem Wk.pots (w:Wk act i p q r g t):p.bd 1000000/\q.bd 1000000/\r.bd 1000000:=by
 obtain ⟨m,h0,h1,hp,hq,hr⟩:=w.b;have h2:=xa4 (act.length - i);have:(m+4)*1<=(m+4)*pw (act.length - i):=x2g h2 (by omega);exact ⟨xh hp (by omega),xh hq (by omega),xh hr (by omega)⟩
theorem Wk.lists (w:Wk act i p q r g t):(g.length<=50/\∀ f∈g,f.bd 10000000)/\(t.length<=50/\∀ f∈t,f.bd 10000000) :=
 ⟨⟨by have:=w.g.1; omega,fun f hf=>xh (w.g.2 f hf) (by decide)⟩,⟨by have:=w.t.1; omega,fun f hf=>xh (w.t.2 f hf) (by decide)⟩⟩
theorem Wk.mid (w:Wk act i p q r g t) (h:i<act.length) (hs:(act.getD i default).Form.small=true) :
 ∃ m:Int,0<=m/\(7*m+28)*pw (act.length - (i+1))<=588245/\7*m+28<=588245/\p.bd m/\q.bd m/\r.bd m/\(into (act.getD i default).Form [p,q,r]).bd (6*m+20):=by
 obtain ⟨m,h0,h1,hp,hq,hr⟩:=w.b;rw [show act.length - i=(act.length - (i+1))+1 from by omega,xir] at h1;have hpl:=xa4 (act.length - (i+1));have hmul:(m+4)*(7*pw (act.length - (i+1)))=(7*m+28)*pw (act.length - (i+1)):=by
  rw [<- Int.mul_assoc,Int.mul_comm (m+4) 7,Int.mul_add]; rfl
 have hm2:(7*m+28)*pw (act.length - (i+1))<=588245:=by omega
 refine ⟨m,h0,hm2,?_,hp,hq,hr,xpb hs hp hq hr⟩;have:(7*m+28)*1<=(7*m+28)*pw (act.length - (i+1)):=x2g hpl (by omega);omega
theorem Wk.into (w:Wk act i p q r g t) (h:i<act.length) (hs:(act.getD i default).Form.small=true):(Cc.into (act.getD i default).Form [p,q,r]).bd 588246:=by
 obtain ⟨m,h0,h1,h2,hp,hq,hr,hf⟩:=w.mid h hs;exact xh hf (by omega)
theorem Wk.on (w:Wk act i p q r g t) (h:i<act.length) (hs:(act.getD i default).Form.small=true) {k:Nat} (hk:i+1<=k) {g' t':List Form} (hg:g'=g\/∃ f:Form,f.bd 588246/\g'=g++[f]) (ht:t'=t\/∃ f:Form,f.bd 588246/\t'=t++[f]):Wk act k p q r g' t':=by
 obtain ⟨m,h0,h1,h2,hp,hq,hr,hf⟩:=w.mid h hs;have key:∀ {l l':List Form},(l.length+(act.length - i)<=50/\∀ f∈l,f.bd 588246)->(l'=l\/∃ f:Form,f.bd 588246/\l'=l++[f])->l'.length+(act.length - k)<=50/\∀ f∈l',f.bd 588246:=by
  rintro l l' ⟨a,b⟩ (rfl|⟨f,hf,rfl⟩)
  · exact ⟨by omega,b⟩
  · refine ⟨by simp only [xzu,x0e]; omega,fun x hx=>?_⟩;rcases xzs.1 hx with hx|hx
    · exact b x hx
    · rw [xzq.1 hx]; exact hf
 refine ⟨⟨m,h0,?_,hp,hq,hr⟩,key w.g hg,key w.t ht⟩;have a1:=xat (n:=act.length - k) (k:=act.length - (i+1)) (by omega);have a2:(m+4)*pw (act.length - k)<=(m+4)*pw (act.length - (i+1)):=x2g a1 (by omega);have a3:(m+4)*pw (act.length - (i+1))<=(7*m+28)*pw (act.length - (i+1)):=x2b (by omega) (by have:=xa4 (act.length - (i+1)); omega);omega
theorem Wk.minus (w:Wk act i p q r g t) (h:i<act.length) (hs:(act.getD i default).Form.small=true):(Cc.minus (Cc.into (act.getD i default).Form [p,q,r])).bd 588246:=by
 obtain ⟨m,h0,h1,h2,hp,hq,hr,hf⟩:=w.mid h hs;exact xh (xlf hf) (by omega)
theorem Wk.add (w:Wk act i p q r g t) (h:i<act.length) (hs:(act.getD i default).Form.small=true) {p' q' r':Form}
 (hp':p'=p\/p'=lin p (Cc.into (act.getD i default).Form [p,q,r]) 1) (hq':q'=q\/q'=lin q (Cc.into (act.getD i default).Form [p,q,r]) 1) (hr':r'=r\/r'=lin r (Cc.into (act.getD i default).Form [p,q,r]) 1):Wk act (i+1) p' q' r' g t:=by
 obtain ⟨m,h0,h1,h2,hp,hq,hr,hf⟩:=w.mid h hs;have one:∀ {x y:Form},x.bd m->(y=x\/y=lin x (Cc.into (act.getD i default).Form [p,q,r]) 1)->y.bd (7*m+20):=by
  rintro x y hx (rfl|rfl)
  · exact xh hx (by omega)
  · exact xh (yy (k:=1) hx hf (by decide)) (by omega)
 refine ⟨⟨7*m+20,by omega,?_,one hp hp',one hq hq',one hr hr'⟩,⟨by have:=w.g.1; omega,w.g.2⟩,⟨by have:=w.t.1; omega,w.t.2⟩⟩;have:(7*m+20+4)*pw (act.length - (i+1))<=(7*m+28)*pw (act.length - (i+1)):=x2b (by omega) (by have:=xa4 (act.length - (i+1)); omega);omega
theorem Wk.sum (w:Wk act i p q r g t) (h:i<act.length) (hs:(act.getD i default).Form.small=true) {x:Form} (hx:x=p\/x=q\/x=r):(lin x (Cc.into (act.getD i default).Form [p,q,r]) 1).bd 1000000:=by
 obtain ⟨m,h0,h1,h2,hp,hq,hr,hf⟩:=w.mid h hs;have:x.bd m:=by rcases hx with rfl|rfl|rfl<;>assumption
 exact xh (yy (k:=1) this hf (by decide)) (by omega)
theorem xlw (h:act.length<=i) (ps g t:List Form):walk (act.drop i) ps g t=[rowEnd ps g t]:=by
 rw [List.drop_of_length_le h]; unfold walk; rfl
theorem xes (h:i<act.length) (hk:(act.getD i default).Kind=4) (ps g t:List Form):walk (act.drop i) ps g t=[⟨g,[],[],true⟩]:=by
 rw [xfh h]; unfold walk; rw [if_pos hk]
theorem xet (h:i<act.length) (hk:(act.getD i default).Kind=1) (ps g t:List Form):walk (act.drop i) ps g t=walk (act.drop (i+1)) ps (g++[Cc.into (act.getD i default).Form ps]) t++walk (act.drop (i+1+(act.getD i default).Skip.toNat)) ps (g++[Cc.minus (Cc.into (act.getD i default).Form ps)]) t:=by
 rw [xfh h]; conv=>lhs; unfold walk
 rw [if_neg (by omega),if_pos hk,x3n]
theorem jn (h:i<act.length) (hk:(act.getD i default).Kind=2) (ps g t:List Form):walk (act.drop i) ps g t=walk (act.drop (i+1)) (ps.set (act.getD i default).Pot.toNat (lin (ps.getD (act.getD i default).Pot.toNat Form.nil) (Cc.into (act.getD i default).Form ps) 1)) g t:=by
 rw [xfh h]; conv=>lhs; unfold walk
 rw [if_neg (by omega),if_neg (by omega),if_pos hk]
theorem xeu (h:i<act.length) (hk:(act.getD i default).Kind=3) (ps g t:List Form):walk (act.drop i) ps g t=walk (act.drop (i+1)) ps g (t++[Cc.into (act.getD i default).Form ps]):=by
 rw [xfh h]; conv=>lhs; unfold walk
 rw [if_neg (by omega),if_neg (by omega),if_neg (by omega)]
end
theorem xdd:∀ (n:Nat) (l:List Line),l.length<=n->∀ (ps g t:List Form),(walk l ps g t).length<=2 ^ n:=by
 intro n
 induction n with
 | zero=>intro l hl ps g t; cases l with|nil=>unfold walk; simp|cons _ _=>simp at hl
 | succ n ih =>
   intro l hl ps g t;have hp:2 ^ n+2 ^ n=2 ^ (n+1):=by omega
   have h1:1<=2 ^ n:=Nat.one_le_two_pow
   cases l with
   | nil=>unfold walk; simp; omega
   | cons x l =>
     have hl':l.length<=n:=by simpa using hl
     unfold walk
     split
     · simp; omega
     · split
       · rw [xzu];have a:=ih l hl' ps (g++[into x.Form ps]) t;have b:=ih (l.drop x.Skip.toNat) (by simp; omega) ps (g++[minus (into x.Form ps)]) t;omega
       · split
         · have a:=ih l hl' (ps.set x.Pot.toNat (lin (ps.getD x.Pot.toNat Form.nil) (into x.Form ps) 1)) g t;omega
         · have a:=ih l hl' ps g (t++[into x.Form ps]);omega
end Cc
end
section
namespace Cc
open Go Go.AM
theorem xt {α:Type} [Inhabited α] {l:List α} {i:Nat} (h:i<l.length):l.take (i+1)=l.take i++[l.getD i default]:=by
 rw [x14,xzh h,xzo,xzh h]; rfl
theorem xtv:∀ (n:Nat) (l:List Line),l.length<=n->∀ (p q r:Form) (g t:List Form),∀ w∈walk l [p,q,r] g t,w.Guards.length<=g.length+n/\w.Adds.length<=3/\w.Tells.length<=t.length+n:=by
 intro n
 induction n with
 | zero =>
   intro l hl p q r g t w hw
   cases l with
   | cons _ _=>simp at hl
   | nil=>unfold walk at hw; simp only [xzq] at hw; subst hw; simp [rowEnd]
 | succ n ih =>
   intro l hl p q r g t w hw
   cases l with
   | nil=>unfold walk at hw; simp only [xzq] at hw; subst hw; simp [rowEnd]
   | cons x l =>
     have hl':l.length<=n:=by simpa using hl
     unfold walk at hw
     split at hw
     · simp only [xzq] at hw; subst hw; simp
     · split at hw
       · rcases xzs.1 hw with hw|hw
         · have:=ih l hl' p q r _ t w hw;simp only [xzu,x0e] at this; omega
         · have:=ih (l.drop x.Skip.toNat) (by simp; omega) p q r _ t w hw;simp only [xzu,x0e] at this; omega
       · split at hw
         · obtain ⟨p',q',r',e⟩:∃ p' q' r',[p,q,r].set x.Pot.toNat (lin ([p,q,r].getD x.Pot.toNat Form.nil) (into x.Form [p,q,r]) 1)=[p',q',r']:=len3 (by simp);rw [e] at hw;have:=ih l hl' p' q' r' g t w hw;omega
         · have:=ih l hl' p q r g _ w hw;simp only [xzu,x0e] at this; omega
theorem wz {act:List Line} {w:Row} (h:w∈rowsOf act):w.Guards.length<=6/\w.Adds.length<=3/\w.Tells.length<=6:=by
 unfold rowsOf at h
 split at h
 · rename_i ha;have:=xtv 6 act (zk.1 ha).2.1 _ _ _ [] [] w h;simpa using this
 · cases h
theorem vj (act:List Line):(rowsOf act).length<=64:=by
 unfold rowsOf
 split
 · rename_i ha;have:=xdd 6 act (zk.1 ha).2.1 pots0 [] [];omega
 · simp
theorem xgm {act:List Line} {w:Row} (h:w∈rowsOf act):shs w.Guards/\shs w.Adds/\shs w.Tells:=by
 have hb:=ke h;have hl:=wz h;exact ⟨⟨by omega,fun f hf=>(hb.1 f hf).1⟩,⟨by omega,fun f hf=>(hb.2.1 f hf).1⟩,⟨by omega,fun f hf=>(hb.2.2.1 f hf).1⟩⟩
def gAt (acts:List (List Line)) (i k:Nat):List Form:=guardsOf (acts.take i)++((rowsOf (acts.getD i [])).take k).flatMap fun r=>r.Guards
def fAt (acts:List (List Line)) (i k:Nat):List Form:=formsOf (acts.take i)++((rowsOf (acts.getD i [])).take k).flatMap fun r=>r.Adds++r.Tells
theorem xpi {acts:List (List Line)} {i k:Nat} (h:k<(rowsOf (acts.getD i [])).length):gAt acts i (k+1)=gAt acts i k++((rowsOf (acts.getD i [])).getD k default).Guards:=by
 unfold gAt; rw [xt h,x1b]; simp
theorem xpj {acts:List (List Line)} {i k:Nat} (h:k<(rowsOf (acts.getD i [])).length):fAt acts i (k+1)=fAt acts i k++(((rowsOf (acts.getD i [])).getD k default).Adds++((rowsOf (acts.getD i [])).getD k default).Tells):=by
 unfold fAt; rw [xt h,x1b]; simp
theorem xpk {acts:List (List Line)} {i k:Nat} (hi:i<acts.length) (h:(rowsOf (acts.getD i [])).length<=k):gAt acts i k=gAt acts (i+1) 0:=by
 unfold gAt guardsOf; rw [xzx h];have e:acts.take (i+1)=acts.take i++[acts.getD i []]:=xt hi;rw [e,x1b]; simp
theorem xpl {acts:List (List Line)} {i k:Nat} (hi:i<acts.length) (h:(rowsOf (acts.getD i [])).length<=k):fAt acts i k=fAt acts (i+1) 0:=by
 unfold fAt formsOf; rw [xzx h];have e:acts.take (i+1)=acts.take i++[acts.getD i []]:=xt hi;rw [e,x1b]; simp
theorem xpm {acts:List (List Line)} {i:Nat} (h:acts.length<=i):gAt acts i 0=guardsOf acts:=by unfold gAt; rw [xzx h]; simp
theorem xpn {acts:List (List Line)} {i:Nat} (h:acts.length<=i):fAt acts i 0=formsOf acts:=by unfold fAt; rw [xzx h]; simp
theorem xji (a b:List Form) (v:Nat):reads (a++b) v=(reads a v || reads b v):=by simp [reads]
def pAt (gs:List Form):List (List Int):=gs.foldl addPart [[1,0,0],[0,1,0],[0,0,1]]
theorem xpo (gs:List Form) (g:Form):pAt (gs++[g])=addPart (pAt gs) g:=by simp [pAt]
theorem xn2 (out:List (List Int)) (g:Form):(addPart out g).length<=out.length+1:=by unfold addPart; simp only; split<;>simp
theorem xpp (gs:List Form):(pAt gs).length<=3+gs.length:=by
 unfold pAt;have key:∀ (gs:List Form) (o:List (List Int)),(gs.foldl addPart o).length<=o.length+gs.length:=by
  intro gs
  induction gs with
  | nil=>intro o; simp
  | cons g r ih=>intro o; have h1:=ih (addPart o g); have h2:=xn2 o g; simp only [List.foldl_cons,xz6]; omega
 have:=key gs [[1,0,0],[0,1,0],[0,0,1]];simpa using this
theorem xht:∀ acts:List (List Line),(guardsOf acts).length<=acts.length*384
 | []=>by simp [guardsOf]
 | a::r=>by
   have ih:=xht r;have h1:∀ l:List Row,(∀ w∈l,w.Guards.length<=6)->(l.flatMap fun r=>r.Guards).length<=l.length*6:=by
    intro l
    induction l with
    | nil=>simp
    | cons w l ih=>intro h; have:=ih fun w hw=>h w (xzp _ hw); have:=h w (by simp); simp only [x1o,xzu,xz6]; omega
   have h2:=h1 (rowsOf a) fun w hw=>(wz hw).1;have h3:=vj a;unfold guardsOf at ih ⊢;simp only [x1o,xzu,xz6]; omega
theorem xdz (acts:List (List Line)) (i k:Nat):(gAt acts i k).length<=(acts.take i).length*384+384:=by
 have h1:∀ l:List Row,(∀ w∈l,w.Guards.length<=6)->(l.flatMap fun r=>r.Guards).length<=l.length*6:=by
  intro l
  induction l with
  | nil=>simp
  | cons w l ih=>intro h; have:=ih fun w hw=>h w (xzp _ hw); have:=h w (by simp); simp only [x1o,xzu,xz6]; omega
 have h2:=h1 ((rowsOf (acts.getD i [])).take k) fun w hw=>(wz (x0u hw)).1;have h3:=vj (acts.getD i []);have h4:=xht (acts.take i);have h5:((rowsOf (acts.getD i [])).take k).length<=64:=by rw [xz3]; omega
 unfold gAt;rw [xzu]; omega
theorem xv5 (c:List Int):(part c).length=c.length:=by simp [part]
theorem xn3 {p:List Int} (h:p.length=3):zeros p=decide (p=[0,0,0]):=by
 obtain ⟨a,b,c,rfl⟩:=len3 h;simp [zeros]
theorem xpq (out:List (List Int)) (p:List Int):decide (idxOf (fun q=>decide (q=p)) out<0)=!has out p:=by
 have:=zd (fun q=>decide (q=p)) out;unfold has;rw [<- this];by_cases h:idxOf (fun q=>decide (q=p)) out<0
 · simp [h]
 · simp [h,Int.not_lt.1 h]
theorem xq6 {out:List (List Int)} {g:Form} (h:g.sh):addPart out g=if (decide (idxOf (fun q=>decide (q=part g.C)) out<0) && !decide (part g.C=[0,0,0]))=true then out++[part g.C] else out:=by
 unfold addPart;simp only [xpq,xn3 (show (part g.C).length=3 from by rw [xv5,h.1])];rw [Bool.and_comm]
def addL:List Int->List Int->Int->List Int
 | a::r,b::s,n=>(a+n*b)::addL r s n
 | l,_,_=>l
abbrev addF (f g:Form) (n:Int):Form:=⟨addL f.C g.C n,addL f.D g.D n,f.K+n*g.K⟩
theorem vk (l:List Int) (n:Int):addL l [] n=l:=by cases l<;>rfl
theorem jo:∀ (l s:List Int) (n:Int),(addL l s n).length=l.length
 | [],_,_=>by simp [addL]
 | a::r,[],_=>by simp [addL]
 | a::r,b::s,n=>by simp [addL,jo r s n]
theorem xde (n:Int):∀ (l s:List Int) (i:Nat),(addL l (s.take i) n).getD i 0=l.getD i 0
 | [],s,i=>by simp [addL]
 | a::r,s,0=>by simp [addL]
 | a::r,[],i+1=>by simp [addL]
 | a::r,b::s,i+1=>by simpa [addL] using xde n r s i
theorem xbu (n:Int):∀ (l s:List Int) (i:Nat),i<s.length->i<l.length->(addL l (s.take i) n).set i (l.getD i 0+n*s.getD i 0)=addL l (s.take (i+1)) n
 | [],s,i,_,h=>by simp at h
 | a::r,[],i,h,_=>by simp at h
 | a::r,b::s,0,_,_=>by simp [addL,vk]
 | a::r,b::s,i+1,h,h'=>by
   have:=xbu n r s i (by simpa using h) (by simpa using h');simpa [addL] using this
theorem xdf (n:Int):∀ (l s:List Int),l.length=s.length->addL l s n=List.zipWith (fun x y=>x+n*y) l s
 | [],[],_=>rfl
 | [],_::_,h=>by simp at h
 | _::_,[],h=>by simp at h
 | a::r,b::s,h=>by simp [addL,xdf n r s (by simpa using h)]
theorem xlx (f g:Form) (n:Int) (hf:(∀ x∈f.C,-1000000000000000<=x/\x<=1000000000000000)/\(∀ x∈f.D,-1000000000000000<=x/\x<=1000000000000000) /\ -1000000000000000<=f.K/\f.K<=1000000000000000)
 (hg:(∀ x∈g.C,-10000000<=x/\x<=10000000)/\(∀ x∈g.D,-10000000<=x/\x<=10000000) /\ -10000000<=g.K/\g.K<=10000000) (hn : -10000000000<=n/\n<=10000000000) (hC:g.C.length<=f.C.length) (hD:g.D.length<=f.D.length) (h100:f.C.length<=100/\f.D.length<=100) :
 Sem P 317 [(.io 0 0,.agg (aF f)),(.pure,.agg (aF g)),(.pure,I n)] [.agg (aF (addF f g n))] (.tup []):=by
 have p6:=xo hn hg.2.2;have lgC:=xb g.C;have lgD:=xb g.D;refine fO Go.Proofs.Tryz.f317 fun hb=>?_;conv=>whnf
 (refine zA ?_)
 refine Vc.loop1 (fun (i:Nat)=>i<=g.C.length) (fun i=>updL [0,2,4,8,9,11,12,31,32,33,34,35,36,37,38,39,40,41,42,43,44,45,46,47,48,49,50,51,52,53,54,55,56,57,58,59,60,61,62] [(13,I i)] [(0,.arr 3 (ints (addL f.C (g.C.take i) n)) false)]) (fun i=>g.C.length - i) 0 (xz1 _) ?_ (fun i hi=>?_)
 · repeat' (first|exact True.intro|((conv=>whnf);first|exact True.intro|refine ⟨by rfl,?_⟩|refine ⟨by first|omega|(show (_:Int)=_;first|omega|(dsimp only;omega))|exact congrArg ints (vk _ _).symm|exact congrArg ints (vk _ _),?_⟩|refine ⟨?_,?_⟩))
 · have hlo:(ints (addL f.C (g.C.take i) n)).length=f.C.length:=by rw [xb,jo]
   have hlo':=jo f.C (g.C.take i) n;conv=>whnf
   (refine zA ?_)
   refine xd (fun gd=>?_) (fun gd=>?_)
   all_goals conv=>whnf
   · have b1:=jv hf.1 (i:=i) (by omega);have p:=xo hn (jv hg.1 (i:=i) (by omega));have e1:=xde n f.C g.C i;have e2:=xbu n f.C g.C i (by omega) (by omega)
     repeat' first|((first|refine zz ?_|(refine xa ?_ ?_<;>intro _)|refine ixN (enc:=rI) 0 (by omega) ?_|refine ioN (by omega) (by omega) ?_|refine rwN (enc:=rI) 0 (by omega) ?_)<;>conv=>whnf)|(refine w64 (by first|omega|(simp only [xz9]; omega)) (by first|omega|(simp only [xz9]; omega)) ?_;conv=>whnf)
     refine ⟨i+1,by omega,by simp only; omega,?_⟩
     repeat' (first|exact True.intro|((conv=>whnf);first|exact True.intro|refine ⟨by rfl,?_⟩|refine ⟨by first|omega|(show (_:Int)=_;first|omega|(dsimp only;omega))|exact (by simp only [xz9]; rw [yz,e1,e2]),?_⟩|refine ⟨?_,?_⟩))
   · have e:i=g.C.length:=by omega
     subst e
     (refine zA ?_)
     refine Vc.loop1 (fun (i:Nat)=>i<=g.D.length) (fun i=>updL [0,2,4,32,33,52,53,54,55,56,57,58,59,60,61,62] [(34,I i)] [(1,.arr 3 (ints (addL f.D (g.D.take i) n)) false)]) (fun i=>g.D.length - i) 0 (xz1 _) ?_ (fun i hi=>?_)
     · repeat' (first|exact True.intro|((conv=>whnf);first|exact True.intro|refine ⟨by rfl,?_⟩|refine ⟨by first|omega|(show (_:Int)=_;first|omega|(dsimp only;omega))|exact congrArg ints (vk _ _).symm|exact congrArg ints (vk _ _),?_⟩|refine ⟨?_,?_⟩))
     · have hlo:(ints (addL f.D (g.D.take i) n)).length=f.D.length:=by rw [xb,jo]
       conv=>whnf
       (refine zA ?_)
       refine xd (fun gd=>?_) (fun gd=>?_)
       all_goals conv=>whnf
       · have b1:=jv hf.2.1 (i:=i) (by omega);have p:=xo hn (jv hg.2.1 (i:=i) (by omega));have e1:=xde n f.D g.D i;have e2:=xbu n f.D g.D i (by omega) (by omega);have hlo':=jo f.D (g.D.take i) n
         repeat' first|((first|refine zz ?_|(refine xa ?_ ?_<;>intro _)|refine ixN (enc:=rI) 0 (by omega) ?_|refine ioN (by omega) (by omega) ?_|refine rwN (enc:=rI) 0 (by omega) ?_)<;>conv=>whnf)|(refine w64 (by first|omega|(simp only [xz9]; omega)) (by first|omega|(simp only [xz9]; omega)) ?_;conv=>whnf)
         refine ⟨i+1,by omega,by simp only; omega,?_⟩
         repeat' (first|exact True.intro|((conv=>whnf);first|exact True.intro|refine ⟨by rfl,?_⟩|refine ⟨by first|omega|(show (_:Int)=_;first|omega|(dsimp only;omega))|exact (by simp only [xz9]; rw [yz,e1,e2]),?_⟩|refine ⟨?_,?_⟩))
       · have e:i=g.D.length:=by omega
         subst e
         repeat' first|((first|refine zz ?_|(refine xa ?_ ?_<;>intro _)|refine wq ?_)<;>conv=>whnf)
         exact ⟨rfl,by simp only [x1e]⟩
theorem xa8 {f g:Form} (e:f=g) (h:g.ok=true):Sem P 318 [(.pure,.agg (aF f))] [] (.agg (eF g)):=by
 subst e;refine fO Go.Proofs.Tryz.f318 fun hb=>?_;conv=>whnf
 repeat' first|((first|refine zz ?_|(refine xa ?_ ?_<;>intro _)|refine ⟨_,zr f,?_⟩)<;>conv=>whnf)
 · rename_i h'; rw [h] at h'; cases h'
 · exact ⟨rfl,rfl⟩
def wide (f:Form):Prop:=f.sh/\(∀ x∈f.C,-1000000000000000<=x/\x<=1000000000000000)/\(∀ x∈f.D,-1000000000000000<=x/\x<=1000000000000000) /\ -1000000000000000<=f.K/\f.K<=1000000000000000
theorem addS (f g:Form) (n:Int) (hf:wide f) (hg:g.bd 10000000) (hn : -10000000000<=n/\n<=10000000000):Sem P 317 [(.io 0 0,.agg (aF f)),(.pure,.agg (aF g)),(.pure,I n)] [.agg (aF (addF f g n))] (.tup []) :=
 xlx f g n hf.2 hg.2 hn (by rw [hf.1.1,hg.1.1]; exact x0r _) (by rw [hf.1.2,hg.1.2]; exact x0r _) (by rw [hf.1.1,hf.1.2]; decide)
theorem xev:wide Form.zero:=⟨⟨rfl,rfl⟩,by simp [Form.zero],by simp [Form.zero],by decide,by decide⟩
theorem vl {f g:Form} {n:Int} (hf:f.sh) (hg:g.sh):addF f g n=lin f g n:=by
 simp only [addF,lin];rw [xdf n _ _ (by rw [hf.1,hg.1]),xdf n _ _ (by rw [hf.2,hg.2])]
theorem xfi {f:Form} {m:Int} (h:f.bd m) (hm:m<=1000000000000000):wide f:=by
 have h:=xh h hm;exact ⟨h.1,h.2.1,h.2.2.1,h.2.2.2⟩
theorem xam (a:Form) (n:Int) (ha:a.bd 10000000) (hn : -10000000<=n/\n<=10000000) (hk:(lin Form.zero a n).ok=true):Sem P 305 [(.pure,.agg (aF a)),(.pure,I n)] [] (.agg (eF (lin Form.zero a n))):=by
 have e1:addF Form.zero a n=lin Form.zero a n:=vl ⟨rfl,rfl⟩ ha.1;have ok1:=zm.2 ha;have in1:inB n (-10000000) 10000000=true:=xc.2 hn;refine yp (E:={ E0 with keep:=[4000],fz:=[(5,[320160,320161])] }) xm xn (fn:=Go.Proofs.Tryz.f305) (by kernel_rfl) (by kernel_rfl) (fun hb=>?_);conv=>whnf
 repeat' first|((first|refine zz ?_|(refine xa ?_ ?_<;>intro _)|refine ⟨_,zr a,?_⟩|refine ⟨_,x6 _ _ _,?_⟩|refine ⟨_,wy,?_⟩|refine ⟨_,_,addS Form.zero a n xev ha (by omega),?_⟩|refine ⟨_,xa8 e1 hk,?_⟩)<;>conv=>whnf)
 all_goals first
  | exact ⟨rfl,rfl⟩
  | (exfalso; simp_all; done)
theorem qy (a b:Form) (ha:a.bd 10000000) (hb':b.bd 10000000) (hk:(lin a b 1).ok=true):Sem P 306 [(.pure,.agg (aF a)),(.pure,.agg (aF b))] [] (.agg (eF (lin a b 1))):=by
 have e0:addF Form.zero a 1=a:=by rw [vl ⟨rfl,rfl⟩ ha.1,lin1 ha.1]
 have e1:addF (addF Form.zero a 1) b 1=lin a b 1:=by rw [e0]; exact vl ha.1 hb'.1
 have w1:wide (addF Form.zero a 1):=by rw [e0]; exact xfi ha (by decide)
 have ok1:=zm.2 ha;have ok2:=zm.2 hb';refine yp (E:={ E0 with keep:=[4000],fz:=[(6,[384096,384097])] }) xm xn (fn:=Go.Proofs.Tryz.f306) (by kernel_rfl) (by kernel_rfl) (fun hb=>?_);conv=>whnf
 repeat' first|((first|refine zz ?_|(refine xa ?_ ?_<;>intro _)|refine ⟨_,zr a,?_⟩|refine ⟨_,zr b,?_⟩|refine ⟨_,wy,?_⟩|refine ⟨_,_,addS Form.zero a 1 xev ha (by decide),?_⟩|refine ⟨_,_,addS (addF Form.zero a 1) b 1 w1 hb' (by decide),?_⟩|refine ⟨_,xa8 e1 hk,?_⟩)<;>conv=>whnf)
 all_goals first
  | exact ⟨rfl,rfl⟩
  | (exfalso; simp_all; done)
theorem xyq (f:Form):Sem P 316 [(.pure,.agg (aF f))] [] (B (!f.ok)):=by
 refine fO Go.Proofs.Tryz.f316 fun hb=>?_;conv=>whnf
 repeat' first|((first|refine zz ?_|(refine xa ?_ ?_<;>intro _)|refine ⟨_,zr f,?_⟩)<;>conv=>whnf)
 exact ⟨rfl,rfl⟩
theorem xly  (l:List Form):Sem P 287 [(.pure,.one (sFs l)),(.pure,.one (.fn 316 []))] [] (I (idxOf (fun (x:Form)=>!x.ok) l)):=by
 refine fO Go.Proofs.Tryz.f287 fun hb=>?_;have la:(l.map eF).length=l.length:=xzi ..;have hb1:(l.map eF).length<=1125899906842624:=hb.1.1;conv=>whnf
 (refine zA ?_)
 refine Vc.loop { i:Nat // ∀ j,j<i->j<l.length->(fun (x:Form)=>!x.ok) (l.getD j default)=false } (fun i=>updL [0,1,7] [(8,I i.1)] []) (fun i=>l.length - i.1) ⟨0,by simp⟩ ?_ (fun i=>?_)
 · exact wl
 · have hi:=i.2;conv=>whnf
   (refine zA ?_)
   refine xd (fun g=>?_) (fun g=>?_)
   all_goals conv=>whnf
   · repeat' first|((first|refine zz ?_|(refine xa ?_ ?_<;>intro _)|refine ixN (enc:=eF) default (by omega) ?_|refine ⟨_,xyq _,?_⟩|refine wq ?_)<;>conv=>whnf)
     · rename_i h;exact rI' (yw (p:=fun (x:Form)=>!x.ok) default (by omega) h fun j hj=>hi j hj (by omega)).symm
     · rename_i h;refine ⟨⟨i.1+1,fun j hj hl=>?_⟩,?_,?_⟩
       · by_cases hji:j<i.1
         · exact hi j hji hl
         · obtain rfl:j=i.1:=by omega
           exact h
       · simp only; omega
       · exact wl
   ·
    (refine zA ?_)
    exact rI' (yf (p:=fun (x:Form)=>!x.ok) default fun j hj=>hi j (by omega) hj).symm
theorem xtw  (l:List Form):Sem P 247 [(.pure,.one (sFs l)),(.pure,.one (.fn 316 []))] [] (B (l.any fun (x:Form)=>!x.ok)):=by
 refine fO Go.Proofs.Tryz.f247 fun hb=>?_;conv=>whnf
 repeat' first|((first|refine zz ?_|(refine xa ?_ ?_<;>intro _)|refine ⟨_,xly  l,?_⟩)<;>conv=>whnf)
 exact rB (zd _ _)
abbrev intoN (a b c:Int) (p q r:Form):Nat->Form
 | 0=>Form.zero
 | 1=>addF Form.zero p a
 | 2=>addF (addF Form.zero p a) q b
 | _=>addF (addF (addF Form.zero p a) q b) r c
theorem xew (f p q r:Form) (hf:f.bd 10000000) (hp:p.bd 10000000) (hq:q.bd 10000000) (hr:r.bd 10000000) (hk:(into f [p,q,r]).ok=true):Sem P 304 [(.pure,.agg (aF f)),(.pure,.one (sFs [p,q,r]))] [] (.agg (eF (into f [p,q,r]))):=by
 have okf:=zm.2 hf;have okp:=zm.2 hp;have okq:=zm.2 hq;have okr:=zm.2 hr;obtain ⟨a,b,c,d,e,k,rfl,h1,h2,h3,h4,h5,h6⟩:=bdE hf;have b1:(lin Form.zero p a).bd 100000000000000:=xh (yy (m:=0) xcs hp h1) (by decide);have e1:addF Form.zero p a=lin Form.zero p a:=vl ⟨rfl,rfl⟩ hp.1;have b2:(lin (lin Form.zero p a) q b).bd 200000000000000:=xh (yy b1 hq h2) (by decide);have e2:addF (addF Form.zero p a) q b=lin (lin Form.zero p a) q b:=by rw [e1]; exact vl b1.1 hq.1
 have b3:(lin (lin (lin Form.zero p a) q b) r c).bd 300000000000000:=xh (yy b2 hr h3) (by decide);have e3:addF (addF (addF Form.zero p a) q b) r c=lin (lin (lin Form.zero p a) q b) r c:=by rw [e2]; exact vl b2.1 hr.1
 have w1:wide (addF Form.zero p a):=by rw [e1]; exact xfi b1 (by decide)
 have w2:wide (addF (addF Form.zero p a) q b):=by rw [e2]; exact xfi b2 (by decide)
 have w3:wide (addF (addF (addF Form.zero p a) q b) r c):=by rw [e3]; exact xfi b3 (by decide)
 have eL:addF (addF (addF (addF Form.zero p a) q b) r c) ⟨[],[d,e],k⟩ 1=into ⟨[a,b,c],[d,e],k⟩ [p,q,r]:=by
  rw [e3,xiq];obtain ⟨p1,p2,p3,p4,p5,p6,rfl,_⟩:=bdE hp;obtain ⟨q1,q2,q3,q4,q5,q6,rfl,_⟩:=bdE hq;obtain ⟨r1,r2,r3,r4,r5,r6,rfl,_⟩:=bdE hr;simp only [addF,addL,lin,Form.zero,List.zipWith_cons_cons,List.zipWith_nil_right,Form.mk.injEq,x3e,x29,true_and];omega
 refine yp (E:={ E0 with keep:=[4000],fz:=[(10,[640352,640353])] }) xm xn (fn:=Go.Proofs.Tryz.f304) (by kernel_rfl) (by kernel_rfl) (fun hb=>?_);conv=>whnf
 repeat' first|((first|refine zz ?_|(refine xa ?_ ?_<;>intro _)|refine ⟨_,zr ⟨[a,b,c],[d,e],k⟩,?_⟩|refine ⟨_,xtw [p,q,r],?_⟩|refine ⟨_,wy,?_⟩)<;>conv=>whnf)
 all_goals first
  | (exfalso; simp_all; done)
  | skip
 refine Vc.loop1 (fun (i:Nat)=>i<=3) (fun i=>updL [2,4,5,22,23,37,38,39,40,41,43,44] [(24,I i)] [(256064,.box [.ref 256000,.ref 256001,eI (intoN a b c p q r i).K]),(256000,.arr 3 (ints (intoN a b c p q r i).C) false),(256001,.arr 3 (ints (intoN a b c p q r i).D) false)]) (fun i=>3 - i) 0 (by omega) ?_ (fun i hi=>?_)
 · exact wk
 · match i,hi with
   | 0,_ =>
     conv=>whnf
     repeat' first|((first|refine zz ?_|(refine xa ?_ ?_<;>intro _)|refine ixK rfl ?_|refine wq ?_|refine ⟨_,_,addS Form.zero p a xev hp (by omega),?_⟩)<;>conv=>whnf)
     refine ⟨1,by omega,by simp only; omega,?_⟩;exact wk
   | 1,_ =>
     conv=>whnf
     repeat' first|((first|refine zz ?_|(refine xa ?_ ?_<;>intro _)|refine ixK rfl ?_|refine wq ?_|refine ⟨_,_,addS (addF Form.zero p a) q b w1 hq (by omega),?_⟩)<;>conv=>whnf)
     refine ⟨2,by omega,by simp only; omega,?_⟩;exact wk
   | 2,_ =>
     conv=>whnf
     repeat' first|((first|refine zz ?_|(refine xa ?_ ?_<;>intro _)|refine ixK rfl ?_|refine wq ?_|refine ⟨_,_,addS (addF (addF Form.zero p a) q b) r c w2 hr (by omega),?_⟩)<;>conv=>whnf)
     refine ⟨3,by omega,by simp only; omega,?_⟩;exact wk
   | 3,_ =>
     conv=>whnf
     repeat' first|((first|refine zz ?_|(refine xa ?_ ?_<;>intro _))<;>conv=>whnf)|(refine ⟨_,_,xlx (addF (addF (addF Form.zero p a) q b) r c) ⟨[],[d,e],k⟩ 1 w3.2 ⟨by simp,hf.2.2.1,hf.2.2.2⟩ (by decide) (by simp) (by rw [w3.1.2]; exact x0r _) (by rw [w3.1.1,w3.1.2]; decide),?_⟩;conv=>whnf)|((first|refine ⟨_,xa8 eL hk,?_⟩)<;>conv=>whnf)
     exact ⟨rfl,rfl⟩
theorem xex (a b:List Int):Sem P 144 [(.pure,AI a),(.pure,AI b)] [] (B (decide (a=b))):=by
 refine fO Go.Proofs.Tryz.f144 fun hb=>?_;have la:=xb a;have lb:=xb b;have hb1:(ints a).length<=1125899906842624:=hb.1.1;conv=>whnf
 (refine zA ?_)
 refine xa (fun h=>?_) (fun h=>?_)
 all_goals conv=>whnf
 all_goals (refine zA ?_)
 · exact rB (by have:=yv h; symm; simp; intro e; subst e; simp at this)
 · have h:=y8 h;refine Vc.loop1 (fun (i:Nat)=>∀ j,j<i->a.getD j 0=b.getD j 0) (fun i=>updL [0,1] [(5,I i)] []) (fun i=>a.length - i) 0 (by simp) ?_ (fun i hi=>?_)
   · exact wl
   · conv=>whnf
     (refine zA ?_)
     refine xd (fun g=>?_) (fun g=>?_)
     all_goals conv=>whnf
     · repeat' first|((first|refine zz ?_|(refine xa ?_ ?_<;>intro _)|refine ixN (enc:=rI) 0 (by omega) ?_|refine wq ?_)<;>conv=>whnf)
       · rename_i g';exact rB (by have:=yv g'; symm; simp; intro e; subst e; simp at this)
       · rename_i g';have e:=y8 g';refine ⟨i+1,fun j hj=>?_,?_,?_⟩
         · by_cases h:j<i
           · exact hi j h
           · obtain rfl:j=i:=by omega
             exact e
         · simp only; omega
         · exact wl
     ·
      (refine zA ?_)
      exact rB (by symm; simp; exact xas 0 (by omega) fun j hj=>hi j (by omega))
theorem xjm:∀ {l:List Int},sign l=0->∀ x∈l,x=0
 | [],_,_,hx=>by cases hx
 | a::r,h,x,hx=>by
   unfold sign at h
   split at h
   · cases h
   · split at h
     · cases h
     · rcases xzn.1 hx with rfl|hx
       · omega
       · exact xjm h x hx
theorem xq9 (l:List Int):sign l=0\/sign l=1\/sign l = -1:=by
 induction l with
 | nil=>exact .inl rfl
 | cons a r ih=>unfold sign; split; exact .inr (.inl rfl); split; exact .inr (.inr rfl); exact ih
theorem vm:∀ (l:List Int) (x:Int),sign (l++[x])=if sign l=0 then (if x>0 then 1 else if x<0 then -1 else 0) else sign l
 | [],x=>by simp [sign]
 | a::r,x=>by
   have ih:=vm r x;simp only [x30,sign]
   split
   · simp
   · split
     · simp
     · exact ih
theorem xa9 {l:List Int} {i:Nat} (h:i<l.length):l.take (i+1)=l.take i++[l.getD i 0]:=by
 rw [x14,xzh h,xzo,xzh h]; rfl
theorem w5 (c:List Int) {i:Nat} (h:i<c.length):ints ((c.take i).map (sign (c.take i)*·))++[rI (sign (c.take (i+1))*c.getD i 0)]=ints ((c.take (i+1)).map (sign (c.take (i+1))*·)):=by
 rw [y0,xa9 h,x0q,x0d,x18];congr 2;apply x06;intro x hx;rw [vm]
 split
 · rename_i hs;rw [xjm hs x hx]; simp
 · rfl
theorem xv9 {s x:Int} (hs:s=0\/s=1\/s = -1) (hx : -1000000000000<=x/\x<=1000000000000) : -1000000000000<=s*x/\s*x<=1000000000000:=by
 rcases hs with rfl|rfl|rfl<;>omega
theorem sg1 {l:List Int} {i:Nat} (h:i<l.length) (h0:sign (l.take i)=0) (hx:l.getD i 0>0):sign (l.take (i+1))=1:=by rw [xa9 h,vm,if_pos h0,if_pos hx]
theorem sg2 {l:List Int} {i:Nat} (h:i<l.length) (h0:sign (l.take i)=0) (hx:¬ l.getD i 0>0) (hy:l.getD i 0<0):sign (l.take (i+1)) = -1:=by rw [xa9 h,vm,if_pos h0,if_neg hx,if_pos hy]
theorem sg3 {l:List Int} {i:Nat} (h:i<l.length) (h0:sign (l.take i)=0) (hx:¬ l.getD i 0>0) (hy:¬ l.getD i 0<0):sign (l.take (i+1))=sign (l.take i):=by rw [xa9 h,vm,if_pos h0,if_neg hx,if_neg hy,h0]
theorem sg4 {l:List Int} {i:Nat} (h:i<l.length) (h0:¬ sign (l.take i)=0):sign (l.take (i+1))=sign (l.take i):=by rw [xa9 h,vm,if_neg h0]
theorem xbv (c D:List Int) (K:Int) (hl:c.length<=100) (hx:∀ x∈c,-1000000000000<=x/\x<=1000000000000):Sem P 142 [(.pure,.agg [sI c,sI D,eI K])] [] (AI (part c)):=by
 refine fO Go.Proofs.Tryz.f142 fun hb=>?_;have lc:=xb c;conv=>whnf
 (refine zA ?_)
 refine Vc.loop1 (fun (i:Nat)=>i<=c.length) (fun i=>updL [1,2,44] [(5,I i),(4,I (sign (c.take i))),(3,.one (.ref 128000))] [(128000,.arr 3 (ints ((c.take i).map (sign (c.take i)*·))) false)]) (fun i=>c.length - i) 0 (xz1 _) ?_ (fun i hi=>?_)
 · exact wk
 · have hlo:(ints ((c.take i).map (sign (c.take i)*·))).length=i:=by rw [xb,xzi,xz3]; omega
   conv=>whnf
   (refine zA ?_)
   refine xd (fun g=>?_) (fun g=>?_)
   all_goals conv=>whnf
   · have hil:i<c.length:=by omega
     have b1:=hx (c.getD i 0) (by rw [xzo,xzh hil]; exact x0m hil);have ms:=xv9 (xq9 (c.take i)) b1;have st:=w5 c hil
     repeat' first|((first|refine zz ?_|(refine xa ?_ ?_<;>intro _)|refine ixN (enc:=rI) 0 (by omega) ?_|refine wq ?_)<;>conv=>whnf)|(refine apN (by rw [hlo]; show i+1<=_; omega) ?_;conv=>whnf)
     all_goals simp only [x1d,x00,ne_eq,xzk,xzw] at *
     all_goals first
      | (have es:=sg1 hil (by assumption) (by assumption)
         refine ⟨i+1,by omega,by (try simp only); omega,?_⟩
         repeat' (first|exact True.intro|((conv=>whnf);first|exact True.intro|refine ⟨by rfl,?_⟩|refine ⟨by first|omega|(show (_:Int)=_;first|omega|(dsimp only;omega))|exact es.symm|exact (by rw [<- w5 c hil,es]),?_⟩|refine ⟨?_,?_⟩)))
      | (have es:=sg2 hil (by assumption) (by assumption) (by assumption)
         refine ⟨i+1,by omega,by (try simp only); omega,?_⟩
         repeat' (first|exact True.intro|((conv=>whnf);first|exact True.intro|refine ⟨by rfl,?_⟩|refine ⟨by first|omega|(show (_:Int)=_;first|omega|(dsimp only;omega))|exact es.symm|exact (by rw [<- w5 c hil,es]),?_⟩|refine ⟨?_,?_⟩)))
      | (have es:=sg3 hil (by assumption) (by assumption) (by assumption)
         refine ⟨i+1,by omega,by (try simp only); omega,?_⟩
         repeat' (first|exact True.intro|((conv=>whnf);first|exact True.intro|refine ⟨by rfl,?_⟩|refine ⟨by first|omega|(show (_:Int)=_;first|omega|(dsimp only;omega))|exact es.symm|exact (by rw [<- w5 c hil,es]),?_⟩|refine ⟨?_,?_⟩)))
      | (have es:=sg4 hil (by assumption)
         refine ⟨i+1,by omega,by (try simp only); omega,?_⟩
         repeat' (first|exact True.intro|((conv=>whnf);first|exact True.intro|refine ⟨by rfl,?_⟩|refine ⟨by first|omega|(show (_:Int)=_;first|omega|(dsimp only;omega))|exact es.symm|exact (by rw [<- w5 c hil,es]),?_⟩|refine ⟨?_,?_⟩)))
      | (exfalso; simp_all; done)
   · have hend:c.take i=c:=xzx (by omega)
     (refine zA ?_)
     exact ⟨by rw [hend]; rfl,rfl⟩
theorem akP {r:List (List AV)} {k:Prop} (h:allPrim r) (hk:k):allPrim r/\k:=⟨h,hk⟩
abbrev intoS (a b c:Int) (D:List Int) (K:Int) (p q r:Form):Nat->Form
 | 0=>⟨[0,0,0],D,K⟩
 | 1=>lin ⟨[0,0,0],D,K⟩ p a
 | 2=>lin (lin ⟨[0,0,0],D,K⟩ p a) q b
 | _=>lin (lin (lin ⟨[0,0,0],D,K⟩ p a) q b) r c
theorem xey (f p q r:Form) (hf:f.bd 10000000) (hp:p.bd 10000000) (hq:q.bd 10000000) (hr:r.bd 10000000) (hk:(into f [p,q,r]).ok=true):Sem P 268 [(.pure,.agg (aF f)),(.pure,.one (sFs [p,q,r]))] [] (.agg (aF (into f [p,q,r]))):=by
 have okf:=zm.2 hf;have okp:=zm.2 hp;have okq:=zm.2 hq;have okr:=zm.2 hr;obtain ⟨a,b,c,d,e,k,rfl,h1,h2,h3,h4,h5,h6⟩:=bdE hf;have b0:(⟨[0,0,0],[d,e],k⟩:Form).bd 10000000:=bdI (by omega) (by omega) (by omega) h4 h5 h6;have b1:(lin ⟨[0,0,0],[d,e],k⟩ p a).bd 200000000000000:=xh (yy b0 hp h1) (by decide);have b2:(lin (lin ⟨[0,0,0],[d,e],k⟩ p a) q b).bd 400000000000000:=xh (yy b1 hq h2) (by decide);rw [xiq] at hk ⊢;refine fK [8010] Go.Proofs.Tryz.f268 fun hb=>?_;conv=>whnf
 repeat' first|((first|refine zz ?_|(refine xa ?_ ?_<;>intro _)|refine ⟨_,qt ⟨[a,b,c],[d,e],k⟩,?_⟩|refine ⟨_,qt p,?_⟩|refine ⟨_,qt q,?_⟩|refine ⟨_,qt r,?_⟩|refine ixK rfl ?_|refine apN (by simp) ?_|refine apP (x7 _) ?_)<;>conv=>whnf)
 all_goals first
  | (exfalso; simp_all; done)
  | skip
 refine Vc.loop1 (fun (i:Nat)=>i<=3) (fun i=>updL [1,2,4,5,60,61,62,63,64] [(6,I i)] [(256512,.box [.ref 256000,.ref 256256,eI (intoS a b c [d,e] k p q r i).K]),(256000,.arr 3 (ints (intoS a b c [d,e] k p q r i).C) false),(256256,.arr 3 (ints (intoS a b c [d,e] k p q r i).D) false)]) (fun i=>3 - i) 0 (by omega) ?_ (fun i hi=>?_)
 · exact wk
 · match i,hi with
   | 0,_ =>
     conv=>whnf
     repeat' first|((first|refine zz ?_|(refine xa ?_ ?_<;>intro _)|refine ixK rfl ?_|refine wq ?_|refine ⟨_,qd ⟨[0,0,0],[d,e],k⟩ p a (xh b0 (by decide)) hp (by omega),?_⟩|refine akP (x7 _) ?_)<;>conv=>whnf)
     refine ⟨1,by omega,by simp only; omega,?_⟩;exact wk
   | 1,_ =>
     conv=>whnf
     repeat' first|((first|refine zz ?_|(refine xa ?_ ?_<;>intro _)|refine ixK rfl ?_|refine wq ?_|refine ⟨_,qd (lin ⟨[0,0,0],[d,e],k⟩ p a) q b (xh b1 (by decide)) hq (by omega),?_⟩|refine akP (x7 _) ?_)<;>conv=>whnf)
     refine ⟨2,by omega,by simp only; omega,?_⟩;exact wk
   | 2,_ =>
     conv=>whnf
     repeat' first|((first|refine zz ?_|(refine xa ?_ ?_<;>intro _)|refine ixK rfl ?_|refine wq ?_|refine ⟨_,qd (lin (lin ⟨[0,0,0],[d,e],k⟩ p a) q b) r c (xh b2 (by decide)) hr (by omega),?_⟩|refine akP (x7 _) ?_)<;>conv=>whnf)
     refine ⟨3,by omega,by simp only; omega,?_⟩;exact wk
   | 3,_ =>
     conv=>whnf
     repeat' first|((first|refine zz ?_|(refine xa ?_ ?_<;>intro _)|refine ⟨_,qt _,?_⟩)<;>conv=>whnf)
     · rename_i h; have hk':(intoS a b c [d,e] k p q r 3).ok=true:=hk; rw [hk'] at h; cases h
     · exact ⟨rfl,rfl⟩
def bds (l:List Form):Prop:=l.length<=50/\∀ f∈l,f.bd 10000000
theorem xwa (p q r:Form) (guards tells:List Form) (hp:p.bd 1000000) (hq:q.bd 1000000) (hr:r.bd 1000000) (hg:bds guards) (ht:bds tells) :
 Sem P 271 [(.pure,.one (sFs [p,q,r])),(.pure,.one (sFs guards)),(.pure,.one (sFs tells))] [] (.agg (eW (rowEnd [p,q,r] guards tells))):=by
 have m1:∀ {f:Form},f.bd 1000000->f.bd 1000000000000000:=fun h=>xh h (by decide);have m2:∀ v,(Form.pot v).bd 10000000:=fun v=>xh (zq v) (by decide);refine yp (E:={ E0 with fz:=[(6,[128386])] }) xm xn (fn:=Go.Proofs.Tryz.f271) (by kernel_rfl) (by kernel_rfl) (fun hb=>?_);conv=>whnf
 repeat' first|((first|refine zz ?_|(refine xa ?_ ?_<;>intro _))<;>conv=>whnf)|(refine ⟨_,za guards (by have:=hg.1; omega) hg.2,?_⟩;conv=>whnf)|(refine ⟨_,za tells (by have:=ht.1; omega) ht.2,?_⟩;conv=>whnf)
 refine Vc.loop1 (fun (i:Nat)=>i<=3) (fun i=>updL [0,6,7,30] [(8,I i)] [(128320,.box [fFs guards,.ref 128386,fFs tells,eB false]),(128386,.arr 115 (([lin p (Form.pot 0) (-1),lin q (Form.pot 1) (-1),lin r (Form.pot 2) (-1)].take i).map eF) false)]) (fun i=>3 - i) 0 (by omega) ?_ (fun i hi=>?_)
 · exact wk
 · match i,hi with
   | 0,_ =>
     conv=>whnf
     repeat' first|((first|refine zz ?_|(refine xa ?_ ?_<;>intro _)|refine ixK rfl ?_|refine wq ?_|refine ⟨_,ze 0 (by decide),?_⟩|refine ⟨_,qd p (Form.pot 0) (-1) (m1 hp) (m2 _) (by decide),?_⟩|refine apN (by simp) ?_)<;>conv=>whnf)
     refine ⟨1,by omega,by simp only; omega,?_⟩;exact wk
   | 1,_ =>
     conv=>whnf
     repeat' first|((first|refine zz ?_|(refine xa ?_ ?_<;>intro _)|refine ixK rfl ?_|refine wq ?_|refine ⟨_,ze 1 (by decide),?_⟩|refine ⟨_,qd q (Form.pot 1) (-1) (m1 hq) (m2 _) (by decide),?_⟩|refine apN (by simp) ?_)<;>conv=>whnf)
     refine ⟨2,by omega,by simp only; omega,?_⟩;exact wk
   | 2,_ =>
     conv=>whnf
     repeat' first|((first|refine zz ?_|(refine xa ?_ ?_<;>intro _)|refine ixK rfl ?_|refine wq ?_|refine ⟨_,ze 2 (by decide),?_⟩|refine ⟨_,qd r (Form.pot 2) (-1) (m1 hr) (m2 _) (by decide),?_⟩|refine apN (by simp) ?_)<;>conv=>whnf)
     refine ⟨3,by omega,by simp only; omega,?_⟩;exact wk
   | 3,_ =>
     conv=>whnf
     (refine zA ?_)
     exact ⟨rfl,rfl⟩
end Cc
end
