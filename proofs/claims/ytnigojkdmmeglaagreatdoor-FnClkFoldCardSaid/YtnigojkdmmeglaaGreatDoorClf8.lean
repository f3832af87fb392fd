/- The law FnClkFold: part 8 of 35. No conditions beyond the statement. -/
import Derived.Laws.Strings
import Derived.Test.YtnigojkdmmeglaaGreatDoorClf6
set_option linter.unusedVariables false
set_option linter.unusedSimpArgs false
set_option maxRecDepth 100000
set_option maxHeartbeats 16000000
section
namespace Cc
open Go Go.AM
abbrev eT (l:List UInt8):AV:=.prim (.string ⟨l.toArray⟩)
abbrev T (l:List UInt8):TV:=.one (eT l)
theorem w8 {e:Int} {k:Int->Prop} (h1:0<=e) (h2:e<=255) (h:k e):∃ c,IntKind.u8.wrap e=c/\k c:=⟨e,by simp [IntKind.wrap,IntKind.signed,IntKind.bits]; omega,h⟩
theorem vm (a b:List UInt8):(⟨a.toArray⟩:ByteArray)++⟨b.toArray⟩=⟨(a++b).toArray⟩:=by
 apply ByteArray.ext;simp
theorem catT {a b:List UInt8} {q:Prop} (h:a.length+b.length<=9000000000000000000) (hq:q):(((⟨a.toArray⟩:ByteArray).size+(⟨b.toArray⟩:ByteArray).size:Nat):Int)<=9223372036854775807/\q:=by
 refine ⟨?_,hq⟩;show ((a.toArray.size+b.toArray.size:Nat):Int)<=_;simp only [xz4]; omega
theorem byteRow {n:Int} (h:0<=n/\n<=255):[[AV.prim (Value.int .u8 n)]]=bytesRows [UInt8.ofNat n.toNat]:=by
 have e:((UInt8.ofNat n.toNat).toNat:Int)=n:=by simp; omega
 simp only [bytesRows,xyn,x0i,e]
theorem xi6 {u:Nat} (h:¬ u<10):Lib.decDigits u=Lib.decDigits (u / 10)++[UInt8.ofNat (48+u % 10)]:=by rw [Lib.decDigits,dif_neg h]
theorem xpg (u:Nat):Lib.nDigits u<=u+1:=by
 induction u using Nat.strongRecOn with
 | _ u ih =>
   by_cases h:u<10
   · rw [Lib.nDigits_small h]; omega
   · rw [Lib.nDigits_big h]; have:=ih (u / 10) (by omega); omega
theorem xdy (n0:Int) (h0:0<=n0) (h1:n0<=1000000000000000):Sem P 301 [(.pure,I n0)] [] (T (Lib.decDigits n0.toNat)):=by
 refine fO Go.Proofs.Tryz.f301 fun hb=>?_;conv=>whnf
 (refine zA ?_)
 refine xa (fun h=>?_) (fun h=>?_)
 · exfalso; simp at h; omega
 · conv=>whnf
   (refine zA ?_)
   refine Vc.loop2 (fun (n:Int) (l:List UInt8)=>0<=n/\n<=n0/\Lib.decDigits n.toNat++l=Lib.decDigits n0.toNat) (fun n l=>updL [2,22,23,24,25,26,27,28] [(0,I n),(3,T l)] []) (fun n _=>n.toNat) n0 [] ⟨h0,by omega,by simp⟩ ?_ (fun n l hi=>?_)
   · exact wl
   · obtain ⟨g0,g1,g2⟩:=hi;have hlen:l.length<=n0.toNat+1:=by
      have e:=congrArg List.length g2;rw [xx3,Lib.decDigits_length,Lib.decDigits_length] at e
      have:=xpg n0.toNat
      omega
     conv=>whnf
     (refine zA ?_)
     refine xd (fun g=>?_) (fun g=>?_)
     all_goals conv=>whnf
     · repeat' first|((first|refine zz ?_|(refine xa ?_ ?_<;>intro _)|refine r64 (by omega) (by omega) ?_|refine wq ?_|refine w8 (by omega) (by omega) ?_|refine ⟨_,byteRow (by omega),?_⟩)<;>conv=>whnf)|(refine catT (by simp; omega) ?_; rw [vm];conv=>whnf)|((first|refine q64 (by omega) (by omega) (by omega) ?_)<;>conv=>whnf)
       refine ⟨n / 10,[UInt8.ofNat (48+n % 10).toNat]++l,⟨by omega,by omega,?_⟩,by simp only; omega,?_⟩
       · rw [<- g2,xi6 (u:=n.toNat) (by omega),xyl];have e1:(n / 10).toNat=n.toNat / 10:=by omega
         have e2:(48+n % 10).toNat=48+n.toNat % 10:=by omega
         rw [e1,e2]
       · exact wl
     · repeat' first|((first|refine zz ?_|(refine xa ?_ ?_<;>intro _)|refine wq ?_|refine w8 (by omega) (by omega) ?_|refine ⟨_,byteRow (by omega),?_⟩)<;>conv=>whnf)|(refine catT (by simp; omega) ?_; rw [vm];conv=>whnf)
       have e:n.toNat<10:=by omega
       rw [Lib.decDigits_one e] at g2;have e2:(48+n).toNat=48+n.toNat:=by omega
       exact ⟨by rw [e2,g2],rfl⟩
theorem xbm (n:Int) (h0 : -1000000000000000<=n) (h1:n<=1000000000000000):Sem P 301 [(.pure,I n)] [] (T (Lib.itoa n)):=by
 by_cases hn:0<=n
 · have e:Lib.itoa n=Lib.decDigits n.toNat:=by rw [Lib.itoa,if_neg (by omega)]
   rw [e]; exact xdy n hn h1
 · have e:Lib.itoa n=45::Lib.decDigits (0 - n).toNat:=by
    rw [Lib.itoa,if_pos (by omega)];congr 2; omega
   have hl:(Lib.decDigits (0 - n).toNat).length<=21:=by
    rw [Lib.decDigits_length];have:=vl 19 (u:=(0 - n).toNat) (by omega);omega
   rw [e];refine fO Go.Proofs.Tryz.f301 fun hb=>?_;conv=>whnf
   (refine zA ?_)
   refine xa (fun h=>?_) (fun h=>?_)
   · conv=>whnf
     repeat' first|((first|refine zz ?_|(refine xa ?_ ?_<;>intro _)|refine wq ?_|refine ⟨_,xdy (0 - n) (by omega) (by omega),?_⟩)<;>conv=>whnf)|(refine catT (a:=[45]) (by rw [xyo]; omega) ?_; rw [vm [45]];conv=>whnf)
     exact ⟨rfl,rfl⟩
   · exfalso; simp at h; omega
def codeT (n:Int):List UInt8:=if n=1 then [100,111,110,101] else if n=2 then [115,116,111,112,112,101,100] else [111,118,101,114]
def resT (r:Rslt):List UInt8:=if resOk r then codeT r.Code++joinT r.Tells else []
theorem yj {r:Rslt}:resOk r=true↔(1<=r.Code/\r.Code<=3)/\(r.Code=1\/r.Tells=[])/\r.Tells.length<=6/\within r.Tells r.Tells.length 999999999999=true:=by
 simp [resOk,xc,and_assoc]
theorem xkj {r:Rslt} (h:resOk r=true):∀ x∈r.Tells,-999999999999<=x/\x<=999999999999:=(xe.1 (yj.1 h).2.2.2).2
theorem xdz (n:Int):(codeT n).length<=7:=by unfold codeT; split<;>(try split)<;>decide
theorem xph:Sem P 294 [] [] (.one (.sl 9 [[eT []],[eT [100,111,110,101]],[eT [115,116,111,112,112,101,100]],[eT [111,118,101,114]]])):=by
 refine fO Go.Proofs.Tryz.f294 fun hb=>?_;conv=>whnf
 repeat' first|((first|refine zz ?_|(refine xa ?_ ?_<;>intro _))<;>conv=>whnf)
 exact ⟨rfl,rfl⟩
theorem xkk (r:Rslt):Sem P 255 [(.pure,.agg (aR r))] [] (T (resT r)):=by
 by_cases hr:resOk r=true
 · have hb3:=xkj hr;have e:resT r=codeT r.Code++joinT r.Tells:=by rw [resT,if_pos hr]
   rw [e];obtain ⟨⟨h1,h2⟩,h3,h4,h5⟩:=yj.1 hr;obtain ⟨code,tells⟩:=r;simp only at h1 h2 h3 h4 h5 hb3 ⊢;have hj:=jk (l:=tells) fun x hx=>by have:=hb3 x hx; omega
   have lt:=xb tells;rw [<- lt] at h5;have hc:code=1\/code=2\/code=3:=by omega
   rcases hc with rfl|rfl|rfl
   all_goals
    refine fO Go.Proofs.Tryz.f255 fun hb=>?_;conv=>whnf
    repeat' first|((first|refine zz ?_|(refine xa ?_ ?_<;>intro _)|refine ⟨_,yc _ _ _,?_⟩|refine ⟨_,yl tells (ints tells).length _ (by omega),?_⟩|refine ⟨_,xph,?_⟩)<;>conv=>whnf)|(refine ⟨_,xmn tells (by omega) (fun x hx=>by have:=hb3 x hx; omega),?_⟩;conv=>whnf)|(refine ixC (by dsimp only; decide) rfl ?_;conv=>whnf)|(refine catT (by simp; omega) ?_; rw [vm];conv=>whnf)
    all_goals first
     | exact ⟨rfl,rfl⟩
     | (exfalso; simp_all; done)
     | (exfalso; simp_all; omega)
 · have e:resT r=[]:=by rw [resT,if_neg hr]
   rw [e];refine fO Go.Proofs.Tryz.f255 fun hb=>?_;have lt:=xb r.Tells;conv=>whnf
   repeat' first|((first|refine zz ?_|(refine xa ?_ ?_<;>intro _)|refine ⟨_,yc _ _ _,?_⟩|refine ⟨_,yl r.Tells (ints r.Tells).length _ (by omega),?_⟩)<;>conv=>whnf)
   all_goals first
    | exact ⟨rfl,rfl⟩
    | (exfalso; refine hr (yj.2 ?_); simp_all [xc]; done)
    | (exfalso; refine hr (yj.2 ?_); simp_all [xc]; omega)
theorem xnt (l:List UInt8):(!((⟨l.toArray⟩:ByteArray).toList == (⟨#[]⟩:ByteArray).toList))=!l.isEmpty:=by
 rw [ByteArray.toList_mk,show (⟨#[]⟩:ByteArray)=⟨([]:List UInt8).toArray⟩ from rfl,ByteArray.toList_mk];cases l<;>rfl
theorem xnu (r:Rslt):(!(resT r).isEmpty)=resOk r:=by
 unfold resT;cases h:resOk r
 · rfl
 · simp only [if_true];unfold codeT
   split<;>(try split)<;>rfl
theorem xpi (r:Rslt):Sem P 192 [(.pure,.agg (aR r))] [] (B (resOk r)):=by
 refine fO Go.Proofs.Tryz.f192 fun hb=>?_;conv=>whnf
 repeat' first|((first|refine zz ?_|(refine xa ?_ ?_<;>intro _)|refine ⟨_,xkk r,?_⟩)<;>conv=>whnf)
 exact rB (by rw [<- xnu,<- xnt])
theorem xkl (r:Rslt):Sem P 272 [(.pure,.agg (aR r))] [] (T (resT r)):=by
 by_cases hr:resOk r=true
 · have hb3:=xkj hr;have e:resT r=codeT r.Code++joinT r.Tells:=by rw [resT,if_pos hr]
   rw [e];obtain ⟨⟨h1,h2⟩,h3,h4,h5⟩:=yj.1 hr;obtain ⟨code,tells⟩:=r;simp only at h1 h2 h3 h4 h5 hb3 ⊢;have lt:=xb tells;rw [<- lt] at h5;have hc:code=1\/code=2\/code=3:=by omega
   rcases hc with rfl|rfl|rfl
   · refine fO Go.Proofs.Tryz.f272 fun hb=>?_;conv=>whnf
     repeat' first|((first|refine zz ?_|(refine xa ?_ ?_<;>intro _)|refine ⟨_,xi _ _ _,?_⟩|refine ⟨_,x9 tells (ints tells).length _ (by omega),?_⟩|refine rwC rfl ?_)<;>conv=>whnf)|(refine ioN (by dsimp only; decide) (by dsimp only; decide) ?_;conv=>whnf)
     all_goals first
      | (exfalso; simp_all; done)
      | (exfalso; simp_all; omega)
      | skip
     refine Vc.loop2 (fun (i:Nat) (l:List UInt8)=>i<=tells.length/\l=codeT 1++joinT (tells.take i)) (fun i l=>updL [1,2,58] [(5,I i),(4,T l)] []) (fun i _=>tells.length - i) 0 (codeT 1) ⟨by omega,by simp [joinT]⟩ ?_ (fun i l hi=>?_)
     · exact wl
     · obtain ⟨hi,rfl⟩:=hi;have hj:=jk (l:=tells.take i) fun x hx=>by have:=hb3 x (xy4 hx); omega
       rw [xyc,xzs hi] at hj;have hw:=xdz 1;conv=>whnf
       (refine zA ?_)
       refine xd (fun g=>?_) (fun g=>?_)
       all_goals conv=>whnf
       · have hin:i<tells.length:=by simp only at g; omega
         have hm:=hb3 (tells.getD i 0) (by rw [xxx,xxr hin]; exact xyy hin);have hil:=xal (n:=tells.getD i 0) (by omega)
         repeat' first|((first|refine zz ?_|(refine xa ?_ ?_<;>intro _))<;>conv=>whnf)|(with_reducible refine catT (b:=[32]) ?_ ?_; (simp only [xx3,xyo]; omega); rw [vm _ [32]];conv=>whnf)|(with_reducible refine catT ?_ ?_; (simp only [xx3,xyo]; omega); rw [vm];conv=>whnf)|((first|refine wq ?_|refine ⟨_,xbm (tells.getD i 0) (by omega) (by omega),?_⟩|refine ixN (enc:=rI) (L:=tells) 0 hin ?_)<;>conv=>whnf)
         refine ⟨i+1,codeT 1++joinT (tells.take i)++[32]++Lib.itoa (tells.getD i 0),⟨by omega,by rw [wu hin]; simp⟩,by simp only; omega,?_⟩;exact wl
       · repeat' first|((first|refine zz ?_|(refine xa ?_ ?_<;>intro _))<;>conv=>whnf)
         have e:i=tells.length:=by simp only at g; omega
         subst e;exact ⟨by rw [xzo],rfl⟩
   · refine fO Go.Proofs.Tryz.f272 fun hb=>?_;conv=>whnf
     repeat' first|((first|refine zz ?_|(refine xa ?_ ?_<;>intro _)|refine ⟨_,xi _ _ _,?_⟩|refine ⟨_,x9 tells (ints tells).length _ (by omega),?_⟩|refine rwC rfl ?_)<;>conv=>whnf)|(refine ioN (by dsimp only; decide) (by dsimp only; decide) ?_;conv=>whnf)
     all_goals first
      | (exfalso; simp_all; done)
      | (exfalso; simp_all; omega)
      | skip
     refine Vc.loop2 (fun (i:Nat) (l:List UInt8)=>i<=tells.length/\l=codeT 2++joinT (tells.take i)) (fun i l=>updL [1,2,58] [(5,I i),(4,T l)] []) (fun i _=>tells.length - i) 0 (codeT 2) ⟨by omega,by simp [joinT]⟩ ?_ (fun i l hi=>?_)
     · exact wl
     · obtain ⟨hi,rfl⟩:=hi;have hj:=jk (l:=tells.take i) fun x hx=>by have:=hb3 x (xy4 hx); omega
       rw [xyc,xzs hi] at hj;have hw:=xdz 2;conv=>whnf
       (refine zA ?_)
       refine xd (fun g=>?_) (fun g=>?_)
       all_goals conv=>whnf
       · have hin:i<tells.length:=by simp only at g; omega
         have hm:=hb3 (tells.getD i 0) (by rw [xxx,xxr hin]; exact xyy hin);have hil:=xal (n:=tells.getD i 0) (by omega)
         repeat' first|((first|refine zz ?_|(refine xa ?_ ?_<;>intro _))<;>conv=>whnf)|(with_reducible refine catT (b:=[32]) ?_ ?_; (simp only [xx3,xyo]; omega); rw [vm _ [32]];conv=>whnf)|(with_reducible refine catT ?_ ?_; (simp only [xx3,xyo]; omega); rw [vm];conv=>whnf)|((first|refine wq ?_|refine ⟨_,xbm (tells.getD i 0) (by omega) (by omega),?_⟩|refine ixN (enc:=rI) (L:=tells) 0 hin ?_)<;>conv=>whnf)
         refine ⟨i+1,codeT 2++joinT (tells.take i)++[32]++Lib.itoa (tells.getD i 0),⟨by omega,by rw [wu hin]; simp⟩,by simp only; omega,?_⟩;exact wl
       · repeat' first|((first|refine zz ?_|(refine xa ?_ ?_<;>intro _))<;>conv=>whnf)
         have e:i=tells.length:=by simp only at g; omega
         subst e;exact ⟨by rw [xzo],rfl⟩
   · refine fO Go.Proofs.Tryz.f272 fun hb=>?_;conv=>whnf
     repeat' first|((first|refine zz ?_|(refine xa ?_ ?_<;>intro _)|refine ⟨_,xi _ _ _,?_⟩|refine ⟨_,x9 tells (ints tells).length _ (by omega),?_⟩|refine rwC rfl ?_)<;>conv=>whnf)|(refine ioN (by dsimp only; decide) (by dsimp only; decide) ?_;conv=>whnf)
     all_goals first
      | (exfalso; simp_all; done)
      | (exfalso; simp_all; omega)
      | skip
     refine Vc.loop2 (fun (i:Nat) (l:List UInt8)=>i<=tells.length/\l=codeT 3++joinT (tells.take i)) (fun i l=>updL [1,2,58] [(5,I i),(4,T l)] []) (fun i _=>tells.length - i) 0 (codeT 3) ⟨by omega,by simp [joinT]⟩ ?_ (fun i l hi=>?_)
     · exact wl
     · obtain ⟨hi,rfl⟩:=hi;have hj:=jk (l:=tells.take i) fun x hx=>by have:=hb3 x (xy4 hx); omega
       rw [xyc,xzs hi] at hj;have hw:=xdz 3;conv=>whnf
       (refine zA ?_)
       refine xd (fun g=>?_) (fun g=>?_)
       all_goals conv=>whnf
       · have hin:i<tells.length:=by simp only at g; omega
         have hm:=hb3 (tells.getD i 0) (by rw [xxx,xxr hin]; exact xyy hin);have hil:=xal (n:=tells.getD i 0) (by omega)
         repeat' first|((first|refine zz ?_|(refine xa ?_ ?_<;>intro _))<;>conv=>whnf)|(with_reducible refine catT (b:=[32]) ?_ ?_; (simp only [xx3,xyo]; omega); rw [vm _ [32]];conv=>whnf)|(with_reducible refine catT ?_ ?_; (simp only [xx3,xyo]; omega); rw [vm];conv=>whnf)|((first|refine wq ?_|refine ⟨_,xbm (tells.getD i 0) (by omega) (by omega),?_⟩|refine ixN (enc:=rI) (L:=tells) 0 hin ?_)<;>conv=>whnf)
         refine ⟨i+1,codeT 3++joinT (tells.take i)++[32]++Lib.itoa (tells.getD i 0),⟨by omega,by rw [wu hin]; simp⟩,by simp only; omega,?_⟩;exact wl
       · repeat' first|((first|refine zz ?_|(refine xa ?_ ?_<;>intro _))<;>conv=>whnf)
         have e:i=tells.length:=by simp only at g; omega
         subst e;exact ⟨by rw [xzo],rfl⟩
 · have e:resT r=[]:=by rw [resT,if_neg hr]
   rw [e];refine fO Go.Proofs.Tryz.f272 fun hb=>?_;have lt:=xb r.Tells;conv=>whnf
   repeat' first|((first|refine zz ?_|(refine xa ?_ ?_<;>intro _)|refine ⟨_,xi _ _ _,?_⟩|refine ⟨_,x9 r.Tells (ints r.Tells).length _ (by omega),?_⟩)<;>conv=>whnf)
   all_goals first
    | exact ⟨rfl,rfl⟩
    | (exfalso; refine hr (yj.2 ?_); simp_all [xc]; done)
    | (exfalso; refine hr (yj.2 ?_); simp_all [xc]; omega)
theorem jv (r:Rslt):Sem P 224 [(.pure,.agg (aR r))] [] (B (resOk r)):=by
 refine fO Go.Proofs.Tryz.f224 fun hb=>?_;conv=>whnf
 repeat' first|((first|refine zz ?_|(refine xa ?_ ?_<;>intro _)|refine ⟨_,xkl r,?_⟩)<;>conv=>whnf)
 exact rB (by rw [<- xnu,<- xnt])
theorem xkm (p:Plan) (hc:inB p.Clients 0 4=true) (l:List LogD):Sem P 204 [(.pure,.agg (aPl p)),(.pure,.one (sOs l))] [] (B (logB p l)):=by
 refine fO Go.Proofs.Tryz.f204 fun hb=>?_;have la:(l.map eO).length=l.length:=xxs ..;have hb1:(l.map eO).length<=1125899906842624:=(hb.2.1).1;conv=>whnf
 repeat' first|((first|refine zz ?_|(refine xa ?_ ?_<;>intro _))<;>conv=>whnf)
 · refine rB ?_; simp_all [logB]; intros; omega
 · rename_i h;refine Vc.loop1 (fun (i:Nat)=>i<=l.length/\∀ j,j<i->(fun x=>callB p x.Call && resOk x.Res) (l.getD j default)=true) (fun i=>updL [1,2] [(5,I i)] []) (fun i=>l.length - i) 0 ⟨by omega,fun j hj=>absurd hj (xza j)⟩ ?_ (fun i hi=>?_)
   · exact wl
   · obtain ⟨hi,ho⟩:=hi;have hlm:(l.map eO).length=l.length:=xxs ..;conv=>whnf
     (refine zA ?_)
     refine xd (fun g=>?_) (fun g=>?_)
     all_goals conv=>whnf
     · repeat' first|((first|refine zz ?_|(refine xa ?_ ?_<;>intro _)|refine ixN (enc:=eO) default (by omega) ?_|refine ⟨_,ze p (l.getD i default).Call hc,?_⟩|refine ⟨_,jv (l.getD i default).Res,?_⟩|refine wq ?_)<;>conv=>whnf)
       all_goals first
        | (refine ⟨i+1,⟨by omega,fun j hj=>?_⟩,by simp only; omega,?_⟩
           · by_cases h':j<i
             · exact ho j h'
             · obtain rfl:j=i:=by omega
               clear ho;simp_all
           · exact wl)
        | (have hp:(fun x=>callB p x.Call && resOk x.Res) (l.getD i default)=false:=by (clear ho; simp_all )
           have hn:l.all (fun x=>callB p x.Call && resOk x.Res)=false:=zw default (j:=i) (by omega) hp
           exact rB (by simp only [logB,hn,x1b]))
     · have hall:l.all (fun x=>callB p x.Call && resOk x.Res)=true:=zu default fun j hj=>ho j (by omega)
       repeat' first|((first|refine zz ?_|(refine xa ?_ ?_<;>intro _)|refine ⟨_,ze p (l.getD i default).Call hc,?_⟩|refine ⟨_,jv (l.getD i default).Res,?_⟩|refine wq ?_)<;>conv=>whnf)
       (have h6:l.length<=100:=by simp at h; omega); exact rB (by simp only [logB,hall,x1h,x0w h6])
theorem xt {p:Plan} (h:planOk p=true):inB p.Clients 0 4=true:=by
 simp only [planOk,xxt] at h;have:=xc.1 h.1.1.1;exact xc.2 (by omega)
theorem xcm {p:Plan} (h:planOk p=true):p.Start.length=3:=by
 simp only [planOk,xxt] at h;exact (xe.1 h.1.2).1
abbrev fBy (bs:List UInt8):AV:=.fr [] 5 (bytesRows bs)
abbrev aRd (bs:List UInt8) (a:Int):List AV:=[fBy bs,eI a]
theorem ixB {L:List UInt8} {i:Int} {k:List AV->Prop} (h0:0<=i) (h:i<L.length) (hk:∀ c:Int,0<=c/\c<=255->k [.prim (.int .u8 c)]):0<=i/\∃ row,(bytesRows L)[i.toNat]?=some row/\k row:=by
 refine ⟨h0,[.prim (.int .u8 (L[i.toNat]'(by omega)).toNat)],?_,hk _ ⟨by omega,?_⟩⟩
 · rw [bytesRows,xx0,xxr (by omega)]; rfl
 · have:=(L[i.toNat]'(by omega)).toNat_lt; omega
theorem xor64 {a b:Int} {k:Int->Prop} (ha:0<=a/\a<4611686018427387904) (hb:0<=b/\b<4611686018427387904) (hk:∀ c:Int,0<=c/\c<4611686018427387904->k c):∃ c,IntKind.i64.wrap (BitVec.ofInt IntKind.i64.bits a ^^^ BitVec.ofInt IntKind.i64.bits b).toNat=c/\k c:=by
 have hx:(BitVec.ofInt IntKind.i64.bits a ^^^ BitVec.ofInt IntKind.i64.bits b).toNat=a.toNat ^^^ b.toNat:=by
  show (BitVec.ofInt 64 a ^^^ BitVec.ofInt 64 b).toNat=_;rw [BitVec.toNat_xor,BitVec.toNat_ofInt,BitVec.toNat_ofInt];congr 1<;>omega
 have hlt:a.toNat ^^^ b.toNat<2 ^ 62:=Nat.xor_lt_two_pow (by omega) (by omega);refine ⟨_,rfl,?_⟩;rw [hx,wrap64 (by omega) (by omega)];exact hk _ ⟨by omega,by omega⟩
theorem xh (bs:List UInt8) (a k:Int) (ha:0<=a/\a<=1000000000000) (hk:1<=k/\k<=1000000000) (hbs:bs.length<=2000) :
 ∃ os res,(∃ n,(0<=n/\n<k)/\res=I n/\os=aRd bs (a+1))/\Sem P 73 [(.io 0 0,.agg (aRd bs a)),(.pure,I k)] [.agg os] res:=by
 have key:∃ res outs,(∃ n,(0<=n/\n<k)/\res=I n/\outs=[.agg (aRd bs (a+1))])/\Sem P 73 [(.io 0 0,.agg (aRd bs a)),(.pure,I k)] outs res:=by
  refine x5 (E:=E0) xn xo (fn:=Go.Proofs.Tryz.f73) (by kernel_rfl) (by kernel_rfl) ?_;have lb:(bytesRows bs).length=bs.length:=xxs ..;conv=>whnf
  repeat' first|((first|refine zz ?_|(refine xa ?_ ?_<;>intro _)|refine wq ?_)<;>conv=>whnf)
  · exact ⟨0,⟨by omega,by omega⟩,rfl,rfl⟩
  · exact ⟨0,⟨by omega,by omega⟩,rfl,rfl⟩
  · rename_i g1 g2 g3;simp only [xxy,xx5,xzc] at g1 g2 g3;refine ixB (by omega) (by omega) fun c hc=>?_;conv=>whnf
    repeat' first|((first|refine zz ?_|(refine xa ?_ ?_<;>intro _)|refine wq ?_|refine r64 (by omega) (by omega) ?_)<;>conv=>whnf)
    have:=xz3 c (b:=k) (by omega);have:=xzt c (b:=k) (by omega);exact ⟨c % k,⟨by omega,by omega⟩,rfl,rfl⟩
  · rename_i g1 g2 g3;simp only [xxy,xx5,xzc] at g1 g2 g3;have hl:(0:Int)<(bytesRows bs).length:=by omega
    have e1:=xz3 (a+1 - 1) (b:=((bytesRows bs).length:Int)) (by omega);have e2:=xzt (a+1 - 1) (b:=((bytesRows bs).length:Int)) (by omega);refine r64 (by omega) (by omega) ?_;generalize (a+1 - 1) % ((bytesRows bs).length:Int)=i at e1 e2;conv=>whnf
    repeat' first|((first|refine zz ?_|(refine xa ?_ ?_<;>intro _)|refine wq ?_)<;>conv=>whnf)
    refine ixB (by omega) (by omega) fun c hc=>?_;conv=>whnf
    repeat' first|((first|refine zz ?_|(refine xa ?_ ?_<;>intro _)|refine wq ?_)<;>conv=>whnf)
    have e3:=xz3 ((a+1 - 1)*7+3) (b:=((bytesRows bs).length:Int)) (by omega);have e4:=xzt ((a+1 - 1)*7+3) (b:=((bytesRows bs).length:Int)) (by omega);refine r64 (by omega) (by omega) ?_;generalize ((a+1 - 1)*7+3) % ((bytesRows bs).length:Int)=i' at e3 e4;conv=>whnf
    repeat' first|((first|refine zz ?_|(refine xa ?_ ?_<;>intro _)|refine wq ?_)<;>conv=>whnf)
    refine ixB (by omega) (by omega) fun c' hc'=>?_;conv=>whnf
    repeat' first|((first|refine zz ?_|(refine xa ?_ ?_<;>intro _)|refine wq ?_)<;>conv=>whnf)
    have e5:=x1s (a:=a+1 - 1) (b:=((bytesRows bs).length:Int)) (by omega) (by omega);have e6:=x2b (a:=a+1 - 1) ((bytesRows bs).length:Int) (by omega);refine q64 (by omega) (by omega) (by omega) ?_;generalize (a+1 - 1) / ((bytesRows bs).length:Int)=q at e5 e6;conv=>whnf
    repeat' first|((first|refine zz ?_|(refine xa ?_ ?_<;>intro _)|refine wq ?_)<;>conv=>whnf)
    have hs:0<=c*131+c'*1117+(a+1 - 1)*29+q*53/\c*131+c'*1117+(a+1 - 1)*29+q*53<4611686018427387904:=by omega
    generalize c*131+c'*1117+(a+1 - 1)*29+q*53=s at hs;have e7:=x1s (a:=s) (b:=64) (by omega) (by omega);have e8:=x2b (a:=s) 64 (by omega);refine q64 (by omega) (by omega) (by omega) ?_;generalize s / 64=s' at e7 e8;conv=>whnf
    repeat' first|((first|refine zz ?_|(refine xa ?_ ?_<;>intro _))<;>conv=>whnf)
    refine xor64 hs (by omega) fun d hd=>?_;conv=>whnf
    repeat' first|((first|refine zz ?_|(refine xa ?_ ?_<;>intro _)|refine r64 (by omega) (by omega) ?_)<;>conv=>whnf)
    have:=xz3 d (b:=k) (by omega);have:=xzt d (b:=k) (by omega);exact ⟨d % k,⟨by omega,by omega⟩,rfl,rfl⟩
 obtain ⟨r,o,⟨n,h1,h2,rfl⟩,h3⟩:=key;exact ⟨_,r,⟨n,h1,h2,rfl⟩,h3⟩
theorem xp {α:Type} [Inhabited α] {l:List α} {i:Nat} (h:i<l.length):l.take (i+1)=l.take i++[l.getD i default]:=by
 rw [x0f,xxr h,xxx,xxr h]; rfl
theorem xr9:∀ (n:Nat) (l:List Line),l.length<=n->∀ (p q r:Form) (g t:List Form),∀ w∈walk l [p,q,r] g t,w.Guards.length<=g.length+n/\w.Adds.length<=3/\w.Tells.length<=t.length+n:=by
 intro n
 induction n with
 | zero =>
   intro l hl p q r g t w hw
   cases l with
   | cons _ _=>simp at hl
   | nil=>unfold walk at hw; simp only [xx1] at hw; subst hw; simp [rowEnd]
 | succ n ih =>
   intro l hl p q r g t w hw
   cases l with
   | nil=>unfold walk at hw; simp only [xx1] at hw; subst hw; simp [rowEnd]
   | cons x l =>
     have hl':l.length<=n:=by simpa using hl
     unfold walk at hw
     split at hw
     · simp only [xx1] at hw; subst hw; simp
     · split at hw
       · rcases xx2.1 hw with hw|hw
         · have:=ih l hl' p q r _ t w hw;simp only [xx3,xyo] at this; omega
         · have:=ih (l.drop x.Skip.toNat) (by simp; omega) p q r _ t w hw;simp only [xx3,xyo] at this; omega
       · split at hw
         · obtain ⟨p',q',r',e⟩:∃ p' q' r',[p,q,r].set x.Pot.toNat (lin ([p,q,r].getD x.Pot.toNat Form.nil) (into x.Form [p,q,r]) 1)=[p',q',r']:=len3 (by simp);rw [e] at hw;have:=ih l hl' p' q' r' g t w hw;omega
         · have:=ih l hl' p q r g _ w hw;simp only [xx3,xyo] at this; omega
theorem xa8 {act:List Line} {w:Row} (h:w∈rowsOf act):w.Guards.length<=6/\w.Adds.length<=3/\w.Tells.length<=6:=by
 unfold rowsOf at h
 split at h
 · rename_i ha;have:=xr9 6 act (y6.1 ha).2.1 _ _ _ [] [] w h;simpa using this
 · cases h
theorem j8 (act:List Line):(rowsOf act).length<=64:=by
 unfold rowsOf
 split
 · rename_i ha;have:=xco 6 act (y6.1 ha).2.1 pots0 [] [];omega
 · simp
theorem xfq {act:List Line} {w:Row} (h:w∈rowsOf act):shs w.Guards/\shs w.Adds/\shs w.Tells:=by
 have hb:=jj h;have hl:=xa8 h;exact ⟨⟨by omega,fun f hf=>(hb.1 f hf).1⟩,⟨by omega,fun f hf=>(hb.2.1 f hf).1⟩,⟨by omega,fun f hf=>(hb.2.2.1 f hf).1⟩⟩
def gAt (acts:List (List Line)) (i k:Nat):List Form:=guardsOf (acts.take i)++((rowsOf (acts.getD i [])).take k).flatMap fun r=>r.Guards
def fAt (acts:List (List Line)) (i k:Nat):List Form:=formsOf (acts.take i)++((rowsOf (acts.getD i [])).take k).flatMap fun r=>r.Adds++r.Tells
theorem xnv {acts:List (List Line)} {i k:Nat} (h:k<(rowsOf (acts.getD i [])).length):gAt acts i (k+1)=gAt acts i k++((rowsOf (acts.getD i [])).getD k default).Guards:=by
 unfold gAt; rw [xp h,xzk]; simp
theorem xnw {acts:List (List Line)} {i k:Nat} (h:k<(rowsOf (acts.getD i [])).length):fAt acts i (k+1)=fAt acts i k++(((rowsOf (acts.getD i [])).getD k default).Adds++((rowsOf (acts.getD i [])).getD k default).Tells):=by
 unfold fAt; rw [xp h,xzk]; simp
theorem xnx {acts:List (List Line)} {i k:Nat} (hi:i<acts.length) (h:(rowsOf (acts.getD i [])).length<=k):gAt acts i k=gAt acts (i+1) 0:=by
 unfold gAt guardsOf; rw [xx7 h];have e:acts.take (i+1)=acts.take i++[acts.getD i []]:=xp hi;rw [e,xzk]; simp
theorem xny {acts:List (List Line)} {i k:Nat} (hi:i<acts.length) (h:(rowsOf (acts.getD i [])).length<=k):fAt acts i k=fAt acts (i+1) 0:=by
 unfold fAt formsOf; rw [xx7 h];have e:acts.take (i+1)=acts.take i++[acts.getD i []]:=xp hi;rw [e,xzk]; simp
theorem xnz {acts:List (List Line)} {i:Nat} (h:acts.length<=i):gAt acts i 0=guardsOf acts:=by unfold gAt; rw [xx7 h]; simp
theorem xn0 {acts:List (List Line)} {i:Nat} (h:acts.length<=i):fAt acts i 0=formsOf acts:=by unfold fAt; rw [xx7 h]; simp
theorem xig (a b:List Form) (v:Nat):reads (a++b) v=(reads a v || reads b v):=by simp [reads]
def pAt (gs:List Form):List (List Int):=gs.foldl addPart [[1,0,0],[0,1,0],[0,0,1]]
theorem xn1 (gs:List Form) (g:Form):pAt (gs++[g])=addPart (pAt gs) g:=by simp [pAt]
theorem xmr (out:List (List Int)) (g:Form):(addPart out g).length<=out.length+1:=by unfold addPart; simp only; split<;>simp
theorem xn2 (gs:List Form):(pAt gs).length<=3+gs.length:=by
 unfold pAt;have key:∀ (gs:List Form) (o:List (List Int)),(gs.foldl addPart o).length<=o.length+gs.length:=by
  intro gs
  induction gs with
  | nil=>intro o; simp
  | cons g r ih=>intro o; have h1:=ih (addPart o g); have h2:=xmr o g; simp only [List.foldl_cons,xyg]; omega
 have:=key gs [[1,0,0],[0,1,0],[0,0,1]];simpa using this
theorem xgt:∀ acts:List (List Line),(guardsOf acts).length<=acts.length*384
 | []=>by simp [guardsOf]
 | a::r=>by
   have ih:=xgt r;have h1:∀ l:List Row,(∀ w∈l,w.Guards.length<=6)->(l.flatMap fun r=>r.Guards).length<=l.length*6:=by
    intro l
    induction l with
    | nil=>simp
    | cons w l ih=>intro h; have:=ih fun w hw=>h w (xxz _ hw); have:=h w (by simp); simp only [xzy,xx3,xyg]; omega
   have h2:=h1 (rowsOf a) fun w hw=>(xa8 hw).1;have h3:=j8 a;unfold guardsOf at ih ⊢;simp only [xzy,xx3,xyg]; omega
theorem xc7 (acts:List (List Line)) (i k:Nat):(gAt acts i k).length<=(acts.take i).length*384+384:=by
 have h1:∀ l:List Row,(∀ w∈l,w.Guards.length<=6)->(l.flatMap fun r=>r.Guards).length<=l.length*6:=by
  intro l
  induction l with
  | nil=>simp
  | cons w l ih=>intro h; have:=ih fun w hw=>h w (xxz _ hw); have:=h w (by simp); simp only [xzy,xx3,xyg]; omega
 have h2:=h1 ((rowsOf (acts.getD i [])).take k) fun w hw=>(xa8 (xy4 hw)).1;have h3:=j8 (acts.getD i []);have h4:=xgt (acts.take i);have h5:((rowsOf (acts.getD i [])).take k).length<=64:=by rw [xyc]; omega
 unfold gAt;rw [xx3]; omega
theorem xul (c:List Int):(part c).length=c.length:=by simp [part]
theorem xms {p:List Int} (h:p.length=3):zeros p=decide (p=[0,0,0]):=by
 obtain ⟨a,b,c,rfl⟩:=len3 h;simp [zeros]
theorem xn3 (out:List (List Int)) (p:List Int):decide (idxOf (fun q=>decide (q=p)) out<0)=!has out p:=by
 have:=zg (fun q=>decide (q=p)) out;unfold has;rw [<- this];by_cases h:idxOf (fun q=>decide (q=p)) out<0
 · simp [h]
 · simp [h,Int.not_lt.1 h]
theorem xpk {out:List (List Int)} {g:Form} (h:g.sh):addPart out g=if (decide (idxOf (fun q=>decide (q=part g.C)) out<0) && !decide (part g.C=[0,0,0]))=true then out++[part g.C] else out:=by
 unfold addPart;simp only [xn3,xms (show (part g.C).length=3 from by rw [xul,h.1])];rw [Bool.and_comm]
theorem xd8 (a b:List Int):Sem P 144 [(.pure,AI a),(.pure,AI b)] [] (B (decide (a=b))):=by
 refine fO Go.Proofs.Tryz.f144 fun hb=>?_;have la:=xb a;have lb:=xb b;have hb1:(ints a).length<=1125899906842624:=hb.1.1;conv=>whnf
 (refine zA ?_)
 refine xa (fun h=>?_) (fun h=>?_)
 all_goals conv=>whnf
 all_goals (refine zA ?_)
 · exact rB (by have:=yt h; symm; simp; intro e; subst e; simp at this)
 · have h:=yu h;refine Vc.loop1 (fun (i:Nat)=>∀ j,j<i->a.getD j 0=b.getD j 0) (fun i=>updL [0,1] [(5,I i)] []) (fun i=>a.length - i) 0 (by simp) ?_ (fun i hi=>?_)
   · exact wl
   · conv=>whnf
     (refine zA ?_)
     refine xd (fun g=>?_) (fun g=>?_)
     all_goals conv=>whnf
     · repeat' first|((first|refine zz ?_|(refine xa ?_ ?_<;>intro _)|refine ixN (enc:=rI) 0 (by omega) ?_|refine wq ?_)<;>conv=>whnf)
       · rename_i g';exact rB (by have:=yt g'; symm; simp; intro e; subst e; simp at this)
       · rename_i g';have e:=yu g';refine ⟨i+1,fun j hj=>?_,?_,?_⟩
         · by_cases h:j<i
           · exact hi j h
           · obtain rfl:j=i:=by omega
             exact e
         · simp only; omega
         · exact wl
     ·
      (refine zA ?_)
      exact rB (by symm; simp; exact jh 0 (by omega) fun j hj=>hi j (by omega))
theorem xij:∀ {l:List Int},sign l=0->∀ x∈l,x=0
 | [],_,_,hx=>by cases hx
 | a::r,h,x,hx=>by
   unfold sign at h
   split at h
   · cases h
   · split at h
     · cases h
     · rcases xxw.1 hx with rfl|hx
       · omega
       · exact xij h x hx
theorem xpp (l:List Int):sign l=0\/sign l=1\/sign l = -1:=by
 induction l with
 | nil=>exact .inl rfl
 | cons a r ih=>unfold sign; split; exact .inr (.inl rfl); split; exact .inr (.inr rfl); exact ih
theorem vb:∀ (l:List Int) (x:Int),sign (l++[x])=if sign l=0 then (if x>0 then 1 else if x<0 then -1 else 0) else sign l
 | [],x=>by simp [sign]
 | a::r,x=>by
   have ih:=vb r x;simp only [x18,sign]
   split
   · simp
   · split
     · simp
     · exact ih
theorem xao {l:List Int} {i:Nat} (h:i<l.length):l.take (i+1)=l.take i++[l.getD i 0]:=by
 rw [x0f,xxr h,xxx,xxr h]; rfl
theorem wb (c:List Int) {i:Nat} (h:i<c.length):ints ((c.take i).map (sign (c.take i)*·))++[rI (sign (c.take (i+1))*c.getD i 0)]=ints ((c.take (i+1)).map (sign (c.take (i+1))*·)):=by
 rw [qa,xao h,xy1,xyn,x0i];congr 2;apply xze;intro x hx;rw [vb]
 split
 · rename_i hs;rw [xij hs x hx]; simp
 · rfl
theorem xuq {s x:Int} (hs:s=0\/s=1\/s = -1) (hx : -1000000000000<=x/\x<=1000000000000) : -1000000000000<=s*x/\s*x<=1000000000000:=by
 rcases hs with rfl|rfl|rfl<;>omega
theorem sg1 {l:List Int} {i:Nat} (h:i<l.length) (h0:sign (l.take i)=0) (hx:l.getD i 0>0):sign (l.take (i+1))=1:=by rw [xao h,vb,if_pos h0,if_pos hx]
theorem sg2 {l:List Int} {i:Nat} (h:i<l.length) (h0:sign (l.take i)=0) (hx:¬ l.getD i 0>0) (hy:l.getD i 0<0):sign (l.take (i+1)) = -1:=by rw [xao h,vb,if_pos h0,if_neg hx,if_pos hy]
theorem sg3 {l:List Int} {i:Nat} (h:i<l.length) (h0:sign (l.take i)=0) (hx:¬ l.getD i 0>0) (hy:¬ l.getD i 0<0):sign (l.take (i+1))=sign (l.take i):=by rw [xao h,vb,if_pos h0,if_neg hx,if_neg hy,h0]
theorem sg4 {l:List Int} {i:Nat} (h:i<l.length) (h0:¬ sign (l.take i)=0):sign (l.take (i+1))=sign (l.take i):=by rw [xao h,vb,if_neg h0]
theorem xba (c D:List Int) (K:Int) (hl:c.length<=100) (hx:∀ x∈c,-1000000000000<=x/\x<=1000000000000):Sem P 142 [(.pure,.agg [sI c,sI D,eI K])] [] (AI (part c)):=by
 refine fO Go.Proofs.Tryz.f142 fun hb=>?_;have lc:=xb c;conv=>whnf
 (refine zA ?_)
 refine Vc.loop1 (fun (i:Nat)=>i<=c.length) (fun i=>updL [1,2,44] [(5,I i),(4,I (sign (c.take i))),(3,.one (.ref 128000))] [(128000,.arr 3 (ints ((c.take i).map (sign (c.take i)*·))) false)]) (fun i=>c.length - i) 0 (xyb _) ?_ (fun i hi=>?_)
 · exact wk
 · have hlo:(ints ((c.take i).map (sign (c.take i)*·))).length=i:=by rw [xb,xxs,xyc]; omega
   conv=>whnf
   (refine zA ?_)
   refine xd (fun g=>?_) (fun g=>?_)
   all_goals conv=>whnf
   · have hil:i<c.length:=by omega
     have b1:=hx (c.getD i 0) (by rw [xxx,xxr hil]; exact xyy hil);have ms:=xuq (xpp (c.take i)) b1;have st:=wb c hil
     repeat' first|((first|refine zz ?_|(refine xa ?_ ?_<;>intro _)|refine ixN (enc:=rI) 0 (by omega) ?_|refine wq ?_)<;>conv=>whnf)|(refine apN (by rw [hlo]; show i+1<=_; omega) ?_;conv=>whnf)
     all_goals simp only [xzw,xzc,ne_eq,xxy,xx5] at *
     all_goals first
      | (have es:=sg1 hil (by assumption) (by assumption)
         refine ⟨i+1,by omega,by (try simp only); omega,?_⟩
         repeat' (first|exact True.intro|((conv=>whnf);first|exact True.intro|refine ⟨by rfl,?_⟩|refine ⟨by first|omega|(show (_:Int)=_;first|omega|(dsimp only;omega))|exact es.symm|exact (by rw [<- wb c hil,es]),?_⟩|refine ⟨?_,?_⟩)))
      | (have es:=sg2 hil (by assumption) (by assumption) (by assumption)
         refine ⟨i+1,by omega,by (try simp only); omega,?_⟩
         repeat' (first|exact True.intro|((conv=>whnf);first|exact True.intro|refine ⟨by rfl,?_⟩|refine ⟨by first|omega|(show (_:Int)=_;first|omega|(dsimp only;omega))|exact es.symm|exact (by rw [<- wb c hil,es]),?_⟩|refine ⟨?_,?_⟩)))
      | (have es:=sg3 hil (by assumption) (by assumption) (by assumption)
         refine ⟨i+1,by omega,by (try simp only); omega,?_⟩
         repeat' (first|exact True.intro|((conv=>whnf);first|exact True.intro|refine ⟨by rfl,?_⟩|refine ⟨by first|omega|(show (_:Int)=_;first|omega|(dsimp only;omega))|exact es.symm|exact (by rw [<- wb c hil,es]),?_⟩|refine ⟨?_,?_⟩)))
      | (have es:=sg4 hil (by assumption)
         refine ⟨i+1,by omega,by (try simp only); omega,?_⟩
         repeat' (first|exact True.intro|((conv=>whnf);first|exact True.intro|refine ⟨by rfl,?_⟩|refine ⟨by first|omega|(show (_:Int)=_;first|omega|(dsimp only;omega))|exact es.symm|exact (by rw [<- wb c hil,es]),?_⟩|refine ⟨?_,?_⟩)))
      | (exfalso; simp_all; done)
   · have hend:c.take i=c:=xx7 (by omega)
     (refine zA ?_)
     exact ⟨by rw [hend]; rfl,rfl⟩
end Cc
end
