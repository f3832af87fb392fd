/- The laws FnMsgOk, FnSitFree: part 7 of 41. No conditions beyond the statement. -/
import Derived.Test.YtnigojkdmmeglaaGreatDoorAll6
set_option linter.unusedVariables false
set_option linter.unusedSimpArgs false
set_option maxRecDepth 100000
set_option maxHeartbeats 16000000
section
namespace Cc
open Go Go.AM
theorem xlr (p:Plan) (hc:inB p.Clients 0 4=true) (l:List LogD):Sem P 204 [(.pure,.agg (aPl p)),(.pure,.one (sOs l))] [] (B (logB p l)):=by
 refine fO Go.Proofs.Tryz.f204 fun hb=>?_;have la:(l.map eO).length=l.length:=xzi ..;have hb1:(l.map eO).length<=1125899906842624:=(hb.2.1).1;conv=>whnf
 repeat' first|((first|refine zz ?_|(refine xa ?_ ?_<;>intro _))<;>conv=>whnf)
 · refine rB ?_; simp_all [logB]; intros; omega
 · rename_i h;refine Vc.loop1 (fun (i:Nat)=>i<=l.length/\∀ j,j<i->(fun x=>callB p x.Call && resOk x.Res) (l.getD j default)=true) (fun i=>updL [1,2] [(5,I i)] []) (fun i=>l.length - i) 0 ⟨by omega,fun j hj=>absurd hj (x0z j)⟩ ?_ (fun i hi=>?_)
   · exact wl
   · obtain ⟨hi,ho⟩:=hi;have hlm:(l.map eO).length=l.length:=xzi ..;conv=>whnf
     (refine zA ?_)
     refine xd (fun g=>?_) (fun g=>?_)
     all_goals conv=>whnf
     · repeat' first|((first|refine zz ?_|(refine xa ?_ ?_<;>intro _)|refine ixN (enc:=eO) default (by omega) ?_|refine ⟨_,y9 p (l.getD i default).Call hc,?_⟩|refine ⟨_,j6 (l.getD i default).Res,?_⟩|refine wq ?_)<;>conv=>whnf)
       all_goals first
        | (refine ⟨i+1,⟨by omega,fun j hj=>?_⟩,by simp only; omega,?_⟩
           · by_cases h':j<i
             · exact ho j h'
             · obtain rfl:j=i:=by omega
               clear ho;simp_all
           · exact wl)
        | (have hp:(fun x=>callB p x.Call && resOk x.Res) (l.getD i default)=false:=by (clear ho; simp_all )
           have hn:l.all (fun x=>callB p x.Call && resOk x.Res)=false:=z8 default (j:=i) (by omega) hp
           exact rB (by simp only [logB,hn,x2y]))
     · have hall:l.all (fun x=>callB p x.Call && resOk x.Res)=true:=z7 default fun j hj=>ho j (by omega)
       repeat' first|((first|refine zz ?_|(refine xa ?_ ?_<;>intro _)|refine ⟨_,y9 p (l.getD i default).Call hc,?_⟩|refine ⟨_,j6 (l.getD i default).Res,?_⟩|refine wq ?_)<;>conv=>whnf)
       (have h6:l.length<=100:=by simp at h; omega); exact rB (by simp only [logB,hall,x24,x2x h6])
theorem xi {p:Plan} (h:planOk p=true):inB p.Clients 0 4=true:=by
 simp only [planOk,xzj] at h;have:=xc.1 h.1.1.1;exact xc.2 (by omega)
theorem xdb {p:Plan} (h:planOk p=true):p.Start.length=3:=by
 simp only [planOk,xzj] at h;exact (xe.1 h.1.2).1
abbrev fBy (bs:List UInt8):AV:=.fr [] 5 (bytesRows bs)
abbrev aRd (bs:List UInt8) (a:Int):List AV:=[fBy bs,eI a]
theorem ixB {L:List UInt8} {i:Int} {k:List AV->Prop} (h0:0<=i) (h:i<L.length) (hk:∀ c:Int,0<=c/\c<=255->k [.prim (.int .u8 c)]):0<=i/\∃ row,(bytesRows L)[i.toNat]?=some row/\k row:=by
 refine ⟨h0,[.prim (.int .u8 (L[i.toNat]'(by omega)).toNat)],?_,hk _ ⟨by omega,?_⟩⟩
 · rw [bytesRows,xzr,xzh (by omega)]; rfl
 · have:=(L[i.toNat]'(by omega)).toNat_lt; omega
theorem xor64 {a b:Int} {k:Int->Prop} (ha:0<=a/\a<4611686018427387904) (hb:0<=b/\b<4611686018427387904) (hk:∀ c:Int,0<=c/\c<4611686018427387904->k c):∃ c,IntKind.i64.wrap (BitVec.ofInt IntKind.i64.bits a ^^^ BitVec.ofInt IntKind.i64.bits b).toNat=c/\k c:=by
 have hx:(BitVec.ofInt IntKind.i64.bits a ^^^ BitVec.ofInt IntKind.i64.bits b).toNat=a.toNat ^^^ b.toNat:=by
  show (BitVec.ofInt 64 a ^^^ BitVec.ofInt 64 b).toNat=_;rw [BitVec.toNat_xor,BitVec.toNat_ofInt,BitVec.toNat_ofInt];congr 1<;>omega
 have hlt:a.toNat ^^^ b.toNat<2 ^ 62:=Nat.xor_lt_two_pow (by omega) (by omega);refine ⟨_,rfl,?_⟩;rw [hx,wrap64 (by omega) (by omega)];exact hk _ ⟨by omega,by omega⟩
theorem xf (bs:List UInt8) (a k:Int) (ha:0<=a/\a<=1000000000000) (hk:1<=k/\k<=1000000000) (hbs:bs.length<=2000) :
 ∃ os res,(∃ n,(0<=n/\n<k)/\res=I n/\os=aRd bs (a+1))/\Sem P 73 [(.io 0 0,.agg (aRd bs a)),(.pure,I k)] [.agg os] res:=by
 have key:∃ res outs,(∃ n,(0<=n/\n<k)/\res=I n/\outs=[.agg (aRd bs (a+1))])/\Sem P 73 [(.io 0 0,.agg (aRd bs a)),(.pure,I k)] outs res:=by
  refine xw (E:=E0) xm xn (fn:=Go.Proofs.Tryz.f73) (by kernel_rfl) (by kernel_rfl) ?_;have lb:(bytesRows bs).length=bs.length:=xzi ..;conv=>whnf
  repeat' first|((first|refine zz ?_|(refine xa ?_ ?_<;>intro _)|refine wq ?_)<;>conv=>whnf)
  · exact ⟨0,⟨by omega,by omega⟩,rfl,rfl⟩
  · exact ⟨0,⟨by omega,by omega⟩,rfl,rfl⟩
  · rename_i g1 g2 g3;simp only [xzk,xzw,x00] at g1 g2 g3;refine ixB (by omega) (by omega) fun c hc=>?_;conv=>whnf
    repeat' first|((first|refine zz ?_|(refine xa ?_ ?_<;>intro _)|refine wq ?_|refine r64 (by omega) (by omega) ?_)<;>conv=>whnf)
    have:=x12 c (b:=k) (by omega);have:=x1q c (b:=k) (by omega);exact ⟨c % k,⟨by omega,by omega⟩,rfl,rfl⟩
  · rename_i g1 g2 g3;simp only [xzk,xzw,x00] at g1 g2 g3;have hl:(0:Int)<(bytesRows bs).length:=by omega
    have e1:=x12 (a+1 - 1) (b:=((bytesRows bs).length:Int)) (by omega);have e2:=x1q (a+1 - 1) (b:=((bytesRows bs).length:Int)) (by omega);refine r64 (by omega) (by omega) ?_;generalize (a+1 - 1) % ((bytesRows bs).length:Int)=i at e1 e2;conv=>whnf
    repeat' first|((first|refine zz ?_|(refine xa ?_ ?_<;>intro _)|refine wq ?_)<;>conv=>whnf)
    refine ixB (by omega) (by omega) fun c hc=>?_;conv=>whnf
    repeat' first|((first|refine zz ?_|(refine xa ?_ ?_<;>intro _)|refine wq ?_)<;>conv=>whnf)
    have e3:=x12 ((a+1 - 1)*7+3) (b:=((bytesRows bs).length:Int)) (by omega);have e4:=x1q ((a+1 - 1)*7+3) (b:=((bytesRows bs).length:Int)) (by omega);refine r64 (by omega) (by omega) ?_;generalize ((a+1 - 1)*7+3) % ((bytesRows bs).length:Int)=i' at e3 e4;conv=>whnf
    repeat' first|((first|refine zz ?_|(refine xa ?_ ?_<;>intro _)|refine wq ?_)<;>conv=>whnf)
    refine ixB (by omega) (by omega) fun c' hc'=>?_;conv=>whnf
    repeat' first|((first|refine zz ?_|(refine xa ?_ ?_<;>intro _)|refine wq ?_)<;>conv=>whnf)
    have e5:=x3g (a:=a+1 - 1) (b:=((bytesRows bs).length:Int)) (by omega) (by omega);have e6:=x33 (a:=a+1 - 1) ((bytesRows bs).length:Int) (by omega);refine q64 (by omega) (by omega) (by omega) ?_;generalize (a+1 - 1) / ((bytesRows bs).length:Int)=q at e5 e6;conv=>whnf
    repeat' first|((first|refine zz ?_|(refine xa ?_ ?_<;>intro _)|refine wq ?_)<;>conv=>whnf)
    have hs:0<=c*131+c'*1117+(a+1 - 1)*29+q*53/\c*131+c'*1117+(a+1 - 1)*29+q*53<4611686018427387904:=by omega
    generalize c*131+c'*1117+(a+1 - 1)*29+q*53=s at hs;have e7:=x3g (a:=s) (b:=64) (by omega) (by omega);have e8:=x33 (a:=s) 64 (by omega);refine q64 (by omega) (by omega) (by omega) ?_;generalize s / 64=s' at e7 e8;conv=>whnf
    repeat' first|((first|refine zz ?_|(refine xa ?_ ?_<;>intro _))<;>conv=>whnf)
    refine xor64 hs (by omega) fun d hd=>?_;conv=>whnf
    repeat' first|((first|refine zz ?_|(refine xa ?_ ?_<;>intro _)|refine r64 (by omega) (by omega) ?_)<;>conv=>whnf)
    have:=x12 d (b:=k) (by omega);have:=x1q d (b:=k) (by omega);exact ⟨d % k,⟨by omega,by omega⟩,rfl,rfl⟩
 obtain ⟨r,o,⟨n,h1,h2,rfl⟩,h3⟩:=key;exact ⟨_,r,⟨n,h1,h2,rfl⟩,h3⟩
theorem rwL (L:List Int) {n:Int} {rows:List (List AV)} {k:List AV->Prop} (hr:rows=ints L) (h0:0<=n) (h:n<L.length) (hk:∀ c∈L,k (rI c)):∃ row,rows[n.toNat]?=some row/\k row:=by
 subst hr;refine ⟨rI (L[n.toNat]'(by omega)),by rw [xzr,xzh (by omega)]; rfl,hk _ (x0m _)⟩
def coef (l:List Int) (n:Nat):Prop:=l.length=n/\∀ x∈l,-2<=x/\x<=2
theorem coef.set {l:List Int} {n i:Nat} {c:Int} (h:coef l n) (hc : -2<=c/\c<=2):coef (l.set i c) n:=by
 refine ⟨by rw [x03]; exact h.1,fun x hx=>?_⟩;rcases x1l hx with h'|rfl
 · exact h.2 x h'
 · exact hc
theorem xvy {l m:List Int} {k:Int} (hl:coef l 3) (hm:coef m 2) (hk : -20<=k/\k<=20):(⟨l,m,k⟩:Form).small=true:=by
 simp only [Form.small,xzj];exact ⟨⟨xe.2 hl,xe.2 hm⟩,xc.2 hk⟩
theorem xdc (bs:List UInt8) (a:Int) (ha:0<=a/\a<=100000000000) (hbs:bs.length<=2000) :
 ∃ os res,(∃ f a',(a<=a'/\a'<=a+6)/\f.small=true/\res=.agg (aF f)/\os=aRd bs a')/\Sem P 298 [(.io 0 0,.agg (aRd bs a))] [.agg os] res:=by
 have key:∃ res outs,(∃ f a',(a<=a'/\a'<=a+6)/\f.small=true/\res=.agg (aF f)/\outs=[.agg (aRd bs a')])/\Sem P 298 [(.io 0 0,.agg (aRd bs a))] outs res:=by
  refine xw (E:={ E0 with keep:=[2000] }) xm xn (fn:=Go.Proofs.Tryz.f298) (by kernel_rfl) (by kernel_rfl) ?_;conv=>whnf
  repeat' first|((first|refine zz ?_|(refine xa ?_ ?_<;>intro _)|refine ⟨_,z6,?_⟩)<;>conv=>whnf)
  refine Vc.loop3 (fun (i:Nat) (l:List Int) (b:Int)=>i<=3/\coef l 3/\a<=b/\b<=a+i) (fun i l b=>updL [0,2,3,5,20,21,22,23,24,25,26,27,28,29,30,31,32,33,34,35,36,37,38,39] [(4,I i)] [(128000,.arr 3 (ints l) false),(63,.box (aRd bs b))]) (fun i _ _=>3 - i) 0 [0,0,0] a ⟨by omega,⟨rfl,by simp⟩,by omega,by omega⟩ ?_ (fun i l b hi=>?_)
  · exact wl
  · obtain ⟨hi,hl,h1,h2⟩:=hi;have hl1:=hl.1;conv=>whnf
    (refine zA ?_)
    refine xd (fun g=>?_) (fun g=>?_)
    all_goals conv=>whnf
    · repeat' first|((first|refine zz ?_|(refine xa ?_ ?_<;>intro _))<;>conv=>whnf)|(refine callIo (xf bs _ _ (by omega) (by omega) hbs) ?_; rintro _ _ ⟨n,hn,rfl,rfl⟩;conv=>whnf)
      refine ioN hn.1 (by simp; omega) ?_;conv=>whnf
      repeat' first|((first|refine zz ?_|(refine xa ?_ ?_<;>intro _))<;>conv=>whnf)
      refine rwL [0,0,0,1,-1,2] rfl hn.1 (by simp; omega) fun c hc=>?_;have hc2 : -2<=c/\c<=2:=by simp at hc; omega
      conv=>whnf
      repeat' first|((first|refine zz ?_|(refine xa ?_ ?_<;>intro _))<;>conv=>whnf)|(refine ioN (by omega) (by rw [xb]; omega) ?_;conv=>whnf)|((first|refine rwN (enc:=rI) 0 (by omega) ?_|refine wq ?_)<;>conv=>whnf)
      refine ⟨i+1,l.set i c,b+1,⟨by omega,hl.set hc2,by omega,by omega⟩,by simp only; omega,?_⟩
      repeat' (first|exact True.intro|((conv=>whnf);first|exact True.intro|refine ⟨by rfl,?_⟩|refine ⟨by first|omega|(show (_:Int)=_;first|omega|(dsimp only;omega))|exact yz _ _ _,?_⟩|refine ⟨?_,?_⟩))
    ·
     (refine zA ?_)
     have e:i=3:=by omega
     subst e;refine Vc.loop3 (fun (j:Nat) (m:List Int) (b':Int)=>j<=2/\coef m 2/\a<=b'/\b'<=a+3+j) (fun j m b'=>updL [0,2,3,33,34,35,36,37,38,39] [(5,I j)] [(128001,.arr 3 (ints m) false),(63,.box (aRd bs b'))]) (fun j _ _=>2 - j) 0 [0,0] b ⟨by omega,⟨rfl,by simp⟩,by omega,by omega⟩ ?_ (fun j m b' hj=>?_)
     · exact wl
     · obtain ⟨hj,hm,k1,k2⟩:=hj;have hm1:=hm.1;conv=>whnf
       (refine zA ?_)
       refine xd (fun g=>?_) (fun g=>?_)
       all_goals conv=>whnf
       · repeat' first|((first|refine zz ?_|(refine xa ?_ ?_<;>intro _))<;>conv=>whnf)|(refine callIo (xf bs _ _ (by omega) (by omega) hbs) ?_; rintro _ _ ⟨n,hn,rfl,rfl⟩;conv=>whnf)
         refine ioN hn.1 (by simp; omega) ?_;conv=>whnf
         repeat' first|((first|refine zz ?_|(refine xa ?_ ?_<;>intro _))<;>conv=>whnf)
         refine rwL [0,0,1,-1,2] rfl hn.1 (by simp; omega) fun c hc=>?_;have hc2 : -2<=c/\c<=2:=by simp at hc; omega
         conv=>whnf
         repeat' first|((first|refine zz ?_|(refine xa ?_ ?_<;>intro _))<;>conv=>whnf)|(refine ioN (by omega) (by rw [xb]; omega) ?_;conv=>whnf)|((first|refine rwN (enc:=rI) 0 (by omega) ?_|refine wq ?_)<;>conv=>whnf)
         refine ⟨j+1,m.set j c,b'+1,⟨by omega,hm.set hc2,by omega,by omega⟩,by simp only; omega,?_⟩
         repeat' (first|exact True.intro|((conv=>whnf);first|exact True.intro|refine ⟨by rfl,?_⟩|refine ⟨by first|omega|(show (_:Int)=_;first|omega|(dsimp only;omega))|exact yz _ _ _,?_⟩|refine ⟨?_,?_⟩))
       · repeat' first|((first|refine zz ?_|(refine xa ?_ ?_<;>intro _))<;>conv=>whnf)|(refine callIo (xf bs _ _ (by omega) (by omega) hbs) ?_; rintro _ _ ⟨n,hn,rfl,rfl⟩;conv=>whnf)
         refine ioN hn.1 (by simp; omega) ?_;conv=>whnf
         repeat' first|((first|refine zz ?_|(refine xa ?_ ?_<;>intro _))<;>conv=>whnf)
         refine rwL [0,0,1,-1,5,-5,20,-20] rfl hn.1 (by simp; omega) fun c hc=>?_;have hc2 : -20<=c/\c<=20:=by simp at hc; omega
         conv=>whnf
         repeat' first|((first|refine zz ?_|(refine xa ?_ ?_<;>intro _))<;>conv=>whnf)|(refine ioN (by omega) (by rw [xb]; omega) ?_;conv=>whnf)|((first|refine rwN (enc:=rI) 0 (by omega) ?_|refine wq ?_)<;>conv=>whnf)
         exact ⟨⟨l,m,c⟩,b'+1,⟨by omega,by omega⟩,xvy hl hm hc2,rfl,rfl⟩
 obtain ⟨r,o,⟨f,a',h1,h2,h3,rfl⟩,h4⟩:=key;exact ⟨_,r,⟨f,a',h1,h2,h3,rfl⟩,h4⟩
theorem xvz (a b k:Int):Sem P 292 [(.pure,I a),(.pure,I b),(.pure,I k)] [] (.agg (aF ⟨[0,0,0],[a,b],k⟩)):=by
 refine fK [2000] Go.Proofs.Tryz.f292 fun hb=>?_;conv=>whnf
 repeat' first|((first|refine zz ?_|(refine xa ?_ ?_<;>intro _)|refine ⟨_,z6,?_⟩|refine ioK (x0v rfl) ?_|refine rwC rfl ?_)<;>conv=>whnf)
 all_goals first
  | exact ⟨rfl,rfl⟩
theorem xer (f:Form) (v:Nat) (n:Int) (hv:v<f.C.length):Sem P 291 [(.own,.agg (aF f)),(.pure,I v),(.pure,I n)] [] (.agg (aF { f with C:=f.C.set v n })):=by
 refine fO Go.Proofs.Tryz.f291 fun hb=>?_;have la:=xb f.C;conv=>whnf
 repeat' first|((first|refine zz ?_|(refine xa ?_ ?_<;>intro _)|refine ioN (by omega) (by omega) ?_|refine rwN (enc:=rI) 0 (by omega) ?_)<;>conv=>whnf)
 exact ⟨congrArg (fun x=>TV.agg [.sl 3 x,sI f.D,eI f.K]) (yz _ _ _),rfl⟩
theorem xxl {f:Form} {n:Int} (hf:f.small=true) (hn:1<=n/\n<=6):(⟨1,0,n,f⟩:Line).ok=true:=by
 simp [Line.ok,hf,xc,hn]
theorem xtn {f:Form} {n:Int} (hf:f.small=true) (hn:0<=n/\n<=2):(⟨2,n,0,f⟩:Line).ok=true:=by
 simp [Line.ok,hf,xc,hn]
theorem xv0 {f:Form} (hf:f.small=true):(⟨3,0,0,f⟩:Line).ok=true:=by
 simp [Line.ok,hf]
theorem xq5 {f:Form} (hf:f.small=true):({ f with C:=[0,0,0] }:Form).small=true:=by
 simp only [Form.small,xzj] at hf ⊢;exact ⟨⟨by decide,hf.1.2⟩,hf.2⟩
theorem xto (bs:List UInt8) (a:Int) (ha:0<=a/\a<=10000000000) (hbs:bs.length<=2000) :
 ∃ os res,(∃ l a',(a<=a'/\a'<=a+10)/\l.ok=true/\res=.agg (aL l)/\os=aRd bs a')/\Sem P 293 [(.io 0 0,.agg (aRd bs a))] [.agg os] res:=by
 have key:∃ res outs,(∃ l a',(a<=a'/\a'<=a+10)/\l.ok=true/\res=.agg (aL l)/\outs=[.agg (aRd bs a')])/\Sem P 293 [(.io 0 0,.agg (aRd bs a))] outs res:=by
  refine xw (E:={ E0 with keep:=[5004,9001,14001] }) xm xn (fn:=Go.Proofs.Tryz.f293) (by kernel_rfl) (by kernel_rfl) ?_;conv=>whnf
  repeat' first|((first|refine zz ?_|(refine xa ?_ ?_<;>intro _))<;>conv=>whnf)|(refine callIo (xf bs _ _ (by omega) (by omega) hbs) ?_; rintro _ _ ⟨n,hn,rfl,rfl⟩;conv=>whnf)|(refine callIo (xdc bs _ (by omega) hbs) ?_; rintro _ _ ⟨f,b,hb,hf,rfl,rfl⟩;conv=>whnf)|(refine wq ?_;conv=>whnf)
  all_goals first
   | (refine ⟨⟨1,0,1+n,f⟩,_,⟨?_,?_⟩,?_,rfl,rfl⟩
      · omega
      · omega
      · exact xxl hf (by omega))
   | (refine ⟨⟨2,n,0,f⟩,_,⟨?_,?_⟩,?_,rfl,rfl⟩
      · omega
      · omega
      · exact xtn hf (by omega))
   | (refine ⟨⟨2,n,0,{ f with C:=[0,0,0] }⟩,_,⟨?_,?_⟩,?_,rfl,rfl⟩
      · omega
      · omega
      · exact xtn (xq5 hf) (by omega))
   | (refine ⟨⟨3,0,0,f⟩,_,⟨?_,?_⟩,?_,rfl,rfl⟩
      · omega
      · omega
      · exact xv0 hf)
   | (refine ⟨⟨4,0,0,Form.nil⟩,_,⟨?_,?_⟩,?_,rfl,rfl⟩
      · omega
      · omega
      · rfl)
 obtain ⟨r,o,⟨f,a',h1,h2,h3,rfl⟩,h4⟩:=key;exact ⟨_,r,⟨f,a',h1,h2,h3,rfl⟩,h4⟩
theorem xbs (bs:List UInt8) (a k:Int) (ha:0<=a/\a<=10000000000) (hk:1<=k/\k<=1000000) (hbs:bs.length<=2000) :
 ∃ os res,(∃ (l:List Int) (a':Int),(a<=a'/\a'<=a+6)/\l.length<=3/\res=AI l/\os=aRd bs a')/\Sem P 216 [(.io 0 0,.agg (aRd bs a)),(.pure,I k)] [.agg os] res:=by
 have key:∃ res outs,(∃ (l:List Int) (a':Int),(a<=a'/\a'<=a+6)/\l.length<=3/\res=AI l/\outs=[.agg (aRd bs a')])/\Sem P 216 [(.io 0 0,.agg (aRd bs a)),(.pure,I k)] outs res:=by
  refine xw (E:={ E0 with cut:=[7001] }) xm xn (fn:=Go.Proofs.Tryz.f216) (by kernel_rfl) (by kernel_rfl) ?_;conv=>whnf
  repeat' first|((first|refine zz ?_|(refine xa ?_ ?_<;>intro _))<;>conv=>whnf)|(refine callIo (xf bs _ _ (by omega) (by omega) hbs) ?_; rintro _ _ ⟨n,hn,rfl,rfl⟩;conv=>whnf)|((first|refine wq ?_|refine apN (by simp) ?_)<;>conv=>whnf)
  · refine ⟨by decide,by decide,by simp,?_⟩;conv=>whnf
    refine ⟨rfl,?_⟩;conv=>whnf
    repeat' first|((first|refine zz ?_|(refine xa ?_ ?_<;>intro _))<;>conv=>whnf)
    refine ⟨[_],_,⟨?_,?_⟩,?_,rfl,rfl⟩
    all_goals first|omega|simp
  · refine ⟨[_,_,_],_,⟨?_,?_⟩,?_,rfl,rfl⟩
    all_goals first|omega|simp
  · refine ioN hn.1 (by simp; omega) ?_;conv=>whnf
    repeat' first|((first|refine zz ?_|(refine xa ?_ ?_<;>intro _))<;>conv=>whnf)
    refine rwL [10,-10] rfl hn.1 (by simp; omega) fun c hc=>?_;conv=>whnf
    repeat' first|((first|refine zz ?_|(refine xa ?_ ?_<;>intro _))<;>conv=>whnf)|(refine ioN (by omega) (by simp; omega) ?_;conv=>whnf)|(refine rwN (L:=[_,_]) (enc:=rI) 0 (by simp; omega) ?_;conv=>whnf)
    refine ⟨[_,_].set _ c,_,⟨?_,?_⟩,?_,congrArg (fun x=>TV.one (.sl 3 x)) (yz [_,_] _ c),rfl⟩
    all_goals first|omega|simp
  · refine ⟨[_,_],_,⟨?_,?_⟩,?_,rfl,rfl⟩
    all_goals first|omega|simp
 obtain ⟨r,o,⟨f,a',h1,h2,h3,rfl⟩,h4⟩:=key;exact ⟨_,r,⟨f,a',h1,h2,h3,rfl⟩,h4⟩
theorem xls (bs:List UInt8) (a k:Int) (ha:0<=a/\a<=10000000000) (hk:1<=k/\k<=1000000) (hbs:bs.length<=2000) :
 ∃ os res,(∃ (r:Rslt) (a':Int),(a<=a'/\a'<=a+10)/\(res=.agg (aR r)\/res=.agg (eR r))/\os=aRd bs a')/\Sem P 166 [(.io 0 0,.agg (aRd bs a)),(.pure,I k)] [.agg os] res:=by
 have key:∃ res outs,(∃ (r:Rslt) (a':Int),(a<=a'/\a'<=a+10)/\(res=.agg (aR r)\/res=.agg (eR r))/\outs=[.agg (aRd bs a')])/\Sem P 166 [(.io 0 0,.agg (aRd bs a)),(.pure,I k)] outs res:=by
  refine xw (E:={ E0 with fz:=[(15,[704320])] }) xm xn (fn:=Go.Proofs.Tryz.f166) (by kernel_rfl) (by kernel_rfl) ?_;conv=>whnf
  repeat' first|((first|refine zz ?_|(refine xa ?_ ?_<;>intro _))<;>conv=>whnf)|(refine callIo (xf bs _ _ (by omega) (by omega) hbs) ?_; rintro _ _ ⟨n,hn,rfl,rfl⟩;conv=>whnf)|((first|refine wq ?_|refine apN (by simp) ?_)<;>conv=>whnf)
  · rename_i m hm h1;refine Vc.loop3 (fun (i:Int) (l:List Int) (b:Int)=>0<=i/\i<=3/\(l.length:Int)<=3 - i/\a<=b/\b<=a+2+(3 - i)) (fun i l b=>updL [0,1,4,5,30,31,32,33,34,35,36,37,38,39,40,41,42,43,44,45,46,47,48,49,50,51,52,53,54,55,56,57,58,59,60,61,62,63] [(6,I i)] [(128256,.box [eI (1+m),.ref 128322]),(128322,.arr 3 (ints l) false),(63,.box (aRd bs b))]) (fun i _ _=>i.toNat) n [] (a+1+1) ⟨by omega,by omega,by simp; omega,by omega,by omega⟩ ?_ (fun i l b hi=>?_)
    · exact wk
    · obtain ⟨i0,i3,hl,b1,b2⟩:=hi;have ll:=xb l;conv=>whnf
      (refine zA ?_)
      refine xd (fun g=>?_) (fun g=>?_)
      all_goals conv=>whnf
      · repeat' first|((first|refine zz ?_|(refine xa ?_ ?_<;>intro _))<;>conv=>whnf)|(refine callIo (xf bs _ _ (by omega) (by omega) hbs) ?_; rintro _ _ ⟨n,hn,rfl,rfl⟩;conv=>whnf)
        refine ioN hn.1 (by simp; omega) ?_;conv=>whnf
        repeat' first|((first|refine zz ?_|(refine xa ?_ ?_<;>intro _))<;>conv=>whnf)
        refine rwL [0,7,-7,12345] rfl hn.1 (by simp; omega) fun c hc=>?_;conv=>whnf
        repeat' first|((first|refine zz ?_|(refine xa ?_ ?_<;>intro _))<;>conv=>whnf)|(refine apN (by simp; omega) ?_;conv=>whnf)|((first|refine wq ?_)<;>conv=>whnf)
        refine ⟨i - 1,l++[c],b+1,⟨by omega,by omega,by simp; omega,by omega,by omega⟩,by simp only; omega,?_⟩
        repeat' (first|exact True.intro|((conv=>whnf);first|exact True.intro|refine ⟨by rfl,?_⟩|refine ⟨by first|omega|(show (_:Int)=_;first|omega|(dsimp only;omega))|exact y0 _ _,?_⟩|refine ⟨?_,?_⟩))
      · repeat' first|((first|refine zz ?_|(refine xa ?_ ?_<;>intro _))<;>conv=>whnf)|(refine callIo (xf bs _ _ (by omega) (by omega) hbs) ?_; rintro _ _ ⟨n,hn,rfl,rfl⟩;conv=>whnf)|(refine wq ?_;conv=>whnf)|(refine apN (by simp; omega) ?_;conv=>whnf)
        · exact ⟨⟨1+m,l⟩,_,⟨by omega,by omega⟩,.inl rfl,rfl⟩
        · refine ioN hn.1 (by simp; omega) ?_;conv=>whnf
          repeat' first|((first|refine zz ?_|(refine xa ?_ ?_<;>intro _))<;>conv=>whnf)
          refine rwL [0,4,-1] rfl hn.1 (by simp; omega) fun c hc=>?_;conv=>whnf
          repeat' first|((first|refine zz ?_|(refine xa ?_ ?_<;>intro _))<;>conv=>whnf)
          exact ⟨⟨c,l⟩,_,⟨by omega,by omega⟩,.inl rfl,rfl⟩
        · exact ⟨⟨1+m,l++[1]⟩,_,⟨by omega,by omega⟩,.inl (congrArg (fun x=>TV.agg [eI (1+m),.sl 3 x]) (y0 l 1)),rfl⟩
        · refine ioN hn.1 (by simp; omega) ?_;conv=>whnf
          repeat' first|((first|refine zz ?_|(refine xa ?_ ?_<;>intro _))<;>conv=>whnf)
          have h5:n=0\/n=1\/n=2\/n=3\/n=4:=by omega
          rcases h5 with rfl|rfl|rfl|rfl|rfl
          all_goals
           refine rwC rfl ?_;conv=>whnf
           repeat' first|((first|refine zz ?_|(refine xa ?_ ?_<;>intro _))<;>conv=>whnf)
          · exact ⟨⟨1+m,[1,2,3,4,5,6,7]⟩,_,⟨by omega,by omega⟩,.inr rfl,rfl⟩
          all_goals exact ⟨⟨1+m,[_]⟩,_,⟨by omega,by omega⟩,.inr rfl,rfl⟩
  · exact ⟨⟨_,[]⟩,_,⟨by omega,by omega⟩,.inl rfl,rfl⟩
  · refine ioN hn.1 (by simp; omega) ?_;conv=>whnf
    repeat' first|((first|refine zz ?_|(refine xa ?_ ?_<;>intro _))<;>conv=>whnf)
    refine rwL [0,4,-1] rfl hn.1 (by simp; omega) fun c hc=>?_;conv=>whnf
    repeat' first|((first|refine zz ?_|(refine xa ?_ ?_<;>intro _))<;>conv=>whnf)
    exact ⟨⟨c,[]⟩,_,⟨by omega,by omega⟩,.inl rfl,rfl⟩
  · exact ⟨⟨_,[1]⟩,_,⟨by omega,by omega⟩,.inl rfl,rfl⟩
  · refine ioN hn.1 (by simp; omega) ?_;conv=>whnf
    repeat' first|((first|refine zz ?_|(refine xa ?_ ?_<;>intro _))<;>conv=>whnf)
    have h5:n=0\/n=1\/n=2\/n=3\/n=4:=by omega
    rcases h5 with rfl|rfl|rfl|rfl|rfl
    all_goals
     refine rwC rfl ?_;conv=>whnf
     repeat' first|((first|refine zz ?_|(refine xa ?_ ?_<;>intro _))<;>conv=>whnf)
    · exact ⟨⟨_,[1,2,3,4,5,6,7]⟩,_,⟨by omega,by omega⟩,.inr rfl,rfl⟩
    all_goals exact ⟨⟨_,[_]⟩,_,⟨by omega,by omega⟩,.inr rfl,rfl⟩
 obtain ⟨r,o,⟨f,a',h1,h2,rfl⟩,h4⟩:=key;exact ⟨_,r,⟨f,a',h1,h2,rfl⟩,h4⟩
def unI:List (List AV)->List Int
 | [.prim (.int .i64 n)]::r=>n::unI r
 | _=>[]
theorem rwI {rows:List (List AV)} {n:Int} {k:List AV->Prop} (hr:ints (unI rows)=rows) (h0:0<=n) (h:n<rows.length) (hk:∀ c∈unI rows,k (rI c)):∃ row,rows[n.toNat]?=some row/\k row:=by
 rw [<- hr] at h ⊢;rw [xb] at h;exact ⟨rI ((unI rows)[n.toNat]'(by omega)),by rw [xzr,xzh (by omega)]; rfl,hk _ (x0m _)⟩
theorem slN {l h n:Int} {k:Prop} (h0:0<=l) (h1:l<=h) (h2:h<=n) (hk:k):0<=l/\l<=h/\h<=n/\k:=⟨h0,h1,h2,hk⟩
theorem ctN {k:Prop} (hk:k):(0:Int)=0/\k:=⟨rfl,hk⟩
theorem xtp {f:Form} (h:f.small=true):f.C.length=3/\f.D.length=2:=(qj h).1.1
theorem xje (l:List Int) (n:Nat):(ints l).take n=ints (l.take n):=x1u.symm
theorem rwE {rows:List (List AV)} {l:List Int} {i:Nat} {k:List AV->Prop} (hr:rows=ints l) (h:i<l.length) (hk:k (rI (l.getD i 0))):∃ row,rows[i]?=some row/\k row:=by
 subst hr; exact rwN (enc:=rI) 0 h hk
theorem drForm {a m:Int} {bs:List UInt8} {res:TV} {os:List TV} {C D:List Int} {K a':Int} (e:res=.agg [sI C,sI D,eI K]) (e2:os=[.agg (aRd bs a')]) (hb:a<=a'/\a'<=a+m):∃ (f:Form) (a':Int),(a<=a'/\a'<=a+m)/\res=.agg (aF f)/\os=[.agg (aRd bs a')] :=
 ⟨⟨C,D,K⟩,a',hb,e,e2⟩
theorem xtq (bs:List UInt8) (a k:Int) (ha:0<=a/\a<=10000000000) (hk:1<=k/\k<=1000000) (hbs:bs.length<=2000) :
 ∃ os res,(∃ (f:Form) (a':Int),(a<=a'/\a'<=a+20)/\res=.agg (aF f)/\os=aRd bs a')/\Sem P 297 [(.io 0 0,.agg (aRd bs a)),(.pure,I k)] [.agg os] res:=by
 have key:∃ res outs,(∃ (f:Form) (a':Int),(a<=a'/\a'<=a+20)/\res=.agg (aF f)/\outs=[.agg (aRd bs a')])/\Sem P 297 [(.io 0 0,.agg (aRd bs a)),(.pure,I k)] outs res:=by
  refine xw (E:={ E0 with keep:=[2001],cut:=[10002] }) xm xn (fn:=Go.Proofs.Tryz.f297) (by kernel_rfl) (by kernel_rfl) ?_;conv=>whnf
  repeat' first|((first|refine zz ?_|(refine xa ?_ ?_<;>intro _))<;>conv=>whnf)|(refine callIo (xf bs _ _ (by omega) (by omega) hbs) ?_; rintro _ _ ⟨n,hn,rfl,rfl⟩;conv=>whnf)|(refine ioN (by first|omega|(dsimp only; omega)|(simp<;>omega)|(simp_all<;>omega)) (by first|omega|(dsimp only; omega)|(simp<;>omega)|(simp_all<;>omega)) ?_;conv=>whnf)|(refine rwI rfl (by first|omega|(dsimp only; omega)|(simp<;>omega)|(simp_all<;>omega)) (by first|omega|(dsimp only; omega)|(simp<;>omega)|(simp_all<;>omega)) fun c hc=>?_;conv=>whnf)|(refine rwN (enc:=rI) 0 (by first|omega|(dsimp only; omega)|(simp<;>omega)|(simp_all<;>omega)) ?_;conv=>whnf)|(refine wq ?_;conv=>whnf)|(refine apN (by simp; omega) ?_;conv=>whnf)|(refine callIo (xdc bs _ (by omega) hbs) ?_; rintro _ _ ⟨f,b,hb,hf,rfl,rfl⟩; have hl:=xtp hf; have hl1:=hl.1; have hl2:=hl.2;conv=>whnf)|(refine rwE (yz _ _ _) (by first|omega|(dsimp only; omega)|(simp<;>omega)|(simp_all<;>omega)) ?_;conv=>whnf)|(refine slN (by decide) (by decide) (by first|omega|(dsimp only; omega)|(simp<;>omega)|(simp_all<;>omega)) ?_;conv=>whnf)|((first|refine ctN ?_)<;>conv=>whnf)
  all_goals
   apply drForm
   · (try simp only [yz,y0,xje]); rfl
   · rfl
   · constructor<;>omega
 obtain ⟨r,o,⟨f,a',h1,h2,rfl⟩,h4⟩:=key;exact ⟨_,r,⟨f,a',h1,h2,rfl⟩,h4⟩
end Cc
end
