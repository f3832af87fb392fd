/- The law FnClkFold: part 9 of 35. No conditions beyond the statement. -/
import Derived.Test.YtnigojkdmmeglaaGreatDoorClf8
set_option linter.unusedVariables false
set_option linter.unusedSimpArgs false
set_option maxRecDepth 100000
set_option maxHeartbeats 16000000
section
namespace Cc
open Go Go.AM
theorem rwL (L:List Int) {n:Int} {rows:List (List AV)} {k:List AV->Prop} (hr:rows=ints L) (h0:0<=n) (h:n<L.length) (hk:∀ c∈L,k (rI c)):∃ row,rows[n.toNat]?=some row/\k row:=by
 subst hr;refine ⟨rI (L[n.toNat]'(by omega)),by rw [xx0,xxr (by omega)]; rfl,hk _ (xyy _)⟩
def coef (l:List Int) (n:Nat):Prop:=l.length=n/\∀ x∈l,-2<=x/\x<=2
theorem coef.set {l:List Int} {n i:Nat} {c:Int} (h:coef l n) (hc : -2<=c/\c<=2):coef (l.set i c) n:=by
 refine ⟨by rw [xzd]; exact h.1,fun x hx=>?_⟩;rcases xz0 hx with h'|rfl
 · exact h.2 x h'
 · exact hc
theorem xue {l m:List Int} {k:Int} (hl:coef l 3) (hm:coef m 2) (hk : -20<=k/\k<=20):(⟨l,m,k⟩:Form).small=true:=by
 simp only [Form.small,xxt];exact ⟨⟨xe.2 hl,xe.2 hm⟩,xc.2 hk⟩
theorem xcn (bs:List UInt8) (a:Int) (ha:0<=a/\a<=100000000000) (hbs:bs.length<=2000) :
 ∃ os res,(∃ f a',(a<=a'/\a'<=a+6)/\f.small=true/\res=.agg (aF f)/\os=aRd bs a')/\Sem P 298 [(.io 0 0,.agg (aRd bs a))] [.agg os] res:=by
 have key:∃ res outs,(∃ f a',(a<=a'/\a'<=a+6)/\f.small=true/\res=.agg (aF f)/\outs=[.agg (aRd bs a')])/\Sem P 298 [(.io 0 0,.agg (aRd bs a))] outs res:=by
  refine x5 (E:={ E0 with keep:=[2000] }) xn xo (fn:=Go.Proofs.Tryz.f298) (by kernel_rfl) (by kernel_rfl) ?_;conv=>whnf
  repeat' first|((first|refine zz ?_|(refine xa ?_ ?_<;>intro _)|refine ⟨_,zr,?_⟩)<;>conv=>whnf)
  refine Vc.loop3 (fun (i:Nat) (l:List Int) (b:Int)=>i<=3/\coef l 3/\a<=b/\b<=a+i) (fun i l b=>updL [0,2,3,5,20,21,22,23,24,25,26,27,28,29,30,31,32,33,34,35,36,37,38,39] [(4,I i)] [(128000,.arr 3 (ints l) false),(63,.box (aRd bs b))]) (fun i _ _=>3 - i) 0 [0,0,0] a ⟨by omega,⟨rfl,by simp⟩,by omega,by omega⟩ ?_ (fun i l b hi=>?_)
  · exact wl
  · obtain ⟨hi,hl,h1,h2⟩:=hi;have hl1:=hl.1;conv=>whnf
    (refine zA ?_)
    refine xd (fun g=>?_) (fun g=>?_)
    all_goals conv=>whnf
    · repeat' first|((first|refine zz ?_|(refine xa ?_ ?_<;>intro _))<;>conv=>whnf)|(refine callIo (xh bs _ _ (by omega) (by omega) hbs) ?_; rintro _ _ ⟨n,hn,rfl,rfl⟩;conv=>whnf)
      refine ioN hn.1 (by simp; omega) ?_;conv=>whnf
      repeat' first|((first|refine zz ?_|(refine xa ?_ ?_<;>intro _))<;>conv=>whnf)
      refine rwL [0,0,0,1,-1,2] rfl hn.1 (by simp; omega) fun c hc=>?_;have hc2 : -2<=c/\c<=2:=by simp at hc; omega
      conv=>whnf
      repeat' first|((first|refine zz ?_|(refine xa ?_ ?_<;>intro _))<;>conv=>whnf)|(refine ioN (by omega) (by rw [xb]; omega) ?_;conv=>whnf)|((first|refine rwN (enc:=rI) 0 (by omega) ?_|refine wq ?_)<;>conv=>whnf)
      refine ⟨i+1,l.set i c,b+1,⟨by omega,hl.set hc2,by omega,by omega⟩,by simp only; omega,?_⟩
      repeat' (first|exact True.intro|((conv=>whnf);first|exact True.intro|refine ⟨by rfl,?_⟩|refine ⟨by first|omega|(show (_:Int)=_;first|omega|(dsimp only;omega))|exact yr _ _ _,?_⟩|refine ⟨?_,?_⟩))
    ·
     (refine zA ?_)
     have e:i=3:=by omega
     subst e;refine Vc.loop3 (fun (j:Nat) (m:List Int) (b':Int)=>j<=2/\coef m 2/\a<=b'/\b'<=a+3+j) (fun j m b'=>updL [0,2,3,33,34,35,36,37,38,39] [(5,I j)] [(128001,.arr 3 (ints m) false),(63,.box (aRd bs b'))]) (fun j _ _=>2 - j) 0 [0,0] b ⟨by omega,⟨rfl,by simp⟩,by omega,by omega⟩ ?_ (fun j m b' hj=>?_)
     · exact wl
     · obtain ⟨hj,hm,k1,k2⟩:=hj;have hm1:=hm.1;conv=>whnf
       (refine zA ?_)
       refine xd (fun g=>?_) (fun g=>?_)
       all_goals conv=>whnf
       · repeat' first|((first|refine zz ?_|(refine xa ?_ ?_<;>intro _))<;>conv=>whnf)|(refine callIo (xh bs _ _ (by omega) (by omega) hbs) ?_; rintro _ _ ⟨n,hn,rfl,rfl⟩;conv=>whnf)
         refine ioN hn.1 (by simp; omega) ?_;conv=>whnf
         repeat' first|((first|refine zz ?_|(refine xa ?_ ?_<;>intro _))<;>conv=>whnf)
         refine rwL [0,0,1,-1,2] rfl hn.1 (by simp; omega) fun c hc=>?_;have hc2 : -2<=c/\c<=2:=by simp at hc; omega
         conv=>whnf
         repeat' first|((first|refine zz ?_|(refine xa ?_ ?_<;>intro _))<;>conv=>whnf)|(refine ioN (by omega) (by rw [xb]; omega) ?_;conv=>whnf)|((first|refine rwN (enc:=rI) 0 (by omega) ?_|refine wq ?_)<;>conv=>whnf)
         refine ⟨j+1,m.set j c,b'+1,⟨by omega,hm.set hc2,by omega,by omega⟩,by simp only; omega,?_⟩
         repeat' (first|exact True.intro|((conv=>whnf);first|exact True.intro|refine ⟨by rfl,?_⟩|refine ⟨by first|omega|(show (_:Int)=_;first|omega|(dsimp only;omega))|exact yr _ _ _,?_⟩|refine ⟨?_,?_⟩))
       · repeat' first|((first|refine zz ?_|(refine xa ?_ ?_<;>intro _))<;>conv=>whnf)|(refine callIo (xh bs _ _ (by omega) (by omega) hbs) ?_; rintro _ _ ⟨n,hn,rfl,rfl⟩;conv=>whnf)
         refine ioN hn.1 (by simp; omega) ?_;conv=>whnf
         repeat' first|((first|refine zz ?_|(refine xa ?_ ?_<;>intro _))<;>conv=>whnf)
         refine rwL [0,0,1,-1,5,-5,20,-20] rfl hn.1 (by simp; omega) fun c hc=>?_;have hc2 : -20<=c/\c<=20:=by simp at hc; omega
         conv=>whnf
         repeat' first|((first|refine zz ?_|(refine xa ?_ ?_<;>intro _))<;>conv=>whnf)|(refine ioN (by omega) (by rw [xb]; omega) ?_;conv=>whnf)|((first|refine rwN (enc:=rI) 0 (by omega) ?_|refine wq ?_)<;>conv=>whnf)
         exact ⟨⟨l,m,c⟩,b'+1,⟨by omega,by omega⟩,xue hl hm hc2,rfl,rfl⟩
 obtain ⟨r,o,⟨f,a',h1,h2,h3,rfl⟩,h4⟩:=key;exact ⟨_,r,⟨f,a',h1,h2,h3,rfl⟩,h4⟩
theorem xuf (a b k:Int):Sem P 292 [(.pure,I a),(.pure,I b),(.pure,I k)] [] (.agg (aF ⟨[0,0,0],[a,b],k⟩)):=by
 refine fK [2000] Go.Proofs.Tryz.f292 fun hb=>?_;conv=>whnf
 repeat' first|((first|refine zz ?_|(refine xa ?_ ?_<;>intro _)|refine ⟨_,zr,?_⟩|refine ioK (xy5 rfl) ?_|refine rwC rfl ?_)<;>conv=>whnf)
 all_goals first
  | exact ⟨rfl,rfl⟩
theorem xd0 (f:Form) (v:Nat) (n:Int) (hv:v<f.C.length):Sem P 291 [(.own,.agg (aF f)),(.pure,I v),(.pure,I n)] [] (.agg (aF { f with C:=f.C.set v n })):=by
 refine fO Go.Proofs.Tryz.f291 fun hb=>?_;have la:=xb f.C;conv=>whnf
 repeat' first|((first|refine zz ?_|(refine xa ?_ ?_<;>intro _)|refine ioN (by omega) (by omega) ?_|refine rwN (enc:=rI) 0 (by omega) ?_)<;>conv=>whnf)
 exact ⟨congrArg (fun x=>TV.agg [.sl 3 x,sI f.D,eI f.K]) (yr _ _ _),rfl⟩
theorem xv2 {f:Form} {n:Int} (hf:f.small=true) (hn:1<=n/\n<=6):(⟨1,0,n,f⟩:Line).ok=true:=by
 simp [Line.ok,hf,xc,hn]
theorem xr1 {f:Form} {n:Int} (hf:f.small=true) (hn:0<=n/\n<=2):(⟨2,n,0,f⟩:Line).ok=true:=by
 simp [Line.ok,hf,xc,hn]
theorem xug {f:Form} (hf:f.small=true):(⟨3,0,0,f⟩:Line).ok=true:=by
 simp [Line.ok,hf]
theorem xpj {f:Form} (hf:f.small=true):({ f with C:=[0,0,0] }:Form).small=true:=by
 simp only [Form.small,xxt] at hf ⊢;exact ⟨⟨by decide,hf.1.2⟩,hf.2⟩
theorem xr2 (bs:List UInt8) (a:Int) (ha:0<=a/\a<=10000000000) (hbs:bs.length<=2000) :
 ∃ os res,(∃ l a',(a<=a'/\a'<=a+10)/\l.ok=true/\res=.agg (aL l)/\os=aRd bs a')/\Sem P 293 [(.io 0 0,.agg (aRd bs a))] [.agg os] res:=by
 have key:∃ res outs,(∃ l a',(a<=a'/\a'<=a+10)/\l.ok=true/\res=.agg (aL l)/\outs=[.agg (aRd bs a')])/\Sem P 293 [(.io 0 0,.agg (aRd bs a))] outs res:=by
  refine x5 (E:={ E0 with keep:=[5004,9001,14001] }) xn xo (fn:=Go.Proofs.Tryz.f293) (by kernel_rfl) (by kernel_rfl) ?_;conv=>whnf
  repeat' first|((first|refine zz ?_|(refine xa ?_ ?_<;>intro _))<;>conv=>whnf)|(refine callIo (xh bs _ _ (by omega) (by omega) hbs) ?_; rintro _ _ ⟨n,hn,rfl,rfl⟩;conv=>whnf)|(refine callIo (xcn bs _ (by omega) hbs) ?_; rintro _ _ ⟨f,b,hb,hf,rfl,rfl⟩;conv=>whnf)|(refine wq ?_;conv=>whnf)
  all_goals first
   | (refine ⟨⟨1,0,1+n,f⟩,_,⟨?_,?_⟩,?_,rfl,rfl⟩
      · omega
      · omega
      · exact xv2 hf (by omega))
   | (refine ⟨⟨2,n,0,f⟩,_,⟨?_,?_⟩,?_,rfl,rfl⟩
      · omega
      · omega
      · exact xr1 hf (by omega))
   | (refine ⟨⟨2,n,0,{ f with C:=[0,0,0] }⟩,_,⟨?_,?_⟩,?_,rfl,rfl⟩
      · omega
      · omega
      · exact xr1 (xpj hf) (by omega))
   | (refine ⟨⟨3,0,0,f⟩,_,⟨?_,?_⟩,?_,rfl,rfl⟩
      · omega
      · omega
      · exact xug hf)
   | (refine ⟨⟨4,0,0,Form.nil⟩,_,⟨?_,?_⟩,?_,rfl,rfl⟩
      · omega
      · omega
      · rfl)
 obtain ⟨r,o,⟨f,a',h1,h2,h3,rfl⟩,h4⟩:=key;exact ⟨_,r,⟨f,a',h1,h2,h3,rfl⟩,h4⟩
theorem xa6 (bs:List UInt8) (a k:Int) (ha:0<=a/\a<=10000000000) (hk:1<=k/\k<=1000000) (hbs:bs.length<=2000) :
 ∃ os res,(∃ (l:List Int) (a':Int),(a<=a'/\a'<=a+6)/\l.length<=3/\res=AI l/\os=aRd bs a')/\Sem P 216 [(.io 0 0,.agg (aRd bs a)),(.pure,I k)] [.agg os] res:=by
 have key:∃ res outs,(∃ (l:List Int) (a':Int),(a<=a'/\a'<=a+6)/\l.length<=3/\res=AI l/\outs=[.agg (aRd bs a')])/\Sem P 216 [(.io 0 0,.agg (aRd bs a)),(.pure,I k)] outs res:=by
  refine x5 (E:={ E0 with cut:=[7001] }) xn xo (fn:=Go.Proofs.Tryz.f216) (by kernel_rfl) (by kernel_rfl) ?_;conv=>whnf
  repeat' first|((first|refine zz ?_|(refine xa ?_ ?_<;>intro _))<;>conv=>whnf)|(refine callIo (xh bs _ _ (by omega) (by omega) hbs) ?_; rintro _ _ ⟨n,hn,rfl,rfl⟩;conv=>whnf)|((first|refine wq ?_|refine apN (by simp) ?_)<;>conv=>whnf)
  · refine ⟨by decide,by decide,by simp,?_⟩;conv=>whnf
    refine ⟨rfl,?_⟩;conv=>whnf
    repeat' first|((first|refine zz ?_|(refine xa ?_ ?_<;>intro _))<;>conv=>whnf)
    refine ⟨[_],_,⟨?_,?_⟩,?_,rfl,rfl⟩
    all_goals first|omega|simp
  · refine ⟨[_,_,_],_,⟨?_,?_⟩,?_,rfl,rfl⟩
    all_goals first|omega|simp
  · refine ioN hn.1 (by simp; omega) ?_;conv=>whnf
    repeat' first|((first|refine zz ?_|(refine xa ?_ ?_<;>intro _))<;>conv=>whnf)
    refine rwL [10,-10] rfl hn.1 (by simp; omega) fun c hc=>?_;conv=>whnf
    repeat' first|((first|refine zz ?_|(refine xa ?_ ?_<;>intro _))<;>conv=>whnf)|(refine ioN (by omega) (by simp; omega) ?_;conv=>whnf)|(refine rwN (L:=[_,_]) (enc:=rI) 0 (by simp; omega) ?_;conv=>whnf)
    refine ⟨[_,_].set _ c,_,⟨?_,?_⟩,?_,congrArg (fun x=>TV.one (.sl 3 x)) (yr [_,_] _ c),rfl⟩
    all_goals first|omega|simp
  · refine ⟨[_,_],_,⟨?_,?_⟩,?_,rfl,rfl⟩
    all_goals first|omega|simp
 obtain ⟨r,o,⟨f,a',h1,h2,h3,rfl⟩,h4⟩:=key;exact ⟨_,r,⟨f,a',h1,h2,h3,rfl⟩,h4⟩
def unI:List (List AV)->List Int
 | [.prim (.int .i64 n)]::r=>n::unI r
 | _=>[]
theorem rwI {rows:List (List AV)} {n:Int} {k:List AV->Prop} (hr:ints (unI rows)=rows) (h0:0<=n) (h:n<rows.length) (hk:∀ c∈unI rows,k (rI c)):∃ row,rows[n.toNat]?=some row/\k row:=by
 rw [<- hr] at h ⊢;rw [xb] at h;exact ⟨rI ((unI rows)[n.toNat]'(by omega)),by rw [xx0,xxr (by omega)]; rfl,hk _ (xyy _)⟩
theorem slN {l h n:Int} {k:Prop} (h0:0<=l) (h1:l<=h) (h2:h<=n) (hk:k):0<=l/\l<=h/\h<=n/\k:=⟨h0,h1,h2,hk⟩
theorem ctN {k:Prop} (hk:k):(0:Int)=0/\k:=⟨rfl,hk⟩
theorem xr3 {f:Form} (h:f.small=true):f.C.length=3/\f.D.length=2:=(yx h).1.1
theorem xic (l:List Int) (n:Nat):(ints l).take n=ints (l.take n):=x0k.symm
theorem rwE {rows:List (List AV)} {l:List Int} {i:Nat} {k:List AV->Prop} (hr:rows=ints l) (h:i<l.length) (hk:k (rI (l.getD i 0))):∃ row,rows[i]?=some row/\k row:=by
 subst hr; exact rwN (enc:=rI) 0 h hk
theorem drForm {a m:Int} {bs:List UInt8} {res:TV} {os:List TV} {C D:List Int} {K a':Int} (e:res=.agg [sI C,sI D,eI K]) (e2:os=[.agg (aRd bs a')]) (hb:a<=a'/\a'<=a+m):∃ (f:Form) (a':Int),(a<=a'/\a'<=a+m)/\res=.agg (aF f)/\os=[.agg (aRd bs a')] :=
 ⟨⟨C,D,K⟩,a',hb,e,e2⟩
theorem xr4 (bs:List UInt8) (a k:Int) (ha:0<=a/\a<=10000000000) (hk:1<=k/\k<=1000000) (hbs:bs.length<=2000) :
 ∃ os res,(∃ (f:Form) (a':Int),(a<=a'/\a'<=a+20)/\res=.agg (aF f)/\os=aRd bs a')/\Sem P 297 [(.io 0 0,.agg (aRd bs a)),(.pure,I k)] [.agg os] res:=by
 have key:∃ res outs,(∃ (f:Form) (a':Int),(a<=a'/\a'<=a+20)/\res=.agg (aF f)/\outs=[.agg (aRd bs a')])/\Sem P 297 [(.io 0 0,.agg (aRd bs a)),(.pure,I k)] outs res:=by
  refine x5 (E:={ E0 with keep:=[2001],cut:=[10002] }) xn xo (fn:=Go.Proofs.Tryz.f297) (by kernel_rfl) (by kernel_rfl) ?_;conv=>whnf
  repeat' first|((first|refine zz ?_|(refine xa ?_ ?_<;>intro _))<;>conv=>whnf)|(refine callIo (xh bs _ _ (by omega) (by omega) hbs) ?_; rintro _ _ ⟨n,hn,rfl,rfl⟩;conv=>whnf)|(refine ioN (by first|omega|(dsimp only; omega)|(simp<;>omega)|(simp_all<;>omega)) (by first|omega|(dsimp only; omega)|(simp<;>omega)|(simp_all<;>omega)) ?_;conv=>whnf)|(refine rwI rfl (by first|omega|(dsimp only; omega)|(simp<;>omega)|(simp_all<;>omega)) (by first|omega|(dsimp only; omega)|(simp<;>omega)|(simp_all<;>omega)) fun c hc=>?_;conv=>whnf)|(refine rwN (enc:=rI) 0 (by first|omega|(dsimp only; omega)|(simp<;>omega)|(simp_all<;>omega)) ?_;conv=>whnf)|(refine wq ?_;conv=>whnf)|(refine apN (by simp; omega) ?_;conv=>whnf)|(refine callIo (xcn bs _ (by omega) hbs) ?_; rintro _ _ ⟨f,b,hb,hf,rfl,rfl⟩; have hl:=xr3 hf; have hl1:=hl.1; have hl2:=hl.2;conv=>whnf)|(refine rwE (yr _ _ _) (by first|omega|(dsimp only; omega)|(simp<;>omega)|(simp_all<;>omega)) ?_;conv=>whnf)|(refine slN (by decide) (by decide) (by first|omega|(dsimp only; omega)|(simp<;>omega)|(simp_all<;>omega)) ?_;conv=>whnf)|((first|refine ctN ?_)<;>conv=>whnf)
  all_goals
   apply drForm
   · (try simp only [yr,qa,xic]); rfl
   · rfl
   · constructor<;>omega
 obtain ⟨r,o,⟨f,a',h1,h2,rfl⟩,h4⟩:=key;exact ⟨_,r,⟨f,a',h1,h2,rfl⟩,h4⟩
end Cc
end
