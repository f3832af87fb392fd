/- The laws FnMsgOk, FnSitFree: part 18 of 41. No conditions beyond the statement. -/
import Derived.Test.YtnigojkdmmeglaaGreatDoorAll17
set_option linter.unusedVariables false
set_option linter.unusedSimpArgs false
set_option maxRecDepth 100000
set_option maxHeartbeats 16000000
section
namespace Cc
open Go Go.AM
theorem xpv {f:Form} {v a:List Int} (hf:f.bd 10000000) (hv:nums v 3) (ha:nums a 2) : -1000000000000000000<=f.at v a/\f.at v a<=1000000000000000000:=by
 obtain ⟨a,b,c,d,e,k,rfl,h1,h2,h3,h4,h5,h6⟩:=bdE hf;obtain ⟨x,y,z,rfl,v1,v2,v3⟩:=nums3 hv;obtain ⟨g,h,rfl,w1,w2⟩:=nums2 ha;have p1:=xo h1 v1;have p2:=xo h2 v2;have p3:=xo h3 v3;have p4:=xo h4 w1;have p5:=xo h5 w2;simp only [Form.at,dot];omega
def oth (l:List Int) (k i:Nat):Int:=(l.take i).sum - (if k<i then l.getD k 0 else 0)
theorem xgt (l:List Int) (k:Nat):oth l k 0=0:=by unfold oth; rw [if_neg (by omega)]; simp
theorem xgu {l:List Int} {k i:Nat} (h:i<l.length):oth l k (i+1)=oth l k i+(if i=k then 0 else l.getD i 0):=by
 unfold oth;have e:(l.take (i+1)).sum=(l.take i).sum+l.getD i 0:=by
  have:=xt h;rw [this,List.sum_append];show _+(l.getD i 0+0)=_;omega
 rw [e];by_cases h1:i=k
 · subst h1; rw [if_pos (by omega),if_neg (by omega),if_pos rfl]; omega
 · rw [if_neg h1];by_cases h2:k<i
   · rw [if_pos h2,if_pos (by omega)]; omega
   · rw [if_neg h2,if_neg (by omega)]; omega
theorem xbh {l:List Int} {k:Nat} (hg:∀ x∈l,0<=x/\x<=50):∀ {i:Nat},i<=l.length->0<=oth l k i/\oth l k i<=50*i
 | 0,_=>by rw [xgt]; omega
 | i+1,h=>by
   have ih:=xbh (k:=k) hg (i:=i) (by omega);have:=hg (l.getD i 0) (by rw [xzo,xzh (by omega)]; exact x0m _);rw [xgu (by omega)]
   split<;>omega
theorem xfk {l:List Int} {k:Nat} (h:k<l.length):oth l k l.length=others l k:=by
 unfold oth others;rw [xzx (x0r _),if_pos h,if_pos (by omega),xz9]
theorem xf8 (t:Treaty) (k:Nat) (hk:k<t.Gives.length) (h3:t.Gives.length<=3) (hg:∀ x∈t.Gives,0<=x/\x<=50):Sem P 308 [(.pure,.agg (aT t)),(.pure,I k)] [] (I (others t.Gives k)):=by
 have lg:=xb t.Gives;refine fO Go.Proofs.Tryz.f308 fun hb=>?_;conv=>whnf
 (refine zA ?_)
 refine Vc.loop2 (fun (i:Nat) (n:Int)=>i<=t.Gives.length/\n=oth t.Gives k i) (fun i n=>updL [1,2,4,24] [(6,I i),(5,I n)] []) (fun i _=>t.Gives.length - i) 0 0 ⟨xz1 _,(xgt _ _).symm⟩ ?_ (fun i n hi=>?_)
 · exact wk
 · obtain ⟨hi,rfl⟩:=hi;conv=>whnf
   (refine zA ?_)
   refine xd (fun g=>?_) (fun g=>?_)
   all_goals conv=>whnf
   · have hil:i<t.Gives.length:=by omega
     have es:=xgu (k:=k) hil;have b0:=xbh (k:=k) hg hi;have b1:=xbh (k:=k) hg (i:=i+1) (by omega);have hx:=hg (t.Gives.getD i 0) (by rw [xzo,xzh (by omega)]; exact x0m _)
     repeat' first|((first|refine zz ?_|(refine xa ?_ ?_<;>intro _)|refine ixN (enc:=rI) 0 (by omega) ?_|refine wq ?_)<;>conv=>whnf)
     · rename_i h;have h':¬ i=k:=by have:=yv h; omega
       rw [if_neg h'] at es;refine ⟨i+1,oth t.Gives k i+t.Gives.getD i 0,⟨by omega,es.symm⟩,by simp only; omega,?_⟩;exact wk
     · rename_i h;have h':i=k:=by have:=y8 h; omega
       rw [if_pos h'] at es;refine ⟨i+1,oth t.Gives k i,⟨by omega,by omega⟩,by simp only; omega,?_⟩;exact wk
   ·
    (refine zA ?_)
    have e:i=t.Gives.length:=by omega
    subst e;exact rI' (xfk hk)
theorem xwh {c:List Int} (h:c.length=3):decide (part c=[0,0,0])=zeros c:=by
 obtain ⟨x,y,z,rfl⟩:=len3 h
 cases hz:zeros [x,y,z] with
 | true =>
   have h0:∀ u∈[x,y,z],u=0:=by simpa [zeros] using hz
   rw [xjj h0];have:=h0 x (by simp); have:=h0 y (by simp); have:=h0 z (by simp);simp_all
 | false =>
   refine x3i fun e=>?_;have hs:(x=0/\y=0/\z=0)\/sign [x,y,z]=1\/sign [x,y,z] = -1:=by
    simp only [sign];by_cases h1:x>0
    · rw [if_pos h1]; simp
    · by_cases h2:x<0
      · rw [if_neg h1,if_pos h2]; simp
      · rw [if_neg h1,if_neg h2];by_cases h3:y>0
        · rw [if_pos h3]; simp
        · by_cases h4:y<0
          · rw [if_neg h3,if_pos h4]; simp
          · rw [if_neg h3,if_neg h4];by_cases h5:z>0
            · rw [if_pos h5]; simp
            · by_cases h6:z<0
              · rw [if_neg h5,if_pos h6]; simp
              · left; omega
   simp only [part,x0d,x18,x3e,x29] at e;have:x=0/\y=0/\z=0:=by
    rcases hs with hs|hs|hs
    · exact hs
    · rw [hs] at e; omega
    · rw [hs] at e; omega
   obtain ⟨rfl,rfl,rfl⟩:=this;simp [zeros] at hz
theorem xpw (l:List (List Int)) (p:List Int):decide (idxOf (fun q=>decide (q=p)) l<0)=!has l p:=by
 have:=zd (fun q=>decide (q=p)) l;unfold has;rw [<- this];simp only [<- Int.not_le,decide_not]
theorem xj0 {t:Treaty} (h:trtOk t=true):t.Gives.length<=3/\∀ x∈t.Gives,0<=x/\x<=50:=by
 unfold trtOk givesOk at h;simp only [xzj,xzl,xc] at h;exact ⟨by omega,h.2.2⟩
theorem xcu {t:Treaty} (h:trtOk t=true):valOk t.Base=true:=by unfold trtOk at h; simp only [xzj] at h; exact h.1
theorem zb {a:List Int} (h:argOk a=true):nums a 2:=by
 have:=xe.1 h;exact ⟨this.1,fun x hx=>by have:=this.2 x hx; omega⟩
theorem xml {t:Treaty} {a:List Int} (h:trtOk t=true) (ha:addedOk a=true):nums (plus t.Base a) 3:=by
 have h1:=xe.1 (xcu h);have h2:=xu ha;have:=xpu h1.1 h2.1 h1.2 h2.2;exact ⟨this.1,fun x hx=>by have:=this.2 x hx; omega⟩
abbrev tB (b:Int × Int × Bool):TV:=.tup [(false,[eI b.1]),(false,[eI b.2.1]),(false,[eB b.2.2])]
theorem xf9 (t:Treaty) (parts:List (List Int)) (s:Int) (a:List Int) (f:Form) (args:List Int):Sem P 288 [(.pure,.agg (aT t)),(.pure,.one (sPs parts)),(.pure,I s),(.pure,AI a),(.pure,.agg (aF f)),(.pure,AI args)] [] (tB (bounds t parts s a f args)):=by
 have lg:=xb t.Gives;by_cases hok:(trtOk t && partsOk parts && inB s 0 (t.Gives.length - 1) && addedOk a && f.ok && argOk args)=true
 · have h:=hok;simp only [xzj] at h;obtain ⟨⟨⟨⟨⟨h1,h2⟩,h3⟩,h4⟩,h5⟩,h6⟩:=h;have hs:=xc.1 h3;obtain ⟨k,rfl⟩:∃ k:Nat,s=k:=⟨s.toNat,by omega⟩;have hk:k<t.Gives.length:=by omega
   obtain ⟨g3,gv⟩:=xj0 h1;have hfb:=zm.1 h5;have hn:=xml h1 h4;have hat:=xpv hfb hn (zb h6);have b3:=xe.1 (xcu h1);have a3:=xu h4;have ob:=xbh (k:=k) gv (x0r t.Gives.length);rw [xfk hk] at ob
   have e:bounds t parts k a f args=if zeros f.C then (f.at (plus t.Base a) args,f.at (plus t.Base a) args,true) else if has parts (part f.C) then (f.at (plus t.Base a) args - others t.Gives k,f.at (plus t.Base a) args+others t.Gives k,true) else (0,0,false):=by
    unfold bounds; rw [if_pos hok]
   have hp:=xwh (c:=f.C) hfb.1.1;have hi:=xpw parts (part f.C);have hS:=xex (part f.C) [0,0,0];rw [hp] at hS;have i1:=j5 t;rw [h1] at i1;have i2:=j9 parts;rw [h2] at i2;have i3:Sem P 91 [(.pure,I k),(.pure,I 0),(.pure,I ((ints t.Gives).length - 1))] [] (B true):=by
    have:=xj k 0 ((ints t.Gives).length - 1);rw [lg,h3] at this; rw [lg]; exact this
   have i4:=x9 a 3 20000 (by omega);rw [show within a 3 20000=true from h4] at i4;have i5:=qt f;rw [h5] at i5;have i6:=ko args;rw [h6] at i6;rw [e];clear e hp
   cases hz:zeros f.C with
   | true =>
     rw [hz] at hS;refine fO Go.Proofs.Tryz.f288 fun hb=>?_;have hb1:(ints t.Gives).length<=1125899906842624:=(hb.1 (sI t.Gives) (by simp)).1;conv=>whnf
     repeat' first|((first|refine zz ?_|(refine xa ?_ ?_<;>intro _)|refine ⟨_,i1,?_⟩|refine ⟨_,i2,?_⟩|refine ⟨_,i3,?_⟩|refine ⟨_,i4,?_⟩|refine ⟨_,i5,?_⟩|refine ⟨_,i6,?_⟩)<;>conv=>whnf)|(refine ⟨_,kf t.Base a b3.1 a3.1 (fun x hx=>by have:=b3.2 x hx; omega) (fun x hx=>by have:=a3.2 x hx; omega),?_⟩;conv=>whnf)|((first|refine ⟨_,qx f (plus t.Base a) args hfb hn (zb h6),?_⟩)<;>conv=>whnf)|(refine ⟨_,xbv f.C f.D f.K (by rw [hfb.1.1]; decide) (fun x hx=>by have:=hfb.2.1 x hx; omega),?_⟩;conv=>whnf)|((first|refine ⟨_,z6,?_⟩|refine ⟨_,hS,?_⟩|refine wq ?_)<;>conv=>whnf)
     exact ⟨rfl,rfl⟩
   | false =>
     rw [hz] at hS
     cases hh:has parts (part f.C) with
     | true =>
       rw [hh] at hi;refine fO Go.Proofs.Tryz.f288 fun hb=>?_;have hb1:(ints t.Gives).length<=1125899906842624:=(hb.1 (sI t.Gives) (by simp)).1;conv=>whnf
       repeat' first|((first|refine zz ?_|(refine xa ?_ ?_<;>intro _)|refine ⟨_,i1,?_⟩|refine ⟨_,i2,?_⟩|refine ⟨_,i3,?_⟩|refine ⟨_,i4,?_⟩|refine ⟨_,i5,?_⟩|refine ⟨_,i6,?_⟩)<;>conv=>whnf)|(refine ⟨_,kf t.Base a b3.1 a3.1 (fun x hx=>by have:=b3.2 x hx; omega) (fun x hx=>by have:=a3.2 x hx; omega),?_⟩;conv=>whnf)|((first|refine ⟨_,qx f (plus t.Base a) args hfb hn (zb h6),?_⟩)<;>conv=>whnf)|(refine ⟨_,xbv f.C f.D f.K (by rw [hfb.1.1]; decide) (fun x hx=>by have:=hfb.2.1 x hx; omega),?_⟩;conv=>whnf)|((first|refine ⟨_,z6,?_⟩|refine ⟨_,hS,?_⟩|refine ⟨_,xgn parts (part f.C),?_⟩|refine ⟨_,xf8 t k hk g3 gv,?_⟩|refine wq ?_)<;>conv=>whnf)
       all_goals first
        | exact ⟨rfl,rfl⟩
        | (exfalso; rename_i hx; rw [hi] at hx; cases hx)
     | false =>
       rw [hh] at hi;refine fO Go.Proofs.Tryz.f288 fun hb=>?_;have hb1:(ints t.Gives).length<=1125899906842624:=(hb.1 (sI t.Gives) (by simp)).1;conv=>whnf
       repeat' first|((first|refine zz ?_|(refine xa ?_ ?_<;>intro _)|refine ⟨_,i1,?_⟩|refine ⟨_,i2,?_⟩|refine ⟨_,i3,?_⟩|refine ⟨_,i4,?_⟩|refine ⟨_,i5,?_⟩|refine ⟨_,i6,?_⟩)<;>conv=>whnf)|(refine ⟨_,kf t.Base a b3.1 a3.1 (fun x hx=>by have:=b3.2 x hx; omega) (fun x hx=>by have:=a3.2 x hx; omega),?_⟩;conv=>whnf)|((first|refine ⟨_,qx f (plus t.Base a) args hfb hn (zb h6),?_⟩)<;>conv=>whnf)|(refine ⟨_,xbv f.C f.D f.K (by rw [hfb.1.1]; decide) (fun x hx=>by have:=hfb.2.1 x hx; omega),?_⟩;conv=>whnf)|((first|refine ⟨_,z6,?_⟩|refine ⟨_,hS,?_⟩|refine ⟨_,xgn parts (part f.C),?_⟩|refine ⟨_,xf8 t k hk g3 gv,?_⟩|refine wq ?_)<;>conv=>whnf)
       all_goals first
        | exact ⟨rfl,rfl⟩
        | (exfalso; rename_i hx; rw [hi] at hx; cases hx)
 · refine fO Go.Proofs.Tryz.f288 fun hb=>?_;have hb1:(ints t.Gives).length<=1125899906842624:=(hb.1 (sI t.Gives) (by simp)).1;conv=>whnf
   repeat' first|((first|refine zz ?_|(refine xa ?_ ?_<;>intro _)|refine ⟨_,j5 t,?_⟩|refine ⟨_,j9 parts,?_⟩|refine ⟨_,xj _ _ _,?_⟩|refine ⟨_,x9 a 3 _ (by omega),?_⟩|refine ⟨_,qt f,?_⟩|refine ⟨_,ko args,?_⟩|refine wq ?_)<;>conv=>whnf)
   all_goals first
    | (refine ⟨?_,rfl⟩; unfold bounds; rw [if_neg hok]; done)
    | (exfalso; refine hok ?_; simp_all [addedOk]; done)
theorem xug (t:Treaty) (parts:List (List Int)) (s:Int) (a:List Int) (r:Row) (args:List Int):Sem P 249 [(.pure,.agg (aT t)),(.pure,.one (sPs parts)),(.pure,I s),(.pure,AI a),(.pure,.agg (aW r)),(.pure,AI args)] [] (B (r.Guards.all (sure t parts s a args))):=by
 have se:∀ g,sure t parts s a args g=((bounds t parts s a g args).2.2 && decide (0<=(bounds t parts s a g args).1)):=fun _=>rfl;refine fO Go.Proofs.Tryz.f249 fun hb=>?_;have hb1:(r.Guards.map eF).length<=1125899906842624:=(hb.2.2.2.2.1 (sFs r.Guards) (by simp)).1;have hlg:(r.Guards.map eF).length=r.Guards.length:=xzi ..;conv=>whnf
 (refine zA ?_)
 refine Vc.loop1 (fun (i:Nat)=>i<=r.Guards.length/\∀ j,j<i->sure t parts s a args (r.Guards.getD j default)=true) (fun i=>updL [1,2,3,5,6,10] [(13,I i)] []) (fun i=>r.Guards.length - i) 0 ⟨xz1 _,fun j hj=>absurd hj (x0z j)⟩ ?_ (fun i hi=>?_)
 · exact wk
 · obtain ⟨hi,ho⟩:=hi;conv=>whnf
   (refine zA ?_)
   refine xd (fun g=>?_) (fun g=>?_)
   all_goals conv=>whnf
   · have hil:i<r.Guards.length:=by omega
     have sx:=se (r.Guards.getD i default);have hB:=xf9 t parts s a (r.Guards.getD i default) args;generalize bounds t parts s a (r.Guards.getD i default) args=b at hB sx;obtain ⟨lo,up,ok⟩:=b
     cases ok with
     | false =>
       repeat' first|((first|refine zz ?_|(refine xa ?_ ?_<;>intro _)|refine ixN (enc:=eF) default hil ?_|refine ⟨_,hB,?_⟩|refine wq ?_)<;>conv=>whnf)
       all_goals first
        | exact rB (z8 default hil (by rw [sx]; rfl)).symm
     | true =>
       repeat' first|((first|refine zz ?_|(refine xa ?_ ?_<;>intro _)|refine ixN (enc:=eF) default hil ?_|refine ⟨_,hB,?_⟩|refine wq ?_)<;>conv=>whnf)
       all_goals first
        | (refine ⟨i+1,⟨by omega,fun j hj=>?_⟩,by simp only; omega,?_⟩
           · by_cases hji:j<i
             · exact ho j hji
             · obtain rfl:j=i:=by omega
               rw [sx];simp only [xzw] at *;simp only [x1h,xzk];omega
           · exact wk)
        | (refine rB (z8 default hil ?_).symm
           rw [sx];simp only [xzk] at *;simp only [x1h,xzw]
           omega)
   ·
    (refine zA ?_)
    exact rB (z7 default fun j hj=>ho j (by omega)).symm
end Cc
end
