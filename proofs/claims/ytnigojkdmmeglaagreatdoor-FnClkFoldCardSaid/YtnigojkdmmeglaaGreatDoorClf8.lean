/- The law FnClkFold: part 8 of 9. No conditions beyond the statement. -/
import Derived.Test.YtnigojkdmmeglaaGreatDoorClf7
set_option linter.unusedVariables false
set_option linter.unusedSimpArgs false
section
namespace Cc
open Go Go.AM
set_option maxRecDepth 100000
set_option maxHeartbeats 8000000
theorem xwc {f:Form} {v a:List Int} (hf:f.bd 10000000) (hv:nums v 3) (ha:nums a 2) : -1000000000000000000≤f.at v a∧f.at v a≤1000000000000000000:=by
 obtain ⟨a,b,c,d,e,k,rfl,h1,h2,h3,h4,h5,h6⟩:=bdE hf
 obtain ⟨x,y,z,rfl,v1,v2,v3⟩:=nums3 hv
 obtain ⟨g,h,rfl,w1,w2⟩:=nums2 ha
 have p1:=xm h1 v1
 have p2:=xm h2 v2
 have p3:=xm h3 v3
 have p4:=xm h4 w1
 have p5:=xm h5 w2
 simp only [Form.at,dot]
 omega
def oth (l:List Int) (k i:Nat):Int:=(l.take i).sum - (if k<i then l.getD k 0 else 0)
theorem xlf (l:List Int) (k:Nat):oth l k 0=0:=by unfold oth; rw [if_neg (by omega)]; simp
theorem xlg {l:List Int} {k i:Nat} (h:i<l.length):oth l k (i+1)=oth l k i+(if i=k then 0 else l.getD i 0):=by
 unfold oth
 have e:(l.take (i+1)).sum=(l.take i).sum+l.getD i 0:=by
  have:=xq h
  rw [this,List.sum_append]
  show _+(l.getD i 0+0)=_
  omega
 rw [e]
 by_cases h1:i=k
 · subst h1; rw [if_pos (by omega),if_neg (by omega),if_pos rfl]; omega
 · rw [if_neg h1]
   by_cases h2:k<i
   · rw [if_pos h2,if_pos (by omega)]; omega
   · rw [if_neg h2,if_neg (by omega)]; omega
theorem xg2 {l:List Int} {k:Nat} (hg:∀ x∈l,0≤x∧x≤50):∀ {i:Nat},i≤l.length→0≤oth l k i∧oth l k i≤50*i
 | 0,_=>by rw [xlf]; omega
 | i+1,h=>by
   have ih:=xg2 (k:=k) hg (i:=i) (by omega)
   have:=hg (l.getD i 0) (by rw [List.getD_eq_getElem?_getD,List.getElem?_eq_getElem (by omega)]; exact List.getElem_mem _)
   rw [xlg (by omega)]
   split<;>omega
theorem xn8 {l:List Int} {k:Nat} (h:k<l.length):oth l k l.length=others l k:=by
 unfold oth others
 rw [List.take_of_length_le (Nat.le_refl _),if_pos h,if_pos (by omega),Int.toNat_natCast]
theorem xff (t:Treaty) (k:Nat) (hk:k<t.Gives.length) (h3:t.Gives.length≤3) (hg:∀ x∈t.Gives,0≤x∧x≤50):Sem P 308 [(.pure,.agg (aT t)),(.pure,I k)] [] (I (others t.Gives k)):=by
 have lg:=xe t.Gives
 refine xd (E:=E0) xb xc (fn:=Go.Proofs.Tryz.f308) (by kernel_rfl) (by kernel_rfl) (fun hb=>?_)
 conv=>whnf
 (repeat' first|((first|refine sN ?_|refine dC ?_|(refine dZ ?_;refine dI ?_)|refine vM ?_|refine vD ?_|refine mS ?_)<;>conv=>whnf))
 refine Vc.loop2 (fun (i:Nat) (n:Int)=>i≤t.Gives.length∧n=oth t.Gives k i) (fun i n=>updL [1,2,4,24] [(6,I i),(5,I n)] []) (fun i _=>t.Gives.length - i) 0 0 ⟨Nat.zero_le _,(xlf _ _).symm⟩ ?_ (fun i n hi=>?_)
 · exact wk
 · obtain ⟨hi,rfl⟩:=hi
   conv=>whnf
   (repeat' first|((first|refine sN ?_|refine dC ?_|(refine dZ ?_;refine dI ?_)|refine vM ?_|refine vD ?_|refine mS ?_)<;>conv=>whnf))
   refine xg (fun g=>?_) (fun g=>?_)
   all_goals conv=>whnf
   · have hil:i<t.Gives.length:=by omega
     have es:=xlg (k:=k) hil
     have b0:=xg2 (k:=k) hg hi
     have b1:=xg2 (k:=k) hg (i:=i+1) (by omega)
     have hx:=hg (t.Gives.getD i 0) (by rw [List.getD_eq_getElem?_getD,List.getElem?_eq_getElem (by omega)]; exact List.getElem_mem _)
     repeat' first|((first|refine sN ?_|refine dC ?_|(refine dZ ?_;refine dI ?_)|refine vM ?_|refine vD ?_|refine mS ?_|(refine xa ?_ ?_<;>intro _)|refine ixN (enc:=rI) 0 (by omega) ?_|refine w64 (by omega) (by omega) ?_)<;>conv=>whnf)
     · rename_i h
       have h':¬ i=k:=by have:=yt h; omega
       rw [if_neg h'] at es
       refine ⟨i+1,oth t.Gives k i+t.Gives.getD i 0,⟨by omega,es.symm⟩,by simp only; omega,?_⟩
       exact wk
     · rename_i h
       have h':i=k:=by have:=yu h; omega
       rw [if_pos h'] at es
       refine ⟨i+1,oth t.Gives k i,⟨by omega,by omega⟩,by simp only; omega,?_⟩
       exact wk
   · (repeat' first|((first|refine sN ?_|refine dC ?_|(refine dZ ?_;refine dI ?_)|refine vM ?_|refine vD ?_|refine mS ?_)<;>conv=>whnf))
     have e:i=t.Gives.length:=by omega
     subst e
     exact rI' (xn8 hk)
theorem xuw {c:List Int} (h:c.length=3):decide (part c=[0,0,0])=zeros c:=by
 obtain ⟨x,y,z,rfl⟩:=len3 h
 cases hz:zeros [x,y,z] with
 | true =>
   have h0:∀ u∈[x,y,z],u=0:=by simpa [zeros] using hz
   rw [xig h0]
   have:=h0 x (by simp); have:=h0 y (by simp); have:=h0 z (by simp)
   simp_all
 | false =>
   refine decide_eq_false fun e=>?_
   have hs:(x=0∧y=0∧z=0)∨sign [x,y,z]=1∨sign [x,y,z] = -1:=by
    simp only [sign]
    by_cases h1:x>0
    · rw [if_pos h1]; simp
    · by_cases h2:x<0
      · rw [if_neg h1,if_pos h2]; simp
      · rw [if_neg h1,if_neg h2]
        by_cases h3:y>0
        · rw [if_pos h3]; simp
        · by_cases h4:y<0
          · rw [if_neg h3,if_pos h4]; simp
          · rw [if_neg h3,if_neg h4]
            by_cases h5:z>0
            · rw [if_pos h5]; simp
            · by_cases h6:z<0
              · rw [if_neg h5,if_pos h6]; simp
              · left; omega
   simp only [part,List.map_cons,List.map_nil,List.cons.injEq,and_true] at e
   have : x = 0 ∧ y = 0 ∧ z = 0 := by rcases hs with hs|hs|hs
                                      · exact hs
                                      · rw [hs] at e; omega
                                      · rw [hs] at e; omega
   obtain ⟨rfl,rfl,rfl⟩:=this
   simp [zeros] at hz
theorem xwd (l:List (List Int)) (p:List Int):decide (idxOf (fun q=>decide (q=p)) l<0)=!has l p:=by
 have:=zg (fun q=>decide (q=p)) l
 unfold has
 rw [← this]
 simp only [← Int.not_le,decide_not]
theorem xsx {t:Treaty} (h:trtOk t=true):t.Gives.length≤3∧∀ x∈t.Gives,0≤x∧x≤50:=by
 unfold trtOk givesOk at h
 simp only [Bool.and_eq_true,List.all_eq_true,xf] at h
 exact ⟨by omega,h.2.2⟩
theorem xn9 {t:Treaty} (h:trtOk t=true):valOk t.Base=true:=by unfold trtOk at h; simp only [Bool.and_eq_true] at h; exact h.1
theorem ql {a:List Int} (h:argOk a=true):nums a 2:=by
 have:=xh.1 h
 exact ⟨this.1,fun x hx=>by have:=this.2 x hx; omega⟩
theorem xux {t:Treaty} {a:List Int} (h:trtOk t=true) (ha:addedOk a=true):nums (plus t.Base a) 3:=by
 have h1:=xh.1 (xn9 h)
 have h2:=xt ha
 have:=xn7 h1.1 h2.1 h1.2 h2.2
 exact ⟨this.1,fun x hx=>by have:=this.2 x hx; omega⟩
abbrev tB (b:Int × Int × Bool):TV:=.tup [(false,[eI b.1]),(false,[eI b.2.1]),(false,[eB b.2.2])]
theorem xfg (t:Treaty) (parts:List (List Int)) (s:Int) (a:List Int) (f:Form) (args:List Int):Sem P 288 [(.pure,.agg (aT t)),(.pure,.one (sPs parts)),(.pure,I s),(.pure,AI a),(.pure,.agg (aF f)),(.pure,AI args)] [] (tB (bounds t parts s a f args)):=by
 have lg:=xe t.Gives
 by_cases hok:(trtOk t && partsOk parts && inB s 0 (t.Gives.length - 1) && addedOk a && f.ok && argOk args)=true
 · have h:=hok
   simp only [Bool.and_eq_true] at h
   obtain ⟨⟨⟨⟨⟨h1,h2⟩,h3⟩,h4⟩,h5⟩,h6⟩:=h
   have hs:=xf.1 h3
   obtain ⟨k,rfl⟩:∃ k:Nat,s=k:=⟨s.toNat,by omega⟩
   have hk:k<t.Gives.length:=by omega
   obtain ⟨g3,gv⟩:=xsx h1
   have hfb:=zk.1 h5
   have hn:=xux h1 h4
   have hat:=xwc hfb hn (ql h6)
   have b3:=xh.1 (xn9 h1)
   have a3:=xt h4
   have ob:=xg2 (k:=k) gv (Nat.le_refl t.Gives.length)
   rw [xn8 hk] at ob
   have e:bounds t parts k a f args=if zeros f.C then (f.at (plus t.Base a) args,f.at (plus t.Base a) args,true) else if has parts (part f.C) then (f.at (plus t.Base a) args - others t.Gives k,f.at (plus t.Base a) args+others t.Gives k,true) else (0,0,false):=by
    unfold bounds; rw [if_pos hok]
   have hp:=xuw (c:=f.C) hfb.1.1
   have hi:=xwd parts (part f.C)
   have hS:=xd7 (part f.C) [0,0,0]
   rw [hp] at hS
   have i1:=ju t
   rw [h1] at i1
   have i2:=jw parts
   rw [h2] at i2
   have i3:Sem P 91 [(.pure,I k),(.pure,I 0),(.pure,I ((ints t.Gives).length - 1))] [] (B true):=by
    have:=xl k 0 ((ints t.Gives).length - 1)
    rw [lg,h3] at this; rw [lg]; exact this
   have i4:=ya a 3 20000 (by omega)
   rw [show within a 3 20000=true from h4] at i4
   have i5:=qn f
   rw [h5] at i5
   have i6:=jr args
   rw [h6] at i6
   rw [e]
   clear e hp
   cases hz:zeros f.C with
   | true =>
     rw [hz] at hS
     refine xd (E:=E0) xb xc (fn:=Go.Proofs.Tryz.f288) (by kernel_rfl) (by kernel_rfl) (fun hb=>?_)
     have hb1:(ints t.Gives).length≤1125899906842624:=(hb.1 (sI t.Gives) (by simp)).1
     conv=>whnf
     repeat' first|((first|refine sN ?_|refine dC ?_|(refine dZ ?_;refine dI ?_)|refine vM ?_|refine vD ?_|refine mS ?_|(refine xa ?_ ?_<;>intro _)|refine ⟨_,i1,?_⟩|refine ⟨_,i2,?_⟩|refine ⟨_,i3,?_⟩|refine ⟨_,i4,?_⟩|refine ⟨_,i5,?_⟩|refine ⟨_,i6,?_⟩)<;>conv=>whnf)|(refine ⟨_,ka t.Base a b3.1 a3.1 (fun x hx=>by have:=b3.2 x hx; omega) (fun x hx=>by have:=a3.2 x hx; omega),?_⟩;conv=>whnf)|((first|refine ⟨_,qt f (plus t.Base a) args hfb hn (ql h6),?_⟩)<;>conv=>whnf)|(refine ⟨_,xa9 f.C f.D f.K (by rw [hfb.1.1]; decide) (fun x hx=>by have:=hfb.2.1 x hx; omega),?_⟩;conv=>whnf)|((first|refine ⟨_,zr,?_⟩|refine ⟨_,hS,?_⟩|refine w64 (by omega) (by omega) ?_)<;>conv=>whnf)
     exact ⟨rfl,rfl⟩
   | false =>
     rw [hz] at hS
     cases hh:has parts (part f.C) with
     | true =>
       rw [hh] at hi
       refine xd (E:=E0) xb xc (fn:=Go.Proofs.Tryz.f288) (by kernel_rfl) (by kernel_rfl) (fun hb=>?_)
       have hb1:(ints t.Gives).length≤1125899906842624:=(hb.1 (sI t.Gives) (by simp)).1
       conv=>whnf
       repeat' first|((first|refine sN ?_|refine dC ?_|(refine dZ ?_;refine dI ?_)|refine vM ?_|refine vD ?_|refine mS ?_|(refine xa ?_ ?_<;>intro _)|refine ⟨_,i1,?_⟩|refine ⟨_,i2,?_⟩|refine ⟨_,i3,?_⟩|refine ⟨_,i4,?_⟩|refine ⟨_,i5,?_⟩|refine ⟨_,i6,?_⟩)<;>conv=>whnf)|(refine ⟨_,ka t.Base a b3.1 a3.1 (fun x hx=>by have:=b3.2 x hx; omega) (fun x hx=>by have:=a3.2 x hx; omega),?_⟩;conv=>whnf)|((first|refine ⟨_,qt f (plus t.Base a) args hfb hn (ql h6),?_⟩)<;>conv=>whnf)|(refine ⟨_,xa9 f.C f.D f.K (by rw [hfb.1.1]; decide) (fun x hx=>by have:=hfb.2.1 x hx; omega),?_⟩;conv=>whnf)|((first|refine ⟨_,zr,?_⟩|refine ⟨_,hS,?_⟩|refine ⟨_,xfq parts (part f.C),?_⟩|refine ⟨_,xff t k hk g3 gv,?_⟩|refine w64 (by omega) (by omega) ?_)<;>conv=>whnf)
       all_goals first
        | exact ⟨rfl,rfl⟩
        | (exfalso; rename_i hx; rw [hi] at hx; cases hx)
        | trace_state
     | false =>
       rw [hh] at hi
       refine xd (E:=E0) xb xc (fn:=Go.Proofs.Tryz.f288) (by kernel_rfl) (by kernel_rfl) (fun hb=>?_)
       have hb1:(ints t.Gives).length≤1125899906842624:=(hb.1 (sI t.Gives) (by simp)).1
       conv=>whnf
       repeat' first|((first|refine sN ?_|refine dC ?_|(refine dZ ?_;refine dI ?_)|refine vM ?_|refine vD ?_|refine mS ?_|(refine xa ?_ ?_<;>intro _)|refine ⟨_,i1,?_⟩|refine ⟨_,i2,?_⟩|refine ⟨_,i3,?_⟩|refine ⟨_,i4,?_⟩|refine ⟨_,i5,?_⟩|refine ⟨_,i6,?_⟩)<;>conv=>whnf)|(refine ⟨_,ka t.Base a b3.1 a3.1 (fun x hx=>by have:=b3.2 x hx; omega) (fun x hx=>by have:=a3.2 x hx; omega),?_⟩;conv=>whnf)|((first|refine ⟨_,qt f (plus t.Base a) args hfb hn (ql h6),?_⟩)<;>conv=>whnf)|(refine ⟨_,xa9 f.C f.D f.K (by rw [hfb.1.1]; decide) (fun x hx=>by have:=hfb.2.1 x hx; omega),?_⟩;conv=>whnf)|((first|refine ⟨_,zr,?_⟩|refine ⟨_,hS,?_⟩|refine ⟨_,xfq parts (part f.C),?_⟩|refine ⟨_,xff t k hk g3 gv,?_⟩|refine w64 (by omega) (by omega) ?_)<;>conv=>whnf)
       all_goals first
        | exact ⟨rfl,rfl⟩
        | (exfalso; rename_i hx; rw [hi] at hx; cases hx)
        | trace_state
 · refine xd (E:=E0) xb xc (fn:=Go.Proofs.Tryz.f288) (by kernel_rfl) (by kernel_rfl) (fun hb=>?_)
   have hb1:(ints t.Gives).length≤1125899906842624:=(hb.1 (sI t.Gives) (by simp)).1
   conv=>whnf
   repeat' first|((first|refine sN ?_|refine dC ?_|(refine dZ ?_;refine dI ?_)|refine vM ?_|refine vD ?_|refine mS ?_|(refine xa ?_ ?_<;>intro _)|refine ⟨_,ju t,?_⟩|refine ⟨_,jw parts,?_⟩|refine ⟨_,xl _ _ _,?_⟩|refine ⟨_,ya a 3 _ (by omega),?_⟩|refine ⟨_,qn f,?_⟩|refine ⟨_,jr args,?_⟩|refine w64 (by omega) (by omega) ?_)<;>conv=>whnf)
   all_goals first
    | (refine ⟨?_,rfl⟩; unfold bounds; rw [if_neg hok]; done)
    | (exfalso; refine hok ?_; simp_all [addedOk]; done)
    | trace_state
theorem xsy (t:Treaty) (parts:List (List Int)) (s:Int) (a:List Int) (r:Row) (args:List Int):Sem P 249 [(.pure,.agg (aT t)),(.pure,.one (sPs parts)),(.pure,I s),(.pure,AI a),(.pure,.agg (aW r)),(.pure,AI args)] [] (B (r.Guards.all (sure t parts s a args))):=by
 have se:∀ g,sure t parts s a args g=((bounds t parts s a g args).2.2 && decide (0≤(bounds t parts s a g args).1)):=fun _=>rfl
 refine xd (E:=E0) xb xc (fn:=Go.Proofs.Tryz.f249) (by kernel_rfl) (by kernel_rfl) (fun hb=>?_)
 have hb1:(r.Guards.map eF).length≤1125899906842624:=(hb.2.2.2.2.1 (sFs r.Guards) (by simp)).1
 have hlg:(r.Guards.map eF).length=r.Guards.length:=List.length_map ..
 conv=>whnf
 (repeat' first|((first|refine sN ?_|refine dC ?_|(refine dZ ?_;refine dI ?_)|refine vM ?_|refine vD ?_|refine mS ?_)<;>conv=>whnf))
 refine Vc.loop1 (fun (i:Nat)=>i≤r.Guards.length∧∀ j,j<i→sure t parts s a args (r.Guards.getD j default)=true) (fun i=>updL [1,2,3,5,6,10] [(13,I i)] []) (fun i=>r.Guards.length - i) 0 ⟨Nat.zero_le _,fun j hj=>absurd hj (Nat.not_lt_zero j)⟩ ?_ (fun i hi=>?_)
 · exact wk
 · obtain ⟨hi,ho⟩:=hi
   conv=>whnf
   (repeat' first|((first|refine sN ?_|refine dC ?_|(refine dZ ?_;refine dI ?_)|refine vM ?_|refine vD ?_|refine mS ?_)<;>conv=>whnf))
   refine xg (fun g=>?_) (fun g=>?_)
   all_goals conv=>whnf
   · have hil:i<r.Guards.length:=by omega
     have sx:=se (r.Guards.getD i default)
     have hB:=xfg t parts s a (r.Guards.getD i default) args
     generalize bounds t parts s a (r.Guards.getD i default) args=b at hB sx
     obtain ⟨lo,up,ok⟩:=b
     cases ok with
     | false =>
       repeat' first|((first|refine sN ?_|refine dC ?_|(refine dZ ?_;refine dI ?_)|refine vM ?_|refine vD ?_|refine mS ?_|(refine xa ?_ ?_<;>intro _)|refine ixN (enc:=eF) default hil ?_|refine ⟨_,hB,?_⟩|refine w64 (by omega) (by omega) ?_)<;>conv=>whnf)
       all_goals first
        | exact rB (zw default hil (by rw [sx]; rfl)).symm
        | trace_state
     | true =>
       repeat' first|((first|refine sN ?_|refine dC ?_|(refine dZ ?_;refine dI ?_)|refine vM ?_|refine vD ?_|refine mS ?_|(refine xa ?_ ?_<;>intro _)|refine ixN (enc:=eF) default hil ?_|refine ⟨_,hB,?_⟩|refine w64 (by omega) (by omega) ?_)<;>conv=>whnf)
       all_goals first
        | (refine ⟨i+1,⟨by omega,fun j hj=>?_⟩,by simp only; omega,?_⟩
           · by_cases hji:j<i
             · exact ho j hji
             · obtain rfl:j=i:=by omega
               rw [sx]
               simp only [decide_eq_false_iff_not] at *
               simp only [Bool.true_and,decide_eq_true_eq]
               omega
           · exact wk)
        | (refine rB (zw default hil ?_).symm
           rw [sx]
           simp only [decide_eq_true_eq] at *
           simp only [Bool.true_and,decide_eq_false_iff_not]
           omega)
        | trace_state
   · (repeat' first|((first|refine sN ?_|refine dC ?_|(refine dZ ?_;refine dI ?_)|refine vM ?_|refine vD ?_|refine mS ?_)<;>conv=>whnf))
     exact rB (zu default fun j hj=>ho j (by omega)).symm
end Cc
end
section
namespace Cc
open Go Go.AM
set_option maxRecDepth 100000
set_option maxHeartbeats 8000000
def qb (b:Int × Int × Bool):Bool:=b.2.2 && (decide (b.1>10000) || decide (b.2.1 < -10000))
def jx (b:Int × Int × Bool):Bool:=!b.2.2 || decide (b.1 < -10000) || decide (b.2.1>10000)
theorem xlh (t:Treaty) (parts:List (List Int)) (s:Int) (a:List Int):rangeOf t parts s a =
 (if qb (bounds t parts s a (Form.pot 0) [0,0]) || (qb (bounds t parts s a (Form.pot 1) [0,0]) || qb (bounds t parts s a (Form.pot 2) [0,0])) then 2
  else if jx (bounds t parts s a (Form.pot 0) [0,0]) || (jx (bounds t parts s a (Form.pot 1) [0,0]) || jx (bounds t parts s a (Form.pot 2) [0,0])) then 0 else 1):=by
 unfold rangeOf qb jx
 simp only [List.map_cons,List.map_nil,List.any_cons,List.any_nil,Bool.or_false]
def rng (f:Nat→Bool):Nat→Int
 | 0=>1
 | v+1=>if f v then 0 else rng f v
theorem rng3 (f:Nat→Bool):rng f 3=if f 0 || (f 1 || f 2) then 0 else 1:=by
 simp only [rng]
 cases f 0<;>cases f 1<;>cases f 2<;>rfl
theorem xp5 (t:Treaty) (parts:List (List Int)) (s:Int) (a:List Int):Sem P 290 [(.pure,.agg (aT t)),(.pure,.one (sPs parts)),(.pure,I s),(.pure,AI a)] [] (I (rangeOf t parts s a)):=by
 rw [xlh]
 have hB:=fun v:Nat=>xfg t parts s a (Form.pot v) [0,0]
 generalize hf:(fun v:Nat=>bounds t parts s a (Form.pot v) [0,0])=f
 have hf':∀ v,bounds t parts s a (Form.pot v) [0,0]=f v:=fun v=>congrFun hf v
 simp only [hf'] at hB ⊢
 clear hf hf'
 refine xd (E:=E0) xb xc (fn:=Go.Proofs.Tryz.f290) (by kernel_rfl) (by kernel_rfl) (fun hb=>?_)
 conv=>whnf
 (repeat' first|((first|refine sN ?_|refine dC ?_|(refine dZ ?_;refine dI ?_)|refine vM ?_|refine vD ?_|refine mS ?_)<;>conv=>whnf))
 refine Vc.loop2 (fun (v:Nat) (o:Int)=>v≤3∧(∀ u,u<v→qb (f u)=false)∧o=rng (fun u=>jx (f u)) v) (fun v o=>updL [1,2,3,4,49] [(10,I v),(9,I o)] []) (fun v _=>3 - v) 0 1 ⟨by omega,fun u hu=>absurd hu (Nat.not_lt_zero u),rfl⟩ ?_ (fun v o hv=>?_)
 · exact wk
 · obtain ⟨hv,ho,rfl⟩:=hv
   conv=>whnf
   (repeat' first|((first|refine sN ?_|refine dC ?_|(refine dZ ?_;refine dI ?_)|refine vM ?_|refine vD ?_|refine mS ?_)<;>conv=>whnf))
   refine xg (fun g=>?_) (fun g=>?_)
   all_goals conv=>whnf
   · have hv3:v<3:=by omega
     have hBv:=hB v
     have all2:qb (f v)=true→(qb (f 0) || (qb (f 1) || qb (f 2)))=true:=fun h=>by
      match v,hv3 with
      | 0,_=>rw [h]; rfl
      | 1,_=>rw [h,Bool.true_or,Bool.or_true]
      | 2,_=>rw [h,Bool.or_true,Bool.or_true]
     have go1:qb (f v)=false→∀ u,u<v+1→qb (f u)=false:=fun h u hu=>by
      by_cases huv:u<v
      · exact ho u huv
      · obtain rfl:u=v:=by omega
        exact h
     have go0:jx (f v)=true→(0:Int)=rng (fun u=>jx (f u)) (v+1):=fun h=>by simp only [rng,h,if_true]
     have go2:jx (f v)=false→rng (fun u=>jx (f u)) v=rng (fun u=>jx (f u)) (v+1):=fun h=>by simp only [rng,h]; rfl
     generalize rng (fun u=>jx (f u)) v=o at *
     generalize (qb (f 0) || (qb (f 1) || qb (f 2)))=ov at *
     generalize f v=b at *
     obtain ⟨lo,up,ok⟩:=b
     cases ok with
     | false =>
       repeat' first|((first|refine sN ?_|refine dC ?_|(refine dZ ?_;refine dI ?_)|refine vM ?_|refine vD ?_|refine mS ?_|(refine xa ?_ ?_<;>intro _)|refine ⟨_,za v hv3,?_⟩|refine ⟨_,hBv,?_⟩|refine w64 (by omega) (by omega) ?_)<;>conv=>whnf)
       refine ⟨v+1,0,⟨by omega,go1 rfl,go0 rfl⟩,by simp only; omega,?_⟩
       exact wk
     | true =>
       cases hov:qb (lo,up,true) with
       | true =>
         have hdi:True:=trivial
         repeat' first|((first|refine sN ?_|refine dC ?_|(refine dZ ?_;refine dI ?_)|refine vM ?_|refine vD ?_|refine mS ?_|(refine xa ?_ ?_<;>intro _)|refine ⟨_,za v hv3,?_⟩|refine ⟨_,hBv,?_⟩|refine w64 (by omega) (by omega) ?_)<;>conv=>whnf)
         all_goals first
          | (exfalso; clear go0 go1 go2 all2 hB hBv hb ho; simp only [qb] at hov; simp_all; done)
          | exact rI' (by rw [if_pos (all2 hov)])
          | trace_state
       | false =>
         cases hdi:jx (lo,up,true) with
         | true =>
           repeat' first|((first|refine sN ?_|refine dC ?_|(refine dZ ?_;refine dI ?_)|refine vM ?_|refine vD ?_|refine mS ?_|(refine xa ?_ ?_<;>intro _)|refine ⟨_,za v hv3,?_⟩|refine ⟨_,hBv,?_⟩|refine w64 (by omega) (by omega) ?_)<;>conv=>whnf)
           all_goals first
            | (exfalso; clear go0 go1 go2 all2 hB hBv hb ho; simp only [qb,jx] at hov hdi; simp_all; done)
            | (refine ⟨v+1,0,⟨by omega,go1 hov,go0 hdi⟩,by simp only; omega,?_⟩
               exact wk)
         | false =>
           repeat' first|((first|refine sN ?_|refine dC ?_|(refine dZ ?_;refine dI ?_)|refine vM ?_|refine vD ?_|refine mS ?_|(refine xa ?_ ?_<;>intro _)|refine ⟨_,za v hv3,?_⟩|refine ⟨_,hBv,?_⟩|refine w64 (by omega) (by omega) ?_)<;>conv=>whnf)
           all_goals first
            | (exfalso; clear go0 go1 go2 all2 hB hBv hb ho; simp only [qb,jx] at hov hdi; simp_all; done)
            | (refine ⟨v+1,o,⟨by omega,go1 hov,go2 hdi⟩,by simp only; omega,?_⟩
               exact wk)
   · (repeat' first|((first|refine sN ?_|refine dC ?_|(refine dZ ?_;refine dI ?_)|refine vM ?_|refine vD ?_|refine mS ?_)<;>conv=>whnf))
     have e:v=3:=by omega
     subst e
     refine rI' ?_
     rw [ho 0 (by omega),ho 1 (by omega),ho 2 (by omega),rng3]
     simp
end Cc
end
section
namespace Cc
open Go Go.AM
set_option maxRecDepth 100000
set_option maxHeartbeats 8000000
theorem xli {f:Form} {v a:List Int} (hf:f.bd 10000000) (hv:valOk v=true) (ha:argOk a=true) : -1000000000000≤f.at v a∧f.at v a≤1000000000000:=by
 obtain ⟨c1,c2,c3,d1,d2,k,rfl,h1,h2,h3,h4,h5,h6⟩:=bdE hf
 obtain ⟨x,y,z,rfl,v1,v2,v3⟩:=within3 hv
 obtain ⟨w1,w2⟩:=xh.1 ha
 obtain ⟨g,h,rfl⟩:=len2 w1
 have g1:=w2 g (by simp)
 have g2:=w2 h (by simp)
 have p1:=xm h1 v1
 have p2:=xm h2 v2
 have p3:=xm h3 v3
 have p4:=xm h4 g1
 have p5:=xm h5 g2
 simp only [Form.at,dot]
 omega
theorem xcx {v:List Int} (h:valOk v=true):nums v 3:=by
 have:=xh.1 h
 exact ⟨this.1,fun x hx=>by have:=this.2 x hx; omega⟩
theorem xsz (t:Treaty) (p q r:Bool) (f0 f1 f2:Form) (G T:List Form) (st:Bool) (args:List Int) (h0:f0.bd 10000000) (h1:f1.bd 10000000) (h2:f2.bd 10000000) (hb':valOk t.Base=true) (ha:argOk args=true) :
 Sem P 289 [(.pure,.agg (aT t)),(.pure,.one (sBs [p,q,r])),(.pure,.agg (aW ⟨G,[f0,f1,f2],T,st⟩)),(.pure,AI args)] [] (.tup [(false,[sI (if unpinned [p,q,r] [f0.at t.Base args,f1.at t.Base args,f2.at t.Base args] then [f0.at t.Base args,f1.at t.Base args,f2.at t.Base args] else [0,0,0])]),(false,[eB (unpinned [p,q,r] [f0.at t.Base args,f1.at t.Base args,f2.at t.Base args])])]):=by
 have n0:=qt f0 t.Base args h0 (xcx hb') (ql ha)
 have n1:=qt f1 t.Base args h1 (xcx hb') (ql ha)
 have n2:=qt f2 t.Base args h2 (xcx hb') (ql ha)
 generalize f0.at t.Base args=x at *
 generalize f1.at t.Base args=y at *
 generalize f2.at t.Base args=z at *
 have un:unpinned [p,q,r] [x,y,z]=((!p || decide (x=0)) && ((!q || decide (y=0)) && (!r || decide (z=0)))):=by simp [unpinned]
 rw [un]
 refine xd (E:=E0) xb xc (fn:=Go.Proofs.Tryz.f289) (by kernel_rfl) (by kernel_rfl) (fun hb=>?_)
 conv=>whnf
 (repeat' first|((first|refine sN ?_|refine dC ?_|(refine dZ ?_;refine dI ?_)|refine vM ?_|refine vD ?_|refine mS ?_)<;>conv=>whnf))
 refine Vc.loop1 (fun (v:Nat)=>v≤3∧(0<v→(!p || decide (x=0))=true)∧(1<v→(!q || decide (y=0))=true)∧(2<v→(!r || decide (z=0))=true)) (fun v=>updL [0,1,2,3,4,6,8,9] [(11,I v),(10,.one (.ref 128000))] [(128000,.arr 3 (ints ([x,y,z].take v)) false)]) (fun v=>3 - v) 0 (by simp) ?_ (fun v hv=>?_)
 · exact wk
 · match v,hv with
   | 0,hv =>
     conv=>whnf
     repeat' first|((first|refine sN ?_|refine dC ?_|(refine dZ ?_;refine dI ?_)|refine vM ?_|refine vD ?_|refine mS ?_|(refine xa ?_ ?_<;>intro _)|refine ixK rfl ?_|refine ⟨_,n0,?_⟩|refine apN (by simp) ?_|refine w64 (by omega) (by omega) ?_)<;>conv=>whnf)
     all_goals first
      | (refine ⟨1,by simp_all,by simp only; omega,?_⟩; exact wk)
      | (refine ⟨?_,rfl⟩; simp_all; done)
      | trace_state
   | 1,hv =>
     conv=>whnf
     repeat' first|((first|refine sN ?_|refine dC ?_|(refine dZ ?_;refine dI ?_)|refine vM ?_|refine vD ?_|refine mS ?_|(refine xa ?_ ?_<;>intro _)|refine ixK rfl ?_|refine ⟨_,n1,?_⟩|refine apN (by simp) ?_|refine w64 (by omega) (by omega) ?_)<;>conv=>whnf)
     all_goals first
      | (refine ⟨2,by simp_all,by simp only; omega,?_⟩; exact wk)
      | (refine ⟨?_,rfl⟩; simp_all; done)
      | trace_state
   | 2,hv =>
     conv=>whnf
     repeat' first|((first|refine sN ?_|refine dC ?_|(refine dZ ?_;refine dI ?_)|refine vM ?_|refine vD ?_|refine mS ?_|(refine xa ?_ ?_<;>intro _)|refine ixK rfl ?_|refine ⟨_,n2,?_⟩|refine apN (by simp) ?_|refine w64 (by omega) (by omega) ?_)<;>conv=>whnf)
     all_goals first
      | (refine ⟨3,by simp_all,by simp only; omega,?_⟩; exact wk)
      | (refine ⟨?_,rfl⟩; simp_all; done)
      | trace_state
   | 3,hv =>
     obtain ⟨_,c0,c1,c2⟩:=hv
     conv=>whnf
     (repeat' first|((first|refine sN ?_|refine dC ?_|(refine dZ ?_;refine dI ?_)|refine vM ?_|refine vD ?_|refine mS ?_)<;>conv=>whnf))
     refine ⟨?_,rfl⟩
     rw [c0 (by omega),c1 (by omega),c2 (by omega)]
     rfl
abbrev tR (b:Rslt × List Int × Bool):TV:=.tup [(true,aR b.1),(false,[sI b.2.1]),(false,[eB b.2.2])]
theorem xs1 (t:Treaty) (parts:List (List Int)) (pins:List Bool) (s:Int) (a:List Int) (r:Row) (args:List Int) (hr:r.Stop=true) (ha:a.length≤1000):Sem P 250 [(.pure,.agg (aT t)),(.pure,.one (sPs parts)),(.pure,.one (sBs pins)),(.pure,I s),(.pure,AI a),(.pure,.agg (aW r)),(.pure,AI args)] [] (tR (goRow t parts pins s a r args)):=by
 have la:=xe a
 have e:goRow t parts pins s a r args=(⟨2,[]⟩,a,true):=by unfold goRow; rw [if_pos hr]
 rw [e]
 obtain ⟨G,A,T,st⟩:=r
 simp only at hr
 subst hr
 refine xd (E:=E0) xb xc (fn:=Go.Proofs.Tryz.f250) (by kernel_rfl) (by kernel_rfl) (fun hb=>?_)
 conv=>whnf
 repeat' first|((first|refine sN ?_|refine dC ?_|(refine dZ ?_;refine dI ?_)|refine vM ?_|refine vD ?_|refine mS ?_|(refine xa ?_ ?_<;>intro _)|refine apI ?_)<;>conv=>whnf)|(refine apN (by simp only [List.length_nil]; omega) ?_;conv=>whnf)
 exact ⟨rfl,rfl⟩
theorem xs3 (t:Treaty) (parts:List (List Int)) (p q u:Bool) (s:Int) (a:List Int) (f0 f1 f2:Form) (G T:List Form) (args:List Int) (h0:f0.bd 10000000) (h1:f1.bd 10000000) (h2:f2.bd 10000000) (hT:∀ f∈T,f.bd 10000000) (h100:T.length≤100)
 (hb':valOk t.Base=true) (ha:addedOk a=true) (hg:argOk args=true) :
 Sem P 250 [(.pure,.agg (aT t)),(.pure,.one (sPs parts)),(.pure,.one (sBs [p,q,u])),(.pure,I s),(.pure,AI a),(.pure,.agg (aW ⟨G,[f0,f1,f2],T,false⟩)),(.pure,AI args)] [] (tR (goRow t parts [p,q,u] s a ⟨G,[f0,f1,f2],T,false⟩ args)):=by
 have la:=xe a
 have a3:=xt ha
 have lT:(T.map eF).length=T.length:=List.length_map ..
 have lT2:(List.map eF (Row.mk G [f0,f1,f2] T false).Tells).length=T.length:=List.length_map ..
 have m0:=xli h0 hb' hg
 have m1:=xli h1 hb' hg
 have m2:=xli h2 hb' hg
 have hA:=xsz t p q u f0 f1 f2 G T false args h0 h1 h2 hb' hg
 have go:goRow t parts [p,q,u] s a ⟨G,[f0,f1,f2],T,false⟩ args=(let adds:=[f0.at t.Base args,f1.at t.Base args,f2.at t.Base args]; let x:=plus a adds
  if !unpinned [p,q,u] adds || !addedOk x then (Rslt.nil,a,false)
  else if rangeOf t parts s x=2 then (⟨3,[]⟩,a,true)
  else if rangeOf t parts s x=0 then (Rslt.nil,a,false)
  else if !trtKeeps t parts s x then (Rslt.nil,a,false)
  else (⟨1,T.map fun f=>f.at t.Base args⟩,x,true)):=rfl
 rw [go]
 clear go
 simp only
 cases hf:unpinned [p,q,u] [f0.at t.Base args,f1.at t.Base args,f2.at t.Base args] with
 | false =>
   rw [hf] at hA
   refine xd (E:={ E0 with keep:=[5002] }) xb xc (fn:=Go.Proofs.Tryz.f250) (by kernel_rfl) (by kernel_rfl) (fun hb=>?_)
   conv=>whnf
   repeat' first|((first|refine sN ?_|refine dC ?_|(refine dZ ?_;refine dI ?_)|refine vM ?_|refine vD ?_|refine mS ?_|(refine xa ?_ ?_<;>intro _)|refine ⟨_,hA,?_⟩)<;>conv=>whnf)|(refine ⟨_,ka a [0,0,0] a3.1 rfl (fun x hx=>by have:=a3.2 x hx; omega) (fun x hx=>by simp at hx; omega),?_⟩;conv=>whnf)|((first|refine apI ?_)<;>conv=>whnf)|(refine apN (by simp only [List.length_nil]; omega) ?_;conv=>whnf)
   all_goals first
    | exact ⟨rfl,rfl⟩
    | trace_state
 | true =>
   rw [hf,if_pos rfl] at hA
   have hP:=ka a [f0.at t.Base args,f1.at t.Base args,f2.at t.Base args] a3.1 rfl (fun x hx=>by have:=a3.2 x hx; omega) (fun x hx=>by simp only [List.mem_cons,List.not_mem_nil,or_false] at hx; rcases hx with rfl|rfl|rfl<;>omega)
   generalize plus a [f0.at t.Base args,f1.at t.Base args,f2.at t.Base args]=x at *
   have hX:=ya x 3 20000 (by omega)
   have hX':within x 3 20000=addedOk x:=rfl
   rw [hX'] at hX
   cases hx:addedOk x with
   | false =>
     rw [hx] at hX
     refine xd (E:={ E0 with keep:=[5002] }) xb xc (fn:=Go.Proofs.Tryz.f250) (by kernel_rfl) (by kernel_rfl) (fun hb=>?_)
     conv=>whnf
     repeat' first|((first|refine sN ?_|refine dC ?_|(refine dZ ?_;refine dI ?_)|refine vM ?_|refine vD ?_|refine mS ?_|(refine xa ?_ ?_<;>intro _)|refine ⟨_,hA,?_⟩|refine ⟨_,hP,?_⟩|refine ⟨_,hX,?_⟩|refine apI ?_)<;>conv=>whnf)|(refine apN (by simp only [List.length_nil]; omega) ?_;conv=>whnf)
     all_goals first
      | exact ⟨rfl,rfl⟩
      | trace_state
   | true =>
     rw [hx] at hX
     have hR:=xp5 t parts s x
     have hr:rangeOf t parts s x=2∨rangeOf t parts s x=0∨rangeOf t parts s x=1:=by rw [xlh]; split<;>(try split)<;>simp
     rcases hr with hr|hr|hr
     · rw [hr] at hR ⊢
       refine xd (E:={ E0 with keep:=[5002] }) xb xc (fn:=Go.Proofs.Tryz.f250) (by kernel_rfl) (by kernel_rfl) (fun hb=>?_)
       conv=>whnf
       repeat' first|((first|refine sN ?_|refine dC ?_|(refine dZ ?_;refine dI ?_)|refine vM ?_|refine vD ?_|refine mS ?_|(refine xa ?_ ?_<;>intro _)|refine ⟨_,hA,?_⟩|refine ⟨_,hP,?_⟩|refine ⟨_,hX,?_⟩|refine ⟨_,hR,?_⟩|refine apI ?_)<;>conv=>whnf)|(refine apN (by simp only [List.length_nil]; omega) ?_;conv=>whnf)
       all_goals first
        | exact ⟨rfl,rfl⟩
        | trace_state
     · rw [hr] at hR ⊢
       refine xd (E:={ E0 with keep:=[5002] }) xb xc (fn:=Go.Proofs.Tryz.f250) (by kernel_rfl) (by kernel_rfl) (fun hb=>?_)
       conv=>whnf
       repeat' first|((first|refine sN ?_|refine dC ?_|(refine dZ ?_;refine dI ?_)|refine vM ?_|refine vD ?_|refine mS ?_|(refine xa ?_ ?_<;>intro _)|refine ⟨_,hA,?_⟩|refine ⟨_,hP,?_⟩|refine ⟨_,hX,?_⟩|refine ⟨_,hR,?_⟩|refine apI ?_)<;>conv=>whnf)|(refine apN (by simp only [List.length_nil]; omega) ?_;conv=>whnf)
       all_goals first
        | exact ⟨rfl,rfl⟩
        | trace_state
     · rw [hr] at hR ⊢
       have hK:=vn t parts s x
       cases hk:trtKeeps t parts s x with
       | false =>
         rw [hk] at hK
         refine xd (E:={ E0 with keep:=[5002] }) xb xc (fn:=Go.Proofs.Tryz.f250) (by kernel_rfl) (by kernel_rfl) (fun hb=>?_)
         conv=>whnf
         repeat' first|((first|refine sN ?_|refine dC ?_|(refine dZ ?_;refine dI ?_)|refine vM ?_|refine vD ?_|refine mS ?_|(refine xa ?_ ?_<;>intro _)|refine ⟨_,hA,?_⟩|refine ⟨_,hP,?_⟩|refine ⟨_,hX,?_⟩|refine ⟨_,hR,?_⟩|refine ⟨_,hK,?_⟩|refine apI ?_)<;>conv=>whnf)|(refine apN (by simp only [List.length_nil]; omega) ?_;conv=>whnf)
         all_goals first
          | exact ⟨rfl,rfl⟩
          | trace_state
       | true =>
         rw [hk] at hK
         refine xd (E:={ E0 with keep:=[5002] }) xb xc (fn:=Go.Proofs.Tryz.f250) (by kernel_rfl) (by kernel_rfl) (fun hb=>?_)
         conv=>whnf
         repeat' first|((first|refine sN ?_|refine dC ?_|(refine dZ ?_;refine dI ?_)|refine vM ?_|refine vD ?_|refine mS ?_|(refine xa ?_ ?_<;>intro _)|refine ⟨_,hA,?_⟩|refine ⟨_,hP,?_⟩|refine ⟨_,hX,?_⟩|refine ⟨_,hR,?_⟩|refine ⟨_,hK,?_⟩)<;>conv=>whnf)
         refine Vc.loop1 (fun (i:Nat)=>i≤T.length) (fun i=>updL [0,1,2,3,4,5,6,7,12,14,15,16,19] [(21,I i),(20,.one (.ref 960000))] [(960000,.arr 3 (ints ((T.map fun f=>f.at t.Base args).take i)) false)]) (fun i=>T.length - i) 0 (Nat.zero_le _) ?_ (fun i hi=>?_)
         · exact wk
         · have hlo:(ints ((T.map fun f=>f.at t.Base args).take i)).length=i:=by rw [xe,List.length_take,List.length_map]; omega
           conv=>whnf
           (repeat' first|((first|refine sN ?_|refine dC ?_|(refine dZ ?_;refine dI ?_)|refine vM ?_|refine vD ?_|refine mS ?_)<;>conv=>whnf))
           refine xg (fun g=>?_) (fun g=>?_)
           all_goals conv=>whnf
           · have hil:i<T.length:=by omega
             have hfi:=hT (T.getD i default) (xx hil)
             have es:ints ((T.map fun f=>f.at t.Base args).take i)++[rI ((T.getD i default).at t.Base args)]=ints ((T.map fun f=>f.at t.Base args).take (i+1)):=by
              rw [qa,← List.map_take,← List.map_take,xq hil,List.map_append]; rfl
             repeat' first|((first|refine sN ?_|refine dC ?_|(refine dZ ?_;refine dI ?_)|refine vM ?_|refine vD ?_|refine mS ?_|(refine xa ?_ ?_<;>intro _)|refine ixN (enc:=eF) default hil ?_|refine ⟨_,qt (T.getD i default) t.Base args hfi (xcx hb') (ql hg),?_⟩)<;>conv=>whnf)|(refine apN (by rw [hlo]; show i+1≤_; omega) ?_;conv=>whnf)|((first|refine w64 (by omega) (by omega) ?_)<;>conv=>whnf)
             refine ⟨i+1,by omega,by simp only; omega,?_⟩
             repeat' (first|exact True.intro|((conv=>whnf);first|exact True.intro|refine ⟨by rfl,?_⟩|refine ⟨by first|omega|(show (_:Int)=_;first|omega|(dsimp only;omega))|exact es,?_⟩|refine ⟨?_,?_⟩))
           · (repeat' first|((first|refine sN ?_|refine dC ?_|(refine dZ ?_;refine dI ?_)|refine vM ?_|refine vD ?_|refine mS ?_)<;>conv=>whnf))
             have hend:(T.map fun f=>f.at t.Base args).take i=T.map fun f=>f.at t.Base args:=List.take_of_length_le (by rw [List.length_map]; omega)
             exact ⟨by rw [hend]; rfl,rfl⟩
theorem xlj {α:Type} [Inhabited α] {p:α→Bool}:∀ {l:List α} {i:Nat},i<l.length→(∀ j,j<i→p (l.getD j default)=false)→p (l.getD i default)=true→l.find? p=some (l.getD i default)
 | [],i,h,_,_=>by simp at h
 | a::r,0,_,_,h=>by
   have h:p a=true:=h
   rw [List.find?_cons_of_pos h]; rfl
 | a::r,i+1,hi,hj,h=>by
   have h0:p a=false:=hj 0 (by omega)
   rw [List.find?_cons_of_neg (by rw [h0]; decide)]
   exact xlj (by simpa using hi) (fun j hjj=>hj (j+1) (by omega)) h
theorem xwe {α:Type} [Inhabited α] {p:α→Bool} {l:List α} (h:∀ j,j<l.length→p (l.getD j default)=false):l.find? p=none:=by
 rw [List.find?_eq_none]
 intro x hx
 obtain ⟨j,hj,rfl⟩:=List.getElem_of_mem hx
 have:=h j hj
 rw [List.getD_eq_getElem?_getD,List.getElem?_eq_getElem hj] at this
 simpa using this
theorem xp6 (acts:List (List Line)) (t:Treaty) (s:Int) (a:List Int) (k:Int) (args:List Int) (hk:0≤k∧k<acts.length) (hb':valOk t.Base=true) (ha:addedOk a=true) (hg:argOk args=true) :
 Sem P 179 [(.pure,.one (sAs acts)),(.pure,.one (sPs (partsOf acts))),(.pure,.one (sBs (pinsOf acts))),(.pure,.agg (aT t)),(.pure,I s),(.pure,AI a),(.pure,I k),(.pure,AI args)] [] (tR (alone acts t s a k args)):=by
 have la:=xe a
 have a3:=xt ha
 have hbd:=fun (r:Row) (hr:r∈rowsOf (acts.getD k.toNat []))=>jj hr
 have h100:=fun (r:Row) (hr:r∈rowsOf (acts.getD k.toNat []))=>(xa7 hr).2.2
 have al:alone acts t s a k args=tryRows (rowsOf (acts.getD k.toNat [])) (partsOf acts) (pinsOf acts) t s a args:=rfl
 rw [al]
 have hR:=xfa (acts.getD k.toNat [])
 have h64:=j8 (acts.getD k.toNat [])
 generalize rowsOf (acts.getD k.toNat [])=rows at *
 have lr:(rows.map eW).length=rows.length:=List.length_map ..
 obtain ⟨p,q,u,hpin⟩:∃ p q u,pinsOf acts=[p,q,u]:=⟨_,_,_,rfl⟩
 rw [hpin]
 refine xd (E:={ E0 with keep:=[7010] }) xb xc (fn:=Go.Proofs.Tryz.f179) (by kernel_rfl) (by kernel_rfl) (fun hb=>?_)
 have hb1:(acts.map eA).length≤1125899906842624:=hb.1.1
 conv=>whnf
 repeat' first|((first|refine sN ?_|refine dC ?_|(refine dZ ?_;refine dI ?_)|refine vM ?_|refine vD ?_|refine mS ?_|(refine xa ?_ ?_<;>intro _)|refine ixI (enc:=eA) (L:=acts) [] hk.1 hk.2 ?_|refine ⟨_,hR,?_⟩)<;>conv=>whnf)
 refine Vc.loop1 (fun (i:Nat)=>i≤rows.length∧∀ j,j<i→(rows.getD j default).Guards.all (sure t (partsOf acts) s a args)=false) (fun i=>updL [1,2,4,5,7,11,16,19,56,57,58,59] [(20,I i)] []) (fun i=>rows.length - i) 0 ⟨Nat.zero_le _,fun j hj=>absurd hj (Nat.not_lt_zero j)⟩ ?_ (fun i hi=>?_)
 · exact wk
 · obtain ⟨hi,ho⟩:=hi
   conv=>whnf
   (repeat' first|((first|refine sN ?_|refine dC ?_|(refine dZ ?_;refine dI ?_)|refine vM ?_|refine vD ?_|refine mS ?_)<;>conv=>whnf))
   refine xg (fun g=>?_) (fun g=>?_)
   all_goals conv=>whnf
   · have hil:i<rows.length:=by omega
     have hrb:=hbd _ (xx hil)
     have h1:=h100 _ (xx hil)
     have hS:=xsy t (partsOf acts) s a (rows.getD i default) args
     cases hs:(rows.getD i default).Guards.all (sure t (partsOf acts) s a args) with
     | false =>
       rw [hs] at hS
       repeat' first|((first|refine sN ?_|refine dC ?_|(refine dZ ?_;refine dI ?_)|refine vM ?_|refine vD ?_|refine mS ?_|(refine xa ?_ ?_<;>intro _)|refine ixN (enc:=eW) default hil ?_|refine ⟨_,hS,?_⟩|refine w64 (by omega) (by omega) ?_)<;>conv=>whnf)
       refine ⟨i+1,⟨by omega,fun j hj=>?_⟩,by simp only; omega,?_⟩
       · by_cases hji:j<i
         · exact ho j hji
         · obtain rfl:j=i:=by omega
           exact hs
       · exact wk
     | true =>
       rw [hs] at hS
       have tr:tryRows rows (partsOf acts) [p,q,u] t s a args=goRow t (partsOf acts) [p,q,u] s a (rows.getD i default) args:=by unfold tryRows; rw [xlj hil ho hs]
       rw [tr]
       have hG:Sem P 250 [(.pure,.agg (aT t)),(.pure,.one (sPs (partsOf acts))),(.pure,.one (sBs [p,q,u])),(.pure,I s),(.pure,AI a),(.pure,.agg (aW (rows.getD i default))),(.pure,AI args)] [] (tR (goRow t (partsOf acts) [p,q,u] s a (rows.getD i default) args)):=by
        obtain ⟨b1,b2,b3,b4⟩:=hrb
        generalize rows.getD i default=r at *
        obtain ⟨G,A,T,st⟩:=r
        cases st with
        | true=>exact xs1 _ _ _ _ _ _ _ rfl (by omega)
        | false =>
          have b4:A.length=3:=b4
          obtain ⟨f0,f1,f2,rfl⟩:=len3 b4
          exact xs3 t (partsOf acts) p q u s a f0 f1 f2 G T args (xi (b2 f0 (by simp)) (by omega)) (xi (b2 f1 (by simp)) (by omega)) (xi (b2 f2 (by simp)) (by omega)) (fun f hf=>xi (b3 f hf) (by omega)) (by simp only at h1; omega) hb' ha hg
       repeat' first|((first|refine sN ?_|refine dC ?_|(refine dZ ?_;refine dI ?_)|refine vM ?_|refine vD ?_|refine mS ?_|(refine xa ?_ ?_<;>intro _)|refine ixN (enc:=eW) default hil ?_|refine ⟨_,hS,?_⟩|refine ⟨_,hG,?_⟩)<;>conv=>whnf)
       exact ⟨rfl,rfl⟩
   · have tr:tryRows rows (partsOf acts) [p,q,u] t s a args=(Rslt.nil,a,false):=by unfold tryRows; rw [xwe fun j hj=>ho j (by omega)]
     rw [tr]
     repeat' first|((first|refine sN ?_|refine dC ?_|(refine dZ ?_;refine dI ?_)|refine vM ?_|refine vD ?_|refine mS ?_|(refine xa ?_ ?_<;>intro _)|refine apI ?_)<;>conv=>whnf)|(refine apN (by simp only [List.length_nil]; omega) ?_;conv=>whnf)
     exact ⟨rfl,rfl⟩
end Cc
end
section
namespace Cc
open Go Go.AM
set_option maxRecDepth 100000
set_option maxHeartbeats 8000000
theorem kw {α:Type} {f:α→Nat} {m:Nat}:∀ {l:List α},(∀ x∈l,f x≤m)→zs f l≤l.length*m
 | [],_=>by simp [zs]
 | a::r,h=>by
   have h1:=h a (List.mem_cons_self ..)
   have h2:=kw (f:=f) (m:=m) (l:=r) (fun x hx=>h x (List.mem_cons_of_mem _ hx))
   unfold zs at *
   rw [List.map_cons,List.sum_cons,List.length_cons,Nat.succ_mul]
   omega
theorem w4 {d:Done} (h:d.ok=true):d.Res.Tells.length≤6:=by
 unfold Done.ok at h
 split at h
 · unfold Rslt.none at h
   simp only [Bool.and_eq_true,List.isEmpty_iff] at h
   rw [h.2]; simp
 · simp only [Bool.and_eq_true] at h
   exact (yj.1 h.2).2.2.1
theorem yy {p:Plan} {l:List Done} (hc:inB p.Clients 0 4=true) (h:doneOk p l=true):l.length≤4∧zDs l≤100:=by
 unfold doneOk at h
 simp only [Bool.and_eq_true,decide_eq_true_eq,List.all_eq_true] at h
 have h1:=xf.1 hc
 have h2:=kw (f:=zD) (m:=6) (l:=l) fun x hx=>by unfold zD zR; exact w4 (h.2 x hx)
 have h3:l.length≤4:=by omega
 unfold zDs
 have:l.length*6≤4*6:=Nat.mul_le_mul_right _ h3
 omega
theorem siteE {p:Plan} {s:Site} {n:Int} (h:siteB p s n=true):(0≤s.Round∧s.Round≤200)∧valOk s.Base=true∧addedOk s.Added=true∧doneOk p s.Done=true:=by
 unfold siteB keeps trtKeeps at h
 simp only [Bool.and_eq_true] at h
 exact ⟨xf.1 h.1.1.1,h.1.1.2,h.1.2.1.1.2,h.2⟩
theorem xcy {p:Plan} {s:Site} {n:Int} (hc:inB p.Clients 0 4=true) (h:siteB p s n=true):zS s≤1000:=by
 obtain ⟨_,h1,h2,h3⟩:=siteE h
 have a:=(xh.1 h1).1
 have b:=(xt h2).1
 have d:=(yy hc h3).2
 unfold zS; omega
abbrev tT (b:Site × Rslt × List Msg):TV:=.tup [(true,aS b.1),(true,aR b.2.1),(false,[sMs b.2.2])]
abbrev tTf (b:Site × Rslt × List Msg):TV:=.tup [(true,aS b.1),(true,eR b.2.1),(false,[sMs b.2.2])]
abbrev tTc (b:Site × Rslt × List Msg):TV:=.tup [(true,eS b.1),(true,eR b.2.1),(false,[fMs b.2.2])]
theorem xbc (s:Site):(aS s).length=(eS s).length∧∀ (j:Nat) (x y:AV),(aS s)[j]?=some x→(eS s)[j]?=some y→Cold x y:=by
 refine ⟨rfl,fun j x y h1 h2=>?_⟩
 match j,h1,h2 with
 | 0,h1,h2=>cases h1; cases h2; exact xo
 | 1,h1,h2=>cases h1; cases h2; exact xo
 | 2,h1,h2=>cases h1; cases h2; exact xo
 | 3,h1,h2=>cases h1; cases h2; exact xj
 | 4,h1,h2=>cases h1; cases h2; exact xj
 | 5,h1,h2=>cases h1; cases h2; exact xj
 | j+6,h1,h2=>simp at h1
theorem xuy (r:Rslt):(aR r).length=(eR r).length∧∀ (j:Nat) (x y:AV),(aR r)[j]?=some x→(eR r)[j]?=some y→Cold x y:=by
 refine ⟨rfl,fun j x y h1 h2=>?_⟩
 match j,h1,h2 with
 | 0,h1,h2=>cases h1; cases h2; exact xo
 | 1,h1,h2=>cases h1; cases h2; exact xj
 | j+2,h1,h2=>simp at h1
theorem xs4 (r:Rslt):(eR r).length=(eR r).length∧∀ (j:Nat) (x y:AV),(eR r)[j]?=some x→(eR r)[j]?=some y→Cold x y:=by
 refine ⟨rfl,fun j x y h1 h2=>?_⟩
 match j,h1,h2 with
 | 0,h1,h2=>cases h1; cases h2; exact xo
 | 1,h1,h2=>cases h1; cases h2; exact x7
 | j+2,h1,h2=>simp at h1
theorem xaw (t:Nat) (rows:List (List AV)):([AV.sl t rows]:List AV).length=[AV.fr [] t rows].length∧∀ (j:Nat) (x y:AV),[AV.sl t rows][j]?=some x→[AV.fr [] t rows][j]?=some y→Cold x y:=by
 refine ⟨rfl,fun j x y h1 h2=>?_⟩
 match j,h1,h2 with
 | 0,h1,h2=>cases h1; cases h2; exact xj
 | j+1,h1,h2=>simp at h1
theorem coldTry {f:Nat} {ins:List (Go.AM.Mode × TV)} {b:Site × Rslt × List Msg} (h:Sem P f ins [] (tT b)):Sem P f ins [] (tTc b):=by
 refine Sem.coldT (vs:=[(true,aS b.1),(true,aR b.2.1),(false,[sMs b.2.2])]) rfl (fun k a cs c cs' h1 h2=>?_) h
 match k,h1,h2 with
 | 0,h1,h2=>cases h1; cases h2; exact ⟨rfl,xbc _⟩
 | 1,h1,h2=>cases h1; cases h2; exact ⟨rfl,xuy _⟩
 | 2,h1,h2=>cases h1; cases h2; exact ⟨rfl,xaw _ _⟩
 | k+3,h1,h2=>simp at h1
theorem coldTry2 {f:Nat} {ins:List (Go.AM.Mode × TV)} {b:Site × Rslt × List Msg} (h:Sem P f ins [] (tTf b)):Sem P f ins [] (tTc b):=by
 refine Sem.coldT (vs:=[(true,aS b.1),(true,eR b.2.1),(false,[sMs b.2.2])]) rfl (fun k a cs c cs' h1 h2=>?_) h
 match k,h1,h2 with
 | 0,h1,h2=>cases h1; cases h2; exact ⟨rfl,xbc _⟩
 | 1,h1,h2=>cases h1; cases h2; exact ⟨rfl,xs4 _⟩
 | 2,h1,h2=>cases h1; cases h2; exact ⟨rfl,xaw _ _⟩
 | k+3,h1,h2=>simp at h1
theorem xcz (l:List Done) (k:Nat) (d:Done):(l.map eD).set k (eD d)=(l.set k d).map eD:=List.map_set.symm
theorem xs5 (p:Plan) (s:Site) (n:Int) (c:Call) (hp:planOk p=true) (hs:siteB p s n=true) (hc:callB p c=true) :
 Sem P 87 [(.pure,.agg (aPl p)),(.pure,.one (sPs (partsOf p.Acts))),(.pure,.one (sBs (pinsOf p.Acts))),(.pure,.agg (aS s)),(.pure,I n),(.pure,.agg (aC c))] [] (tTc (siteTry p s n c)):=by
 have hcl:=xu hp
 have hsm:=xcy hcl hs
 obtain ⟨hr,hb',ha,hd⟩:=siteE hs
 obtain ⟨c1,c2,c3,c4⟩:=xz.1 hc
 have g1:=(planF hp).g1
 have lg:=xe p.Gives
 have hdl:=(yy hcl hd).1
 have hdc:(s.Done.length:Int)=p.Clients:=by unfold doneOk at hd; simp only [Bool.and_eq_true,decide_eq_true_eq] at hd; exact hd.1
 have hcp:=we s (by omega)
 have hA:=xp6 p.Acts ⟨s.Base,p.Gives⟩ n s.Added c.Act c.Args (by omega) hb' ha c4
 have hk:c.Client.toNat<s.Done.length:=by omega
 have hk2:c.Client<((s.Done.map eD).length:Int):=by rw [List.length_map]; omega
 have hdk:(s.Done.getD c.Client.toNat Done.nil).ok=true:=by unfold doneOk at hd; simp only [Bool.and_eq_true,List.all_eq_true] at hd; exact hd.2 _ (xx hk)
 have hseq:0≤(s.Done.getD c.Client.toNat Done.nil).Seq∧(s.Done.getD c.Client.toNat Done.nil).Seq≤300:=by
  rw [ve] at hdk; simp only [Bool.and_eq_true] at hdk; exact xf.1 hdk.1.1.1
 have ht6:=w4 hdk
 have g0:(0:Int)<((ints p.Gives).length:Int):=by omega
 have e:siteTry p s n c=(if !s.Up || decide (c.Client % p.Gives.length≠n) || decide (c.Seq<(s.Done.getD c.Client.toNat Done.nil).Seq) || decide (c.Seq>(s.Done.getD c.Client.toNat Done.nil).Seq+1) then (s,Rslt.nil,[])
  else if c.Seq=(s.Done.getD c.Client.toNat Done.nil).Seq then (s,(s.Done.getD c.Client.toNat Done.nil).Res,[])
  else if !s.Frozen && (alone p.Acts ⟨s.Base,p.Gives⟩ n s.Added c.Act c.Args).2.2 then ({ s with Added:=(alone p.Acts ⟨s.Base,p.Gives⟩ n s.Added c.Act c.Args).2.1,Done:=s.Done.set c.Client.toNat ⟨c.Seq,(alone p.Acts ⟨s.Base,p.Gives⟩ n s.Added c.Act c.Args).1⟩ },(alone p.Acts ⟨s.Base,p.Gives⟩ n s.Added c.Act c.Args).1,[])
  else (s,Rslt.nil,[wantMsg c])):=rfl
 have hz:(alone p.Acts ⟨s.Base,p.Gives⟩ n s.Added c.Act c.Args).2.2=true→(alone p.Acts ⟨s.Base,p.Gives⟩ n s.Added c.Act c.Args).1.Tells.length≤1000000:=fun h=>by
  have hkp:keeps p.Acts ⟨s.Base,p.Gives⟩ n s.Added=true:=by unfold siteB at hs; simp only [Bool.and_eq_true] at hs; exact hs.1.2
  have:=xk5 (res:=(alone p.Acts ⟨s.Base,p.Gives⟩ n s.Added c.Act c.Args).1) (now:=(alone p.Acts ⟨s.Base,p.Gives⟩ n s.Added c.Act c.Args).2.1) c4 hkp (by rw [← h])
  have:=(yj.1 this.1).2.2.1
  omega
 rw [e]
 clear e
 generalize alone p.Acts ⟨s.Base,p.Gives⟩ n s.Added c.Act c.Args=x at *
 obtain ⟨r,ad,ok⟩:=x
 have lds:(s.Done.map eD).length=s.Done.length:=List.length_map ..
 cases hb1:(!s.Up || decide (c.Client % p.Gives.length≠n) || decide (c.Seq<(s.Done.getD c.Client.toNat Done.nil).Seq) || decide (c.Seq>(s.Done.getD c.Client.toNat Done.nil).Seq+1)) with
 | true =>
   rw [if_pos rfl]
   rw [← lg] at hb1
   refine coldTry ?_
   refine xd (E:={ E0 with keep:=[2001,7003,9014] }) xb xc (fn:=Go.Proofs.Tryz.f87) (by kernel_rfl) (by kernel_rfl) (fun hb=>?_)
   conv=>whnf
   repeat' first|((first|refine sN ?_|refine dC ?_|(refine dZ ?_;refine dI ?_)|refine vM ?_|refine vD ?_|refine mS ?_|(refine xa ?_ ?_<;>intro _)|refine ⟨_,hcp,?_⟩|refine ioN (by omega) (by omega) ?_|refine rwN (enc:=eD) Done.nil (by omega) ?_|refine r64 (by omega) (by omega) ?_|refine w64 (by omega) (by omega) ?_)<;>conv=>whnf)
   all_goals first
    | exact ⟨rfl,rfl⟩
    | (exfalso; clear hA hcp hb hs hc hd hdk hz; simp_all; done)
    | (exfalso; clear hA hcp hb hs hc hd hdk hz; simp_all; omega)
    | trace_state
 | false =>
   rw [if_neg (by decide)]
   rw [← lg] at hb1
   by_cases hq:c.Seq=(s.Done.getD c.Client.toNat Done.nil).Seq
   · rw [if_pos hq]
     refine coldTry ?_
     refine xd (E:={ E0 with keep:=[2001,7003,9014] }) xb xc (fn:=Go.Proofs.Tryz.f87) (by kernel_rfl) (by kernel_rfl) (fun hb=>?_)
     conv=>whnf
     repeat' first|((first|refine sN ?_|refine dC ?_|(refine dZ ?_;refine dI ?_)|refine vM ?_|refine vD ?_|refine mS ?_|(refine xa ?_ ?_<;>intro _)|refine ⟨_,hcp,?_⟩|refine ioN (by omega) (by omega) ?_|refine rwN (enc:=eD) Done.nil (by omega) ?_|refine r64 (by omega) (by omega) ?_|refine w64 (by omega) (by omega) ?_|refine ⟨_,yg (s.Done.getD c.Client.toNat Done.nil).Res (by omega),?_⟩)<;>conv=>whnf)
     all_goals first
      | exact ⟨rfl,rfl⟩
      | (exfalso; clear hA hcp hb hs hc hd hdk hz; simp_all; done)
      | (exfalso; clear hA hcp hb hs hc hd hdk hz; simp_all; omega)
      | trace_state
   · rw [if_neg hq]
     cases ok with
     | false =>
       rw [if_neg (by simp)]
       refine coldTry ?_
       refine xd (E:={ E0 with keep:=[2001,7003,9014] }) xb xc (fn:=Go.Proofs.Tryz.f87) (by kernel_rfl) (by kernel_rfl) (fun hb=>?_)
       conv=>whnf
       repeat' first|((first|refine sN ?_|refine dC ?_|(refine dZ ?_;refine dI ?_)|refine vM ?_|refine vD ?_|refine mS ?_|(refine xa ?_ ?_<;>intro _)|refine ⟨_,hcp,?_⟩|refine ioN (by omega) (by omega) ?_|refine rwN (enc:=eD) Done.nil (by omega) ?_|refine r64 (by omega) (by omega) ?_|refine w64 (by omega) (by omega) ?_|refine ⟨_,kt p s,?_⟩|refine ⟨_,hA,?_⟩)<;>conv=>whnf)|(refine ⟨_,x1 c (by rw [(xh.1 c4).1]; decide),?_⟩;conv=>whnf)
       all_goals first
        | exact ⟨rfl,rfl⟩
        | (exfalso; clear hA hcp hb hs hc hd hdk hz; simp_all; done)
        | (exfalso; clear hA hcp hb hs hc hd hdk hz; simp_all; omega)
        | trace_state
     | true =>
       cases hfz:s.Frozen with
       | true =>
         rw [if_neg (by simp)]
         refine coldTry ?_
         refine xd (E:={ E0 with keep:=[2001,7003,9014] }) xb xc (fn:=Go.Proofs.Tryz.f87) (by kernel_rfl) (by kernel_rfl) (fun hb=>?_)
         conv=>whnf
         repeat' first|((first|refine sN ?_|refine dC ?_|(refine dZ ?_;refine dI ?_)|refine vM ?_|refine vD ?_|refine mS ?_|(refine xa ?_ ?_<;>intro _)|refine ⟨_,hcp,?_⟩|refine ioN (by omega) (by omega) ?_|refine rwN (enc:=eD) Done.nil (by omega) ?_|refine r64 (by omega) (by omega) ?_|refine w64 (by omega) (by omega) ?_|refine ⟨_,kt p s,?_⟩|refine ⟨_,hA,?_⟩|refine ⟨_,yg r (hz rfl),?_⟩)<;>conv=>whnf)|(refine ⟨_,x1 c (by rw [(xh.1 c4).1]; decide),?_⟩;conv=>whnf)
         all_goals first
          | exact ⟨rfl,rfl⟩
          | (exfalso; clear hA hcp hb hs hc hd hdk hz; simp_all; done)
          | (exfalso; clear hA hcp hb hs hc hd hdk hz; simp_all; omega)
          | trace_state
       | false =>
         rw [if_pos (by simp)]
         refine coldTry2 ?_
         refine xd (E:={ E0 with keep:=[2001,7003,9014],fz:=[(11,[576897])] }) xb xc (fn:=Go.Proofs.Tryz.f87) (by kernel_rfl) (by kernel_rfl) (fun hb=>?_)
         conv=>whnf
         repeat' first|((first|refine sN ?_|refine dC ?_|(refine dZ ?_;refine dI ?_)|refine vM ?_|refine vD ?_|refine mS ?_|(refine xa ?_ ?_<;>intro _)|refine ⟨_,hcp,?_⟩|refine ioN (by omega) (by omega) ?_|refine rwN (enc:=eD) Done.nil (by omega) ?_|refine r64 (by omega) (by omega) ?_|refine w64 (by omega) (by omega) ?_|refine ⟨_,kt p s,?_⟩|refine ⟨_,hA,?_⟩|refine ⟨_,yg r (hz rfl),?_⟩)<;>conv=>whnf)|(refine ⟨_,x1 c (by rw [(xh.1 c4).1]; decide),?_⟩;conv=>whnf)
         all_goals first
          | (exfalso; clear hA hcp hb hs hc hd hdk hz; simp_all; done)
          | (exfalso; clear hA hcp hb hs hc hd hdk hz; simp_all; omega)
          | (refine ⟨?_,rfl⟩
             show TV.tup [(true,[eB s.Up,eB s.Frozen,eI s.Round,sI s.Base,sI ad,.sl 79 ((s.Done.map eD).set c.Client.toNat (eD ⟨c.Seq,r⟩))]),(true,eR r),(false,[.sl 55 []])]=_
             rw [xcz,hfz]
             rfl)
          | trace_state
end Cc
end
section
namespace Cc
open Go Go.AM
set_option maxRecDepth 100000
set_option maxHeartbeats 8000000
def gvAt (c:Clerk) (i:Nat):List Int:=(c.Got.take i).foldl (fun v g=>if g.Has then plus v g.Added else v) c.Base
theorem jm {c:Clerk} {i:Nat} (h:i<c.Got.length):gvAt c (i+1)=if (c.Got.getD i default).Has then plus (gvAt c i) (c.Got.getD i default).Added else gvAt c i:=by
 unfold gvAt; rw [xq h,List.foldl_append]; rfl
theorem xax {c:Clerk} {i:Nat} (h:c.Got.length≤i):gvAt c i=given c:=by unfold gvAt given; rw [List.take_of_length_le h]
theorem jy {p:Plan} {c:Clerk} (hc:ClerkF p c) {i:Nat} (h:i<c.Got.length) (hh:(c.Got.getD i default).Has=true):addedOk (c.Got.getD i default).Added=true∧seqsOk p (c.Got.getD i default).Seqs=true:=by
 have:=zi.1 hc.g i h
 unfold gotB at this
 rw [Bool.or_eq_true] at this
 rcases this with h1|h1
 · unfold Got.none at h1; rw [hh] at h1; simp at h1
 · simp only [Bool.and_eq_true] at h1
   have hk:=h1.1.2
   unfold keeps trtKeeps at hk
   simp only [Bool.and_eq_true] at hk
   exact ⟨hk.1.1.2,h1.2⟩
theorem xb4 {p:Plan} {c:Clerk} (hc:ClerkF p c):∀ i,i≤c.Got.length→(gvAt c i).length=3∧∀ x∈gvAt c i,-(10000+i*20000:Int)≤x∧x≤10000+i*20000:=by
 intro i
 induction i with
 | zero =>
   intro _
   have:=xh.1 hc.b
   simpa [gvAt] using this
 | succ i ih =>
   intro hi
   obtain ⟨l,b⟩:=ih (by omega)
   rw [jm (by omega)]
   split
   · rename_i hh
     have ha:=xt (jy hc (i:=i) (by omega) hh).1
     have:=xn7 l ha.1 b ha.2
     refine ⟨this.1,fun x hx=>?_⟩
     have:=this.2 x hx
     omega
   · exact ⟨l,fun x hx=>by have:=b x hx; omega⟩
def nextQ (p:Plan) (got:List Got) (x:Call):Int:=(got.getD (x.Client % p.Gives.length).toNat Got.nil).Seqs.getD x.Client.toNat 0+1
def runQ (p:Plan) (v:List Int) (x:Call):Rslt × List Int:=actRun (p.Acts.getD x.Act.toNat []) v x.Args
theorem xuz {p:Plan} {got:List Got} {wants:List Call} {v:List Int} {dn:List Done} {i:Nat} (h:i<wants.length) (hq:(wants.getD i default).Seq=nextQ p got (wants.getD i default)) :
 (foldWants p got (wants.drop i) v dn).1=(foldWants p got (wants.drop (i+1)) (runQ p v (wants.getD i default)).2 (dn.set (wants.getD i default).Client.toNat ⟨(wants.getD i default).Seq,(runQ p v (wants.getD i default)).1⟩)).1 ∧
 (foldWants p got (wants.drop i) v dn).2.1=(foldWants p got (wants.drop (i+1)) (runQ p v (wants.getD i default)).2 (dn.set (wants.getD i default).Client.toNat ⟨(wants.getD i default).Seq,(runQ p v (wants.getD i default)).1⟩)).2.1 ∧
 (foldWants p got (wants.drop i) v dn).2.2=(wants.getD i default,(runQ p v (wants.getD i default)).1)::(foldWants p got (wants.drop (i+1)) (runQ p v (wants.getD i default)).2 (dn.set (wants.getD i default).Client.toNat ⟨(wants.getD i default).Seq,(runQ p v (wants.getD i default)).1⟩)).2.2:=by
 rw [xba h]
 generalize wants.getD i default=x at *
 unfold nextQ at hq
 conv=>lhs; lhs; unfold foldWants
 conv=>rhs; lhs; lhs; unfold foldWants
 conv=>rhs; rhs; lhs; unfold foldWants
 rw [if_pos hq]
 exact ⟨rfl,rfl,rfl⟩
theorem xs6 {p:Plan} {got:List Got} {wants:List Call} {v:List Int} {dn:List Done} {i:Nat} (h:i<wants.length) (hq:¬ (wants.getD i default).Seq=nextQ p got (wants.getD i default)) :
 foldWants p got (wants.drop i) v dn=foldWants p got (wants.drop (i+1)) v dn:=by
 rw [xba h]
 generalize wants.getD i default=x at *
 unfold nextQ at hq
 conv=>lhs; unfold foldWants
 rw [if_neg hq]
structure FAt (p:Plan) (c:Clerk) (i:Nat) (v:List Int) (dn:List Done) (ls:List (Call × Rslt)):Prop where
 hi:i≤c.Wants.length
 hv:valOk v=true
 hd:doneOk p dn=true
 hl:ls.length≤i
 h1:(foldWants p c.Got c.Wants (given c) c.Done).1=(foldWants p c.Got (c.Wants.drop i) v dn).1
 h2:(foldWants p c.Got c.Wants (given c) c.Done).2.1=(foldWants p c.Got (c.Wants.drop i) v dn).2.1
 h3:(foldWants p c.Got c.Wants (given c) c.Done).2.2=ls++(foldWants p c.Got (c.Wants.drop i) v dn).2.2
theorem FAt.zero {p:Plan} {c:Clerk} (hc:ClerkF p c) (hg:valOk (given c)=true):FAt p c 0 (given c) c.Done []:=⟨Nat.zero_le _,hg,hc.d,Nat.le_refl _,rfl,rfl,rfl⟩
theorem FAt.yes {p:Plan} {c:Clerk} {i:Nat} {v:List Int} {dn:List Done} {ls:List (Call × Rslt)} (hp:PlanF p) (hc:ClerkF p c) (h:FAt p c i v dn ls) (hi:i<c.Wants.length) (hq:(c.Wants.getD i default).Seq=nextQ p c.Got (c.Wants.getD i default)) :
 FAt p c (i+1) (runQ p v (c.Wants.getD i default)).2 (dn.set (c.Wants.getD i default).Client.toNat ⟨(c.Wants.getD i default).Seq,(runQ p v (c.Wants.getD i default)).1⟩) (ls++[(c.Wants.getD i default,(runQ p v (c.Wants.getD i default)).1)]):=by
 have hx:=hc.w _ (xx hi)
 obtain ⟨k1,k2,k3⟩:=xeb (xfr hp hx) h.hv (xz.1 hx).2.2.2
 obtain ⟨e1,e2,e3⟩:=xuz (p:=p) (got:=c.Got) (v:=v) (dn:=dn) hi hq
 refine ⟨hi,k2,xcs h.hd (wy (xz.1 hx).2.1 k1),?_,h.h1.trans e1,h.h2.trans e2,?_⟩
 · have:=h.hl; simp only [List.length_append,List.length_singleton]; omega
 · rw [h.h3,e3,List.append_assoc]; rfl
theorem FAt.no {p:Plan} {c:Clerk} {i:Nat} {v:List Int} {dn:List Done} {ls:List (Call × Rslt)} (h:FAt p c i v dn ls) (hi:i<c.Wants.length) (hq:¬ (c.Wants.getD i default).Seq=nextQ p c.Got (c.Wants.getD i default)):FAt p c (i+1) v dn ls:=by
 have e:=xs6 (p:=p) (got:=c.Got) (v:=v) (dn:=dn) hi hq
 exact ⟨hi,h.hv,h.hd,by have:=h.hl; omega,e▸h.h1,e▸h.h2,e▸h.h3⟩
theorem FAt.fin {p:Plan} {c:Clerk} {i:Nat} {v:List Int} {dn:List Done} {ls:List (Call × Rslt)} (h:FAt p c i v dn ls) (hi:c.Wants.length≤i) :
 (foldWants p c.Got c.Wants (given c) c.Done).1=v∧(foldWants p c.Got c.Wants (given c) c.Done).2.1=dn∧(foldWants p c.Got c.Wants (given c) c.Done).2.2=ls:=by
 have e:c.Wants.drop i=[]:=List.drop_eq_nil_of_le hi
 have h1:=h.h1; have h2:=h.h2; have h3:=h.h3
 rw [e] at h1 h2 h3
 exact ⟨h1,h2,h3.trans (List.append_nil _)⟩
theorem FAt.run {p:Plan} {c:Clerk} {i:Nat} {v:List Int} {dn:List Done} {ls:List (Call × Rslt)} (hp:PlanF p) (hc:ClerkF p c) (h:FAt p c i v dn ls) (hi:i<c.Wants.length):(runQ p v (c.Wants.getD i default)).1.Tells.length≤6:=by
 have hx:=hc.w _ (xx hi)
 obtain ⟨k1,k2,k3⟩:=xeb (xfr hp hx) h.hv (xz.1 hx).2.2.2
 exact (yj.1 k1).2.2.1
theorem xiv {p:Plan} {c:Clerk} (hg:c.Got.length=p.Gives.length):readyB c=!decide ((c.Got.countP Got.Has:Int)<(p.Gives.length:Int)):=by
 have hle:c.Got.countP Got.Has≤c.Got.length:=List.countP_le_length
 unfold readyB
 cases h:c.Got.all Got.Has with
 | true =>
   have:c.Got.countP Got.Has=c.Got.length:=List.countP_eq_length.2 (fun x hx=>List.all_eq_true.1 h x hx)
   symm; rw [Bool.not_eq_true',decide_eq_false_iff_not]; omega
 | false =>
   have:c.Got.countP Got.Has≠c.Got.length:=fun e=>by
    have:=List.countP_eq_length.1 e
    rw [List.all_eq_true.2 this] at h; cases h
   symm; rw [Bool.not_eq_false',decide_eq_true_eq]; omega
theorem xeg {p:Plan} {c:Clerk} (h:(!readyB c || decide (c.Round=200) || !valOk (given c))=true):clerkFold p c=(c,[]):=by unfold clerkFold; rw [if_pos h]
theorem w5 {p:Plan} {c:Clerk} (h:(!readyB c || decide (c.Round=200) || !valOk (given c))=false):clerkFold p c=({ Up:=c.Up,Round:=c.Round+1,Base:=(foldWants p c.Got c.Wants (given c) c.Done).1,Done:=(foldWants p c.Got c.Wants (given c) c.Done).2.1,Wants:=[],Got:=List.replicate c.Got.length Got.nil },(foldWants p c.Got c.Wants (given c) c.Done).2.2):=by unfold clerkFold; rw [if_neg (by rw [h]; simp)]
theorem kc {p:Plan} {c:Clerk} (hc:ClerkF p c) (hcl:inB p.Clients 0 4=true):c.Wants.length≤4:=by
 have hb:=xf.1 hcl
 have key:∀ (l:List Call) (n:Int),(∀ x∈l,n≤x.Client∧x.Client≤3)→l.Pairwise (fun a b=>a.Client<b.Client)→n≤4→(l.length:Int)≤4 - n:=by
  intro l
  induction l with
  | nil=>intro n _ _ h; simp only [List.length_nil]; omega
  | cons a r ih =>
    intro n h1 h2 h3
    have ha:=h1 a (List.mem_cons_self ..)
    rw [List.pairwise_cons] at h2
    have:=ih (a.Client+1) (fun x hx=>⟨by have:=h2.1 x hx; omega,(h1 x (List.mem_cons_of_mem _ hx)).2⟩) h2.2 (by omega)
    simp only [List.length_cons]; omega
 have:=key c.Wants 0 (fun x hx=>by have:=(xz.1 (hc.w x hx)).1; omega) hc.ri (by omega)
 omega
theorem qv {p:Plan} {c:Clerk} (hc:ClerkF p c) (hcl:inB p.Clients 0 4=true) (hg:p.Gives.length≤3):zK c≤1000:=by
 have hb:=xf.1 hcl
 have h1:=(xh.1 hc.b).1
 have h2:=yy hcl hc.d
 have h3:=kc hc hcl
 have h4:zs zC c.Wants≤c.Wants.length*2:=kw fun x hx=>by
  have:=(xh.1 (xz.1 (hc.w x hx)).2.2.2).1
  unfold zC; omega
 have h5:zs zG c.Got≤c.Got.length*7:=kw fun x hx=>by
  obtain ⟨i,hi,rfl⟩:=List.mem_iff_getElem.1 hx
  have e:c.Got.getD i default=c.Got[i]:=by rw [List.getD_eq_getElem?_getD,List.getElem?_eq_getElem hi]; rfl
  cases hh:(c.Got.getD i default).Has with
  | true =>
    obtain ⟨k1,k2⟩:=jy hc hi hh
    have k3:=(xt k1).1
    unfold seqsOk at k2
    simp only [Bool.and_eq_true,decide_eq_true_eq] at k2
    rw [e] at k2 k3
    unfold zG; omega
  | false =>
    have:=zi.1 hc.g i hi
    unfold gotB Got.none at this
    rw [hh] at this
    simp only [Bool.not_false,Bool.true_and,Bool.false_and,Bool.or_false,Bool.and_eq_true,List.isEmpty_iff] at this
    rw [e] at this
    unfold zG; rw [this.1,this.2]; simp
 have h6:c.Wants.length*2≤4*2:=Nat.mul_le_mul_right _ h3
 have h7:c.Got.length*7≤3*7:=Nat.mul_le_mul_right _ (by rw [hc.gl]; exact hg)
 have:=hc.gl
 unfold zK zCs zGs
 omega
end Cc
end
section
namespace Cc
open Go Go.AM
set_option maxRecDepth 100000
set_option maxHeartbeats 8000000
theorem xu0 (l k:List Msg) {i:Nat} (h:i<k.length):(l++k.take i).map eM++[eM (k.getD i default)]=(l++k.take (i+1)).map eM:=by
 rw [xq h,← List.append_assoc,List.map_append (l₁:=l++k.take i)]; rfl
theorem xoa {l k:List Msg} {i:Nat} (h:i≤k.length) (h1:i=0∨l.length+i≤30) (h2:i=k.length∨30≤l.length+i):l++k.take i=send l k:=by
 unfold send
 congr 1
 rcases h2 with h2|h2
 · by_cases h3:30 - l.length=i
   · rw [h3]
   · rw [List.take_of_length_le (by omega),List.take_of_length_le (by omega)]
 · rw [show 30 - l.length=i by omega]
theorem xeh (w:World) (l:List Msg) (hl:l.length≤1000) (hn:w.Net.length≤1000) (hz:∀ m∈l,zM m≤1000000):Sem P 210 [(.own,.agg (oWd w)),(.pure,.one (sMs l))] [] (.agg (oWd { w with Net:=send w.Net l })):=by
 have lm:(l.map eM).length=l.length:=List.length_map ..
 refine xd (E:=E0) xb xc (fn:=Go.Proofs.Tryz.f210) (by kernel_rfl) (by kernel_rfl) (fun hb=>?_)
 conv=>whnf
 (repeat' first|((first|refine sN ?_|refine dC ?_|(refine dZ ?_;refine dI ?_)|refine vM ?_|refine vD ?_|refine mS ?_)<;>conv=>whnf))
 refine Vc.loop1 (fun (i:Nat)=>i≤l.length∧(i=0∨w.Net.length+i≤30)) (fun i=>updL [1,2,4] [(5,I i)] [(12,.arr 55 ((w.Net++l.take i).map eM) false)]) (fun i=>l.length - i) 0 ⟨Nat.zero_le _,.inl rfl⟩ ?_ (fun i hi=>?_)
 · repeat' (first|exact True.intro|((conv=>whnf);first|exact True.intro|refine ⟨by rfl,?_⟩|refine ⟨by first|omega|(show (_:Int)=_;first|omega|(dsimp only;omega))|exact (by simp),?_⟩|refine ⟨?_,?_⟩))
 · obtain ⟨hi,h1⟩:=hi
   have hlo:((w.Net++l.take i).map eM).length=w.Net.length+i:=by rw [List.length_map,List.length_append,List.length_take]; omega
   conv=>whnf
   by_cases hil:i<l.length
   · repeat' first|((first|refine sN ?_|refine dC ?_|(refine dZ ?_;refine dI ?_)|refine vM ?_|refine vD ?_|refine mS ?_|(refine xa ?_ ?_<;>intro _)|refine ixN (enc:=eM) default hil ?_|refine ⟨_,xee (l.getD i default) (hz _ (xx hil)),?_⟩)<;>conv=>whnf)|(refine apN (by rw [hlo]; show _+1≤_; omega) ?_;conv=>whnf)|((first|refine w64 (by omega) (by omega) ?_)<;>conv=>whnf)
     all_goals first
      | (exfalso; simp only [decide_eq_true_eq,decide_eq_false_iff_not] at *; omega)
      | (refine ⟨i+1,⟨by omega,.inr (by simp only [decide_eq_true_eq] at *; omega)⟩,by simp only; omega,?_⟩
         repeat' (first|exact True.intro|((conv=>whnf);first|exact True.intro|refine ⟨by rfl,?_⟩|refine ⟨by first|omega|(show (_:Int)=_;first|omega|(dsimp only;omega))|exact xu0 _ _ hil,?_⟩|refine ⟨?_,?_⟩))
         done)
      | skip
     have e:=xoa (l:=w.Net) hi h1 (.inr (by simp only [decide_eq_false_iff_not] at *; omega))
     refine ⟨?_,rfl⟩
     rw [← e]
   · repeat' first|((first|refine sN ?_|refine dC ?_|(refine dZ ?_;refine dI ?_)|refine vM ?_|refine vD ?_|refine mS ?_|(refine xa ?_ ?_<;>intro _))<;>conv=>whnf)
     all_goals first
      | (exfalso; simp only [decide_eq_true_eq,decide_eq_false_iff_not] at *; omega)
      | skip
     have e:=xoa (l:=w.Net) hi h1 (.inl (by omega))
     refine ⟨?_,rfl⟩
     rw [← e]
end Cc
end
section
namespace Cc
open Go Go.AM
set_option maxRecDepth 100000
set_option maxHeartbeats 8000000
theorem kk {c:Call} (h:c.none=true):c.Args.length≤2:=by
 unfold Call.none at h
 simp only [Bool.and_eq_true,List.isEmpty_iff] at h
 rw [h.2]; simp
theorem kd {p:Plan} {c:Call} (h:callB p c=true):c.Args.length≤2:=by
 have:=(xh.1 (xz.1 h).2.2.2).1; omega
theorem xei {p:Plan} {l:List Int} (hcl:inB p.Clients 0 4=true) (h:seqsOk p l=true):l.length≤4:=by
 have hb:=xf.1 hcl
 unfold seqsOk at h
 simp only [Bool.and_eq_true,decide_eq_true_eq] at h
 omega
theorem jn {p:Plan} {m:Msg} (hcl:inB p.Clients 0 4=true) (h:msgB p m=true):zM m≤1000:=by
 have key:m.Call.Args.length≤2∧m.Vals.length≤3∧m.Seqs.length≤4∧zDs m.Done≤100:=by
  unfold msgB at h
  rw [Bool.and_eq_true] at h
  obtain ⟨_,h⟩:=h
  split at h
  · simp only [Bool.and_eq_true,List.isEmpty_iff] at h
    exact ⟨kd h.1.1.1.2,by rw [h.1.1.2]; simp,by rw [h.1.2]; simp,by rw [h.2]; simp [zDs,zs]⟩
  · split at h
    · simp only [Bool.and_eq_true,List.isEmpty_iff] at h
      exact ⟨kk h.1.1.1.2,by rw [h.1.1.2]; simp,by rw [h.1.2]; simp,by rw [h.2]; simp [zDs,zs]⟩
    · split at h
      · simp only [Bool.and_eq_true,List.isEmpty_iff] at h
        exact ⟨kk h.1.2,by have:=(xt h.1.1.1.2).1; omega,xei hcl h.1.1.2,by rw [h.2]; simp [zDs,zs]⟩
      · split at h
        · simp only [Bool.and_eq_true,List.isEmpty_iff] at h
          exact ⟨kk h.1.2,by have:=(xh.1 h.1.1.1.2).1; omega,by rw [h.2]; simp,(yy hcl h.1.1.2).2⟩
        · cases h
 unfold zM zC; omega
theorem xlk {p:Plan} {x:Client} {n:Int} (h:clientB p n x=true):zX x≤10:=by
 unfold clientB at h
 rw [Bool.and_eq_true] at h
 have h1:=w4 h.1
 have h2:x.Call.Args.length≤2:=by
  have h:=h.2
  split at h
  · simp only [Bool.and_eq_true] at h; exact kd h.1.1
  · exact kk h
 unfold zX zC zR
 simp only at h1
 omega
theorem xm6 {l:Line} (h:l.ok=true):zL l≤5:=by
 have hs:l.Form.small=true→zL l≤5:=fun h=>by
  unfold Form.small at h
  simp only [Bool.and_eq_true] at h
  have:=(xh.1 h.1.1).1
  have:=(xh.1 h.1.2).1
  unfold zL zF; omega
 unfold Line.ok at h
 split at h
 · simp only [Bool.and_eq_true] at h; exact hs h.2
 · split at h
   · simp only [Bool.and_eq_true] at h; exact hs h.2
   · split at h
     · simp only [Bool.and_eq_true] at h; exact hs h.2
     · split at h
       · simp only [Bool.and_eq_true,decide_eq_true_eq] at h
         unfold zL zF; rw [h.2]; simp [Form.nil]
       · cases h
theorem xp7 {p:Plan} (h:planOk p=true):zPl p≤200:=by
 have hl:=xal h
 have hc:=xa6.1 (xau h)
 have h1:zs zLs p.Acts≤p.Acts.length*36:=kw fun a ha=>by
  have hk:=y6.1 (hc.2 a ha)
  have:zs zL a≤a.length*5:=kw fun l hl=>xm6 (hk.1 l hl)
  have h6:=hk.2.1
  have:a.length*5≤6*5:=Nat.mul_le_mul_right _ h6
  unfold zLs; omega
 have h2:p.Acts.length*36≤4*36:=Nat.mul_le_mul_right _ (by omega)
 unfold zPl zAs; omega
theorem xg3 {α:Type} [Inhabited α] {l:List α} {x:α} (h:x∈l):∃ i,i<l.length∧l.getD i default=x:=by
 obtain ⟨i,hi,rfl⟩:=List.mem_iff_getElem.1 h
 exact ⟨i,hi,by rw [List.getD_eq_getElem?_getD,List.getElem?_eq_getElem hi]; rfl⟩
theorem xm7 {w:World} (h:WorldF w):zWd w≤100000:=by
 have hcl:=xu h.p.ok
 have hb:=xf.1 hcl
 have hg:=yp h.p.ok
 have h1:=xp7 h.p.ok
 have h2:zs zS w.Sites≤w.Sites.length*1000:=kw fun x hx=>by
  obtain ⟨i,hi,rfl⟩:=xg3 hx
  exact xcy hcl (zi.1 h.s i hi)
 have h3:zs zX w.Clients≤w.Clients.length*10:=kw fun x hx=>by
  obtain ⟨i,hi,rfl⟩:=xg3 hx
  exact xlk (zi.1 h.c i hi)
 have h4:zs zM w.Net≤w.Net.length*1000:=kw fun x hx=>jn hcl (h.n x hx)
 have h5:zs zO w.Log≤w.Log.length*8:=kw fun x hx=>by
  have:=h.l x hx
  have a:=kd this.1
  have b:=(yj.1 this.2).2.2.1
  unfold zO zC zR; omega
 have h6:=qv h.k hcl hg
 have e1:w.Sites.length*1000≤3*1000:=Nat.mul_le_mul_right _ (by rw [h.sl]; exact hg)
 have e2:w.Clients.length*10≤4*10:=Nat.mul_le_mul_right _ (by have:=h.cl; omega)
 have e3:w.Net.length*1000≤30*1000:=Nat.mul_le_mul_right _ h.nl
 have e4:w.Log.length*8≤100*8:=Nat.mul_le_mul_right _ h.ll
 have:=h.sl; have:=h.cl; have:=h.nl; have:=h.ll
 unfold zWd zSs zXs zMs zOs
 omega
end Cc
end
section
namespace Cc
open Go Go.AM
set_option maxRecDepth 100000
set_option maxHeartbeats 16000000
theorem xp8 (e:Event):∀ (k:Nat) (a b:AV),(aE e)[k]?=some a→(eE e)[k]?=some b→Cold a b:=fun k a b ha hb=>by
 match k,ha,hb with
 | 0,ha,hb=>cases ha; cases hb; exact xo
 | 1,ha,hb=>cases ha; cases hb; exact xo
 | 2,ha,hb=>cases ha; cases hb; exact xo
 | 3,ha,hb=>cases ha; cases hb; exact xj
 | k+4,ha,hb=>simp at ha
theorem drEv0 {a m:Int} {bs:List UInt8} {os:List TV} {x y z:Int} {a':Int} (e2:os=[.agg (aRd bs a')]) (hb:a≤a'∧a'≤a+m) :
 ∃ (c:Event) (a':Int),(a≤a'∧a'≤a+m)∧c.Args.length≤3∧(TV.agg [eI x,eI y,eI z,.sl 3 []]=.agg (eE c)∨TV.agg [eI x,eI y,eI z,.sl 3 []]=.agg (aE c))∧os=[.agg (aRd bs a')]:=⟨⟨x,y,z,[]⟩,a',hb,Nat.zero_le _,.inr rfl,e2⟩
theorem drEv1 {a m:Int} {bs:List UInt8} {os:List TV} {x y z:Int} {g:List Int} {a':Int} (h:g.length≤3) (e2:os=[.agg (aRd bs a')]) (hb:a≤a'∧a'≤a+m) :
 ∃ (c:Event) (a':Int),(a≤a'∧a'≤a+m)∧c.Args.length≤3∧(TV.agg [eI x,eI y,eI z,fI g]=.agg (eE c)∨TV.agg [eI x,eI y,eI z,fI g]=.agg (aE c))∧os=[.agg (aRd bs a')]:=⟨⟨x,y,z,g⟩,a',hb,h,.inl rfl,e2⟩
theorem drEventEnd {f:Nat} {ins:List (Go.AM.Mode × TV)} {a m:Int} {bs:List UInt8} (key:∃ res outs,(∃ (c:Event) (a':Int),(a≤a'∧a'≤a+m)∧c.Args.length≤3∧(res=.agg (eE c)∨res=.agg (aE c))∧outs=[.agg (aRd bs a')])∧Sem P f ins outs res) :
 ∃ os res,(∃ (c:Event) (a':Int),(a≤a'∧a'≤a+m)∧c.Args.length≤3∧res=.agg (eE c)∧os=aRd bs a')∧Sem P f ins [.agg os] res:=by
 obtain ⟨r,o,⟨c,a',h1,h2,h3,rfl⟩,h4⟩:=key
 rcases h3 with rfl|rfl
 · exact ⟨_,_,⟨c,a',h1,h2,rfl,rfl⟩,h4⟩
 · exact ⟨_,_,⟨c,a',h1,h2,rfl,rfl⟩,Sem.cold (cs:=aE c) rfl (xp8 c) h4⟩
theorem kl {w:World} (hw:WorldF w):(1≤w.Sites.length∧w.Sites.length≤3)∧(1≤w.Clients.length∧w.Clients.length≤4)∧(1≤w.Plan.Acts.length∧w.Plan.Acts.length≤4)∧w.Net.length≤30∧w.Clerk.Wants.length≤4:=by
 have hp:=hw.p.ok
 have hl:=xal hp
 have h1:=hw.sl
 have h2:=hw.cl
 have h3:=kc hw.k (xu hp)
 have h4:=hw.nl
 exact ⟨by omega,by omega,by omega,h4,h3⟩
end Cc
end
section
namespace Cc
open Go Go.AM
set_option maxRecDepth 100000
set_option maxHeartbeats 16000000
theorem drI {a m:Int} {bs:List UInt8} {rows:List (List AV)} {os:List TV} {l:List Int} {a':Int} (e:rows=ints l) (e2:os=[.agg (aRd bs a')]) (hb:a≤a'∧a'≤a+m) :
 ∃ (l:List Int) (a':Int),(a≤a'∧a'≤a+m)∧TV.one (.sl 3 rows)=AI l∧os=[.agg (aRd bs a')]:=⟨l,a',hb,by rw [e],e2⟩
theorem xob (l:List Int) (n:Nat):(ints l).take n=ints (l.take n):=List.map_take.symm
theorem xp9 (bs:List UInt8) (a k:Int) (ha:0≤a∧a≤10000000000) (hk:1≤k∧k≤1000000) (hbs:bs.length≤2000) :
 ∃ os res,(∃ (l:List Int) (a':Int),(a≤a'∧a'≤a+10)∧res=AI l∧os=aRd bs a')∧Sem P 165 [(.io 0 0,.agg (aRd bs a)),(.pure,I k)] [.agg os] res:=by
 have key:∃ res outs,(∃ (l:List Int) (a':Int),(a≤a'∧a'≤a+10)∧res=AI l∧outs=[.agg (aRd bs a')])∧Sem P 165 [(.io 0 0,.agg (aRd bs a)),(.pure,I k)] outs res:=by
  refine x6 (E:={ E0 with cut:=[7001] }) xb xc (fn:=Go.Proofs.Tryz.f165) (by kernel_rfl) (by kernel_rfl) ?_
  conv=>whnf
  repeat' first|((first|refine sN ?_|refine dC ?_|(refine dZ ?_;refine dI ?_)|refine vM ?_|refine vD ?_|refine mS ?_|(refine xa ?_ ?_<;>intro _))<;>conv=>whnf)|(refine callIo (xk bs _ _ (by omega) (by omega) hbs) ?_; rintro _ _ ⟨n,hn,rfl,rfl⟩;conv=>whnf)|(refine ioN (by first|omega|(dsimp only; omega)|(simp<;>omega)|(simp_all<;>omega)) (by first|omega|(dsimp only; omega)|(simp<;>omega)|(simp_all<;>omega)) ?_;conv=>whnf)|(refine rwI rfl (by first|omega|(dsimp only; omega)|(simp<;>omega)|(simp_all<;>omega)) (by first|omega|(dsimp only; omega)|(simp<;>omega)|(simp_all<;>omega)) fun c hc=>?_;conv=>whnf)|(refine rwN (enc:=rI) 0 (by first|omega|(dsimp only; omega)|(simp<;>omega)|(simp_all<;>omega)) ?_;conv=>whnf)|(refine w64 (by first|omega|(dsimp only; omega)) (by first|omega|(dsimp only; omega)) ?_;conv=>whnf)|(refine apN (by simp; omega) ?_;conv=>whnf)|((first|refine apN (by simp) ?_)<;>conv=>whnf)|(refine slN (by decide) (by decide) (by first|omega|(dsimp only; omega)|(simp<;>omega)|(simp_all<;>omega)) ?_;conv=>whnf)|((first|refine ctN ?_)<;>conv=>whnf)
  all_goals
   first
    | (refine drI (l:=[_,_,_]) rfl rfl ⟨?_,?_⟩<;>omega)
    | (refine drI (l:=_) (yr [_,_,_] _ _) rfl ⟨?_,?_⟩<;>omega)
    | (refine drI (l:=_) (qa [_,_,_] _) rfl ⟨?_,?_⟩<;>omega)
    | (refine drI (l:=_) (xob [_,_,_] 2) rfl ⟨?_,?_⟩<;>omega)
    | trace_state
 obtain ⟨r,o,⟨l,a',h1,h2,rfl⟩,h4⟩:=key
 exact ⟨_,r,⟨l,a',h1,h2,rfl⟩,h4⟩
theorem xs7 (bs:List UInt8) (a k:Int) (ha:0≤a∧a≤10000000000) (hk:1≤k∧k≤1000000) (hbs:bs.length≤2000) :
 ∃ os res,(∃ (l:List Int) (a':Int),(a≤a'∧a'≤a+10)∧res=AI l∧os=aRd bs a')∧Sem P 218 [(.io 0 0,.agg (aRd bs a)),(.pure,I k)] [.agg os] res:=by
 have key:∃ res outs,(∃ (l:List Int) (a':Int),(a≤a'∧a'≤a+10)∧res=AI l∧outs=[.agg (aRd bs a')])∧Sem P 218 [(.io 0 0,.agg (aRd bs a)),(.pure,I k)] outs res:=by
  refine x6 (E:={ E0 with cut:=[11001] }) xb xc (fn:=Go.Proofs.Tryz.f218) (by kernel_rfl) (by kernel_rfl) ?_
  conv=>whnf
  (repeat' first|((first|refine sN ?_|refine dC ?_|(refine dZ ?_;refine dI ?_)|refine vM ?_|refine vD ?_|refine mS ?_)<;>conv=>whnf))
  refine Vc.loop3 (fun (i:Nat) (l:List Int) (b:Int)=>i≤3∧l.length=i∧a≤b∧b≤a+i) (fun i l b=>updL [0,1,4,20,21,22,23,24,25,26,27,28,29,30,31,32,33,34,35,36,37,38,39,40,41,42,43,44] [(6,I i),(5,.one (.ref 128000))] [(128000,.arr 3 (ints l) false),(63,.box (aRd bs b))]) (fun i _ _=>3 - i) 0 [] a ⟨by omega,rfl,by omega,by omega⟩ ?_ (fun i l b hi=>?_)
  · exact wk
  · obtain ⟨i3,hl,b1,b2⟩:=hi
    have ll:=xe l
    conv=>whnf
    (repeat' first|((first|refine sN ?_|refine dC ?_|(refine dZ ?_;refine dI ?_)|refine vM ?_|refine vD ?_|refine mS ?_)<;>conv=>whnf))
    refine xg (fun g=>?_) (fun g=>?_)
    all_goals conv=>whnf
    · repeat' first|((first|refine sN ?_|refine dC ?_|(refine dZ ?_;refine dI ?_)|refine vM ?_|refine vD ?_|refine mS ?_|(refine xa ?_ ?_<;>intro _))<;>conv=>whnf)|(refine callIo (xk bs _ _ (by omega) (by omega) hbs) ?_; rintro _ _ ⟨n,hn,rfl,rfl⟩;conv=>whnf)|(refine ioN (by first|omega|(dsimp only; omega)|(simp<;>omega)|(simp_all<;>omega)) (by first|omega|(dsimp only; omega)|(simp<;>omega)|(simp_all<;>omega)) ?_;conv=>whnf)|(refine rwI rfl (by first|omega|(dsimp only; omega)|(simp<;>omega)|(simp_all<;>omega)) (by first|omega|(dsimp only; omega)|(simp<;>omega)|(simp_all<;>omega)) fun c hc=>?_;conv=>whnf)|(refine rwN (enc:=rI) 0 (by first|omega|(dsimp only; omega)|(simp<;>omega)|(simp_all<;>omega)) ?_;conv=>whnf)|(refine w64 (by first|omega|(dsimp only; omega)) (by first|omega|(dsimp only; omega)) ?_;conv=>whnf)|(refine apN (by simp; omega) ?_;conv=>whnf)
      refine ⟨i+1,l++[c],b+1,⟨by omega,by simp; omega,by omega,by omega⟩,by simp only; omega,?_⟩
      repeat' (first|exact True.intro|((conv=>whnf);first|exact True.intro|refine ⟨by rfl,?_⟩|refine ⟨by first|omega|(show (_:Int)=_;first|omega|(dsimp only;omega))|exact qa _ _,?_⟩|refine ⟨?_,?_⟩))
    · have hl3:l.length=3:=by omega
      repeat' first|((first|refine sN ?_|refine dC ?_|(refine dZ ?_;refine dI ?_)|refine vM ?_|refine vD ?_|refine mS ?_|(refine xa ?_ ?_<;>intro _))<;>conv=>whnf)|(refine callIo (xk bs _ _ (by omega) (by omega) hbs) ?_; rintro _ _ ⟨n,hn,rfl,rfl⟩;conv=>whnf)|(refine ioN (by first|omega|(dsimp only; omega)|(simp<;>omega)|(simp_all<;>omega)) (by first|omega|(dsimp only; omega)|(simp<;>omega)|(simp_all<;>omega)) ?_;conv=>whnf)|(refine rwI rfl (by first|omega|(dsimp only; omega)|(simp<;>omega)|(simp_all<;>omega)) (by first|omega|(dsimp only; omega)|(simp<;>omega)|(simp_all<;>omega)) fun c hc=>?_;conv=>whnf)|(refine rwN (enc:=rI) 0 (by first|omega|(dsimp only; omega)|(simp<;>omega)|(simp_all<;>omega)) ?_;conv=>whnf)|(refine w64 (by first|omega|(dsimp only; omega)) (by first|omega|(dsimp only; omega)) ?_;conv=>whnf)|(refine apN (by simp; omega) ?_;conv=>whnf)|((first|refine apN (by simp) ?_)<;>conv=>whnf)|(refine slN (by decide) (by decide) (by first|omega|(dsimp only; omega)|(simp<;>omega)|(simp_all<;>omega)) ?_;conv=>whnf)|((first|refine ctN ?_)<;>conv=>whnf)
      all_goals
       first
        | (refine drI (l:=l) (rfl:ints l=ints l) rfl ⟨?_,?_⟩<;>omega)
        | (refine drI (l:=_) (yr l _ _) rfl ⟨?_,?_⟩<;>omega)
        | (refine drI (l:=_) (qa l _) rfl ⟨?_,?_⟩<;>omega)
        | (refine drI (l:=_) (xob l 2) rfl ⟨?_,?_⟩<;>omega)
        | trace_state
 obtain ⟨r,o,⟨l,a',h1,h2,rfl⟩,h4⟩:=key
 exact ⟨_,r,⟨l,a',h1,h2,rfl⟩,h4⟩
theorem xu1 (l:List Done) (x:Done):l.map eD++[eD x]=(l++[x]).map eD:=by simp
theorem xs8 {l:List Done} {n c:Int} {t:List Int}:Cold (.sl 79 (l.map eD++[[eI n,eI c,fI t]])) (fDs (l++[⟨n,⟨c,t⟩⟩])):=by
 have e:=xu1 l ⟨n,⟨c,t⟩⟩
 unfold fDs
 rw [← e]; exact xj
theorem xqa {l:List Done} {n c:Int}:Cold (.sl 79 (l.map eD++[[eI n,eI c,.fr [] 3 []]])) (fDs (l++[⟨n,⟨c,[]⟩⟩])):=xs8 (t:=[])
end Cc
end
section
namespace Cc
open Go Go.AM
set_option maxRecDepth 100000
set_option maxHeartbeats 8000000
theorem xs9 (log:List LogD) (x:LogD):write log [x]=if log.length<100 then log++[x] else log:=by
 unfold write
 by_cases h:log.length<100
 · rw [if_pos h]; congr 1; rw [List.take_of_length_le (by simp; omega)]
 · rw [if_neg h,show 100 - log.length=0 by omega]; simp
theorem xu2 (l:List LogD) (x:LogD):l.map eO++[eO x]=(l++[x]).map eO:=by simp
theorem xqb (w:World) (c:Call) (r:Rslt) (hc:c.Args.length≤1000000) (hr:r.Tells.length≤1000000):Sem P 260 [(.own,.agg (oWd w)),(.pure,.agg (aC c)),(.pure,.agg (aR r))] [] (.agg (oWd { w with Log:=write w.Log [⟨c,r⟩] })):=by
 have ll:(w.Log.map eO).length=w.Log.length:=List.length_map ..
 have e:=xs9 w.Log ⟨c,r⟩
 by_cases h:w.Log.length<100
 · rw [if_pos h] at e
   rw [e]
   refine xd (E:=E0) xb xc (fn:=Go.Proofs.Tryz.f260) (by kernel_rfl) (by kernel_rfl) (fun hb=>?_)
   conv=>whnf
   repeat' first|((first|refine sN ?_|refine dC ?_|(refine dZ ?_;refine dI ?_)|refine vM ?_|refine vD ?_|refine mS ?_|(refine xa ?_ ?_<;>intro _)|refine ⟨_,x1 c hc,?_⟩|refine ⟨_,yg r hr,?_⟩)<;>conv=>whnf)|(refine apN (by rw [ll]; show _+1≤_; omega) ?_;conv=>whnf)
   all_goals first
    | (exfalso; simp only [decide_eq_false_iff_not] at *; omega)
    | (refine ⟨?_,rfl⟩
       show TV.agg [eI w.Plan.Clients,fAs w.Plan.Acts,fI w.Plan.Gives,fI w.Plan.Start,sSs w.Sites,eB w.Clerk.Up,eI w.Clerk.Round,fI w.Clerk.Base,fDs w.Clerk.Done,fCs w.Clerk.Wants,fGs w.Clerk.Got,sXs w.Clients,sMs w.Net,.sl 230 (w.Log.map eO++[eO ⟨c,r⟩])]=_
       rw [xu2])
    | trace_state
 · rw [if_neg h] at e
   rw [e]
   refine xd (E:=E0) xb xc (fn:=Go.Proofs.Tryz.f260) (by kernel_rfl) (by kernel_rfl) (fun hb=>?_)
   conv=>whnf
   repeat' first|((first|refine sN ?_|refine dC ?_|(refine dZ ?_;refine dI ?_)|refine vM ?_|refine vD ?_|refine mS ?_|(refine xa ?_ ?_<;>intro _))<;>conv=>whnf)
   all_goals first
    | exact ⟨rfl,rfl⟩
    | (exfalso; simp only [decide_eq_true_eq] at *; omega)
    | trace_state
theorem yv (l:List Site) (k:Nat) (s:Site):(l.map eS).set k (eS s)=(l.set k s).map eS:=List.map_set.symm
theorem xiw (w:World) (n:Int) (up:Bool):Sem P 212 [(.own,.agg (oWd w)),(.pure,I n),(.pure,B up)] [] (.agg (oWd (doLife w n up))):=by
 have ls:(w.Sites.map eS).length=w.Sites.length:=List.length_map ..
 cases h:inB n 0 (w.Sites.length - 1) with
 | false =>
   have e:doLife w n up=w:=by unfold doLife; rw [h]; rfl
   rw [e]
   refine xd (E:=E0) xb xc (fn:=Go.Proofs.Tryz.f212) (by kernel_rfl) (by kernel_rfl) (fun hb=>?_)
   have hb1:(w.Sites.map eS).length≤1125899906842624:=(hb.1 (sSs w.Sites) (by simp)).1
   conv=>whnf
   repeat' first|((first|refine sN ?_|refine dC ?_|(refine dZ ?_;refine dI ?_)|refine vM ?_|refine vD ?_|refine mS ?_|(refine xa ?_ ?_<;>intro _)|refine ⟨_,xl _ _ _,?_⟩|refine w64 (by omega) (by omega) ?_)<;>conv=>whnf)
   all_goals first
    | exact ⟨rfl,rfl⟩
    | (exfalso; simp_all; done)
    | trace_state
 | true =>
   have hn:=xf.1 h
   have e:doLife w n up={ w with Sites:=w.Sites.set n.toNat { (w.Sites.getD n.toNat Site.nil) with Up:=up } }:=by unfold doLife; rw [h]; rfl
   rw [e]
   refine xd (E:=E0) xb xc (fn:=Go.Proofs.Tryz.f212) (by kernel_rfl) (by kernel_rfl) (fun hb=>?_)
   have hb1:(w.Sites.map eS).length≤1125899906842624:=(hb.1 (sSs w.Sites) (by simp)).1
   conv=>whnf
   repeat' first|((first|refine sN ?_|refine dC ?_|(refine dZ ?_;refine dI ?_)|refine vM ?_|refine vD ?_|refine mS ?_|(refine xa ?_ ?_<;>intro _)|refine ⟨_,xl _ _ _,?_⟩|refine w64 (by omega) (by omega) ?_|refine ioN (by omega) (by omega) ?_|refine rwN (enc:=eS) Site.nil (by omega) ?_)<;>conv=>whnf)
   all_goals first
    | (exfalso; simp_all; done)
    | (refine ⟨?_,rfl⟩
       show TV.agg [eI w.Plan.Clients,fAs w.Plan.Acts,fI w.Plan.Gives,fI w.Plan.Start,.sl 60 ((w.Sites.map eS).set n.toNat (eS { (w.Sites.getD n.toNat Site.nil) with Up:=up })),eB w.Clerk.Up,eI w.Clerk.Round,fI w.Clerk.Base,fDs w.Clerk.Done,fCs w.Clerk.Wants,fGs w.Clerk.Got,sXs w.Clients,sMs w.Net,sOs w.Log]=_
       rw [yv])
    | trace_state
end Cc
end
section
namespace Cc
open Go Go.AM
set_option maxRecDepth 100000
set_option maxHeartbeats 8000000
theorem ku (l:List Client) (k:Nat) (x:Client):(l.map eX).set k (eX x)=(l.set k x).map eX:=List.map_set.symm
theorem xm8 (w:World) (n act:Int) (args:List Int) (hcl:inB w.Plan.Clients 0 4=true) (hx:w.Clients.length≤4) (hl:w.Log.length≤100) (hs:∀ x∈w.Clients,0≤x.Seq∧x.Seq≤300) (ha:args.length≤1000000) :
 Sem P 206 [(.own,.agg (oWd w)),(.pure,I n),(.pure,I act),(.pure,AI args)] [] (.agg (oWd (doCall w n act args))):=by
 have lx:(w.Clients.map eX).length=w.Clients.length:=List.length_map ..
 have ll:(w.Log.map eO).length=w.Log.length:=List.length_map ..
 have la:=xe args
 have hbz:busy w≤w.Clients.length:=List.countP_le_length
 cases h:inB n 0 (w.Clients.length - 1) with
 | false =>
   have e:doCall w n act args=w:=by unfold doCall; rw [h]; rfl
   rw [e]
   refine xd (E:=E0) xb xc (fn:=Go.Proofs.Tryz.f206) (by kernel_rfl) (by kernel_rfl) (fun hb=>?_)
   conv=>whnf
   repeat' first|((first|refine sN ?_|refine dC ?_|(refine dZ ?_;refine dI ?_)|refine vM ?_|refine vD ?_|refine mS ?_|(refine xa ?_ ?_<;>intro _)|refine ⟨_,xl _ _ _,?_⟩|refine ⟨_,xef w,?_⟩|refine w64 (by omega) (by omega) ?_)<;>conv=>whnf)
   all_goals first
    | exact ⟨rfl,rfl⟩
    | (exfalso; simp_all; done)
    | trace_state
 | true =>
   have hn:=xf.1 h
   have hsq:=hs (w.Clients.getD n.toNat Client.nil) (xx (by omega))
   have hC:=ze w.Plan ⟨n,(w.Clients.getD n.toNat Client.nil).Seq+1,act,args⟩ hcl
   have e:doCall w n act args=if !(w.Clients.getD n.toNat Client.nil).Busy && callB w.Plan ⟨n,(w.Clients.getD n.toNat Client.nil).Seq+1,act,args⟩ && decide (w.Log.length+1+busy w≤100) then { w with Clients:=w.Clients.set n.toNat { (w.Clients.getD n.toNat Client.nil) with Busy:=true,Call:=⟨n,(w.Clients.getD n.toNat Client.nil).Seq+1,act,args⟩ } } else w:=by unfold doCall; rw [h]; rfl
   by_cases hc:(!(w.Clients.getD n.toNat Client.nil).Busy && callB w.Plan ⟨n,(w.Clients.getD n.toNat Client.nil).Seq+1,act,args⟩ && decide (w.Log.length+1+busy w≤100))=true
   · rw [if_pos hc] at e
     rw [e]
     refine xd (E:={ E0 with fz:=[(5,[256704])] }) xb xc (fn:=Go.Proofs.Tryz.f206) (by kernel_rfl) (by kernel_rfl) (fun hb=>?_)
     conv=>whnf
     repeat' first|((first|refine sN ?_|refine dC ?_|(refine dZ ?_;refine dI ?_)|refine vM ?_|refine vD ?_|refine mS ?_|(refine xa ?_ ?_<;>intro _)|refine ⟨_,xl _ _ _,?_⟩|refine ⟨_,xef w,?_⟩|refine ⟨_,hC,?_⟩|refine w64 (by omega) (by omega) ?_)<;>conv=>whnf)|(refine ioN (by omega) (by first|omega|(rw [List.length_set]; omega)) ?_;conv=>whnf)|((first|refine rwC (List.getElem?_set_self (by omega)) ?_|refine rwN (enc:=eX) Client.nil (by omega) ?_|refine apI ?_)<;>conv=>whnf)|(refine apN (by simp only [List.length_nil]; omega) ?_;conv=>whnf)
     all_goals first
      | (exfalso; clear hC hb e; simp_all; done)
      | (exfalso; clear hC hb e; simp only [Bool.and_eq_true,decide_eq_true_eq] at *; omega)
      | (refine ⟨?_,rfl⟩
         show TV.agg [eI w.Plan.Clients,fAs w.Plan.Acts,fI w.Plan.Gives,fI w.Plan.Start,sSs w.Sites,eB w.Clerk.Up,eI w.Clerk.Round,fI w.Clerk.Base,fDs w.Clerk.Done,fCs w.Clerk.Wants,fGs w.Clerk.Got,.sl 163 (((w.Clients.map eX).set n.toNat _).set n.toNat (eX { (w.Clients.getD n.toNat Client.nil) with Busy:=true,Call:=⟨n,(w.Clients.getD n.toNat Client.nil).Seq+1,act,args⟩ })),sMs w.Net,sOs w.Log]=_
         rw [List.set_set,ku])
      | trace_state
   · rw [if_neg hc] at e
     rw [e]
     refine xd (E:={ E0 with fz:=[(5,[256704])] }) xb xc (fn:=Go.Proofs.Tryz.f206) (by kernel_rfl) (by kernel_rfl) (fun hb=>?_)
     conv=>whnf
     repeat' first|((first|refine sN ?_|refine dC ?_|(refine dZ ?_;refine dI ?_)|refine vM ?_|refine vD ?_|refine mS ?_|(refine xa ?_ ?_<;>intro _)|refine ⟨_,xl _ _ _,?_⟩|refine ⟨_,xef w,?_⟩|refine ⟨_,hC,?_⟩|refine w64 (by omega) (by omega) ?_)<;>conv=>whnf)|(refine ioN (by omega) (by first|omega|(rw [List.length_set]; omega)) ?_;conv=>whnf)|((first|refine rwC (List.getElem?_set_self (by omega)) ?_|refine rwN (enc:=eX) Client.nil (by omega) ?_|refine apI ?_)<;>conv=>whnf)|(refine apN (by simp only [List.length_nil]; omega) ?_;conv=>whnf)
     all_goals first
      | exact ⟨rfl,rfl⟩
      | (exfalso; clear hC hb e; simp_all; done)
      | (exfalso; clear hC hb e; refine hc ?_; simp_all; omega)
      | trace_state
end Cc
end
section
namespace Cc
open Go Go.AM
set_option maxRecDepth 100000
set_option maxHeartbeats 16000000
abbrev xWd (p:Plan) (rows:List (List AV)) (k:Clerk) (xs:List Client) (net:List Msg) (log:List LogD):List AV:=[eI p.Clients,fAs p.Acts,fI p.Gives,fI p.Start,.sl 60 rows,eB k.Up,eI k.Round,fI k.Base,fDs k.Done,fCs k.Wants,fGs k.Got,sXs xs,sMs net,sOs log]
theorem xc0 (p:Plan) (ss:List Site) {rows:List (List AV)} (hr:rows=ss.map eS) (k:Clerk) (xs:List Client) (net:List Msg) (log:List LogD) (l:List Msg) (hl:l.length≤1000) (hn:net.length≤1000) (hz:∀ m∈l,zM m≤1000000):Sem P 210 [(.own,.agg (xWd p rows k xs net log)),(.pure,.one (sMs l))] [] (.agg (xWd p rows k xs (send net l) log)):=by
 subst hr; exact xeh ⟨p,ss,k,xs,net,log⟩ l hl hn hz
theorem xfh (p:Plan) (ss:List Site) {rows:List (List AV)} (hr:rows=ss.map eS) (k:Clerk) (xs:List Client) (net:List Msg) (log:List LogD) (c:Call) (r:Rslt) (hc:c.Args.length≤1000000) (hr':r.Tells.length≤1000000):Sem P 260 [(.own,.agg (xWd p rows k xs net log)),(.pure,.agg (aC c)),(.pure,.agg (aR r))] [] (.agg (xWd p rows k xs net (write log [⟨c,r⟩]))):=by
 subst hr; exact xqb ⟨p,ss,k,xs,net,log⟩ c r hc hr'
theorem xm9 (p:Plan) (s:Site) (n:Int) (c:Call):(siteTry p s n c).2.2.length≤1:=by
 unfold siteTry
 simp only
 split
 · simp
 · split
   · simp
   · split<;>simp
theorem xqc {w:World} (hw:WorldF w) {n:Int} (h0:0≤n) (h1:n<w.Clients.length):clientB w.Plan n (w.Clients.getD n.toNat Client.nil)=true:=by
 have:=zi.1 hw.c n.toNat (by omega)
 rw [Int.toNat_of_nonneg h0] at this; exact this
theorem xfw {w:World} (hw:WorldF w) {n:Int} (h0:0≤n) (h1:n<w.Sites.length):siteB w.Plan (w.Sites.getD n.toNat Site.nil) n=true:=by
 have:=zi.1 hw.s n.toNat (by omega)
 rw [Int.toNat_of_nonneg h0] at this; exact this
theorem w6 {p:Plan} {s:Site} {n:Int} (h:siteB p s n=true):(s.Done.length:Int)=p.Clients:=by
 have hd:=(siteE h).2.2.2
 unfold doneOk at hd; simp only [Bool.and_eq_true,decide_eq_true_eq] at hd; exact hd.1
theorem xg4 (w:World) (n:Int) (deaf:Bool) (hw:WorldF w):Sem P 207 [(.own,.agg (oWd w)),(.pure,.one (sPs (partsOf w.Plan.Acts))),(.pure,.one (sBs (pinsOf w.Plan.Acts))),(.pure,I n),(.pure,B deaf)] [] (.agg (oWd (doTry w n deaf))):=by
 have hF:=hw.p
 have hp:=hF.ok
 have hcl:=xu hp
 have hcl4:=xf.1 hcl
 have g1:=hF.g1
 have g3:=yp hp
 have lg:=xe w.Plan.Gives
 have lx:(w.Clients.map eX).length=w.Clients.length:=List.length_map ..
 have ls:(w.Sites.map eS).length=w.Sites.length:=List.length_map ..
 have hsl:=hw.sl
 have hxl:=hw.cl
 have hnl:=hw.nl
 cases h:inB n 0 (w.Clients.length - 1) with
 | false =>
   have e:doTry w n deaf=w:=by unfold doTry; rw [h]; rfl
   rw [e]
   refine xd (E:=E0) xb xc (fn:=Go.Proofs.Tryz.f207) (by kernel_rfl) (by kernel_rfl) (fun hb=>?_)
   conv=>whnf
   repeat' first|((first|refine sN ?_|refine dC ?_|(refine dZ ?_;refine dI ?_)|refine vM ?_|refine vD ?_|refine mS ?_|(refine xa ?_ ?_<;>intro _)|refine ⟨_,xl _ _ _,?_⟩|refine w64 (by omega) (by omega) ?_)<;>conv=>whnf)
   all_goals first
    | exact ⟨rfl,rfl⟩
    | (exfalso; simp_all; done)
    | trace_state
 | true =>
   have hn:=xf.1 h
   cases hbz:(w.Clients.getD n.toNat Client.nil).Busy with
   | false =>
     have e:doTry w n deaf=w:=by unfold doTry; rw [h,hbz]; rfl
     rw [e]
     refine xd (E:=E0) xb xc (fn:=Go.Proofs.Tryz.f207) (by kernel_rfl) (by kernel_rfl) (fun hb=>?_)
     conv=>whnf
     repeat' first|((first|refine sN ?_|refine dC ?_|(refine dZ ?_;refine dI ?_)|refine vM ?_|refine vD ?_|refine mS ?_|(refine xa ?_ ?_<;>intro _)|refine ⟨_,xl _ _ _,?_⟩|refine w64 (by omega) (by omega) ?_|refine ioN (by omega) (by omega) ?_|refine rwN (enc:=eX) Client.nil (by omega) ?_)<;>conv=>whnf)
     all_goals first
      | exact ⟨rfl,rfl⟩
      | (exfalso; clear hb; simp_all; done)
      | trace_state
   | true =>
     have hcb:=xqc hw hn.1 (by omega)
     have hm0:0≤n % (ints w.Plan.Gives).length:=Int.emod_nonneg _ (by omega)
     have hm1:n % (ints w.Plan.Gives).length<(ints w.Plan.Gives).length:=Int.emod_lt_of_pos _ (by omega)
     have hs:=xfw hw hm0 (by omega)
     have hdc:=w6 hs
     generalize hcc:(w.Clients.getD n.toNat Client.nil)=x0 at *
     have hxk:(w.Clients.map eX)[n.toNat]?=some (eX x0):=by rw [List.getElem?_map,← hcc,List.getD_eq_getElem?_getD,List.getElem?_eq_getElem (by omega)]; rfl
     have hcall:callB w.Plan x0.Call=true:=by
      unfold clientB at hcb
      rw [hbz,if_pos rfl] at hcb
      simp only [Bool.and_eq_true] at hcb
      exact hcb.2.1.1
     have hT:=xs5 w.Plan (w.Sites.getD (n % (ints w.Plan.Gives).length).toNat Site.nil) (n % (ints w.Plan.Gives).length) x0.Call hp hs hcall
     obtain ⟨k1,k2,k3,k4⟩:=xgw hF hs hcall
     have k5:=xm9 w.Plan (w.Sites.getD (n % (ints w.Plan.Gives).length).toNat Site.nil) (n % (ints w.Plan.Gives).length) x0.Call
     have e:doTry w n deaf={ w with
      Sites:=w.Sites.set (n % (ints w.Plan.Gives).length).toNat (siteTry w.Plan (w.Sites.getD (n % (ints w.Plan.Gives).length).toNat Site.nil) (n % (ints w.Plan.Gives).length) x0.Call).1
      Net:=send w.Net (siteTry w.Plan (w.Sites.getD (n % (ints w.Plan.Gives).length).toNat Site.nil) (n % (ints w.Plan.Gives).length) x0.Call).2.2
      Log:=if ((siteTry w.Plan (w.Sites.getD (n % (ints w.Plan.Gives).length).toNat Site.nil) (n % (ints w.Plan.Gives).length) x0.Call).1.Done.getD n.toNat Done.nil).Seq>((w.Sites.getD (n % (ints w.Plan.Gives).length).toNat Site.nil).Done.getD n.toNat Done.nil).Seq then write w.Log [⟨x0.Call,(siteTry w.Plan (w.Sites.getD (n % (ints w.Plan.Gives).length).toNat Site.nil) (n % (ints w.Plan.Gives).length) x0.Call).2.1⟩] else w.Log
      Clients:=if (siteTry w.Plan (w.Sites.getD (n % (ints w.Plan.Gives).length).toNat Site.nil) (n % (ints w.Plan.Gives).length) x0.Call).2.1.Code≠0∧deaf=false then w.Clients.set n.toNat ⟨x0.Call.Seq,false,Call.nil,(siteTry w.Plan (w.Sites.getD (n % (ints w.Plan.Gives).length).toNat Site.nil) (n % (ints w.Plan.Gives).length) x0.Call).2.1⟩ else w.Clients }:=by
      subst hcc
      rw [lg]
      unfold doTry; rw [h,hbz]; rfl
     rw [e]
     clear e
     generalize siteTry w.Plan (w.Sites.getD (n % (ints w.Plan.Gives).length).toNat Site.nil) (n % (ints w.Plan.Gives).length) x0.Call=y at *
     obtain ⟨s',r,out⟩:=y
     simp only at k1 k2 k3 k4 k5
     replace hT:Sem P 87 _ [] (.tup [(true,eS s'),(true,eR r),(false,[fMs out])]):=hT
     have hdc':=w6 k1
     have lds:((w.Sites.getD (n % (ints w.Plan.Gives).length).toNat Site.nil).Done.map eD).length=(w.Sites.getD (n % (ints w.Plan.Gives).length).toNat Site.nil).Done.length:=List.length_map ..
     have lds':(s'.Done.map eD).length=s'.Done.length:=List.length_map ..
     have ht6:r.Tells.length≤6:=by
      by_cases h0:r.Code=0
      · rw [(k4 h0).1]; simp [Rslt.nil]
      · exact (yj.1 (k3 h0)).2.2.1
     have hS:=xc0 w.Plan _ (yv w.Sites (n % (ints w.Plan.Gives).length).toNat s') w.Clerk w.Clients w.Net w.Log out (by omega) (by omega) (fun m hm=>by have:=jn hcl (k2 m hm); omega)
     have hW:=xfh w.Plan _ (yv w.Sites (n % (ints w.Plan.Gives).length).toNat s') w.Clerk w.Clients (send w.Net out) w.Log x0.Call r (by have:=kd hcall; omega) (by omega)
     have hR:=yg r (by omega)
     by_cases hq:(s'.Done.getD n.toNat Done.nil).Seq>((w.Sites.getD (n % (ints w.Plan.Gives).length).toNat Site.nil).Done.getD n.toNat Done.nil).Seq
     · rw [if_pos hq]
       by_cases hr:r.Code≠0∧deaf=false
       · rw [if_pos hr]
         refine xd (E:={ E0 with keep:=[9002,11003] }) xb xc (fn:=Go.Proofs.Tryz.f207) (by kernel_rfl) (by kernel_rfl) (fun hb=>?_)
         conv=>whnf
         repeat' first|((first|refine sN ?_|refine dC ?_|(refine dZ ?_;refine dI ?_)|refine vM ?_|refine vD ?_|refine mS ?_|(refine xa ?_ ?_<;>intro _)|refine ⟨_,xl _ _ _,?_⟩|refine w64 (by omega) (by omega) ?_|refine r64 (by omega) (by omega) ?_|refine ioN (by omega) (by omega) ?_)<;>conv=>whnf)|(refine ioN (by omega) (by rw [List.length_set]; omega) ?_;conv=>whnf)|((first|refine rwC hxk ?_|refine rwN (enc:=eS) Site.nil (by omega) ?_|refine ixI (enc:=eD) Done.nil (by omega) (by omega) ?_|refine ⟨_,hT,?_⟩|refine ⟨_,hS,?_⟩|refine ⟨_,hW,?_⟩|refine ⟨_,hR,?_⟩)<;>conv=>whnf)
         all_goals first
          | (exfalso; clear hb hT hS hW hR k1 k2 k3 k4 k5; simp_all; done)
          | (exfalso; clear hb hT hS hW hR k1 k2 k3 k4 k5; simp_all; omega)
          | (refine ⟨?_,rfl⟩
             show TV.agg [eI w.Plan.Clients,fAs w.Plan.Acts,fI w.Plan.Gives,fI w.Plan.Start,.sl 60 ((w.Sites.map eS).set _ (eS s')),eB w.Clerk.Up,eI w.Clerk.Round,fI w.Clerk.Base,fDs w.Clerk.Done,fCs w.Clerk.Wants,fGs w.Clerk.Got,.sl 163 ((w.Clients.map eX).set n.toNat (eX ⟨x0.Call.Seq,false,Call.nil,r⟩)),_,_]=_
             rw [yv,ku]
             done)
          | (refine ⟨?_,rfl⟩
             show TV.agg [eI w.Plan.Clients,fAs w.Plan.Acts,fI w.Plan.Gives,fI w.Plan.Start,.sl 60 ((w.Sites.map eS).set _ (eS s')),eB w.Clerk.Up,eI w.Clerk.Round,fI w.Clerk.Base,fDs w.Clerk.Done,fCs w.Clerk.Wants,fGs w.Clerk.Got,sXs w.Clients,_,_]=_
             rw [yv]
             done)
          | trace_state
       · rw [if_neg hr]
         refine xd (E:={ E0 with keep:=[9002,11003] }) xb xc (fn:=Go.Proofs.Tryz.f207) (by kernel_rfl) (by kernel_rfl) (fun hb=>?_)
         conv=>whnf
         repeat' first|((first|refine sN ?_|refine dC ?_|(refine dZ ?_;refine dI ?_)|refine vM ?_|refine vD ?_|refine mS ?_|(refine xa ?_ ?_<;>intro _)|refine ⟨_,xl _ _ _,?_⟩|refine w64 (by omega) (by omega) ?_|refine r64 (by omega) (by omega) ?_|refine ioN (by omega) (by omega) ?_)<;>conv=>whnf)|(refine ioN (by omega) (by rw [List.length_set]; omega) ?_;conv=>whnf)|((first|refine rwC hxk ?_|refine rwN (enc:=eS) Site.nil (by omega) ?_|refine ixI (enc:=eD) Done.nil (by omega) (by omega) ?_|refine ⟨_,hT,?_⟩|refine ⟨_,hS,?_⟩|refine ⟨_,hW,?_⟩|refine ⟨_,hR,?_⟩)<;>conv=>whnf)
         all_goals first
          | (exfalso; clear hb hT hS hW hR k1 k2 k3 k4 k5; simp_all; done)
          | (exfalso; clear hb hT hS hW hR k1 k2 k3 k4 k5; simp_all; omega)
          | (refine ⟨?_,rfl⟩
             show TV.agg [eI w.Plan.Clients,fAs w.Plan.Acts,fI w.Plan.Gives,fI w.Plan.Start,.sl 60 ((w.Sites.map eS).set _ (eS s')),eB w.Clerk.Up,eI w.Clerk.Round,fI w.Clerk.Base,fDs w.Clerk.Done,fCs w.Clerk.Wants,fGs w.Clerk.Got,.sl 163 ((w.Clients.map eX).set n.toNat (eX ⟨x0.Call.Seq,false,Call.nil,r⟩)),_,_]=_
             rw [yv,ku]
             done)
          | (refine ⟨?_,rfl⟩
             show TV.agg [eI w.Plan.Clients,fAs w.Plan.Acts,fI w.Plan.Gives,fI w.Plan.Start,.sl 60 ((w.Sites.map eS).set _ (eS s')),eB w.Clerk.Up,eI w.Clerk.Round,fI w.Clerk.Base,fDs w.Clerk.Done,fCs w.Clerk.Wants,fGs w.Clerk.Got,sXs w.Clients,_,_]=_
             rw [yv]
             done)
          | trace_state
     · rw [if_neg hq]
       by_cases hr:r.Code≠0∧deaf=false
       · rw [if_pos hr]
         refine xd (E:={ E0 with keep:=[9002,11003] }) xb xc (fn:=Go.Proofs.Tryz.f207) (by kernel_rfl) (by kernel_rfl) (fun hb=>?_)
         conv=>whnf
         repeat' first|((first|refine sN ?_|refine dC ?_|(refine dZ ?_;refine dI ?_)|refine vM ?_|refine vD ?_|refine mS ?_|(refine xa ?_ ?_<;>intro _)|refine ⟨_,xl _ _ _,?_⟩|refine w64 (by omega) (by omega) ?_|refine r64 (by omega) (by omega) ?_|refine ioN (by omega) (by omega) ?_)<;>conv=>whnf)|(refine ioN (by omega) (by rw [List.length_set]; omega) ?_;conv=>whnf)|((first|refine rwC hxk ?_|refine rwN (enc:=eS) Site.nil (by omega) ?_|refine ixI (enc:=eD) Done.nil (by omega) (by omega) ?_|refine ⟨_,hT,?_⟩|refine ⟨_,hS,?_⟩|refine ⟨_,hW,?_⟩|refine ⟨_,hR,?_⟩)<;>conv=>whnf)
         all_goals first
          | (exfalso; clear hb hT hS hW hR k1 k2 k3 k4 k5; simp_all; done)
          | (exfalso; clear hb hT hS hW hR k1 k2 k3 k4 k5; simp_all; omega)
          | (refine ⟨?_,rfl⟩
             show TV.agg [eI w.Plan.Clients,fAs w.Plan.Acts,fI w.Plan.Gives,fI w.Plan.Start,.sl 60 ((w.Sites.map eS).set _ (eS s')),eB w.Clerk.Up,eI w.Clerk.Round,fI w.Clerk.Base,fDs w.Clerk.Done,fCs w.Clerk.Wants,fGs w.Clerk.Got,.sl 163 ((w.Clients.map eX).set n.toNat (eX ⟨x0.Call.Seq,false,Call.nil,r⟩)),_,_]=_
             rw [yv,ku]
             done)
          | (refine ⟨?_,rfl⟩
             show TV.agg [eI w.Plan.Clients,fAs w.Plan.Acts,fI w.Plan.Gives,fI w.Plan.Start,.sl 60 ((w.Sites.map eS).set _ (eS s')),eB w.Clerk.Up,eI w.Clerk.Round,fI w.Clerk.Base,fDs w.Clerk.Done,fCs w.Clerk.Wants,fGs w.Clerk.Got,sXs w.Clients,_,_]=_
             rw [yv]
             done)
          | trace_state
       · rw [if_neg hr]
         refine xd (E:={ E0 with keep:=[9002,11003] }) xb xc (fn:=Go.Proofs.Tryz.f207) (by kernel_rfl) (by kernel_rfl) (fun hb=>?_)
         conv=>whnf
         repeat' first|((first|refine sN ?_|refine dC ?_|(refine dZ ?_;refine dI ?_)|refine vM ?_|refine vD ?_|refine mS ?_|(refine xa ?_ ?_<;>intro _)|refine ⟨_,xl _ _ _,?_⟩|refine w64 (by omega) (by omega) ?_|refine r64 (by omega) (by omega) ?_|refine ioN (by omega) (by omega) ?_)<;>conv=>whnf)|(refine ioN (by omega) (by rw [List.length_set]; omega) ?_;conv=>whnf)|((first|refine rwC hxk ?_|refine rwN (enc:=eS) Site.nil (by omega) ?_|refine ixI (enc:=eD) Done.nil (by omega) (by omega) ?_|refine ⟨_,hT,?_⟩|refine ⟨_,hS,?_⟩|refine ⟨_,hW,?_⟩|refine ⟨_,hR,?_⟩)<;>conv=>whnf)
         all_goals first
          | (exfalso; clear hb hT hS hW hR k1 k2 k3 k4 k5; simp_all; done)
          | (exfalso; clear hb hT hS hW hR k1 k2 k3 k4 k5; simp_all; omega)
          | (refine ⟨?_,rfl⟩
             show TV.agg [eI w.Plan.Clients,fAs w.Plan.Acts,fI w.Plan.Gives,fI w.Plan.Start,.sl 60 ((w.Sites.map eS).set _ (eS s')),eB w.Clerk.Up,eI w.Clerk.Round,fI w.Clerk.Base,fDs w.Clerk.Done,fCs w.Clerk.Wants,fGs w.Clerk.Got,.sl 163 ((w.Clients.map eX).set n.toNat (eX ⟨x0.Call.Seq,false,Call.nil,r⟩)),_,_]=_
             rw [yv,ku]
             done)
          | (refine ⟨?_,rfl⟩
             show TV.agg [eI w.Plan.Clients,fAs w.Plan.Acts,fI w.Plan.Gives,fI w.Plan.Start,.sl 60 ((w.Sites.map eS).set _ (eS s')),eB w.Clerk.Up,eI w.Clerk.Round,fI w.Clerk.Base,fDs w.Clerk.Done,fCs w.Clerk.Wants,fGs w.Clerk.Got,sXs w.Clients,_,_]=_
             rw [yv]
             done)
          | trace_state
end Cc
end
section
namespace Cc
open Go Go.AM
set_option maxRecDepth 100000
set_option maxHeartbeats 16000000
theorem xll {p:Plan} (h:planOk p=true):planS p:=by
 obtain ⟨h1,h2,h3,h4⟩:=xal h
 unfold planS; omega
theorem ixS {w:World} (hw:WorldF w) {i:Int} {k:List AV→Prop} (h0:0≤i) (h:i<w.Sites.length) (hk:∀ s,siteB w.Plan s i=true→k (eS s)):0≤i∧∃ row,(w.Sites.map eS)[i.toNat]?=some row∧k row:=ixI Site.nil h0 h (hk _ (xfw hw h0 h))
theorem xbd {p:Plan} {s:Site} {n:Int} (hcl:inB p.Clients 0 4=true) (h:siteB p s n=true):(0≤s.Round∧s.Round≤200)∧s.Added.length=3∧s.Done.length≤4∧zDs s.Done≤100:=by
 obtain ⟨h1,h2,h3,h4⟩:=siteE h
 have:=yy hcl h4
 exact ⟨h1,(xt h3).1,this.1,this.2⟩
end Cc
end
section
namespace Cc
open Go Go.AM
set_option maxRecDepth 100000
set_option maxHeartbeats 16000000
theorem xlm:∀ l:List (List AV),Rowz l l
 | []=>.nil
 | r::l=>.cons rfl (fun k a b ha hb=>by rw [ha] at hb; cases hb; exact Imp.rfl) (xlm l)
theorem xfx (l:List Got):Rowz (l.map aG) (l.map eG):=Rowz.map (e:=aG) (e':=eG) (fun _=>rfl) (fun x k a b ha hb=>by
 match k,ha,hb with
 | 0,ha,hb=>cases ha; cases hb; exact Imp.rfl
 | 1,ha,hb=>cases ha; cases hb; exact q9 Imp.rfl
 | 2,ha,hb=>cases ha; cases hb; exact q9 Imp.rfl
 | k+3,ha,hb=>simp at ha) l
theorem xqd {l:List Got}:Cold (.sl 105 (l.map aG++[[eB false,.fr [] 3 [],.fr [] 3 []]])) (fGs (l++[Got.nil])):=by
 have e:(l++[Got.nil]).map eG=l.map eG++[[eB false,.fr [] 3 [],.fr [] 3 []]]:=by simp [Got.nil]
 unfold fGs
 rw [e]
 exact xed (Rowz.app (xfx l) (xlm _))
theorem xta {l:List Got} {b:Bool} {x:List Int} {i n:Nat}:Cold (.sl 105 ((l.map aG).set i [eB b,fI x,.sl 3 (List.replicate n [AV.prim (Value.int .i64 0)])])) (fGs (l.set i ⟨b,x,List.replicate n 0⟩)):=by
 have e:(l.set i ⟨b,x,List.replicate n 0⟩).map eG=(l.map eG).set i [eB b,fI x,fI (List.replicate n 0)]:=List.map_set
 have e2:List.replicate n [AV.prim (Value.int .i64 0)]=ints (List.replicate n 0):=by rw [ints,List.map_replicate]
 unfold fGs
 rw [e,e2]
 refine xed (Rowz.set (r:=[eB b,fI x,sI (List.replicate n 0)]) (r':=[eB b,fI x,fI (List.replicate n 0)]) (xfx l) rfl (fun k a b ha hb=>?_) i)
 match k,ha,hb with
 | 0,ha,hb=>cases ha; cases hb; exact Imp.rfl
 | 1,ha,hb=>cases ha; cases hb; exact Imp.rfl
 | 2,ha,hb=>cases ha; cases hb; exact q9 Imp.rfl
 | k+3,ha,hb=>simp at ha
theorem xtb {l:List Call} {x:Call}:Cold (.sl 50 (l.map eC++[eC x])) (fCs (l++[x])):=by
 have e:=jl l x
 unfold fCs
 rw [← e]; exact xj
theorem drClk {a m:Int} {bs:List UInt8} {cs:List AV} {os:List TV} {u:Bool} {r:Int} {b:List Int} {dn:List Done} {ws:List Call} {gs:List Got} {a':Int} (e2:os=[.agg (aRd bs a')]) (hb:a≤a'∧a'≤a+m) (h:Colds cs [eB u,eI r,fI b,fDs dn,fCs ws,fGs gs]) :
 ∃ (c:Clerk) (cs':List AV) (a':Int),(a≤a'∧a'≤a+m)∧Colds cs' (eK c)∧TV.agg cs=.agg cs'∧os=[.agg (aRd bs a')]:=⟨⟨u,r,b,dn,ws,gs⟩,cs,a',hb,h,rfl,e2⟩
theorem xjb (bs:List UInt8) (a:Int) (w:World) (c:Clerk) (hw:WorldF w) (hz:zK c≤10000) (ha:0≤a∧a≤4000000000) (hbs:bs.length≤2000) :
 ∃ os res,(∃ (c':Clerk) (a':Int),(a≤a'∧a'≤a+50)∧res=.agg (eK c')∧os=aRd bs a')∧Sem P 122 [(.io 0 0,.agg (aRd bs a)),(.pure,.agg (aWd w)),(.pure,.agg (aK c))] [.agg os] res:=by
 have key:∃ res outs,(∃ (c':Clerk) (cs':List AV) (a':Int),(a≤a'∧a'≤a+50)∧Colds cs' (eK c')∧res=.agg cs'∧outs=[.agg (aRd bs a')])∧Sem P 122 [(.io 0 0,.agg (aRd bs a)),(.pure,.agg (aWd w)),(.pure,.agg (aK c))] outs res:=by
  have hps:=xll hw.p.ok
  have hcl:=hw.p.cl
  have hcp:=zh c (by omega)
  have hzl:c.Done.length≤10000∧c.Wants.length≤10000∧c.Got.length≤10000:=by unfold zK zDs zCs zGs at hz; omega
  have ld:(c.Done.map eD).length=c.Done.length:=List.length_map ..
  have lw:(c.Wants.map eC).length=c.Wants.length:=List.length_map ..
  have lg:(c.Got.map aG).length=c.Got.length:=List.length_map ..
  refine x6 (E:={ E0 with keep:=[2001] }) xb xc (fn:=Go.Proofs.Tryz.f122) (by kernel_rfl) (by kernel_rfl) ?_
  conv=>whnf
  repeat' first|((first|refine sN ?_|refine dC ?_|(refine dZ ?_;refine dI ?_)|refine vM ?_|refine vD ?_|refine mS ?_|(refine xa ?_ ?_<;>intro _)|refine ⟨_,hcp,?_⟩)<;>conv=>whnf)|(refine callIo (xk bs _ _ (by omega) (by omega) hbs) ?_; rintro _ _ ⟨n,hn,rfl,rfl⟩;conv=>whnf)|(refine callIo (xd1 bs _ _ w.Plan hps (by omega) (by omega) hbs) ?_; rintro _ _ ⟨x,b,hb,hc,rfl,rfl⟩;conv=>whnf)|(refine callIo (xp9 bs _ _ (by omega) (by omega) hbs) ?_; rintro _ _ ⟨l,b,hb,rfl,rfl⟩;conv=>whnf)|(refine callIo (xs7 bs _ _ (by omega) (by omega) hbs) ?_; rintro _ _ ⟨l,b,hb,rfl,rfl⟩;conv=>whnf)|(refine callIo (xk bs _ _ (by omega) (by omega) hbs) ?_; rintro _ _ ⟨n,hn,rfl,rfl⟩;conv=>whnf)|(refine ioN (by first|omega|(dsimp only; omega)|(simp<;>omega)|(simp_all<;>omega)) (by first|omega|(dsimp only; omega)|(simp<;>omega)|(simp_all<;>omega)) ?_;conv=>whnf)|(refine rwI rfl (by first|omega|(dsimp only; omega)|(simp<;>omega)|(simp_all<;>omega)) (by first|omega|(dsimp only; omega)|(simp<;>omega)|(simp_all<;>omega)) fun c hc=>?_;conv=>whnf)|(refine rwN (enc:=rI) 0 (by first|omega|(dsimp only; omega)|(simp<;>omega)|(simp_all<;>omega)) ?_;conv=>whnf)|(refine w64 (by first|omega|(dsimp only; omega)) (by first|omega|(dsimp only; omega)) ?_;conv=>whnf)|(refine apN (by simp; omega) ?_;conv=>whnf)|(refine rwN (enc:=aG) Got.nil (by first|omega|(simp only [decide_eq_true_eq] at *; omega)) ?_;conv=>whnf)
  all_goals first
   | (apply drClk
      · rfl
      · constructor<;>omega
      · repeat' first|exact Colds.nil|refine Colds.cons (by first|exact xo|exact xtb|exact xqd|exact xta|exact xeq _|exact xqa|exact xj|exact x7) ?_
      done)
   | trace_state
 obtain ⟨r,o,⟨x,cs',a',h1,h3,rfl,rfl⟩,h4⟩:=key
 exact ⟨_,_,⟨x,a',h1,rfl,rfl⟩,Sem.colds h3 h4⟩
end Cc
end
section
namespace Cc
open Go Go.AM
set_option maxRecDepth 100000
set_option maxHeartbeats 16000000
theorem xna (bs:List UInt8) (a:Int) (w:World) (hw:WorldF w) (h0:w.Net.length=0) (ha:0≤a∧a≤5000000000) (hbs:bs.length≤2000) :
 ∃ os res,(∃ (e:Event) (a':Int),(a≤a'∧a'≤a+30)∧e.Args.length≤3∧res=.agg (eE e)∧os=aRd bs a')∧Sem P 184 [(.io 0 0,.agg (aRd bs a)),(.pure,.agg (aWd w))] [.agg os] res:=by
 refine drEventEnd ?_
 obtain ⟨⟨s1,s2⟩,⟨c1,c2⟩,⟨p1,p2⟩,hn,hq⟩:=kl hw
 have ls:(w.Sites.map eS).length=w.Sites.length:=List.length_map ..
 have lx:(w.Clients.map eX).length=w.Clients.length:=List.length_map ..
 have la:(w.Plan.Acts.map eA).length=w.Plan.Acts.length:=List.length_map ..
 have lm:(w.Net.map eM).length=w.Net.length:=List.length_map ..
 refine xhm (E:=E0) xb xc (fn:=Go.Proofs.Tryz.f184) (by kernel_rfl) (by kernel_rfl) ?_
 conv=>whnf
 refine xa (fun g=>?_) (fun g=>?_)
 · exfalso; simp only [decide_eq_true_eq] at g; omega
 conv=>whnf
 all_goals
  refine callIo (xk bs _ 32 (by omega) (by decide) hbs) ?_
  rintro _ _ ⟨n,hn,rfl,rfl⟩
  have h32:n=0∨n=1∨n=2∨n=3∨n=4∨n=5∨n=6∨n=7∨n=8∨n=9∨n=10∨n=11∨n=12∨n=13∨n=14∨n=15∨n=16∨n=17∨n=18∨n=19∨n=20∨n=21∨n=22∨n=23∨n=24∨n=25∨n=26∨n=27∨n=28∨n=29∨n=30∨n=31:=by omega
  rcases h32 with rfl|rfl|rfl|rfl|rfl|rfl|rfl|rfl|rfl|rfl|rfl|rfl|rfl|rfl|rfl|rfl|rfl|rfl|rfl|rfl|rfl|rfl|rfl|rfl|rfl|rfl|rfl|rfl|rfl|rfl|rfl|rfl
 all_goals conv=>whnf
 all_goals
  repeat' first|((first|refine callIo (xk bs _ _ (by omega) (by omega) hbs) ?_|refine callIo (xk bs _ 2 (by omega) (by decide) hbs) ?_); rintro _ _ ⟨n,hn,rfl,rfl⟩;conv=>whnf)|(refine callIo (xa5 bs _ _ (by omega) (by decide) hbs) ?_; rintro _ _ ⟨l,b'',hb'',hl,rfl,rfl⟩;conv=>whnf)|(refine w64 (by omega) (by omega) ?_;conv=>whnf)
  first
   | (refine drEv0 rfl ⟨?_,?_⟩<;>omega)
   | (refine drEv1 hl rfl ⟨?_,?_⟩<;>omega)
   | trace_state
end Cc
end
section
namespace Cc
open Go Go.AM
set_option maxRecDepth 100000
set_option maxHeartbeats 16000000
theorem xnb (bs:List UInt8) (a:Int) (w:World) (hw:WorldF w) (h0:0<w.Net.length) (ha:0≤a∧a≤5000000000) (hbs:bs.length≤2000) :
 ∃ os res,(∃ (e:Event) (a':Int),(a≤a'∧a'≤a+30)∧e.Args.length≤3∧res=.agg (eE e)∧os=aRd bs a')∧Sem P 184 [(.io 0 0,.agg (aRd bs a)),(.pure,.agg (aWd w))] [.agg os] res:=by
 refine drEventEnd ?_
 obtain ⟨⟨s1,s2⟩,⟨c1,c2⟩,⟨p1,p2⟩,hn,hq⟩:=kl hw
 have ls:(w.Sites.map eS).length=w.Sites.length:=List.length_map ..
 have lx:(w.Clients.map eX).length=w.Clients.length:=List.length_map ..
 have la:(w.Plan.Acts.map eA).length=w.Plan.Acts.length:=List.length_map ..
 have lm:(w.Net.map eM).length=w.Net.length:=List.length_map ..
 refine xhm (E:=E0) xb xc (fn:=Go.Proofs.Tryz.f184) (by kernel_rfl) (by kernel_rfl) ?_
 conv=>whnf
 refine xa (fun g=>?_) (fun g=>?_)
 rotate_left
 · exfalso; simp only [decide_eq_false_iff_not] at g; omega
 conv=>whnf
 refine callIo (xk bs _ 3 (by omega) (by decide) hbs) ?_
 rintro _ _ ⟨q,hqq,rfl,rfl⟩
 conv=>whnf
 refine xa (fun g1=>?_) (fun g1=>?_)
 all_goals conv=>whnf
 refine callIo (xk bs _ ((w.Net.map eM).length:Int) (by omega) (by omega) hbs) ?_
 rintro _ _ ⟨z,hzz,rfl,rfl⟩
 conv=>whnf
 all_goals
  refine callIo (xk bs _ 32 (by omega) (by decide) hbs) ?_
  rintro _ _ ⟨n,hn,rfl,rfl⟩
  have h32:n=0∨n=1∨n=2∨n=3∨n=4∨n=5∨n=6∨n=7∨n=8∨n=9∨n=10∨n=11∨n=12∨n=13∨n=14∨n=15∨n=16∨n=17∨n=18∨n=19∨n=20∨n=21∨n=22∨n=23∨n=24∨n=25∨n=26∨n=27∨n=28∨n=29∨n=30∨n=31:=by omega
  rcases h32 with rfl|rfl|rfl|rfl|rfl|rfl|rfl|rfl|rfl|rfl|rfl|rfl|rfl|rfl|rfl|rfl|rfl|rfl|rfl|rfl|rfl|rfl|rfl|rfl|rfl|rfl|rfl|rfl|rfl|rfl|rfl|rfl
 all_goals conv=>whnf
 all_goals
  repeat' first|((first|refine callIo (xk bs _ _ (by omega) (by omega) hbs) ?_|refine callIo (xk bs _ 2 (by omega) (by decide) hbs) ?_); rintro _ _ ⟨n,hn,rfl,rfl⟩;conv=>whnf)|(refine callIo (xa5 bs _ _ (by omega) (by decide) hbs) ?_; rintro _ _ ⟨l,b'',hb'',hl,rfl,rfl⟩;conv=>whnf)|(refine w64 (by omega) (by omega) ?_;conv=>whnf)
  first
   | (refine drEv0 rfl ⟨?_,?_⟩<;>omega)
   | (refine drEv1 hl rfl ⟨?_,?_⟩<;>omega)
   | trace_state
end Cc
end
section
namespace Cc
open Go Go.AM
set_option maxRecDepth 100000
set_option maxHeartbeats 16000000
theorem xqe (bs:List UInt8) (a:Int) (w:World) (hw:WorldF w) (ha:0≤a∧a≤5000000000) (hbs:bs.length≤2000) :
 ∃ os res,(∃ (e:Event) (a':Int),(a≤a'∧a'≤a+30)∧e.Args.length≤3∧res=.agg (eE e)∧os=aRd bs a')∧Sem P 184 [(.io 0 0,.agg (aRd bs a)),(.pure,.agg (aWd w))] [.agg os] res:=by
 by_cases h0:w.Net.length=0
 · exact xna bs a w hw h0 ha hbs
 · exact xnb bs a w hw (by omega) ha hbs
end Cc
end
section
namespace Cc
open Go Go.AM
set_option maxRecDepth 100000
set_option maxHeartbeats 16000000
theorem xnc (bs:List UInt8) (a k:Int) (w:World) (hw:WorldF w) (ha:0≤a∧a≤5000000000) (hk:0≤k∧k≤1000000) (hbs:bs.length≤2000) :
 ∃ os res,(∃ (e:Event) (a':Int),(a≤a'∧a'≤a+30)∧e.Args.length≤3∧res=.agg (eE e)∧os=aRd bs a')∧Sem P 186 [(.io 0 0,.agg (aRd bs a)),(.pure,.agg (aWd w)),(.pure,I k)] [.agg os] res:=by
 refine drEventEnd ?_
 obtain ⟨⟨s1,s2⟩,⟨c1,c2⟩,⟨p1,p2⟩,hn,hq⟩:=kl hw
 have ls:(w.Sites.map eS).length=w.Sites.length:=List.length_map ..
 have lx:(w.Clients.map eX).length=w.Clients.length:=List.length_map ..
 have la:(w.Plan.Acts.map eA).length=w.Plan.Acts.length:=List.length_map ..
 have lm:(w.Net.map eM).length=w.Net.length:=List.length_map ..
 have lw:(w.Clerk.Wants.map eC).length=w.Clerk.Wants.length:=List.length_map ..
 refine x6 (E:=E0) xb xc (fn:=Go.Proofs.Tryz.f186) (by kernel_rfl) (by kernel_rfl) ?_
 conv=>whnf
 repeat' first|((first|refine sN ?_|refine dC ?_|(refine dZ ?_;refine dI ?_)|refine vM ?_|refine vD ?_|refine mS ?_|(refine xa ?_ ?_<;>intro _))<;>conv=>whnf)|(refine callIo (xk bs _ _ (by first|omega|(dsimp only; omega)|(simp<;>omega)|(simp_all<;>omega)) (by first|omega|(dsimp only; omega)|(simp<;>omega)|(simp_all<;>omega)) hbs) ?_; rintro _ _ ⟨n,hn,rfl,rfl⟩;conv=>whnf)|(refine callIo (xa5 bs _ _ (by omega) (by omega) hbs) ?_; rintro _ _ ⟨l,b'',hb'',hl,rfl,rfl⟩;conv=>whnf)|((first|refine r64g (by omega) (by omega) fun c h1 h2 h3=>?_|refine w64 (by first|omega|(dsimp only; omega)) (by first|omega|(dsimp only; omega)) ?_)<;>conv=>whnf)
 all_goals first
  | (refine drEv0 rfl ⟨?_,?_⟩<;>omega)
  | (refine drEv1 hl rfl ⟨?_,?_⟩<;>omega)
  | skip
 all_goals
  refine Vc.loop2 (fun (i:Nat) (c:Int)=>i≤w.Clients.length∧0≤c∧c<w.Clients.length) (fun i c=>updL [4,6,15,55,56,57,58,59,60,61,62,63,64,65,66,67,68,69,70,71] [(8,I i),(7,I c)] []) (fun i _=>w.Clients.length - i) 0 n ⟨by omega,by omega,by omega⟩ ?_ (fun i c hi=>?_)
  · exact wk
  · obtain ⟨hi,h0,h1⟩:=hi
    conv=>whnf
    repeat' first|((first|refine sN ?_|refine dC ?_|(refine dZ ?_;refine dI ?_)|refine vM ?_|refine vD ?_|refine mS ?_|(refine xa ?_ ?_<;>intro _)|refine ixI (enc:=eX) default (by omega) (by omega) ?_|refine r64g (by omega) (by omega) fun c' g1 g2 g3=>?_|refine w64 (by first|omega|(dsimp only; omega)) (by first|omega|(dsimp only; omega)) ?_)<;>conv=>whnf)
    all_goals first
     | (refine ⟨i+1,_,⟨by simp only [decide_eq_true_eq] at *; omega,by omega,by omega⟩,by simp only [decide_eq_true_eq] at *; omega,?_⟩
        exact wk
        done)
     | (refine drEv0 rfl ⟨?_,?_⟩<;>omega)
     | trace_state
end Cc
end
section
namespace Cc
open Go Go.AM
set_option maxRecDepth 100000
set_option maxHeartbeats 16000000
theorem xqf (bs:List UInt8) (a k t:Int) (w:World) (hw:WorldF w) (ha:0≤a∧a≤5000000000) (hbs:bs.length≤2000) :
 ∃ os res,(∃ (e:Event) (a':Int),(a≤a'∧a'≤a+30)∧e.Args.length≤3∧res=.agg (eE e)∧os=aRd bs a')∧Sem P 185 [(.io 0 0,.agg (aRd bs a)),(.pure,.agg (aWd w)),(.pure,I k),(.pure,I t)] [.agg os] res:=by
 refine drEventEnd ?_
 obtain ⟨⟨s1,s2⟩,⟨c1,c2⟩,⟨p1,p2⟩,hn,hq⟩:=kl hw
 have ls:(w.Sites.map eS).length=w.Sites.length:=List.length_map ..
 have lx:(w.Clients.map eX).length=w.Clients.length:=List.length_map ..
 have lm:(w.Net.map eM).length=w.Net.length:=List.length_map ..
 refine x6 (E:=E0) xb xc (fn:=Go.Proofs.Tryz.f185) (by kernel_rfl) (by kernel_rfl) ?_
 conv=>whnf
 repeat' first|((first|refine sN ?_|refine dC ?_|(refine dZ ?_;refine dI ?_)|refine vM ?_|refine vD ?_|refine mS ?_|(refine xa ?_ ?_<;>intro _))<;>conv=>whnf)|(refine callIo (xk bs _ _ (by first|omega|(simp only [decide_eq_true_eq,decide_eq_false_iff_not] at *; omega)) (by first|omega|(simp only [decide_eq_true_eq,decide_eq_false_iff_not] at *; omega)) hbs) ?_; rintro _ _ ⟨n,hn,rfl,rfl⟩;conv=>whnf)|(refine w64 (by first|omega|(simp only [decide_eq_true_eq,decide_eq_false_iff_not] at *; omega)) (by first|omega|(simp only [decide_eq_true_eq,decide_eq_false_iff_not] at *; omega)) ?_;conv=>whnf)
 all_goals
  first
   | (refine drEv0 rfl ⟨?_,?_⟩<;>omega)
   | (refine drEv1 hl rfl ⟨?_,?_⟩<;>omega)
   | trace_state
end Cc
end
section
namespace Cc
open Go Go.AM
set_option maxRecDepth 100000
set_option maxHeartbeats 8000000
theorem xu3 {l:List Msg} {n:Int} {i:Nat} (h:i<l.length):cut (l.take (i+1)) n=if (i:Int)=n then cut (l.take i) n else cut (l.take i) n++[l.getD i default]:=by
 have hl:(l.take i).length=i:=by rw [List.length_take]; omega
 rw [xq h]
 unfold cut
 by_cases h0:0≤n
 · simp only [if_pos h0]
   by_cases h1:(i:Int)=n
   · rw [if_pos h1]
     rw [List.eraseIdx_append_of_length_le (by omega),hl,show n.toNat - i=0 by omega,List.eraseIdx_of_length_le (l:=l.take i) (by omega)]
     simp
   · rw [if_neg h1]
     by_cases h2:n.toNat<i
     · rw [List.eraseIdx_append_of_lt_length (by omega)]
     · rw [List.eraseIdx_of_length_le (by simp only [List.length_append,List.length_singleton]; omega),List.eraseIdx_of_length_le (by omega)]
 · simp only [if_neg h0]
   rw [if_neg (by omega)]
theorem xwf (l:List Msg) (x:Msg):l.map eM++[eM x]=(l++[x]).map eM:=by simp
theorem xln (w:World) (n:Int) (hn:w.Net.length≤1000):Sem P 209 [(.own,.agg (oWd w)),(.pure,I n)] [] (.agg (oWd { w with Net:=cut w.Net n })):=by
 have lm:(w.Net.map eM).length=w.Net.length:=List.length_map ..
 refine xd (E:=E0) xb xc (fn:=Go.Proofs.Tryz.f209) (by kernel_rfl) (by kernel_rfl) (fun hb=>?_)
 conv=>whnf
 (repeat' first|((first|refine sN ?_|refine dC ?_|(refine dZ ?_;refine dI ?_)|refine vM ?_|refine vD ?_|refine mS ?_)<;>conv=>whnf))
 refine Vc.loop1 (fun (i:Nat)=>i≤w.Net.length) (fun i=>updL [1,2,4] [(6,I i),(5,.one (.ref 128000))] [(128000,.arr 55 ((cut (w.Net.take i) n).map eM) false)]) (fun i=>w.Net.length - i) 0 (Nat.zero_le _) ?_ (fun i hi=>?_)
 · repeat' (first|exact True.intro|((conv=>whnf);first|exact True.intro|refine ⟨by rfl,?_⟩|refine ⟨by first|omega|(show (_:Int)=_;first|omega|(dsimp only;omega))|exact (by unfold cut; simp),?_⟩|refine ⟨?_,?_⟩))
 · have hcl:(cut (w.Net.take i) n).length≤(w.Net.take i).length:=xab
   rw [List.length_take] at hcl
   have hlo:((cut (w.Net.take i) n).map eM).length≤i:=by rw [List.length_map]; omega
   conv=>whnf
   (repeat' first|((first|refine sN ?_|refine dC ?_|(refine dZ ?_;refine dI ?_)|refine vM ?_|refine vD ?_|refine mS ?_)<;>conv=>whnf))
   refine xg (fun g=>?_) (fun g=>?_)
   all_goals conv=>whnf
   · have hil:i<w.Net.length:=by omega
     have es:=xu3 (n:=n) hil
     repeat' first|((first|refine sN ?_|refine dC ?_|(refine dZ ?_;refine dI ?_)|refine vM ?_|refine vD ?_|refine mS ?_|(refine xa ?_ ?_<;>intro _)|refine ioN (by omega) (by omega) ?_)<;>conv=>whnf)|(refine rwN (enc:=eM) default (by simp only [Int.toNat_natCast]; omega) ?_;conv=>whnf)|(refine apN (by show _+1≤_; omega) ?_;conv=>whnf)|((first|refine w64 (by omega) (by omega) ?_)<;>conv=>whnf)
     · rename_i h
       rw [if_neg (yt h)] at es
       refine ⟨i+1,by omega,by simp only; omega,?_⟩
       repeat' (first|exact True.intro|((conv=>whnf);first|exact True.intro|refine ⟨by rfl,?_⟩|refine ⟨by first|omega|(show (_:Int)=_;first|omega|(dsimp only;omega))|exact (by rw [es,← xwf]; rfl),?_⟩|refine ⟨?_,?_⟩))
     · rename_i h
       rw [if_pos (yu h)] at es
       refine ⟨i+1,by omega,by simp only; omega,?_⟩
       repeat' (first|exact True.intro|((conv=>whnf);first|exact True.intro|refine ⟨by rfl,?_⟩|refine ⟨by first|omega|(show (_:Int)=_;first|omega|(dsimp only;omega))|exact congrArg (List.map eM) es.symm,?_⟩|refine ⟨?_,?_⟩))
   · (repeat' first|((first|refine sN ?_|refine dC ?_|(refine dZ ?_;refine dI ?_)|refine vM ?_|refine vD ?_|refine mS ?_)<;>conv=>whnf))
     have e:w.Net.take i=w.Net:=List.take_of_length_le (by omega)
     exact ⟨by rw [e],rfl⟩
end Cc
end
section
namespace Cc
open Go Go.AM
set_option maxRecDepth 100000
set_option maxHeartbeats 16000000
abbrev tFc (b:Clerk × List (Call × Rslt)):TV:=.tup [(true,eK b.1),(false,[fCs (b.2.map Prod.fst)]),(false,[fRs (b.2.map Prod.snd)])]
theorem coldFold {f:Nat} {ins:List (Go.AM.Mode × TV)} {cs:List AV} {c:Clerk} {l:List (Call × Rslt)} (hl:cs.length=(eK c).length) (hk:∀ (k:Nat) (a b:AV),cs[k]?=some a→(eK c)[k]?=some b→Cold a b)
 (h:Sem P f ins [] (.tup [(true,cs),(false,[sCs (l.map Prod.fst)]),(false,[sRs (l.map Prod.snd)])])):Sem P f ins [] (tFc (c,l)):=by
 refine Sem.coldT (vs:=[(true,cs),(false,[sCs (l.map Prod.fst)]),(false,[sRs (l.map Prod.snd)])]) rfl (fun k a cs b cs' h1 h2=>?_) h
 match k,h1,h2 with
 | 0,h1,h2=>cases h1; cases h2; exact ⟨rfl,hl,hk⟩
 | 1,h1,h2=>cases h1; cases h2; exact ⟨rfl,xaw _ _⟩
 | 2,h1,h2=>cases h1; cases h2; exact ⟨rfl,xaw _ _⟩
 | k+3,h1,h2=>simp at h1
abbrev hK (c:Clerk):List AV:=[eB c.Up,eI c.Round,sI c.Base,sDs c.Done,sCs c.Wants,fGs c.Got]
theorem xwg (c:Clerk):∀ (k:Nat) (a b:AV),(hK c)[k]?=some a→(eK c)[k]?=some b→Cold a b:=fun k a b ha hb=>by
 match k,ha,hb with
 | 0,ha,hb=>cases ha; cases hb; exact xo
 | 1,ha,hb=>cases ha; cases hb; exact xo
 | 2,ha,hb=>cases ha; cases hb; exact xj
 | 3,ha,hb=>cases ha; cases hb; exact xj
 | 4,ha,hb=>cases ha; cases hb; exact xj
 | 5,ha,hb=>cases ha; cases hb; exact x7
 | k+6,ha,hb=>simp at ha
theorem xg5 {p:Plan} {c:Clerk} (hc:ClerkF p c) (hr:readyB c=true) {j:Nat} (hj:j<c.Got.length):seqsOk p (c.Got.getD j Got.nil).Seqs=true:=by
 have hh:(c.Got.getD j default).Has=true:=List.all_eq_true.1 hr _ (xx hj)
 exact (jy hc hj hh).2
theorem xoc (l:List (Call × Rslt)) (x:Call) (r:Rslt):(l.map Prod.fst).map eC++[eC x]=((l++[(x,r)]).map Prod.fst).map eC:=by simp
theorem xod (l:List (Call × Rslt)) (x:Call) (r:Rslt):(l.map Prod.snd).map eR++[eR r]=((l++[(x,r)]).map Prod.snd).map eR:=by simp
theorem xg6 (p:Plan) (c:Clerk) (hp:planOk p=true) (hc:ClerkF p c):Sem P 53 [(.pure,.agg (aPl p)),(.pure,.agg (aK c))] [] (tFc (clerkFold p c)):=by
 have hcl:=xu hp
 have hF:=planF hp
 have g1:=hF.g1
 have g3:=yp hp
 have hz:=qv hc hcl g3
 have hcp:=zh c (by omega)
 have lg:=xe p.Gives
 have lgo:(c.Got.map eG).length=c.Got.length:=List.length_map ..
 have lw:(c.Wants.map eC).length=c.Wants.length:=List.length_map ..
 have lpa:(p.Acts.map eA).length=p.Acts.length:=List.length_map ..
 have hgl:=hc.gl
 have hw4:=kc hc hcl
 have hbl:=(xh.1 hc.b).1
 have lb:=xe c.Base
 have hH:=xbb c
 have hrd:=hc.r
 have hV:=zc (given c)
 have hri:=xiv hgl
 have hN:=xec p (by omega)
 rw [← hgl] at hN
 cases hcnd:(!readyB c || decide (c.Round=200) || !valOk (given c)) with
 | true =>
   rw [xeg hcnd]
   refine coldFold (cs:=aKo c) rfl (wz c) ?_
   refine xd (E:={ E0 with keep:=[2001,10007,19009],fz:=[(20,[1216577])] }) xb xc (fn:=Go.Proofs.Tryz.f53) (by kernel_rfl) (by kernel_rfl) (fun hb=>?_)
   conv=>whnf
   repeat' first|((first|refine sN ?_|refine dC ?_|(refine dZ ?_;refine dI ?_)|refine vM ?_|refine vD ?_|refine mS ?_|(refine xa ?_ ?_<;>intro _)|refine ⟨_,hcp,?_⟩|refine apI ?_)<;>conv=>whnf)|(refine apN (by simp only [List.length_nil]; omega) ?_;conv=>whnf)
   refine Vc.loop1 (fun (i:Nat)=>i≤c.Got.length) (fun i=>updL [2,3,4,5,6,7,8,9,12,13,14,15,16,46,47,48,49,50,51,52,53,54,55,56,57,58,59,60,61,62,63,64,65,66,67,68,69,70,71,72,73,74,75,76,77,78,79,80,81,82,83,84,85,86,87,88,89,90,91,92,93,94,95,96,97,98,99,100,101,102,103,104,105,106,107,108,109,110,111,112,113,114,115,116,117,118,119,120,121,122,123,124,125,126,127,128,129,130,131,132,133,134,135,136,137,138,139,140,141,142,143,144] [(11,I i),(10,.one (.ref 320192))] [(320192,.arr 3 (ints (gvAt c i)) false)]) (fun i=>c.Got.length - i) 0 (Nat.zero_le _) ?_ (fun i hi=>?_)
   · exact wk
   · obtain ⟨bl,bb⟩:=xb4 hc i hi
     conv=>whnf
     (repeat' first|((first|refine sN ?_|refine dC ?_|(refine dZ ?_;refine dI ?_)|refine vM ?_|refine vD ?_|refine mS ?_)<;>conv=>whnf))
     refine xg (fun g=>?_) (fun g=>?_)
     all_goals conv=>whnf
     · have hig:i<c.Got.length:=by omega
       have es:=jm (c:=c) hig
       cases hh:(c.Got.getD i default).Has with
       | true =>
         have ha:=xt (jy hc hig hh).1
         rw [hh,if_pos rfl] at es
         have hS:=ka (gvAt c i) (c.Got.getD i default).Added bl ha.1 (fun x hx=>by have:=bb x hx; omega) (fun x hx=>by have:=ha.2 x hx; omega)
         rw [← es] at hS
         repeat' first|((first|refine sN ?_|refine dC ?_|(refine dZ ?_;refine dI ?_)|refine vM ?_|refine vD ?_|refine mS ?_|(refine xa ?_ ?_<;>intro _)|refine ixN (enc:=eG) default hig ?_|refine ⟨_,hS,?_⟩|refine akP (x3 _) ?_|refine w64 (by omega) (by omega) ?_)<;>conv=>whnf)
         all_goals first
          | (exfalso; clear hb hV hH hN hcp hS; simp_all; done)
          | (refine ⟨i+1,by omega,by simp only; omega,?_⟩
             exact wk
             done)
          | trace_state
       | false =>
         rw [hh,if_neg (by decide)] at es
         repeat' first|((first|refine sN ?_|refine dC ?_|(refine dZ ?_;refine dI ?_)|refine vM ?_|refine vD ?_|refine mS ?_|(refine xa ?_ ?_<;>intro _)|refine ixN (enc:=eG) default hig ?_|refine w64 (by omega) (by omega) ?_)<;>conv=>whnf)
         all_goals first
          | (exfalso; clear hb hV hH hN hcp; simp_all; done)
          | (refine ⟨i+1,by omega,by simp only; omega,?_⟩
             repeat' (first|exact True.intro|((conv=>whnf);first|exact True.intro|refine ⟨by rfl,?_⟩|refine ⟨by first|omega|(show (_:Int)=_;first|omega|(dsimp only;omega))|exact congrArg ints es.symm,?_⟩|refine ⟨?_,?_⟩))
             done)
          | trace_state
     · have e:=xax (c:=c) (i:=i) (by omega)
       rw [e]
       cases hv:valOk (given c) with
       | true =>
         rw [hv] at hV
         repeat' first|((first|refine sN ?_|refine dC ?_|(refine dZ ?_;refine dI ?_)|refine vM ?_|refine vD ?_|refine mS ?_|(refine xa ?_ ?_<;>intro _)|refine ⟨_,hH,?_⟩|refine ⟨_,hV,?_⟩)<;>conv=>whnf)
         all_goals first
          | exact ⟨rfl,rfl⟩
          | (exfalso; clear hb hV hH hN hcp; rw [hri,hv] at hcnd; simp only [Bool.or_eq_true,Bool.not_eq_true',decide_eq_true_eq,decide_eq_false_iff_not,Bool.not_true,Bool.not_not,Bool.or_false,beq_iff_eq,beq_eq_false_iff_ne,ne_eq,lg] at *; omega)
          | trace_state
       | false =>
         rw [hv] at hV
         repeat' first|((first|refine sN ?_|refine dC ?_|(refine dZ ?_;refine dI ?_)|refine vM ?_|refine vD ?_|refine mS ?_|(refine xa ?_ ?_<;>intro _)|refine ⟨_,hH,?_⟩|refine ⟨_,hV,?_⟩)<;>conv=>whnf)
         all_goals first
          | exact ⟨rfl,rfl⟩
          | trace_state
 | false =>
   rw [w5 hcnd]
   rw [hri] at hcnd
   simp only [Bool.or_eq_false_iff,Bool.not_eq_false',Bool.not_not,decide_eq_false_iff_not] at hcnd
   obtain ⟨⟨h1,h2⟩,hv⟩:=hcnd
   have hready:readyB c=true:=by rw [hri,decide_eq_false h1]; rfl
   rw [hv] at hV
   refine coldFold (cs:=hK _) rfl (xwg _) ?_
   refine xd (E:={ E0 with keep:=[2001,10007,19009],fz:=[(20,[1216577])] }) xb xc (fn:=Go.Proofs.Tryz.f53) (by kernel_rfl) (by kernel_rfl) (fun hb=>?_)
   conv=>whnf
   repeat' first|((first|refine sN ?_|refine dC ?_|(refine dZ ?_;refine dI ?_)|refine vM ?_|refine vD ?_|refine mS ?_|(refine xa ?_ ?_<;>intro _)|refine ⟨_,hcp,?_⟩|refine apI ?_)<;>conv=>whnf)|(refine apN (by simp only [List.length_nil]; omega) ?_;conv=>whnf)
   refine Vc.loop1 (fun (i:Nat)=>i≤c.Got.length) (fun i=>updL [2,3,4,5,6,7,8,9,12,13,14,15,16,46,47,48,49,50,51,52,53,54,55,56,57,58,59,60,61,62,63,64,65,66,67,68,69,70,71,72,73,74,75,76,77,78,79,80,81,82,83,84,85,86,87,88,89,90,91,92,93,94,95,96,97,98,99,100,101,102,103,104,105,106,107,108,109,110,111,112,113,114,115,116,117,118,119,120,121,122,123,124,125,126,127,128,129,130,131,132,133,134,135,136,137,138,139,140,141,142,143,144] [(11,I i),(10,.one (.ref 320192))] [(320192,.arr 3 (ints (gvAt c i)) false)]) (fun i=>c.Got.length - i) 0 (Nat.zero_le _) ?_ (fun i hi=>?_)
   · exact wk
   · obtain ⟨bl,bb⟩:=xb4 hc i hi
     conv=>whnf
     (repeat' first|((first|refine sN ?_|refine dC ?_|(refine dZ ?_;refine dI ?_)|refine vM ?_|refine vD ?_|refine mS ?_)<;>conv=>whnf))
     refine xg (fun g=>?_) (fun g=>?_)
     all_goals conv=>whnf
     · have hig:i<c.Got.length:=by omega
       have es:=jm (c:=c) hig
       cases hh:(c.Got.getD i default).Has with
       | true =>
         have ha:=xt (jy hc hig hh).1
         rw [hh,if_pos rfl] at es
         have hS:=ka (gvAt c i) (c.Got.getD i default).Added bl ha.1 (fun x hx=>by have:=bb x hx; omega) (fun x hx=>by have:=ha.2 x hx; omega)
         rw [← es] at hS
         repeat' first|((first|refine sN ?_|refine dC ?_|(refine dZ ?_;refine dI ?_)|refine vM ?_|refine vD ?_|refine mS ?_|(refine xa ?_ ?_<;>intro _)|refine ixN (enc:=eG) default hig ?_|refine ⟨_,hS,?_⟩|refine akP (x3 _) ?_|refine w64 (by omega) (by omega) ?_)<;>conv=>whnf)
         all_goals first
          | (exfalso; clear hb hV hH hN hcp hS; simp_all; done)
          | (refine ⟨i+1,by omega,by simp only; omega,?_⟩
             exact wk
             done)
          | trace_state
       | false =>
         rw [hh,if_neg (by decide)] at es
         repeat' first|((first|refine sN ?_|refine dC ?_|(refine dZ ?_;refine dI ?_)|refine vM ?_|refine vD ?_|refine mS ?_|(refine xa ?_ ?_<;>intro _)|refine ixN (enc:=eG) default hig ?_|refine w64 (by omega) (by omega) ?_)<;>conv=>whnf)
         all_goals first
          | (exfalso; clear hb hV hH hN hcp; simp_all; done)
          | (refine ⟨i+1,by omega,by simp only; omega,?_⟩
             repeat' (first|exact True.intro|((conv=>whnf);first|exact True.intro|refine ⟨by rfl,?_⟩|refine ⟨by first|omega|(show (_:Int)=_;first|omega|(dsimp only;omega))|exact congrArg ints es.symm,?_⟩|refine ⟨?_,?_⟩))
             done)
          | trace_state
     · have e:=xax (c:=c) (i:=i) (by omega)
       rw [e]
       clear bl bb
       repeat' first|((first|refine sN ?_|refine dC ?_|(refine dZ ?_;refine dI ?_)|refine vM ?_|refine vD ?_|refine mS ?_|(refine xa ?_ ?_<;>intro _)|refine ⟨_,hH,?_⟩|refine ⟨_,hV,?_⟩)<;>conv=>whnf)
       all_goals first
        | (exfalso; clear hb hV hH hN hcp; simp only [Bool.or_eq_true,Bool.not_eq_true',decide_eq_true_eq,decide_eq_false_iff_not,beq_iff_eq,beq_eq_false_iff_ne,ne_eq,lg] at *; first|omega|contradiction|done)
        | skip
       refine Vc.loop6 (fun (i:Nat) (v:List Int) (dn:List Done) (ls:List (Call × Rslt)) (_:Unit) (_:Unit)=>FAt p c i v dn ls) (fun i v dn ls _ _=>updL [2,3,4,5,6,7,131,132,133,134,135,136,137,138,139,140,141,142,143,144] [(12,I i),(8,.one (.ref 192000)),(9,.one (.ref 256000)),(10,.one (.ref 320192))] [(320192,.arr 3 (ints v) false),(128067,.arr 79 (dn.map eD) false),(192000,.arr 50 ((ls.map Prod.fst).map eC) false),(256000,.arr 45 ((ls.map Prod.snd).map eR) false)]) (fun i _ _ _ _ _=>c.Wants.length - i) 0 (given c) c.Done [] () () (FAt.zero hc hv) ?_ (fun i v dn ls _ _ ha=>?_)
       · exact wk
       · have lf:((ls.map Prod.fst).map eC).length=ls.length:=by simp
         have lr:((ls.map Prod.snd).map eR).length=ls.length:=by simp
         have hll:=ha.hl
         have hii:=ha.hi
         have hdl:=(yy hcl ha.hd).1
         have hdc:(dn.length:Int)=p.Clients:=by have:=ha.hd; unfold doneOk at this; simp only [Bool.and_eq_true,decide_eq_true_eq] at this; exact this.1
         have ldn:(dn.map eD).length=dn.length:=List.length_map ..
         conv=>whnf
         (repeat' first|((first|refine sN ?_|refine dC ?_|(refine dZ ?_;refine dI ?_)|refine vM ?_|refine vD ?_|refine mS ?_)<;>conv=>whnf))
         refine xg (fun g=>?_) (fun g=>?_)
         all_goals conv=>whnf
         · have hil:i<c.Wants.length:=by omega
           have hx:=hc.w _ (xx hil)
           obtain ⟨c1,c2,c3,c4⟩:=xz.1 hx
           have ha6:=ha.run hF hc hil
           have hA:Sem P 130 [(.pure,.one (sLs (p.Acts.getD (c.Wants.getD i default).Act.toNat []))),(.pure,AI v),(.pure,AI (c.Wants.getD i default).Args)] [] (.tup [(true,aR (runQ p v (c.Wants.getD i default)).1),(false,[sI (runQ p v (c.Wants.getD i default)).2])]):=xmi _ _ _
           have hcc:=x1 (c.Wants.getD i default) (by rw [(xh.1 c4).1]; decide)
           have hm0:0≤(c.Wants.getD i default).Client % (ints p.Gives).length:=Int.emod_nonneg _ (by omega)
           have hm1:(c.Wants.getD i default).Client % (ints p.Gives).length<(ints p.Gives).length:=Int.emod_lt_of_pos _ (by omega)
           have hsq:=xg5 hc hready (j:=((c.Wants.getD i default).Client % (ints p.Gives).length).toNat) (by omega)
           unfold seqsOk at hsq
           simp only [Bool.and_eq_true,decide_eq_true_eq,List.all_eq_true] at hsq
           have lsq:=xe (c.Got.getD ((c.Wants.getD i default).Client % (ints p.Gives).length).toNat Got.nil).Seqs
           have hsb:=xf.1 (hsq.2 ((c.Got.getD ((c.Wants.getD i default).Client % (ints p.Gives).length).toNat Got.nil).Seqs.getD (c.Wants.getD i default).Client.toNat 0) (qz (by omega)))
           by_cases hq:(c.Wants.getD i default).Seq=nextQ p c.Got (c.Wants.getD i default)
           · have hy:=ha.yes hF hc hil hq
             unfold nextQ at hq
             rw [← lg] at hq
             generalize runQ p v (c.Wants.getD i default)=y at *
             obtain ⟨r,v'⟩:=y
             have hcr:=yg r (by simp only at ha6; omega)
             have q1:(dn.map eD).set (c.Wants.getD i default).Client.toNat [eI (c.Wants.getD i default).Seq,eI r.Code,fI r.Tells]=(dn.set (c.Wants.getD i default).Client.toNat ⟨(c.Wants.getD i default).Seq,r⟩).map eD:=xcz dn _ ⟨_,r⟩
             have q2:=xoc ls (c.Wants.getD i default) r
             have q3:=xod ls (c.Wants.getD i default) r
             repeat' first|((first|refine sN ?_|refine dC ?_|(refine dZ ?_;refine dI ?_)|refine vM ?_|refine vD ?_|refine mS ?_|(refine xa ?_ ?_<;>intro _)|refine ixN (enc:=eC) default hil ?_)<;>conv=>whnf)|(refine ioN (by first|omega|(dsimp only; omega)|(simp<;>omega)|(simp_all<;>omega)) (by first|omega|(dsimp only; omega)|(simp<;>omega)|(simp_all<;>omega)) ?_;conv=>whnf)|((first|refine r64 (by omega) (by omega) ?_|refine ixI (enc:=eG) Got.nil hm0 (by omega) ?_|refine ixI (enc:=rI) 0 (by omega) (by omega) ?_|refine ixI (enc:=eA) [] (by omega) (by omega) ?_|refine rwN (enc:=eD) Done.nil (by omega) ?_|refine w64 (by omega) (by omega) ?_|refine ⟨_,hA,?_⟩|refine ⟨_,hcr,?_⟩|refine ⟨_,hcc,?_⟩|refine akP (x3 _) ?_)<;>conv=>whnf)|(refine apN (by rw [lf]; show _+1≤_; omega) ?_;conv=>whnf)|(refine apN (by rw [lr]; show _+1≤_; omega) ?_;conv=>whnf)
             all_goals first
              | (exfalso; clear hb hV hH hN hcp hA hy hcr hcc; simp_all; done)
              | (refine ⟨i+1,_,_,_,(),(),hy,by simp only; omega,?_⟩
                 repeat' (first|exact True.intro|((conv=>whnf);first|exact True.intro|refine ⟨by rfl,?_⟩|refine ⟨by first|omega|(show (_:Int)=_;first|omega|(dsimp only;omega))|exact q1|exact q2|exact q3,?_⟩|refine ⟨?_,?_⟩))
                 done)
              | trace_state
           · have hy:=ha.no hil hq
             unfold nextQ at hq
             rw [← lg] at hq
             repeat' first|((first|refine sN ?_|refine dC ?_|(refine dZ ?_;refine dI ?_)|refine vM ?_|refine vD ?_|refine mS ?_|(refine xa ?_ ?_<;>intro _)|refine ixN (enc:=eC) default hil ?_)<;>conv=>whnf)|(refine ioN (by first|omega|(dsimp only; omega)|(simp<;>omega)|(simp_all<;>omega)) (by first|omega|(dsimp only; omega)|(simp<;>omega)|(simp_all<;>omega)) ?_;conv=>whnf)|((first|refine r64 (by omega) (by omega) ?_|refine ixI (enc:=eG) Got.nil hm0 (by omega) ?_|refine ixI (enc:=rI) 0 (by omega) (by omega) ?_|refine w64 (by omega) (by omega) ?_)<;>conv=>whnf)
             all_goals first
              | (exfalso; clear hb hV hH hN hcp hA hy hcc; simp_all; done)
              | (refine ⟨i+1,v,dn,ls,(),(),hy,by simp only; omega,?_⟩
                 exact wk
                 done)
              | trace_state
         · obtain ⟨f1,f2,f3⟩:=ha.fin (by omega)
           rw [f1,f2,f3]
           repeat' first|((first|refine sN ?_|refine dC ?_|(refine dZ ?_;refine dI ?_)|refine vM ?_|refine vD ?_|refine mS ?_|(refine xa ?_ ?_<;>intro _)|refine ⟨_,hN,?_⟩|refine w64 (by omega) (by omega) ?_)<;>conv=>whnf)
           all_goals first
            | exact ⟨rfl,rfl⟩
            | trace_state
end Cc
end
section
namespace Cc
open Go Go.AM
set_option maxRecDepth 100000
set_option maxHeartbeats 8000000
def lrn (p:Plan) (n:Int) (old new:List Done):Nat→List Done
 | 0=>old
 | i+1=>if (old.getD i Done.nil).Seq<(new.getD i Done.nil).Seq∧(i:Int) % p.Gives.length=n then (lrn p n old new i).set i (new.getD i Done.nil) else lrn p n old new i
theorem xad (p:Plan) (n:Int) (old new:List Done):∀ i,(lrn p n old new i).length=old.length
 | 0=>rfl
 | i+1=>by
   unfold lrn
   split
   · rw [List.length_set]; exact xad p n old new i
   · exact xad p n old new i
theorem xu4 {l:List Done} {i j:Nat} {d:Done} (h:i<l.length):(l.set i d).getD j Done.nil=if i=j then d else l.getD j Done.nil:=by
 rw [List.getD_eq_getElem?_getD,List.getElem?_set,List.getD_eq_getElem?_getD]
 by_cases e:i=j
 · subst e; rw [if_pos rfl,if_pos rfl,if_pos h]; rfl
 · rw [if_neg e,if_neg e]
theorem xhy (p:Plan) (n:Int) (old new:List Done):∀ i,i≤old.length→∀ j,(lrn p n old new i).getD j Done.nil=if j<i∧((old.getD j Done.nil).Seq<(new.getD j Done.nil).Seq∧(j:Int) % p.Gives.length=n) then new.getD j Done.nil else old.getD j Done.nil
 | 0,_,j=>by rw [if_neg (by omega)]; rfl
 | i+1,h,j=>by
   have ih:=xhy p n old new i (by omega) j
   have hl:=xad p n old new i
   unfold lrn
   split
   · rename_i hc
     rw [xu4 (by omega)]
     by_cases e:i=j
     · subst e; rw [if_pos rfl,if_pos ⟨by omega,hc⟩]
     · rw [if_neg e,ih]
       by_cases hj:j<i
       · simp only [hj,show j<i+1 from by omega]
       · simp only [hj,show ¬ j<i+1 from by omega]
   · rename_i hc
     rw [ih]
     by_cases e:i=j
     · subst e; rw [if_neg (fun h=>by omega),if_neg (fun h=>hc h.2)]
     · by_cases hj:j<i
       · simp only [hj,show j<i+1 from by omega]
       · simp only [hj,show ¬ j<i+1 from by omega]
theorem xwh (p:Plan) (n:Int) (old new:List Done):lrn p n old new old.length=learn p n old new:=by
 apply jh Done.nil (by rw [xad]; simp [learn])
 intro j hj
 rw [xad] at hj
 rw [xhy p n old new _ (Nat.le_refl _) j]
 unfold learn
 rw [List.getD_eq_getElem?_getD (l:=List.map _ _),List.getElem?_map,List.getElem?_range hj]
 simp only [Option.map_some,Option.getD_some]
 by_cases h:(old.getD j Done.nil).Seq<(new.getD j Done.nil).Seq∧(j:Int) % p.Gives.length=n
 · rw [if_pos ⟨hj,h⟩,if_pos h]
 · rw [if_neg (fun h'=>h h'.2),if_neg h]
abbrev tH (b:Site × List Msg):TV:=.tup [(true,aS b.1),(false,[sMs b.2])]
abbrev tHm (s:Site) (m:Msg):TV:=.tup [(true,aS s),(false,[.sl 55 [aM m]])]
abbrev tHc (b:Site × List Msg):TV:=.tup [(true,eS b.1),(false,[fMs b.2])]
theorem coldHear {f:Nat} {ins:List (Go.AM.Mode × TV)} {b:Site × List Msg} (h:Sem P f ins [] (tH b)):Sem P f ins [] (tHc b):=by
 refine Sem.coldT (vs:=[(true,aS b.1),(false,[sMs b.2])]) rfl (fun k a cs c cs' h1 h2=>?_) h
 match k,h1,h2 with
 | 0,h1,h2=>cases h1; cases h2; exact ⟨rfl,xbc _⟩
 | 1,h1,h2=>cases h1; cases h2; exact ⟨rfl,xaw _ _⟩
 | k+2,h1,h2=>simp at h1
theorem xu5 (m:Msg):Cold (.sl 55 ([m].map aM)) (fMs [m]):=xin (fun _=>rfl) fun x k a b ha hb=>by
 match k,ha,hb with
 | 0,ha,hb=>cases ha; cases hb; exact Imp.rfl
 | 1,ha,hb=>cases ha; cases hb; exact Imp.rfl
 | 2,ha,hb=>cases ha; cases hb; exact Imp.rfl
 | 3,ha,hb=>cases ha; cases hb; exact Imp.rfl
 | 4,ha,hb=>cases ha; cases hb; exact Imp.rfl
 | 5,ha,hb=>cases ha; cases hb; exact Imp.rfl
 | 6,ha,hb=>cases ha; cases hb; exact Imp.rfl
 | 7,ha,hb=>cases ha; cases hb; exact q9 Imp.rfl
 | 8,ha,hb=>cases ha; cases hb; exact q9 Imp.rfl
 | 9,ha,hb=>cases ha; cases hb; exact q9 Imp.rfl
 | 10,ha,hb=>cases ha; cases hb; exact q9 Imp.rfl
 | k+11,ha,hb=>simp at ha
theorem coldHear2 {f:Nat} {ins:List (Go.AM.Mode × TV)} {s:Site} {m:Msg} (h:Sem P f ins [] (tHm s m)):Sem P f ins [] (tHc (s,[m])):=by
 refine Sem.coldT (vs:=[(true,aS s),(false,[.sl 55 ([m].map aM)])]) rfl (fun k a cs c cs' h1 h2=>?_) h
 match k,h1,h2 with
 | 0,h1,h2=>cases h1; cases h2; exact ⟨rfl,xbc _⟩
 | 1,h1,h2 =>
   cases h1; cases h2
   refine ⟨rfl,rfl,fun j x y h1 h2=>?_⟩
   match j,h1,h2 with
   | 0,h1,h2=>cases h1; cases h2; exact xu5 m
   | j+1,h1,h2=>simp at h1
 | k+2,h1,h2=>simp at h1
theorem xtc:allPrim (([]:List Done).map eD):=fun row h=>by simp at h
theorem xqg (p:Plan) (s:Site) (n:Int) (m:Msg) (hp:planOk p=true) (hn:0≤n) (hs:siteB p s n=true) (hm:msgB p m=true) :
 Sem P 261 [(.pure,.agg (aPl p)),(.pure,.agg (aS s)),(.pure,I n),(.pure,.agg (aM m))] [] (tHc (siteHear p s n m)):=by
 have hcl:=xu hp
 have hsm:=xcy hcl hs
 obtain ⟨hr,hb',ha,hd⟩:=siteE hs
 have g1:=(planF hp).g1
 have lg:=xe p.Gives
 have hdl:=(yy hcl hd).1
 have hcp:=we s (by omega)
 have lds:(s.Done.map eD).length=s.Done.length:=List.length_map ..
 by_cases h1:(!s.Up || decide (m.To≠n))=true
 · have e:siteHear p s n m=(s,[]):=by unfold siteHear; rw [if_pos h1]
   rw [e]
   refine coldHear ?_
   refine xd (E:={ E0 with keep:=[2001,7003] }) xb xc (fn:=Go.Proofs.Tryz.f261) (by kernel_rfl) (by kernel_rfl) (fun hb=>?_)
   conv=>whnf
   repeat' first|((first|refine sN ?_|refine dC ?_|(refine dZ ?_;refine dI ?_)|refine vM ?_|refine vD ?_|refine mS ?_|(refine xa ?_ ?_<;>intro _)|refine ⟨_,hcp,?_⟩)<;>conv=>whnf)
   all_goals first
    | exact ⟨rfl,rfl⟩
    | (exfalso; clear hcp hb hs hm hd; simp_all; done)
    | trace_state
 · by_cases h2:m.Kind=2∧m.Round=s.Round
   · have e:siteHear p s n m=({ s with Frozen:=true },[giveMsg { s with Frozen:=true } n]):=by unfold siteHear; rw [if_neg h1,if_pos h2]; rfl
     rw [e]
     refine coldHear2 ?_
     have hG:=xg1 { s with Frozen:=true } n (by have:=(xt ha).1; simp only; omega) (by simp only; omega)
     refine xd (E:={ E0 with keep:=[2001,7003] }) xb xc (fn:=Go.Proofs.Tryz.f261) (by kernel_rfl) (by kernel_rfl) (fun hb=>?_)
     conv=>whnf
     repeat' first|((first|refine sN ?_|refine dC ?_|(refine dZ ?_;refine dI ?_)|refine vM ?_|refine vD ?_|refine mS ?_|(refine xa ?_ ?_<;>intro _)|refine ⟨_,hcp,?_⟩|refine ⟨_,hG,?_⟩|refine akP (x3 _) ?_|refine akP xtc ?_)<;>conv=>whnf)
     all_goals first
      | exact ⟨rfl,rfl⟩
      | (exfalso; clear hcp hb hs hm hd hG e; simp_all; done)
      | trace_state
   · by_cases h3:m.Kind=4∧s.Round<m.Round
     · have e:siteHear p s n m=({ s with Round:=m.Round,Frozen:=false,Base:=m.Vals,Added:=[0,0,0],Done:=learn p n s.Done m.Done },[]):=by unfold siteHear; rw [if_neg h1,if_neg h2,if_pos h3]
       rw [e,← xwh]
       have hmd:doneOk p m.Done=true∧valOk m.Vals=true:=by
        unfold msgB at hm
        rw [if_neg (by omega),if_neg (by omega),if_neg (by omega),if_pos h3.1] at hm
        simp only [Bool.and_eq_true] at hm
        exact ⟨hm.2.1.1.2,hm.2.1.1.1.2⟩
       have hmv:=(xh.1 hmd.2).1
       have lmv:=xe m.Vals
       have hc1:(s.Done.length:Int)=p.Clients:=by unfold doneOk at hd; simp only [Bool.and_eq_true,decide_eq_true_eq] at hd; exact hd.1
       have hc2:(m.Done.length:Int)=p.Clients:=by have:=hmd.1; unfold doneOk at this; simp only [Bool.and_eq_true,decide_eq_true_eq] at this; exact this.1
       have hmt:∀ i,i<m.Done.length→(m.Done.getD i Done.nil).Res.Tells.length≤6:=fun i hi=>by
        have:=hmd.1; unfold doneOk at this; simp only [Bool.and_eq_true,List.all_eq_true] at this
        exact w4 (this.2 _ (xx hi))
       refine coldHear ?_
       refine xd (E:={ E0 with keep:=[2001,7003] }) xb xc (fn:=Go.Proofs.Tryz.f261) (by kernel_rfl) (by kernel_rfl) (fun hb=>?_)
       conv=>whnf
       repeat' first|((first|refine sN ?_|refine dC ?_|(refine dZ ?_;refine dI ?_)|refine vM ?_|refine vD ?_|refine mS ?_|(refine xa ?_ ?_<;>intro _)|refine ⟨_,hcp,?_⟩|refine apI ?_)<;>conv=>whnf)|(refine apN (by simp only [List.length_nil]; omega) ?_;conv=>whnf)
       all_goals first
        | (exfalso; clear hcp hb hs hm hd e hmt hmd; simp_all; done)
        | (exfalso; clear hcp hb hs hm hd e hmt hmd; simp_all; omega)
        | skip
       refine Vc.loop1 (fun (i:Nat)=>i≤s.Done.length) (fun i=>updL [0,1,2,3,4,5,7,8,9,10] [(11,I i)] [(128069,.arr 79 ((lrn p n s.Done m.Done i).map eD) false)]) (fun i=>s.Done.length - i) 0 (Nat.zero_le _) ?_ (fun i hi=>?_)
       · exact wk
       · have ll:=xad p n s.Done m.Done i
         have llm:((lrn p n s.Done m.Done i).map eD).length=s.Done.length:=by rw [List.length_map,ll]
         have hx:(lrn p n s.Done m.Done i).getD i Done.nil=s.Done.getD i Done.nil:=by rw [xhy p n _ _ i hi,if_neg (by omega)]
         have hu:lrn p n s.Done m.Done (i+1)=if (s.Done.getD i Done.nil).Seq<(m.Done.getD i Done.nil).Seq∧(i:Int) % p.Gives.length=n then (lrn p n s.Done m.Done i).set i (m.Done.getD i Done.nil) else lrn p n s.Done m.Done i:=rfl
         conv=>whnf
         (repeat' first|((first|refine sN ?_|refine dC ?_|(refine dZ ?_;refine dI ?_)|refine vM ?_|refine vD ?_|refine mS ?_)<;>conv=>whnf))
         refine xg (fun g=>?_) (fun g=>?_)
         all_goals conv=>whnf
         · have him:i<m.Done.length:=by omega
           have h6:=hmt i him
           by_cases hc:(s.Done.getD i Done.nil).Seq<(m.Done.getD i Done.nil).Seq∧(i:Int) % p.Gives.length=n
           · rw [if_pos hc] at hu
             repeat' first|((first|refine sN ?_|refine dC ?_|(refine dZ ?_;refine dI ?_)|refine vM ?_|refine vD ?_|refine mS ?_|(refine xa ?_ ?_<;>intro _)|refine ixN (enc:=eD) Done.nil him ?_|refine ioN (by omega) (by omega) ?_)<;>conv=>whnf)|(refine rwN (enc:=eD) Done.nil (by simp only [Int.toNat_natCast]; omega) ?_;conv=>whnf)|((first|refine r64 (by omega) (by omega) ?_|refine w64 (by omega) (by omega) ?_|refine ⟨_,yg (m.Done.getD i Done.nil).Res (by omega),?_⟩)<;>conv=>whnf)
             all_goals first
              | (exfalso; clear hcp hb hs hm hd e hmt hmd hu; simp only [Int.toNat_natCast,hx,lg,decide_eq_true_eq,decide_eq_false_iff_not,beq_iff_eq,beq_eq_false_iff_ne,ne_eq,gt_iff_lt] at *; omega)
              | (refine ⟨i+1,by omega,by simp only; omega,?_⟩
                 repeat' (first|exact True.intro|((conv=>whnf);first|exact True.intro|refine ⟨by rfl,?_⟩|refine ⟨by first|omega|(show (_:Int)=_;first|omega|(dsimp only;omega))|exact (by rw [hu,← xcz]; rfl),?_⟩|refine ⟨?_,?_⟩)))
              | trace_state
           · rw [if_neg hc] at hu
             repeat' first|((first|refine sN ?_|refine dC ?_|(refine dZ ?_;refine dI ?_)|refine vM ?_|refine vD ?_|refine mS ?_|(refine xa ?_ ?_<;>intro _)|refine ixN (enc:=eD) Done.nil him ?_|refine ioN (by omega) (by omega) ?_)<;>conv=>whnf)|(refine rwN (enc:=eD) Done.nil (by simp only [Int.toNat_natCast]; omega) ?_;conv=>whnf)|((first|refine r64 (by omega) (by omega) ?_|refine w64 (by omega) (by omega) ?_|refine ⟨_,yg (m.Done.getD i Done.nil).Res (by omega),?_⟩)<;>conv=>whnf)
             all_goals first
              | (exfalso; clear hcp hb hs hm hd e hmt hmd hu; simp only [Int.toNat_natCast,hx,lg,decide_eq_true_eq,decide_eq_false_iff_not,beq_iff_eq,beq_eq_false_iff_ne,ne_eq,gt_iff_lt] at *; omega)
              | (refine ⟨i+1,by omega,by simp only; omega,?_⟩
                 repeat' (first|exact True.intro|((conv=>whnf);first|exact True.intro|refine ⟨by rfl,?_⟩|refine ⟨by first|omega|(show (_:Int)=_;first|omega|(dsimp only;omega))|exact congrArg (List.map eD) hu.symm,?_⟩|refine ⟨?_,?_⟩)))
              | trace_state
         · have ei:i=s.Done.length:=by omega
           subst ei
           (repeat' first|((first|refine sN ?_|refine dC ?_|(refine dZ ?_;refine dI ?_)|refine vM ?_|refine vD ?_|refine mS ?_)<;>conv=>whnf))
           exact ⟨rfl,rfl⟩
     · have e:siteHear p s n m=(s,[]):=by unfold siteHear; rw [if_neg h1,if_neg h2,if_neg h3]
       rw [e]
       refine coldHear ?_
       refine xd (E:={ E0 with keep:=[2001,7003] }) xb xc (fn:=Go.Proofs.Tryz.f261) (by kernel_rfl) (by kernel_rfl) (fun hb=>?_)
       conv=>whnf
       repeat' first|((first|refine sN ?_|refine dC ?_|(refine dZ ?_;refine dI ?_)|refine vM ?_|refine vD ?_|refine mS ?_|(refine xa ?_ ?_<;>intro _)|refine ⟨_,hcp,?_⟩)<;>conv=>whnf)
       all_goals first
        | exact ⟨rfl,rfl⟩
        | (exfalso; exact h3 ⟨by simpa using ‹(m.Kind == 4)=true›,by simpa using ‹decide (m.Round>s.Round)=true›⟩)
        | (exfalso; clear hcp hb hs hm hd e; simp_all; done)
        | trace_state
end Cc
end
section
namespace Cc
open Go Go.AM
set_option maxRecDepth 100000
set_option maxHeartbeats 16000000
abbrev tHk (b:Clerk × List Msg × List (Call × Rslt)):TV:=.tup [(true,eK b.1),(false,[fMs b.2.1]),(false,[fCs (b.2.2.map Prod.fst)]),(false,[fRs (b.2.2.map Prod.snd)])]
theorem xej {a b:AV} (h:Cold a b):[a].length=[b].length∧∀ (j:Nat) (x y:AV),[a][j]?=some x→[b][j]?=some y→Cold x y:=by
 refine ⟨rfl,fun j x y h1 h2=>?_⟩
 match j,h1,h2 with
 | 0,h1,h2=>cases h1; cases h2; exact h
 | j+1,h1,h2=>simp at h1
theorem coldHear9 {f:Nat} {ins:List (Go.AM.Mode × TV)} {cs:List AV} {a1 a2 a3:AV} {b:Clerk × List Msg × List (Call × Rslt)} (hl:cs.length=6) (hk:∀ (k:Nat) (a b':AV),cs[k]?=some a→(eK b.1)[k]?=some b'→Cold a b')
 (h1:Cold a1 (fMs b.2.1)) (h2:Cold a2 (fCs (b.2.2.map Prod.fst))) (h3:Cold a3 (fRs (b.2.2.map Prod.snd))) (h:Sem P f ins [] (.tup [(true,cs),(false,[a1]),(false,[a2]),(false,[a3])])):Sem P f ins [] (tHk b):=by
 refine Sem.coldT (vs:=[(true,cs),(false,[a1]),(false,[a2]),(false,[a3])]) rfl (fun k a cs b cs' g1 g2=>?_) h
 match k,g1,g2 with
 | 0,g1,g2=>cases g1; cases g2; exact ⟨rfl,hl,hk⟩
 | 1,g1,g2=>cases g1; cases g2; exact ⟨rfl,xej h1⟩
 | 2,g1,g2=>cases g1; cases g2; exact ⟨rfl,xej h2⟩
 | 3,g1,g2=>cases g1; cases g2; exact ⟨rfl,xej h3⟩
 | k+4,g1,g2=>simp at g1
abbrev wK (c:Clerk):List AV:=[eB c.Up,eI c.Round,sI c.Base,sDs c.Done,fCs c.Wants,.sl 105 (c.Got.map aG)]
theorem xwi (c:Clerk):∀ (k:Nat) (a b:AV),(wK c)[k]?=some a→(eK c)[k]?=some b→Cold a b:=fun k a b ha hb=>by
 match k,ha,hb with
 | 0,ha,hb=>cases ha; cases hb; exact xo
 | 1,ha,hb=>cases ha; cases hb; exact xo
 | 2,ha,hb=>cases ha; cases hb; exact xj
 | 3,ha,hb=>cases ha; cases hb; exact xj
 | 4,ha,hb=>cases ha; cases hb; exact x7
 | 5,ha,hb=>cases ha; cases hb; exact xeq c.Got
 | k+6,ha,hb=>simp at ha
theorem xoe (c:Clerk):∀ (k:Nat) (a b:AV),(eK c)[k]?=some a→(eK c)[k]?=some b→Cold a b:=fun k a b ha hb=>by
 match k,ha,hb with
 | 0,ha,hb=>cases ha; cases hb; exact xo
 | 1,ha,hb=>cases ha; cases hb; exact xo
 | 2,ha,hb=>cases ha; cases hb; exact x7
 | 3,ha,hb=>cases ha; cases hb; exact x7
 | 4,ha,hb=>cases ha; cases hb; exact x7
 | 5,ha,hb=>cases ha; cases hb; exact x7
 | k+6,ha,hb=>simp at ha
theorem xqh (p:Plan) (c:Clerk) (i:Nat) (g:Got) (hp:planOk p=true) (hc:ClerkF p { c with Got:=c.Got.set i g }) :
 Sem P 53 [(.pure,.agg (aPl p)),(.pure,.agg [eB c.Up,eI c.Round,sI c.Base,sDs c.Done,sCs c.Wants,.sl 105 ((c.Got.map aG).set i (aG g))])] [] (tFc (clerkFold p { c with Got:=c.Got.set i g })):=by
 rw [← List.map_set]
 refine Sem.warm (j:=[(.pure,.agg (aPl p)),(.pure,.agg (aK { c with Got:=c.Got.set i g }))]) (.same (.agg rfl (fun k a b ha hb=>?_) .nil)) (xg6 p _ hp hc)
 match k,ha,hb with
 | 0,ha,hb=>cases ha; cases hb; exact Imp.rfl
 | 1,ha,hb=>cases ha; cases hb; exact Imp.rfl
 | 2,ha,hb=>cases ha; cases hb; exact Imp.rfl
 | 3,ha,hb=>cases ha; cases hb; exact Imp.rfl
 | 4,ha,hb=>cases ha; cases hb; exact Imp.rfl
 | 5,ha,hb =>
   cases ha; cases hb
   refine xlb (fun _=>rfl) fun x k a b ha hb=>?_
   match k,ha,hb with
   | 0,ha,hb=>cases ha; cases hb; exact Imp.rfl
   | 1,ha,hb=>cases ha; cases hb; exact q9 Imp.rfl
   | 2,ha,hb=>cases ha; cases hb; exact q9 Imp.rfl
   | k+3,ha,hb=>simp at ha
 | k+6,ha,hb=>simp at ha
theorem xqi (p:Plan) (c:Clerk) (m:Msg) (hp:planOk p=true) (hc:ClerkF p c) (hm:msgB p m=true) :
 Sem P 262 [(.pure,.agg (aPl p)),(.pure,.one (sPs (partsOf p.Acts))),(.pure,.one (sBs (pinsOf p.Acts))),(.pure,.agg (aK c)),(.pure,.agg (aM m))] [] (tHk (clerkHear p c m)):=by
 have hcl:=xu hp
 have hF:=planF hp
 have g3:=yp hp
 have hz:=qv hc hcl g3
 have hcp:=zh c (by omega)
 have hgl:=hc.gl
 have lga:(c.Got.map aG).length=c.Got.length:=List.length_map ..
 by_cases h1:(!c.Up || decide (m.To ≠ -1))=true
 · have e:clerkHear p c m=(c,[],[]):=by unfold clerkHear; rw [if_pos h1]
   rw [e]
   refine coldHear9 (cs:=aKo c) rfl (wz c) xj xj xj ?_
   refine xd (E:={ E0 with keep:=[2001] }) xb xc (fn:=Go.Proofs.Tryz.f262) (by kernel_rfl) (by kernel_rfl) (fun hb=>?_)
   conv=>whnf
   repeat' first|((first|refine sN ?_|refine dC ?_|(refine dZ ?_;refine dI ?_)|refine vM ?_|refine vD ?_|refine mS ?_|(refine xa ?_ ?_<;>intro _)|refine ⟨_,hcp,?_⟩)<;>conv=>whnf)
   all_goals first
    | exact ⟨rfl,rfl⟩
    | (exfalso; clear hcp hb hc hm; simp_all; done)
    | trace_state
 · have hto:m.To = -1:=by simp only [Bool.or_eq_true,decide_eq_true_eq,not_or] at h1; omega
   have hmg:=xft hm hto
   by_cases h2:m.Kind=1
   · have hcall:callB p m.Call=true:=by
      rcases hmg with h|h
      · exact h.2
      · omega
     have e:clerkHear p c m=({ c with Wants:=wantIn c.Wants m.Call },[],[]):=by unfold clerkHear; rw [if_neg h1,if_pos h2]
     rw [e]
     have hW:=wc c.Wants m.Call (by have:=kc hc hcl; omega) (by have:=kd hcall; omega)
     refine coldHear9 (cs:=wK { c with Wants:=wantIn c.Wants m.Call }) rfl (xwi _) xj xj xj ?_
     refine xd (E:={ E0 with keep:=[2001],fz:=[(5,[128068])] }) xb xc (fn:=Go.Proofs.Tryz.f262) (by kernel_rfl) (by kernel_rfl) (fun hb=>?_)
     conv=>whnf
     repeat' first|((first|refine sN ?_|refine dC ?_|(refine dZ ?_;refine dI ?_)|refine vM ?_|refine vD ?_|refine mS ?_|(refine xa ?_ ?_<;>intro _)|refine ⟨_,hcp,?_⟩|refine ⟨_,hW,?_⟩)<;>conv=>whnf)
     all_goals first
      | exact ⟨rfl,rfl⟩
      | (exfalso; clear hcp hb hc hm hW e hmg hcall; simp_all; done)
      | trace_state
   · obtain ⟨k3,hsi,hadd,hsq⟩:m.Kind=3∧isSite p m.From=true∧addedOk m.Vals=true∧seqsOk p m.Seqs=true:=by
      rcases hmg with h|h
      · exact absurd h.1 h2
      · exact h
     have hv3:=(xt hadd).1
     have hs4:=xei hcl hsq
     have lmv:=xe m.Vals
     have lms:=xe m.Seqs
     have hsn:=xf.1 hsi
     have hK:=vn ⟨c.Base,p.Gives⟩ (partsOf p.Acts) m.From m.Vals
     have hI:=xbm (pinsOf p.Acts) m.Vals (xfv _) hv3
     have hke:keeps p.Acts (p.treaty c.Base) m.From m.Vals=(trtKeeps ⟨c.Base,p.Gives⟩ (partsOf p.Acts) m.From m.Vals && unpinned (pinsOf p.Acts) m.Vals):=rfl
     by_cases h3:m.Round≠c.Round∨keeps p.Acts (p.treaty c.Base) m.From m.Vals=false
     · have e:clerkHear p c m=(c,[],[]):=by unfold clerkHear; rw [if_neg h1,if_neg h2,if_pos h3]
       rw [e]
       rw [hke] at h3
       refine coldHear9 (cs:=aKo c) rfl (wz c) xj xj xj ?_
       generalize trtKeeps ⟨c.Base,p.Gives⟩ (partsOf p.Acts) m.From m.Vals=b1 at *
       generalize unpinned (pinsOf p.Acts) m.Vals=b2 at *
       clear e hke
       cases b1<;>cases b2
       all_goals
        refine xd (E:={ E0 with keep:=[2001] }) xb xc (fn:=Go.Proofs.Tryz.f262) (by kernel_rfl) (by kernel_rfl) (fun hb=>?_)
        conv=>whnf
        repeat' first|((first|refine sN ?_|refine dC ?_|(refine dZ ?_;refine dI ?_)|refine vM ?_|refine vD ?_|refine mS ?_|(refine xa ?_ ?_<;>intro _)|refine ⟨_,hcp,?_⟩|refine ⟨_,hK,?_⟩|refine ⟨_,hI,?_⟩)<;>conv=>whnf)
       all_goals first
        | exact ⟨rfl,rfl⟩
        | (exfalso; clear hcp hb hc hm hK hI hmg; simp_all; done)
        | trace_state
     · have hro:m.Round=c.Round:=by simp only [not_or] at h3; omega
       have hkp:keeps p.Acts (p.treaty c.Base) m.From m.Vals=true:=by simp only [not_or,Bool.not_eq_false] at h3; exact h3.2
       have hup:c.Up=true:=by simp only [Bool.or_eq_true,not_or,Bool.not_eq_true',Bool.not_eq_false] at h1; exact h1.1
       have hcs:=xn5 hc hup hsi hkp hsq
       have hFo:=xqh p c m.From.toNat ⟨true,m.Vals,m.Seqs⟩ hp hcs
       obtain ⟨y1,y2,y3,y4,y5⟩:=xap hF hcs
       have e:clerkHear p c m=((clerkFold p { c with Got:=c.Got.set m.From.toNat ⟨true,m.Vals,m.Seqs⟩ }).1,if (clerkFold p { c with Got:=c.Got.set m.From.toNat ⟨true,m.Vals,m.Seqs⟩ }).1.Round=c.Round then [] else pacts (clerkFold p { c with Got:=c.Got.set m.From.toNat ⟨true,m.Vals,m.Seqs⟩ }).1,(clerkFold p { c with Got:=c.Got.set m.From.toNat ⟨true,m.Vals,m.Seqs⟩ }).2):=by
        unfold clerkHear; rw [if_neg h1,if_neg h2,if_neg h3]
       rw [e]
       rw [hke,Bool.and_eq_true] at hkp
       rw [hkp.1] at hK
       rw [hkp.2] at hI
       clear e hke h3 y5
       generalize clerkFold p { c with Got:=c.Got.set m.From.toNat ⟨true,m.Vals,m.Seqs⟩ }=y at *
       obtain ⟨y,lst⟩:=y
       simp only at y1 y2 y3 y4
       replace hFo:Sem P 53 _ [] (.tup [(true,eK y),(false,[fCs (lst.map Prod.fst)]),(false,[fRs (lst.map Prod.snd)])]):=hFo
       have hT:=xiu p y y1.gl (by omega) (by have:=(xh.1 y1.b).1; omega) (by have:=(yy hcl y1.d).2; omega)
       by_cases hyr:y.Round=c.Round
       · rw [if_pos hyr]
         refine coldHear9 (cs:=eK y) rfl (xoe y) xj x7 x7 ?_
         refine xd (E:={ E0 with keep:=[2001],fz:=[(11,[128066,128067,128068,128069])] }) xb xc (fn:=Go.Proofs.Tryz.f262) (by kernel_rfl) (by kernel_rfl) (fun hb=>?_)
         conv=>whnf
         repeat' first|((first|refine sN ?_|refine dC ?_|(refine dZ ?_;refine dI ?_)|refine vM ?_|refine vD ?_|refine mS ?_|(refine xa ?_ ?_<;>intro _)|refine ⟨_,hcp,?_⟩|refine ⟨_,hK,?_⟩|refine ⟨_,hI,?_⟩|refine ioN (by omega) (by omega) ?_|refine rwN (enc:=aG) Got.nil (by omega) ?_|refine apI ?_)<;>conv=>whnf)|(refine apN (by simp only [List.length_nil]; omega) ?_;conv=>whnf)|((first|refine ⟨_,hFo,?_⟩)<;>conv=>whnf)
         all_goals first
          | exact ⟨rfl,rfl⟩
          | (exfalso; clear hcp hb hc hm hK hI hmg hFo hT y1 y2 y3 y4 hcs; simp_all; done)
          | trace_state
       · rw [if_neg hyr]
         refine coldHear9 (cs:=eK y) rfl (xoe y) x7 x7 x7 ?_
         refine xd (E:={ E0 with keep:=[2001],fz:=[(11,[128066,128067,128068,128069])] }) xb xc (fn:=Go.Proofs.Tryz.f262) (by kernel_rfl) (by kernel_rfl) (fun hb=>?_)
         conv=>whnf
         repeat' first|((first|refine sN ?_|refine dC ?_|(refine dZ ?_;refine dI ?_)|refine vM ?_|refine vD ?_|refine mS ?_|(refine xa ?_ ?_<;>intro _)|refine ⟨_,hcp,?_⟩|refine ⟨_,hK,?_⟩|refine ⟨_,hI,?_⟩|refine ioN (by omega) (by omega) ?_|refine rwN (enc:=aG) Got.nil (by omega) ?_|refine apI ?_)<;>conv=>whnf)|(refine apN (by simp only [List.length_nil]; omega) ?_;conv=>whnf)|((first|refine ⟨_,hFo,?_⟩|refine ⟨_,hT,?_⟩)<;>conv=>whnf)
         all_goals first
          | exact ⟨rfl,rfl⟩
          | (exfalso; clear hcp hb hc hm hK hI hmg hFo hT y1 y2 y3 y4 hcs; simp_all; done)
          | trace_state
end Cc
end
section
namespace Cc
open Go Go.AM
set_option maxRecDepth 100000
set_option maxHeartbeats 16000000
def logs (l:List (Call × Rslt)):List LogD:=l.map fun y=>⟨y.1,y.2⟩
theorem xu6 {l:List (Call × Rslt)} {i:Nat} (h:i<l.length):(logs l).getD i default=⟨(l.map Prod.fst).getD i Call.nil,(l.map Prod.snd).getD i Rslt.nil⟩:=by
 unfold logs
 rw [List.getD_eq_getElem?_getD,List.getD_eq_getElem?_getD,List.getD_eq_getElem?_getD,List.getElem?_map,List.getElem?_map,List.getElem?_map,List.getElem?_eq_getElem h]; rfl
theorem xqj {log:List LogD} {l:List LogD} {i:Nat} (h:i<l.length):write (write log (l.take i)) [l.getD i default]=write log (l.take (i+1)):=by
 unfold write
 by_cases h1:log.length+i<100
 · rw [List.take_of_length_le (l:=l.take i) (by rw [List.length_take]; omega),List.take_of_length_le (l:=l.take (i+1)) (by rw [List.length_take]; omega)]
   rw [List.take_of_length_le (l:=[l.getD i default]) (by simp only [List.length_singleton,List.length_append,List.length_take]; omega),List.append_assoc,xq h]
 · have e1:(l.take i).take (100 - log.length)=l.take (100 - log.length):=by rw [List.take_take,Nat.min_eq_left (by omega)]
   have e2:(l.take (i+1)).take (100 - log.length)=l.take (100 - log.length):=by rw [List.take_take,Nat.min_eq_left (by omega)]
   rw [e1,e2]
   have e3:100 - (log++l.take (100 - log.length)).length=0:=by rw [List.length_append,List.length_take]; omega
   rw [e3]; simp
theorem xu7 {p:Plan} {m:Msg} (hm:msgB p m=true) (h:m.To ≠ -1):isSite p m.To=true:=by
 unfold msgB at hm
 rw [Bool.and_eq_true] at hm
 obtain ⟨_,hm⟩:=hm
 split at hm
 · simp only [Bool.and_eq_true,decide_eq_true_eq] at hm; exact absurd hm.1.1.1.1.1.1 h
 · split at hm
   · simp only [Bool.and_eq_true] at hm; exact hm.1.1.1.1.1
   · split at hm
     · simp only [Bool.and_eq_true,decide_eq_true_eq] at hm; exact absurd hm.1.1.1.1.1 h
     · split at hm
       · simp only [Bool.and_eq_true] at hm; exact hm.1.1.1.1.1
       · cases hm
theorem xlo (p:Plan) (s:Site) (n:Int) (m:Msg):(siteHear p s n m).2.length≤1:=by
 unfold siteHear
 split
 · simp
 · split
   · simp
   · split<;>simp
theorem xtd (c:Clerk):(pacts c).length=c.Got.length:=by simp [pacts]
theorem xjc {p:Plan} {c:Clerk} {m:Msg} (hp:PlanF p) (hc:ClerkF p c) (hm:msgB p m=true):(clerkHear p c m).2.1.length≤p.Gives.length:=by
 have h:=(xaq hp hc hm).1.gl
 unfold clerkHear at h ⊢
 split
 · simp
 · split
   · simp
   · split
     · simp
     · rename_i g1 g2 g3
       rw [if_neg g1,if_neg g2,if_neg g3] at h
       simp only
       split
       · simp
       · rw [xtd]; simp only at h; omega
theorem kx (p:Plan) (got:List Got):∀ (l:List Call) (v:List Int) (d:List Done),(foldWants p got l v d).2.2.length≤l.length
 | [],_,_=>by simp [foldWants]
 | x::r,v,d=>by
   unfold foldWants
   split
   · have:=kx p got r (actRun (p.Acts.getD x.Act.toNat []) v x.Args).2 (d.set x.Client.toNat ⟨x.Seq,(actRun (p.Acts.getD x.Act.toNat []) v x.Args).1⟩)
     simp only [List.length_cons]; omega
   · have:=kx p got r v d
     simp only [List.length_cons]; omega
theorem xg7 (p:Plan) (c:Clerk) (m:Msg):(clerkHear p c m).2.2.length≤c.Wants.length:=by
 unfold clerkHear
 split
 · simp
 · split
   · simp
   · split
     · simp
     · simp only
       unfold clerkFold
       split
       · simp
       · exact kx ..
theorem xqk {w:World} {n:Int} (hi:inB n 0 (w.Net.length - 1)=true) (ht:(w.Net.getD n.toNat default).To ≠ -1):doBring w n={ w with
 Sites:=w.Sites.set (w.Net.getD n.toNat default).To.toNat (siteHear w.Plan (w.Sites.getD (w.Net.getD n.toNat default).To.toNat Site.nil) (w.Net.getD n.toNat default).To (w.Net.getD n.toNat default)).1
 Net:=send (cut w.Net n) (siteHear w.Plan (w.Sites.getD (w.Net.getD n.toNat default).To.toNat Site.nil) (w.Net.getD n.toNat default).To (w.Net.getD n.toNat default)).2 }:=by
 have hn:=xf.1 hi
 have e:w.Net[n.toNat]?=some (w.Net.getD n.toNat default):=by rw [List.getD_eq_getElem?_getD,List.getElem?_eq_getElem (by omega)]; rfl
 unfold doBring
 rw [if_pos hi,e]
 simp only
 rw [if_pos ht]
theorem xnd {w:World} {n:Int} (hi:inB n 0 (w.Net.length - 1)=true) (ht:¬ (w.Net.getD n.toNat default).To ≠ -1):doBring w n={ w with
 Clerk:=(clerkHear w.Plan w.Clerk (w.Net.getD n.toNat default)).1
 Net:=send (cut w.Net n) (clerkHear w.Plan w.Clerk (w.Net.getD n.toNat default)).2.1
 Log:=write w.Log (logs (clerkHear w.Plan w.Clerk (w.Net.getD n.toNat default)).2.2) }:=by
 have hn:=xf.1 hi
 have e:w.Net[n.toNat]?=some (w.Net.getD n.toNat default):=by rw [List.getD_eq_getElem?_getD,List.getElem?_eq_getElem (by omega)]; rfl
 unfold doBring
 rw [if_pos hi,e]
 simp only
 rw [if_neg ht]
 rfl
theorem xof {l:List (Call × Rslt)} {i:Nat} (h:i<l.length):((l.map Prod.fst).getD i Call.nil,(l.map Prod.snd).getD i Rslt.nil)∈l:=by
 have:((l.map Prod.fst).getD i Call.nil,(l.map Prod.snd).getD i Rslt.nil)=l[i]:=by
  rw [List.getD_eq_getElem?_getD,List.getD_eq_getElem?_getD,List.getElem?_map,List.getElem?_map,List.getElem?_eq_getElem h]; rfl
 rw [this]; exact List.getElem_mem h
theorem xlp (w:World) (n:Int) (hw:WorldF w):Sem P 208 [(.own,.agg (oWd w)),(.pure,.one (sPs (partsOf w.Plan.Acts))),(.pure,.one (sBs (pinsOf w.Plan.Acts))),(.pure,I n)] [] (.agg (oWd (doBring w n))):=by
 have hF:=hw.p
 have hp:=hF.ok
 have hcl:=xu hp
 have g3:=yp hp
 have lm:(w.Net.map eM).length=w.Net.length:=List.length_map ..
 have ls:(w.Sites.map eS).length=w.Sites.length:=List.length_map ..
 have hsl:=hw.sl
 have hnl:=hw.nl
 have hcu:(cut w.Net n).length≤w.Net.length:=xab
 cases h:inB n 0 (w.Net.length - 1) with
 | false =>
   have e:doBring w n=w:=by unfold doBring; rw [h]; rfl
   rw [e]
   refine xd (E:=E0) xb xc (fn:=Go.Proofs.Tryz.f208) (by kernel_rfl) (by kernel_rfl) (fun hb=>?_)
   conv=>whnf
   repeat' first|((first|refine sN ?_|refine dC ?_|(refine dZ ?_;refine dI ?_)|refine vM ?_|refine vD ?_|refine mS ?_|(refine xa ?_ ?_<;>intro _)|refine ⟨_,xl _ _ _,?_⟩|refine w64 (by omega) (by omega) ?_)<;>conv=>whnf)
   all_goals first
    | exact ⟨rfl,rfl⟩
    | (exfalso; simp_all; done)
    | trace_state
 | true =>
   have hn:=xf.1 h
   have hC:Sem P 209 [(.own,.agg (oWd w)),(.pure,I n)] [] (.agg (xWd w.Plan (w.Sites.map eS) w.Clerk w.Clients (cut w.Net n) w.Log)):=xln w n (by omega)
   have hm:msgB w.Plan (w.Net.getD n.toNat default)=true:=hw.n _ (xx (by omega))
   by_cases ht:(w.Net.getD n.toNat default).To ≠ -1
   · have hsi:=xf.1 (xu7 hm ht)
     rw [xqk h ht]
     have hmk:(w.Net.map eM)[n.toNat]?=some (eM (w.Net.getD n.toNat default)):=by rw [List.getElem?_map,List.getD_eq_getElem?_getD,List.getElem?_eq_getElem (by omega)]; rfl
     generalize w.Net.getD n.toNat default=m at *
     have hs:=xfw hw hsi.1 (by omega)
     have hH:=xqg w.Plan (w.Sites.getD m.To.toNat Site.nil) m.To m hp hsi.1 hs hm
     have hok:=xfd hF (i:=m.To.toNat) (s:=w.Sites.getD m.To.toNat Site.nil) (m:=m) (by rw [Int.toNat_of_nonneg hsi.1]; exact hs) (by omega) hm
     rw [Int.toNat_of_nonneg hsi.1] at hok
     have hl1:=xlo w.Plan (w.Sites.getD m.To.toNat Site.nil) m.To m
     generalize siteHear w.Plan (w.Sites.getD m.To.toNat Site.nil) m.To m=y at *
     obtain ⟨s',out⟩:=y
     simp only at hok hl1
     replace hH:Sem P 261 _ [] (.tup [(true,eS s'),(false,[fMs out])]):=hH
     have hS:=xc0 w.Plan _ (yv w.Sites m.To.toNat s') w.Clerk w.Clients (cut w.Net n) w.Log out (by omega) (by omega) (fun x hx=>by have:=jn hcl (hok.2.1 x hx); omega)
     refine xd (E:={ E0 with keep:=[5002,9002,15009,16002] }) xb xc (fn:=Go.Proofs.Tryz.f208) (by kernel_rfl) (by kernel_rfl) (fun hb=>?_)
     conv=>whnf
     repeat' first|((first|refine sN ?_|refine dC ?_|(refine dZ ?_;refine dI ?_)|refine vM ?_|refine vD ?_|refine mS ?_|(refine xa ?_ ?_<;>intro _)|refine ⟨_,xl _ _ _,?_⟩|refine w64 (by omega) (by omega) ?_|refine ioN (by omega) (by omega) ?_|refine rwC hmk ?_|refine rwN (enc:=eS) Site.nil (by omega) ?_|refine ⟨_,hC,?_⟩|refine ⟨_,hH,?_⟩|refine ⟨_,hS,?_⟩)<;>conv=>whnf)
     all_goals first
      | (exfalso; clear hb hC hH hS hok hs hm; simp_all; done)
      | (refine ⟨?_,rfl⟩
         show TV.agg [eI w.Plan.Clients,fAs w.Plan.Acts,fI w.Plan.Gives,fI w.Plan.Start,.sl 60 ((w.Sites.map eS).set _ (eS s')),eB w.Clerk.Up,eI w.Clerk.Round,fI w.Clerk.Base,fDs w.Clerk.Done,fCs w.Clerk.Wants,fGs w.Clerk.Got,_,_,_]=_
         rw [yv]
         done)
      | trace_state
   · rw [xnd h ht]
     have hmk:(w.Net.map eM)[n.toNat]?=some (eM (w.Net.getD n.toNat default)):=by rw [List.getElem?_map,List.getD_eq_getElem?_getD,List.getElem?_eq_getElem (by omega)]; rfl
     generalize w.Net.getD n.toNat default=m at *
     have hH:=xqi w.Plan w.Clerk m hp hw.k hm
     obtain ⟨y1,y2,y3,-,-⟩:=xaq hF hw.k hm
     have hl1:=xjc hF hw.k hm
     have hl2:=xg7 w.Plan w.Clerk m
     have hw4:=kc hw.k hcl
     generalize clerkHear w.Plan w.Clerk m=y at *
     obtain ⟨c',out,l⟩:=y
     simp only at y1 y2 y3 hl1 hl2
     replace hH:Sem P 262 _ [] (.tup [(true,eK c'),(false,[fMs out]),(false,[fCs (l.map Prod.fst)]),(false,[fRs (l.map Prod.snd)])]):=hH
     have lf:((l.map Prod.fst).map eC).length=l.length:=by simp
     have lr:((l.map Prod.snd).map eR).length=l.length:=by simp
     have lf2:(l.map Prod.fst).length=l.length:=by simp
     have lr2:(l.map Prod.snd).length=l.length:=by simp
     have lgl:(logs l).length=l.length:=by simp [logs]
     have hS:=xc0 w.Plan _ (rfl:w.Sites.map eS=_) c' w.Clients (cut w.Net n) (write w.Log (logs l)) out (by omega) (by omega) (fun x hx=>by have:=jn hcl (y2 x hx).1; omega)
     refine xd (E:={ E0 with keep:=[5002,9002,15009,16002] }) xb xc (fn:=Go.Proofs.Tryz.f208) (by kernel_rfl) (by kernel_rfl) (fun hb=>?_)
     conv=>whnf
     repeat' first|((first|refine sN ?_|refine dC ?_|(refine dZ ?_;refine dI ?_)|refine vM ?_|refine vD ?_|refine mS ?_|(refine xa ?_ ?_<;>intro _)|refine ⟨_,xl _ _ _,?_⟩|refine w64 (by omega) (by omega) ?_|refine ioN (by omega) (by omega) ?_|refine rwC hmk ?_|refine ⟨_,hC,?_⟩|refine ⟨_,hH,?_⟩)<;>conv=>whnf)
     all_goals first
      | (exfalso; clear hb hC hH hS hm y1 y2 y3; simp_all; done)
      | skip
     refine Vc.loop1 (fun (i:Nat)=>i≤l.length) (fun i=>updL [4,8,13,14,15,91,92,93] [(16,I i)] [(320141,.arr 230 ((write w.Log ((logs l).take i)).map eO) false)]) (fun i=>l.length - i) 0 (Nat.zero_le _) ?_ (fun i hi=>?_)
     · repeat' (first|exact True.intro|((conv=>whnf);first|exact True.intro|refine ⟨by rfl,?_⟩|refine ⟨by first|omega|(show (_:Int)=_;first|omega|(dsimp only;omega))|exact (by simp [write]),?_⟩|refine ⟨?_,?_⟩))
     · conv=>whnf
       (repeat' first|((first|refine sN ?_|refine dC ?_|(refine dZ ?_;refine dI ?_)|refine vM ?_|refine vD ?_|refine mS ?_)<;>conv=>whnf))
       refine xg (fun g=>?_) (fun g=>?_)
       all_goals conv=>whnf
       · have hil:i<l.length:=by omega
         have hmem:=y3 _ (xof hil)
         have hW:=xfh w.Plan _ (rfl:w.Sites.map eS=_) c' w.Clients (cut w.Net n) (write w.Log ((logs l).take i)) ((l.map Prod.fst).getD i Call.nil) ((l.map Prod.snd).getD i Rslt.nil) (by have:=kd hmem.1; simp only at this; omega) (by have:=(yj.1 hmem.2).2.2.1; simp only at this; omega)
         rw [← xu6 hil,xqj (by omega)] at hW
         repeat' first|((first|refine sN ?_|refine dC ?_|(refine dZ ?_;refine dI ?_)|refine vM ?_|refine vD ?_|refine mS ?_|(refine xa ?_ ?_<;>intro _)|refine ixN (enc:=eC) Call.nil (by omega) ?_|refine ixN (enc:=eR) Rslt.nil (by omega) ?_|refine ⟨_,hW,?_⟩|refine w64 (by omega) (by omega) ?_)<;>conv=>whnf)
         refine ⟨i+1,by omega,by simp only; omega,?_⟩
         exact wk
       · have e:(logs l).take i=logs l:=List.take_of_length_le (by omega)
         rw [e]
         repeat' first|((first|refine sN ?_|refine dC ?_|(refine dZ ?_;refine dI ?_)|refine vM ?_|refine vD ?_|refine mS ?_|(refine xa ?_ ?_<;>intro _)|refine ⟨_,hS,?_⟩)<;>conv=>whnf)
         all_goals first
          | exact ⟨rfl,rfl⟩
          | trace_state
end Cc
end
section
namespace Go.AM
open Go
set_option maxRecDepth 100000
theorem Sem.give {P:Program} {f:Nat} {cs:List AV} {a:AV} {res:TV} (h:Sem P f [(.own,.agg cs),(.pure,.one a)] [] res):Sem P f [(.own,.agg cs),(.own,.one a)] [] res:=by
 refine ⟨h.1,fun w Z io vals fin hg hin h1 h2 h3 h4=>?_⟩
 have hio:io=none:=by
  rcases h1 with h1|⟨lo,hi,v,hm⟩
  · exact h1
  · simp at hm
 subst hio
 cases hin with
 | cons i1 t =>
   cases t with
   | cons i2 t2 =>
     cases t2
     cases i1 with
     | oagg o1 =>
       cases i2 with
       | oone o2 =>
         rename_i f1 x2 f2 xs
         rw [List.append_nil] at h2 h3
         obtain ⟨n1,n2,n3⟩:=List.nodup_append.1 h2
         refine (h.2 w (fun b=>Z b∨b∈f2) none _ (f1++[]) (hg.mono (fun b hb=>.inl hb) (fun _ _=>rfl)) (.cons (.oagg (xlc o1 fun b hb=>.inl hb)) (.cons (.pone (o2.rd (fun b hb=>.inr hb) fun b hb=>.inl hb)) .nil)) (.inl rfl) (by rw [List.append_nil]; exact n1) (fun b hb=>?_) (fun b hb=>?_)).mono ?_
         · rw [List.append_nil] at hb
           obtain ⟨q1,q2,q3⟩:=h3 b (List.mem_append_left _ hb)
           exact ⟨q1,fun hz=>hz.elim q2 fun h'=>n3 b hb b h' rfl,q3⟩
         · rcases hb with hb|hb
           · exact h4 b hb
           · exact ⟨(h3 b (List.mem_append_right _ hb)).1,fun i hi=>by cases hi⟩
         · rintro e w' ⟨v,rfl,Z',fr,g,p1,p2,p3,p4,p5,p6,p7⟩
           rw [List.append_nil] at p1 p3 p7
           rw [List.append_nil]
           have hg0:g=[]:=by cases p5 with|own t=>cases t with|pure t=>cases t; rfl
           subst hg0
           refine ⟨v,rfl,Z',fr,[],⟨p1.os,p1.tape,p1.output,p1.size,fun k hk hn hi=>p1.blk k hk (fun h'=>hn (List.mem_append_left _ h')) hi,p1.iob⟩,fun b hb=>p2 b (.inl hb),fun b hb=>?_,p4,.own (.own .nil),p6,fun b hb=>?_⟩
           · obtain ⟨q1,q2,q3⟩:=p3 b hb
             refine ⟨?_,q2,q3⟩
             rcases q1 with (q|q)|q|q
             · exact .inl q
             · exact .inr (.inl (List.mem_append_right _ q))
             · exact .inr (.inl (List.mem_append_left _ q))
             · exact .inr (.inr q)
           · obtain ⟨q1,q2,q3,q4⟩:=p7 b hb
             exact ⟨q1.elim (fun h'=>.inl (List.mem_append_left _ h')) .inr,q2,q3,q4⟩
end Go.AM
end
section
namespace Cc
open Go Go.AM
set_option maxRecDepth 100000
set_option maxHeartbeats 16000000
theorem xne {w:World} (hw:WorldF w):∀ x∈w.Clients,0≤x.Seq∧x.Seq≤300:=fun x hx=>by
 obtain ⟨i,hi,rfl⟩:=xg3 hx
 have h:=zi.1 hw.c i hi
 unfold clientB at h
 rw [Bool.and_eq_true,ve] at h
 have h:=h.1
 simp only [Bool.and_eq_true] at h
 exact xf.1 h.1.1.1
theorem xte {w:World} {k a b:Int} {l:List Int} (h:¬ (1≤k∧k≤10)):step w ⟨k,a,b,l⟩=w:=by
 unfold step
 simp only
 rw [if_neg (by omega),if_neg (by omega),if_neg (by omega),if_neg (by omega),if_neg (by omega),if_neg (by omega),if_neg (by omega),if_neg (by omega),if_neg (by omega),if_neg (by omega)]
theorem xnf (w:World) (e:Event) (hw:WorldF w) (ha:e.Args.length≤1000000):Sem P 114 [(.own,.agg (oWd w)),(.pure,.one (sPs (partsOf w.Plan.Acts))),(.pure,.one (sBs (pinsOf w.Plan.Acts))),(.pure,.agg (aE e))] [] (.agg (oWd (step w e))):=by
 have hp:=hw.p.ok
 have hcl:=xu hp
 have hcl4:=xf.1 hcl
 have g3:=yp hp
 have lm:(w.Net.map eM).length=w.Net.length:=List.length_map ..
 have hnl:=hw.nl
 have hcu:=fun n=>@xab w.Net n
 obtain ⟨k,n,act,args⟩:=e
 simp only at ha
 show Sem P 114 [(.own,.agg (oWd w)),(.pure,.one (sPs (partsOf w.Plan.Acts))),(.pure,.one (sBs (pinsOf w.Plan.Acts))),(.pure,.agg [eI k,eI n,eI act,sI args])] [] (.agg (oWd (step w ⟨k,n,act,args⟩)))
 by_cases hk:1≤k∧k≤10
 · have hk:k=1∨k=2∨k=3∨k=4∨k=5∨k=6∨k=7∨k=8∨k=9∨k=10:=by omega
   rcases hk with rfl|rfl|rfl|rfl|rfl|rfl|rfl|rfl|rfl|rfl
   · have hC:=xm8 w n act args hcl (by have:=hw.cl; omega) hw.ll (xne hw) ha
     refine xd (E:={ E0 with keep:=[4007,7008,9005,11003,14008,16006,18003,20003] }) xb xc (fn:=Go.Proofs.Tryz.f114) (by kernel_rfl) (by kernel_rfl) (fun hb=>?_)
     conv=>whnf
     repeat' first|((first|refine sN ?_|refine dC ?_|(refine dZ ?_;refine dI ?_)|refine vM ?_|refine vD ?_|refine mS ?_|(refine xa ?_ ?_<;>intro _)|refine ⟨_,hC,?_⟩)<;>conv=>whnf)
     all_goals first
      | exact ⟨rfl,rfl⟩
      | (exfalso; clear hb hC; simp_all; done)
      | trace_state
   · have hC:=xg4 w n false hw
     refine xd (E:={ E0 with keep:=[4007,7008,9005,11003,14008,16006,18003,20003] }) xb xc (fn:=Go.Proofs.Tryz.f114) (by kernel_rfl) (by kernel_rfl) (fun hb=>?_)
     conv=>whnf
     repeat' first|((first|refine sN ?_|refine dC ?_|(refine dZ ?_;refine dI ?_)|refine vM ?_|refine vD ?_|refine mS ?_|(refine xa ?_ ?_<;>intro _)|refine ⟨_,hC,?_⟩)<;>conv=>whnf)
     all_goals first
      | exact ⟨rfl,rfl⟩
      | (exfalso; clear hb hC; simp_all; done)
      | trace_state
   · have hC:=xg4 w n true hw
     refine xd (E:={ E0 with keep:=[4007,7008,9005,11003,14008,16006,18003,20003] }) xb xc (fn:=Go.Proofs.Tryz.f114) (by kernel_rfl) (by kernel_rfl) (fun hb=>?_)
     conv=>whnf
     repeat' first|((first|refine sN ?_|refine dC ?_|(refine dZ ?_;refine dI ?_)|refine vM ?_|refine vD ?_|refine mS ?_|(refine xa ?_ ?_<;>intro _)|refine ⟨_,hC,?_⟩)<;>conv=>whnf)
     all_goals first
      | exact ⟨rfl,rfl⟩
      | (exfalso; clear hb hC; simp_all; done)
      | trace_state
   · have hC:=xlp w n hw
     refine xd (E:={ E0 with keep:=[4007,7008,9005,11003,14008,16006,18003,20003] }) xb xc (fn:=Go.Proofs.Tryz.f114) (by kernel_rfl) (by kernel_rfl) (fun hb=>?_)
     conv=>whnf
     repeat' first|((first|refine sN ?_|refine dC ?_|(refine dZ ?_;refine dI ?_)|refine vM ?_|refine vD ?_|refine mS ?_|(refine xa ?_ ?_<;>intro _)|refine ⟨_,hC,?_⟩)<;>conv=>whnf)
     all_goals first
      | exact ⟨rfl,rfl⟩
      | (exfalso; clear hb hC; simp_all; done)
      | trace_state
   · have hC:=xln w n (by omega)
     refine xd (E:={ E0 with keep:=[4007,7008,9005,11003,14008,16006,18003,20003] }) xb xc (fn:=Go.Proofs.Tryz.f114) (by kernel_rfl) (by kernel_rfl) (fun hb=>?_)
     conv=>whnf
     repeat' first|((first|refine sN ?_|refine dC ?_|(refine dZ ?_;refine dI ?_)|refine vM ?_|refine vD ?_|refine mS ?_|(refine xa ?_ ?_<;>intro _)|refine ⟨_,hC,?_⟩)<;>conv=>whnf)
     all_goals first
      | exact ⟨rfl,rfl⟩
      | (exfalso; clear hb hC; simp_all; done)
      | trace_state
   · cases h:inB n 0 (w.Net.length - 1) with
     | false =>
       have e:step w ⟨6,n,act,args⟩=w:=by
        show (match (if 0≤n then w.Net[n.toNat]? else none) with
         | some m=>{ w with Net:=send w.Net [m] }
         | none=>w)=w
        have:(if 0≤n then w.Net[n.toNat]? else none)=none:=by
         split
         · refine List.getElem?_eq_none ?_
           have:¬ (0≤n∧n≤w.Net.length - 1):=fun h'=>by rw [xf.2 h'] at h; cases h
           omega
         · rfl
        rw [this]
       rw [e]
       have hI:=xl n 0 (w.Net.length - 1)
       rw [h] at hI
       refine xd (E:={ E0 with keep:=[4007,7008,9005,11003,14008,16006,18003,20003] }) xb xc (fn:=Go.Proofs.Tryz.f114) (by kernel_rfl) (by kernel_rfl) (fun hb=>?_)
       conv=>whnf
       repeat' first|((first|refine sN ?_|refine dC ?_|(refine dZ ?_;refine dI ?_)|refine vM ?_|refine vD ?_|refine mS ?_|(refine xa ?_ ?_<;>intro _)|refine ⟨_,xl _ _ _,?_⟩|refine w64 (by omega) (by omega) ?_)<;>conv=>whnf)
       all_goals first
        | exact ⟨rfl,rfl⟩
        | (exfalso; simp_all; done)
        | trace_state
     | true =>
       have hn:=xf.1 h
       have e:step w ⟨6,n,act,args⟩={ w with Net:=send w.Net [w.Net.getD n.toNat default] }:=by
        show (match (if 0≤n then w.Net[n.toNat]? else none) with
         | some m=>{ w with Net:=send w.Net [m] }
         | none=>w)=_
        have:(if 0≤n then w.Net[n.toNat]? else none)=some (w.Net.getD n.toNat default):=by
         rw [if_pos hn.1,List.getD_eq_getElem?_getD,List.getElem?_eq_getElem (by omega)]; rfl
        rw [this]
       rw [e]
       have hm:msgB w.Plan (w.Net.getD n.toNat default)=true:=hw.n _ (xx (by omega))
       have hS:=Sem.give (xeh w [w.Net.getD n.toNat default] (by simp) (by omega) (fun m h=>by rw [List.mem_singleton.1 h]; have:=jn hcl hm; omega))
       refine xd (E:={ E0 with keep:=[14008],M:=(210,[.own,.own])::M0 }) xb xc (fn:=Go.Proofs.Tryz.f114) (by kernel_rfl) (by kernel_rfl) (fun hb=>?_)
       conv=>whnf
       repeat' first|((first|refine sN ?_|refine dC ?_|(refine dZ ?_;refine dI ?_)|refine vM ?_|refine vD ?_|refine mS ?_|(refine xa ?_ ?_<;>intro _)|refine ⟨_,xl _ _ _,?_⟩|refine w64 (by omega) (by omega) ?_|refine ioN (by omega) (by omega) ?_|refine rwN (enc:=eM) default (by omega) ?_|refine ⟨_,hS,?_⟩)<;>conv=>whnf)
       all_goals first
        | exact ⟨rfl,rfl⟩
        | (exfalso; clear hb hS hm; simp_all; done)
        | trace_state
   · have hT:=xsw w.Plan w.Clerk hw.k.gl (by omega) (by have:=(xh.1 hw.k.b).1; omega) (by have:=(yy hcl hw.k.d).2; omega)
     have hto:=xn4 hw.k
     have hlt:(clerkTick w.Clerk).length≤1000:=by
      unfold clerkTick
      have:=hw.k.gl
      split
      · split<;>simp [pacts,freezes]<;>omega
      · simp
     have hC:=xeh w (clerkTick w.Clerk) hlt (by omega) (fun m hm=>by have:=jn hcl (hto m hm).1; omega)
     refine xd (E:={ E0 with keep:=[4007,7008,9005,11003,14008,16006,18003,20003] }) xb xc (fn:=Go.Proofs.Tryz.f114) (by kernel_rfl) (by kernel_rfl) (fun hb=>?_)
     conv=>whnf
     repeat' first|((first|refine sN ?_|refine dC ?_|(refine dZ ?_;refine dI ?_)|refine vM ?_|refine vD ?_|refine mS ?_|(refine xa ?_ ?_<;>intro _)|refine ⟨_,hT,?_⟩|refine ⟨_,hC,?_⟩)<;>conv=>whnf)
     all_goals first
      | exact ⟨rfl,rfl⟩
      | (exfalso; clear hb hC; simp_all; done)
      | trace_state
   · have hC:=xiw w n false
     refine xd (E:={ E0 with keep:=[4007,7008,9005,11003,14008,16006,18003,20003] }) xb xc (fn:=Go.Proofs.Tryz.f114) (by kernel_rfl) (by kernel_rfl) (fun hb=>?_)
     conv=>whnf
     repeat' first|((first|refine sN ?_|refine dC ?_|(refine dZ ?_;refine dI ?_)|refine vM ?_|refine vD ?_|refine mS ?_|(refine xa ?_ ?_<;>intro _)|refine ⟨_,hC,?_⟩)<;>conv=>whnf)
     all_goals first
      | exact ⟨rfl,rfl⟩
      | (exfalso; clear hb hC; simp_all; done)
      | trace_state
   · have hC:=xiw w n true
     refine xd (E:={ E0 with keep:=[4007,7008,9005,11003,14008,16006,18003,20003] }) xb xc (fn:=Go.Proofs.Tryz.f114) (by kernel_rfl) (by kernel_rfl) (fun hb=>?_)
     conv=>whnf
     repeat' first|((first|refine sN ?_|refine dC ?_|(refine dZ ?_;refine dI ?_)|refine vM ?_|refine vD ?_|refine mS ?_|(refine xa ?_ ?_<;>intro _)|refine ⟨_,hC,?_⟩)<;>conv=>whnf)
     all_goals first
      | exact ⟨rfl,rfl⟩
      | (exfalso; clear hb hC; simp_all; done)
      | trace_state
   · have hz:=qv hw.k hcl g3
     have hC:=xp4 w.Plan w.Clerk (decide (n>0)) (by omega) hw.k.gl (by omega)
     refine xd (E:={ E0 with keep:=[4007,7008,9005,11003,14008,16006,18003,20003] }) xb xc (fn:=Go.Proofs.Tryz.f114) (by kernel_rfl) (by kernel_rfl) (fun hb=>?_)
     conv=>whnf
     repeat' first|((first|refine sN ?_|refine dC ?_|(refine dZ ?_;refine dI ?_)|refine vM ?_|refine vD ?_|refine mS ?_|(refine xa ?_ ?_<;>intro _)|refine ⟨_,hC,?_⟩)<;>conv=>whnf)
     all_goals first
      | exact ⟨rfl,rfl⟩
      | (exfalso; clear hb hC; simp_all; done)
      | trace_state
 · rw [xte hk]
   refine xd (E:={ E0 with keep:=[4007,7008,9005,11003,14008,16006,18003,20003] }) xb xc (fn:=Go.Proofs.Tryz.f114) (by kernel_rfl) (by kernel_rfl) (fun hb=>?_)
   conv=>whnf
   repeat' first|((first|refine sN ?_|refine dC ?_|(refine dZ ?_;refine dI ?_)|refine vM ?_|refine vD ?_|refine mS ?_|(refine xa ?_ ?_<;>intro _))<;>conv=>whnf)
   all_goals first
    | exact ⟨rfl,rfl⟩
    | (exfalso; clear hb; simp only [beq_iff_eq,decide_eq_true_eq] at *; omega)
    | trace_state
theorem xu8 (w:World):∀ (k:Nat) (a b:AV),(oWd w)[k]?=some a→(eWd w)[k]?=some b→Cold a b:=fun k a b ha hb=>by
 match k,ha,hb with
 | 0,ha,hb=>cases ha; cases hb; exact xo
 | 1,ha,hb=>cases ha; cases hb; exact x7
 | 2,ha,hb=>cases ha; cases hb; exact x7
 | 3,ha,hb=>cases ha; cases hb; exact x7
 | 4,ha,hb=>cases ha; cases hb; exact xj
 | 5,ha,hb=>cases ha; cases hb; exact xo
 | 6,ha,hb=>cases ha; cases hb; exact xo
 | 7,ha,hb=>cases ha; cases hb; exact x7
 | 8,ha,hb=>cases ha; cases hb; exact x7
 | 9,ha,hb=>cases ha; cases hb; exact x7
 | 10,ha,hb=>cases ha; cases hb; exact x7
 | 11,ha,hb=>cases ha; cases hb; exact xj
 | 12,ha,hb=>cases ha; cases hb; exact xj
 | 13,ha,hb=>cases ha; cases hb; exact xj
 | k+14,ha,hb=>simp at ha
theorem xu9 (w:World):∀ (k:Nat) (a b:AV),(aWd w)[k]?=some a→(eWd w)[k]?=some b→Cold a b:=fun k a b ha hb=>by
 match k,ha,hb with
 | 0,ha,hb=>cases ha; cases hb; exact xo
 | 1,ha,hb=>cases ha; cases hb; exact xj
 | 2,ha,hb=>cases ha; cases hb; exact xj
 | 3,ha,hb=>cases ha; cases hb; exact xj
 | 4,ha,hb=>cases ha; cases hb; exact xj
 | 5,ha,hb=>cases ha; cases hb; exact xo
 | 6,ha,hb=>cases ha; cases hb; exact xo
 | 7,ha,hb=>cases ha; cases hb; exact xj
 | 8,ha,hb=>cases ha; cases hb; exact xj
 | 9,ha,hb=>cases ha; cases hb; exact xj
 | 10,ha,hb=>cases ha; cases hb; exact xj
 | 11,ha,hb=>cases ha; cases hb; exact xj
 | 12,ha,hb=>cases ha; cases hb; exact xj
 | 13,ha,hb=>cases ha; cases hb; exact xj
 | k+14,ha,hb=>simp at ha
theorem xtf (w:World) (e:Event) (ha:e.Args.length≤1000000):Sem P 47 [(.pure,.agg (aWd w)),(.pure,.agg (aE e))] [] (.agg (eWd (wldStep w e))):=by
 cases h:wldOk w with
 | false =>
   have en:wldStep w e=World.nil:=by unfold wldStep; rw [h]; rfl
   rw [en]
   refine Sem.cold (cs:=aWd World.nil) rfl (xu9 _) ?_
   cases hp:planOk w.Plan with
   | false =>
     refine xd (E:=E0) xb xc (fn:=Go.Proofs.Tryz.f47) (by kernel_rfl) (by kernel_rfl) (fun hb=>?_)
     conv=>whnf
     repeat' first|((first|refine sN ?_|refine dC ?_|(refine dZ ?_;refine dI ?_)|refine vM ?_|refine vD ?_|refine mS ?_|(refine xa ?_ ?_<;>intro _)|refine ⟨_,qh w.Plan,?_⟩)<;>conv=>whnf)
     all_goals first
      | exact ⟨rfl,rfl⟩
      | (exfalso; simp_all; done)
      | trace_state
   | true =>
     refine xd (E:=E0) xb xc (fn:=Go.Proofs.Tryz.f47) (by kernel_rfl) (by kernel_rfl) (fun hb=>?_)
     conv=>whnf
     repeat' first|((first|refine sN ?_|refine dC ?_|(refine dZ ?_;refine dI ?_)|refine vM ?_|refine vD ?_|refine mS ?_|(refine xa ?_ ?_<;>intro _)|refine ⟨_,qh w.Plan,?_⟩|refine ⟨_,xd9 w.Plan.Acts (xcw hp),?_⟩|refine ⟨_,xfe w hp,?_⟩)<;>conv=>whnf)
     all_goals first
      | exact ⟨rfl,rfl⟩
      | (exfalso; simp_all; done)
      | trace_state
 | true =>
   have hw:=worldF.1 h
   have hp:=hw.p.ok
   have en:wldStep w e=step w e:=by unfold wldStep; rw [h]; rfl
   rw [en]
   have hz:=xm7 hw
   have hpl:=xal hp
   have hC:=xhx w (by omega) (xn6 (xau hp)) (by omega) (by omega)
   have hD:=xnf w e hw ha
   refine Sem.cold (cs:=oWd (step w e)) rfl (xu8 _) ?_
   refine xd (E:={ E0 with keep:=[7001,7005] }) xb xc (fn:=Go.Proofs.Tryz.f47) (by kernel_rfl) (by kernel_rfl) (fun hb=>?_)
   conv=>whnf
   repeat' first|((first|refine sN ?_|refine dC ?_|(refine dZ ?_;refine dI ?_)|refine vM ?_|refine vD ?_|refine mS ?_|(refine xa ?_ ?_<;>intro _)|refine ⟨_,qh w.Plan,?_⟩|refine ⟨_,xd9 w.Plan.Acts (xcw hp),?_⟩|refine ⟨_,xfe w hp,?_⟩|refine ⟨_,hC,?_⟩|refine ⟨_,hD,?_⟩)<;>conv=>whnf)
   all_goals first
    | exact ⟨rfl,rfl⟩
    | (exfalso; clear hb hC hD; simp_all; done)
    | trace_state
end Cc
end
section
namespace Cc
open Go Go.AM
set_option maxRecDepth 100000
end Cc
end
section
namespace Cc
open Go Go.AM
set_option maxRecDepth 100000
set_option maxHeartbeats 16000000
theorem xql (w:World) (e:Event) (hw:WorldF w) (ha:e.Args.length≤3):Sem P 47 [(.pure,.agg (aWd w)),(.pure,.agg (aE e))] [] (.agg (eWd (step w e))):=by
 have h:=xtf w e (by omega)
 have e':wldStep w e=step w e:=by unfold wldStep; rw [worldF.2 hw]; rfl
 rw [e'] at h; exact h
theorem km (l:List Event) (x:Event):l.map eE++[eE x]=(l++[x]).map eE:=by simp
theorem xqm (bs:List UInt8) (a n:Int) (w:World) (hw:WorldF w) (ha:0≤a∧a≤4000000000) (hn:0≤n∧n≤1000) (hbs:bs.length≤2000) :
 ∃ os res,(∃ (l:List Event) (v:World) (a':Int),(a≤a'∧a'≤a+1+n*100)∧WorldF v∧l.length≤n∧(∀ e∈l,e.Args.length≤3)∧res=.tup [(false,[sEs l]),(true,eWd v)]∧os=aRd bs a')∧Sem P 96 [(.io 0 0,.agg (aRd bs a)),(.pure,.agg (aWd w)),(.pure,I n)] [.agg os] res:=by
 have key:∃ res outs,(∃ (l:List Event) (v:World) (a':Int),(a≤a'∧a'≤a+1+n*100)∧WorldF v∧l.length≤n∧(∀ e∈l,e.Args.length≤3)∧res=.tup [(false,[sEs l]),(true,eWd v)]∧outs=[.agg (aRd bs a')])∧Sem P 96 [(.io 0 0,.agg (aRd bs a)),(.pure,.agg (aWd w)),(.pure,I n)] outs res:=by
  refine x6 (E:=E0) xb xc (fn:=Go.Proofs.Tryz.f96) (by kernel_rfl) (by kernel_rfl) ?_
  conv=>whnf
  repeat' first|((first|refine sN ?_|refine dC ?_|(refine dZ ?_;refine dI ?_)|refine vM ?_|refine vD ?_|refine mS ?_|(refine xa ?_ ?_<;>intro _))<;>conv=>whnf)|(refine callIo (xk bs _ _ (by first|omega|(dsimp only; omega)|(simp<;>omega)|(simp_all<;>omega)) (by first|omega|(dsimp only; omega)|(simp<;>omega)|(simp_all<;>omega)) hbs) ?_; rintro _ _ ⟨m,hm,rfl,rfl⟩;conv=>whnf)
  refine Vc.loop6 (fun (k:Nat) (out:List Event) (v:World) (story what b:Int)=>(k:Int)≤n∧out.length=k∧(∀ e∈out,e.Args.length≤3)∧WorldF v∧(0≤story∧story≤14)∧a≤b∧b≤a+1+k*100) (fun k out v story what b=>updL [0,2,4,6,7,9,77,78] [(12,I k),(8,.one (.ref 128000)),(10,I story),(11,I what)] [(64000,.box (eWd v)),(128000,.arr 94 (out.map eE) false),(63,.box (aRd bs b))]) (fun k _ _ _ _ _=>n.toNat - k) 0 [] w 14 0 (a+1) ⟨by omega,rfl,by simp,hw,by omega,by omega,by omega⟩ ?_ (fun k out v story what b hi=>?_)
  · exact wk
  · obtain ⟨hk,ho,hoe,hv,hst,b1,b2⟩:=hi
    obtain ⟨⟨s1,s2⟩,⟨c1,c2⟩,⟨p1,p2⟩,hnn,hq⟩:=kl hv
    have ls:(v.Sites.map eS).length=v.Sites.length:=List.length_map ..
    have lw:(v.Clerk.Wants.map eC).length=v.Clerk.Wants.length:=List.length_map ..
    have lo:(out.map eE).length=out.length:=List.length_map ..
    conv=>whnf
    repeat' first|((first|refine sN ?_|refine dC ?_|(refine dZ ?_;refine dI ?_)|refine vM ?_|refine vD ?_|refine mS ?_|(refine xa ?_ ?_<;>intro _))<;>conv=>whnf)|(refine callIo (xk bs _ _ (by omega) (by omega) hbs) ?_; rintro _ _ ⟨m',hm',rfl,rfl⟩;conv=>whnf)|(refine callIo (xqe bs _ _ hv (by omega) hbs) ?_; rintro _ _ ⟨e,b',hb',he,rfl,rfl⟩;conv=>whnf)|(refine callIo (xqf bs _ _ _ _ hv (by omega) hbs) ?_; rintro _ _ ⟨e',b',hb',he',rfl,rfl⟩;conv=>whnf)|(refine callIo (xnc bs _ _ _ hv (by omega) (by omega) hbs) ?_; rintro _ _ ⟨e',b',hb',he',rfl,rfl⟩;conv=>whnf)|((first|refine ⟨_,xql v _ hv (by assumption),?_⟩)<;>conv=>whnf)|(refine apN (by rw [lo]; show _+1≤_; omega) ?_;conv=>whnf)|(refine w64 (by first|omega|(dsimp only; omega)) (by first|omega|(dsimp only; omega)) ?_;conv=>whnf)
    all_goals first
     | (refine ⟨k+1,out++[e'],step v e',story+1,what,b',⟨by simp only [decide_eq_true_eq] at *; omega,by simp only [List.length_append,List.length_singleton]; omega,fun x hx=>?_,xac hv _,by simp only [decide_eq_true_eq,decide_eq_false_iff_not] at *; omega,by omega,by simp only [Int.natCast_add,Int.natCast_one,Int.add_mul,Int.one_mul]; omega⟩,by simp only [decide_eq_true_eq] at *; omega,?_⟩
        · rcases List.mem_append.1 hx with h|h
          · exact hoe x h
          · rw [List.mem_singleton.1 h]; exact he'
        · repeat' (first|exact True.intro|((conv=>whnf);first|exact True.intro|refine ⟨by rfl,?_⟩|refine ⟨by first|omega|(show (_:Int)=_;first|omega|(dsimp only;omega))|exact km _ _,?_⟩|refine ⟨?_,?_⟩))
        done)
     | (refine ⟨k+1,out++[e'],step v e',1,m',b',⟨by simp only [decide_eq_true_eq] at *; omega,by simp only [List.length_append,List.length_singleton]; omega,fun x hx=>?_,xac hv _,by simp only [decide_eq_true_eq,decide_eq_false_iff_not] at *; omega,by omega,by simp only [Int.natCast_add,Int.natCast_one,Int.add_mul,Int.one_mul]; omega⟩,by simp only [decide_eq_true_eq] at *; omega,?_⟩
        · rcases List.mem_append.1 hx with h|h
          · exact hoe x h
          · rw [List.mem_singleton.1 h]; exact he'
        · repeat' (first|exact True.intro|((conv=>whnf);first|exact True.intro|refine ⟨by rfl,?_⟩|refine ⟨by first|omega|(show (_:Int)=_;first|omega|(dsimp only;omega))|exact km _ _,?_⟩|refine ⟨?_,?_⟩))
        done)
     | (refine ⟨k+1,out++[e'],step v e',story,what,b',⟨by simp only [decide_eq_true_eq] at *; omega,by simp only [List.length_append,List.length_singleton]; omega,fun x hx=>?_,xac hv _,by simp only [decide_eq_true_eq,decide_eq_false_iff_not] at *; omega,by omega,by simp only [Int.natCast_add,Int.natCast_one,Int.add_mul,Int.one_mul]; omega⟩,by simp only [decide_eq_true_eq] at *; omega,?_⟩
        · rcases List.mem_append.1 hx with h|h
          · exact hoe x h
          · rw [List.mem_singleton.1 h]; exact he'
        · repeat' (first|exact True.intro|((conv=>whnf);first|exact True.intro|refine ⟨by rfl,?_⟩|refine ⟨by first|omega|(show (_:Int)=_;first|omega|(dsimp only;omega))|exact km _ _,?_⟩|refine ⟨?_,?_⟩))
        done)
     | (refine ⟨k+1,out++[e],step v e,story,what,b',⟨by simp only [decide_eq_true_eq] at *; omega,by simp only [List.length_append,List.length_singleton]; omega,fun x hx=>?_,xac hv _,by simp only [decide_eq_true_eq,decide_eq_false_iff_not] at *; omega,by omega,by simp only [Int.natCast_add,Int.natCast_one,Int.add_mul,Int.one_mul]; omega⟩,by simp only [decide_eq_true_eq] at *; omega,?_⟩
        · rcases List.mem_append.1 hx with h|h
          · exact hoe x h
          · rw [List.mem_singleton.1 h]; exact he
        · repeat' (first|exact True.intro|((conv=>whnf);first|exact True.intro|refine ⟨by rfl,?_⟩|refine ⟨by first|omega|(show (_:Int)=_;first|omega|(dsimp only;omega))|exact km _ _,?_⟩|refine ⟨?_,?_⟩))
        done)
     | (refine ⟨k+1,out++[e],step v e,story,what,(b'+1),⟨by simp only [decide_eq_true_eq] at *; omega,by simp only [List.length_append,List.length_singleton]; omega,fun x hx=>?_,xac hv _,by simp only [decide_eq_true_eq,decide_eq_false_iff_not] at *; omega,by omega,by simp only [Int.natCast_add,Int.natCast_one,Int.add_mul,Int.one_mul]; omega⟩,by simp only [decide_eq_true_eq] at *; omega,?_⟩
        · rcases List.mem_append.1 hx with h|h
          · exact hoe x h
          · rw [List.mem_singleton.1 h]; exact he
        · repeat' (first|exact True.intro|((conv=>whnf);first|exact True.intro|refine ⟨by rfl,?_⟩|refine ⟨by first|omega|(show (_:Int)=_;first|omega|(dsimp only;omega))|exact km _ _,?_⟩|refine ⟨?_,?_⟩))
        done)
     | (refine ⟨k+1,out++[e],step v e,story,what,(b'+1+1),⟨by simp only [decide_eq_true_eq] at *; omega,by simp only [List.length_append,List.length_singleton]; omega,fun x hx=>?_,xac hv _,by simp only [decide_eq_true_eq,decide_eq_false_iff_not] at *; omega,by omega,by simp only [Int.natCast_add,Int.natCast_one,Int.add_mul,Int.one_mul]; omega⟩,by simp only [decide_eq_true_eq] at *; omega,?_⟩
        · rcases List.mem_append.1 hx with h|h
          · exact hoe x h
          · rw [List.mem_singleton.1 h]; exact he
        · repeat' (first|exact True.intro|((conv=>whnf);first|exact True.intro|refine ⟨by rfl,?_⟩|refine ⟨by first|omega|(show (_:Int)=_;first|omega|(dsimp only;omega))|exact km _ _,?_⟩|refine ⟨?_,?_⟩))
        done)
     | (exfalso; simp only [decide_eq_true_eq,decide_eq_false_iff_not,gt_iff_lt] at *; omega)
     | (refine ⟨out,v,b,⟨by omega,?_⟩,hv,by omega,hoe,rfl,rfl⟩
        have:(k:Int)*100≤n*100:=Int.mul_le_mul_of_nonneg_right hk (by decide)
        omega)
     | trace_state
 obtain ⟨r,o,⟨l,v,a',h1,h2,h3,h4,h5,rfl⟩,h6⟩:=key
 exact ⟨_,r,⟨l,v,a',h1,h2,h3,h4,h5,rfl⟩,h6⟩
theorem xqn (bs:List UInt8) (a:Int) (ha:0≤a∧a≤3000000000) (hbs:bs.length≤2000) :
 ∃ os res,(∃ (w:World) (a':Int),(a≤a'∧a'≤a+10000)∧WorldF w∧res=.agg (eWd w)∧os=aRd bs a')∧Sem P 71 [(.io 0 0,.agg (aRd bs a))] [.agg os] res:=by
 have key:∃ res outs,(∃ (w:World) (a':Int),(a≤a'∧a'≤a+10000)∧WorldF w∧res=.agg (eWd w)∧outs=[.agg (aRd bs a')])∧Sem P 71 [(.io 0 0,.agg (aRd bs a))] outs res:=by
  refine x6 (E:=E0) xb xc (fn:=Go.Proofs.Tryz.f71) (by kernel_rfl) (by kernel_rfl) ?_
  conv=>whnf
  repeat' first|((first|refine sN ?_|refine dC ?_|(refine dZ ?_;refine dI ?_)|refine vM ?_|refine vD ?_|refine mS ?_|(refine xa ?_ ?_<;>intro _))<;>conv=>whnf)|(refine callIo (xie bs _ (by omega) hbs) ?_; rintro _ _ ⟨p,b',hb',hp,rfl,rfl⟩;conv=>whnf)|((first|refine ⟨_,xm2 p hp,?_⟩)<;>conv=>whnf)|(refine callIo (xk bs _ _ (by omega) (by omega) hbs) ?_; rintro _ _ ⟨n,hn,rfl,rfl⟩;conv=>whnf)|(refine ioN (by first|omega|(dsimp only; omega)|(simp<;>omega)|(simp_all<;>omega)) (by first|omega|(dsimp only; omega)|(simp<;>omega)|(simp_all<;>omega)) ?_;conv=>whnf)|(refine rwI rfl (by first|omega|(dsimp only; omega)|(simp<;>omega)|(simp_all<;>omega)) (by first|omega|(dsimp only; omega)|(simp<;>omega)|(simp_all<;>omega)) fun c hc=>?_;conv=>whnf)|(refine rwN (enc:=rI) 0 (by first|omega|(dsimp only; omega)|(simp<;>omega)|(simp_all<;>omega)) ?_;conv=>whnf)|(refine w64 (by first|omega|(dsimp only; omega)) (by first|omega|(dsimp only; omega)) ?_;conv=>whnf)|(refine apN (by simp; omega) ?_;conv=>whnf)
  have hcb:0≤c∧c≤50:=by
   simp only [unI,List.mem_cons,List.not_mem_nil,or_false] at hc
   omega
  have hw:WorldF (worldNew p):=xmz (planF hp)
  repeat' first|((first|refine sN ?_|refine dC ?_|(refine dZ ?_;refine dI ?_)|refine vM ?_|refine vD ?_|refine mS ?_|(refine xa ?_ ?_<;>intro _))<;>conv=>whnf)|(refine callIo (xqm bs _ _ _ hw (by omega) (by omega) hbs) ?_; rintro _ _ ⟨l,v,b'',hb'',hv,hl,hle,rfl,rfl⟩;conv=>whnf)
  exact ⟨v,_,⟨by omega,by omega⟩,hv,rfl,rfl⟩
 obtain ⟨r,o,⟨w,a',h1,h2,h3,rfl⟩,h4⟩:=key
 exact ⟨_,r,⟨w,a',h1,h2,h3,rfl⟩,h4⟩
end Cc
end
section
namespace Cc
open Go Go.AM
set_option maxRecDepth 100000
set_option maxHeartbeats 4000000
abbrev sBy (bs:List UInt8):AV:=.sl 5 (bytesRows bs)
theorem xqo (bs:List UInt8) (n:Nat):(bytesRows bs).take n=bytesRows (bs.take n):=List.map_take.symm
theorem xtg (bs:List UInt8):∃ res,(∃ cs:List UInt8,cs.length≤2000∧res=.one (.fp [] (aRd cs 0) 0))∧Sem P 50 [(.pure,.one (sBy bs))] [] res:=by
 have lb:(bytesRows bs).length=bs.length:=List.length_map ..
 by_cases h:bs.length≤2000
 · refine ⟨_,⟨bs,h,rfl⟩,?_⟩
   refine xd (E:=E0) xb xc (fn:=Go.Proofs.Tryz.f50) (by kernel_rfl) (by kernel_rfl) (fun hb=>?_)
   conv=>whnf
   repeat' first|((first|refine sN ?_|refine dC ?_|(refine dZ ?_;refine dI ?_)|refine vM ?_|refine vD ?_|refine mS ?_|(refine xa ?_ ?_<;>intro _))<;>conv=>whnf)|(refine slN (by decide) (by decide) (by first|omega|(dsimp only; omega)|(simp<;>omega)|(simp_all<;>omega)) ?_;conv=>whnf)
   all_goals first|exact ⟨rfl,rfl⟩|(exfalso; simp_all; omega)
 · refine ⟨_,⟨bs.take 2000,by simp; omega,rfl⟩,?_⟩
   refine xd (E:=E0) xb xc (fn:=Go.Proofs.Tryz.f50) (by kernel_rfl) (by kernel_rfl) (fun hb=>?_)
   conv=>whnf
   repeat' first|((first|refine sN ?_|refine dC ?_|(refine dZ ?_;refine dI ?_)|refine vM ?_|refine vD ?_|refine mS ?_|(refine xa ?_ ?_<;>intro _))<;>conv=>whnf)|(refine slN (by decide) (by decide) (by first|omega|(dsimp only; omega)|(simp<;>omega)|(simp_all<;>omega)) ?_;conv=>whnf)
   all_goals first|exact ⟨congrArg (fun x=>TV.one (.fp [] [.fr [] 5 x,eI 0] 0)) (xqo _ _),rfl⟩|(exfalso; simp_all; omega)
end Cc
end
section
namespace Cc
open Go Go.AM
set_option maxRecDepth 100000
set_option maxHeartbeats 16000000
theorem xth {p:Plan} {c:Clerk} (hc:ClerkF p c) (hcl:inB p.Clients 0 4=true):∀ g∈c.Got,zG g≤10:=fun g hg=>by
 obtain ⟨i,hi,rfl⟩:=xg3 hg
 cases hh:(c.Got.getD i default).Has with
 | true =>
   obtain ⟨k1,k2⟩:=jy hc hi hh
   have k3:=(xt k1).1
   have k4:=xei hcl k2
   unfold zG; omega
 | false =>
   have:=zi.1 hc.g i hi
   unfold gotB Got.none at this
   rw [hh] at this
   simp only [Bool.not_false,Bool.true_and,Bool.false_and,Bool.or_false,Bool.and_eq_true,List.isEmpty_iff] at this
   unfold zG; rw [this.1,this.2]; simp
def GotR (rows:List (List AV)) (n:Nat):Prop:=rows.length=n∧(∀ j,j<n→∃ x y z,rows[j]?=some [x,y,z])∧∃ gs:List Got,Rowz rows (gs.map eG)∧gs.length=n∧∀ g∈gs,zG g≤10
theorem GotR.init {p:Plan} {c:Clerk} (hc:ClerkF p c) (hcl:inB p.Clients 0 4=true):GotR (c.Got.map aG) c.Got.length:=by
 refine ⟨List.length_map ..,fun j hj=>⟨eB c.Got[j].Has,sI c.Got[j].Added,sI c.Got[j].Seqs,?_⟩,c.Got,xfx _,rfl,xth hc hcl⟩
 rw [List.getElem?_map,List.getElem?_eq_getElem hj]; rfl
theorem GotR.set {rows:List (List AV)} {n i:Nat} {x y:List Int} (h:GotR rows n) (hx:x.length≤5) (hy:y.length≤5):GotR (rows.set i [eB true,fI x,fI y]) n:=by
 obtain ⟨h1,h2,gs,h3,h4,h5⟩:=h
 refine ⟨by rw [List.length_set]; exact h1,fun j hj=>?_,gs.set i ⟨true,x,y⟩,?_,by rw [List.length_set]; exact h4,fun g hg=>?_⟩
 · rw [List.getElem?_set]
   by_cases e:i=j
   · subst e; rw [if_pos rfl,if_pos (by omega)]; exact ⟨_,_,_,rfl⟩
   · rw [if_neg e]; exact h2 j hj
 · have e:(gs.set i ⟨true,x,y⟩).map eG=(gs.map eG).set i [eB true,fI x,fI y]:=List.map_set
   rw [e]
   exact Rowz.set (r:=[eB true,fI x,fI y]) (r':=[eB true,fI x,fI y]) h3 rfl (fun k a b ha hb=>by rw [ha] at hb; cases hb; exact Imp.rfl) i
 · rcases List.mem_or_eq_of_mem_set hg with h|rfl
   · exact h5 g h
   · show x.length+y.length≤10; omega
theorem rwG {rows:List (List AV)} {n i:Nat} {k:List AV→Prop} (h:GotR rows n) (hi:i<n) (hk:∀ x y z,k [x,y,z]):∃ row,rows[i]?=some row∧k row:=by
 obtain ⟨x,y,z,e⟩:=h.2.1 i hi
 exact ⟨_,e,hk x y z⟩
theorem ixDn {p:Plan} {l:List Done} (h:doneOk p l=true) {i:Int} {k:List AV→Prop} (h0:0≤i) (h1:i<l.length) (hk:∀ d:Done,(0≤d.Seq∧d.Seq≤300)→k (eD d)):0≤i∧∃ row,(l.map eD)[i.toNat]?=some row∧k row:=by
 refine ixI Done.nil h0 h1 (hk _ ?_)
 unfold doneOk at h
 simp only [Bool.and_eq_true,List.all_eq_true] at h
 have:=h.2 _ (qz (l:=l) (i:=i.toNat) (d:=Done.nil) (by omega))
 rw [ve] at this
 simp only [Bool.and_eq_true] at this
 exact xf.1 this.1.1.1
theorem xg8 (c:Call):∀ l:List Call,(wantIn l c).length≤l.length+1
 | []=>by simp [wantIn]
 | x::r=>by
   have:=xg8 c r
   rw [xip]
   split
   · simp
   · split
     · split<;>simp
     · simp only [List.length_cons]; omega
theorem xlq {l:List Call} {c:Call} (h1:l.length≤4) (h2:∀ x∈l,x.Args.length≤10) (h3:c.Args.length≤10):(wantIn l c).length≤10∧∀ x∈wantIn l c,x.Args.length≤10:=by
 refine ⟨by have:=xg8 c l; omega,fun x hx=>?_⟩
 rcases xct hx with rfl|hx
 · exact h3
 · exact h2 x hx
theorem xb5 (bs:List UInt8) (a:Int) (w:World) (u:Bool) (r:Int) (b:List Int) (dn:List Done) (ws:List Call) (rows:List (List AV)) (n:Nat) (hw:WorldF w) (hb:b.length≤10) (hd:zDs dn≤100) (hws:ws.length≤10∧∀ x∈ws,x.Args.length≤10) (hR:GotR rows n) (hn:n≤10) (ha:0≤a∧a≤4000000000) (hbs:bs.length≤2000) :
 ∃ os res,(∃ (c':Clerk) (a':Int),(a≤a'∧a'≤a+50)∧res=.agg (eK c')∧os=aRd bs a')∧Sem P 122 [(.io 0 0,.agg (aRd bs a)),(.pure,.agg (aWd w)),(.pure,.agg [eB u,eI r,sI b,sDs dn,sCs ws,.sl 105 rows])] [.agg os] res:=by
 obtain ⟨h1,h2,gs,h3,h4,h5⟩:=hR
 have z1:zs zC ws≤ws.length*10:=kw fun x hx=>by unfold zC; exact hws.2 x hx
 have z2:zs zG gs≤gs.length*10:=kw h5
 have z3:ws.length*10≤10*10:=Nat.mul_le_mul_right _ hws.1
 have z4:gs.length*10≤10*10:=Nat.mul_le_mul_right _ (by omega)
 obtain ⟨os,res,h,hS⟩:=xjb bs a w ⟨u,r,b,dn,ws,gs⟩ hw (by unfold zK zCs zGs; simp only; omega) ha hbs
 refine ⟨os,res,h,Sem.warm (j:=[(.io 0 0,.agg (aRd bs a)),(.pure,.agg (aWd w)),(.pure,.agg (aK ⟨u,r,b,dn,ws,gs⟩))]) (.same (.same (.agg rfl (fun k a b ha hb=>?_) .nil))) hS⟩
 match k,ha,hb with
 | 0,ha,hb=>cases ha; cases hb; exact Imp.rfl
 | 1,ha,hb=>cases ha; cases hb; exact Imp.rfl
 | 2,ha,hb=>cases ha; cases hb; exact Imp.rfl
 | 3,ha,hb=>cases ha; cases hb; exact Imp.rfl
 | 4,ha,hb=>cases ha; cases hb; exact Imp.rfl
 | 5,ha,hb=>cases ha; cases hb; exact xfu h3
 | k+6,ha,hb=>simp at ha
theorem drCk {a m:Int} {bs:List UInt8} {pc:Int} {pa:List (List Line)} {pg pst:List Int} {u:Bool} {r:Int} {b:List Int} {dn:List Done} {ws:List Call} {gs:List Got} {cs:List AV} {w0:World} {os:List TV} {a':Int} (e2:os=[.agg (aRd bs a')]) (hb:a≤a'∧a'≤a+m) (hw:WorldF w0) (h:Colds cs [eB u,eI r,fI b,fDs dn,fCs ws,fGs gs]) :
 ∃ (p:Plan) (c:Clerk) (cs':List AV) (w:World) (a':Int),(a≤a'∧a'≤a+m)∧WorldF w∧Colds cs' (eK c)∧TV.tup [(true,[eI pc,fAs pa,fI pg,fI pst]),(true,cs),(true,eWd w0)]=.tup [(true,ePl p),(true,cs'),(true,eWd w)]∧os=[.agg (aRd bs a')]:=⟨⟨pc,pa,pg,pst⟩,⟨u,r,b,dn,ws,gs⟩,cs,w0,a',hb,hw,h,rfl,e2⟩
theorem xqp (bs:List UInt8) (a k:Int) (ha:0≤a∧a≤2000000000) (hk:1≤k∧k≤1000000) (hbs:bs.length≤2000) :
 ∃ os res,(∃ (p:Plan) (c:Clerk) (w:World) (a':Int),(a≤a'∧a'≤a+12000)∧WorldF w∧res=.tup [(true,ePl p),(true,eK c),(true,eWd w)]∧os=aRd bs a')∧Sem P 49 [(.io 0 0,.agg (aRd bs a)),(.pure,I k)] [.agg os] res:=by
 have key:∃ res outs,(∃ (p:Plan) (c:Clerk) (cs':List AV) (w:World) (a':Int),(a≤a'∧a'≤a+12000)∧WorldF w∧Colds cs' (eK c)∧res=.tup [(true,ePl p),(true,cs'),(true,eWd w)]∧outs=[.agg (aRd bs a')])∧Sem P 49 [(.io 0 0,.agg (aRd bs a)),(.pure,I k)] outs res:=by
  refine x6 (E:={ E0 with keep:=[3002],fz:=[(14,[192132]),(19,[192130,192131,192132,192133])] }) xb xc (fn:=Go.Proofs.Tryz.f49) (by kernel_rfl) (by kernel_rfl) ?_
  conv=>whnf
  repeat' first|((first|refine sN ?_|refine dC ?_|(refine dZ ?_;refine dI ?_)|refine vM ?_|refine vD ?_|refine mS ?_|(refine xa ?_ ?_<;>intro _))<;>conv=>whnf)
  refine callIo (xqn bs _ (by omega) hbs) ?_
  rintro _ _ ⟨w,b0,hb0,hw,rfl,rfl⟩
  conv=>whnf
  have hp:=hw.p.ok
  have hcl:=xu hp
  have hg3:=yp hp
  have hps:=xll hp
  have hzk:=qv hw.k hcl hg3
  have hcp:=zh w.Clerk (by omega)
  obtain ⟨⟨s1,s2⟩,⟨c1,c2⟩,⟨p1,p2⟩,hnn,hq⟩:=kl hw
  have ls:(w.Sites.map eS).length=w.Sites.length:=List.length_map ..
  have hgl:w.Clerk.Got.length=w.Sites.length:=by rw [hw.k.gl,hw.sl]
  have hbl:=(xh.1 hw.k.b).1
  have hdl:=(yy hcl hw.k.d).2
  have hwa:∀ x∈w.Clerk.Wants,x.Args.length≤10:=fun x hx=>by have:=kd (hw.k.w x hx); omega
  repeat' first|((first|refine sN ?_|refine dC ?_|(refine dZ ?_;refine dI ?_)|refine vM ?_|refine vD ?_|refine mS ?_|(refine xa ?_ ?_<;>intro _)|refine ⟨_,hcp,?_⟩)<;>conv=>whnf)
  refine Vc.loop3 (fun (i:Nat) (rows:List (List AV)) (b:Int)=>i≤w.Sites.length∧GotR rows w.Sites.length∧b0≤b∧b≤b0+i) (fun i rows b=>updL [0,1,4,5,6,7,8,11,58,59,60,61,62,63,64,65,66,67,68,69,70,71,72,73,74,75,76,77,78,79,80,81,82,83,84,85,86,87,88,89,90,91,92,93,94,95,96,97,98,99,100,101,102,103,104,105,106,107,108,109,110,111,112,113,114,115,116,117,118,119,120,121,122,123,124,125,126] [(9,I i)] [(192133,.arr 105 rows false),(63,.box (aRd bs b))]) (fun i _ _=>w.Sites.length - i) 0 (w.Clerk.Got.map aG) b0 ⟨Nat.zero_le _,hgl▸GotR.init hw.k hcl,by omega,by omega⟩ ?_ (fun i rows b hi=>?_)
  · exact wk
  · obtain ⟨hi,hR,b1,b2⟩:=hi
    have lr:=hR.1
    obtain ⟨gs,hR3,hR4,hR5⟩:=hR.2.2
    have hcG:Cold (.sl 105 rows) (fGs gs):=xed hR3
    have hG:∀ s n,siteB w.Plan s n=true→Sem P 118 [(.pure,.agg (aS s)),(.pure,I n)] [] (.agg [eI 3,eI (-1),eI n,eI s.Round,eI 0,eI 0,eI 0,sI [],sI s.Added,sI (s.Done.map Done.Seq),sDs []]):=fun s n hs=>by
     have:=xbd hcl hs
     exact xg1 s n (by omega) (by omega)
    conv=>whnf
    (repeat' first|((first|refine sN ?_|refine dC ?_|(refine dZ ?_;refine dI ?_)|refine vM ?_|refine vD ?_|refine mS ?_)<;>conv=>whnf))
    refine xa (fun g=>?_) (fun g=>?_)
    all_goals conv=>whnf
    · have hil:i<w.Sites.length:=by simp only [decide_eq_true_eq] at g; omega
      repeat' first|((first|refine sN ?_|refine dC ?_|(refine dZ ?_;refine dI ?_)|refine vM ?_|refine vD ?_|refine mS ?_|(refine xa ?_ ?_<;>intro _))<;>conv=>whnf)|(refine callIo (xk bs _ 4 (by omega) (by decide) hbs) ?_; rintro _ _ ⟨m,hm,rfl,rfl⟩;conv=>whnf)|(refine ixS hw (by omega) (by omega) fun s hs=>?_; have hsl:=xbd hcl hs;conv=>whnf)|((first|refine ⟨_,hG s _ hs,?_⟩|refine ioN (by omega) (by omega) ?_)<;>conv=>whnf)|(refine rwG hR (by simp only [Int.toNat_natCast]; omega) fun x y z=>?_;conv=>whnf)|((first|refine w64 (by omega) (by omega) ?_)<;>conv=>whnf)
      all_goals first
       | (refine ⟨i+1,rows.set i [eB true,fI s.Added,fI (s.Done.map Done.Seq)],b+1,⟨by omega,hR.set (by omega) (by rw [List.length_map]; omega),by omega,by omega⟩,by simp only; omega,?_⟩
          exact wk
          done)
       | (refine ⟨i+1,rows,b+1,⟨by omega,hR,by omega,by omega⟩,by simp only; omega,?_⟩
          exact wk
          done)
       | skip
      all_goals repeat' first|((first|refine sN ?_|refine dC ?_|(refine dZ ?_;refine dI ?_)|refine vM ?_|refine vD ?_|refine mS ?_|(refine xa ?_ ?_<;>intro _))<;>conv=>whnf)|(refine callIo (xk bs _ _ (by omega) (by omega) hbs) ?_; rintro _ _ ⟨m,hm,rfl,rfl⟩;conv=>whnf)|(refine callIo (xd1 bs _ _ w.Plan hps (by omega) (by omega) hbs) ?_; rintro _ _ ⟨x,d',hd',hxc,rfl,rfl⟩; have hxa:=hxc.2.2.2;conv=>whnf)|((first|refine ⟨_,ze w.Plan x hcl,?_⟩|refine ⟨_,ze w.Plan ⟨x.Client,d.Seq+c,x.Act,x.Args⟩ hcl,?_⟩)<;>conv=>whnf)|(refine r64g (by omega) (by have hx:=(xz.1 (by assumption:callB w.Plan x=true)).1; have hcl':=hw.cl; omega) fun q q1 q2 q3=>?_;conv=>whnf)|(refine ixS hw (by omega) (by omega) fun s hs=>?_; have hsl:=xbd hcl hs; have hsd:=w6 hs; have hsdo:=(siteE hs).2.2.2;conv=>whnf)|(refine ixDn hsdo (by have hx:=(xz.1 (by assumption:callB w.Plan x=true)).1; have hcl':=hw.cl; omega) (by have hx:=(xz.1 (by assumption:callB w.Plan x=true)).1; have hcl':=hw.cl; omega) fun d hd=>?_;conv=>whnf)|(refine ioN (by omega) (by simp; omega) ?_;conv=>whnf)|(refine rwI rfl (by omega) (by simp; omega) fun c hc=>?_; have hcb : -10≤c∧c≤10:=(by simp [unI] at hc; omega);conv=>whnf)|((first|refine w64 (by omega) (by omega) ?_|refine ⟨_,wc w.Clerk.Wants x (by omega) (by omega),?_⟩)<;>conv=>whnf)|(refine ⟨_,wc w.Clerk.Wants ⟨x.Client,d.Seq+c,x.Act,x.Args⟩ (by omega) (by simp only; omega),?_⟩;conv=>whnf)|(refine callIo (xd0 bs _ _ (by omega) (by decide) hbs) ?_; rintro _ _ ⟨p,d',hd',hpp,rfl,rfl⟩;conv=>whnf)|(refine callIo (xb5 bs _ w _ _ _ _ _ rows w.Sites.length hw (by omega) hdl (by first|exact ⟨by omega,hwa⟩|exact xlq hq hwa (by first|omega|(simp only; omega))) hR (by omega) (by omega) hbs) ?_; rintro _ _ ⟨c',d',hd',rfl,rfl⟩;conv=>whnf)
      all_goals first
       | (apply drCk (w0:=w)
          · rfl
          · constructor<;>omega
          · exact hw
          · repeat' first|exact Colds.nil|refine Colds.cons (by first|exact xo|exact hcG|exact xj|exact x7) ?_
          done)
       | trace_state
    · repeat' first|((first|refine sN ?_|refine dC ?_|(refine dZ ?_;refine dI ?_)|refine vM ?_|refine vD ?_|refine mS ?_|(refine xa ?_ ?_<;>intro _))<;>conv=>whnf)|(refine callIo (xk bs _ _ (by omega) (by omega) hbs) ?_; rintro _ _ ⟨m,hm,rfl,rfl⟩;conv=>whnf)|(refine callIo (xd1 bs _ _ w.Plan hps (by omega) (by omega) hbs) ?_; rintro _ _ ⟨x,d',hd',hxc,rfl,rfl⟩; have hxa:=hxc.2.2.2;conv=>whnf)|((first|refine ⟨_,ze w.Plan x hcl,?_⟩|refine ⟨_,ze w.Plan ⟨x.Client,d.Seq+c,x.Act,x.Args⟩ hcl,?_⟩)<;>conv=>whnf)|(refine r64g (by omega) (by have hx:=(xz.1 (by assumption:callB w.Plan x=true)).1; have hcl':=hw.cl; omega) fun q q1 q2 q3=>?_;conv=>whnf)|(refine ixS hw (by omega) (by omega) fun s hs=>?_; have hsl:=xbd hcl hs; have hsd:=w6 hs; have hsdo:=(siteE hs).2.2.2;conv=>whnf)|(refine ixDn hsdo (by have hx:=(xz.1 (by assumption:callB w.Plan x=true)).1; have hcl':=hw.cl; omega) (by have hx:=(xz.1 (by assumption:callB w.Plan x=true)).1; have hcl':=hw.cl; omega) fun d hd=>?_;conv=>whnf)|(refine ioN (by omega) (by simp; omega) ?_;conv=>whnf)|(refine rwI rfl (by omega) (by simp; omega) fun c hc=>?_; have hcb : -10≤c∧c≤10:=(by simp [unI] at hc; omega);conv=>whnf)|((first|refine w64 (by omega) (by omega) ?_|refine ⟨_,wc w.Clerk.Wants x (by omega) (by omega),?_⟩)<;>conv=>whnf)|(refine ⟨_,wc w.Clerk.Wants ⟨x.Client,d.Seq+c,x.Act,x.Args⟩ (by omega) (by simp only; omega),?_⟩;conv=>whnf)|(refine callIo (xd0 bs _ _ (by omega) (by decide) hbs) ?_; rintro _ _ ⟨p,d',hd',hpp,rfl,rfl⟩;conv=>whnf)|(refine callIo (xb5 bs _ w _ _ _ _ _ rows w.Sites.length hw (by omega) hdl (by first|exact ⟨by omega,hwa⟩|exact xlq hq hwa (by first|omega|(simp only; omega))) hR (by omega) (by omega) hbs) ?_; rintro _ _ ⟨c',d',hd',rfl,rfl⟩;conv=>whnf)
      all_goals first
       | (apply drCk (w0:=w)
          · rfl
          · constructor<;>omega
          · exact hw
          · repeat' first|exact Colds.nil|refine Colds.cons (by first|exact xo|exact hcG|exact xj|exact x7) ?_
          done)
       | trace_state
 obtain ⟨r,o,⟨p,c,cs',w,a',h1,h2,h3,rfl,rfl⟩,h4⟩:=key
 refine ⟨_,_,⟨p,c,w,a',h1,h2,rfl,rfl⟩,Sem.coldT (vs:=[(true,ePl p),(true,cs'),(true,eWd w)]) rfl (fun k a cs b cs' g1 g2=>?_) h4⟩
 match k,g1,g2 with
 | 0,g1,g2 =>
   cases g1; cases g2
   have hC:Colds (ePl p) (ePl p):=by repeat' first|exact Colds.nil|refine Colds.cons (by first|exact xo|exact x7) ?_
   exact ⟨rfl,rfl,hC.get⟩
 | 1,g1,g2=>cases g1; cases g2; exact ⟨rfl,h3.len,h3.get⟩
 | 2,g1,g2 =>
   cases g1; cases g2
   have hC:Colds (eWd w) (eWd w):=by repeat' first|exact Colds.nil|refine Colds.cons (by first|exact xo|exact x7) ?_
   exact ⟨rfl,rfl,hC.get⟩
 | k+3,g1,g2=>simp at g1
end Cc
end
section
namespace Cc
open Go Go.AM
set_option maxRecDepth 100000
set_option maxHeartbeats 16000000
theorem xbe (c:Call) (h:c.Args.length≤100000):Sem P 123 [(.pure,.agg (aC c))] [] (.agg (aC c)):=by
 refine xd (E:={ E0 with keep:=[2002] }) xb xc (fn:=Go.Proofs.Tryz.f123) (by kernel_rfl) (by kernel_rfl) (fun hb=>?_)
 conv=>whnf
 repeat' first|((first|refine sN ?_|refine dC ?_|(refine dZ ?_;refine dI ?_)|refine vM ?_|refine vD ?_|refine mS ?_|(refine xa ?_ ?_<;>intro _)|refine ⟨_,x8 c.Args h,?_⟩)<;>conv=>whnf)
 exact ⟨rfl,rfl⟩
theorem xb6 (r:Rslt) (h:r.Tells.length≤100000):Sem P 126 [(.pure,.agg (aR r))] [] (.agg (aR r)):=by
 refine xd (E:={ E0 with keep:=[2004] }) xb xc (fn:=Go.Proofs.Tryz.f126) (by kernel_rfl) (by kernel_rfl) (fun hb=>?_)
 conv=>whnf
 repeat' first|((first|refine sN ?_|refine dC ?_|(refine dZ ?_;refine dI ?_)|refine vM ?_|refine vD ?_|refine mS ?_|(refine xa ?_ ?_<;>intro _)|refine ⟨_,x8 r.Tells h,?_⟩)<;>conv=>whnf)
 exact ⟨rfl,rfl⟩
theorem xqq (l:List Done) (h:zDs l≤100000):Sem P 124 [(.pure,.one (sDs l))] [] (.one (sDs l)):=by
 have hl:l.length≤100000:=by unfold zDs at h; omega
 refine xd (E:=E0) xb xc (fn:=Go.Proofs.Tryz.f124) (by kernel_rfl) (by kernel_rfl) (fun hb=>?_)
 have hlm:(l.map eD).length=l.length:=List.length_map ..
 conv=>whnf
 (repeat' first|((first|refine sN ?_|refine dC ?_|(refine dZ ?_;refine dI ?_)|refine vM ?_|refine vD ?_|refine mS ?_)<;>conv=>whnf))
 refine Vc.loop1 (fun (i:Nat)=>i≤l.length) (fun i=>updL [2,6,7,22] [(8,I i),(3,.one (.ref 128000))] [(128000,.arr 79 ((l.take i).map eD) false)]) (fun i=>l.length - i) 0 (Nat.zero_le _) ?_ (fun i hi=>?_)
 · exact wk
 · have hlo:((l.take i).map eD).length=i:=by rw [List.length_map,List.length_take]; omega
   conv=>whnf
   (repeat' first|((first|refine sN ?_|refine dC ?_|(refine dZ ?_;refine dI ?_)|refine vM ?_|refine vD ?_|refine mS ?_)<;>conv=>whnf))
   refine xg (fun g=>?_) (fun g=>?_)
   all_goals conv=>whnf
   · have hz:zD (l.getD i default)≤100000:=kr zD (by unfold zDs at h; exact h) (by omega)
     repeat' first|((first|refine sN ?_|refine dC ?_|(refine dZ ?_;refine dI ?_)|refine vM ?_|refine vD ?_|refine mS ?_|(refine xa ?_ ?_<;>intro _)|refine ixN (enc:=eD) default (by omega) ?_)<;>conv=>whnf)|(refine ⟨_,xb6 (l.getD i default).Res (by unfold zD zR at hz; exact hz),?_⟩;conv=>whnf)|(refine apN (by rw [hlo]; show i+1≤_; omega) ?_;conv=>whnf)|((first|refine w64 (by omega) (by omega) ?_)<;>conv=>whnf)
     refine ⟨i+1,by omega,by simp only; omega,?_⟩
     repeat' (first|exact True.intro|((conv=>whnf);first|exact True.intro|refine ⟨by rfl,?_⟩|refine ⟨by first|omega|(show (_:Int)=_;first|omega|(dsimp only;omega))|exact zb (by omega),?_⟩|refine ⟨?_,?_⟩))
   · have hend:l.take i=l:=List.take_of_length_le (by omega)
     (repeat' first|((first|refine sN ?_|refine dC ?_|(refine dZ ?_;refine dI ?_)|refine vM ?_|refine vD ?_|refine mS ?_)<;>conv=>whnf))
     exact ⟨by rw [hend],rfl⟩
theorem xfy (c:Clerk) (h:zK c≤100000):Sem P 51 [(.pure,.agg (aK c))] [] (.agg (aK c)):=by
 have lb:=xe c.Base
 unfold zK zCs zGs at h
 refine xd (E:={ E0 with keep:=[14002,14005] }) xb xc (fn:=Go.Proofs.Tryz.f51) (by kernel_rfl) (by kernel_rfl) (fun hb=>?_)
 have lw:(c.Wants.map eC).length=c.Wants.length:=List.length_map ..
 have lg:(c.Got.map eG).length=c.Got.length:=List.length_map ..
 conv=>whnf
 (repeat' first|((first|refine sN ?_|refine dC ?_|(refine dZ ?_;refine dI ?_)|refine vM ?_|refine vD ?_|refine mS ?_)<;>conv=>whnf))
 refine Vc.loop1 (fun (i:Nat)=>i≤c.Wants.length) (fun i=>updL [1,2,6,8,10,11,22,23,24,25,26,27,28,29,30,31,32,33,34,35,36,37,38,39,40,41,42,43,44,45,46,47,48,49,50,51,52,53,54] [(12,I i),(3,.one (.ref 128000))] [(128000,.arr 50 ((c.Wants.take i).map eC) false)]) (fun i=>c.Wants.length - i) 0 (Nat.zero_le _) ?_ (fun i hi=>?_)
 · exact wk
 · have hlo:((c.Wants.take i).map eC).length=i:=by rw [List.length_map,List.length_take]; omega
   conv=>whnf
   (repeat' first|((first|refine sN ?_|refine dC ?_|(refine dZ ?_;refine dI ?_)|refine vM ?_|refine vD ?_|refine mS ?_)<;>conv=>whnf))
   refine xg (fun g=>?_) (fun g=>?_)
   all_goals conv=>whnf
   · have hz:zC (c.Wants.getD i default)≤100000:=kr zC (by omega) (by omega)
     repeat' first|((first|refine sN ?_|refine dC ?_|(refine dZ ?_;refine dI ?_)|refine vM ?_|refine vD ?_|refine mS ?_|(refine xa ?_ ?_<;>intro _)|refine ixN (enc:=eC) default (by omega) ?_)<;>conv=>whnf)|(refine ⟨_,xbe (c.Wants.getD i default) (by unfold zC at hz; exact hz),?_⟩;conv=>whnf)|(refine apN (by rw [hlo]; show i+1≤_; omega) ?_;conv=>whnf)|((first|refine w64 (by omega) (by omega) ?_)<;>conv=>whnf)
     refine ⟨i+1,by omega,by simp only; omega,?_⟩
     repeat' (first|exact True.intro|((conv=>whnf);first|exact True.intro|refine ⟨by rfl,?_⟩|refine ⟨by first|omega|(show (_:Int)=_;first|omega|(dsimp only;omega))|exact zb (by omega),?_⟩|refine ⟨?_,?_⟩))
   · have hend:c.Wants.take i=c.Wants:=List.take_of_length_le (by omega)
     rw [hend]
     (repeat' first|((first|refine sN ?_|refine dC ?_|(refine dZ ?_;refine dI ?_)|refine vM ?_|refine vD ?_|refine mS ?_)<;>conv=>whnf))
     refine Vc.loop1 (fun (k:Nat)=>k≤c.Got.length) (fun k=>updL [1,2,3,23,24,42,43,44,45,46,47,48,49,50,51,52,53,54] [(25,I k),(6,.one (.ref 512000))] [(512000,.arr 105 ((c.Got.take k).map eG) false)]) (fun k=>c.Got.length - k) 0 (Nat.zero_le _) ?_ (fun k hk=>?_)
     · exact wk
     · have hlo:((c.Got.take k).map eG).length=k:=by rw [List.length_map,List.length_take]; omega
       conv=>whnf
       (repeat' first|((first|refine sN ?_|refine dC ?_|(refine dZ ?_;refine dI ?_)|refine vM ?_|refine vD ?_|refine mS ?_)<;>conv=>whnf))
       refine xg (fun g=>?_) (fun g=>?_)
       all_goals conv=>whnf
       · have hz:zG (c.Got.getD k default)≤100000:=kr zG (by omega) (by omega)
         unfold zG at hz
         repeat' first|((first|refine sN ?_|refine dC ?_|(refine dZ ?_;refine dI ?_)|refine vM ?_|refine vD ?_|refine mS ?_|(refine xa ?_ ?_<;>intro _)|refine ixN (enc:=eG) default (by omega) ?_|refine ⟨_,x8 (c.Got.getD k default).Added (by omega),?_⟩|refine ⟨_,x8 (c.Got.getD k default).Seqs (by omega),?_⟩)<;>conv=>whnf)|(refine apN (by rw [hlo]; show k+1≤_; omega) ?_;conv=>whnf)|((first|refine w64 (by omega) (by omega) ?_)<;>conv=>whnf)
         refine ⟨k+1,by omega,by simp only; omega,?_⟩
         repeat' (first|exact True.intro|((conv=>whnf);first|exact True.intro|refine ⟨by rfl,?_⟩|refine ⟨by first|omega|(show (_:Int)=_;first|omega|(dsimp only;omega))|exact zb (by omega),?_⟩|refine ⟨?_,?_⟩))
       · have hend2:c.Got.take k=c.Got:=List.take_of_length_le (by omega)
         repeat' first|((first|refine sN ?_|refine dC ?_|(refine dZ ?_;refine dI ?_)|refine vM ?_|refine vD ?_|refine mS ?_|(refine xa ?_ ?_<;>intro _)|refine ⟨_,x8 c.Base (by omega),?_⟩|refine ⟨_,xqq c.Done (by omega),?_⟩)<;>conv=>whnf)
         exact ⟨by rw [hend2],rfl⟩
theorem xwj (g:Got):Sem P 135 [(.pure,.agg (aG g))] [] (B (!g.Has)):=by
 refine xd (E:=E0) xb xc (fn:=Go.Proofs.Tryz.f135) (by kernel_rfl) (by kernel_rfl) (fun hb=>?_)
 conv=>whnf
 repeat' first|((first|refine sN ?_|refine dC ?_|(refine dZ ?_;refine dI ?_)|refine vM ?_|refine vD ?_|refine mS ?_|(refine xa ?_ ?_<;>intro _))<;>conv=>whnf)
 exact ⟨rfl,rfl⟩
theorem xlr  (l:List Got):Sem P 222 [(.pure,.one (sGs l)),(.pure,.one (.fn 135 []))] [] (I (idxOf (fun (x:Got)=>!x.Has) l)):=by
 refine xd (E:=E0) xb xc (fn:=Go.Proofs.Tryz.f222) (by kernel_rfl) (by kernel_rfl) (fun hb=>?_)
 have la:(l.map eG).length=l.length:=List.length_map ..
 have hb1:(l.map eG).length≤1125899906842624:=hb.1.1
 conv=>whnf
 (repeat' first|((first|refine sN ?_|refine dC ?_|(refine dZ ?_;refine dI ?_)|refine vM ?_|refine vD ?_|refine mS ?_)<;>conv=>whnf))
 refine Vc.loop { i:Nat // ∀ j,j<i→j<l.length→(fun (x:Got)=>!x.Has) (l.getD j default)=false } (fun i=>updL [0,1,7] [(8,I i.1)] []) (fun i=>l.length - i.1) ⟨0,by simp⟩ ?_ (fun i=>?_)
 · exact wl
 · have hi:=i.2
   conv=>whnf
   (repeat' first|((first|refine sN ?_|refine dC ?_|(refine dZ ?_;refine dI ?_)|refine vM ?_|refine vD ?_|refine mS ?_)<;>conv=>whnf))
   refine xg (fun g=>?_) (fun g=>?_)
   all_goals conv=>whnf
   · repeat' first|((first|refine sN ?_|refine dC ?_|(refine dZ ?_;refine dI ?_)|refine vM ?_|refine vD ?_|refine mS ?_|(refine xa ?_ ?_<;>intro _)|refine ixN (enc:=eG) default (by omega) ?_|refine ⟨_,xwj _,?_⟩|refine w64 (by omega) (by omega) ?_)<;>conv=>whnf)
     · rename_i h
       exact rI' (y9 (p:=fun (x:Got)=>!x.Has) default (by omega) h fun j hj=>hi j hj (by omega)).symm
     · rename_i h
       refine ⟨⟨i.1+1,fun j hj hl=>?_⟩,?_,?_⟩
       · by_cases hji:j<i.1
         · exact hi j hji hl
         · obtain rfl:j=i.1:=by omega
           exact h
       · simp only; omega
       · exact wl
   · (repeat' first|((first|refine sN ?_|refine dC ?_|(refine dZ ?_;refine dI ?_)|refine vM ?_|refine vD ?_|refine mS ?_)<;>conv=>whnf))
     exact rI' (yq (p:=fun (x:Got)=>!x.Has) default fun j hj=>hi j (by omega) hj).symm
theorem xix  (l:List Got):Sem P 134 [(.pure,.one (sGs l)),(.pure,.one (.fn 135 []))] [] (B (l.any fun (x:Got)=>!x.Has)):=by
 refine xd (E:=E0) xb xc (fn:=Go.Proofs.Tryz.f134) (by kernel_rfl) (by kernel_rfl) (fun hb=>?_)
 conv=>whnf
 repeat' first|((first|refine sN ?_|refine dC ?_|(refine dZ ?_;refine dI ?_)|refine vM ?_|refine vD ?_|refine mS ?_|(refine xa ?_ ?_<;>intro _)|refine ⟨_,xlr  l,?_⟩)<;>conv=>whnf)
 exact rB (zg _ _)
theorem xiy (c:Clerk):(!c.Got.any fun (x:Got)=>!x.Has)=readyB c:=by
 unfold readyB
 rw [List.any_eq_not_all_not]; simp
theorem xqr (c:Clerk):Sem P 55 [(.io 0 0,.agg (aK c))] [.agg (aK c)] (B (readyB c)):=by
 refine xd (E:=E0) xb xc (fn:=Go.Proofs.Tryz.f55) (by kernel_rfl) (by kernel_rfl) (fun hb=>?_)
 conv=>whnf
 repeat' first|((first|refine sN ?_|refine dC ?_|(refine dZ ?_;refine dI ?_)|refine vM ?_|refine vD ?_|refine mS ?_|(refine xa ?_ ?_<;>intro _)|refine ⟨_,xix c.Got,?_⟩)<;>conv=>whnf)
 exact ⟨congrArg (fun b=>B b) (xiy c),rfl⟩
theorem xng (c:Clerk):Sem P 55 [(.io 0 0,.agg (eK c))] [.agg (eK c)] (B (readyB c)):=by
 refine xd (E:=E0) xb xc (fn:=Go.Proofs.Tryz.f55) (by kernel_rfl) (by kernel_rfl) (fun hb=>?_)
 conv=>whnf
 repeat' first|((first|refine sN ?_|refine dC ?_|(refine dZ ?_;refine dI ?_)|refine vM ?_|refine vD ?_|refine mS ?_|(refine xa ?_ ?_<;>intro _)|refine ⟨_,xix c.Got,?_⟩)<;>conv=>whnf)
 exact ⟨congrArg (fun b=>B b) (xiy c),rfl⟩
theorem xwk (n:Nat):List.replicate n [eB false,.fr [] 3 [],.fr [] 3 []]=(List.replicate n Got.nil).map eG:=by rw [List.map_replicate]; rfl
theorem xnh (c:Clerk) (hg:c.Got.length≤1000):Sem P 127 [(.io 0 0,.agg (aK c))] [.agg (aK (forget c))] (.tup []):=by
 have lg:(c.Got.map eG).length=c.Got.length:=List.length_map ..
 refine xd (E:=E0) xb xc (fn:=Go.Proofs.Tryz.f127) (by kernel_rfl) (by kernel_rfl) (fun hb=>?_)
 conv=>whnf
 repeat' first|((first|refine sN ?_|refine dC ?_|(refine dZ ?_;refine dI ?_)|refine vM ?_|refine vD ?_|refine mS ?_|(refine xa ?_ ?_<;>intro _))<;>conv=>whnf)
 refine ⟨rfl,?_⟩
 show [TV.agg [eB c.Up,eI c.Round,sI c.Base,sDs c.Done,.sl 50 [],.sl 105 _]]=_
 rw [lg,Int.toNat_natCast,xwk]
 rfl
end Cc
end
section
namespace Cc
open Go Go.AM
set_option maxRecDepth 100000
set_option maxHeartbeats 16000000
theorem xg9 (a:List Int) (h1:a.length≤100):Sem P 125 [(.pure,AI a),(.pure,AI [])] [] (AI a):=by
 refine xd (E:={ E0 with keep:=[2001] }) xb xc (fn:=Go.Proofs.Tryz.f125) (by kernel_rfl) (by kernel_rfl) (fun hb=>?_)
 conv=>whnf
 repeat' first|((first|refine sN ?_|refine dC ?_|(refine dZ ?_;refine dI ?_)|refine vM ?_|refine vD ?_|refine mS ?_|(refine xa ?_ ?_<;>intro _)|refine ⟨_,x8 a (by omega),?_⟩)<;>conv=>whnf)
 refine Vc.loop1 (fun (i:Nat)=>i=0) (fun i=>updL [4,5,10,11,25] [(12,I i)] []) (fun i=>1 - i) 0 rfl ?_ (fun i hi=>?_)
 · exact wk
 · subst hi
   conv=>whnf
   repeat' first|((first|refine sN ?_|refine dC ?_|(refine dZ ?_;refine dI ?_)|refine vM ?_|refine vD ?_|refine mS ?_|(refine xa ?_ ?_<;>intro _))<;>conv=>whnf)
   exact ⟨rfl,rfl⟩
theorem xls {p:Plan} {c:Clerk} (hc:ClerkF p c) {i:Nat} (h:i<c.Got.length) (hh:(c.Got.getD i default).Has=false):(c.Got.getD i default).Added=[]:=by
 have:=zi.1 hc.g i h
 unfold gotB Got.none at this
 rw [hh] at this
 simp only [Bool.not_false,Bool.true_and,Bool.false_and,Bool.or_false,Bool.and_eq_true,List.isEmpty_iff] at this
 exact this.1
theorem xti (p:Plan) (c:Clerk) (hp:planOk p=true) (hc:ClerkF p c):Sem P 52 [(.io 0 0,.agg (aK c)),(.pure,.agg (aPl p))] [.agg (aK (clerkFold p c).1)] (.tup [(false,[sCs ((clerkFold p c).2.map Prod.fst)]),(false,[sRs ((clerkFold p c).2.map Prod.snd)])]):=by
 have hcl:=xu hp
 have hF:=planF hp
 have g1:=hF.g1
 have g3:=yp hp
 have lg:=xe p.Gives
 have lgo:(c.Got.map eG).length=c.Got.length:=List.length_map ..
 have lw:(c.Wants.map eC).length=c.Wants.length:=List.length_map ..
 have lpa:(p.Acts.map eA).length=p.Acts.length:=List.length_map ..
 have hgl:=hc.gl
 have hw4:=kc hc hcl
 have hbl:=(xh.1 hc.b).1
 have lb:=xe c.Base
 have hrd:=hc.r
 have hV:=qe (given c)
 have hR:=xqr c
 cases hcnd:(!readyB c || decide (c.Round=200) || !valOk (given c)) with
 | true =>
   rw [xeg hcnd]
   refine xd (E:={ E0 with keep:=[2004,6003,16009],fz:=[(17,[1024577])] }) xb xc (fn:=Go.Proofs.Tryz.f52) (by kernel_rfl) (by kernel_rfl) (fun hb=>?_)
   conv=>whnf
   repeat' first|((first|refine sN ?_|refine dC ?_|(refine dZ ?_;refine dI ?_)|refine vM ?_|refine vD ?_|refine mS ?_|(refine xa ?_ ?_<;>intro _)|refine ⟨_,x8 c.Base (by omega),?_⟩|refine akP (x3 _) ?_)<;>conv=>whnf)
   refine Vc.loop1 (fun (i:Nat)=>i≤c.Got.length) (fun i=>updL [0,3,4,5,9,10,12,13,14,23,24,34,35,36,37,38,39,40,41,42,43,44,45,46,47,48,49,50,51,52,53,54,55,56,57,58,59,60,61,62,63,64,65,66,67,68,69,70,71,72,73,74,75,76,77,78,79,80,81,82,83,84,85,86,87,88,89,90,91,92,93,94,95,96,97,98,99,100,101,102,103,104,105,106,107,108,109,110,111,112,113,114,115,116,117,118,119,120,121,122,123,124,125,126,128,129] [(25,I i),(6,.one (.ref 128256))] [(128256,.arr 3 (ints (gvAt c i)) false)]) (fun i=>c.Got.length - i) 0 (Nat.zero_le _) ?_ (fun i hi=>?_)
   · exact wk
   · obtain ⟨bl,bb⟩:=xb4 hc i hi
     conv=>whnf
     (repeat' first|((first|refine sN ?_|refine dC ?_|(refine dZ ?_;refine dI ?_)|refine vM ?_|refine vD ?_|refine mS ?_)<;>conv=>whnf))
     refine xg (fun g=>?_) (fun g=>?_)
     all_goals conv=>whnf
     · have hig:i<c.Got.length:=by omega
       have es:=jm (c:=c) hig
       have hS:Sem P 125 [(.pure,AI (gvAt c i)),(.pure,AI (c.Got.getD i default).Added)] [] (AI (gvAt c (i+1))):=by
        cases hh:(c.Got.getD i default).Has with
        | true =>
          have ha:=xt (jy hc hig hh).1
          rw [hh,if_pos rfl] at es
          rw [es]
          exact xit _ _ (by omega) (by omega) (fun x hx=>by have:=bb x hx; omega) (fun x hx=>by have:=ha.2 x hx; omega)
        | false =>
          rw [hh,if_neg (by decide)] at es
          rw [es,xls hc hig hh]
          exact xg9 _ (by omega)
       repeat' first|((first|refine sN ?_|refine dC ?_|(refine dZ ?_;refine dI ?_)|refine vM ?_|refine vD ?_|refine mS ?_|(refine xa ?_ ?_<;>intro _)|refine ioN (by omega) (by omega) ?_)<;>conv=>whnf)|(refine rwN (enc:=eG) default (by simp only [Int.toNat_natCast]; exact hig) ?_;conv=>whnf)|((first|refine ⟨_,hS,?_⟩|refine akP (x3 _) ?_|refine w64 (by omega) (by omega) ?_)<;>conv=>whnf)
       refine ⟨i+1,by omega,by simp only; omega,?_⟩
       exact wk
     · have e:=xax (c:=c) (i:=i) (by omega)
       rw [e]
       generalize readyB c=b1 at *
       generalize valOk (given c)=b2 at *
       cases b1<;>cases b2
       all_goals repeat' first|((first|refine sN ?_|refine dC ?_|(refine dZ ?_;refine dI ?_)|refine vM ?_|refine vD ?_|refine mS ?_|(refine xa ?_ ?_<;>intro _)|refine ⟨_,_,hR,?_⟩|refine ⟨_,hV,?_⟩)<;>conv=>whnf)
       all_goals first
        | exact ⟨rfl,rfl⟩
        | (exfalso; clear hb hV hR; simp_all; done)
        | trace_state
 | false =>
   rw [w5 hcnd]
   simp only [Bool.or_eq_false_iff,Bool.not_eq_false',decide_eq_false_iff_not] at hcnd
   obtain ⟨⟨h1,h2⟩,hv⟩:=hcnd
   rw [hv] at hV
   rw [h1] at hR
   refine xd (E:={ E0 with keep:=[2004,6003,16009],fz:=[(17,[1024577])] }) xb xc (fn:=Go.Proofs.Tryz.f52) (by kernel_rfl) (by kernel_rfl) (fun hb=>?_)
   conv=>whnf
   repeat' first|((first|refine sN ?_|refine dC ?_|(refine dZ ?_;refine dI ?_)|refine vM ?_|refine vD ?_|refine mS ?_|(refine xa ?_ ?_<;>intro _)|refine ⟨_,x8 c.Base (by omega),?_⟩|refine akP (x3 _) ?_)<;>conv=>whnf)
   refine Vc.loop1 (fun (i:Nat)=>i≤c.Got.length) (fun i=>updL [0,3,4,5,9,10,12,13,14,23,24,34,35,36,37,38,39,40,41,42,43,44,45,46,47,48,49,50,51,52,53,54,55,56,57,58,59,60,61,62,63,64,65,66,67,68,69,70,71,72,73,74,75,76,77,78,79,80,81,82,83,84,85,86,87,88,89,90,91,92,93,94,95,96,97,98,99,100,101,102,103,104,105,106,107,108,109,110,111,112,113,114,115,116,117,118,119,120,121,122,123,124,125,126,128,129] [(25,I i),(6,.one (.ref 128256))] [(128256,.arr 3 (ints (gvAt c i)) false)]) (fun i=>c.Got.length - i) 0 (Nat.zero_le _) ?_ (fun i hi=>?_)
   · exact wk
   · obtain ⟨bl,bb⟩:=xb4 hc i hi
     conv=>whnf
     (repeat' first|((first|refine sN ?_|refine dC ?_|(refine dZ ?_;refine dI ?_)|refine vM ?_|refine vD ?_|refine mS ?_)<;>conv=>whnf))
     refine xg (fun g=>?_) (fun g=>?_)
     all_goals conv=>whnf
     · have hig:i<c.Got.length:=by omega
       have es:=jm (c:=c) hig
       have hS:Sem P 125 [(.pure,AI (gvAt c i)),(.pure,AI (c.Got.getD i default).Added)] [] (AI (gvAt c (i+1))):=by
        cases hh:(c.Got.getD i default).Has with
        | true =>
          have ha:=xt (jy hc hig hh).1
          rw [hh,if_pos rfl] at es
          rw [es]
          exact xit _ _ (by omega) (by omega) (fun x hx=>by have:=bb x hx; omega) (fun x hx=>by have:=ha.2 x hx; omega)
        | false =>
          rw [hh,if_neg (by decide)] at es
          rw [es,xls hc hig hh]
          exact xg9 _ (by omega)
       repeat' first|((first|refine sN ?_|refine dC ?_|(refine dZ ?_;refine dI ?_)|refine vM ?_|refine vD ?_|refine mS ?_|(refine xa ?_ ?_<;>intro _)|refine ioN (by omega) (by omega) ?_)<;>conv=>whnf)|(refine rwN (enc:=eG) default (by simp only [Int.toNat_natCast]; exact hig) ?_;conv=>whnf)|((first|refine ⟨_,hS,?_⟩|refine akP (x3 _) ?_|refine w64 (by omega) (by omega) ?_)<;>conv=>whnf)
       refine ⟨i+1,by omega,by simp only; omega,?_⟩
       exact wk
     · have e:=xax (c:=c) (i:=i) (by omega)
       rw [e]
       clear bl bb
       repeat' first|((first|refine sN ?_|refine dC ?_|(refine dZ ?_;refine dI ?_)|refine vM ?_|refine vD ?_|refine mS ?_|(refine xa ?_ ?_<;>intro _)|refine ⟨_,_,hR,?_⟩|refine ⟨_,hV,?_⟩)<;>conv=>whnf)
       all_goals first
        | (exfalso; clear hb hV hR; simp_all; done)
        | skip
       refine Vc.loop6 (fun (i:Nat) (v:List Int) (dn:List Done) (ls:List (Call × Rslt)) (_:Unit) (_:Unit)=>FAt p c i v dn ls) (fun i v dn ls _ _=>updL [0,3,4,5,52,53,115,116,117,118,119,120,121,122,123,124,125,126,128,129] [(54,I i),(9,.one (.ref 640000)),(10,.one (.ref 704000)),(6,.one (.ref 128256))] [(128256,.arr 3 (ints v) false),(512099,.arr 79 (dn.map eD) false),(640000,.arr 50 ((ls.map Prod.fst).map eC) false),(704000,.arr 45 ((ls.map Prod.snd).map eR) false)]) (fun i _ _ _ _ _=>c.Wants.length - i) 0 (given c) c.Done [] () () (FAt.zero hc hv) ?_ (fun i v dn ls _ _ ha=>?_)
       · exact wk
       · have lf:((ls.map Prod.fst).map eC).length=ls.length:=by simp
         have lr:((ls.map Prod.snd).map eR).length=ls.length:=by simp
         have hll:=ha.hl
         have hii:=ha.hi
         have hdl:=(yy hcl ha.hd).1
         have hdc:(dn.length:Int)=p.Clients:=by have:=ha.hd; unfold doneOk at this; simp only [Bool.and_eq_true,decide_eq_true_eq] at this; exact this.1
         have ldn:(dn.map eD).length=dn.length:=List.length_map ..
         conv=>whnf
         (repeat' first|((first|refine sN ?_|refine dC ?_|(refine dZ ?_;refine dI ?_)|refine vM ?_|refine vD ?_|refine mS ?_)<;>conv=>whnf))
         refine xg (fun g=>?_) (fun g=>?_)
         all_goals conv=>whnf
         · have hil:i<c.Wants.length:=by omega
           have hwk:(c.Wants.map eC)[((i:Int)).toNat]?=some (eC (c.Wants.getD i default)):=by rw [Int.toNat_natCast,List.getElem?_map,List.getD_eq_getElem?_getD,List.getElem?_eq_getElem hil]; rfl
           have hx:=hc.w _ (xx hil)
           obtain ⟨c1,c2,c3,c4⟩:=xz.1 hx
           have ha6:=ha.run hF hc hil
           have hA:Sem P 19 [(.pure,.one (sLs (p.Acts.getD (c.Wants.getD i default).Act.toNat []))),(.pure,AI v),(.pure,AI (c.Wants.getD i default).Args)] [] (.tup [(true,aR (runQ p v (c.Wants.getD i default)).1),(false,[sI (runQ p v (c.Wants.getD i default)).2])]):=xe6 _ _ _
           have hcc:=xbe (c.Wants.getD i default) (by rw [(xh.1 c4).1]; decide)
           have hm0:0≤(c.Wants.getD i default).Client % (ints p.Gives).length:=Int.emod_nonneg _ (by omega)
           have hm1:(c.Wants.getD i default).Client % (ints p.Gives).length<(ints p.Gives).length:=Int.emod_lt_of_pos _ (by omega)
           have hsq:=xg5 hc h1 (j:=((c.Wants.getD i default).Client % (ints p.Gives).length).toNat) (by omega)
           unfold seqsOk at hsq
           simp only [Bool.and_eq_true,decide_eq_true_eq,List.all_eq_true] at hsq
           have lsq:=xe (c.Got.getD ((c.Wants.getD i default).Client % (ints p.Gives).length).toNat Got.nil).Seqs
           have hsb:=xf.1 (hsq.2 ((c.Got.getD ((c.Wants.getD i default).Client % (ints p.Gives).length).toNat Got.nil).Seqs.getD (c.Wants.getD i default).Client.toNat 0) (qz (by omega)))
           by_cases hq:(c.Wants.getD i default).Seq=nextQ p c.Got (c.Wants.getD i default)
           · have hy:=ha.yes hF hc hil hq
             unfold nextQ at hq
             rw [← lg] at hq
             generalize runQ p v (c.Wants.getD i default)=y at *
             obtain ⟨r,v'⟩:=y
             have hcr:=xb6 r (by simp only at ha6; omega)
             have q1:(dn.map eD).set (c.Wants.getD i default).Client.toNat [eI (c.Wants.getD i default).Seq,eI r.Code,fI r.Tells]=(dn.set (c.Wants.getD i default).Client.toNat ⟨(c.Wants.getD i default).Seq,r⟩).map eD:=xcz dn _ ⟨_,r⟩
             have q2:=xoc ls (c.Wants.getD i default) r
             have q3:=xod ls (c.Wants.getD i default) r
             repeat' first|((first|refine sN ?_|refine dC ?_|(refine dZ ?_;refine dI ?_)|refine vM ?_|refine vD ?_|refine mS ?_|(refine xa ?_ ?_<;>intro _)|refine ioN (by omega) (by omega) ?_|refine rwC hwk ?_|refine rwN (enc:=eG) Got.nil (by omega) ?_|refine r64 (by omega) (by omega) ?_|refine ixI (enc:=rI) 0 (by omega) (by omega) ?_|refine ixI (enc:=eA) [] (by omega) (by omega) ?_|refine rwN (enc:=eD) Done.nil (by omega) ?_|refine w64 (by omega) (by omega) ?_|refine ⟨_,hA,?_⟩|refine ⟨_,hcr,?_⟩|refine ⟨_,hcc,?_⟩|refine akP (x3 _) ?_)<;>conv=>whnf)|(refine apN (by rw [lf]; show _+1≤_; omega) ?_;conv=>whnf)|(refine apN (by rw [lr]; show _+1≤_; omega) ?_;conv=>whnf)
             all_goals first
              | (exfalso; clear hb hV hR hA hy hcr hcc; simp_all; done)
              | (refine ⟨i+1,_,_,_,(),(),hy,by simp only; omega,?_⟩
                 repeat' (first|exact True.intro|((conv=>whnf);first|exact True.intro|refine ⟨by rfl,?_⟩|refine ⟨by first|omega|(show (_:Int)=_;first|omega|(dsimp only;omega))|exact q1|exact q2|exact q3,?_⟩|refine ⟨?_,?_⟩))
                 done)
              | trace_state
           · have hy:=ha.no hil hq
             unfold nextQ at hq
             rw [← lg] at hq
             repeat' first|((first|refine sN ?_|refine dC ?_|(refine dZ ?_;refine dI ?_)|refine vM ?_|refine vD ?_|refine mS ?_|(refine xa ?_ ?_<;>intro _)|refine ioN (by omega) (by omega) ?_|refine rwC hwk ?_|refine rwN (enc:=eG) Got.nil (by omega) ?_|refine r64 (by omega) (by omega) ?_|refine ixI (enc:=rI) 0 (by omega) (by omega) ?_|refine w64 (by omega) (by omega) ?_)<;>conv=>whnf)
             all_goals first
              | (exfalso; clear hb hV hR hA hy hcc; simp_all; done)
              | (refine ⟨i+1,v,dn,ls,(),(),hy,by simp only; omega,?_⟩
                 exact wk
                 done)
              | trace_state
         · obtain ⟨f1,f2,f3⟩:=ha.fin (by omega)
           rw [f1,f2,f3]
           have hfg:=xnh ⟨c.Up,c.Round+1,v,dn,c.Wants,c.Got⟩ (by simp only; omega)
           repeat' first|((first|refine sN ?_|refine dC ?_|(refine dZ ?_;refine dI ?_)|refine vM ?_|refine vD ?_|refine mS ?_|(refine xa ?_ ?_<;>intro _)|refine w64 (by omega) (by omega) ?_|refine ⟨_,_,hfg,?_⟩)<;>conv=>whnf)
           all_goals first
            | exact ⟨rfl,rfl⟩
            | trace_state
end Cc
end
section
namespace Cc
open Go Go.AM
set_option maxRecDepth 100000
set_option maxHeartbeats 16000000
theorem xc1 (p:Plan) (c:Clerk):Sem P 22 [(.pure,.agg (aPl p)),(.pure,.agg (aK c))] [] (B (clkOk p c)):=by
 have h1:=xmk p
 unfold clkOk
 cases hp:planOk p with
 | false =>
   rw [hp] at h1
   refine xd (E:=E0) xb xc (fn:=Go.Proofs.Tryz.f22) (by kernel_rfl) (by kernel_rfl) (fun hb=>?_)
   conv=>whnf
   repeat' first|((first|refine sN ?_|refine dC ?_|(refine dZ ?_;refine dI ?_)|refine vM ?_|refine vD ?_|refine mS ?_|(refine xa ?_ ?_<;>intro _)|refine ⟨_,h1,?_⟩)<;>conv=>whnf)
   exact ⟨rfl,rfl⟩
 | true =>
   rw [hp] at h1
   refine xd (E:=E0) xb xc (fn:=Go.Proofs.Tryz.f22) (by kernel_rfl) (by kernel_rfl) (fun hb=>?_)
   conv=>whnf
   repeat' first|((first|refine sN ?_|refine dC ?_|(refine dZ ?_;refine dI ?_)|refine vM ?_|refine vD ?_|refine mS ?_|(refine xa ?_ ?_<;>intro _)|refine ⟨_,h1,?_⟩|refine ⟨_,xpn p.Acts (xau hp),?_⟩|refine ⟨_,xi9 p c (xu hp),?_⟩)<;>conv=>whnf)
   exact ⟨rfl,rfl⟩
theorem xc2 (p:Plan) (c:Clerk):Sem P 15 [(.pure,.agg (aPl p)),(.pure,.agg (aK c))] [] (B (clkOk p c)):=by
 have h1:=qh p
 unfold clkOk
 cases hp:planOk p with
 | false =>
   rw [hp] at h1
   refine xd (E:=E0) xb xc (fn:=Go.Proofs.Tryz.f15) (by kernel_rfl) (by kernel_rfl) (fun hb=>?_)
   conv=>whnf
   repeat' first|((first|refine sN ?_|refine dC ?_|(refine dZ ?_;refine dI ?_)|refine vM ?_|refine vD ?_|refine mS ?_|(refine xa ?_ ?_<;>intro _)|refine ⟨_,h1,?_⟩)<;>conv=>whnf)
   exact ⟨rfl,rfl⟩
 | true =>
   rw [hp] at h1
   refine xd (E:=E0) xb xc (fn:=Go.Proofs.Tryz.f15) (by kernel_rfl) (by kernel_rfl) (fun hb=>?_)
   conv=>whnf
   repeat' first|((first|refine sN ?_|refine dC ?_|(refine dZ ?_;refine dI ?_)|refine vM ?_|refine vD ?_|refine mS ?_|(refine xa ?_ ?_<;>intro _)|refine ⟨_,h1,?_⟩|refine ⟨_,xd9 p.Acts (xcw hp),?_⟩|refine ⟨_,xav p c (xu hp),?_⟩)<;>conv=>whnf)
   exact ⟨rfl,rfl⟩
theorem xha {p:Plan} {c:Clerk} (h:clkOk p c=true):planOk p=true∧ClerkF p c:=by
 unfold clkOk at h
 rw [Bool.and_eq_true] at h
 exact ⟨h.1,clerkF.1 h.2⟩
theorem xlt (p:Plan) (c:Clerk):Sem P 8 [(.pure,.agg (aPl p)),(.pure,.agg (aK c))] [] (tFc (clkFold p c)):=by
 have h1:=xc1 p c
 unfold clkFold
 cases hk:clkOk p c with
 | false =>
   rw [hk] at h1
   refine coldFold (cs:=aK Clerk.nil) rfl (vp _) ?_
   refine xd (E:=E0) xb xc (fn:=Go.Proofs.Tryz.f8) (by kernel_rfl) (by kernel_rfl) (fun hb=>?_)
   conv=>whnf
   repeat' first|((first|refine sN ?_|refine dC ?_|(refine dZ ?_;refine dI ?_)|refine vM ?_|refine vD ?_|refine mS ?_|(refine xa ?_ ?_<;>intro _)|refine ⟨_,h1,?_⟩)<;>conv=>whnf)
   exact ⟨rfl,rfl⟩
 | true =>
   rw [hk] at h1
   obtain ⟨hp,hc⟩:=xha hk
   have hz:=qv hc (xu hp) (yp hp)
   have hf:=xti p c hp hc
   refine coldFold (cs:=aK (clerkFold p c).1) rfl (vp _) ?_
   refine xd (E:={ E0 with keep:=[4001,5001] }) xb xc (fn:=Go.Proofs.Tryz.f8) (by kernel_rfl) (by kernel_rfl) (fun hb=>?_)
   conv=>whnf
   repeat' first|((first|refine sN ?_|refine dC ?_|(refine dZ ?_;refine dI ?_)|refine vM ?_|refine vD ?_|refine mS ?_|(refine xa ?_ ?_<;>intro _)|refine ⟨_,h1,?_⟩|refine ⟨_,xfy c (by omega),?_⟩|refine ⟨_,_,hf,?_⟩)<;>conv=>whnf)
   exact ⟨rfl,rfl⟩
theorem xlu (p:Plan) (c:Clerk):Sem P 9 [(.pure,.agg (aPl p)),(.pure,.agg (aK c))] [] (tFc (clkFold p c)):=by
 have h1:=xc2 p c
 unfold clkFold
 cases hk:clkOk p c with
 | false =>
   rw [hk] at h1
   refine coldFold (cs:=aK Clerk.nil) rfl (vp _) ?_
   refine xd (E:=E0) xb xc (fn:=Go.Proofs.Tryz.f9) (by kernel_rfl) (by kernel_rfl) (fun hb=>?_)
   conv=>whnf
   repeat' first|((first|refine sN ?_|refine dC ?_|(refine dZ ?_;refine dI ?_)|refine vM ?_|refine vD ?_|refine mS ?_|(refine xa ?_ ?_<;>intro _)|refine ⟨_,h1,?_⟩)<;>conv=>whnf)
   exact ⟨rfl,rfl⟩
 | true =>
   rw [hk] at h1
   obtain ⟨hp,hc⟩:=xha hk
   refine xd (E:=E0) xb xc (fn:=Go.Proofs.Tryz.f9) (by kernel_rfl) (by kernel_rfl) (fun hb=>?_)
   conv=>whnf
   repeat' first|((first|refine sN ?_|refine dC ?_|(refine dZ ?_;refine dI ?_)|refine vM ?_|refine vD ?_|refine mS ?_|(refine xa ?_ ?_<;>intro _)|refine ⟨_,h1,?_⟩|refine ⟨_,xg6 p c hp hc,?_⟩)<;>conv=>whnf)
   exact ⟨rfl,rfl⟩
theorem xc9 (p:Plan) (c:Clerk):Sem P 13 [(.pure,.agg (aPl p)),(.pure,.agg (aK c))] [] (B (clkReady p c)):=by
 have h1:=xc1 p c
 unfold clkReady
 cases hk:clkOk p c with
 | false =>
   rw [hk] at h1
   refine xd (E:=E0) xb xc (fn:=Go.Proofs.Tryz.f13) (by kernel_rfl) (by kernel_rfl) (fun hb=>?_)
   conv=>whnf
   repeat' first|((first|refine sN ?_|refine dC ?_|(refine dZ ?_;refine dI ?_)|refine vM ?_|refine vD ?_|refine mS ?_|(refine xa ?_ ?_<;>intro _)|refine ⟨_,h1,?_⟩)<;>conv=>whnf)
   exact ⟨rfl,rfl⟩
 | true =>
   rw [hk] at h1
   refine xd (E:=E0) xb xc (fn:=Go.Proofs.Tryz.f13) (by kernel_rfl) (by kernel_rfl) (fun hb=>?_)
   conv=>whnf
   repeat' first|((first|refine sN ?_|refine dC ?_|(refine dZ ?_;refine dI ?_)|refine vM ?_|refine vD ?_|refine mS ?_|(refine xa ?_ ?_<;>intro _)|refine ⟨_,h1,?_⟩|refine ⟨_,_,xng c,?_⟩)<;>conv=>whnf)
   exact ⟨rfl,rfl⟩
theorem xjd (p:Plan) (c:Clerk):Sem P 14 [(.pure,.agg (aPl p)),(.pure,.agg (aK c))] [] (B (clkReady p c)):=by
 have h1:=xc2 p c
 unfold clkReady
 cases hk:clkOk p c with
 | false =>
   rw [hk] at h1
   refine xd (E:=E0) xb xc (fn:=Go.Proofs.Tryz.f14) (by kernel_rfl) (by kernel_rfl) (fun hb=>?_)
   conv=>whnf
   repeat' first|((first|refine sN ?_|refine dC ?_|(refine dZ ?_;refine dI ?_)|refine vM ?_|refine vD ?_|refine mS ?_|(refine xa ?_ ?_<;>intro _)|refine ⟨_,h1,?_⟩)<;>conv=>whnf)
   exact ⟨rfl,rfl⟩
 | true =>
   rw [hk] at h1
   obtain ⟨hp,hc⟩:=xha hk
   have lg:=xe p.Gives
   have hle:c.Got.countP Got.Has≤c.Got.length:=List.countP_le_length
   have hgl:=hc.gl
   have hr:readyB c=((c.Got.countP Got.Has:Int) == ((ints p.Gives).length:Int)):=by
    rw [xiv hgl,lg]
    by_cases h:(c.Got.countP Got.Has:Int)<(p.Gives.length:Int)
    · rw [decide_eq_true h]; symm; simp; omega
    · rw [decide_eq_false h]; symm; simp; omega
   refine xd (E:=E0) xb xc (fn:=Go.Proofs.Tryz.f14) (by kernel_rfl) (by kernel_rfl) (fun hb=>?_)
   conv=>whnf
   repeat' first|((first|refine sN ?_|refine dC ?_|(refine dZ ?_;refine dI ?_)|refine vM ?_|refine vD ?_|refine mS ?_|(refine xa ?_ ?_<;>intro _)|refine ⟨_,h1,?_⟩|refine ⟨_,xbb c,?_⟩)<;>conv=>whnf)
   exact ⟨congrArg (fun b=>B b) hr.symm,rfl⟩
theorem xwl (a b:List Int) (h1:a.length=3) (h2:b.length=3) (ha:mid a) (hb':mid b):Sem P 63 [(.pure,AI a),(.pure,.one (.sl 24 [eP b]))] [] (AI (plus a b)):=by
 obtain ⟨x,y,z,rfl⟩:=len3 h1
 obtain ⟨u,v,w,rfl⟩:=len3 h2
 have hx:=ha x (by simp); have hy:=ha y (by simp); have hz:=ha z (by simp)
 have hu:=hb' u (by simp); have hv:=hb' v (by simp); have hw:=hb' w (by simp)
 refine xd (E:=E0) xb xc (fn:=Go.Proofs.Tryz.f63) (by kernel_rfl) (by kernel_rfl) (fun hb=>?_)
 conv=>whnf
 repeat' first|((first|refine sN ?_|refine dC ?_|(refine dZ ?_;refine dI ?_)|refine vM ?_|refine vD ?_|refine mS ?_|(refine xa ?_ ?_<;>intro _)|refine apI ?_|refine apN (by simp) ?_)<;>conv=>whnf)
 refine Vc.loop1 (fun (i:Nat)=>i≤1) (fun i=>updL [1,4,5,38] [(6,I i)] [(128128,.arr 3 (ints (match i with|0=>[x,y,z]|_=>[x+u,y+v,z+w])) false)]) (fun i=>1 - i) 0 (by omega) ?_ (fun i hi=>?_)
 · exact wk
 · match i,hi with
   | 0,_ =>
     conv=>whnf
     repeat' first|((first|refine sN ?_|refine dC ?_|(refine dZ ?_;refine dI ?_)|refine vM ?_|refine vD ?_|refine mS ?_|(refine xa ?_ ?_<;>intro _))<;>conv=>whnf)
     refine Vc.loop1 (fun (j:Nat)=>j≤3) (fun j=>updL [1,4,5,6,11,12,13,14,15,16,38] [(7,I j)] [(128128,.arr 3 (ints (match j with|0=>[x,y,z]|1=>[x+u,y,z]|2=>[x+u,y+v,z]|_=>[x+u,y+v,z+w])) false)]) (fun j=>3 - j) 0 (by omega) ?_ (fun j hj=>?_)
     · exact wk
     · match j,hj with
       | 0,_ =>
         conv=>whnf
         repeat' first|((first|refine sN ?_|refine dC ?_|(refine dZ ?_;refine dI ?_)|refine vM ?_|refine vD ?_|refine mS ?_|(refine xa ?_ ?_<;>intro _)|refine ioN (by simp) (by simp) ?_|refine ixK rfl ?_|refine rwC rfl ?_|refine w64 (by omega) (by omega) ?_)<;>conv=>whnf)
         refine ⟨1,by omega,by simp only; omega,?_⟩
         exact wk
       | 1,_ =>
         conv=>whnf
         repeat' first|((first|refine sN ?_|refine dC ?_|(refine dZ ?_;refine dI ?_)|refine vM ?_|refine vD ?_|refine mS ?_|(refine xa ?_ ?_<;>intro _)|refine ioN (by simp) (by simp) ?_|refine ixK rfl ?_|refine rwC rfl ?_|refine w64 (by omega) (by omega) ?_)<;>conv=>whnf)
         refine ⟨2,by omega,by simp only; omega,?_⟩
         exact wk
       | 2,_ =>
         conv=>whnf
         repeat' first|((first|refine sN ?_|refine dC ?_|(refine dZ ?_;refine dI ?_)|refine vM ?_|refine vD ?_|refine mS ?_|(refine xa ?_ ?_<;>intro _)|refine ioN (by simp) (by simp) ?_|refine ixK rfl ?_|refine rwC rfl ?_|refine w64 (by omega) (by omega) ?_)<;>conv=>whnf)
         refine ⟨3,by omega,by simp only; omega,?_⟩
         exact wk
       | 3,_ =>
         conv=>whnf
         repeat' first|((first|refine sN ?_|refine dC ?_|(refine dZ ?_;refine dI ?_)|refine vM ?_|refine vD ?_|refine mS ?_|(refine xa ?_ ?_<;>intro _)|refine w64 (by omega) (by omega) ?_)<;>conv=>whnf)
         refine ⟨1,by omega,by simp only; omega,?_⟩
         exact wk
   | 1,_ =>
     conv=>whnf
     repeat' first|((first|refine sN ?_|refine dC ?_|(refine dZ ?_;refine dI ?_)|refine vM ?_|refine vD ?_|refine mS ?_|(refine xa ?_ ?_<;>intro _))<;>conv=>whnf)
     exact ⟨rfl,rfl⟩
theorem xva (p:Plan) (c:Clerk) (hc:ClerkF p c) (hg:c.Got.length≤3):Sem P 18 [(.pure,.agg (aK c))] [] (AI (given c)):=by
 have lgo:(c.Got.map eG).length=c.Got.length:=List.length_map ..
 have hbl:=(xh.1 hc.b).1
 have lb:=xe c.Base
 refine xd (E:={ E0 with keep:=[7008] }) xb xc (fn:=Go.Proofs.Tryz.f18) (by kernel_rfl) (by kernel_rfl) (fun hb=>?_)
 conv=>whnf
 repeat' first|((first|refine sN ?_|refine dC ?_|(refine dZ ?_;refine dI ?_)|refine vM ?_|refine vD ?_|refine mS ?_|(refine xa ?_ ?_<;>intro _)|refine apI ?_)<;>conv=>whnf)|(refine apN (by simp only [List.length_nil]; omega) ?_;conv=>whnf)
 refine Vc.loop1 (fun (i:Nat)=>i≤c.Got.length) (fun i=>updL [1,2,31] [(4,I i),(3,.one (.ref 128192))] [(128192,.arr 3 (ints (gvAt c i)) false)]) (fun i=>c.Got.length - i) 0 (Nat.zero_le _) ?_ (fun i hi=>?_)
 · exact wk
 · obtain ⟨bl,bb⟩:=xb4 hc i hi
   conv=>whnf
   (repeat' first|((first|refine sN ?_|refine dC ?_|(refine dZ ?_;refine dI ?_)|refine vM ?_|refine vD ?_|refine mS ?_)<;>conv=>whnf))
   refine xg (fun g=>?_) (fun g=>?_)
   all_goals conv=>whnf
   · have hig:i<c.Got.length:=by omega
     have es:=jm (c:=c) hig
     cases hh:(c.Got.getD i default).Has with
     | true =>
       have ha:=xt (jy hc hig hh).1
       rw [hh,if_pos rfl] at es
       have hS:=xwl (gvAt c i) (c.Got.getD i default).Added bl ha.1 (fun x hx=>by have:=bb x hx; omega) (fun x hx=>by have:=ha.2 x hx; omega)
       rw [← es] at hS
       repeat' first|((first|refine sN ?_|refine dC ?_|(refine dZ ?_;refine dI ?_)|refine vM ?_|refine vD ?_|refine mS ?_|(refine xa ?_ ?_<;>intro _)|refine ixN (enc:=eG) default hig ?_|refine ⟨_,hS,?_⟩|refine akP (x3 _) ?_|refine w64 (by omega) (by omega) ?_)<;>conv=>whnf)
       all_goals first
        | (exfalso; clear hb hS; simp_all; done)
        | (refine ⟨i+1,by omega,by simp only; omega,?_⟩
           exact wk
           done)
        | trace_state
     | false =>
       rw [hh,if_neg (by decide)] at es
       repeat' first|((first|refine sN ?_|refine dC ?_|(refine dZ ?_;refine dI ?_)|refine vM ?_|refine vD ?_|refine mS ?_|(refine xa ?_ ?_<;>intro _)|refine ixN (enc:=eG) default hig ?_|refine w64 (by omega) (by omega) ?_)<;>conv=>whnf)
       all_goals first
        | (exfalso; clear hb; simp_all; done)
        | (refine ⟨i+1,by omega,by simp only; omega,?_⟩
           repeat' (first|exact True.intro|((conv=>whnf);first|exact True.intro|refine ⟨by rfl,?_⟩|refine ⟨by first|omega|(show (_:Int)=_;first|omega|(dsimp only;omega))|exact congrArg ints es.symm,?_⟩|refine ⟨?_,?_⟩))
           done)
        | trace_state
   · have e:=xax (c:=c) (i:=i) (by omega)
     rw [e]
     repeat' first|((first|refine sN ?_|refine dC ?_|(refine dZ ?_;refine dI ?_)|refine vM ?_|refine vD ?_|refine mS ?_|(refine xa ?_ ?_<;>intro _))<;>conv=>whnf)
     exact ⟨rfl,rfl⟩
end Cc
end
section
namespace Cc
open Go Go.AM
set_option maxRecDepth 100000
set_option maxHeartbeats 4000000
theorem xvb:Sem P 16 [] [] (B true):=by
 refine xd (E:=E0) xb xc (fn:=Go.Proofs.Tryz.f16) (by kernel_rfl) (by kernel_rfl) (fun hb=>?_)
 conv=>whnf
 repeat' first|((first|refine sN ?_|refine dC ?_|(refine dZ ?_;refine dI ?_)|refine vM ?_|refine vD ?_|refine mS ?_|(refine xa ?_ ?_<;>intro _)|refine ⟨_,v7,?_⟩|refine ⟨_,qo Form.zero,?_⟩)<;>conv=>whnf)
 exact rB rfl
end Cc
end
section
namespace Cc
open Go Go.AM
set_option maxRecDepth 100000
theorem xb7 (a b:List Int):Sem P 21 [(.pure,AI a),(.pure,AI b)] [] (B (decide (a=b))):=by
 refine xd (E:=E0) xb xc (fn:=Go.Proofs.Tryz.f21) (by kernel_rfl) (by kernel_rfl) (fun hb=>?_)
 have la:=xe a
 have lb:=xe b
 have hb1:a.length≤1125899906842624:=by simp [bdIns,bdT,bdA] at hb; omega
 conv=>whnf
 (repeat' first|((first|refine sN ?_|refine dC ?_|(refine dZ ?_;refine dI ?_)|refine vM ?_|refine vD ?_|refine mS ?_)<;>conv=>whnf))
 refine xa (fun h=>?_) (fun h=>?_)
 all_goals conv=>whnf
 all_goals (repeat' first|((first|refine sN ?_|refine dC ?_|(refine dZ ?_;refine dI ?_)|refine vM ?_|refine vD ?_|refine mS ?_)<;>conv=>whnf))
 · exact rB (by have:=yt h; symm; simp; intro e; subst e; simp at this)
 · have h:=yu h
   refine Vc.loop { i:Nat // ∀ j,j<i→a.getD j 0=b.getD j 0 } (fun i=>updL [0,1] [(5,I i.1)] []) (fun i=>a.length - i.1) ⟨0,by simp⟩ ?_ (fun i=>?_)
   · exact wl
   · have hi:=i.2
     conv=>whnf
     (repeat' first|((first|refine sN ?_|refine dC ?_|(refine dZ ?_;refine dI ?_)|refine vM ?_|refine vD ?_|refine mS ?_)<;>conv=>whnf))
     refine xg (fun g=>?_) (fun g=>?_)
     all_goals conv=>whnf
     · repeat' first|((first|refine sN ?_|refine dC ?_|(refine dZ ?_;refine dI ?_)|refine vM ?_|refine vD ?_|refine mS ?_|(refine xa ?_ ?_<;>intro _)|refine ixN (enc:=rI) 0 (by omega) ?_|refine w64 (by omega) (by omega) ?_)<;>conv=>whnf)
       · rename_i g'
         exact rB (by have:=yt g'; symm; simp; intro e; subst e; simp at this)
       · rename_i g'
         have e:=yu g'
         refine ⟨⟨i.1+1,fun j hj=>?_⟩,?_,?_⟩
         · by_cases h:j<i.1
           · exact hi j h
           · obtain rfl:j=i.1:=by omega
             exact e
         · simp only; omega
         · exact wl
     · (repeat' first|((first|refine sN ?_|refine dC ?_|(refine dZ ?_;refine dI ?_)|refine vM ?_|refine vD ?_|refine mS ?_)<;>conv=>whnf))
       exact rB (by symm; simp; exact jh 0 (by omega) fun j hj=>hi j (by omega))
theorem xlv (a b:Rslt):Sem P 20 [(.pure,.agg (aR a)),(.pure,.agg (aR b))] [] (B (decide (a=b))):=by
 refine xd (E:=E0) xb xc (fn:=Go.Proofs.Tryz.f20) (by kernel_rfl) (by kernel_rfl) (fun hb=>?_)
 conv=>whnf
 repeat' first|((first|refine sN ?_|refine dC ?_|(refine dZ ?_;refine dI ?_)|refine vM ?_|refine vD ?_|refine mS ?_|(refine xa ?_ ?_<;>intro _)|refine ⟨_,xb7 _ _,?_⟩)<;>conv=>whnf)
 all_goals refine rB ?_
 all_goals (cases a; cases b; first|(simp_all; done)|(simp_all; rfl))
theorem xwm (a b:Call):Sem P 40 [(.pure,.agg (aC a)),(.pure,.agg (aC b))] [] (B (decide (a=b))):=by
 refine xd (E:=E0) xb xc (fn:=Go.Proofs.Tryz.f40) (by kernel_rfl) (by kernel_rfl) (fun hb=>?_)
 conv=>whnf
 repeat' first|((first|refine sN ?_|refine dC ?_|(refine dZ ?_;refine dI ?_)|refine vM ?_|refine vD ?_|refine mS ?_|(refine xa ?_ ?_<;>intro _)|refine ⟨_,xb7 _ _,?_⟩)<;>conv=>whnf)
 all_goals refine rB ?_
 all_goals (cases a; cases b; first|(simp_all; done)|(simp_all; rfl))
theorem xwn (a b:List Done):Sem P 54 [(.pure,.one (sDs a)),(.pure,.one (sDs b))] [] (B (decide (a=b))):=by
 refine xd (E:=E0) xb xc (fn:=Go.Proofs.Tryz.f54) (by kernel_rfl) (by kernel_rfl) (fun hb=>?_)
 have la:(a.map eD).length=a.length:=List.length_map ..
 have lb:(b.map eD).length=b.length:=List.length_map ..
 have hb1:(a.map eD).length≤1125899906842624:=hb.1.1
 conv=>whnf
 (repeat' first|((first|refine sN ?_|refine dC ?_|(refine dZ ?_;refine dI ?_)|refine vM ?_|refine vD ?_|refine mS ?_)<;>conv=>whnf))
 refine xa (fun h=>?_) (fun h=>?_)
 all_goals conv=>whnf
 all_goals (repeat' first|((first|refine sN ?_|refine dC ?_|(refine dZ ?_;refine dI ?_)|refine vM ?_|refine vD ?_|refine mS ?_)<;>conv=>whnf))
 · exact rB (by have:=yt h; symm; simp; intro e; subst e; simp at this)
 · have h:=yu h
   repeat' first|((first|refine sN ?_|refine dC ?_|(refine dZ ?_;refine dI ?_)|refine vM ?_|refine vD ?_|refine mS ?_|(refine xa ?_ ?_<;>intro _))<;>conv=>whnf)
   refine Vc.loop { i:Nat // ∀ j,j<i→a.getD j default=b.getD j default } (fun i=>updL [0,1] [(5,I i.1)] []) (fun i=>a.length - i.1) ⟨0,by simp⟩ ?_ (fun i=>?_)
   · exact wl
   · have hi:=i.2
     conv=>whnf
     (repeat' first|((first|refine sN ?_|refine dC ?_|(refine dZ ?_;refine dI ?_)|refine vM ?_|refine vD ?_|refine mS ?_)<;>conv=>whnf))
     refine xg (fun g=>?_) (fun g=>?_)
     all_goals conv=>whnf
     · repeat' first|((first|refine sN ?_|refine dC ?_|(refine dZ ?_;refine dI ?_)|refine vM ?_|refine vD ?_|refine mS ?_|(refine xa ?_ ?_<;>intro _)|refine ixN (enc:=eD) default (by omega) ?_|refine ⟨_,xlv (a.getD i.1 default).Res (b.getD i.1 default).Res,?_⟩|refine w64 (by omega) (by omega) ?_)<;>conv=>whnf)
       all_goals first
        | exact rB (by symm; simp only [decide_eq_false_iff_not]; intro e; subst e; simp_all)
        | (refine ⟨⟨i.1+1,fun j hj=>?_⟩,?_,?_⟩
           · by_cases h:j<i.1
             · exact hi j h
             · obtain rfl:j=i.1:=by omega
               (first|(simp_all; done)|(generalize a.getD i.1 default=x at *; generalize b.getD i.1 default=y at *; clear hi; cases x; cases y; simp_all))
           · simp only; omega
           · exact wl)
     · (repeat' first|((first|refine sN ?_|refine dC ?_|(refine dZ ?_;refine dI ?_)|refine vM ?_|refine vD ?_|refine mS ?_)<;>conv=>whnf))
       exact rB (by symm; simp; exact jh default (by omega) fun j hj=>hi j (by omega))
theorem xc3 (a b:List Call):Sem P 11 [(.pure,.one (sCs a)),(.pure,.one (sCs b))] [] (B (decide (a=b))):=by
 refine xd (E:=E0) xb xc (fn:=Go.Proofs.Tryz.f11) (by kernel_rfl) (by kernel_rfl) (fun hb=>?_)
 have la:(a.map eC).length=a.length:=List.length_map ..
 have lb:(b.map eC).length=b.length:=List.length_map ..
 have hb1:(a.map eC).length≤1125899906842624:=hb.1.1
 conv=>whnf
 (repeat' first|((first|refine sN ?_|refine dC ?_|(refine dZ ?_;refine dI ?_)|refine vM ?_|refine vD ?_|refine mS ?_)<;>conv=>whnf))
 refine xa (fun h=>?_) (fun h=>?_)
 all_goals conv=>whnf
 all_goals (repeat' first|((first|refine sN ?_|refine dC ?_|(refine dZ ?_;refine dI ?_)|refine vM ?_|refine vD ?_|refine mS ?_)<;>conv=>whnf))
 · exact rB (by have:=yt h; symm; simp; intro e; subst e; simp at this)
 · have h:=yu h
   repeat' first|((first|refine sN ?_|refine dC ?_|(refine dZ ?_;refine dI ?_)|refine vM ?_|refine vD ?_|refine mS ?_|(refine xa ?_ ?_<;>intro _))<;>conv=>whnf)
   refine Vc.loop { i:Nat // ∀ j,j<i→a.getD j default=b.getD j default } (fun i=>updL [0,1] [(5,I i.1)] []) (fun i=>a.length - i.1) ⟨0,by simp⟩ ?_ (fun i=>?_)
   · exact wl
   · have hi:=i.2
     conv=>whnf
     (repeat' first|((first|refine sN ?_|refine dC ?_|(refine dZ ?_;refine dI ?_)|refine vM ?_|refine vD ?_|refine mS ?_)<;>conv=>whnf))
     refine xg (fun g=>?_) (fun g=>?_)
     all_goals conv=>whnf
     · repeat' first|((first|refine sN ?_|refine dC ?_|(refine dZ ?_;refine dI ?_)|refine vM ?_|refine vD ?_|refine mS ?_|(refine xa ?_ ?_<;>intro _)|refine ixN (enc:=eC) default (by omega) ?_|refine ⟨_,xwm _ _,?_⟩|refine w64 (by omega) (by omega) ?_)<;>conv=>whnf)
       all_goals first
        | exact rB (by symm; simp only [decide_eq_false_iff_not]; intro e; subst e; simp_all)
        | (refine ⟨⟨i.1+1,fun j hj=>?_⟩,?_,?_⟩
           · by_cases h:j<i.1
             · exact hi j h
             · obtain rfl:j=i.1:=by omega
               (first|(simp_all; done)|(generalize a.getD i.1 default=x at *; generalize b.getD i.1 default=y at *; clear hi; cases x; cases y; simp_all))
           · simp only; omega
           · exact wl)
     · (repeat' first|((first|refine sN ?_|refine dC ?_|(refine dZ ?_;refine dI ?_)|refine vM ?_|refine vD ?_|refine mS ?_)<;>conv=>whnf))
       exact rB (by symm; simp; exact jh default (by omega) fun j hj=>hi j (by omega))
theorem xc4 (a b:List Rslt):Sem P 12 [(.pure,.one (sRs a)),(.pure,.one (sRs b))] [] (B (decide (a=b))):=by
 refine xd (E:=E0) xb xc (fn:=Go.Proofs.Tryz.f12) (by kernel_rfl) (by kernel_rfl) (fun hb=>?_)
 have la:(a.map eR).length=a.length:=List.length_map ..
 have lb:(b.map eR).length=b.length:=List.length_map ..
 have hb1:(a.map eR).length≤1125899906842624:=hb.1.1
 conv=>whnf
 (repeat' first|((first|refine sN ?_|refine dC ?_|(refine dZ ?_;refine dI ?_)|refine vM ?_|refine vD ?_|refine mS ?_)<;>conv=>whnf))
 refine xa (fun h=>?_) (fun h=>?_)
 all_goals conv=>whnf
 all_goals (repeat' first|((first|refine sN ?_|refine dC ?_|(refine dZ ?_;refine dI ?_)|refine vM ?_|refine vD ?_|refine mS ?_)<;>conv=>whnf))
 · exact rB (by have:=yt h; symm; simp; intro e; subst e; simp at this)
 · have h:=yu h
   repeat' first|((first|refine sN ?_|refine dC ?_|(refine dZ ?_;refine dI ?_)|refine vM ?_|refine vD ?_|refine mS ?_|(refine xa ?_ ?_<;>intro _))<;>conv=>whnf)
   refine Vc.loop { i:Nat // ∀ j,j<i→a.getD j default=b.getD j default } (fun i=>updL [0,1] [(5,I i.1)] []) (fun i=>a.length - i.1) ⟨0,by simp⟩ ?_ (fun i=>?_)
   · exact wl
   · have hi:=i.2
     conv=>whnf
     (repeat' first|((first|refine sN ?_|refine dC ?_|(refine dZ ?_;refine dI ?_)|refine vM ?_|refine vD ?_|refine mS ?_)<;>conv=>whnf))
     refine xg (fun g=>?_) (fun g=>?_)
     all_goals conv=>whnf
     · repeat' first|((first|refine sN ?_|refine dC ?_|(refine dZ ?_;refine dI ?_)|refine vM ?_|refine vD ?_|refine mS ?_|(refine xa ?_ ?_<;>intro _)|refine ixN (enc:=eR) default (by omega) ?_|refine ⟨_,xlv _ _,?_⟩|refine w64 (by omega) (by omega) ?_)<;>conv=>whnf)
       all_goals first
        | exact rB (by symm; simp only [decide_eq_false_iff_not]; intro e; subst e; simp_all)
        | (refine ⟨⟨i.1+1,fun j hj=>?_⟩,?_,?_⟩
           · by_cases h:j<i.1
             · exact hi j h
             · obtain rfl:j=i.1:=by omega
               (first|(simp_all; done)|(generalize a.getD i.1 default=x at *; generalize b.getD i.1 default=y at *; clear hi; cases x; cases y; simp_all))
           · simp only; omega
           · exact wl)
     · (repeat' first|((first|refine sN ?_|refine dC ?_|(refine dZ ?_;refine dI ?_)|refine vM ?_|refine vD ?_|refine mS ?_)<;>conv=>whnf))
       exact rB (by symm; simp; exact jh default (by omega) fun j hj=>hi j (by omega))
end Cc
end
section
namespace Cc
open Go Go.AM
set_option maxRecDepth 100000
set_option maxHeartbeats 4000000
theorem xwo {m n:Nat} (h:((m:Int) != (n:Int))=false):m=n:=by have:=yu h; omega
theorem xfz (a b:Clerk):Sem P 10 [(.pure,.agg (aK a)),(.pure,.agg (aK b))] [] (B (decide (a=b))):=by
 refine xd (E:=E0) xb xc (fn:=Go.Proofs.Tryz.f10) (by kernel_rfl) (by kernel_rfl) (fun hb=>?_)
 have la:(a.Got.map eG).length=a.Got.length:=List.length_map ..
 have lb:(b.Got.map eG).length=b.Got.length:=List.length_map ..
 have hb1:(a.Got.map eG).length≤1125899906842624:=(hb.1 (sGs a.Got) (by simp)).1
 conv=>whnf
 repeat' first|((first|refine sN ?_|refine dC ?_|(refine dZ ?_;refine dI ?_)|refine vM ?_|refine vD ?_|refine mS ?_|(refine xa ?_ ?_<;>intro _)|refine ⟨_,xb7 _ _,?_⟩|refine ⟨_,xwn _ _,?_⟩|refine ⟨_,xc3 _ _,?_⟩)<;>conv=>whnf)
 all_goals first
  | exact rB (by symm; simp only [decide_eq_false_iff_not]; intro e; subst e; simp_all)
  | skip
 rename_i h1 h2 h3 h4 h5 h6
 refine Vc.loop { i:Nat // ∀ j,j<i→a.Got.getD j default=b.Got.getD j default } (fun i=>updL [2,3] [(5,I i.1)] []) (fun i=>a.Got.length - i.1) ⟨0,by simp⟩ ?_ (fun i=>?_)
 · exact wl
 · have hi:=i.2
   have h2':(a.Got.map eG).length=(b.Got.map eG).length:=xwo h6
   conv=>whnf
   (repeat' first|((first|refine sN ?_|refine dC ?_|(refine dZ ?_;refine dI ?_)|refine vM ?_|refine vD ?_|refine mS ?_)<;>conv=>whnf))
   refine xg (fun g=>?_) (fun g=>?_)
   all_goals conv=>whnf
   · repeat' first|((first|refine sN ?_|refine dC ?_|(refine dZ ?_;refine dI ?_)|refine vM ?_|refine vD ?_|refine mS ?_|(refine xa ?_ ?_<;>intro _)|refine ixN (enc:=eG) default (by omega) ?_|refine ⟨_,xb7 _ _,?_⟩|refine w64 (by omega) (by omega) ?_)<;>conv=>whnf)
     all_goals first
      | exact rB (by symm; simp only [decide_eq_false_iff_not]; intro e; subst e; simp_all)
      | (refine ⟨⟨i.1+1,fun j hj=>?_⟩,?_,?_⟩
         · by_cases h:j<i.1
           · exact hi j h
           · obtain rfl:j=i.1:=by omega
             generalize a.Got.getD i.1 default=x at *; generalize b.Got.getD i.1 default=y at *; clear hi; cases x; cases y; simp_all
         · simp only; omega
         · exact wl)
   · (repeat' first|((first|refine sN ?_|refine dC ?_|(refine dZ ?_;refine dI ?_)|refine vM ?_|refine vD ?_|refine mS ?_)<;>conv=>whnf))
     exact rB (by
      have e:a.Got=b.Got:=jh default (by omega) fun j hj=>hi j (by omega)
      cases a; cases b; simp_all)
end Cc
end
section
namespace Cc
open Go Go.AM
set_option maxRecDepth 100000
set_option maxHeartbeats 16000000
theorem xlw (bs:List UInt8):∃ res,(∃ (p:Plan) (c:Clerk),res=.tup [(true,ePl p),(true,eK c)])∧Sem P 7 [(.pure,.one (sBy bs))] [] res:=by
 have key:∃ res outs,(outs=[]∧∃ (p:Plan) (c:Clerk),res=.tup [(true,ePl p),(true,eK c)])∧Sem P 7 [(.pure,.one (sBy bs))] outs res:=by
  refine x6 (E:={ E0 with keep:=[2001] }) xb xc (fn:=Go.Proofs.Tryz.f7) (by kernel_rfl) (by kernel_rfl) ?_
  conv=>whnf
  repeat' first|((first|refine sN ?_|refine dC ?_|(refine dZ ?_;refine dI ?_)|refine vM ?_|refine vD ?_|refine mS ?_|(refine xa ?_ ?_<;>intro _))<;>conv=>whnf)|(refine callS (xtg bs) ?_; rintro _ ⟨cs,hcs,rfl⟩;conv=>whnf)|(refine callIo (xqp cs _ _ (by omega) (by decide) hcs) ?_; rintro _ _ ⟨p,c,w,b,hb,hw,rfl,rfl⟩;conv=>whnf)
  exact ⟨rfl,p,c,rfl⟩
 obtain ⟨r,o,⟨rfl,h⟩,h4⟩:=key
 exact ⟨r,h,h4⟩
def valsAfter (p:Plan):List Call→List Int→List Int
 | [],v=>v
 | x::r,v=>valsAfter p r (runQ p v x).2
theorem xda (p:Plan):∀ (l:List Call) (x:Call) (v:List Int),valsAfter p (l++[x]) v=(runQ p (valsAfter p l v) x).2
 | [],_,_=>rfl
 | y::r,x,v=>xda p r x (runQ p v y).2
theorem xek (p:Plan) (got:List Got):∀ (l:List Call) (v:List Int) (d:List Done),(foldWants p got l v d).1=valsAfter p ((foldWants p got l v d).2.2.map Prod.fst) v ∧
 ∀ i,i<(foldWants p got l v d).2.2.length→(runQ p (valsAfter p (((foldWants p got l v d).2.2.map Prod.fst).take i) v) (((foldWants p got l v d).2.2.map Prod.fst).getD i Call.nil)).1=((foldWants p got l v d).2.2.map Prod.snd).getD i Rslt.nil
 | [],v,d=>⟨rfl,fun i h=>by simp [foldWants] at h⟩
 | x::r,v,d=>by
   unfold foldWants
   split
   · obtain ⟨h1,h2⟩:=xek p got r (runQ p v x).2 (d.set x.Client.toNat ⟨x.Seq,(runQ p v x).1⟩)
     refine ⟨h1,fun i hi=>?_⟩
     cases i with
     | zero=>rfl
     | succ i=>exact h2 i (Nat.lt_of_succ_lt_succ hi)
   · exact xek p got r v d
theorem xtj {n:Nat} (h:1≤n) (u:Bool) (r:Int) (b:List Int) (d:List Done) (w:List Call):readyB ⟨u,r,b,d,w,List.replicate n Got.nil⟩=false:=by
 cases n with
 | zero=>omega
 | succ n=>rfl
theorem qj {f:Nat} {α:Type} [DecidableEq α] {a:α} {ins:List (Go.AM.Mode × TV)} (h:Sem P f ins [] (B (decide (a=a)))):Sem P f ins [] (B true):=by
 rw [decide_eq_true rfl] at h; exact h
theorem law_clkFold (bs:List UInt8):Sem P 3 [(.pure,.one (sBy bs))] [] (B true):=by
 refine xd (E:=E0) xb xc (fn:=Go.Proofs.Tryz.f3) (by kernel_rfl) (by kernel_rfl) (fun hb=>?_)
 have lb:(bytesRows bs).length=bs.length:=List.length_map ..
 conv=>whnf
 repeat' first|((first|refine sN ?_|refine dC ?_|(refine dZ ?_;refine dI ?_)|refine vM ?_|refine vD ?_|refine mS ?_|(refine xa ?_ ?_<;>intro _))<;>conv=>whnf)|(refine callS (xlw bs) ?_; rintro _ ⟨p,c,rfl⟩;conv=>whnf)
 · exact ⟨rfl,rfl⟩
 have hI:=xlt p c
 have hS:=xlu p c
 have hO:=xc2 p c
 have hR1:=xc9 p c
 have hR2:=xjd p c
 cases hk:clkOk p c with
 | false =>
   have e:clkFold p c=(Clerk.nil,[]):=by unfold clkFold; rw [hk]; rfl
   have e2:clkReady p c=false:=by unfold clkReady; rw [hk]; rfl
   rw [e] at hI hS
   rw [e2] at hR1 hR2
   rw [hk] at hO
   repeat' first|((first|refine sN ?_|refine dC ?_|(refine dZ ?_;refine dI ?_)|refine vM ?_|refine vD ?_|refine mS ?_|(refine xa ?_ ?_<;>intro _)|refine ⟨_,hI,?_⟩|refine ⟨_,hS,?_⟩|refine ⟨_,hO,?_⟩|refine ⟨_,hR1,?_⟩|refine ⟨_,hR2,?_⟩|refine ⟨_,qj (xfz Clerk.nil Clerk.nil),?_⟩|refine ⟨_,qj (xc3 [] []),?_⟩|refine ⟨_,qj (xc4 [] []),?_⟩|refine ⟨_,xvb,?_⟩)<;>conv=>whnf)
   all_goals first
    | exact ⟨rfl,rfl⟩
    | trace_state
 | true =>
   obtain ⟨hp,hc⟩:=xha hk
   have hF:=planF hp
   have e:clkFold p c=clerkFold p c:=by unfold clkFold; rw [hk]; rfl
   have e2:clkReady p c=readyB c:=by unfold clkReady; rw [hk]; rfl
   rw [e] at hI hS
   rw [e2] at hR1 hR2
   rw [hk] at hO
   have hg3:=yp hp
   have hgv:=xva p c hc (by rw [hc.gl]; exact hg3)
   have hV:=qe (given c)
   have hrd:=hc.r
   cases hcnd:(!readyB c || decide (c.Round=200) || !valOk (given c)) with
   | true =>
     rw [xeg hcnd] at hI hS
     generalize hb1:readyB c=b1 at *
     generalize hb2:valOk (given c)=b2 at *
     cases b1<;>cases b2
     all_goals repeat' first|((first|refine sN ?_|refine dC ?_|(refine dZ ?_;refine dI ?_)|refine vM ?_|refine vD ?_|refine mS ?_|(refine xa ?_ ?_<;>intro _)|refine ⟨_,hI,?_⟩|refine ⟨_,hS,?_⟩|refine ⟨_,hO,?_⟩|refine ⟨_,hR1,?_⟩|refine ⟨_,hR2,?_⟩|refine ⟨_,qj (xfz c c),?_⟩|refine ⟨_,qj (xc3 [] []),?_⟩|refine ⟨_,qj (xc4 [] []),?_⟩|refine ⟨_,hgv,?_⟩|refine ⟨_,hV,?_⟩)<;>conv=>whnf)
     all_goals first
      | exact ⟨rfl,rfl⟩
      | (exfalso; clear hI hS hO hR1 hR2 hgv hV hb; simp_all; done)
      | trace_state
   | false =>
     rw [w5 hcnd] at hI hS
     simp only [Bool.or_eq_false_iff,Bool.not_eq_false',decide_eq_false_iff_not] at hcnd
     obtain ⟨⟨h1,h2⟩,hv⟩:=hcnd
     rw [h1] at hR1 hR2
     obtain ⟨v1,v2⟩:=xek p c.Got c.Wants (given c) c.Done
     have hok:=xap hF hc
     rw [w5 (by rw [h1,hv,decide_eq_false h2]; rfl)] at hok
     obtain ⟨o1,o2,-,-,-⟩:=hok
     simp only at o1 o2
     have hlen:=kx p c.Got c.Wants (given c) c.Done
     have hw4:=kc hc (xu hp)
     generalize foldWants p c.Got c.Wants (given c) c.Done=y at *
     obtain ⟨vf,df,l⟩:=y
     simp only at v1 v2 o1 o2 hlen
     replace hI:Sem P 8 _ [] (.tup [(true,eK ⟨c.Up,c.Round+1,vf,df,[],List.replicate c.Got.length Got.nil⟩),(false,[fCs (l.map Prod.fst)]),(false,[fRs (l.map Prod.snd)])]):=hI
     replace hS:Sem P 9 _ [] (.tup [(true,eK ⟨c.Up,c.Round+1,vf,df,[],List.replicate c.Got.length Got.nil⟩),(false,[fCs (l.map Prod.fst)]),(false,[fRs (l.map Prod.snd)])]):=hS
     have hO2:=xc1 p ⟨c.Up,c.Round+1,vf,df,[],List.replicate c.Got.length Got.nil⟩
     have hR3:=xc9 p ⟨c.Up,c.Round+1,vf,df,[],List.replicate c.Got.length Got.nil⟩
     have hk2:clkOk p ⟨c.Up,c.Round+1,vf,df,[],List.replicate c.Got.length Got.nil⟩=true:=by unfold clkOk; rw [hp,clerkF.2 o1]; rfl
     have hk3:clkReady p ⟨c.Up,c.Round+1,vf,df,[],List.replicate c.Got.length Got.nil⟩=false:=by
      unfold clkReady; rw [xtj (by rw [hc.gl]; exact hF.g1.1)]; simp
     rw [hk2] at hO2
     rw [hk3] at hR3
     have lf:((l.map Prod.fst).map eC).length=l.length:=by simp
     have lf2:(l.map Prod.fst).length=l.length:=by simp
     have lr2:(l.map Prod.snd).length=l.length:=by simp
     have lpa:(p.Acts.map eA).length=p.Acts.length:=List.length_map ..
     have hcl1:=qj (xfz ⟨c.Up,c.Round+1,vf,df,[],List.replicate c.Got.length Got.nil⟩ ⟨c.Up,c.Round+1,vf,df,[],List.replicate c.Got.length Got.nil⟩)
     repeat' first|((first|refine sN ?_|refine dC ?_|(refine dZ ?_;refine dI ?_)|refine vM ?_|refine vD ?_|refine mS ?_|(refine xa ?_ ?_<;>intro _)|refine ⟨_,hI,?_⟩|refine ⟨_,hS,?_⟩|refine ⟨_,hO,?_⟩|refine ⟨_,hR1,?_⟩|refine ⟨_,hR2,?_⟩|refine ⟨_,hcl1,?_⟩|refine ⟨_,qj (xc3 (l.map Prod.fst) (l.map Prod.fst)),?_⟩|refine ⟨_,qj (xc4 (l.map Prod.snd) (l.map Prod.snd)),?_⟩|refine ⟨_,hgv,?_⟩)<;>conv=>whnf)
     all_goals first
      | (exfalso; clear hI hS hO hR1 hR2 hgv hV hb hO2 hR3 hcl1; simp only [beq_iff_eq] at *; omega)
      | skip
     refine Vc.loop1 (fun (i:Nat)=>i≤l.length) (fun i=>updL [3,4,5,6,7,137,138,139,140,141,142,143,144,145,146,147,148,149,150,151,152,153,154,155,156,157,158,159,160,161,162,163,164,165,166,167,168,169,170] [(12,I i),(11,.one (fI (valsAfter p ((l.map Prod.fst).take i) (given c))))] []) (fun i=>l.length - i) 0 (Nat.zero_le _) ?_ (fun i hi=>?_)
     · exact wk
     · conv=>whnf
       (repeat' first|((first|refine sN ?_|refine dC ?_|(refine dZ ?_;refine dI ?_)|refine vM ?_|refine vD ?_|refine mS ?_)<;>conv=>whnf))
       refine xg (fun g=>?_) (fun g=>?_)
       all_goals conv=>whnf
       · have hil:i<l.length:=by omega
         have hmem:=(o2 _ (xof hil)).1
         have c3:0≤((l.map Prod.fst).getD i Call.nil).Act∧((l.map Prod.fst).getD i Call.nil).Act≤p.Acts.length - 1:=(xz.1 hmem).2.2.1
         have hA:=xe6 (p.Acts.getD ((l.map Prod.fst).getD i Call.nil).Act.toNat []) (valsAfter p ((l.map Prod.fst).take i) (given c)) ((l.map Prod.fst).getD i Call.nil).Args
         have hre:=v2 i hil
         have hco:=qj (xlv ((l.map Prod.snd).getD i Rslt.nil) ((l.map Prod.snd).getD i Rslt.nil))
         have hnx:valsAfter p ((l.map Prod.fst).take (i+1)) (given c)=(runQ p (valsAfter p ((l.map Prod.fst).take i) (given c)) ((l.map Prod.fst).getD i Call.nil)).2:=by
          have e:(l.map Prod.fst).take (i+1)=(l.map Prod.fst).take i++[(l.map Prod.fst).getD i Call.nil]:=by
           rw [List.take_succ,List.getElem?_eq_getElem (by omega),List.getD_eq_getElem?_getD,List.getElem?_eq_getElem (by omega)]; rfl
          rw [e,xda]
         unfold runQ at hre hnx
         rw [hre,← hnx] at hA
         repeat' first|((first|refine sN ?_|refine dC ?_|(refine dZ ?_;refine dI ?_)|refine vM ?_|refine vD ?_|refine mS ?_|(refine xa ?_ ?_<;>intro _)|refine ixN (enc:=eC) Call.nil (by omega) ?_|refine ixN (enc:=eR) Rslt.nil (by omega) ?_|refine ixI (enc:=eA) [] (by omega) (by omega) ?_|refine ⟨_,hA,?_⟩|refine ⟨_,hco,?_⟩|refine w64 (by omega) (by omega) ?_)<;>conv=>whnf)
         refine ⟨i+1,by omega,by simp only; omega,?_⟩
         exact wk
       · have e3:(l.map Prod.fst).take i=l.map Prod.fst:=List.take_of_length_le (by omega)
         rw [e3,← v1]
         repeat' first|((first|refine sN ?_|refine dC ?_|(refine dZ ?_;refine dI ?_)|refine vM ?_|refine vD ?_|refine mS ?_|(refine xa ?_ ?_<;>intro _)|refine ⟨_,hR1,?_⟩|refine ⟨_,hO2,?_⟩|refine ⟨_,hR3,?_⟩|refine ⟨_,qj (xb7 vf vf),?_⟩|refine w64 (by omega) (by omega) ?_)<;>conv=>whnf)
         all_goals first
          | exact ⟨rfl,rfl⟩
          | (exfalso; clear hI hS hO hR1 hR2 hgv hV hb hO2 hR3 hcl1; simp_all; done)
          | trace_state
end Cc
end
