/- The law FnClkFold: part 6 of 35. No conditions beyond the statement. -/
import Derived.Test.YtnigojkdmmeglaaGreatDoorClf5
set_option linter.unusedVariables false
set_option linter.unusedSimpArgs false
set_option maxRecDepth 100000
set_option maxHeartbeats 16000000
section
namespace Cc
open Go Go.AM
theorem xke:∀ {a b:List Int} {i:Nat},i<a.length->i<b.length->dot (a.take (i+1)) (b.take (i+1))=dot (a.take i) (b.take i)+a.getD i 0*b.getD i 0
 | [],_,_,h,_=>by simp at h
 | _::_,[],_,_,h=>by simp at h
 | x::a,y::b,0,_,_=>by simp [dot]
 | x::a,y::b,i+1,h,h'=>by
   have:=xke (a:=a) (b:=b) (i:=i) (by simpa using h) (by simpa using h');simp only [List.take_succ_cons,dot,List.getD_cons_succ] at this ⊢;omega
theorem kj {l:List Int} {m:Int} (h:∀ x∈l,-m<=x/\x<=m) {i:Nat} (hi:i<l.length) : -m<=l.getD i 0/\l.getD i 0<=m:=by
 rw [xxx,xxr hi];exact h _ (xyy hi)
theorem xfp (a b:List Int) (hl:a.length<=3) (hab:a.length=b.length) (ha:∀ x∈a,-10000000<=x/\x<=10000000) (hb':∀ x∈b,-10000000000<=x/\x<=10000000000):Sem P 152 [(.pure,AI a),(.pure,AI b)] [] (I (dot a b)):=by
 refine fO Go.Proofs.Tryz.f152 fun hb=>?_;have la:=xb a;have lb:=xb b;conv=>whnf
 (refine zA ?_)
 refine Vc.loop2 (fun (i:Nat) (n:Int)=>i<=a.length/\n=dot (a.take i) (b.take i) /\ -(i*100000000000000000:Int)<=n/\n<=i*100000000000000000) (fun i n=>updL [1,4,8,9,24] [(10,I i),(5,I n)] []) (fun i _=>a.length - i) 0 0 ⟨by omega,by simp [dot],by simp,by simp⟩ ?_ (fun i n hi=>?_)
 · exact wl
 · obtain ⟨hi,hn,h1,h2⟩:=hi;conv=>whnf
   (refine zA ?_)
   refine xd (fun g=>?_) (fun g=>?_)
   all_goals conv=>whnf
   · have e:=xke (a:=a) (b:=b) (i:=i) (by omega) (by omega);have p:=xj (kj ha (i:=i) (by omega)) (kj hb' (i:=i) (by omega))
     repeat' first|((first|refine zz ?_|(refine xa ?_ ?_<;>intro _)|refine ixN (enc:=rI) 0 (by omega) ?_|refine wq ?_)<;>conv=>whnf)
     refine ⟨i+1,n+a.getD i 0*b.getD i 0,⟨by omega,by omega,by omega,by omega⟩,by simp only; omega,?_⟩;exact wl
   ·
    (refine zA ?_)
    have e:i=a.length:=by omega
    subst e;rw [xzo,hab,xzo] at hn;exact rI' hn
theorem xgq {a b:List Int} (hl:a.length<=3) {m k:Int} (ha:∀ x∈a,-m<=x/\x<=m) (hb:∀ x∈b,-k<=x/\x<=k) (hm:0<=m*k) : -(3*(m*k))<=dot a b/\dot a b<=3*(m*k):=by
 match a,b,hl with
 | [],_,_=>simp [dot]; omega
 | _::_,[],_=>simp [dot]; omega
 | [x],y::b,_ =>
   have:=xj (ha x (by simp)) (hb y (by simp));simp only [dot]; omega
 | [x,x'],[y],_ =>
   have:=xj (ha x (by simp)) (hb y (by simp));simp only [dot]; omega
 | [x,x'],y::y'::b,_ =>
   have:=xj (ha x (by simp)) (hb y (by simp));have:=xj (ha x' (by simp)) (hb y' (by simp));simp only [dot]; omega
 | [x,x',x''],[y],_ =>
   have:=xj (ha x (by simp)) (hb y (by simp));simp only [dot]; omega
 | [x,x',x''],[y,y'],_ =>
   have:=xj (ha x (by simp)) (hb y (by simp));have:=xj (ha x' (by simp)) (hb y' (by simp));simp only [dot]; omega
 | [x,x',x''],y::y'::y''::b,_ =>
   have:=xj (ha x (by simp)) (hb y (by simp));have:=xj (ha x' (by simp)) (hb y' (by simp));have:=xj (ha x'' (by simp)) (hb y'' (by simp));simp only [dot]; omega
theorem xhs (f:Form) (vals args:List Int) (hf:f.bd 10000000) (hv:nums vals 3) (ha:nums args 2):Sem P 67 [(.pure,.agg (aF f)),(.pure,AI vals),(.pure,AI args)] [] (I (f.at vals args)):=by
 have b1:=xgq (a:=f.C) (b:=vals) (by rw [hf.1.1]; decide) hf.2.1 hv.2 (by decide);have b2:=xgq (a:=f.D) (b:=args) (by rw [hf.1.2]; decide) hf.2.2.1 ha.2 (by decide);have b3:=hf.2.2.2;refine fO Go.Proofs.Tryz.f67 fun hb=>?_;conv=>whnf
 repeat' first|((first|refine zz ?_|(refine xa ?_ ?_<;>intro _))<;>conv=>whnf)|(refine ⟨_,xfp f.C vals (by rw [hf.1.1]; decide) (by rw [hf.1.1,hv.1]) hf.2.1 hv.2,?_⟩;conv=>whnf)|(refine ⟨_,xfp f.D args (by rw [hf.1.2]; decide) (by rw [hf.1.2,ha.1]) hf.2.2.1 ha.2,?_⟩;conv=>whnf)|((first|refine wq ?_)<;>conv=>whnf)
 exact ⟨rfl,rfl⟩
theorem xvf (args:List Int) {act:List Line} {i:Nat} (own tells:List Int) (h:i<act.length):goLines args (act.drop i) own tells =
 if (act.getD i default).Kind=4 then none
 else if (act.getD i default).Kind=1 then (if (act.getD i default).Form.at own args<0 then goLines args (act.drop (i+1+(act.getD i default).Skip.toNat)) own tells else goLines args (act.drop (i+1)) own tells)
 else if (act.getD i default).Kind=2 then goLines args (act.drop (i+1)) (own.set (act.getD i default).Pot.toNat (own.getD (act.getD i default).Pot.toNat 0+(act.getD i default).Form.at own args)) tells
 else goLines args (act.drop (i+1)) own (tells++[(act.getD i default).Form.at own args]):=by
 rw [x0h h,goLines,x1x];have e:act.getD i default=act[i]:=by rw [xxx,xxr h]; rfl
 rw [e]
theorem xry (args:List Int) {act:List Line} {i:Nat} (own tells:List Int) (h:act.length<=i):goLines args (act.drop i) own tells=some (own,tells):=by
 rw [xz7 h,goLines]
def bnd:Nat->Int
 | 0=>10000
 | k+1=>7*bnd k+74
theorem xgr:∀ k,10000<=bnd k
 | 0=>by decide
 | k+1=>by have:=xgr k; simp only [bnd]; omega
theorem xkf {i j:Nat} (h:i<=j):bnd i<=bnd j:=by
 induction j with
 | zero =>
    obtain rfl:i=0:=by omega
    exact x10 _
 | succ j ih =>
   by_cases e:i=j+1
   · rw [e]; exact x10 _
   · have:=ih (by omega);have:=xgr j;simp only [bnd]; omega
theorem xkg {i:Nat} (h:i<=6):bnd i<=2000000000:=Int.le_trans (xkf h) (by decide)
def potsB (own:List Int) (i:Nat):Prop:=own.length=3/\∀ x∈own,-bnd i<=x/\x<=bnd i
theorem potsB.nums {own:List Int} {i:Nat} (h:potsB own i) (hi:i<=6):nums own 3:=⟨h.1,fun x hx=>by have:=h.2 x hx; have:=xkg hi; omega⟩
theorem potsB.mono {own:List Int} {i j:Nat} (h:potsB own i) (hi:i<=j):potsB own j:=⟨h.1,fun x hx=>by have:=h.2 x hx; have:=xkf hi; omega⟩
theorem potsB.zero {own:List Int} (h:valOk own=true):potsB own 0:=by
 obtain ⟨h1,h2⟩:=xe.1 h;exact ⟨h1,fun x hx=>h2 x hx⟩
theorem j6 {args:List Int} (h:argOk args=true):nums args 2:=by
 obtain ⟨h1,h2⟩:=xe.1 h;exact ⟨h1,fun x hx=>by have:=h2 x hx; omega⟩
theorem xw7 {args:List Int} (h:argOk args=true):∀ x∈args,-9<=x/\x<=9:=(xe.1 h).2
theorem xib {x:Line} (h:x.ok=true) (h4:¬ x.Kind=4):x.Form.small=true:=by
 unfold Line.ok at h
 split at h
 · simp at h; exact h.2
 · split at h
   · simp at h; exact h.2
   · split at h
     · simp at h; exact h.2
     · simp_all
theorem yx {f:Form} (h:f.small=true):f.bd 10000000/\(∀ x∈f.C,-2<=x/\x<=2)/\(∀ x∈f.D,-2<=x/\x<=2) /\ -20<=f.K/\f.K<=20:=by
 obtain ⟨a,b,c,d,e,k,rfl,ha,hb,hc,hd,he,hk⟩:=xfo h;refine ⟨bdI (by omega) (by omega) (by omega) (by omega) (by omega) (by omega),by simp; omega,by simp; omega,by simp; omega⟩
theorem j7 {f:Form} {own args:List Int} {i:Nat} (hf:f.small=true) (ho:potsB own i) (ha:argOk args=true) : -(6*bnd i+74)<=f.at own args/\f.at own args<=6*bnd i+74:=by
 obtain ⟨h0,h1,h2,h3⟩:=yx hf;have hb:=xgr i;have p1:=xgq (a:=f.C) (b:=own) (by rw [h0.1.1]; decide) h1 ho.2 (by omega);have p2:=xgq (a:=f.D) (b:=args) (by rw [h0.1.2]; decide) h2 (xw7 ha) (by decide);simp only [Form.at]; omega
theorem potsB.set {own:List Int} {i:Nat} {p:Nat} {n:Int} (h:potsB own i) (hn : -(6*bnd i+74)<=n/\n<=6*bnd i+74) (hp:p<3):potsB (own.set p (own.getD p 0+n)) (i+1):=by
 have hb:=xgr i;have hq:=kj h.2 (i:=p) (by rw [h.1]; exact hp);refine ⟨by rw [xzd]; exact h.1,fun x hx=>?_⟩;rcases xz0 hx with h'|rfl
 · have:=h.2 x h'; simp only [bnd]; omega
 · simp only [bnd]; omega
theorem ixE {α:Type} {L:List α} {enc:α->List AV} {i:Nat} {x:α} {k:List AV->Prop} (h:L[i]?=some x) (hk:k (enc x)):0<=(i:Int)/\∃ row,(L.map enc)[((i:Int)).toNat]?=some row/\k row :=
 ⟨by omega,_,by rw [xym,xx0,h]; rfl,hk⟩
theorem x1 (l:List Int):allPrim (ints l):=by
 intro row hr a ha;obtain ⟨n,_,rfl⟩:=xx6.1 hr;exact ⟨_,xx1.1 ha⟩
theorem apP {r:List (List AV)} {k q:Prop} (h:allPrim r) (hk:k):allPrim r/\k\/q:=.inl ⟨h,hk⟩
theorem yr (l:List Int) (i:Nat) (n:Int):(ints l).set i (rI n)=ints (l.set i n):=xz8.symm
theorem qa (l:List Int) (n:Int):ints l++[rI n]=ints (l++[n]):=by simp
theorem apN {a:Nat} {k:Prop} (h:a<=1048576) (hk:k):a<=1048576/\k:=⟨h,hk⟩
theorem xe7 (act:List Line) (vals args:List Int):Sem P 19 [(.pure,.one (sLs act)),(.pure,AI vals),(.pure,AI args)] [] (.tup [(true,aR (actRun act vals args).1),(false,[sI (actRun act vals args).2])]):=by
 refine fK [4001,11002,22002] Go.Proofs.Tryz.f19 fun hb=>?_;have la:(act.map eL).length=act.length:=xxs ..;by_cases hall:(actOk act && valOk vals && argOk args)=true
 · obtain ⟨⟨ha,hv⟩,hg⟩:(actOk act=true/\valOk vals=true)/\argOk args=true:=by simpa using hall
   have hlen:vals.length<=100000:=by rw [(potsB.zero hv).1]; decide
   have e0:actRun act vals args=endOf vals (goLines args act vals []):=by rw [actRun,if_pos hall]
   obtain ⟨hlines,h6,_⟩:=y6.1 ha;rw [e0];conv=>whnf
   repeat' first|((first|refine zz ?_|(refine xa ?_ ?_<;>intro _)|refine ⟨_,jt _,?_⟩|refine ⟨_,qe _,?_⟩|refine ⟨_,xcj _,?_⟩|refine ⟨_,x7 vals hlen,?_⟩)<;>conv=>whnf)
   · rename_i h; rw [ha] at h; cases h
   · rename_i h; rw [hv] at h; cases h
   · rename_i h; rw [hg] at h; cases h
   · refine Vc.loop3 (fun (i:Nat) (own tells:List Int)=>i<=12/\potsB own (min i 6)/\tells.length<=i/\goLines args act vals []=goLines args (act.drop i) own tells) (fun i own tells=>updL [0,1,2,6,8,76,77,78,79,80,81,82,83,84] [(10,I i),(9,.one (.ref 320000))] [(256064,.arr 3 (ints own) false),(320000,.arr 3 (ints tells) false)]) (fun i _ _=>12 - i) 0 vals [] ⟨by omega,potsB.zero hv,by simp,rfl⟩ ?_ (fun i own tells hi=>?_)
     · exact wl
     · obtain ⟨hi,ho,ht,hgo⟩:=hi;have lt:=xb tells;conv=>whnf
       (refine zA ?_)
       refine xd (fun g=>?_) (fun g=>?_)
       all_goals conv=>whnf
       · have hi6:i<act.length:=by omega
         have hm:min i 6=i:=by omega
         rw [hm] at ho;rw [xvf args own tells hi6] at hgo;obtain ⟨x,hxi⟩:∃ x,act[i]?=some x:=⟨_,xxr hi6⟩;have hx:x.ok=true:=hlines _ (xx8 hxi);have ex:act.getD i default=x:=by rw [xxx,hxi]; rfl
         rw [ex] at hgo;have hkind:=xa5 hx;have hsk:=xa4 hx;have hpo:=j5 hx;have hfo:=xib hx;obtain ⟨kind,pot,skip,form⟩:=x;simp only at hkind hsk hpo hfo hgo;rcases hkind with rfl|rfl|rfl|rfl
         · have hs:=hfo (by decide);have hsk:=hsk rfl;have q:=j7 hs ho hg;simp only [Int.reduceEq,xzz,if_true] at hgo
           repeat' first|((first|refine zz ?_|(refine xa ?_ ?_<;>intro _)|refine ixE (enc:=eL) hxi ?_|refine ⟨_,xhs form own args (yx hs).1 (ho.nums (by omega)) (j6 hg),?_⟩|refine wq ?_)<;>conv=>whnf)
           · rename_i h;have h:form.at own args<0:=by simpa using h
             rw [if_pos h] at hgo;refine ⟨i+1+skip.toNat,own,tells,⟨by omega,ho.mono (by omega),by omega,hgo⟩,by simp only; omega,?_⟩;exact wk
           · rename_i h;have h:¬ form.at own args<0:=by simpa using h
             rw [if_neg h] at hgo;refine ⟨i+1,own,tells,⟨by omega,ho.mono (by omega),by omega,hgo⟩,by simp only; omega,?_⟩;exact wl
         · have hs:=hfo (by decide);have hpo:=hpo rfl;have q:=j7 hs ho hg;have q2:=kj ho.2 (i:=pot.toNat) (by rw [ho.1]; omega);have q3:=xkg (i:=i) (by omega);have lo:=ho.1;simp only [Int.reduceEq,xzz,if_true] at hgo
           repeat' first|((first|refine zz ?_|(refine xa ?_ ?_<;>intro _)|refine ixE (enc:=eL) hxi ?_|refine ⟨_,xhs form own args (yx hs).1 (ho.nums (by omega)) (j6 hg),?_⟩|refine wq ?_)<;>conv=>whnf)|(refine ioN (by first|omega|(dsimp only; omega)) (by rw [xb]; dsimp only; omega) ?_;conv=>whnf)|((first|refine rwN (enc:=rI) 0 (by first|omega|(dsimp only; omega)) ?_|refine ixI (enc:=rI) 0 (by first|omega|(dsimp only; omega)) (by first|omega|(dsimp only; omega)) ?_)<;>conv=>whnf)
           refine ⟨i+1,own.set pot.toNat (own.getD pot.toNat 0+form.at own args),tells,⟨by omega,by rw [show min (i+1) 6=i+1 by omega]; exact ho.set q (by omega),by omega,hgo⟩,by simp only; omega,?_⟩
           repeat' (first|exact True.intro|((conv=>whnf);first|exact True.intro|refine ⟨by rfl,?_⟩|refine ⟨by first|omega|(show (_:Int)=_;first|omega|(dsimp only;omega))|exact yr _ _ _,?_⟩|refine ⟨?_,?_⟩))
         · have hs:=hfo (by decide);have q:=j7 hs ho hg;simp only [Int.reduceEq,xzz,if_true] at hgo
           repeat' first|((first|refine zz ?_|(refine xa ?_ ?_<;>intro _)|refine ixE (enc:=eL) hxi ?_|refine ⟨_,xhs form own args (yx hs).1 (ho.nums (by omega)) (j6 hg),?_⟩|refine wq ?_)<;>conv=>whnf)|(refine apN (by simp; omega) ?_;conv=>whnf)|((first|refine apP (x1 _) ?_)<;>conv=>whnf)
           refine ⟨i+1,own,tells++[form.at own args],⟨by omega,ho.mono (by omega),by rw [xx3]; simp; omega,hgo⟩,by simp only; omega,?_⟩
           repeat' (first|exact True.intro|((conv=>whnf);first|exact True.intro|refine ⟨by rfl,?_⟩|refine ⟨by first|omega|(show (_:Int)=_;first|omega|(dsimp only;omega))|exact qa _ _,?_⟩|refine ⟨?_,?_⟩))
         · simp only [Int.reduceEq,xzz,if_true] at hgo
           repeat' first|((first|refine zz ?_|(refine xa ?_ ?_<;>intro _)|refine ixE (enc:=eL) hxi ?_|refine ⟨_,x7 vals hlen,?_⟩)<;>conv=>whnf)
           exact ⟨by rw [hgo]; rfl,rfl⟩
       · rw [xry args own tells (by omega)] at hgo
         repeat' first|((first|refine zz ?_|(refine xa ?_ ?_<;>intro _)|refine ⟨_,qe own,?_⟩|refine ⟨_,x7 vals hlen,?_⟩)<;>conv=>whnf)
         · rename_i h;have h:valOk own=false:=by simpa using h
           exact ⟨by rw [hgo,endOf,if_neg (by simp [h])]; rfl,rfl⟩
         · rename_i h;have h:valOk own=true:=by simpa using h
           exact ⟨by rw [hgo,endOf,if_pos h]; rfl,rfl⟩
 · have e0:actRun act vals args=(Rslt.nil,[]):=by rw [actRun,if_neg hall]
   rw [e0];conv=>whnf
   repeat' first|((first|refine zz ?_|(refine xa ?_ ?_<;>intro _)|refine ⟨_,jt _,?_⟩|refine ⟨_,qe _,?_⟩|refine ⟨_,xcj _,?_⟩)<;>conv=>whnf)
   all_goals first|exact ⟨rfl,rfl⟩|skip
   all_goals exact absurd (by simp_all) hall
theorem xub (vals own tells:List Int) (hv:vals.length<=100000):Sem P 221 [(.pure,AI vals),(.own,AI own),(.own,AI tells)] [] (.tup [(true,aR (endOf vals (some (own,tells))).1),(false,[sI (endOf vals (some (own,tells))).2])]):=by
 refine fO Go.Proofs.Tryz.f221 fun hb=>?_;have lv:=xb vals;conv=>whnf
 repeat' first|((first|refine zz ?_|(refine xa ?_ ?_<;>intro _)|refine ⟨_,zc own,?_⟩)<;>conv=>whnf)|(refine apN (by simp; omega) ?_;conv=>whnf)|((first|refine apP (x1 _) ?_)<;>conv=>whnf)
 · rename_i h;have h:valOk own=false:=by simpa using h
   exact ⟨by rw [endOf,if_neg (by simp [h])]; rfl,rfl⟩
 · rename_i h;have h:valOk own=true:=by simpa using h
   exact ⟨by rw [endOf,if_pos h]; rfl,rfl⟩
theorem xmj (act:List Line) (vals args:List Int):Sem P 130 [(.pure,.one (sLs act)),(.pure,AI vals),(.pure,AI args)] [] (.tup [(true,aR (actRun act vals args).1),(false,[sI (actRun act vals args).2])]):=by
 refine fK [19003] Go.Proofs.Tryz.f130 fun hb=>?_;have la:(act.map eL).length=act.length:=xxs ..;by_cases hall:(actOk act && valOk vals && argOk args)=true
 · obtain ⟨⟨ha,hv⟩,hg⟩:(actOk act=true/\valOk vals=true)/\argOk args=true:=by simpa using hall
   have hlen:vals.length<=100000:=by rw [(potsB.zero hv).1]; decide
   have e0:actRun act vals args=endOf vals (goLines args act vals []):=by rw [actRun,if_pos hall]
   obtain ⟨hlines,h6,_⟩:=y6.1 ha;rw [e0];conv=>whnf
   repeat' first|((first|refine zz ?_|(refine xa ?_ ?_<;>intro _)|refine ⟨_,qp _,?_⟩|refine ⟨_,zc _,?_⟩|refine ⟨_,jr _,?_⟩)<;>conv=>whnf)|(refine apN (by simp; omega) ?_;conv=>whnf)|((first|refine apP (x1 _) ?_)<;>conv=>whnf)
   · rename_i h; rw [ha] at h; cases h
   · rename_i h; rw [hv] at h; cases h
   · rename_i h; rw [hg] at h; cases h
   · refine Vc.loop3 (fun (i:Nat) (own tells:List Int)=>i<=12/\potsB own (min i 6)/\tells.length<=i/\goLines args act vals []=goLines args (act.drop i) own tells) (fun i own tells=>updL [0,1,2,6,8,86,87,88,89,90,91] [(10,I i),(9,.one (.ref 320000))] [(256128,.arr 3 (ints own) false),(320000,.arr 3 (ints tells) false)]) (fun i _ _=>12 - i) 0 vals [] ⟨by omega,potsB.zero hv,by simp,rfl⟩ ?_ (fun i own tells hi=>?_)
     · exact wl
     · obtain ⟨hi,ho,ht,hgo⟩:=hi;have lt:=xb tells;conv=>whnf
       (refine zA ?_)
       refine xd (fun g=>?_) (fun g=>?_)
       all_goals conv=>whnf
       · have hi6:i<act.length:=by omega
         have hm:min i 6=i:=by omega
         rw [hm] at ho;rw [xvf args own tells hi6] at hgo;obtain ⟨x,hxi⟩:∃ x,act[i]?=some x:=⟨_,xxr hi6⟩;have hx:x.ok=true:=hlines _ (xx8 hxi);have ex:act.getD i default=x:=by rw [xxx,hxi]; rfl
         rw [ex] at hgo;have hkind:=xa5 hx;have hsk:=xa4 hx;have hpo:=j5 hx;have hfo:=xib hx;obtain ⟨kind,pot,skip,form⟩:=x;simp only at hkind hsk hpo hfo hgo;rcases hkind with rfl|rfl|rfl|rfl
         · have hs:=hfo (by decide);have hsk:=hsk rfl;have q:=j7 hs ho hg;simp only [Int.reduceEq,xzz,if_true] at hgo
           repeat' first|((first|refine zz ?_|(refine xa ?_ ?_<;>intro _)|refine ixE (enc:=eL) hxi ?_|refine ⟨_,qt form own args (yx hs).1 (ho.nums (by omega)) (j6 hg),?_⟩|refine wq ?_)<;>conv=>whnf)
           · rename_i h;have h:form.at own args<0:=by simpa using h
             rw [if_pos h] at hgo;refine ⟨i+1+skip.toNat,own,tells,⟨by omega,ho.mono (by omega),by omega,hgo⟩,by simp only; omega,?_⟩;exact wk
           · rename_i h;have h:¬ form.at own args<0:=by simpa using h
             rw [if_neg h] at hgo;refine ⟨i+1,own,tells,⟨by omega,ho.mono (by omega),by omega,hgo⟩,by simp only; omega,?_⟩;exact wl
         · have hs:=hfo (by decide);have hpo:=hpo rfl;have q:=j7 hs ho hg;have q2:=kj ho.2 (i:=pot.toNat) (by rw [ho.1]; omega);have q3:=xkg (i:=i) (by omega);have lo:=ho.1;simp only [Int.reduceEq,xzz,if_true] at hgo
           repeat' first|((first|refine zz ?_|(refine xa ?_ ?_<;>intro _)|refine ixE (enc:=eL) hxi ?_|refine ⟨_,qt form own args (yx hs).1 (ho.nums (by omega)) (j6 hg),?_⟩|refine wq ?_)<;>conv=>whnf)|(refine ioN (by first|omega|(dsimp only; omega)) (by rw [xb]; dsimp only; omega) ?_;conv=>whnf)|((first|refine rwN (enc:=rI) 0 (by first|omega|(dsimp only; omega)) ?_|refine ixI (enc:=rI) 0 (by first|omega|(dsimp only; omega)) (by first|omega|(dsimp only; omega)) ?_)<;>conv=>whnf)
           refine ⟨i+1,own.set pot.toNat (own.getD pot.toNat 0+form.at own args),tells,⟨by omega,by rw [show min (i+1) 6=i+1 by omega]; exact ho.set q (by omega),by omega,hgo⟩,by simp only; omega,?_⟩
           repeat' (first|exact True.intro|((conv=>whnf);first|exact True.intro|refine ⟨by rfl,?_⟩|refine ⟨by first|omega|(show (_:Int)=_;first|omega|(dsimp only;omega))|exact yr _ _ _,?_⟩|refine ⟨?_,?_⟩))
         · have hs:=hfo (by decide);have q:=j7 hs ho hg;simp only [Int.reduceEq,xzz,if_true] at hgo
           repeat' first|((first|refine zz ?_|(refine xa ?_ ?_<;>intro _)|refine ixE (enc:=eL) hxi ?_|refine ⟨_,qt form own args (yx hs).1 (ho.nums (by omega)) (j6 hg),?_⟩|refine wq ?_)<;>conv=>whnf)|(refine apN (by simp; omega) ?_;conv=>whnf)|((first|refine apP (x1 _) ?_)<;>conv=>whnf)
           refine ⟨i+1,own,tells++[form.at own args],⟨by omega,ho.mono (by omega),by rw [xx3]; simp; omega,hgo⟩,by simp only; omega,?_⟩
           repeat' (first|exact True.intro|((conv=>whnf);first|exact True.intro|refine ⟨by rfl,?_⟩|refine ⟨by first|omega|(show (_:Int)=_;first|omega|(dsimp only;omega))|exact qa _ _,?_⟩|refine ⟨?_,?_⟩))
         · simp only [Int.reduceEq,xzz,if_true] at hgo
           repeat' first|((first|refine zz ?_|(refine xa ?_ ?_<;>intro _)|refine ixE (enc:=eL) hxi ?_)<;>conv=>whnf)|(refine apN (by simp; omega) ?_;conv=>whnf)|((first|refine apP (x1 _) ?_)<;>conv=>whnf)
           exact ⟨by rw [hgo]; rfl,rfl⟩
       · rw [xry args own tells (by omega)] at hgo
         repeat' first|((first|refine zz ?_|(refine xa ?_ ?_<;>intro _)|refine ⟨_,xub vals own tells hlen,?_⟩)<;>conv=>whnf)
         exact ⟨by rw [hgo]; rfl,rfl⟩
 · have e0:actRun act vals args=(Rslt.nil,[]):=by rw [actRun,if_neg hall]
   rw [e0];conv=>whnf
   repeat' first|((first|refine zz ?_|(refine xa ?_ ?_<;>intro _)|refine ⟨_,qp _,?_⟩|refine ⟨_,zc _,?_⟩|refine ⟨_,jr _,?_⟩)<;>conv=>whnf)
   all_goals first|exact ⟨rfl,rfl⟩|skip
   all_goals exact absurd (by simp_all) hall
theorem xpf (acts:List (List Line)):Sem P 136 [(.pure,.one (sAs acts))] [] (B (catOk acts)):=by
 refine fO Go.Proofs.Tryz.f136 fun hb=>?_;have la:(acts.map eA).length=acts.length:=xxs ..;have hb1:(acts.map eA).length<=1125899906842624:=hb.1.1;conv=>whnf
 repeat' first|((first|refine zz ?_|(refine xa ?_ ?_<;>intro _)|refine ⟨_,xi _ _ _,?_⟩)<;>conv=>whnf)
 · rename_i h;exact rB (by simp_all [catOk])
 · rename_i h;refine Vc.loop1 (fun (i:Nat)=>i<=acts.length/\∀ j,j<i->actOk (acts.getD j default)=true) (fun i=>updL [0] [(3,I i)] []) (fun i=>acts.length - i) 0 ⟨by omega,fun j hj=>absurd hj (xza j)⟩ ?_ (fun i hi=>?_)
   · exact wl
   · obtain ⟨hi,ho⟩:=hi;have hlm:(acts.map eA).length=acts.length:=xxs ..;conv=>whnf
     (refine zA ?_)
     refine xd (fun g=>?_) (fun g=>?_)
     all_goals conv=>whnf
     · repeat' first|((first|refine zz ?_|(refine xa ?_ ?_<;>intro _)|refine ixN (enc:=eA) default (by omega) ?_|refine ⟨_,qp _,?_⟩|refine wq ?_)<;>conv=>whnf)
       all_goals first
        | (refine ⟨i+1,⟨by omega,fun j hj=>?_⟩,by simp only; omega,?_⟩
           · by_cases h':j<i
             · exact ho j h'
             · obtain rfl:j=i:=by omega
               clear ho;simp_all
           · exact wl)
        | (have hp:actOk (acts.getD i default)=false:=by (clear ho; simp_all )
           have hn:acts.all actOk=false:=zw default (j:=i) (by omega) hp
           exact rB (by simp_all [catOk]))
     · have hall:acts.all actOk=true:=zu default fun j hj=>ho j (by omega)
       repeat' first|((first|refine zz ?_|(refine xa ?_ ?_<;>intro _)|refine ⟨_,qp _,?_⟩|refine wq ?_)<;>conv=>whnf)
       exact rB (by simp_all [catOk])
theorem xxl (a:List Line):Sem P 229 [(.pure,.one (sLs a))] [] (B (!actOk a)):=by
 refine fO Go.Proofs.Tryz.f229 fun hb=>?_;conv=>whnf
 repeat' first|((first|refine zz ?_|(refine xa ?_ ?_<;>intro _)|refine ⟨_,jt _,?_⟩)<;>conv=>whnf)
 exact ⟨rfl,rfl⟩
theorem xmk  (l:List (List Line)):Sem P 274 [(.pure,.one (sAs l)),(.pure,.one (.fn 229 []))] [] (I (idxOf (fun (x:(List Line))=>!actOk x) l)):=by
 refine fO Go.Proofs.Tryz.f274 fun hb=>?_;have la:(l.map eA).length=l.length:=xxs ..;have hb1:(l.map eA).length<=1125899906842624:=hb.1.1;conv=>whnf
 (refine zA ?_)
 refine Vc.loop { i:Nat // ∀ j,j<i->j<l.length->(fun (x:(List Line))=>!actOk x) (l.getD j default)=false } (fun i=>updL [0,1,7] [(8,I i.1)] []) (fun i=>l.length - i.1) ⟨0,by simp⟩ ?_ (fun i=>?_)
 · exact wl
 · have hi:=i.2;conv=>whnf
   (refine zA ?_)
   refine xd (fun g=>?_) (fun g=>?_)
   all_goals conv=>whnf
   · repeat' first|((first|refine zz ?_|(refine xa ?_ ?_<;>intro _)|refine ixN (enc:=eA) default (by omega) ?_|refine ⟨_,xxl _,?_⟩|refine wq ?_)<;>conv=>whnf)
     · rename_i h;exact rI' (y9 (p:=fun (x:(List Line))=>!actOk x) default (by omega) h fun j hj=>hi j hj (by omega)).symm
     · rename_i h;refine ⟨⟨i.1+1,fun j hj hl=>?_⟩,?_,?_⟩
       · by_cases hji:j<i.1
         · exact hi j hji hl
         · obtain rfl:j=i.1:=by omega
           exact h
       · simp only; omega
       · exact wl
   ·
    (refine zA ?_)
    exact rI' (yq (p:=fun (x:(List Line))=>!actOk x) default fun j hj=>hi j (by omega) hj).symm
theorem xuc  (l:List (List Line)):Sem P 228 [(.pure,.one (sAs l)),(.pure,.one (.fn 229 []))] [] (B (l.any fun (x:(List Line))=>!actOk x)):=by
 refine fO Go.Proofs.Tryz.f228 fun hb=>?_;conv=>whnf
 repeat' first|((first|refine zz ?_|(refine xa ?_ ?_<;>intro _)|refine ⟨_,xmk  l,?_⟩)<;>conv=>whnf)
 exact rB (zg _ _)
theorem xcl (acts:List (List Line)):Sem P 153 [(.pure,.one (sAs acts))] [] (B (catOk acts)):=by
 refine fO Go.Proofs.Tryz.f153 fun hb=>?_;have la:(acts.map eA).length=acts.length:=xxs ..;conv=>whnf
 repeat' first|((first|refine zz ?_|(refine xa ?_ ?_<;>intro _)|refine ⟨_,yc _ _ _,?_⟩|refine ⟨_,xuc acts,?_⟩)<;>conv=>whnf)
 all_goals exact rB (by simp_all [catOk,ji])
theorem xxm (n:Int):Sem P 230 [(.pure,I n)] [] (B (!inB n 0 50)):=by
 refine fO Go.Proofs.Tryz.f230 fun hb=>?_;conv=>whnf
 repeat' first|((first|refine zz ?_|(refine xa ?_ ?_<;>intro _)|refine ⟨_,yc _ _ _,?_⟩)<;>conv=>whnf)
 exact ⟨rfl,rfl⟩
theorem xkh  (l:List Int):Sem P 225 [(.pure,.one (sI l)),(.pure,.one (.fn 230 []))] [] (I (idxOf (fun (x:Int)=>!inB x 0 50) l)):=by
 refine fO Go.Proofs.Tryz.f225 fun hb=>?_;have la:(ints l).length=l.length:=xxs ..;have hb1:(ints l).length<=1125899906842624:=hb.1.1;conv=>whnf
 (refine zA ?_)
 refine Vc.loop { i:Nat // ∀ j,j<i->j<l.length->(fun (x:Int)=>!inB x 0 50) (l.getD j default)=false } (fun i=>updL [0,1,7] [(8,I i.1)] []) (fun i=>l.length - i.1) ⟨0,by simp⟩ ?_ (fun i=>?_)
 · exact wl
 · have hi:=i.2;conv=>whnf
   (refine zA ?_)
   refine xd (fun g=>?_) (fun g=>?_)
   all_goals conv=>whnf
   · repeat' first|((first|refine zz ?_|(refine xa ?_ ?_<;>intro _)|refine ixN (enc:=rI) default (by omega) ?_|refine ⟨_,xxm _,?_⟩|refine wq ?_)<;>conv=>whnf)
     · rename_i h;exact rI' (y9 (p:=fun (x:Int)=>!inB x 0 50) default (by omega) h fun j hj=>hi j hj (by omega)).symm
     · rename_i h;refine ⟨⟨i.1+1,fun j hj hl=>?_⟩,?_,?_⟩
       · by_cases hji:j<i.1
         · exact hi j hji hl
         · obtain rfl:j=i.1:=by omega
           exact h
       · simp only; omega
       · exact wl
   ·
    (refine zA ?_)
    exact rI' (yq (p:=fun (x:Int)=>!inB x 0 50) default fun j hj=>hi j (by omega) hj).symm
theorem xrz  (l:List Int):Sem P 149 [(.pure,.one (sI l)),(.pure,.one (.fn 230 []))] [] (B (l.any fun (x:Int)=>!inB x 0 50)):=by
 refine fO Go.Proofs.Tryz.f149 fun hb=>?_;conv=>whnf
 repeat' first|((first|refine zz ?_|(refine xa ?_ ?_<;>intro _)|refine ⟨_,xkh  l,?_⟩)<;>conv=>whnf)
 exact rB (zg _ _)
theorem xgs (t:Treaty):Sem P 154 [(.pure,.agg (aT t))] [] (B (trtOk t)):=by
 refine fO Go.Proofs.Tryz.f154 fun hb=>?_;have la:=xb t.Gives;conv=>whnf
 repeat' first|((first|refine zz ?_|(refine xa ?_ ?_<;>intro _)|refine ⟨_,qe _,?_⟩|refine ⟨_,yc _ _ _,?_⟩|refine ⟨_,xrz t.Gives,?_⟩)<;>conv=>whnf)
 all_goals exact rB (by simp_all [trtOk,givesOk,ji])
theorem ju (t:Treaty):Sem P 138 [(.pure,.agg (aT t))] [] (B (trtOk t)):=by
 refine fO Go.Proofs.Tryz.f138 fun hb=>?_;have la:=xb t.Gives;have hb1:(ints t.Gives).length<=1125899906842624:=(hb.1 (sI t.Gives) (by simp)).1;conv=>whnf
 repeat' first|((first|refine zz ?_|(refine xa ?_ ?_<;>intro _)|refine ⟨_,zc _,?_⟩|refine ⟨_,xi _ _ _,?_⟩)<;>conv=>whnf)
 · rename_i h;exact rB (by simp_all [trtOk])
 · rename_i h;exact rB (by simp_all [trtOk,givesOk])
 · rename_i h1 h2;refine Vc.loop1 (fun (i:Nat)=>i<=t.Gives.length/\∀ j,j<i->(fun n=>inB n 0 50) (t.Gives.getD j default)=true) (fun i=>updL [1] [(3,I i)] []) (fun i=>t.Gives.length - i) 0 ⟨by omega,fun j hj=>absurd hj (xza j)⟩ ?_ (fun i hi=>?_)
   · exact wl
   · obtain ⟨hi,ho⟩:=hi;have hlm:(t.Gives.map rI).length=t.Gives.length:=xxs ..;conv=>whnf
     (refine zA ?_)
     refine xd (fun g=>?_) (fun g=>?_)
     all_goals conv=>whnf
     · repeat' first|((first|refine zz ?_|(refine xa ?_ ?_<;>intro _)|refine ixN (enc:=rI) default (by omega) ?_|refine ⟨_,xi _ _ _,?_⟩|refine wq ?_)<;>conv=>whnf)
       all_goals first
        | (refine ⟨i+1,⟨by omega,fun j hj=>?_⟩,by simp only; omega,?_⟩
           · by_cases h':j<i
             · exact ho j h'
             · obtain rfl:j=i:=by omega
               clear ho;simp_all
           · exact wl)
        | (have hp:(fun n=>inB n 0 50) (t.Gives.getD i default)=false:=by (clear ho; simp_all )
           have hn:t.Gives.all (fun n=>inB n 0 50)=false:=zw default (j:=i) (by omega) hp
           exact rB (by simp_all [trtOk,givesOk]))
     · have hall:t.Gives.all (fun n=>inB n 0 50)=true:=zu default fun j hj=>ho j (by omega)
       repeat' first|((first|refine zz ?_|(refine xa ?_ ?_<;>intro _)|refine ⟨_,xi _ _ _,?_⟩|refine wq ?_)<;>conv=>whnf)
       exact rB (by simp_all [trtOk,givesOk])
theorem xe8 (p:Plan) (base:List Int):Sem P 155 [(.pure,.agg (aPl p)),(.pure,AI base)] [] (.agg [fI base,fI p.Gives]):=by
 refine fO Go.Proofs.Tryz.f155 fun hb=>?_;conv=>whnf
 repeat' first|((first|refine zz ?_|(refine xa ?_ ?_<;>intro _))<;>conv=>whnf)
 exact ⟨rfl,rfl⟩
theorem xml (p:Plan):Sem P 68 [(.pure,.agg (aPl p))] [] (B (planOk p)):=by
 refine fO Go.Proofs.Tryz.f68 fun hb=>?_;conv=>whnf
 repeat' first|((first|refine zz ?_|(refine xa ?_ ?_<;>intro _)|refine ⟨_,yc _ _ _,?_⟩|refine ⟨_,xcl _,?_⟩|refine ⟨_,yl _ 3 _ (by omega),?_⟩|refine ⟨_,xe8 p p.Start,?_⟩|refine ⟨_,xgs ⟨p.Start,p.Gives⟩,?_⟩)<;>conv=>whnf)
 all_goals exact rB (by simp_all [planOk,Plan.treaty])
theorem qh (p:Plan):Sem P 57 [(.pure,.agg (aPl p))] [] (B (planOk p)):=by
 refine fO Go.Proofs.Tryz.f57 fun hb=>?_;conv=>whnf
 repeat' first|((first|refine zz ?_|(refine xa ?_ ?_<;>intro _)|refine ⟨_,xi _ _ _,?_⟩|refine ⟨_,xpf _,?_⟩|refine ⟨_,x9 _ 3 _ (by omega),?_⟩|refine ⟨_,ju ⟨p.Start,p.Gives⟩,?_⟩)<;>conv=>whnf)
 all_goals exact rB (by simp_all [planOk,Plan.treaty])
theorem xi5 (p:Plan) (n:Int) (hc:inB p.Clients 0 4=true):Sem P 94 [(.pure,.agg (aPl p)),(.pure,I n)] [] (B (isClient p n)):=by
 have hc:=xc.1 hc;refine fO Go.Proofs.Tryz.f94 fun hb=>?_;conv=>whnf
 repeat' first|((first|refine zz ?_|(refine xa ?_ ?_<;>intro _)|refine ⟨_,yc _ _ _,?_⟩|refine wq ?_)<;>conv=>whnf)
 exact ⟨rfl,rfl⟩
theorem xe9 (p:Plan) (c:Call) (hc:inB p.Clients 0 4=true):Sem P 157 [(.pure,.agg (aPl p)),(.pure,.agg (aC c))] [] (B (callB p c)):=by
 refine fO Go.Proofs.Tryz.f157 fun hb=>?_;have la:(p.Acts.map eA).length=p.Acts.length:=xxs ..;have hb1:(p.Acts.map eA).length<=1125899906842624:=(hb.1 (sAs p.Acts) (by simp)).1;conv=>whnf
 repeat' first|((first|refine zz ?_|(refine xa ?_ ?_<;>intro _)|refine ⟨_,xi5 p c.Client hc,?_⟩|refine ⟨_,yc _ _ _,?_⟩|refine ⟨_,xcj _,?_⟩|refine wq ?_)<;>conv=>whnf)
 all_goals exact rB (by simp_all [callB])
theorem ze (p:Plan) (c:Call) (hc:inB p.Clients 0 4=true):Sem P 93 [(.pure,.agg (aPl p)),(.pure,.agg (aC c))] [] (B (callB p c)):=by
 have hc:=xc.1 hc;refine fO Go.Proofs.Tryz.f93 fun hb=>?_;have la:(p.Acts.map eA).length=p.Acts.length:=xxs ..;have hb1:(p.Acts.map eA).length<=1125899906842624:=(hb.1 (sAs p.Acts) (by simp)).1;conv=>whnf
 repeat' first|((first|refine zz ?_|(refine xa ?_ ?_<;>intro _)|refine ⟨_,xi _ _ _,?_⟩|refine ⟨_,jr _,?_⟩|refine wq ?_)<;>conv=>whnf)
 all_goals exact rB (by simp_all [callB,isClient])
theorem zb {α β:Type} [Inhabited α] {l:List α} {g:α->β} {i:Nat} (h:i<l.length):(l.take i).map g++[g (l.getD i default)]=(l.take (i+1)).map g:=by
 rw [x0f,xy1,xxr h,xxx,xxr h];rfl
theorem xw {α:Type} [Inhabited α] {l:List α} {i:Nat} (h:i<l.length):l.getD i default∈l:=by
 rw [xxx,xxr h]; exact xyy h
theorem qq (v:Nat) (hv:v<3):Sem P 236 [(.pure,I v)] [] (.agg (aF (Form.pot v))):=by
 match v,hv with
 | 0,_|1,_|2,_ =>
   refine fK [4000] Go.Proofs.Tryz.f236 fun hb=>?_;conv=>whnf
   repeat' first|((first|refine zz ?_|(refine xa ?_ ?_<;>intro _)|refine ⟨_,yc _ _ _,?_⟩|refine ⟨_,v7,?_⟩|refine ioK (xy5 rfl) ?_|refine rwC rfl ?_)<;>conv=>whnf)
   all_goals first|(rename_i h; exact absurd h (by decide))|exact ⟨rfl,rfl⟩
theorem xmq (f:Form) (h:f.C.length<=100000/\f.D.length<=100000):Sem P 187 [(.pure,.agg (aF f))] [] (.agg (aF f)):=by
 refine fK [2002,2005] Go.Proofs.Tryz.f187 fun hb=>?_;conv=>whnf
 repeat' first|((first|refine zz ?_|(refine xa ?_ ?_<;>intro _)|refine ⟨_,x7 f.C h.1,?_⟩|refine ⟨_,x7 f.D h.2,?_⟩)<;>conv=>whnf)
 exact ⟨rfl,rfl⟩
def shs (l:List Form):Prop:=l.length<=100/\∀ f∈l,f.sh
theorem xuk {f:Form} (h:f.sh):f.C.length<=100000/\f.D.length<=100000:=by obtain ⟨h1,h2⟩:=h; omega
theorem yo (l:List Form) (hl:shs l):Sem P 303 [(.pure,.one (sFs l))] [] (.one (sFs l)):=by
 have hl1:=hl.1;refine fO Go.Proofs.Tryz.f303 fun hb=>?_;conv=>whnf
 (refine zA ?_)
 refine Vc.loop1 (fun (i:Nat)=>i<=l.length) (fun i=>updL [2,6,7,18] [(8,I i),(3,.one (.ref 128000))] [(128000,.arr 115 ((l.take i).map eF) false)]) (fun i=>l.length - i) 0 (xyb _) ?_ (fun i hi=>?_)
 · exact wk
 · have hlm:(l.map eF).length=l.length:=xxs ..;have hlo:((l.take i).map eF).length=i:=by rw [xxs,xyc]; omega
   conv=>whnf
   (refine zA ?_)
   refine xd (fun g=>?_) (fun g=>?_)
   all_goals conv=>whnf
   · repeat' first|((first|refine zz ?_|(refine xa ?_ ?_<;>intro _)|refine ixN (enc:=eF) default (by omega) ?_|refine ⟨_,xmq (l.getD i default) (xuk (hl.2 _ (xw (by omega)))),?_⟩)<;>conv=>whnf)|(refine apN (by first|omega|(simp; omega)) ?_;conv=>whnf)|(refine wq ?_;conv=>whnf)
     refine ⟨i+1,by omega,by simp only; omega,?_⟩
     repeat' (first|exact True.intro|((conv=>whnf);first|exact True.intro|refine ⟨by rfl,?_⟩|refine ⟨by first|omega|(show (_:Int)=_;first|omega|(dsimp only;omega))|exact zb (by omega),?_⟩|refine ⟨?_,?_⟩))
   · have hend:l.take i=l:=xx7 (by omega)
     (refine zA ?_)
     exact ⟨by rw [hend],rfl⟩
theorem lin1 {f:Form} (h:f.sh):lin Form.zero f 1=f:=by
 obtain ⟨C,D,K⟩:=f;obtain ⟨a,b,c,rfl⟩:=len3 h.1;obtain ⟨d,e,rfl⟩:=len2 h.2;simp [lin,Form.zero]
theorem y7 (l:List Form) (hl:l.length<=100) (hb':∀ f∈l,f.bd 10000000):Sem P 267 [(.pure,.one (sFs l))] [] (.one (sFs l)):=by
 refine fO Go.Proofs.Tryz.f267 fun hb=>?_;conv=>whnf
 (refine zA ?_)
 refine Vc.loop1 (fun (i:Nat)=>i<=l.length) (fun i=>updL [0,2,21] [(4,I i),(3,.one (.ref 128000))] [(128000,.arr 115 ((l.take i).map (fun f=>eF (lin Form.zero f 1))) false)]) (fun i=>l.length - i) 0 (xyb _) ?_ (fun i hi=>?_)
 · exact wk
 · have hlm:(l.map eF).length=l.length:=xxs ..;have hlo:((l.take i).map (fun f=>eF (lin Form.zero f 1))).length=i:=by rw [xxs,xyc]; omega
   conv=>whnf
   (refine zA ?_)
   refine xd (fun g=>?_) (fun g=>?_)
   all_goals conv=>whnf
   · repeat' first|((first|refine zz ?_|(refine xa ?_ ?_<;>intro _)|refine ixN (enc:=eF) default (by omega) ?_|refine ⟨_,zr,?_⟩|refine ⟨_,z8 Form.zero (l.getD i default) 1 (xf xb2 (by decide)) (hb' _ (xw (by omega))) (by decide),?_⟩)<;>conv=>whnf)|(refine apN (by first|omega|(simp; omega)) ?_;conv=>whnf)|(refine wq ?_;conv=>whnf)
     refine ⟨i+1,by omega,by simp only; omega,?_⟩
     repeat' (first|exact True.intro|((conv=>whnf);first|exact True.intro|refine ⟨by rfl,?_⟩|refine ⟨by first|omega|(show (_:Int)=_;first|omega|(dsimp only;omega))|exact zb (by omega),?_⟩|refine ⟨?_,?_⟩))
   · have hend:l.take i=l:=xx7 (by omega)
     (refine zA ?_)
     exact ⟨by rw [hend]; exact congrArg (fun x=>TV.one (.sl 115 x)) (xze fun f hf=>by rw [lin1 (hb' f hf).1]),rfl⟩
end Cc
end
section
namespace Go.AM
open Go
def loopQ6 {E:Env} {α β γ δ ε ζ:Type} (P:α->β->γ->δ->ε->ζ->Prop) (upd:α->β->γ->δ->ε->ζ->St->St) (μ:α->β->γ->δ->ε->ζ->Nat) (st:St) (m:Nat) (Q:Ex->St->Prop) (e:Ex) (st':St):Prop:=match e with
 | .normal=>∃ a' b' c' d' e' f',P a' b' c' d' e' f'/\μ a' b' c' d' e' f'<m/\weak st' (upd a' b' c' d' e' f' st)
 | .exit id=>Q (.exit id) st'
 | .ret=>Q .ret st'
theorem Vc.loop6 {E:Env} {cd:Code} {st:St} {Q:Ex->St->Prop} {α β γ δ ε ζ:Type} (P:α->β->γ->δ->ε->ζ->Prop) (upd:α->β->γ->δ->ε->ζ->St->St) (μ:α->β->γ->δ->ε->ζ->Nat) (a0:α) (b0:β) (c0:γ) (d0:δ) (e0:ε) (f0:ζ) (h0:P a0 b0 c0 d0 e0 f0) (h1:weak st (upd a0 b0 c0 d0 e0 f0 st))
 (h2:∀ a b c d e f,P a b c d e f->fSt (upd a b c d e f st) fun s=>Vc E cd s (loopQ6 (E:=E) P upd μ st (μ a b c d e f) Q)):Vc E (.loop cd) st Q:=by
 refine Vc.loop1 (α:=α × β × γ × δ × ε × ζ) (fun x=>P x.1 x.2.1 x.2.2.1 x.2.2.2.1 x.2.2.2.2.1 x.2.2.2.2.2) (fun x=>upd x.1 x.2.1 x.2.2.1 x.2.2.2.1 x.2.2.2.2.1 x.2.2.2.2.2) (fun x=>μ x.1 x.2.1 x.2.2.1 x.2.2.2.1 x.2.2.2.2.1 x.2.2.2.2.2) (a0,b0,c0,d0,e0,f0) h0 h1 fun x hx=>?_;have h:=h2 x.1 x.2.1 x.2.2.1 x.2.2.2.1 x.2.2.2.2.1 x.2.2.2.2.2 hx;rw [xdv] at h ⊢;have e:loopQ6 (E:=E) P upd μ st (μ x.1 x.2.1 x.2.2.1 x.2.2.2.1 x.2.2.2.2.1 x.2.2.2.2.2) Q=loopQ1 (α:=α × β × γ × δ × ε × ζ) (fun x=>P x.1 x.2.1 x.2.2.1 x.2.2.2.1 x.2.2.2.2.1 x.2.2.2.2.2) (fun x=>upd x.1 x.2.1 x.2.2.1 x.2.2.2.1 x.2.2.2.2.1 x.2.2.2.2.2) (fun x=>μ x.1 x.2.1 x.2.2.1 x.2.2.2.1 x.2.2.2.2.1 x.2.2.2.2.2) st (μ x.1 x.2.1 x.2.2.1 x.2.2.2.1 x.2.2.2.2.1 x.2.2.2.2.2) Q:=by
  funext e st'
  cases e with
  | normal=>exact propext ⟨fun ⟨a',b',c',d',e',f',q⟩=>⟨(a',b',c',d',e',f'),q⟩,fun ⟨x,q⟩=>⟨x.1,x.2.1,x.2.2.1,x.2.2.2.1,x.2.2.2.2.1,x.2.2.2.2.2,q⟩⟩
  | exit id=>rfl
  | ret=>rfl
 rw [<- e]; exact h
end Go.AM
namespace Cc
open Go Go.AM
theorem xep {act:List Line} {i:Nat} (h:i<act.length):act.drop i=act.getD i default::act.drop (i+1):=by
 rw [x0h h,xxx,xxr h]; rfl
structure Wk (act:List Line) (i:Nat) (p q r:Form) (g t:List Form):Prop where
 b:∃ m:Int,0<=m/\(m+4)*pw (act.length - i)<=588245/\p.bd m/\q.bd m/\r.bd m
 g:g.length+(act.length - i)<=50/\∀ f∈g,f.bd 588246
 t:t.length+(act.length - i)<=50/\∀ f∈t,f.bd 588246
section
variable {act:List Line} {i:Nat} {p q r:Form} {g t:List Form}
theorem Wk.start (h:act.length<=6):Wk act 0 (Form.pot 0) (Form.pot 1) (Form.pot 2) [] []:=by
 refine ⟨⟨1,by decide,?_,z7 0,z7 1,z7 2⟩,⟨by simp; omega,by simp⟩,⟨by simp; omega,by simp⟩⟩;have h1:=xaa (n:=act.length - 0) (k:=6) (by omega);have h2:pw 6=117649:=by decide
 omega
theorem Wk.pots (w:Wk act i p q r g t):p.bd 1000000/\q.bd 1000000/\r.bd 1000000:=by
 obtain ⟨m,h0,h1,hp,hq,hr⟩:=w.b;have h2:=xak (act.length - i);have:(m+4)*1<=(m+4)*pw (act.length - i):=x0q h2 (by omega);exact ⟨xf hp (by omega),xf hq (by omega),xf hr (by omega)⟩
theorem Wk.lists (w:Wk act i p q r g t):(g.length<=50/\∀ f∈g,f.bd 10000000)/\(t.length<=50/\∀ f∈t,f.bd 10000000) :=
 ⟨⟨by have:=w.g.1; omega,fun f hf=>xf (w.g.2 f hf) (by decide)⟩,⟨by have:=w.t.1; omega,fun f hf=>xf (w.t.2 f hf) (by decide)⟩⟩
theorem Wk.mid (w:Wk act i p q r g t) (h:i<act.length) (hs:(act.getD i default).Form.small=true) :
 ∃ m:Int,0<=m/\(7*m+28)*pw (act.length - (i+1))<=588245/\7*m+28<=588245/\p.bd m/\q.bd m/\r.bd m/\(into (act.getD i default).Form [p,q,r]).bd (6*m+20):=by
 obtain ⟨m,h0,h1,hp,hq,hr⟩:=w.b;rw [show act.length - i=(act.length - (i+1))+1 from by omega,xhq] at h1;have hpl:=xak (act.length - (i+1));have hmul:(m+4)*(7*pw (act.length - (i+1)))=(7*m+28)*pw (act.length - (i+1)):=by
  rw [<- Int.mul_assoc,Int.mul_comm (m+4) 7,Int.mul_add]; rfl
 have hm2:(7*m+28)*pw (act.length - (i+1))<=588245:=by omega
 refine ⟨m,h0,hm2,?_,hp,hq,hr,xnp hs hp hq hr⟩;have:(7*m+28)*1<=(7*m+28)*pw (act.length - (i+1)):=x0q hpl (by omega);omega
theorem Wk.into (w:Wk act i p q r g t) (h:i<act.length) (hs:(act.getD i default).Form.small=true):(Cc.into (act.getD i default).Form [p,q,r]).bd 588246:=by
 obtain ⟨m,h0,h1,h2,hp,hq,hr,hf⟩:=w.mid h hs;exact xf hf (by omega)
theorem Wk.on (w:Wk act i p q r g t) (h:i<act.length) (hs:(act.getD i default).Form.small=true) {k:Nat} (hk:i+1<=k) {g' t':List Form} (hg:g'=g\/∃ f:Form,f.bd 588246/\g'=g++[f]) (ht:t'=t\/∃ f:Form,f.bd 588246/\t'=t++[f]):Wk act k p q r g' t':=by
 obtain ⟨m,h0,h1,h2,hp,hq,hr,hf⟩:=w.mid h hs;have key:∀ {l l':List Form},(l.length+(act.length - i)<=50/\∀ f∈l,f.bd 588246)->(l'=l\/∃ f:Form,f.bd 588246/\l'=l++[f])->l'.length+(act.length - k)<=50/\∀ f∈l',f.bd 588246:=by
  rintro l l' ⟨a,b⟩ (rfl|⟨f,hf,rfl⟩)
  · exact ⟨by omega,b⟩
  · refine ⟨by simp only [xx3,xyo]; omega,fun x hx=>?_⟩;rcases xx2.1 hx with hx|hx
    · exact b x hx
    · rw [xx1.1 hx]; exact hf
 refine ⟨⟨m,h0,?_,hp,hq,hr⟩,key w.g hg,key w.t ht⟩;have a1:=xaa (n:=act.length - k) (k:=act.length - (i+1)) (by omega);have a2:(m+4)*pw (act.length - k)<=(m+4)*pw (act.length - (i+1)):=x0q a1 (by omega);have a3:(m+4)*pw (act.length - (i+1))<=(7*m+28)*pw (act.length - (i+1)):=x0n (by omega) (by have:=xak (act.length - (i+1)); omega);omega
theorem Wk.minus (w:Wk act i p q r g t) (h:i<act.length) (hs:(act.getD i default).Form.small=true):(Cc.minus (Cc.into (act.getD i default).Form [p,q,r])).bd 588246:=by
 obtain ⟨m,h0,h1,h2,hp,hq,hr,hf⟩:=w.mid h hs;exact xf (xj9 hf) (by omega)
theorem Wk.add (w:Wk act i p q r g t) (h:i<act.length) (hs:(act.getD i default).Form.small=true) {p' q' r':Form}
 (hp':p'=p\/p'=lin p (Cc.into (act.getD i default).Form [p,q,r]) 1) (hq':q'=q\/q'=lin q (Cc.into (act.getD i default).Form [p,q,r]) 1) (hr':r'=r\/r'=lin r (Cc.into (act.getD i default).Form [p,q,r]) 1):Wk act (i+1) p' q' r' g t:=by
 obtain ⟨m,h0,h1,h2,hp,hq,hr,hf⟩:=w.mid h hs;have one:∀ {x y:Form},x.bd m->(y=x\/y=lin x (Cc.into (act.getD i default).Form [p,q,r]) 1)->y.bd (7*m+20):=by
  rintro x y hx (rfl|rfl)
  · exact xf hx (by omega)
  · exact xf (yw (k:=1) hx hf (by decide)) (by omega)
 refine ⟨⟨7*m+20,by omega,?_,one hp hp',one hq hq',one hr hr'⟩,⟨by have:=w.g.1; omega,w.g.2⟩,⟨by have:=w.t.1; omega,w.t.2⟩⟩;have:(7*m+20+4)*pw (act.length - (i+1))<=(7*m+28)*pw (act.length - (i+1)):=x0n (by omega) (by have:=xak (act.length - (i+1)); omega);omega
theorem Wk.sum (w:Wk act i p q r g t) (h:i<act.length) (hs:(act.getD i default).Form.small=true) {x:Form} (hx:x=p\/x=q\/x=r):(lin x (Cc.into (act.getD i default).Form [p,q,r]) 1).bd 1000000:=by
 obtain ⟨m,h0,h1,h2,hp,hq,hr,hf⟩:=w.mid h hs;have:x.bd m:=by rcases hx with rfl|rfl|rfl<;>assumption
 exact xf (yw (k:=1) this hf (by decide)) (by omega)
theorem xkq (h:act.length<=i) (ps g t:List Form):walk (act.drop i) ps g t=[rowEnd ps g t]:=by
 rw [List.drop_of_length_le h]; unfold walk; rfl
theorem xd3 (h:i<act.length) (hk:(act.getD i default).Kind=4) (ps g t:List Form):walk (act.drop i) ps g t=[⟨g,[],[],true⟩]:=by
 rw [xep h]; unfold walk; rw [if_pos hk]
theorem xd4 (h:i<act.length) (hk:(act.getD i default).Kind=1) (ps g t:List Form):walk (act.drop i) ps g t=walk (act.drop (i+1)) ps (g++[Cc.into (act.getD i default).Form ps]) t++walk (act.drop (i+1+(act.getD i default).Skip.toNat)) ps (g++[Cc.minus (Cc.into (act.getD i default).Form ps)]) t:=by
 rw [xep h]; conv=>lhs; unfold walk
 rw [if_neg (by omega),if_pos hk,x1x]
theorem jb (h:i<act.length) (hk:(act.getD i default).Kind=2) (ps g t:List Form):walk (act.drop i) ps g t=walk (act.drop (i+1)) (ps.set (act.getD i default).Pot.toNat (lin (ps.getD (act.getD i default).Pot.toNat Form.nil) (Cc.into (act.getD i default).Form ps) 1)) g t:=by
 rw [xep h]; conv=>lhs; unfold walk
 rw [if_neg (by omega),if_neg (by omega),if_pos hk]
theorem xd5 (h:i<act.length) (hk:(act.getD i default).Kind=3) (ps g t:List Form):walk (act.drop i) ps g t=walk (act.drop (i+1)) ps g (t++[Cc.into (act.getD i default).Form ps]):=by
 rw [xep h]; conv=>lhs; unfold walk
 rw [if_neg (by omega),if_neg (by omega),if_neg (by omega)]
end
theorem xco:∀ (n:Nat) (l:List Line),l.length<=n->∀ (ps g t:List Form),(walk l ps g t).length<=2 ^ n:=by
 intro n
 induction n with
 | zero=>intro l hl ps g t; cases l with|nil=>unfold walk; simp|cons _ _=>simp at hl
 | succ n ih =>
   intro l hl ps g t;have hp:2 ^ n+2 ^ n=2 ^ (n+1):=by omega
   have h1:1<=2 ^ n:=Nat.one_le_two_pow
   cases l with
   | nil=>unfold walk; simp; omega
   | cons x l =>
     have hl':l.length<=n:=by simpa using hl
     unfold walk
     split
     · simp; omega
     · split
       · rw [xx3];have a:=ih l hl' ps (g++[into x.Form ps]) t;have b:=ih (l.drop x.Skip.toNat) (by simp; omega) ps (g++[minus (into x.Form ps)]) t;omega
       · split
         · have a:=ih l hl' (ps.set x.Pot.toNat (lin (ps.getD x.Pot.toNat Form.nil) (into x.Form ps) 1)) g t;omega
         · have a:=ih l hl' ps g (t++[into x.Form ps]);omega
end Cc
end
section
namespace Cc
open Go Go.AM
def addL:List Int->List Int->Int->List Int
 | a::r,b::s,n=>(a+n*b)::addL r s n
 | l,_,_=>l
abbrev addF (f g:Form) (n:Int):Form:=⟨addL f.C g.C n,addL f.D g.D n,f.K+n*g.K⟩
theorem j9 (l:List Int) (n:Int):addL l [] n=l:=by cases l<;>rfl
theorem jc:∀ (l s:List Int) (n:Int),(addL l s n).length=l.length
 | [],_,_=>by simp [addL]
 | a::r,[],_=>by simp [addL]
 | a::r,b::s,n=>by simp [addL,jc r s n]
theorem xcp (n:Int):∀ (l s:List Int) (i:Nat),(addL l (s.take i) n).getD i 0=l.getD i 0
 | [],s,i=>by simp [addL]
 | a::r,s,0=>by simp [addL]
 | a::r,[],i+1=>by simp [addL]
 | a::r,b::s,i+1=>by simpa [addL] using xcp n r s i
theorem xa9 (n:Int):∀ (l s:List Int) (i:Nat),i<s.length->i<l.length->(addL l (s.take i) n).set i (l.getD i 0+n*s.getD i 0)=addL l (s.take (i+1)) n
 | [],s,i,_,h=>by simp at h
 | a::r,[],i,h,_=>by simp at h
 | a::r,b::s,0,_,_=>by simp [addL,j9]
 | a::r,b::s,i+1,h,h'=>by
   have:=xa9 n r s i (by simpa using h) (by simpa using h');simpa [addL] using this
theorem xcq (n:Int):∀ (l s:List Int),l.length=s.length->addL l s n=List.zipWith (fun x y=>x+n*y) l s
 | [],[],_=>rfl
 | [],_::_,h=>by simp at h
 | _::_,[],h=>by simp at h
 | a::r,b::s,h=>by simp [addL,xcq n r s (by simpa using h)]
theorem xkr (f g:Form) (n:Int) (hf:(∀ x∈f.C,-1000000000000000<=x/\x<=1000000000000000)/\(∀ x∈f.D,-1000000000000000<=x/\x<=1000000000000000) /\ -1000000000000000<=f.K/\f.K<=1000000000000000)
 (hg:(∀ x∈g.C,-10000000<=x/\x<=10000000)/\(∀ x∈g.D,-10000000<=x/\x<=10000000) /\ -10000000<=g.K/\g.K<=10000000) (hn : -10000000000<=n/\n<=10000000000) (hC:g.C.length<=f.C.length) (hD:g.D.length<=f.D.length) (h100:f.C.length<=100/\f.D.length<=100) :
 Sem P 317 [(.io 0 0,.agg (aF f)),(.pure,.agg (aF g)),(.pure,I n)] [.agg (aF (addF f g n))] (.tup []):=by
 have p6:=xj hn hg.2.2;have lgC:=xb g.C;have lgD:=xb g.D;refine fO Go.Proofs.Tryz.f317 fun hb=>?_;conv=>whnf
 (refine zA ?_)
 refine Vc.loop1 (fun (i:Nat)=>i<=g.C.length) (fun i=>updL [0,2,4,8,9,11,12,31,32,33,34,35,36,37,38,39,40,41,42,43,44,45,46,47,48,49,50,51,52,53,54,55,56,57,58,59,60,61,62] [(13,I i)] [(0,.arr 3 (ints (addL f.C (g.C.take i) n)) false)]) (fun i=>g.C.length - i) 0 (xyb _) ?_ (fun i hi=>?_)
 · repeat' (first|exact True.intro|((conv=>whnf);first|exact True.intro|refine ⟨by rfl,?_⟩|refine ⟨by first|omega|(show (_:Int)=_;first|omega|(dsimp only;omega))|exact congrArg ints (j9 _ _).symm|exact congrArg ints (j9 _ _),?_⟩|refine ⟨?_,?_⟩))
 · have hlo:(ints (addL f.C (g.C.take i) n)).length=f.C.length:=by rw [xb,jc]
   have hlo':=jc f.C (g.C.take i) n;conv=>whnf
   (refine zA ?_)
   refine xd (fun gd=>?_) (fun gd=>?_)
   all_goals conv=>whnf
   · have b1:=kj hf.1 (i:=i) (by omega);have p:=xj hn (kj hg.1 (i:=i) (by omega));have e1:=xcp n f.C g.C i;have e2:=xa9 n f.C g.C i (by omega) (by omega)
     repeat' first|((first|refine zz ?_|(refine xa ?_ ?_<;>intro _)|refine ixN (enc:=rI) 0 (by omega) ?_|refine ioN (by omega) (by omega) ?_|refine rwN (enc:=rI) 0 (by omega) ?_)<;>conv=>whnf)|(refine w64 (by first|omega|(simp only [xym]; omega)) (by first|omega|(simp only [xym]; omega)) ?_;conv=>whnf)
     refine ⟨i+1,by omega,by simp only; omega,?_⟩
     repeat' (first|exact True.intro|((conv=>whnf);first|exact True.intro|refine ⟨by rfl,?_⟩|refine ⟨by first|omega|(show (_:Int)=_;first|omega|(dsimp only;omega))|exact (by simp only [xym]; rw [yr,e1,e2]),?_⟩|refine ⟨?_,?_⟩))
   · have e:i=g.C.length:=by omega
     subst e
     (refine zA ?_)
     refine Vc.loop1 (fun (i:Nat)=>i<=g.D.length) (fun i=>updL [0,2,4,32,33,52,53,54,55,56,57,58,59,60,61,62] [(34,I i)] [(1,.arr 3 (ints (addL f.D (g.D.take i) n)) false)]) (fun i=>g.D.length - i) 0 (xyb _) ?_ (fun i hi=>?_)
     · repeat' (first|exact True.intro|((conv=>whnf);first|exact True.intro|refine ⟨by rfl,?_⟩|refine ⟨by first|omega|(show (_:Int)=_;first|omega|(dsimp only;omega))|exact congrArg ints (j9 _ _).symm|exact congrArg ints (j9 _ _),?_⟩|refine ⟨?_,?_⟩))
     · have hlo:(ints (addL f.D (g.D.take i) n)).length=f.D.length:=by rw [xb,jc]
       conv=>whnf
       (refine zA ?_)
       refine xd (fun gd=>?_) (fun gd=>?_)
       all_goals conv=>whnf
       · have b1:=kj hf.2.1 (i:=i) (by omega);have p:=xj hn (kj hg.2.1 (i:=i) (by omega));have e1:=xcp n f.D g.D i;have e2:=xa9 n f.D g.D i (by omega) (by omega);have hlo':=jc f.D (g.D.take i) n
         repeat' first|((first|refine zz ?_|(refine xa ?_ ?_<;>intro _)|refine ixN (enc:=rI) 0 (by omega) ?_|refine ioN (by omega) (by omega) ?_|refine rwN (enc:=rI) 0 (by omega) ?_)<;>conv=>whnf)|(refine w64 (by first|omega|(simp only [xym]; omega)) (by first|omega|(simp only [xym]; omega)) ?_;conv=>whnf)
         refine ⟨i+1,by omega,by simp only; omega,?_⟩
         repeat' (first|exact True.intro|((conv=>whnf);first|exact True.intro|refine ⟨by rfl,?_⟩|refine ⟨by first|omega|(show (_:Int)=_;first|omega|(dsimp only;omega))|exact (by simp only [xym]; rw [yr,e1,e2]),?_⟩|refine ⟨?_,?_⟩))
       · have e:i=g.D.length:=by omega
         subst e
         repeat' first|((first|refine zz ?_|(refine xa ?_ ?_<;>intro _)|refine wq ?_)<;>conv=>whnf)
         exact ⟨rfl,by simp only [xzo]⟩
theorem xan {f g:Form} (e:f=g) (h:g.ok=true):Sem P 318 [(.pure,.agg (aF f))] [] (.agg (eF g)):=by
 subst e;refine fO Go.Proofs.Tryz.f318 fun hb=>?_;conv=>whnf
 repeat' first|((first|refine zz ?_|(refine xa ?_ ?_<;>intro _)|refine ⟨_,qo f,?_⟩)<;>conv=>whnf)
 · rename_i h'; rw [h] at h'; cases h'
 · exact ⟨rfl,rfl⟩
def wide (f:Form):Prop:=f.sh/\(∀ x∈f.C,-1000000000000000<=x/\x<=1000000000000000)/\(∀ x∈f.D,-1000000000000000<=x/\x<=1000000000000000) /\ -1000000000000000<=f.K/\f.K<=1000000000000000
theorem addS (f g:Form) (n:Int) (hf:wide f) (hg:g.bd 10000000) (hn : -10000000000<=n/\n<=10000000000):Sem P 317 [(.io 0 0,.agg (aF f)),(.pure,.agg (aF g)),(.pure,I n)] [.agg (aF (addF f g n))] (.tup []) :=
 xkr f g n hf.2 hg.2 hn (by rw [hf.1.1,hg.1.1]; exact xy3 _) (by rw [hf.1.2,hg.1.2]; exact xy3 _) (by rw [hf.1.1,hf.1.2]; decide)
theorem xd6:wide Form.zero:=⟨⟨rfl,rfl⟩,by simp [Form.zero],by simp [Form.zero],by decide,by decide⟩
theorem va {f g:Form} {n:Int} (hf:f.sh) (hg:g.sh):addF f g n=lin f g n:=by
 simp only [addF,lin];rw [xcq n _ _ (by rw [hf.1,hg.1]),xcq n _ _ (by rw [hf.2,hg.2])]
theorem xeq {f:Form} {m:Int} (h:f.bd m) (hm:m<=1000000000000000):wide f:=by
 have h:=xf h hm;exact ⟨h.1,h.2.1,h.2.2.1,h.2.2.2⟩
theorem wx (a:Form) (n:Int) (ha:a.bd 10000000) (hn : -10000000<=n/\n<=10000000) (hk:(lin Form.zero a n).ok=true):Sem P 305 [(.pure,.agg (aF a)),(.pure,I n)] [] (.agg (eF (lin Form.zero a n))):=by
 have e1:addF Form.zero a n=lin Form.zero a n:=va ⟨rfl,rfl⟩ ha.1;have ok1:=zk.2 ha;have in1:inB n (-10000000) 10000000=true:=xc.2 hn;refine yh (E:={ E0 with keep:=[4000],fz:=[(5,[320160,320161])] }) xn xo (fn:=Go.Proofs.Tryz.f305) (by kernel_rfl) (by kernel_rfl) (fun hb=>?_);conv=>whnf
 repeat' first|((first|refine zz ?_|(refine xa ?_ ?_<;>intro _)|refine ⟨_,qo a,?_⟩|refine ⟨_,yc _ _ _,?_⟩|refine ⟨_,v7,?_⟩|refine ⟨_,_,addS Form.zero a n xd6 ha (by omega),?_⟩|refine ⟨_,xan e1 hk,?_⟩)<;>conv=>whnf)
 all_goals first
  | exact ⟨rfl,rfl⟩
  | (exfalso; simp_all; done)
theorem qu (a b:Form) (ha:a.bd 10000000) (hb':b.bd 10000000) (hk:(lin a b 1).ok=true):Sem P 306 [(.pure,.agg (aF a)),(.pure,.agg (aF b))] [] (.agg (eF (lin a b 1))):=by
 have e0:addF Form.zero a 1=a:=by rw [va ⟨rfl,rfl⟩ ha.1,lin1 ha.1]
 have e1:addF (addF Form.zero a 1) b 1=lin a b 1:=by rw [e0]; exact va ha.1 hb'.1
 have w1:wide (addF Form.zero a 1):=by rw [e0]; exact xeq ha (by decide)
 have ok1:=zk.2 ha;have ok2:=zk.2 hb';refine yh (E:={ E0 with keep:=[4000],fz:=[(6,[384096,384097])] }) xn xo (fn:=Go.Proofs.Tryz.f306) (by kernel_rfl) (by kernel_rfl) (fun hb=>?_);conv=>whnf
 repeat' first|((first|refine zz ?_|(refine xa ?_ ?_<;>intro _)|refine ⟨_,qo a,?_⟩|refine ⟨_,qo b,?_⟩|refine ⟨_,v7,?_⟩|refine ⟨_,_,addS Form.zero a 1 xd6 ha (by decide),?_⟩|refine ⟨_,_,addS (addF Form.zero a 1) b 1 w1 hb' (by decide),?_⟩|refine ⟨_,xan e1 hk,?_⟩)<;>conv=>whnf)
 all_goals first
  | exact ⟨rfl,rfl⟩
  | (exfalso; simp_all; done)
theorem xw8 (f:Form):Sem P 316 [(.pure,.agg (aF f))] [] (B (!f.ok)):=by
 refine fO Go.Proofs.Tryz.f316 fun hb=>?_;conv=>whnf
 repeat' first|((first|refine zz ?_|(refine xa ?_ ?_<;>intro _)|refine ⟨_,qo f,?_⟩)<;>conv=>whnf)
 exact ⟨rfl,rfl⟩
theorem xks  (l:List Form):Sem P 287 [(.pure,.one (sFs l)),(.pure,.one (.fn 316 []))] [] (I (idxOf (fun (x:Form)=>!x.ok) l)):=by
 refine fO Go.Proofs.Tryz.f287 fun hb=>?_;have la:(l.map eF).length=l.length:=xxs ..;have hb1:(l.map eF).length<=1125899906842624:=hb.1.1;conv=>whnf
 (refine zA ?_)
 refine Vc.loop { i:Nat // ∀ j,j<i->j<l.length->(fun (x:Form)=>!x.ok) (l.getD j default)=false } (fun i=>updL [0,1,7] [(8,I i.1)] []) (fun i=>l.length - i.1) ⟨0,by simp⟩ ?_ (fun i=>?_)
 · exact wl
 · have hi:=i.2;conv=>whnf
   (refine zA ?_)
   refine xd (fun g=>?_) (fun g=>?_)
   all_goals conv=>whnf
   · repeat' first|((first|refine zz ?_|(refine xa ?_ ?_<;>intro _)|refine ixN (enc:=eF) default (by omega) ?_|refine ⟨_,xw8 _,?_⟩|refine wq ?_)<;>conv=>whnf)
     · rename_i h;exact rI' (y9 (p:=fun (x:Form)=>!x.ok) default (by omega) h fun j hj=>hi j hj (by omega)).symm
     · rename_i h;refine ⟨⟨i.1+1,fun j hj hl=>?_⟩,?_,?_⟩
       · by_cases hji:j<i.1
         · exact hi j hji hl
         · obtain rfl:j=i.1:=by omega
           exact h
       · simp only; omega
       · exact wl
   ·
    (refine zA ?_)
    exact rI' (yq (p:=fun (x:Form)=>!x.ok) default fun j hj=>hi j (by omega) hj).symm
theorem xsa  (l:List Form):Sem P 247 [(.pure,.one (sFs l)),(.pure,.one (.fn 316 []))] [] (B (l.any fun (x:Form)=>!x.ok)):=by
 refine fO Go.Proofs.Tryz.f247 fun hb=>?_;conv=>whnf
 repeat' first|((first|refine zz ?_|(refine xa ?_ ?_<;>intro _)|refine ⟨_,xks  l,?_⟩)<;>conv=>whnf)
 exact rB (zg _ _)
abbrev intoN (a b c:Int) (p q r:Form):Nat->Form
 | 0=>Form.zero
 | 1=>addF Form.zero p a
 | 2=>addF (addF Form.zero p a) q b
 | _=>addF (addF (addF Form.zero p a) q b) r c
theorem xd7 (f p q r:Form) (hf:f.bd 10000000) (hp:p.bd 10000000) (hq:q.bd 10000000) (hr:r.bd 10000000) (hk:(into f [p,q,r]).ok=true):Sem P 304 [(.pure,.agg (aF f)),(.pure,.one (sFs [p,q,r]))] [] (.agg (eF (into f [p,q,r]))):=by
 have okf:=zk.2 hf;have okp:=zk.2 hp;have okq:=zk.2 hq;have okr:=zk.2 hr;obtain ⟨a,b,c,d,e,k,rfl,h1,h2,h3,h4,h5,h6⟩:=bdE hf;have b1:(lin Form.zero p a).bd 100000000000000:=xf (yw (m:=0) xb2 hp h1) (by decide);have e1:addF Form.zero p a=lin Form.zero p a:=va ⟨rfl,rfl⟩ hp.1;have b2:(lin (lin Form.zero p a) q b).bd 200000000000000:=xf (yw b1 hq h2) (by decide);have e2:addF (addF Form.zero p a) q b=lin (lin Form.zero p a) q b:=by rw [e1]; exact va b1.1 hq.1
 have b3:(lin (lin (lin Form.zero p a) q b) r c).bd 300000000000000:=xf (yw b2 hr h3) (by decide);have e3:addF (addF (addF Form.zero p a) q b) r c=lin (lin (lin Form.zero p a) q b) r c:=by rw [e2]; exact va b2.1 hr.1
 have w1:wide (addF Form.zero p a):=by rw [e1]; exact xeq b1 (by decide)
 have w2:wide (addF (addF Form.zero p a) q b):=by rw [e2]; exact xeq b2 (by decide)
 have w3:wide (addF (addF (addF Form.zero p a) q b) r c):=by rw [e3]; exact xeq b3 (by decide)
 have eL:addF (addF (addF (addF Form.zero p a) q b) r c) ⟨[],[d,e],k⟩ 1=into ⟨[a,b,c],[d,e],k⟩ [p,q,r]:=by
  rw [e3,xhp];obtain ⟨p1,p2,p3,p4,p5,p6,rfl,_⟩:=bdE hp;obtain ⟨q1,q2,q3,q4,q5,q6,rfl,_⟩:=bdE hq;obtain ⟨r1,r2,r3,r4,r5,r6,rfl,_⟩:=bdE hr;simp only [addF,addL,lin,Form.zero,List.zipWith_cons_cons,List.zipWith_nil_right,Form.mk.injEq,x1q,x1l,true_and];omega
 refine yh (E:={ E0 with keep:=[4000],fz:=[(10,[640352,640353])] }) xn xo (fn:=Go.Proofs.Tryz.f304) (by kernel_rfl) (by kernel_rfl) (fun hb=>?_);conv=>whnf
 repeat' first|((first|refine zz ?_|(refine xa ?_ ?_<;>intro _)|refine ⟨_,qo ⟨[a,b,c],[d,e],k⟩,?_⟩|refine ⟨_,xsa [p,q,r],?_⟩|refine ⟨_,v7,?_⟩)<;>conv=>whnf)
 all_goals first
  | (exfalso; simp_all; done)
  | skip
 refine Vc.loop1 (fun (i:Nat)=>i<=3) (fun i=>updL [2,4,5,22,23,37,38,39,40,41,43,44] [(24,I i)] [(256064,.box [.ref 256000,.ref 256001,eI (intoN a b c p q r i).K]),(256000,.arr 3 (ints (intoN a b c p q r i).C) false),(256001,.arr 3 (ints (intoN a b c p q r i).D) false)]) (fun i=>3 - i) 0 (by omega) ?_ (fun i hi=>?_)
 · exact wk
 · match i,hi with
   | 0,_ =>
     conv=>whnf
     repeat' first|((first|refine zz ?_|(refine xa ?_ ?_<;>intro _)|refine ixK rfl ?_|refine wq ?_|refine ⟨_,_,addS Form.zero p a xd6 hp (by omega),?_⟩)<;>conv=>whnf)
     refine ⟨1,by omega,by simp only; omega,?_⟩;exact wk
   | 1,_ =>
     conv=>whnf
     repeat' first|((first|refine zz ?_|(refine xa ?_ ?_<;>intro _)|refine ixK rfl ?_|refine wq ?_|refine ⟨_,_,addS (addF Form.zero p a) q b w1 hq (by omega),?_⟩)<;>conv=>whnf)
     refine ⟨2,by omega,by simp only; omega,?_⟩;exact wk
   | 2,_ =>
     conv=>whnf
     repeat' first|((first|refine zz ?_|(refine xa ?_ ?_<;>intro _)|refine ixK rfl ?_|refine wq ?_|refine ⟨_,_,addS (addF (addF Form.zero p a) q b) r c w2 hr (by omega),?_⟩)<;>conv=>whnf)
     refine ⟨3,by omega,by simp only; omega,?_⟩;exact wk
   | 3,_ =>
     conv=>whnf
     repeat' first|((first|refine zz ?_|(refine xa ?_ ?_<;>intro _))<;>conv=>whnf)|(refine ⟨_,_,xkr (addF (addF (addF Form.zero p a) q b) r c) ⟨[],[d,e],k⟩ 1 w3.2 ⟨by simp,hf.2.2.1,hf.2.2.2⟩ (by decide) (by simp) (by rw [w3.1.2]; exact xy3 _) (by rw [w3.1.1,w3.1.2]; decide),?_⟩;conv=>whnf)|((first|refine ⟨_,xan eL hk,?_⟩)<;>conv=>whnf)
     exact ⟨rfl,rfl⟩
theorem xvc:Sem P 16 [] [] (B true):=by
 refine fO Go.Proofs.Tryz.f16 fun hb=>?_;conv=>whnf
 repeat' first|((first|refine zz ?_|(refine xa ?_ ?_<;>intro _)|refine ⟨_,v7,?_⟩|refine ⟨_,qo Form.zero,?_⟩)<;>conv=>whnf)
 exact rB rfl
end Cc
end
