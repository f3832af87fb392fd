/- The laws FnMsgOk, FnSitFree: part 5 of 41. No conditions beyond the statement. -/
import Derived.Lib.AppendIntMem
import Derived.BigCall
import Derived.Shelf.Spec.SlicesGrow
import Derived.Test.YtnigojkdmmeglaaGreatDoorAll4
set_option linter.unusedVariables false
set_option linter.unusedSimpArgs false
set_option maxRecDepth 100000
set_option maxHeartbeats 16000000
section
namespace Cc
open Go Go.AM
def nums (l:List Int) (n:Nat):Prop:=l.length=n/\∀ x∈l,-10000000000<=x/\x<=10000000000
theorem nums3 {l:List Int} (h:nums l 3):∃ a b c,l=[a,b,c]/\(-10000000000<=a/\a<=10000000000)/\(-10000000000<=b/\b<=10000000000)/\(-10000000000<=c/\c<=10000000000):=by
 obtain ⟨a,b,c,rfl⟩:=len3 h.1;exact ⟨a,b,c,rfl,h.2 a (by simp),h.2 b (by simp),h.2 c (by simp)⟩
theorem nums2 {l:List Int} (h:nums l 2):∃ a b,l=[a,b]/\(-10000000000<=a/\a<=10000000000)/\(-10000000000<=b/\b<=10000000000):=by
 obtain ⟨a,b,rfl⟩:=len2 h.1;exact ⟨a,b,rfl,h.2 a (by simp),h.2 b (by simp)⟩
theorem qx (f:Form) (vals args:List Int) (hf:f.bd 10000000) (hv:nums vals 3) (ha:nums args 2):Sem P 220 [(.pure,.agg (aF f)),(.pure,AI vals),(.pure,AI args)] [] (I (f.at vals args)):=by
 obtain ⟨a,b,c,d,e,k,rfl,h1,h2,h3,h4,h5,h6⟩:=bdE hf;obtain ⟨x,y,z,rfl,v1,v2,v3⟩:=nums3 hv;obtain ⟨g,h,rfl,w1,w2⟩:=nums2 ha;have p1:=xo h1 v1;have p2:=xo h2 v2;have p3:=xo h3 v3;have p4:=xo h4 w1;have p5:=xo h5 w2;refine fO Go.Proofs.Tryz.f220 fun hb=>?_;conv=>whnf
 (refine zA ?_)
 refine Vc.loop2 (fun i n=>i<=3/\n=match i with|0=>k|1=>k+a*x|2=>k+a*x+b*y|_=>k+a*x+b*y+c*z) (fun i n=>updL [1,2,3,6,9,28,29,30,31,32,33,34,35,36,37,38,39,40,41,42,43,44] [(8,I (i:Nat)),(7,I n)] []) (fun i _=>3 - i) 0 k ⟨by omega,rfl⟩ ?_ (fun i n hi=>?_)
 · exact wl
 · obtain ⟨hi,hn⟩:=hi
   match i,hi with
   | 0,_ =>
     simp only at hn;conv=>whnf
     repeat' first|((first|refine zz ?_|(refine xa ?_ ?_<;>intro _)|refine ixK rfl ?_|refine wq ?_)<;>conv=>whnf)
     refine ⟨1,n+a*x,⟨by omega,by simp only; omega⟩,by simp only; omega,?_⟩;exact wl
   | 1,_ =>
     simp only at hn;conv=>whnf
     repeat' first|((first|refine zz ?_|(refine xa ?_ ?_<;>intro _)|refine ixK rfl ?_|refine wq ?_)<;>conv=>whnf)
     refine ⟨2,n+b*y,⟨by omega,by simp only; omega⟩,by simp only; omega,?_⟩;exact wl
   | 2,_ =>
     simp only at hn;conv=>whnf
     repeat' first|((first|refine zz ?_|(refine xa ?_ ?_<;>intro _)|refine ixK rfl ?_|refine wq ?_)<;>conv=>whnf)
     refine ⟨3,n+c*z,⟨by omega,by simp only; omega⟩,by simp only; omega,?_⟩;exact wl
   | 3,_ =>
     simp only at hn;conv=>whnf
     (refine zA ?_)
     refine Vc.loop2 (fun i m=>i<=2/\m=match i with|0=>n|1=>n+d*g|_=>n+d*g+e*h) (fun i m=>updL [2,3,6,44] [(9,I (i:Nat)),(7,I m)] []) (fun i _=>2 - i) 0 n ⟨by omega,rfl⟩ ?_ (fun i m hi=>?_)
     · exact wl
     · obtain ⟨hi,hm⟩:=hi
       match i,hi with
       | 0,_ =>
         simp only at hm;conv=>whnf
         repeat' first|((first|refine zz ?_|(refine xa ?_ ?_<;>intro _)|refine ixK rfl ?_|refine wq ?_)<;>conv=>whnf)
         refine ⟨1,m+d*g,⟨by omega,by simp only; omega⟩,by simp only; omega,?_⟩;exact wl
       | 1,_ =>
         simp only at hm;conv=>whnf
         repeat' first|((first|refine zz ?_|(refine xa ?_ ?_<;>intro _)|refine ixK rfl ?_|refine wq ?_)<;>conv=>whnf)
         refine ⟨2,m+e*h,⟨by omega,by simp only; omega⟩,by simp only; omega,?_⟩;exact wl
       | 2,_ =>
         simp only at hm;conv=>whnf
         (refine zA ?_)
         exact rI' (by simp only [Form.at,dot]; omega)
theorem ze (v:Nat) (hv:v<3):Sem P 139 [(.pure,I v)] [] (.agg (aF (Form.pot v))):=by
 match v,hv with
 | 0,_|1,_|2,_ =>
   refine fK [4000] Go.Proofs.Tryz.f139 fun hb=>?_;conv=>whnf
   repeat' first|((first|refine zz ?_|(refine xa ?_ ?_<;>intro _)|refine ⟨_,xj _ _ _,?_⟩|refine ⟨_,z6,?_⟩|refine ioK (x0v rfl) ?_|refine rwC rfl ?_)<;>conv=>whnf)
   all_goals first|(rename_i h; exact absurd h (by decide))|exact ⟨rfl,rfl⟩
theorem qd (f g:Form) (n:Int) (hf:f.bd 1000000000000000) (hg:g.bd 10000000) (hn : -10000000000<=n/\n<=10000000000):Sem P 270 [(.pure,.agg (aF f)),(.pure,.agg (aF g)),(.pure,I n)] [] (.agg (aF (lin f g n))):=by
 obtain ⟨a,b,c,d,e,k,rfl,h1,h2,h3,h4,h5,h6⟩:=bdE hf;obtain ⟨a',b',c',d',e',k',rfl,g1,g2,g3,g4,g5,g6⟩:=bdE hg;have p1:=xo hn g1;have p2:=xo hn g2;have p3:=xo hn g3;have p4:=xo hn g4;have p5:=xo hn g5;have p6:=xo hn g6;refine fK [2000] Go.Proofs.Tryz.f270 fun hb=>?_;conv=>whnf
 repeat' first|((first|refine zz ?_|(refine xa ?_ ?_<;>intro _)|refine ⟨_,z6,?_⟩)<;>conv=>whnf)
 refine Vc.loop2 (fun i l=>i<=3/\l=match i with|0=>[0,0,0]|1=>[a+n*a',0,0]|2=>[a+n*a',b+n*b',0]|_=>[a+n*a',b+n*b',c+n*c']) (fun i l=>updL [2,3,4,6,7,9,32,33,34,35,36,37,38,39,40,41,42,43,44,45,46,47,48,49,50,51,52,53,54,55,56,57,58,59,60,61] [(8,I (i:Nat))] [(128000,.arr 3 (ints l) false)]) (fun i _=>3 - i) 0 [0,0,0] ⟨by omega,rfl⟩ ?_ (fun i l hi=>?_)
 · exact wl
 · obtain ⟨hi,hl⟩:=hi
   match i,hi with
   | 0,_ =>
     simp only at hl; subst hl;conv=>whnf
     repeat' first|((first|refine zz ?_|(refine xa ?_ ?_<;>intro _)|refine ixK rfl ?_|refine wq ?_|refine ioK (x0v rfl) ?_|refine rwC rfl ?_)<;>conv=>whnf)
     refine ⟨1,[a+n*a',0,0],⟨by omega,rfl⟩,by simp only; omega,?_⟩;exact wl
   | 1,_ =>
     simp only at hl; subst hl;conv=>whnf
     repeat' first|((first|refine zz ?_|(refine xa ?_ ?_<;>intro _)|refine ixK rfl ?_|refine wq ?_|refine ioK (x0v rfl) ?_|refine rwC rfl ?_)<;>conv=>whnf)
     refine ⟨2,[a+n*a',b+n*b',0],⟨by omega,rfl⟩,by simp only; omega,?_⟩;exact wl
   | 2,_ =>
     simp only at hl; subst hl;conv=>whnf
     repeat' first|((first|refine zz ?_|(refine xa ?_ ?_<;>intro _)|refine ixK rfl ?_|refine wq ?_|refine ioK (x0v rfl) ?_|refine rwC rfl ?_)<;>conv=>whnf)
     refine ⟨3,[a+n*a',b+n*b',c+n*c'],⟨by omega,rfl⟩,by simp only; omega,?_⟩;exact wl
   | 3,_ =>
     simp only at hl; subst hl;conv=>whnf
     (refine zA ?_)
     refine Vc.loop2 (fun i l=>i<=2/\l=match i with|0=>[0,0]|1=>[d+n*d',0]|_=>[d+n*d',e+n*e']) (fun i l=>updL [2,3,4,6,7,53,54,55,56,57,58,59,60,61] [(9,I (i:Nat))] [(128001,.arr 3 (ints l) false)]) (fun i _=>2 - i) 0 [0,0] ⟨by omega,rfl⟩ ?_ (fun i l hi=>?_)
     · exact wl
     · obtain ⟨hi,hl⟩:=hi
       match i,hi with
       | 0,_ =>
         simp only at hl; subst hl;conv=>whnf
         repeat' first|((first|refine zz ?_|(refine xa ?_ ?_<;>intro _)|refine ixK rfl ?_|refine wq ?_|refine ioK (x0v rfl) ?_|refine rwC rfl ?_)<;>conv=>whnf)
         refine ⟨1,[d+n*d',0],⟨by omega,rfl⟩,by simp only; omega,?_⟩;exact wl
       | 1,_ =>
         simp only at hl; subst hl;conv=>whnf
         repeat' first|((first|refine zz ?_|(refine xa ?_ ?_<;>intro _)|refine ixK rfl ?_|refine wq ?_|refine ioK (x0v rfl) ?_|refine rwC rfl ?_)<;>conv=>whnf)
         refine ⟨2,[d+n*d',e+n*e'],⟨by omega,rfl⟩,by simp only; omega,?_⟩;exact wl
       | 2,_ =>
         simp only at hl; subst hl;conv=>whnf
         repeat' first|((first|refine zz ?_|(refine xa ?_ ?_<;>intro _))<;>conv=>whnf)|(refine w64 (by dsimp only; omega) (by dsimp only; omega) ?_;conv=>whnf)
         exact ⟨rfl,rfl⟩
theorem xcs:Form.zero.bd 0:=⟨⟨rfl,rfl⟩,by simp [Form.zero],by simp [Form.zero],by decide,by decide⟩
theorem xq1 (f:Form) (hf:f.bd 10000000):Sem P 269 [(.pure,.agg (aF f))] [] (.agg (aF (minus f))):=by
 have h:=hf.2.2.2;refine fK [2002] Go.Proofs.Tryz.f269 fun hb=>?_;conv=>whnf
 repeat' first|((first|refine zz ?_|(refine xa ?_ ?_<;>intro _)|refine ⟨_,z6,?_⟩|refine ⟨_,qd Form.zero f (-1) (xh xcs (by decide)) hf (by decide),?_⟩)<;>conv=>whnf)|(refine w64 (by simp only [lin,Form.zero]; omega) (by simp only [lin,Form.zero]; omega) ?_;conv=>whnf)
 exact ⟨rfl,rfl⟩
theorem xlg (f:Form):f=Form.nil↔f.C=[]/\f.D=[]/\f.K=0:=by
 obtain ⟨C,D,K⟩:=f;simp [Form.nil]
theorem xlh {l:List Int}:(ints l).length=0↔l=[]:=by simp
theorem xtg (l:Line):Sem P 266 [(.pure,.agg (aL l))] [] (B l.ok):=by
 refine fO Go.Proofs.Tryz.f266 fun hb=>?_;have hb1:(ints l.Form.C).length<=1125899906842624:=(hb.1 (sI l.Form.C) (by simp)).1;have hb2:(ints l.Form.D).length<=1125899906842624:=(hb.1 (sI l.Form.D) (by simp)).1;conv=>whnf
 repeat' first|((first|refine zz ?_|(refine xa ?_ ?_<;>intro _)|refine ⟨_,xj _ _ _,?_⟩|refine ⟨_,xqz l.Form,?_⟩|refine wq ?_)<;>conv=>whnf)
 all_goals first
  | (refine rB ?_; simp_all [Line.ok,xlg]; done)
  | (rename_i h
     refine rB ?_;by_cases hl:((ints l.Form.C).length:Int)+(ints l.Form.D).length=0
     · have c:=xlh.1 (show (ints l.Form.C).length=0 by omega);have d:=xlh.1 (show (ints l.Form.D).length=0 by omega);by_cases k:l.Form.K=0<;>simp_all [Line.ok,xlg]
     · have h':l.Form≠Form.nil:=fun e=>hl (by rw [e]; rfl)
       simp_all [Line.ok])
theorem xpc (a b:List Int):Sem P 273 [(.pure,AI a),(.pure,AI b)] [] (B (decide (a=b))):=by
 refine fO Go.Proofs.Tryz.f273 fun hb=>?_;have la:=xb a;have lb:=xb b;have hb1:(ints a).length<=1125899906842624:=hb.1.1;conv=>whnf
 (refine zA ?_)
 refine xa (fun h=>?_) (fun h=>?_)
 all_goals conv=>whnf
 all_goals (refine zA ?_)
 · exact rB (by have:=yv h; symm; simp; intro e; subst e; simp at this)
 · have h:=y8 h;refine Vc.loop { i:Nat // ∀ j,j<i->a.getD j 0=b.getD j 0 } (fun i=>updL [0,1,12] [(13,I i.1)] []) (fun i=>a.length - i.1) ⟨0,by simp⟩ ?_ (fun i=>?_)
   · exact wl
   · have hi:=i.2;conv=>whnf
     (refine zA ?_)
     refine xd (fun g=>?_) (fun g=>?_)
     all_goals conv=>whnf
     · repeat' first|((first|refine zz ?_|(refine xa ?_ ?_<;>intro _)|refine ixN (enc:=rI) 0 (by omega) ?_|refine wq ?_)<;>conv=>whnf)
       · rename_i g';exact rB (by have:=yv g'; symm; simp; intro e; subst e; simp at this)
       · rename_i g';have e:=y8 g';refine ⟨⟨i.1+1,fun j hj=>?_⟩,?_,?_⟩
         · by_cases h:j<i.1
           · exact hi j h
           · obtain rfl:j=i.1:=by omega
             exact e
         · simp only; omega
         · exact wl
     ·
      (refine zA ?_)
      exact rB (by symm; simp; exact xas 0 (by omega) fun j hj=>hi j (by omega))
theorem xth (f g:Form):Sem P 227 [(.pure,.agg (aF f)),(.pure,.agg (aF g))] [] (B (decide (f=g))):=by
 refine fO Go.Proofs.Tryz.f227 fun hb=>?_;conv=>whnf
 repeat' first|((first|refine zz ?_|(refine xa ?_ ?_<;>intro _)|refine ⟨_,xpc _ _,?_⟩)<;>conv=>whnf)
 all_goals exact rB (by obtain ⟨C,D,K⟩:=f; obtain ⟨C',D',K'⟩:=g; simp_all)
theorem xti (l:Line):Sem P 151 [(.pure,.agg (aL l))] [] (B l.ok):=by
 refine fO Go.Proofs.Tryz.f151 fun hb=>?_;conv=>whnf
 repeat' first|((first|refine zz ?_|(refine xa ?_ ?_<;>intro _)|refine ⟨_,x6 _ _ _,?_⟩|refine ⟨_,xq0 l.Form,?_⟩|refine ⟨_,xth l.Form Form.nil,?_⟩)<;>conv=>whnf)
 all_goals exact rB (by simp_all [Line.ok])
theorem xho {act:List Line} {i:Nat} (h:i<act.length):tests (act.take (i+1))=tests (act.take i)+if (act.getD i default).Kind=1 then 1 else 0:=by
 rw [x14,tests,tests,x2a,xzo,xzh h];by_cases k:(act[i]).Kind=1<;>simp [k]
theorem qu (act:List Line):Sem P 219 [(.pure,.one (sLs act))] [] (B (actOk act)):=by
 refine fO Go.Proofs.Tryz.f219 fun hb=>?_;have la:(act.map eL).length=act.length:=xzi ..;have hb1:(act.map eL).length<=1125899906842624:=hb.1.1;conv=>whnf
 (refine zA ?_)
 refine Vc.loop2 (fun (i:Nat) (n:Nat)=>i<=act.length/\n<=i/\n=tests (act.take i)/\∀ j,j<i->(act.getD j default).ok=true) (fun i n=>updL [0,25,26,27,28,29,30,31] [(4,I i),(3,I n)] []) (fun i _=>act.length - i) 0 0 ⟨by omega,by omega,rfl,by simp⟩ ?_ (fun i n hi=>?_)
 · exact wl
 · obtain ⟨hi,hn,ht,ho⟩:=hi;conv=>whnf
   (refine zA ?_)
   refine xd (fun g=>?_) (fun g=>?_)
   all_goals conv=>whnf
   · have ts:=xho (act:=act) (i:=i) (by omega)
     repeat' first|((first|refine zz ?_|(refine xa ?_ ?_<;>intro _)|refine ixN (enc:=eL) default (by omega) ?_|refine ⟨_,xtg (act.getD i default),?_⟩|refine wq ?_)<;>conv=>whnf)
     · rename_i h;exact rB (by symm; simp only [actOk,x3d]; exact .inl (.inl (z8 default (j:=i) (by omega) (by simpa using h))))
     · rename_i h k;have k:(act.getD i default).Kind=1:=by simpa using k
       rw [if_pos k] at ts;refine ⟨i+1,n+1,⟨by omega,by omega,by omega,fun j hj=>?_⟩,by simp only; omega,?_⟩
       · by_cases h':j<i
         · exact ho j h'
         · obtain rfl:j=i:=by omega
           simpa using h
       · exact wl
     · rename_i h k;have k:¬ (act.getD i default).Kind=1:=by simpa using k
       rw [if_neg k] at ts;refine ⟨i+1,n,⟨by omega,by omega,by omega,fun j hj=>?_⟩,by simp only; omega,?_⟩
       · by_cases h':j<i
         · exact ho j h'
         · obtain rfl:j=i:=by omega
           simpa using h
       · exact wl
   · have e:i=act.length:=by omega
     subst e;rw [x1e] at ht;have hall:act.all Line.ok=true:=z7 default ho
     (refine zA ?_)
     all_goals (refine xa (fun g1=>?_) (fun g1=>?_)<;>conv=>whnf)
     all_goals (refine zA ?_)
     all_goals exact rB (by rw [x11]; simp only [actOk,hall,x1h]; simp at g1; simp [<- ht]; omega)
theorem xc9 (act:List Line):Sem P 64 [(.pure,.one (sLs act))] [] (B (actOk act)):=by
 refine fO Go.Proofs.Tryz.f64 fun hb=>?_;have la:(act.map eL).length=act.length:=xzi ..;have hb1:(act.map eL).length<=1125899906842624:=hb.1.1;conv=>whnf
 (refine zA ?_)
 refine Vc.loop2 (fun (i:Nat) (n:Nat)=>i<=act.length/\n<=i/\n=tests (act.take i)/\∀ j,j<i->(act.getD j default).ok=true) (fun i n=>updL [0,6,7,21,22,23,24,25,26,27] [(8,I i),(3,I n)] []) (fun i _=>act.length - i) 0 0 ⟨by omega,by omega,rfl,by simp⟩ ?_ (fun i n hi=>?_)
 · exact wl
 · obtain ⟨hi,hn,ht,ho⟩:=hi;conv=>whnf
   (refine zA ?_)
   refine xd (fun g=>?_) (fun g=>?_)
   all_goals conv=>whnf
   · have ts:=xho (act:=act) (i:=i) (by omega)
     repeat' first|((first|refine zz ?_|(refine xa ?_ ?_<;>intro _)|refine ixN (enc:=eL) default (by omega) ?_|refine ⟨_,xti (act.getD i default),?_⟩|refine wq ?_)<;>conv=>whnf)
     · rename_i h;exact rB (by symm; simp only [actOk,x3d]; exact .inl (.inl (z8 default (j:=i) (by omega) (by simpa using h))))
     · rename_i h k;have k:(act.getD i default).Kind=1:=by simpa using k
       rw [if_pos k] at ts;refine ⟨i+1,n+1,⟨by omega,by omega,by omega,fun j hj=>?_⟩,by simp only; omega,?_⟩
       · by_cases h':j<i
         · exact ho j h'
         · obtain rfl:j=i:=by omega
           simpa using h
       · exact wl
     · rename_i h k;have k:¬ (act.getD i default).Kind=1:=by simpa using k
       rw [if_neg k] at ts;refine ⟨i+1,n,⟨by omega,by omega,by omega,fun j hj=>?_⟩,by simp only; omega,?_⟩
       · by_cases h':j<i
         · exact ho j h'
         · obtain rfl:j=i:=by omega
           simpa using h
       · exact wl
   · have e:i=act.length:=by omega
     subst e;rw [x1e] at ht;have hall:act.all Line.ok=true:=z7 default ho
     (refine zA ?_)
     all_goals (refine xa (fun g1=>?_) (fun g1=>?_)<;>conv=>whnf)
     all_goals (refine zA ?_)
     all_goals exact rB (by rw [x11]; simp only [actOk,hall,x1h]; simp at g1; simp [<- ht]; omega)
theorem xlk:∀ {a b:List Int} {i:Nat},i<a.length->i<b.length->dot (a.take (i+1)) (b.take (i+1))=dot (a.take i) (b.take i)+a.getD i 0*b.getD i 0
 | [],_,_,h,_=>by simp at h
 | _::_,[],_,_,h=>by simp at h
 | x::a,y::b,0,_,_=>by simp [dot]
 | x::a,y::b,i+1,h,h'=>by
   have:=xlk (a:=a) (b:=b) (i:=i) (by simpa using h) (by simpa using h');simp only [List.take_succ_cons,dot,List.getD_cons_succ] at this ⊢;omega
theorem jv {l:List Int} {m:Int} (h:∀ x∈l,-m<=x/\x<=m) {i:Nat} (hi:i<l.length) : -m<=l.getD i 0/\l.getD i 0<=m:=by
 rw [xzo,xzh hi];exact h _ (x0m hi)
theorem xgj (a b:List Int) (hl:a.length<=3) (hab:a.length=b.length) (ha:∀ x∈a,-10000000<=x/\x<=10000000) (hb':∀ x∈b,-10000000000<=x/\x<=10000000000):Sem P 152 [(.pure,AI a),(.pure,AI b)] [] (I (dot a b)):=by
 refine fO Go.Proofs.Tryz.f152 fun hb=>?_;have la:=xb a;have lb:=xb b;conv=>whnf
 (refine zA ?_)
 refine Vc.loop2 (fun (i:Nat) (n:Int)=>i<=a.length/\n=dot (a.take i) (b.take i) /\ -(i*100000000000000000:Int)<=n/\n<=i*100000000000000000) (fun i n=>updL [1,4,8,9,24] [(10,I i),(5,I n)] []) (fun i _=>a.length - i) 0 0 ⟨by omega,by simp [dot],by simp,by simp⟩ ?_ (fun i n hi=>?_)
 · exact wl
 · obtain ⟨hi,hn,h1,h2⟩:=hi;conv=>whnf
   (refine zA ?_)
   refine xd (fun g=>?_) (fun g=>?_)
   all_goals conv=>whnf
   · have e:=xlk (a:=a) (b:=b) (i:=i) (by omega) (by omega);have p:=xo (jv ha (i:=i) (by omega)) (jv hb' (i:=i) (by omega))
     repeat' first|((first|refine zz ?_|(refine xa ?_ ?_<;>intro _)|refine ixN (enc:=rI) 0 (by omega) ?_|refine wq ?_)<;>conv=>whnf)
     refine ⟨i+1,n+a.getD i 0*b.getD i 0,⟨by omega,by omega,by omega,by omega⟩,by simp only; omega,?_⟩;exact wl
   ·
    (refine zA ?_)
    have e:i=a.length:=by omega
    subst e;rw [x1e,hab,x1e] at hn;exact rI' hn
theorem xhp {a b:List Int} (hl:a.length<=3) {m k:Int} (ha:∀ x∈a,-m<=x/\x<=m) (hb:∀ x∈b,-k<=x/\x<=k) (hm:0<=m*k) : -(3*(m*k))<=dot a b/\dot a b<=3*(m*k):=by
 match a,b,hl with
 | [],_,_=>simp [dot]; omega
 | _::_,[],_=>simp [dot]; omega
 | [x],y::b,_ =>
   have:=xo (ha x (by simp)) (hb y (by simp));simp only [dot]; omega
 | [x,x'],[y],_ =>
   have:=xo (ha x (by simp)) (hb y (by simp));simp only [dot]; omega
 | [x,x'],y::y'::b,_ =>
   have:=xo (ha x (by simp)) (hb y (by simp));have:=xo (ha x' (by simp)) (hb y' (by simp));simp only [dot]; omega
 | [x,x',x''],[y],_ =>
   have:=xo (ha x (by simp)) (hb y (by simp));simp only [dot]; omega
 | [x,x',x''],[y,y'],_ =>
   have:=xo (ha x (by simp)) (hb y (by simp));have:=xo (ha x' (by simp)) (hb y' (by simp));simp only [dot]; omega
 | [x,x',x''],y::y'::y''::b,_ =>
   have:=xo (ha x (by simp)) (hb y (by simp));have:=xo (ha x' (by simp)) (hb y' (by simp));have:=xo (ha x'' (by simp)) (hb y'' (by simp));simp only [dot]; omega
theorem xpf (f:Form) (vals args:List Int) (hf:f.bd 10000000) (hv:nums vals 3) (ha:nums args 2):Sem P 67 [(.pure,.agg (aF f)),(.pure,AI vals),(.pure,AI args)] [] (I (f.at vals args)):=by
 have b1:=xhp (a:=f.C) (b:=vals) (by rw [hf.1.1]; decide) hf.2.1 hv.2 (by decide);have b2:=xhp (a:=f.D) (b:=args) (by rw [hf.1.2]; decide) hf.2.2.1 ha.2 (by decide);have b3:=hf.2.2.2;refine fO Go.Proofs.Tryz.f67 fun hb=>?_;conv=>whnf
 repeat' first|((first|refine zz ?_|(refine xa ?_ ?_<;>intro _))<;>conv=>whnf)|(refine ⟨_,xgj f.C vals (by rw [hf.1.1]; decide) (by rw [hf.1.1,hv.1]) hf.2.1 hv.2,?_⟩;conv=>whnf)|(refine ⟨_,xgj f.D args (by rw [hf.1.2]; decide) (by rw [hf.1.2,ha.1]) hf.2.2.1 ha.2,?_⟩;conv=>whnf)|((first|refine wq ?_)<;>conv=>whnf)
 exact ⟨rfl,rfl⟩
theorem xy9 (args:List Int) {act:List Line} {i:Nat} (own tells:List Int) (h:i<act.length):goLines args (act.drop i) own tells =
 if (act.getD i default).Kind=4 then none
 else if (act.getD i default).Kind=1 then (if (act.getD i default).Form.at own args<0 then goLines args (act.drop (i+1+(act.getD i default).Skip.toNat)) own tells else goLines args (act.drop (i+1)) own tells)
 else if (act.getD i default).Kind=2 then goLines args (act.drop (i+1)) (own.set (act.getD i default).Pot.toNat (own.getD (act.getD i default).Pot.toNat 0+(act.getD i default).Form.at own args)) tells
 else goLines args (act.drop (i+1)) own (tells++[(act.getD i default).Form.at own args]):=by
 rw [x16 h,goLines,x3n];have e:act.getD i default=act[i]:=by rw [xzo,xzh h]; rfl
 rw [e]
theorem xyo (args:List Int) {act:List Line} {i:Nat} (own tells:List Int) (h:act.length<=i):goLines args (act.drop i) own tells=some (own,tells):=by
 rw [x1x h,goLines]
def bnd:Nat->Int
 | 0=>10000
 | k+1=>7*bnd k+74
theorem xhq:∀ k,10000<=bnd k
 | 0=>by decide
 | k+1=>by have:=xhq k; simp only [bnd]; omega
theorem xll {i j:Nat} (h:i<=j):bnd i<=bnd j:=by
 induction j with
 | zero =>
    obtain rfl:i=0:=by omega
    exact x3p _
 | succ j ih =>
   by_cases e:i=j+1
   · rw [e]; exact x3p _
   · have:=ih (by omega);have:=xhq j;simp only [bnd]; omega
theorem xtj {i:Nat} (h:i<=6):bnd i<=2000000000:=Int.le_trans (xll h) (by decide)
def potsB (own:List Int) (i:Nat):Prop:=own.length=3/\∀ x∈own,-bnd i<=x/\x<=bnd i
theorem potsB.nums {own:List Int} {i:Nat} (h:potsB own i) (hi:i<=6):nums own 3:=⟨h.1,fun x hx=>by have:=h.2 x hx; have:=xtj hi; omega⟩
theorem potsB.mono {own:List Int} {i j:Nat} (h:potsB own i) (hi:i<=j):potsB own j:=⟨h.1,fun x hx=>by have:=h.2 x hx; have:=xll hi; omega⟩
theorem potsB.zero {own:List Int} (h:valOk own=true):potsB own 0:=by
 obtain ⟨h1,h2⟩:=xe.1 h;exact ⟨h1,fun x hx=>h2 x hx⟩
theorem xgk {args:List Int} (h:argOk args=true):nums args 2:=by
 obtain ⟨h1,h2⟩:=xe.1 h;exact ⟨h1,fun x hx=>by have:=h2 x hx; omega⟩
theorem xyp {args:List Int} (h:argOk args=true):∀ x∈args,-9<=x/\x<=9:=(xe.1 h).2
theorem xtk {x:Line} (h:x.ok=true) (h4:¬ x.Kind=4):x.Form.small=true:=by
 unfold Line.ok at h
 split at h
 · simp at h; exact h.2
 · split at h
   · simp at h; exact h.2
   · split at h
     · simp at h; exact h.2
     · simp_all
theorem qj {f:Form} (h:f.small=true):f.bd 10000000/\(∀ x∈f.C,-2<=x/\x<=2)/\(∀ x∈f.D,-2<=x/\x<=2) /\ -20<=f.K/\f.K<=20:=by
 obtain ⟨a,b,c,d,e,k,rfl,ha,hb,hc,hd,he,hk⟩:=xgi h;refine ⟨bdI (by omega) (by omega) (by omega) (by omega) (by omega) (by omega),by simp; omega,by simp; omega,by simp; omega⟩
theorem xgl {f:Form} {own args:List Int} {i:Nat} (hf:f.small=true) (ho:potsB own i) (ha:argOk args=true) : -(6*bnd i+74)<=f.at own args/\f.at own args<=6*bnd i+74:=by
 obtain ⟨h0,h1,h2,h3⟩:=qj hf;have hb:=xhq i;have p1:=xhp (a:=f.C) (b:=own) (by rw [h0.1.1]; decide) h1 ho.2 (by omega);have p2:=xhp (a:=f.D) (b:=args) (by rw [h0.1.2]; decide) h2 (xyp ha) (by decide);simp only [Form.at]; omega
theorem potsB.set {own:List Int} {i:Nat} {p:Nat} {n:Int} (h:potsB own i) (hn : -(6*bnd i+74)<=n/\n<=6*bnd i+74) (hp:p<3):potsB (own.set p (own.getD p 0+n)) (i+1):=by
 have hb:=xhq i;have hq:=jv h.2 (i:=p) (by rw [h.1]; exact hp);refine ⟨by rw [x03]; exact h.1,fun x hx=>?_⟩;rcases x1l hx with h'|rfl
 · have:=h.2 x h'; simp only [bnd]; omega
 · simp only [bnd]; omega
theorem ixE {α:Type} {L:List α} {enc:α->List AV} {i:Nat} {x:α} {k:List AV->Prop} (h:L[i]?=some x) (hk:k (enc x)):0<=(i:Int)/\∃ row,(L.map enc)[((i:Int)).toNat]?=some row/\k row :=
 ⟨by omega,_,by rw [xz9,xzr,h]; rfl,hk⟩
theorem x7 (l:List Int):allPrim (ints l):=by
 intro row hr a ha;obtain ⟨n,_,rfl⟩:=xzv.1 hr;exact ⟨_,xzq.1 ha⟩
theorem apP {r:List (List AV)} {k q:Prop} (h:allPrim r) (hk:k):allPrim r/\k\/q:=.inl ⟨h,hk⟩
theorem yz (l:List Int) (i:Nat) (n:Int):(ints l).set i (rI n)=ints (l.set i n):=x1y.symm
theorem y0 (l:List Int) (n:Int):ints l++[rI n]=ints (l++[n]):=by simp
theorem apN {a:Nat} {k:Prop} (h:a<=1048576) (hk:k):a<=1048576/\k:=⟨h,hk⟩
theorem xvv (vals own tells:List Int) (hv:vals.length<=100000):Sem P 221 [(.pure,AI vals),(.own,AI own),(.own,AI tells)] [] (.tup [(true,aR (endOf vals (some (own,tells))).1),(false,[sI (endOf vals (some (own,tells))).2])]):=by
 refine fO Go.Proofs.Tryz.f221 fun hb=>?_;have lv:=xb vals;conv=>whnf
 repeat' first|((first|refine zz ?_|(refine xa ?_ ?_<;>intro _)|refine ⟨_,zg own,?_⟩)<;>conv=>whnf)|(refine apN (by simp; omega) ?_;conv=>whnf)|((first|refine apP (x7 _) ?_)<;>conv=>whnf)
 · rename_i h;have h:valOk own=false:=by simpa using h
   exact ⟨by rw [endOf,if_neg (by simp [h])]; rfl,rfl⟩
 · rename_i h;have h:valOk own=true:=by simpa using h
   exact ⟨by rw [endOf,if_pos h]; rfl,rfl⟩
theorem xnv (act:List Line) (vals args:List Int):Sem P 130 [(.pure,.one (sLs act)),(.pure,AI vals),(.pure,AI args)] [] (.tup [(true,aR (actRun act vals args).1),(false,[sI (actRun act vals args).2])]):=by
 refine fK [19003] Go.Proofs.Tryz.f130 fun hb=>?_;have la:(act.map eL).length=act.length:=xzi ..;by_cases hall:(actOk act && valOk vals && argOk args)=true
 · obtain ⟨⟨ha,hv⟩,hg⟩:(actOk act=true/\valOk vals=true)/\argOk args=true:=by simpa using hall
   have hlen:vals.length<=100000:=by rw [(potsB.zero hv).1]; decide
   have e0:actRun act vals args=endOf vals (goLines args act vals []):=by rw [actRun,if_pos hall]
   obtain ⟨hlines,h6,_⟩:=zk.1 ha;rw [e0];conv=>whnf
   repeat' first|((first|refine zz ?_|(refine xa ?_ ?_<;>intro _)|refine ⟨_,qu _,?_⟩|refine ⟨_,zg _,?_⟩|refine ⟨_,ko _,?_⟩)<;>conv=>whnf)|(refine apN (by simp; omega) ?_;conv=>whnf)|((first|refine apP (x7 _) ?_)<;>conv=>whnf)
   · rename_i h; rw [ha] at h; cases h
   · rename_i h; rw [hv] at h; cases h
   · rename_i h; rw [hg] at h; cases h
   · refine Vc.loop3 (fun (i:Nat) (own tells:List Int)=>i<=12/\potsB own (min i 6)/\tells.length<=i/\goLines args act vals []=goLines args (act.drop i) own tells) (fun i own tells=>updL [0,1,2,6,8,86,87,88,89,90,91] [(10,I i),(9,.one (.ref 320000))] [(256128,.arr 3 (ints own) false),(320000,.arr 3 (ints tells) false)]) (fun i _ _=>12 - i) 0 vals [] ⟨by omega,potsB.zero hv,by simp,rfl⟩ ?_ (fun i own tells hi=>?_)
     · exact wl
     · obtain ⟨hi,ho,ht,hgo⟩:=hi;have lt:=xb tells;conv=>whnf
       (refine zA ?_)
       refine xd (fun g=>?_) (fun g=>?_)
       all_goals conv=>whnf
       · have hi6:i<act.length:=by omega
         have hm:min i 6=i:=by omega
         rw [hm] at ho;rw [xy9 args own tells hi6] at hgo;obtain ⟨x,hxi⟩:∃ x,act[i]?=some x:=⟨_,xzh hi6⟩;have hx:x.ok=true:=hlines _ (xzy hxi);have ex:act.getD i default=x:=by rw [xzo,hxi]; rfl
         rw [ex] at hgo;have hkind:=xem hx;have hsk:=xel hx;have hpo:=xa3 hx;have hfo:=xtk hx;obtain ⟨kind,pot,skip,form⟩:=x;simp only at hkind hsk hpo hfo hgo;rcases hkind with rfl|rfl|rfl|rfl
         · have hs:=hfo (by decide);have hsk:=hsk rfl;have q:=xgl hs ho hg;simp only [Int.reduceEq,x17,if_true] at hgo
           repeat' first|((first|refine zz ?_|(refine xa ?_ ?_<;>intro _)|refine ixE (enc:=eL) hxi ?_|refine ⟨_,qx form own args (qj hs).1 (ho.nums (by omega)) (xgk hg),?_⟩|refine wq ?_)<;>conv=>whnf)
           · rename_i h;have h:form.at own args<0:=by simpa using h
             rw [if_pos h] at hgo;refine ⟨i+1+skip.toNat,own,tells,⟨by omega,ho.mono (by omega),by omega,hgo⟩,by simp only; omega,?_⟩;exact wk
           · rename_i h;have h:¬ form.at own args<0:=by simpa using h
             rw [if_neg h] at hgo;refine ⟨i+1,own,tells,⟨by omega,ho.mono (by omega),by omega,hgo⟩,by simp only; omega,?_⟩;exact wl
         · have hs:=hfo (by decide);have hpo:=hpo rfl;have q:=xgl hs ho hg;have q2:=jv ho.2 (i:=pot.toNat) (by rw [ho.1]; omega);have q3:=xtj (i:=i) (by omega);have lo:=ho.1;simp only [Int.reduceEq,x17,if_true] at hgo
           repeat' first|((first|refine zz ?_|(refine xa ?_ ?_<;>intro _)|refine ixE (enc:=eL) hxi ?_|refine ⟨_,qx form own args (qj hs).1 (ho.nums (by omega)) (xgk hg),?_⟩|refine wq ?_)<;>conv=>whnf)|(refine ioN (by first|omega|(dsimp only; omega)) (by rw [xb]; dsimp only; omega) ?_;conv=>whnf)|((first|refine rwN (enc:=rI) 0 (by first|omega|(dsimp only; omega)) ?_|refine ixI (enc:=rI) 0 (by first|omega|(dsimp only; omega)) (by first|omega|(dsimp only; omega)) ?_)<;>conv=>whnf)
           refine ⟨i+1,own.set pot.toNat (own.getD pot.toNat 0+form.at own args),tells,⟨by omega,by rw [show min (i+1) 6=i+1 by omega]; exact ho.set q (by omega),by omega,hgo⟩,by simp only; omega,?_⟩
           repeat' (first|exact True.intro|((conv=>whnf);first|exact True.intro|refine ⟨by rfl,?_⟩|refine ⟨by first|omega|(show (_:Int)=_;first|omega|(dsimp only;omega))|exact yz _ _ _,?_⟩|refine ⟨?_,?_⟩))
         · have hs:=hfo (by decide);have q:=xgl hs ho hg;simp only [Int.reduceEq,x17,if_true] at hgo
           repeat' first|((first|refine zz ?_|(refine xa ?_ ?_<;>intro _)|refine ixE (enc:=eL) hxi ?_|refine ⟨_,qx form own args (qj hs).1 (ho.nums (by omega)) (xgk hg),?_⟩|refine wq ?_)<;>conv=>whnf)|(refine apN (by simp; omega) ?_;conv=>whnf)|((first|refine apP (x7 _) ?_)<;>conv=>whnf)
           refine ⟨i+1,own,tells++[form.at own args],⟨by omega,ho.mono (by omega),by rw [xzu]; simp; omega,hgo⟩,by simp only; omega,?_⟩
           repeat' (first|exact True.intro|((conv=>whnf);first|exact True.intro|refine ⟨by rfl,?_⟩|refine ⟨by first|omega|(show (_:Int)=_;first|omega|(dsimp only;omega))|exact y0 _ _,?_⟩|refine ⟨?_,?_⟩))
         · simp only [Int.reduceEq,x17,if_true] at hgo
           repeat' first|((first|refine zz ?_|(refine xa ?_ ?_<;>intro _)|refine ixE (enc:=eL) hxi ?_)<;>conv=>whnf)|(refine apN (by simp; omega) ?_;conv=>whnf)|((first|refine apP (x7 _) ?_)<;>conv=>whnf)
           exact ⟨by rw [hgo]; rfl,rfl⟩
       · rw [xyo args own tells (by omega)] at hgo
         repeat' first|((first|refine zz ?_|(refine xa ?_ ?_<;>intro _)|refine ⟨_,xvv vals own tells hlen,?_⟩)<;>conv=>whnf)
         exact ⟨by rw [hgo]; rfl,rfl⟩
 · have e0:actRun act vals args=(Rslt.nil,[]):=by rw [actRun,if_neg hall]
   rw [e0];conv=>whnf
   repeat' first|((first|refine zz ?_|(refine xa ?_ ?_<;>intro _)|refine ⟨_,qu _,?_⟩|refine ⟨_,zg _,?_⟩|refine ⟨_,ko _,?_⟩)<;>conv=>whnf)
   all_goals first|exact ⟨rfl,rfl⟩|skip
   all_goals exact absurd (by simp_all) hall
theorem xhr (acts:List (List Line)):Sem P 136 [(.pure,.one (sAs acts))] [] (B (catOk acts)):=by
 refine fO Go.Proofs.Tryz.f136 fun hb=>?_;have la:(acts.map eA).length=acts.length:=xzi ..;have hb1:(acts.map eA).length<=1125899906842624:=hb.1.1;conv=>whnf
 repeat' first|((first|refine zz ?_|(refine xa ?_ ?_<;>intro _)|refine ⟨_,xj _ _ _,?_⟩)<;>conv=>whnf)
 · rename_i h;exact rB (by simp_all [catOk])
 · rename_i h;refine Vc.loop1 (fun (i:Nat)=>i<=acts.length/\∀ j,j<i->actOk (acts.getD j default)=true) (fun i=>updL [0] [(3,I i)] []) (fun i=>acts.length - i) 0 ⟨by omega,fun j hj=>absurd hj (x0z j)⟩ ?_ (fun i hi=>?_)
   · exact wl
   · obtain ⟨hi,ho⟩:=hi;have hlm:(acts.map eA).length=acts.length:=xzi ..;conv=>whnf
     (refine zA ?_)
     refine xd (fun g=>?_) (fun g=>?_)
     all_goals conv=>whnf
     · repeat' first|((first|refine zz ?_|(refine xa ?_ ?_<;>intro _)|refine ixN (enc:=eA) default (by omega) ?_|refine ⟨_,qu _,?_⟩|refine wq ?_)<;>conv=>whnf)
       all_goals first
        | (refine ⟨i+1,⟨by omega,fun j hj=>?_⟩,by simp only; omega,?_⟩
           · by_cases h':j<i
             · exact ho j h'
             · obtain rfl:j=i:=by omega
               clear ho;simp_all
           · exact wl)
        | (have hp:actOk (acts.getD i default)=false:=by (clear ho; simp_all )
           have hn:acts.all actOk=false:=z8 default (j:=i) (by omega) hp
           exact rB (by simp_all [catOk]))
     · have hall:acts.all actOk=true:=z7 default fun j hj=>ho j (by omega)
       repeat' first|((first|refine zz ?_|(refine xa ?_ ?_<;>intro _)|refine ⟨_,qu _,?_⟩|refine wq ?_)<;>conv=>whnf)
       exact rB (by simp_all [catOk])
theorem xza (a:List Line):Sem P 229 [(.pure,.one (sLs a))] [] (B (!actOk a)):=by
 refine fO Go.Proofs.Tryz.f229 fun hb=>?_;conv=>whnf
 repeat' first|((first|refine zz ?_|(refine xa ?_ ?_<;>intro _)|refine ⟨_,xc9 _,?_⟩)<;>conv=>whnf)
 exact ⟨rfl,rfl⟩
theorem xnw  (l:List (List Line)):Sem P 274 [(.pure,.one (sAs l)),(.pure,.one (.fn 229 []))] [] (I (idxOf (fun (x:(List Line))=>!actOk x) l)):=by
 refine fO Go.Proofs.Tryz.f274 fun hb=>?_;have la:(l.map eA).length=l.length:=xzi ..;have hb1:(l.map eA).length<=1125899906842624:=hb.1.1;conv=>whnf
 (refine zA ?_)
 refine Vc.loop { i:Nat // ∀ j,j<i->j<l.length->(fun (x:(List Line))=>!actOk x) (l.getD j default)=false } (fun i=>updL [0,1,7] [(8,I i.1)] []) (fun i=>l.length - i.1) ⟨0,by simp⟩ ?_ (fun i=>?_)
 · exact wl
 · have hi:=i.2;conv=>whnf
   (refine zA ?_)
   refine xd (fun g=>?_) (fun g=>?_)
   all_goals conv=>whnf
   · repeat' first|((first|refine zz ?_|(refine xa ?_ ?_<;>intro _)|refine ixN (enc:=eA) default (by omega) ?_|refine ⟨_,xza _,?_⟩|refine wq ?_)<;>conv=>whnf)
     · rename_i h;exact rI' (yw (p:=fun (x:(List Line))=>!actOk x) default (by omega) h fun j hj=>hi j hj (by omega)).symm
     · rename_i h;refine ⟨⟨i.1+1,fun j hj hl=>?_⟩,?_,?_⟩
       · by_cases hji:j<i.1
         · exact hi j hji hl
         · obtain rfl:j=i.1:=by omega
           exact h
       · simp only; omega
       · exact wl
   ·
    (refine zA ?_)
    exact rI' (yf (p:=fun (x:(List Line))=>!actOk x) default fun j hj=>hi j (by omega) hj).symm
theorem xvw  (l:List (List Line)):Sem P 228 [(.pure,.one (sAs l)),(.pure,.one (.fn 229 []))] [] (B (l.any fun (x:(List Line))=>!actOk x)):=by
 refine fO Go.Proofs.Tryz.f228 fun hb=>?_;conv=>whnf
 repeat' first|((first|refine zz ?_|(refine xa ?_ ?_<;>intro _)|refine ⟨_,xnw  l,?_⟩)<;>conv=>whnf)
 exact rB (zd _ _)
theorem xak (acts:List (List Line)):Sem P 153 [(.pure,.one (sAs acts))] [] (B (catOk acts)):=by
 refine fO Go.Proofs.Tryz.f153 fun hb=>?_;have la:(acts.map eA).length=acts.length:=xzi ..;conv=>whnf
 repeat' first|((first|refine zz ?_|(refine xa ?_ ?_<;>intro _)|refine ⟨_,x6 _ _ _,?_⟩|refine ⟨_,xvw acts,?_⟩)<;>conv=>whnf)
 all_goals exact rB (by simp_all [catOk,ju])
theorem xzb (n:Int):Sem P 230 [(.pure,I n)] [] (B (!inB n 0 50)):=by
 refine fO Go.Proofs.Tryz.f230 fun hb=>?_;conv=>whnf
 repeat' first|((first|refine zz ?_|(refine xa ?_ ?_<;>intro _)|refine ⟨_,x6 _ _ _,?_⟩)<;>conv=>whnf)
 exact ⟨rfl,rfl⟩
theorem xlm  (l:List Int):Sem P 225 [(.pure,.one (sI l)),(.pure,.one (.fn 230 []))] [] (I (idxOf (fun (x:Int)=>!inB x 0 50) l)):=by
 refine fO Go.Proofs.Tryz.f225 fun hb=>?_;have la:(ints l).length=l.length:=xzi ..;have hb1:(ints l).length<=1125899906842624:=hb.1.1;conv=>whnf
 (refine zA ?_)
 refine Vc.loop { i:Nat // ∀ j,j<i->j<l.length->(fun (x:Int)=>!inB x 0 50) (l.getD j default)=false } (fun i=>updL [0,1,7] [(8,I i.1)] []) (fun i=>l.length - i.1) ⟨0,by simp⟩ ?_ (fun i=>?_)
 · exact wl
 · have hi:=i.2;conv=>whnf
   (refine zA ?_)
   refine xd (fun g=>?_) (fun g=>?_)
   all_goals conv=>whnf
   · repeat' first|((first|refine zz ?_|(refine xa ?_ ?_<;>intro _)|refine ixN (enc:=rI) default (by omega) ?_|refine ⟨_,xzb _,?_⟩|refine wq ?_)<;>conv=>whnf)
     · rename_i h;exact rI' (yw (p:=fun (x:Int)=>!inB x 0 50) default (by omega) h fun j hj=>hi j hj (by omega)).symm
     · rename_i h;refine ⟨⟨i.1+1,fun j hj hl=>?_⟩,?_,?_⟩
       · by_cases hji:j<i.1
         · exact hi j hji hl
         · obtain rfl:j=i.1:=by omega
           exact h
       · simp only; omega
       · exact wl
   ·
    (refine zA ?_)
    exact rI' (yf (p:=fun (x:Int)=>!inB x 0 50) default fun j hj=>hi j (by omega) hj).symm
theorem xtl  (l:List Int):Sem P 149 [(.pure,.one (sI l)),(.pure,.one (.fn 230 []))] [] (B (l.any fun (x:Int)=>!inB x 0 50)):=by
 refine fO Go.Proofs.Tryz.f149 fun hb=>?_;conv=>whnf
 repeat' first|((first|refine zz ?_|(refine xa ?_ ?_<;>intro _)|refine ⟨_,xlm  l,?_⟩)<;>conv=>whnf)
 exact rB (zd _ _)
theorem xhs (t:Treaty):Sem P 154 [(.pure,.agg (aT t))] [] (B (trtOk t)):=by
 refine fO Go.Proofs.Tryz.f154 fun hb=>?_;have la:=xb t.Gives;conv=>whnf
 repeat' first|((first|refine zz ?_|(refine xa ?_ ?_<;>intro _)|refine ⟨_,j3 _,?_⟩|refine ⟨_,x6 _ _ _,?_⟩|refine ⟨_,xtl t.Gives,?_⟩)<;>conv=>whnf)
 all_goals exact rB (by simp_all [trtOk,givesOk,ju])
theorem j5 (t:Treaty):Sem P 138 [(.pure,.agg (aT t))] [] (B (trtOk t)):=by
 refine fO Go.Proofs.Tryz.f138 fun hb=>?_;have la:=xb t.Gives;have hb1:(ints t.Gives).length<=1125899906842624:=(hb.1 (sI t.Gives) (by simp)).1;conv=>whnf
 repeat' first|((first|refine zz ?_|(refine xa ?_ ?_<;>intro _)|refine ⟨_,zg _,?_⟩|refine ⟨_,xj _ _ _,?_⟩)<;>conv=>whnf)
 · rename_i h;exact rB (by simp_all [trtOk])
 · rename_i h;exact rB (by simp_all [trtOk,givesOk])
 · rename_i h1 h2;refine Vc.loop1 (fun (i:Nat)=>i<=t.Gives.length/\∀ j,j<i->(fun n=>inB n 0 50) (t.Gives.getD j default)=true) (fun i=>updL [1] [(3,I i)] []) (fun i=>t.Gives.length - i) 0 ⟨by omega,fun j hj=>absurd hj (x0z j)⟩ ?_ (fun i hi=>?_)
   · exact wl
   · obtain ⟨hi,ho⟩:=hi;have hlm:(t.Gives.map rI).length=t.Gives.length:=xzi ..;conv=>whnf
     (refine zA ?_)
     refine xd (fun g=>?_) (fun g=>?_)
     all_goals conv=>whnf
     · repeat' first|((first|refine zz ?_|(refine xa ?_ ?_<;>intro _)|refine ixN (enc:=rI) default (by omega) ?_|refine ⟨_,xj _ _ _,?_⟩|refine wq ?_)<;>conv=>whnf)
       all_goals first
        | (refine ⟨i+1,⟨by omega,fun j hj=>?_⟩,by simp only; omega,?_⟩
           · by_cases h':j<i
             · exact ho j h'
             · obtain rfl:j=i:=by omega
               clear ho;simp_all
           · exact wl)
        | (have hp:(fun n=>inB n 0 50) (t.Gives.getD i default)=false:=by (clear ho; simp_all )
           have hn:t.Gives.all (fun n=>inB n 0 50)=false:=z8 default (j:=i) (by omega) hp
           exact rB (by simp_all [trtOk,givesOk]))
     · have hall:t.Gives.all (fun n=>inB n 0 50)=true:=z7 default fun j hj=>ho j (by omega)
       repeat' first|((first|refine zz ?_|(refine xa ?_ ?_<;>intro _)|refine ⟨_,xj _ _ _,?_⟩|refine wq ?_)<;>conv=>whnf)
       exact rB (by simp_all [trtOk,givesOk])
theorem jb (p:Plan) (base:List Int):Sem P 155 [(.pure,.agg (aPl p)),(.pure,AI base)] [] (.agg [fI base,fI p.Gives]):=by
 refine fO Go.Proofs.Tryz.f155 fun hb=>?_;conv=>whnf
 repeat' first|((first|refine zz ?_|(refine xa ?_ ?_<;>intro _))<;>conv=>whnf)
 exact ⟨rfl,rfl⟩
theorem jc (p:Plan):Sem P 68 [(.pure,.agg (aPl p))] [] (B (planOk p)):=by
 refine fO Go.Proofs.Tryz.f68 fun hb=>?_;conv=>whnf
 repeat' first|((first|refine zz ?_|(refine xa ?_ ?_<;>intro _)|refine ⟨_,x6 _ _ _,?_⟩|refine ⟨_,xak _,?_⟩|refine ⟨_,yq _ 3 _ (by omega),?_⟩|refine ⟨_,jb p p.Start,?_⟩|refine ⟨_,xhs ⟨p.Start,p.Gives⟩,?_⟩)<;>conv=>whnf)
 all_goals exact rB (by simp_all [planOk,Plan.treaty])
theorem zh (p:Plan):Sem P 57 [(.pure,.agg (aPl p))] [] (B (planOk p)):=by
 refine fO Go.Proofs.Tryz.f57 fun hb=>?_;conv=>whnf
 repeat' first|((first|refine zz ?_|(refine xa ?_ ?_<;>intro _)|refine ⟨_,xj _ _ _,?_⟩|refine ⟨_,xhr _,?_⟩|refine ⟨_,x9 _ 3 _ (by omega),?_⟩|refine ⟨_,j5 ⟨p.Start,p.Gives⟩,?_⟩)<;>conv=>whnf)
 all_goals exact rB (by simp_all [planOk,Plan.treaty])
theorem xdy (p:Plan) (n:Int) (hc:inB p.Clients 0 4=true):Sem P 94 [(.pure,.agg (aPl p)),(.pure,I n)] [] (B (isClient p n)):=by
 have hc:=xc.1 hc;refine fO Go.Proofs.Tryz.f94 fun hb=>?_;conv=>whnf
 repeat' first|((first|refine zz ?_|(refine xa ?_ ?_<;>intro _)|refine ⟨_,x6 _ _ _,?_⟩|refine wq ?_)<;>conv=>whnf)
 exact ⟨rfl,rfl⟩
theorem vz (p:Plan) (c:Call) (hc:inB p.Clients 0 4=true):Sem P 157 [(.pure,.agg (aPl p)),(.pure,.agg (aC c))] [] (B (callB p c)):=by
 refine fO Go.Proofs.Tryz.f157 fun hb=>?_;have la:(p.Acts.map eA).length=p.Acts.length:=xzi ..;have hb1:(p.Acts.map eA).length<=1125899906842624:=(hb.1 (sAs p.Acts) (by simp)).1;conv=>whnf
 repeat' first|((first|refine zz ?_|(refine xa ?_ ?_<;>intro _)|refine ⟨_,xdy p c.Client hc,?_⟩|refine ⟨_,x6 _ _ _,?_⟩|refine ⟨_,xaj _,?_⟩|refine wq ?_)<;>conv=>whnf)
 all_goals exact rB (by simp_all [callB])
theorem y9 (p:Plan) (c:Call) (hc:inB p.Clients 0 4=true):Sem P 93 [(.pure,.agg (aPl p)),(.pure,.agg (aC c))] [] (B (callB p c)):=by
 have hc:=xc.1 hc;refine fO Go.Proofs.Tryz.f93 fun hb=>?_;have la:(p.Acts.map eA).length=p.Acts.length:=xzi ..;have hb1:(p.Acts.map eA).length<=1125899906842624:=(hb.1 (sAs p.Acts) (by simp)).1;conv=>whnf
 repeat' first|((first|refine zz ?_|(refine xa ?_ ?_<;>intro _)|refine ⟨_,xj _ _ _,?_⟩|refine ⟨_,ko _,?_⟩|refine wq ?_)<;>conv=>whnf)
 all_goals exact rB (by simp_all [callB,isClient])
end Cc
end
section
namespace Go.AM
open Go Go.RowKit Go.Sort
def joinT (l:List Int):List UInt8:=l.flatMap fun n=>32::Lib.itoa n
theorem xal {l:List Int} {k:Nat} (h:k<l.length):joinT (l.take (k+1))=joinT (l.take k)++(32::Lib.itoa (l.getD k 0)):=by
 rw [joinT,joinT,x14,x1b,xzo,xzh h];simp
theorem v6:∀ (k:Nat) {u:Nat},u<10 ^ (k+1)->Lib.nDigits u<=k+1
 | 0,u,h=>by rw [Lib.nDigits_small (by simpa using h)]; exact x0r _
 | k+1,u,h=>by
   by_cases h':u<10
   · rw [Lib.nDigits_small h']; omega
   · rw [Lib.nDigits_big h'];have:=v6 k (u:=u / 10) (by rw [Nat.pow_succ] at h; omega);omega
theorem xa5 {n:Int} (h : -9223372036854775808<=n/\n<=9223372036854775807):(Lib.itoa n).length<=21:=by
 unfold Lib.itoa
 split
 · rw [xz6,Lib.decDigits_length];have:=v6 19 (u:=n.natAbs) (by omega);omega
 · rw [Lib.decDigits_length];have:=v6 19 (u:=n.toNat) (by omega);omega
theorem jw:∀ {l:List Int},(∀ x∈l,-9223372036854775808<=x/\x<=9223372036854775807)->(joinT l).length<=l.length*22
 | [],_=>by simp [joinT]
 | a::r,h=>by
   have h1:=xa5 (h a (by simp));have h2:=jw (l:=r) fun x hx=>h x (by simp [hx]);have e:joinT (a::r)=(32::Lib.itoa a)++joinT r:=rfl;rw [e,xzu,xz6,xz6];omega
theorem xtm {w wr : World} (h : Lib.TabIs (P : Program) w "internal/strconv.uint64pow10" .u64 Lib.pow10Tab) (hb : Below w.heap.size w wr) : Lib.TabIs (P : Program) wr "internal/strconv.uint64pow10" .u64 Lib.pow10Tab := by
 unfold Lib.TabIs World.var? at *
 cases hg : (P : Program).globalNamed "internal/strconv.uint64pow10" with
 | none=>rw [hg] at h; cases h
 | some g =>
   rw [hg] at h;simp only [Option.bind_some] at h ⊢;have hlt:g<w.heap.size:=by
    by_cases hlt:g<w.heap.size
    · exact hlt
    · rw [x22 (by omega)] at h; cases h
   rw [hb.block g hlt];exact h
theorem xxj {w:World} {p:Addr} {v:Value} (h:w.cell? p=some v):p.block<w.heap.size:=by
 by_cases hlt:p.block<w.heap.size
 · exact hlt
 · unfold World.cell? at h;rw [x22 (by omega)] at h;cases h
theorem xln {B b:Nat} {bs:List Value} {w:World} {T e:TypeId} (h:Lib.IsBuilder T e B b bs w) (k:Nat) (os:Array Obj):Lib.IsBuilder T e B b bs (Go.Sort.grow (w.drewN k) os):=by
 have key:∀ {p:Value},Lib.BuilderAt T e B b p bs w->Lib.BuilderAt T e B b p bs (Go.Sort.grow (w.drewN k) os):=by
  intro p h;have hlt:=h.lt;obtain ⟨h1,v,h2,h3,h4⟩:=h;exact ⟨h1,v,by rw [Lib.heap_grow_old w k os b hlt]; exact h2,Lib.ownsRow_grow h3 k os,h4⟩
 rcases h with h|h
 · exact .inl (key h)
 · exact .inr (key h)
set_option maxHeartbeats 4000000 in
set_option maxRecDepth 1000000 in
theorem xnx (l:List Int) (a:Option Addr) (cap:Nat) (w:World) (hl:l.length<=1000) (hbd:∀ x∈l,-9223372036854775808<=x/\x<=9223372036854775807) (h0:l≠[]->∃ b o,a=some ⟨b,o,none⟩) (hc:∀ b o,a=some ⟨b,o,none⟩->∀ j,j<l.length->w.cell? ⟨b,o+j,none⟩=some (.int .i64 (l.getD j 0)))
 (htab : Lib.TabIs (P : Program) w "internal/strconv.uint64pow10" .u64 Lib.pow10Tab) :
 Calls Go.Proofs.Tryz.prog 295 #[.slice a l.length cap] w fun e w'=>e=.returned (.string ⟨(joinT l).toArray⟩)/\Below w.heap.size w w':=by
 go_enter Go.Proofs.Tryz.func295,Go.Proofs.Tryz.ntmps295
 go_wp2
 go_loopw [8] (fun i wr=>∃ k:Nat,i=.int .i64 k/\k<=l.length/\Lib.IsBuilder 325 5 w.heap.size w.heap.size (Lib.byteCells (joinT (l.take k))) wr/\Below w.heap.size w wr) (fun i _=>l.length - (intOf i).toNat)
 case atStart =>
  exact ⟨0,rfl,xz1 _,Lib.fresh_isBuilder 325 5 w,(Below.refl _ w).alloc (x0r _) _⟩
 case round =>
  obtain ⟨k,rfl,hk,hI,hbw⟩:=hrel;have hsz:w.heap.size<=wr.heap.size:=hbw.size;by_cases hkl:k<l.length
  · obtain ⟨b,o,rfl⟩:=h0 (by intro e; subst e; simp at hkl);have hco:=hc b o rfl k hkl;have hcell:wr.cell? ⟨b,o+k,none⟩=some (.int .i64 (l.getD k 0)):=by
     rw [hbw.cell (xxj hco)]; exact hco
    have hgd:l.getD k 0=l[k]:=by rw [xzo,xzh hkl]; rfl
    rw [hgd] at hcell;have hn:=hbd l[k] (x0m hkl);have ht:=xtm htab hbw;have hlen:=jw (l:=l.take k) fun x hx=>hbd x (x0u hx);rw [xz3,x1k hk] at hlen;have hil:=xa5 hn;have hcat:(⟨#[32]⟩:ByteArray)++⟨(Lib.itoa l[k]).toArray⟩=⟨(32::Lib.itoa l[k]).toArray⟩:=by
     apply ByteArray.ext;simp
    go_wp2_with (go_at_call 310; refine (Go.Proofs.Tryz.strconv_Itoa l[k] hn.1 hn.2 wr ht).mono ?_)
    rintro e W1 ⟨rfl,k1,os,rfl⟩;have hI1:Lib.IsBuilder 325 5 w.heap.size w.heap.size (Lib.byteCells (joinT (l.take k))) (grow (wr.drewN k1) os):=xln hI k1 os;have hb1:Below w.heap.size wr (grow (wr.drewN k1) os):=Lib.below_grow _ _ hsz _ _;have hs1:w.heap.size<=(grow (wr.drewN k1) os).heap.size:=x1r hsz hb1.size;generalize grow (wr.drewN k1) os=W at hI1 hb1 hs1 ⊢
    go_wp2_with (go_at_call 309; refine (Go.Proofs.Tryz.Builder_WriteString w.heap.size w.heap.size _ _ _ hI1 ?_ hs1).mono ?_)
    · rw [Lib.byteCells_length];show _+((32::Lib.itoa l[k]).toArray).size<=_;rw [x1t,xz6];omega
    · rintro e W1 ⟨rfl,h1,b1⟩;rw [Lib.strCells_toArray,<- Lib.byteCells_append] at h1;have e1:joinT (l.take k)++(32::Lib.itoa l[k])=joinT (l.take (k+1)):=by rw [xal hkl,hgd]
      rw [e1] at h1
      go_wp2
      go_roundw
      case rel=>exact ⟨k+1,by go_num,by omega,.inr h1,(hbw.trans hb1).trans b1⟩
      case measure=>simp [intOf]; omega
  · have e:k=l.length:=by omega
    subst e;rw [x1e] at hI
    go_wp2_with (go_at_call 311; refine (Go.Proofs.Tryz.Builder_String_any w.heap.size w.heap.size (joinT l) _ hI hsz).mono ?_)
    rintro e W1 ⟨rfl,b1⟩
    go_wp2
    go_ret
    exact ⟨rfl,hbw.trans b1⟩
theorem xvx {P:Program} {n:String} {g:Nat} (h:P.globalNamed n=some g):g<P.globals.size:=by
 unfold Program.globalNamed at h
 split at h
 · rename_i g' e;obtain rfl:=x0f h;have:g'∈(List.range P.globals.size).filter fun g=>(P.globals[g]?).any (·.name == n):=by rw [e]; simp
   exact List.mem_range.1 (List.mem_filter.1 this).1
 · cases h
theorem xxk {w : World} {Z : Nat → Prop} (h : GOk P w Z) : Lib.TabIs (P : Program) w "internal/strconv.uint64pow10" .u64 Lib.pow10Tab := by
 obtain ⟨w0,hf,hz⟩:=h
 have hn : (P : Program).globalNamed "internal/strconv.uint64pow10" ≠ none := by
  have e : ((P : Program).globalNamed "internal/strconv.uint64pow10").isSome = true := by kernel_rfl
  intro h; rw [h] at e; cases e
 have h0:=hf.2.1 hn;unfold Lib.TabIs World.var? at *
 cases hg : (P : Program).globalNamed "internal/strconv.uint64pow10" with
 | none=>exact absurd hg hn
 | some g =>
   rw [hg] at h0;simp only [Option.bind_some] at h0 ⊢;have hlt:g<(P:Program).globals.size:=xvx hg;rw [(hz g hlt).2];exact h0
theorem xny (l:List Int) (hl:l.length<=1000) (hbd:∀ x∈l,-9223372036854775808<=x/\x<=9223372036854775807):Sem P 295 [(.pure,.one (.sl 3 (ints l)))] [] (.one (.prim (.string ⟨(joinT l).toArray⟩))):=by
 refine xli (by refine ⟨Go.Proofs.Tryz.f295,?_,?_,?_⟩<;>kernel_rfl) (by simp) fun w Z vals hG hI hZ=>?_;obtain ⟨x,rfl,hx⟩:=xpd hI;obtain ⟨a,cap,rfl,h0,hc⟩:=xpe hx;refine (xnx l a cap w hl hbd h0 hc (xxk hG)).mono ?_;rintro e w' ⟨rfl,hb⟩;exact ⟨_,[],rfl,hb,fun Z'=>.one (.prim rfl),by simp,by simp⟩
end Go.AM
end
section
namespace Cc
open Go Go.AM
theorem qe {α β:Type} [Inhabited α] {l:List α} {g:α->β} {i:Nat} (h:i<l.length):(l.take i).map g++[g (l.getD i default)]=(l.take (i+1)).map g:=by
 rw [x14,x0q,xzh h,xzo,xzh h];rfl
theorem xp {α:Type} [Inhabited α] {l:List α} {i:Nat} (h:i<l.length):l.getD i default∈l:=by
 rw [xzo,xzh h]; exact x0m h
theorem qm (v:Nat) (hv:v<3):Sem P 236 [(.pure,I v)] [] (.agg (aF (Form.pot v))):=by
 match v,hv with
 | 0,_|1,_|2,_ =>
   refine fK [4000] Go.Proofs.Tryz.f236 fun hb=>?_;conv=>whnf
   repeat' first|((first|refine zz ?_|(refine xa ?_ ?_<;>intro _)|refine ⟨_,x6 _ _ _,?_⟩|refine ⟨_,wy,?_⟩|refine ioK (x0v rfl) ?_|refine rwC rfl ?_)<;>conv=>whnf)
   all_goals first|(rename_i h; exact absurd h (by decide))|exact ⟨rfl,rfl⟩
theorem xn1 (f:Form) (h:f.C.length<=100000/\f.D.length<=100000):Sem P 187 [(.pure,.agg (aF f))] [] (.agg (aF f)):=by
 refine fK [2002,2005] Go.Proofs.Tryz.f187 fun hb=>?_;conv=>whnf
 repeat' first|((first|refine zz ?_|(refine xa ?_ ?_<;>intro _)|refine ⟨_,yj f.C h.1,?_⟩|refine ⟨_,yj f.D h.2,?_⟩)<;>conv=>whnf)
 exact ⟨rfl,rfl⟩
def shs (l:List Form):Prop:=l.length<=100/\∀ f∈l,f.sh
theorem xv4 {f:Form} (h:f.sh):f.C.length<=100000/\f.D.length<=100000:=by obtain ⟨h1,h2⟩:=h; omega
theorem yu (l:List Form) (hl:shs l):Sem P 303 [(.pure,.one (sFs l))] [] (.one (sFs l)):=by
 have hl1:=hl.1;refine fO Go.Proofs.Tryz.f303 fun hb=>?_;conv=>whnf
 (refine zA ?_)
 refine Vc.loop1 (fun (i:Nat)=>i<=l.length) (fun i=>updL [2,6,7,18] [(8,I i),(3,.one (.ref 128000))] [(128000,.arr 115 ((l.take i).map eF) false)]) (fun i=>l.length - i) 0 (xz1 _) ?_ (fun i hi=>?_)
 · exact wk
 · have hlm:(l.map eF).length=l.length:=xzi ..;have hlo:((l.take i).map eF).length=i:=by rw [xzi,xz3]; omega
   conv=>whnf
   (refine zA ?_)
   refine xd (fun g=>?_) (fun g=>?_)
   all_goals conv=>whnf
   · repeat' first|((first|refine zz ?_|(refine xa ?_ ?_<;>intro _)|refine ixN (enc:=eF) default (by omega) ?_|refine ⟨_,xn1 (l.getD i default) (xv4 (hl.2 _ (xp (by omega)))),?_⟩)<;>conv=>whnf)|(refine apN (by first|omega|(simp; omega)) ?_;conv=>whnf)|(refine wq ?_;conv=>whnf)
     refine ⟨i+1,by omega,by simp only; omega,?_⟩
     repeat' (first|exact True.intro|((conv=>whnf);first|exact True.intro|refine ⟨by rfl,?_⟩|refine ⟨by first|omega|(show (_:Int)=_;first|omega|(dsimp only;omega))|exact qe (by omega),?_⟩|refine ⟨?_,?_⟩))
   · have hend:l.take i=l:=xzx (by omega)
     (refine zA ?_)
     exact ⟨by rw [hend],rfl⟩
theorem lin1 {f:Form} (h:f.sh):lin Form.zero f 1=f:=by
 obtain ⟨C,D,K⟩:=f;obtain ⟨a,b,c,rfl⟩:=len3 h.1;obtain ⟨d,e,rfl⟩:=len2 h.2;simp [lin,Form.zero]
theorem za (l:List Form) (hl:l.length<=100) (hb':∀ f∈l,f.bd 10000000):Sem P 267 [(.pure,.one (sFs l))] [] (.one (sFs l)):=by
 refine fO Go.Proofs.Tryz.f267 fun hb=>?_;conv=>whnf
 (refine zA ?_)
 refine Vc.loop1 (fun (i:Nat)=>i<=l.length) (fun i=>updL [0,2,21] [(4,I i),(3,.one (.ref 128000))] [(128000,.arr 115 ((l.take i).map (fun f=>eF (lin Form.zero f 1))) false)]) (fun i=>l.length - i) 0 (xz1 _) ?_ (fun i hi=>?_)
 · exact wk
 · have hlm:(l.map eF).length=l.length:=xzi ..;have hlo:((l.take i).map (fun f=>eF (lin Form.zero f 1))).length=i:=by rw [xzi,xz3]; omega
   conv=>whnf
   (refine zA ?_)
   refine xd (fun g=>?_) (fun g=>?_)
   all_goals conv=>whnf
   · repeat' first|((first|refine zz ?_|(refine xa ?_ ?_<;>intro _)|refine ixN (enc:=eF) default (by omega) ?_|refine ⟨_,z6,?_⟩|refine ⟨_,qd Form.zero (l.getD i default) 1 (xh xcs (by decide)) (hb' _ (xp (by omega))) (by decide),?_⟩)<;>conv=>whnf)|(refine apN (by first|omega|(simp; omega)) ?_;conv=>whnf)|(refine wq ?_;conv=>whnf)
     refine ⟨i+1,by omega,by simp only; omega,?_⟩
     repeat' (first|exact True.intro|((conv=>whnf);first|exact True.intro|refine ⟨by rfl,?_⟩|refine ⟨by first|omega|(show (_:Int)=_;first|omega|(dsimp only;omega))|exact qe (by omega),?_⟩|refine ⟨?_,?_⟩))
   · have hend:l.take i=l:=xzx (by omega)
     (refine zA ?_)
     exact ⟨by rw [hend]; exact congrArg (fun x=>TV.one (.sl 115 x)) (x06 fun f hf=>by rw [lin1 (hb' f hf).1]),rfl⟩
end Cc
end
section
namespace Go.AM
open Go Go.RowKit Go.Proofs
def growRen:Go.Shelf.Ren:=⟨fun|4=>307|n=>n,fun|22=>198|25=>115|n=>n,fun|n=>n⟩
theorem w4:Go.Proofs.Lays8.n4 P growRen:={
 mixed:=by kernel_rfl
 f4:=⟨Go.Proofs.Tryz.f307.name,by kernel_rfl,(show P.funcs[307]?=some Go.Proofs.Tryz.f307 by kernel_rfl).trans (congrArg some (by kernel_rfl))⟩
 t0:=Tryz.underlying0,a0:=Tryz.isAgg0,z0:=Tryz.sizeOf0,v0:=Tryz.zeroValue0
 t3:=Tryz.underlying3,a3:=Tryz.isAgg3,z3:=Tryz.sizeOf3,v3:=Tryz.zeroValue3
 t4:=Tryz.underlying4,a4:=Tryz.isAgg4,z4:=Tryz.sizeOf4,v4:=Tryz.zeroValue4
 t9:=Tryz.underlying9,a9:=Tryz.isAgg9,z9:=Tryz.sizeOf9,v9:=Tryz.zeroValue9
 t20:=Tryz.underlying20,a20:=Tryz.isAgg20,z20:=Tryz.sizeOf20,v20:=Tryz.zeroValue20
 t22:=Tryz.underlying198,a22:=Tryz.isAgg198,z22:=Tryz.sizeOf198,v22:=Tryz.zeroValue198 }
theorem xhu:(P:Program).cellsOf 115=3:=by kernel_rfl
theorem xpr {w:World} {Z:Nat->Prop} {v:Value} (ho:w.ownsRow 0 115 3 v 0 []):Ow P w Z (.sl 115 []) v v.ownBlock.toList:=by
 have h:Ow P w Z (.sl 115 []) v (v.ownBlock.toList++([]:List (List Nat)).flatten) :=
  .sl (cells:=[]) (by simp) (by simp) (by rw [xhu]; exact ho) rfl (by simp)
 simpa using h
theorem xn4 {w:World} {Z:Nat->Prop} {x:Value} {f:List Nat} (h:Ow P w Z (.sl 115 []) x f):f=x.ownBlock.toList/\w.ownsRow 0 115 3 x 0 []:=by
 cases h with
 | sl hm hw ho hf hr =>
   rename_i cells fs;rw [xhu] at ho;have h0:cells=[]:=x0k (by simpa using ho.1);subst h0;have h1:fs=[]:=x0k hf;subst h1;exact ⟨by simp,ho⟩
theorem xv6 {w:World} {Z:Nat->Prop} {io:Option Io} {a b:AV} {vals:List Value} {fin:List Nat} (h:InsR P w Z io [(.own,.one a),(.pure,.one b)] vals fin):∃ x y f,vals=[x,y]/\fin=f/\Ow P w Z a x f/\Rd P w Z b y:=by
 cases h with
 | cons h t =>
   cases t with
   | cons h2 t2 =>
     cases t2
     cases h2 with
     | pone h2 =>
       cases h with
       | oone h=>exact ⟨_,_,_,rfl,by simp,h,h2⟩
theorem xq7 (n:Nat) (hn:n<=100000):Sem P 307 [(.own,.one (.sl 115 [])),(.pure,I n)] [] (.one (.sl 115 [])):=by
 refine ⟨by refine ⟨Go.Proofs.Tryz.f307,?_,?_,?_⟩<;>kernel_rfl,fun w Z io vals fin hG hI hio hnd hfin hZ=>?_⟩;have hio:io=none:=by
  rcases hio with h|⟨lo,hi,v,hm⟩
  · exact h
  · simp at hm
 subst hio;obtain ⟨x,y,f,rfl,rfl,hx,hy⟩:=xv6 hI;obtain ⟨rfl,ho⟩:=xn4 hx;cases hy;have room:∀ {e:Ending} {w':World},e=.returned x/\w'=w->∃ v,e=.returned v/\Post P w Z none [(.own,.one (.sl 115 [])),(.pure,I n)] [x,.int .i64 n] x.ownBlock.toList [] (.one (.sl 115 [])) v w':=by
  rintro e w' ⟨rfl,rfl⟩;refine ⟨x,rfl,Z,x.ownBlock.toList,[],⟨rfl,rfl,rfl,x0r _,fun _ _ _ _=>rfl,fun i hi=>by cases hi⟩,fun b h=>h,fun b h=>⟨.inl h,(hZ b h).1,fun i hi=>by cases hi⟩,.one (xpr ho),.own (.pure .nil),by simpa using xda _,fun b hb=>?_⟩;have hb':b∈x.ownBlock.toList:=by simpa using hb
  exact ⟨.inl hb',(hfin b hb').1,(hfin b hb').2.1,fun i hi=>by cases hi⟩
 have fresh:∀ (c:Nat) (cells:Array Value) (cap:Nat),cells.size=cap*3->cap<=maxLen->∀ {e:Ending} {w':World},e=.returned (.slice (some ⟨w.heap.size,0,none⟩) 0 cap)/\w'=w.drew.alloc (.cells cells 115)->∃ v,e=.returned v/\Post P w Z none [(.own,.one (.sl 115 [])),(.pure,I n)] [x,.int .i64 n] x.ownBlock.toList [] (.one (.sl 115 [])) v w':=by
  rintro c cells cap hs hm e w' ⟨rfl,rfl⟩;have hB:Below w.heap.size w (w.drew.alloc (.cells cells 115)):=(Below.refl _ w).drew.alloc (x0r _) _;have ho':=World.ownsRow_made (base:=0) (e:=115) (size:=3) w.drew cells cap (xz1 _) hm hs;refine ⟨_,rfl,Z,[w.heap.size],[],⟨hB.os,hB.tape,hB.output,hB.size,fun k hk _ _=>hB.block k hk,fun i hi=>by cases hi⟩,fun b h=>h,fun b h=>⟨.inl h,x1c (hZ b h).1 hB.size,fun i hi=>by cases hi⟩,.one (xpr ho'),.own (.pure .nil),by simp,fun b hb=>?_⟩;have hb':b=w.heap.size:=by simpa using hb
  subst hb';exact ⟨.inr (x0r _),by have:=heap_alloc_new w.drew (.cells cells 115); exact (x0t.1 this).1,fun hz=>absurd (hZ _ hz).1 (Nat.lt_irrefl _),fun i hi=>by cases hi⟩
 by_cases h0:n=0
 · subst h0;rcases ho.2 with ⟨rfl,_⟩|⟨g,cap,cur,rfl,h1,h2,h3,h4,h5,h6⟩
   · exact (Any8.slices_Grow_room w4 none 0 0 0 w (by decide) (by decide) (by decide) (by decide)).mono fun e w' h=>room h
   · exact (Any8.slices_Grow_room w4 _ 0 cap 0 w (xz1 _) (by
      have:maxLen=9223372036854775807:=by decide
      omega) (by decide) (xz1 _)).mono fun e w' h=>room h
 · have hml:maxLen=9223372036854775807:=by decide
   have hinfo:(P.info? 115).map (fun i=>(i.zero.map (fun z=>z.cells.size),i.size,i.bytes))=some (some 3,3,56):=by kernel_rfl
   obtain ⟨i0,hi0,hinfo⟩:=xz0.1 hinfo;simp only [x25] at hinfo;obtain ⟨hz,hs0,hb0⟩:=hinfo;obtain ⟨z,hz0,hz3⟩:=xz0.1 hz;have hge:∀ c,n<=grownCap w (0+n) c 115:=fun c=>by have:=grownCap_ge w (0+n) c 115; omega
   have hle:∀ c,grownCap w (0+n) c 115<=maxLen:=fun c=>grownCap_le_maxLen w (0+n) c 115 (by omega);have hzc:∀ k,(Builtin.zeroCells z.cells k).size=k*3:=fun k=>by simp [Builtin.zeroCells,hz3]
   rcases ho.2 with ⟨rfl,_⟩|⟨g,cap,cur,rfl,h1,h2,h3,h4,h5,h6⟩
   · refine (Any8.slices_Grow_grow w4 i0 z hi0 hz0 (by omega) none 0 0 n [] w (by decide) (by omega) (by rw [hb0]; omega) (by omega) (by simp) (fun _=>rfl) (by intro a h; cases h)).mono fun e w' h=>fresh 0 _ _ ?_ (hle 0) h;simp only [x3w,hzc,x1t,xz4];have:=hge 0;show 0+(0+n - 0)*3+(grownCap w (0+n) 0 115 - (0+n))*3=grownCap w (0+n) 0 115*3;omega
   · by_cases hc:n<=cap
     · exact (Any8.slices_Grow_room w4 _ 0 cap n w (xz1 _) (by omega) (by omega) (by omega)).mono fun e w' h=>room h
     · refine (Any8.slices_Grow_grow w4 i0 z hi0 hz0 (by omega) (some ⟨g,0,none⟩) 0 cap n cur.toList w (by omega) (by omega) (by rw [hb0]; omega) (by omega) (by simp [h5,hs0]) (by intro h; cases h) (by
        rintro a rfl' j v hj;cases rfl';have e:(⟨g,0,none⟩:Addr).add j=⟨g,j,none⟩:=by cases j<;>simp [Addr.add]
        rw [e];simp only [World.cell?,h2]
        simpa using hj)).mono fun e w' h=>fresh 0 _ _ ?_ (hle cap) h
       simp only [x3w,hzc,x1s,h5];have:=hge cap;show cap*3+(0+n - cap)*3+(grownCap w (0+n) cap 115 - (0+n))*3=grownCap w (0+n) cap 115*3;omega
end Go.AM
end
section
namespace Cc
open Go Go.AM
theorem xbj:Sem P 16 [] [] (B true):=by
 refine fO Go.Proofs.Tryz.f16 fun hb=>?_;conv=>whnf
 repeat' first|((first|refine zz ?_|(refine xa ?_ ?_<;>intro _)|refine ⟨_,wy,?_⟩|refine ⟨_,zr Form.zero,?_⟩)<;>conv=>whnf)
 exact rB rfl
end Cc
end
