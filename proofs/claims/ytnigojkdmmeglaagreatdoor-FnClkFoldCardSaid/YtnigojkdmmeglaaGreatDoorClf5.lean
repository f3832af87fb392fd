/- The law FnClkFold: part 5 of 35. No conditions beyond the statement. -/
import Derived.Lib.AppendIntMem
import Derived.BigCall
import Derived.Shelf.Spec.SlicesGrow
import Derived.Test.YtnigojkdmmeglaaGreatDoorClf4
set_option linter.unusedVariables false
set_option linter.unusedSimpArgs false
set_option maxRecDepth 100000
set_option maxHeartbeats 16000000
section
namespace Cc
open Go Go.AM
def nums (l:List Int) (n:Nat):Prop:=l.length=n/\∀ x∈l,-10000000000<=x/\x<=10000000000
theorem nums3 {l:List Int} (h:nums l 3):∃ a b c,l=[a,b,c]/\(-10000000000<=a/\a<=10000000000)/\(-10000000000<=b/\b<=10000000000)/\(-10000000000<=c/\c<=10000000000):=by
 obtain ⟨a,b,c,rfl⟩:=len3 h.1;exact ⟨a,b,c,rfl,h.2 a (by simp),h.2 b (by simp),h.2 c (by simp)⟩
theorem nums2 {l:List Int} (h:nums l 2):∃ a b,l=[a,b]/\(-10000000000<=a/\a<=10000000000)/\(-10000000000<=b/\b<=10000000000):=by
 obtain ⟨a,b,rfl⟩:=len2 h.1;exact ⟨a,b,rfl,h.2 a (by simp),h.2 b (by simp)⟩
theorem qt (f:Form) (vals args:List Int) (hf:f.bd 10000000) (hv:nums vals 3) (ha:nums args 2):Sem P 220 [(.pure,.agg (aF f)),(.pure,AI vals),(.pure,AI args)] [] (I (f.at vals args)):=by
 obtain ⟨a,b,c,d,e,k,rfl,h1,h2,h3,h4,h5,h6⟩:=bdE hf;obtain ⟨x,y,z,rfl,v1,v2,v3⟩:=nums3 hv;obtain ⟨g,h,rfl,w1,w2⟩:=nums2 ha;have p1:=xj h1 v1;have p2:=xj h2 v2;have p3:=xj h3 v3;have p4:=xj h4 w1;have p5:=xj h5 w2;refine fO Go.Proofs.Tryz.f220 fun hb=>?_;conv=>whnf
 (refine zA ?_)
 refine Vc.loop2 (fun i n=>i<=3/\n=match i with|0=>k|1=>k+a*x|2=>k+a*x+b*y|_=>k+a*x+b*y+c*z) (fun i n=>updL [1,2,3,6,9,28,29,30,31,32,33,34,35,36,37,38,39,40,41,42,43,44] [(8,I (i:Nat)),(7,I n)] []) (fun i _=>3 - i) 0 k ⟨by omega,rfl⟩ ?_ (fun i n hi=>?_)
 · exact wl
 · obtain ⟨hi,hn⟩:=hi
   match i,hi with
   | 0,_ =>
     simp only at hn;conv=>whnf
     repeat' first|((first|refine zz ?_|(refine xa ?_ ?_<;>intro _)|refine ixK rfl ?_|refine wq ?_)<;>conv=>whnf)
     refine ⟨1,n+a*x,⟨by omega,by simp only; omega⟩,by simp only; omega,?_⟩;exact wl
   | 1,_ =>
     simp only at hn;conv=>whnf
     repeat' first|((first|refine zz ?_|(refine xa ?_ ?_<;>intro _)|refine ixK rfl ?_|refine wq ?_)<;>conv=>whnf)
     refine ⟨2,n+b*y,⟨by omega,by simp only; omega⟩,by simp only; omega,?_⟩;exact wl
   | 2,_ =>
     simp only at hn;conv=>whnf
     repeat' first|((first|refine zz ?_|(refine xa ?_ ?_<;>intro _)|refine ixK rfl ?_|refine wq ?_)<;>conv=>whnf)
     refine ⟨3,n+c*z,⟨by omega,by simp only; omega⟩,by simp only; omega,?_⟩;exact wl
   | 3,_ =>
     simp only at hn;conv=>whnf
     (refine zA ?_)
     refine Vc.loop2 (fun i m=>i<=2/\m=match i with|0=>n|1=>n+d*g|_=>n+d*g+e*h) (fun i m=>updL [2,3,6,44] [(9,I (i:Nat)),(7,I m)] []) (fun i _=>2 - i) 0 n ⟨by omega,rfl⟩ ?_ (fun i m hi=>?_)
     · exact wl
     · obtain ⟨hi,hm⟩:=hi
       match i,hi with
       | 0,_ =>
         simp only at hm;conv=>whnf
         repeat' first|((first|refine zz ?_|(refine xa ?_ ?_<;>intro _)|refine ixK rfl ?_|refine wq ?_)<;>conv=>whnf)
         refine ⟨1,m+d*g,⟨by omega,by simp only; omega⟩,by simp only; omega,?_⟩;exact wl
       | 1,_ =>
         simp only at hm;conv=>whnf
         repeat' first|((first|refine zz ?_|(refine xa ?_ ?_<;>intro _)|refine ixK rfl ?_|refine wq ?_)<;>conv=>whnf)
         refine ⟨2,m+e*h,⟨by omega,by simp only; omega⟩,by simp only; omega,?_⟩;exact wl
       | 2,_ =>
         simp only at hm;conv=>whnf
         (refine zA ?_)
         exact rI' (by simp only [Form.at,dot]; omega)
theorem za (v:Nat) (hv:v<3):Sem P 139 [(.pure,I v)] [] (.agg (aF (Form.pot v))):=by
 match v,hv with
 | 0,_|1,_|2,_ =>
   refine fK [4000] Go.Proofs.Tryz.f139 fun hb=>?_;conv=>whnf
   repeat' first|((first|refine zz ?_|(refine xa ?_ ?_<;>intro _)|refine ⟨_,xi _ _ _,?_⟩|refine ⟨_,zr,?_⟩|refine ioK (xy5 rfl) ?_|refine rwC rfl ?_)<;>conv=>whnf)
   all_goals first|(rename_i h; exact absurd h (by decide))|exact ⟨rfl,rfl⟩
theorem z8 (f g:Form) (n:Int) (hf:f.bd 1000000000000000) (hg:g.bd 10000000) (hn : -10000000000<=n/\n<=10000000000):Sem P 270 [(.pure,.agg (aF f)),(.pure,.agg (aF g)),(.pure,I n)] [] (.agg (aF (lin f g n))):=by
 obtain ⟨a,b,c,d,e,k,rfl,h1,h2,h3,h4,h5,h6⟩:=bdE hf;obtain ⟨a',b',c',d',e',k',rfl,g1,g2,g3,g4,g5,g6⟩:=bdE hg;have p1:=xj hn g1;have p2:=xj hn g2;have p3:=xj hn g3;have p4:=xj hn g4;have p5:=xj hn g5;have p6:=xj hn g6;refine fK [2000] Go.Proofs.Tryz.f270 fun hb=>?_;conv=>whnf
 repeat' first|((first|refine zz ?_|(refine xa ?_ ?_<;>intro _)|refine ⟨_,zr,?_⟩)<;>conv=>whnf)
 refine Vc.loop2 (fun i l=>i<=3/\l=match i with|0=>[0,0,0]|1=>[a+n*a',0,0]|2=>[a+n*a',b+n*b',0]|_=>[a+n*a',b+n*b',c+n*c']) (fun i l=>updL [2,3,4,6,7,9,32,33,34,35,36,37,38,39,40,41,42,43,44,45,46,47,48,49,50,51,52,53,54,55,56,57,58,59,60,61] [(8,I (i:Nat))] [(128000,.arr 3 (ints l) false)]) (fun i _=>3 - i) 0 [0,0,0] ⟨by omega,rfl⟩ ?_ (fun i l hi=>?_)
 · exact wl
 · obtain ⟨hi,hl⟩:=hi
   match i,hi with
   | 0,_ =>
     simp only at hl; subst hl;conv=>whnf
     repeat' first|((first|refine zz ?_|(refine xa ?_ ?_<;>intro _)|refine ixK rfl ?_|refine wq ?_|refine ioK (xy5 rfl) ?_|refine rwC rfl ?_)<;>conv=>whnf)
     refine ⟨1,[a+n*a',0,0],⟨by omega,rfl⟩,by simp only; omega,?_⟩;exact wl
   | 1,_ =>
     simp only at hl; subst hl;conv=>whnf
     repeat' first|((first|refine zz ?_|(refine xa ?_ ?_<;>intro _)|refine ixK rfl ?_|refine wq ?_|refine ioK (xy5 rfl) ?_|refine rwC rfl ?_)<;>conv=>whnf)
     refine ⟨2,[a+n*a',b+n*b',0],⟨by omega,rfl⟩,by simp only; omega,?_⟩;exact wl
   | 2,_ =>
     simp only at hl; subst hl;conv=>whnf
     repeat' first|((first|refine zz ?_|(refine xa ?_ ?_<;>intro _)|refine ixK rfl ?_|refine wq ?_|refine ioK (xy5 rfl) ?_|refine rwC rfl ?_)<;>conv=>whnf)
     refine ⟨3,[a+n*a',b+n*b',c+n*c'],⟨by omega,rfl⟩,by simp only; omega,?_⟩;exact wl
   | 3,_ =>
     simp only at hl; subst hl;conv=>whnf
     (refine zA ?_)
     refine Vc.loop2 (fun i l=>i<=2/\l=match i with|0=>[0,0]|1=>[d+n*d',0]|_=>[d+n*d',e+n*e']) (fun i l=>updL [2,3,4,6,7,53,54,55,56,57,58,59,60,61] [(9,I (i:Nat))] [(128001,.arr 3 (ints l) false)]) (fun i _=>2 - i) 0 [0,0] ⟨by omega,rfl⟩ ?_ (fun i l hi=>?_)
     · exact wl
     · obtain ⟨hi,hl⟩:=hi
       match i,hi with
       | 0,_ =>
         simp only at hl; subst hl;conv=>whnf
         repeat' first|((first|refine zz ?_|(refine xa ?_ ?_<;>intro _)|refine ixK rfl ?_|refine wq ?_|refine ioK (xy5 rfl) ?_|refine rwC rfl ?_)<;>conv=>whnf)
         refine ⟨1,[d+n*d',0],⟨by omega,rfl⟩,by simp only; omega,?_⟩;exact wl
       | 1,_ =>
         simp only at hl; subst hl;conv=>whnf
         repeat' first|((first|refine zz ?_|(refine xa ?_ ?_<;>intro _)|refine ixK rfl ?_|refine wq ?_|refine ioK (xy5 rfl) ?_|refine rwC rfl ?_)<;>conv=>whnf)
         refine ⟨2,[d+n*d',e+n*e'],⟨by omega,rfl⟩,by simp only; omega,?_⟩;exact wl
       | 2,_ =>
         simp only at hl; subst hl;conv=>whnf
         repeat' first|((first|refine zz ?_|(refine xa ?_ ?_<;>intro _))<;>conv=>whnf)|(refine w64 (by dsimp only; omega) (by dsimp only; omega) ?_;conv=>whnf)
         exact ⟨rfl,rfl⟩
theorem xb2:Form.zero.bd 0:=⟨⟨rfl,rfl⟩,by simp [Form.zero],by simp [Form.zero],by decide,by decide⟩
theorem xpe (f:Form) (hf:f.bd 10000000):Sem P 269 [(.pure,.agg (aF f))] [] (.agg (aF (minus f))):=by
 have h:=hf.2.2.2;refine fK [2002] Go.Proofs.Tryz.f269 fun hb=>?_;conv=>whnf
 repeat' first|((first|refine zz ?_|(refine xa ?_ ?_<;>intro _)|refine ⟨_,zr,?_⟩|refine ⟨_,z8 Form.zero f (-1) (xf xb2 (by decide)) hf (by decide),?_⟩)<;>conv=>whnf)|(refine w64 (by simp only [lin,Form.zero]; omega) (by simp only [lin,Form.zero]; omega) ?_;conv=>whnf)
 exact ⟨rfl,rfl⟩
theorem xka (f:Form):f=Form.nil↔f.C=[]/\f.D=[]/\f.K=0:=by
 obtain ⟨C,D,K⟩:=f;simp [Form.nil]
theorem xkb {l:List Int}:(ints l).length=0↔l=[]:=by simp
theorem xrv (l:Line):Sem P 266 [(.pure,.agg (aL l))] [] (B l.ok):=by
 refine fO Go.Proofs.Tryz.f266 fun hb=>?_;have hb1:(ints l.Form.C).length<=1125899906842624:=(hb.1 (sI l.Form.C) (by simp)).1;have hb2:(ints l.Form.D).length<=1125899906842624:=(hb.1 (sI l.Form.D) (by simp)).1;conv=>whnf
 repeat' first|((first|refine zz ?_|(refine xa ?_ ?_<;>intro _)|refine ⟨_,xi _ _ _,?_⟩|refine ⟨_,xpc l.Form,?_⟩|refine wq ?_)<;>conv=>whnf)
 all_goals first
  | (refine rB ?_; simp_all [Line.ok,xka]; done)
  | (rename_i h
     refine rB ?_;by_cases hl:((ints l.Form.C).length:Int)+(ints l.Form.D).length=0
     · have c:=xkb.1 (show (ints l.Form.C).length=0 by omega);have d:=xkb.1 (show (ints l.Form.D).length=0 by omega);by_cases k:l.Form.K=0<;>simp_all [Line.ok,xka]
     · have h':l.Form≠Form.nil:=fun e=>hl (by rw [e]; rfl)
       simp_all [Line.ok])
theorem xnq (a b:List Int):Sem P 273 [(.pure,AI a),(.pure,AI b)] [] (B (decide (a=b))):=by
 refine fO Go.Proofs.Tryz.f273 fun hb=>?_;have la:=xb a;have lb:=xb b;have hb1:(ints a).length<=1125899906842624:=hb.1.1;conv=>whnf
 (refine zA ?_)
 refine xa (fun h=>?_) (fun h=>?_)
 all_goals conv=>whnf
 all_goals (refine zA ?_)
 · exact rB (by have:=yt h; symm; simp; intro e; subst e; simp at this)
 · have h:=yu h;refine Vc.loop { i:Nat // ∀ j,j<i->a.getD j 0=b.getD j 0 } (fun i=>updL [0,1,12] [(13,I i.1)] []) (fun i=>a.length - i.1) ⟨0,by simp⟩ ?_ (fun i=>?_)
   · exact wl
   · have hi:=i.2;conv=>whnf
     (refine zA ?_)
     refine xd (fun g=>?_) (fun g=>?_)
     all_goals conv=>whnf
     · repeat' first|((first|refine zz ?_|(refine xa ?_ ?_<;>intro _)|refine ixN (enc:=rI) 0 (by omega) ?_|refine wq ?_)<;>conv=>whnf)
       · rename_i g';exact rB (by have:=yt g'; symm; simp; intro e; subst e; simp at this)
       · rename_i g';have e:=yu g';refine ⟨⟨i.1+1,fun j hj=>?_⟩,?_,?_⟩
         · by_cases h:j<i.1
           · exact hi j h
           · obtain rfl:j=i.1:=by omega
             exact e
         · simp only; omega
         · exact wl
     ·
      (refine zA ?_)
      exact rB (by symm; simp; exact jh 0 (by omega) fun j hj=>hi j (by omega))
theorem xrw (f g:Form):Sem P 227 [(.pure,.agg (aF f)),(.pure,.agg (aF g))] [] (B (decide (f=g))):=by
 refine fO Go.Proofs.Tryz.f227 fun hb=>?_;conv=>whnf
 repeat' first|((first|refine zz ?_|(refine xa ?_ ?_<;>intro _)|refine ⟨_,xnq _ _,?_⟩)<;>conv=>whnf)
 all_goals exact rB (by obtain ⟨C,D,K⟩:=f; obtain ⟨C',D',K'⟩:=g; simp_all)
theorem xrx (l:Line):Sem P 151 [(.pure,.agg (aL l))] [] (B l.ok):=by
 refine fO Go.Proofs.Tryz.f151 fun hb=>?_;conv=>whnf
 repeat' first|((first|refine zz ?_|(refine xa ?_ ?_<;>intro _)|refine ⟨_,yc _ _ _,?_⟩|refine ⟨_,xpd l.Form,?_⟩|refine ⟨_,xrw l.Form Form.nil,?_⟩)<;>conv=>whnf)
 all_goals exact rB (by simp_all [Line.ok])
theorem xgp {act:List Line} {i:Nat} (h:i<act.length):tests (act.take (i+1))=tests (act.take i)+if (act.getD i default).Kind=1 then 1 else 0:=by
 rw [x0f,tests,tests,x0m,xxx,xxr h];by_cases k:(act[i]).Kind=1<;>simp [k]
theorem qp (act:List Line):Sem P 219 [(.pure,.one (sLs act))] [] (B (actOk act)):=by
 refine fO Go.Proofs.Tryz.f219 fun hb=>?_;have la:(act.map eL).length=act.length:=xxs ..;have hb1:(act.map eL).length<=1125899906842624:=hb.1.1;conv=>whnf
 (refine zA ?_)
 refine Vc.loop2 (fun (i:Nat) (n:Nat)=>i<=act.length/\n<=i/\n=tests (act.take i)/\∀ j,j<i->(act.getD j default).ok=true) (fun i n=>updL [0,25,26,27,28,29,30,31] [(4,I i),(3,I n)] []) (fun i _=>act.length - i) 0 0 ⟨by omega,by omega,rfl,by simp⟩ ?_ (fun i n hi=>?_)
 · exact wl
 · obtain ⟨hi,hn,ht,ho⟩:=hi;conv=>whnf
   (refine zA ?_)
   refine xd (fun g=>?_) (fun g=>?_)
   all_goals conv=>whnf
   · have ts:=xgp (act:=act) (i:=i) (by omega)
     repeat' first|((first|refine zz ?_|(refine xa ?_ ?_<;>intro _)|refine ixN (enc:=eL) default (by omega) ?_|refine ⟨_,xrv (act.getD i default),?_⟩|refine wq ?_)<;>conv=>whnf)
     · rename_i h;exact rB (by symm; simp only [actOk,x1p]; exact .inl (.inl (zw default (j:=i) (by omega) (by simpa using h))))
     · rename_i h k;have k:(act.getD i default).Kind=1:=by simpa using k
       rw [if_pos k] at ts;refine ⟨i+1,n+1,⟨by omega,by omega,by omega,fun j hj=>?_⟩,by simp only; omega,?_⟩
       · by_cases h':j<i
         · exact ho j h'
         · obtain rfl:j=i:=by omega
           simpa using h
       · exact wl
     · rename_i h k;have k:¬ (act.getD i default).Kind=1:=by simpa using k
       rw [if_neg k] at ts;refine ⟨i+1,n,⟨by omega,by omega,by omega,fun j hj=>?_⟩,by simp only; omega,?_⟩
       · by_cases h':j<i
         · exact ho j h'
         · obtain rfl:j=i:=by omega
           simpa using h
       · exact wl
   · have e:i=act.length:=by omega
     subst e;rw [xzo] at ht;have hall:act.all Line.ok=true:=zu default ho
     (refine zA ?_)
     all_goals (refine xa (fun g1=>?_) (fun g1=>?_)<;>conv=>whnf)
     all_goals (refine zA ?_)
     all_goals exact rB (by rw [x0b]; simp only [actOk,hall,xzq]; simp at g1; simp [<- ht]; omega)
theorem jt (act:List Line):Sem P 64 [(.pure,.one (sLs act))] [] (B (actOk act)):=by
 refine fO Go.Proofs.Tryz.f64 fun hb=>?_;have la:(act.map eL).length=act.length:=xxs ..;have hb1:(act.map eL).length<=1125899906842624:=hb.1.1;conv=>whnf
 (refine zA ?_)
 refine Vc.loop2 (fun (i:Nat) (n:Nat)=>i<=act.length/\n<=i/\n=tests (act.take i)/\∀ j,j<i->(act.getD j default).ok=true) (fun i n=>updL [0,6,7,21,22,23,24,25,26,27] [(8,I i),(3,I n)] []) (fun i _=>act.length - i) 0 0 ⟨by omega,by omega,rfl,by simp⟩ ?_ (fun i n hi=>?_)
 · exact wl
 · obtain ⟨hi,hn,ht,ho⟩:=hi;conv=>whnf
   (refine zA ?_)
   refine xd (fun g=>?_) (fun g=>?_)
   all_goals conv=>whnf
   · have ts:=xgp (act:=act) (i:=i) (by omega)
     repeat' first|((first|refine zz ?_|(refine xa ?_ ?_<;>intro _)|refine ixN (enc:=eL) default (by omega) ?_|refine ⟨_,xrx (act.getD i default),?_⟩|refine wq ?_)<;>conv=>whnf)
     · rename_i h;exact rB (by symm; simp only [actOk,x1p]; exact .inl (.inl (zw default (j:=i) (by omega) (by simpa using h))))
     · rename_i h k;have k:(act.getD i default).Kind=1:=by simpa using k
       rw [if_pos k] at ts;refine ⟨i+1,n+1,⟨by omega,by omega,by omega,fun j hj=>?_⟩,by simp only; omega,?_⟩
       · by_cases h':j<i
         · exact ho j h'
         · obtain rfl:j=i:=by omega
           simpa using h
       · exact wl
     · rename_i h k;have k:¬ (act.getD i default).Kind=1:=by simpa using k
       rw [if_neg k] at ts;refine ⟨i+1,n,⟨by omega,by omega,by omega,fun j hj=>?_⟩,by simp only; omega,?_⟩
       · by_cases h':j<i
         · exact ho j h'
         · obtain rfl:j=i:=by omega
           simpa using h
       · exact wl
   · have e:i=act.length:=by omega
     subst e;rw [xzo] at ht;have hall:act.all Line.ok=true:=zu default ho
     (refine zA ?_)
     all_goals (refine xa (fun g1=>?_) (fun g1=>?_)<;>conv=>whnf)
     all_goals (refine zA ?_)
     all_goals exact rB (by rw [x0b]; simp only [actOk,hall,xzq]; simp at g1; simp [<- ht]; omega)
end Cc
end
section
namespace Go.AM
open Go Go.RowKit Go.Sort
def joinT (l:List Int):List UInt8:=l.flatMap fun n=>32::Lib.itoa n
theorem wu {l:List Int} {k:Nat} (h:k<l.length):joinT (l.take (k+1))=joinT (l.take k)++(32::Lib.itoa (l.getD k 0)):=by
 rw [joinT,joinT,x0f,xzk,xxx,xxr h];simp
theorem vl:∀ (k:Nat) {u:Nat},u<10 ^ (k+1)->Lib.nDigits u<=k+1
 | 0,u,h=>by rw [Lib.nDigits_small (by simpa using h)]; exact xy3 _
 | k+1,u,h=>by
   by_cases h':u<10
   · rw [Lib.nDigits_small h']; omega
   · rw [Lib.nDigits_big h'];have:=vl k (u:=u / 10) (by rw [Nat.pow_succ] at h; omega);omega
theorem xal {n:Int} (h : -9223372036854775808<=n/\n<=9223372036854775807):(Lib.itoa n).length<=21:=by
 unfold Lib.itoa
 split
 · rw [xyg,Lib.decDigits_length];have:=vl 19 (u:=n.natAbs) (by omega);omega
 · rw [Lib.decDigits_length];have:=vl 19 (u:=n.toNat) (by omega);omega
theorem jk:∀ {l:List Int},(∀ x∈l,-9223372036854775808<=x/\x<=9223372036854775807)->(joinT l).length<=l.length*22
 | [],_=>by simp [joinT]
 | a::r,h=>by
   have h1:=xal (h a (by simp));have h2:=jk (l:=r) fun x hx=>h x (by simp [hx]);have e:joinT (a::r)=(32::Lib.itoa a)++joinT r:=rfl;rw [e,xx3,xyg,xyg];omega
theorem xr0 {w wr : World} (h : Lib.TabIs (P : Program) w "internal/strconv.uint64pow10" .u64 Lib.pow10Tab) (hb : Below w.heap.size w wr) : Lib.TabIs (P : Program) wr "internal/strconv.uint64pow10" .u64 Lib.pow10Tab := by
 unfold Lib.TabIs World.var? at *
 cases hg : (P : Program).globalNamed "internal/strconv.uint64pow10" with
 | none=>rw [hg] at h; cases h
 | some g =>
   rw [hg] at h;simp only [Option.bind_some] at h ⊢;have hlt:g<w.heap.size:=by
    by_cases hlt:g<w.heap.size
    · exact hlt
    · rw [x1f (by omega)] at h; cases h
   rw [hb.block g hlt];exact h
theorem xv0 {w:World} {p:Addr} {v:Value} (h:w.cell? p=some v):p.block<w.heap.size:=by
 by_cases hlt:p.block<w.heap.size
 · exact hlt
 · unfold World.cell? at h;rw [x1f (by omega)] at h;cases h
theorem xki {B b:Nat} {bs:List Value} {w:World} {T e:TypeId} (h:Lib.IsBuilder T e B b bs w) (k:Nat) (os:Array Obj):Lib.IsBuilder T e B b bs (Go.Sort.grow (w.drewN k) os):=by
 have key:∀ {p:Value},Lib.BuilderAt T e B b p bs w->Lib.BuilderAt T e B b p bs (Go.Sort.grow (w.drewN k) os):=by
  intro p h;have hlt:=h.lt;obtain ⟨h1,v,h2,h3,h4⟩:=h;exact ⟨h1,v,by rw [Lib.heap_grow_old w k os b hlt]; exact h2,Lib.ownsRow_grow h3 k os,h4⟩
 rcases h with h|h
 · exact .inl (key h)
 · exact .inr (key h)
set_option maxHeartbeats 4000000 in
set_option maxRecDepth 1000000 in
theorem xmm (l:List Int) (a:Option Addr) (cap:Nat) (w:World) (hl:l.length<=1000) (hbd:∀ x∈l,-9223372036854775808<=x/\x<=9223372036854775807) (h0:l≠[]->∃ b o,a=some ⟨b,o,none⟩) (hc:∀ b o,a=some ⟨b,o,none⟩->∀ j,j<l.length->w.cell? ⟨b,o+j,none⟩=some (.int .i64 (l.getD j 0)))
 (htab : Lib.TabIs (P : Program) w "internal/strconv.uint64pow10" .u64 Lib.pow10Tab) :
 Calls Go.Proofs.Tryz.prog 295 #[.slice a l.length cap] w fun e w'=>e=.returned (.string ⟨(joinT l).toArray⟩)/\Below w.heap.size w w':=by
 go_enter Go.Proofs.Tryz.func295,Go.Proofs.Tryz.ntmps295
 go_wp2
 go_loopw [8] (fun i wr=>∃ k:Nat,i=.int .i64 k/\k<=l.length/\Lib.IsBuilder 325 5 w.heap.size w.heap.size (Lib.byteCells (joinT (l.take k))) wr/\Below w.heap.size w wr) (fun i _=>l.length - (intOf i).toNat)
 case atStart =>
  exact ⟨0,rfl,xyb _,Lib.fresh_isBuilder 325 5 w,(Below.refl _ w).alloc (xy3 _) _⟩
 case round =>
  obtain ⟨k,rfl,hk,hI,hbw⟩:=hrel;have hsz:w.heap.size<=wr.heap.size:=hbw.size;by_cases hkl:k<l.length
  · obtain ⟨b,o,rfl⟩:=h0 (by intro e; subst e; simp at hkl);have hco:=hc b o rfl k hkl;have hcell:wr.cell? ⟨b,o+k,none⟩=some (.int .i64 (l.getD k 0)):=by
     rw [hbw.cell (xv0 hco)]; exact hco
    have hgd:l.getD k 0=l[k]:=by rw [xxx,xxr hkl]; rfl
    rw [hgd] at hcell;have hn:=hbd l[k] (xyy hkl);have ht:=xr0 htab hbw;have hlen:=jk (l:=l.take k) fun x hx=>hbd x (xy4 hx);rw [xyc,xzs hk] at hlen;have hil:=xal hn;have hcat:(⟨#[32]⟩:ByteArray)++⟨(Lib.itoa l[k]).toArray⟩=⟨(32::Lib.itoa l[k]).toArray⟩:=by
     apply ByteArray.ext;simp
    go_wp2_with (go_at_call 310; refine (Go.Proofs.Tryz.strconv_Itoa l[k] hn.1 hn.2 wr ht).mono ?_)
    rintro e W1 ⟨rfl,k1,os,rfl⟩;have hI1:Lib.IsBuilder 325 5 w.heap.size w.heap.size (Lib.byteCells (joinT (l.take k))) (grow (wr.drewN k1) os):=xki hI k1 os;have hb1:Below w.heap.size wr (grow (wr.drewN k1) os):=Lib.below_grow _ _ hsz _ _;have hs1:w.heap.size<=(grow (wr.drewN k1) os).heap.size:=xz1 hsz hb1.size;generalize grow (wr.drewN k1) os=W at hI1 hb1 hs1 ⊢
    go_wp2_with (go_at_call 309; refine (Go.Proofs.Tryz.Builder_WriteString w.heap.size w.heap.size _ _ _ hI1 ?_ hs1).mono ?_)
    · rw [Lib.byteCells_length];show _+((32::Lib.itoa l[k]).toArray).size<=_;rw [xz4,xyg];omega
    · rintro e W1 ⟨rfl,h1,b1⟩;rw [Lib.strCells_toArray,<- Lib.byteCells_append] at h1;have e1:joinT (l.take k)++(32::Lib.itoa l[k])=joinT (l.take (k+1)):=by rw [wu hkl,hgd]
      rw [e1] at h1
      go_wp2
      go_roundw
      case rel=>exact ⟨k+1,by go_num,by omega,.inr h1,(hbw.trans hb1).trans b1⟩
      case measure=>simp [intOf]; omega
  · have e:k=l.length:=by omega
    subst e;rw [xzo] at hI
    go_wp2_with (go_at_call 311; refine (Go.Proofs.Tryz.Builder_String_any w.heap.size w.heap.size (joinT l) _ hI hsz).mono ?_)
    rintro e W1 ⟨rfl,b1⟩
    go_wp2
    go_ret
    exact ⟨rfl,hbw.trans b1⟩
theorem xud {P:Program} {n:String} {g:Nat} (h:P.globalNamed n=some g):g<P.globals.size:=by
 unfold Program.globalNamed at h
 split at h
 · rename_i g' e;obtain rfl:=xys h;have:g'∈(List.range P.globals.size).filter fun g=>(P.globals[g]?).any (·.name == n):=by rw [e]; simp
   exact List.mem_range.1 (List.mem_filter.1 this).1
 · cases h
theorem xv1 {w : World} {Z : Nat → Prop} (h : GOk P w Z) : Lib.TabIs (P : Program) w "internal/strconv.uint64pow10" .u64 Lib.pow10Tab := by
 obtain ⟨w0,hf,hz⟩:=h
 have hn : (P : Program).globalNamed "internal/strconv.uint64pow10" ≠ none := by
  have e : ((P : Program).globalNamed "internal/strconv.uint64pow10").isSome = true := by kernel_rfl
  intro h; rw [h] at e; cases e
 have h0:=hf.2.1 hn;unfold Lib.TabIs World.var? at *
 cases hg : (P : Program).globalNamed "internal/strconv.uint64pow10" with
 | none=>exact absurd hg hn
 | some g =>
   rw [hg] at h0;simp only [Option.bind_some] at h0 ⊢;have hlt:g<(P:Program).globals.size:=xud hg;rw [(hz g hlt).2];exact h0
theorem xmn (l:List Int) (hl:l.length<=1000) (hbd:∀ x∈l,-9223372036854775808<=x/\x<=9223372036854775807):Sem P 295 [(.pure,.one (.sl 3 (ints l)))] [] (.one (.prim (.string ⟨(joinT l).toArray⟩))):=by
 refine xkc (by refine ⟨Go.Proofs.Tryz.f295,?_,?_,?_⟩<;>kernel_rfl) (by simp) fun w Z vals hG hI hZ=>?_;obtain ⟨x,rfl,hx⟩:=xnr hI;obtain ⟨a,cap,rfl,h0,hc⟩:=xns hx;refine (xmm l a cap w hl hbd h0 hc (xv1 hG)).mono ?_;rintro e w' ⟨rfl,hb⟩;exact ⟨_,[],rfl,hb,fun Z'=>.one (.prim rfl),by simp,by simp⟩
end Go.AM
end
section
namespace Go.AM
open Go Go.RowKit Go.Proofs
def growRen:Go.Shelf.Ren:=⟨fun|4=>307|n=>n,fun|22=>198|25=>115|n=>n,fun|n=>n⟩
theorem v8:Go.Proofs.Lays8.n4 P growRen:={
 mixed:=by kernel_rfl
 f4:=⟨Go.Proofs.Tryz.f307.name,by kernel_rfl,(show P.funcs[307]?=some Go.Proofs.Tryz.f307 by kernel_rfl).trans (congrArg some (by kernel_rfl))⟩
 t0:=Tryz.underlying0,a0:=Tryz.isAgg0,z0:=Tryz.sizeOf0,v0:=Tryz.zeroValue0
 t3:=Tryz.underlying3,a3:=Tryz.isAgg3,z3:=Tryz.sizeOf3,v3:=Tryz.zeroValue3
 t4:=Tryz.underlying4,a4:=Tryz.isAgg4,z4:=Tryz.sizeOf4,v4:=Tryz.zeroValue4
 t9:=Tryz.underlying9,a9:=Tryz.isAgg9,z9:=Tryz.sizeOf9,v9:=Tryz.zeroValue9
 t20:=Tryz.underlying20,a20:=Tryz.isAgg20,z20:=Tryz.sizeOf20,v20:=Tryz.zeroValue20
 t22:=Tryz.underlying198,a22:=Tryz.isAgg198,z22:=Tryz.sizeOf198,v22:=Tryz.zeroValue198 }
theorem xgu:(P:Program).cellsOf 115=3:=by kernel_rfl
theorem xn4 {w:World} {Z:Nat->Prop} {v:Value} (ho:w.ownsRow 0 115 3 v 0 []):Ow P w Z (.sl 115 []) v v.ownBlock.toList:=by
 have h:Ow P w Z (.sl 115 []) v (v.ownBlock.toList++([]:List (List Nat)).flatten) :=
  .sl (cells:=[]) (by simp) (by simp) (by rw [xgu]; exact ho) rfl (by simp)
 simpa using h
theorem xmt {w:World} {Z:Nat->Prop} {x:Value} {f:List Nat} (h:Ow P w Z (.sl 115 []) x f):f=x.ownBlock.toList/\w.ownsRow 0 115 3 x 0 []:=by
 cases h with
 | sl hm hw ho hf hr =>
   rename_i cells fs;rw [xgu] at ho;have h0:cells=[]:=xyr (by simpa using ho.1);subst h0;have h1:fs=[]:=xyr hf;subst h1;exact ⟨by simp,ho⟩
theorem xum {w:World} {Z:Nat->Prop} {io:Option Io} {a b:AV} {vals:List Value} {fin:List Nat} (h:InsR P w Z io [(.own,.one a),(.pure,.one b)] vals fin):∃ x y f,vals=[x,y]/\fin=f/\Ow P w Z a x f/\Rd P w Z b y:=by
 cases h with
 | cons h t =>
   cases t with
   | cons h2 t2 =>
     cases t2
     cases h2 with
     | pone h2 =>
       cases h with
       | oone h=>exact ⟨_,_,_,rfl,by simp,h,h2⟩
theorem xpl (n:Nat) (hn:n<=100000):Sem P 307 [(.own,.one (.sl 115 [])),(.pure,I n)] [] (.one (.sl 115 [])):=by
 refine ⟨by refine ⟨Go.Proofs.Tryz.f307,?_,?_,?_⟩<;>kernel_rfl,fun w Z io vals fin hG hI hio hnd hfin hZ=>?_⟩;have hio:io=none:=by
  rcases hio with h|⟨lo,hi,v,hm⟩
  · exact h
  · simp at hm
 subst hio;obtain ⟨x,y,f,rfl,rfl,hx,hy⟩:=xum hI;obtain ⟨rfl,ho⟩:=xmt hx;cases hy;have room:∀ {e:Ending} {w':World},e=.returned x/\w'=w->∃ v,e=.returned v/\Post P w Z none [(.own,.one (.sl 115 [])),(.pure,I n)] [x,.int .i64 n] x.ownBlock.toList [] (.one (.sl 115 [])) v w':=by
  rintro e w' ⟨rfl,rfl⟩;refine ⟨x,rfl,Z,x.ownBlock.toList,[],⟨rfl,rfl,rfl,xy3 _,fun _ _ _ _=>rfl,fun i hi=>by cases hi⟩,fun b h=>h,fun b h=>⟨.inl h,(hZ b h).1,fun i hi=>by cases hi⟩,.one (xn4 ho),.own (.pure .nil),by simpa using xck _,fun b hb=>?_⟩;have hb':b∈x.ownBlock.toList:=by simpa using hb
  exact ⟨.inl hb',(hfin b hb').1,(hfin b hb').2.1,fun i hi=>by cases hi⟩
 have fresh:∀ (c:Nat) (cells:Array Value) (cap:Nat),cells.size=cap*3->cap<=maxLen->∀ {e:Ending} {w':World},e=.returned (.slice (some ⟨w.heap.size,0,none⟩) 0 cap)/\w'=w.drew.alloc (.cells cells 115)->∃ v,e=.returned v/\Post P w Z none [(.own,.one (.sl 115 [])),(.pure,I n)] [x,.int .i64 n] x.ownBlock.toList [] (.one (.sl 115 [])) v w':=by
  rintro c cells cap hs hm e w' ⟨rfl,rfl⟩;have hB:Below w.heap.size w (w.drew.alloc (.cells cells 115)):=(Below.refl _ w).drew.alloc (xy3 _) _;have ho':=World.ownsRow_made (base:=0) (e:=115) (size:=3) w.drew cells cap (xyb _) hm hs;refine ⟨_,rfl,Z,[w.heap.size],[],⟨hB.os,hB.tape,hB.output,hB.size,fun k hk _ _=>hB.block k hk,fun i hi=>by cases hi⟩,fun b h=>h,fun b h=>⟨.inl h,xzm (hZ b h).1 hB.size,fun i hi=>by cases hi⟩,.one (xn4 ho'),.own (.pure .nil),by simp,fun b hb=>?_⟩;have hb':b=w.heap.size:=by simpa using hb
  subst hb';exact ⟨.inr (xy3 _),by have:=heap_alloc_new w.drew (.cells cells 115); exact (xy2.1 this).1,fun hz=>absurd (hZ _ hz).1 (Nat.lt_irrefl _),fun i hi=>by cases hi⟩
 by_cases h0:n=0
 · subst h0;rcases ho.2 with ⟨rfl,_⟩|⟨g,cap,cur,rfl,h1,h2,h3,h4,h5,h6⟩
   · exact (Any8.slices_Grow_room v8 none 0 0 0 w (by decide) (by decide) (by decide) (by decide)).mono fun e w' h=>room h
   · exact (Any8.slices_Grow_room v8 _ 0 cap 0 w (xyb _) (by
      have:maxLen=9223372036854775807:=by decide
      omega) (by decide) (xyb _)).mono fun e w' h=>room h
 · have hml:maxLen=9223372036854775807:=by decide
   have hinfo:(P.info? 115).map (fun i=>(i.zero.map (fun z=>z.cells.size),i.size,i.bytes))=some (some 3,3,56):=by kernel_rfl
   obtain ⟨i0,hi0,hinfo⟩:=xya.1 hinfo;simp only [x1i] at hinfo;obtain ⟨hz,hs0,hb0⟩:=hinfo;obtain ⟨z,hz0,hz3⟩:=xya.1 hz;have hge:∀ c,n<=grownCap w (0+n) c 115:=fun c=>by have:=grownCap_ge w (0+n) c 115; omega
   have hle:∀ c,grownCap w (0+n) c 115<=maxLen:=fun c=>grownCap_le_maxLen w (0+n) c 115 (by omega);have hzc:∀ k,(Builtin.zeroCells z.cells k).size=k*3:=fun k=>by simp [Builtin.zeroCells,hz3]
   rcases ho.2 with ⟨rfl,_⟩|⟨g,cap,cur,rfl,h1,h2,h3,h4,h5,h6⟩
   · refine (Any8.slices_Grow_grow v8 i0 z hi0 hz0 (by omega) none 0 0 n [] w (by decide) (by omega) (by rw [hb0]; omega) (by omega) (by simp) (fun _=>rfl) (by intro a h; cases h)).mono fun e w' h=>fresh 0 _ _ ?_ (hle 0) h;simp only [x16,hzc,xz4,xyf];have:=hge 0;show 0+(0+n - 0)*3+(grownCap w (0+n) 0 115 - (0+n))*3=grownCap w (0+n) 0 115*3;omega
   · by_cases hc:n<=cap
     · exact (Any8.slices_Grow_room v8 _ 0 cap n w (xyb _) (by omega) (by omega) (by omega)).mono fun e w' h=>room h
     · refine (Any8.slices_Grow_grow v8 i0 z hi0 hz0 (by omega) (some ⟨g,0,none⟩) 0 cap n cur.toList w (by omega) (by omega) (by rw [hb0]; omega) (by omega) (by simp [h5,hs0]) (by intro h; cases h) (by
        rintro a rfl' j v hj;cases rfl';have e:(⟨g,0,none⟩:Addr).add j=⟨g,j,none⟩:=by cases j<;>simp [Addr.add]
        rw [e];simp only [World.cell?,h2]
        simpa using hj)).mono fun e w' h=>fresh 0 _ _ ?_ (hle cap) h
       simp only [x16,hzc,xz2,h5];have:=hge cap;show cap*3+(0+n - cap)*3+(grownCap w (0+n) cap 115 - (0+n))*3=grownCap w (0+n) cap 115*3;omega
end Go.AM
end
section
namespace Cc
open Go Go.AM
theorem xb8 (a b:List Int):Sem P 21 [(.pure,AI a),(.pure,AI b)] [] (B (decide (a=b))):=by
 refine fO Go.Proofs.Tryz.f21 fun hb=>?_;have la:=xb a;have lb:=xb b;have hb1:a.length<=1125899906842624:=by simp [bdIns,bdT,bdA] at hb; omega
 conv=>whnf
 (refine zA ?_)
 refine xa (fun h=>?_) (fun h=>?_)
 all_goals conv=>whnf
 all_goals (refine zA ?_)
 · exact rB (by have:=yt h; symm; simp; intro e; subst e; simp at this)
 · have h:=yu h;refine Vc.loop { i:Nat // ∀ j,j<i->a.getD j 0=b.getD j 0 } (fun i=>updL [0,1] [(5,I i.1)] []) (fun i=>a.length - i.1) ⟨0,by simp⟩ ?_ (fun i=>?_)
   · exact wl
   · have hi:=i.2;conv=>whnf
     (refine zA ?_)
     refine xd (fun g=>?_) (fun g=>?_)
     all_goals conv=>whnf
     · repeat' first|((first|refine zz ?_|(refine xa ?_ ?_<;>intro _)|refine ixN (enc:=rI) 0 (by omega) ?_|refine wq ?_)<;>conv=>whnf)
       · rename_i g';exact rB (by have:=yt g'; symm; simp; intro e; subst e; simp at this)
       · rename_i g';have e:=yu g';refine ⟨⟨i.1+1,fun j hj=>?_⟩,?_,?_⟩
         · by_cases h:j<i.1
           · exact hi j h
           · obtain rfl:j=i.1:=by omega
             exact e
         · simp only; omega
         · exact wl
     ·
      (refine zA ?_)
      exact rB (by symm; simp; exact jh 0 (by omega) fun j hj=>hi j (by omega))
theorem xlw (a b:Rslt):Sem P 20 [(.pure,.agg (aR a)),(.pure,.agg (aR b))] [] (B (decide (a=b))):=by
 refine fO Go.Proofs.Tryz.f20 fun hb=>?_;conv=>whnf
 repeat' first|((first|refine zz ?_|(refine xa ?_ ?_<;>intro _)|refine ⟨_,xb8 _ _,?_⟩)<;>conv=>whnf)
 all_goals refine rB ?_
 all_goals (cases a; cases b; first|(simp_all; done)|(simp_all; rfl))
theorem xwn (a b:Call):Sem P 40 [(.pure,.agg (aC a)),(.pure,.agg (aC b))] [] (B (decide (a=b))):=by
 refine fO Go.Proofs.Tryz.f40 fun hb=>?_;conv=>whnf
 repeat' first|((first|refine zz ?_|(refine xa ?_ ?_<;>intro _)|refine ⟨_,xb8 _ _,?_⟩)<;>conv=>whnf)
 all_goals refine rB ?_
 all_goals (cases a; cases b; first|(simp_all; done)|(simp_all; rfl))
theorem xwo (a b:List Done):Sem P 54 [(.pure,.one (sDs a)),(.pure,.one (sDs b))] [] (B (decide (a=b))):=by
 refine fO Go.Proofs.Tryz.f54 fun hb=>?_;have la:(a.map eD).length=a.length:=xxs ..;have lb:(b.map eD).length=b.length:=xxs ..;have hb1:(a.map eD).length<=1125899906842624:=hb.1.1;conv=>whnf
 (refine zA ?_)
 refine xa (fun h=>?_) (fun h=>?_)
 all_goals conv=>whnf
 all_goals (refine zA ?_)
 · exact rB (by have:=yt h; symm; simp; intro e; subst e; simp at this)
 · have h:=yu h
   repeat' first|((first|refine zz ?_|(refine xa ?_ ?_<;>intro _))<;>conv=>whnf)
   refine Vc.loop { i:Nat // ∀ j,j<i->a.getD j default=b.getD j default } (fun i=>updL [0,1] [(5,I i.1)] []) (fun i=>a.length - i.1) ⟨0,by simp⟩ ?_ (fun i=>?_)
   · exact wl
   · have hi:=i.2;conv=>whnf
     (refine zA ?_)
     refine xd (fun g=>?_) (fun g=>?_)
     all_goals conv=>whnf
     · repeat' first|((first|refine zz ?_|(refine xa ?_ ?_<;>intro _)|refine ixN (enc:=eD) default (by omega) ?_|refine ⟨_,xlw (a.getD i.1 default).Res (b.getD i.1 default).Res,?_⟩|refine wq ?_)<;>conv=>whnf)
       all_goals first
        | exact rB (by symm; simp only [xx5]; intro e; subst e; simp_all)
        | (refine ⟨⟨i.1+1,fun j hj=>?_⟩,?_,?_⟩
           · by_cases h:j<i.1
             · exact hi j h
             · obtain rfl:j=i.1:=by omega
               (first|(simp_all; done)|(generalize a.getD i.1 default=x at *; generalize b.getD i.1 default=y at *; clear hi; cases x; cases y; simp_all))
           · simp only; omega
           · exact wl)
     ·
      (refine zA ?_)
      exact rB (by symm; simp; exact jh default (by omega) fun j hj=>hi j (by omega))
theorem xc4 (a b:List Call):Sem P 11 [(.pure,.one (sCs a)),(.pure,.one (sCs b))] [] (B (decide (a=b))):=by
 refine fO Go.Proofs.Tryz.f11 fun hb=>?_;have la:(a.map eC).length=a.length:=xxs ..;have lb:(b.map eC).length=b.length:=xxs ..;have hb1:(a.map eC).length<=1125899906842624:=hb.1.1;conv=>whnf
 (refine zA ?_)
 refine xa (fun h=>?_) (fun h=>?_)
 all_goals conv=>whnf
 all_goals (refine zA ?_)
 · exact rB (by have:=yt h; symm; simp; intro e; subst e; simp at this)
 · have h:=yu h
   repeat' first|((first|refine zz ?_|(refine xa ?_ ?_<;>intro _))<;>conv=>whnf)
   refine Vc.loop { i:Nat // ∀ j,j<i->a.getD j default=b.getD j default } (fun i=>updL [0,1] [(5,I i.1)] []) (fun i=>a.length - i.1) ⟨0,by simp⟩ ?_ (fun i=>?_)
   · exact wl
   · have hi:=i.2;conv=>whnf
     (refine zA ?_)
     refine xd (fun g=>?_) (fun g=>?_)
     all_goals conv=>whnf
     · repeat' first|((first|refine zz ?_|(refine xa ?_ ?_<;>intro _)|refine ixN (enc:=eC) default (by omega) ?_|refine ⟨_,xwn _ _,?_⟩|refine wq ?_)<;>conv=>whnf)
       all_goals first
        | exact rB (by symm; simp only [xx5]; intro e; subst e; simp_all)
        | (refine ⟨⟨i.1+1,fun j hj=>?_⟩,?_,?_⟩
           · by_cases h:j<i.1
             · exact hi j h
             · obtain rfl:j=i.1:=by omega
               (first|(simp_all; done)|(generalize a.getD i.1 default=x at *; generalize b.getD i.1 default=y at *; clear hi; cases x; cases y; simp_all))
           · simp only; omega
           · exact wl)
     ·
      (refine zA ?_)
      exact rB (by symm; simp; exact jh default (by omega) fun j hj=>hi j (by omega))
theorem xc5 (a b:List Rslt):Sem P 12 [(.pure,.one (sRs a)),(.pure,.one (sRs b))] [] (B (decide (a=b))):=by
 refine fO Go.Proofs.Tryz.f12 fun hb=>?_;have la:(a.map eR).length=a.length:=xxs ..;have lb:(b.map eR).length=b.length:=xxs ..;have hb1:(a.map eR).length<=1125899906842624:=hb.1.1;conv=>whnf
 (refine zA ?_)
 refine xa (fun h=>?_) (fun h=>?_)
 all_goals conv=>whnf
 all_goals (refine zA ?_)
 · exact rB (by have:=yt h; symm; simp; intro e; subst e; simp at this)
 · have h:=yu h
   repeat' first|((first|refine zz ?_|(refine xa ?_ ?_<;>intro _))<;>conv=>whnf)
   refine Vc.loop { i:Nat // ∀ j,j<i->a.getD j default=b.getD j default } (fun i=>updL [0,1] [(5,I i.1)] []) (fun i=>a.length - i.1) ⟨0,by simp⟩ ?_ (fun i=>?_)
   · exact wl
   · have hi:=i.2;conv=>whnf
     (refine zA ?_)
     refine xd (fun g=>?_) (fun g=>?_)
     all_goals conv=>whnf
     · repeat' first|((first|refine zz ?_|(refine xa ?_ ?_<;>intro _)|refine ixN (enc:=eR) default (by omega) ?_|refine ⟨_,xlw _ _,?_⟩|refine wq ?_)<;>conv=>whnf)
       all_goals first
        | exact rB (by symm; simp only [xx5]; intro e; subst e; simp_all)
        | (refine ⟨⟨i.1+1,fun j hj=>?_⟩,?_,?_⟩
           · by_cases h:j<i.1
             · exact hi j h
             · obtain rfl:j=i.1:=by omega
               (first|(simp_all; done)|(generalize a.getD i.1 default=x at *; generalize b.getD i.1 default=y at *; clear hi; cases x; cases y; simp_all))
           · simp only; omega
           · exact wl)
     ·
      (refine zA ?_)
      exact rB (by symm; simp; exact jh default (by omega) fun j hj=>hi j (by omega))
theorem xwp {m n:Nat} (h:((m:Int) != (n:Int))=false):m=n:=by have:=yu h; omega
theorem xf0 (a b:Clerk):Sem P 10 [(.pure,.agg (aK a)),(.pure,.agg (aK b))] [] (B (decide (a=b))):=by
 refine fO Go.Proofs.Tryz.f10 fun hb=>?_;have la:(a.Got.map eG).length=a.Got.length:=xxs ..;have lb:(b.Got.map eG).length=b.Got.length:=xxs ..;have hb1:(a.Got.map eG).length<=1125899906842624:=(hb.1 (sGs a.Got) (by simp)).1;conv=>whnf
 repeat' first|((first|refine zz ?_|(refine xa ?_ ?_<;>intro _)|refine ⟨_,xb8 _ _,?_⟩|refine ⟨_,xwo _ _,?_⟩|refine ⟨_,xc4 _ _,?_⟩)<;>conv=>whnf)
 all_goals first
  | exact rB (by symm; simp only [xx5]; intro e; subst e; simp_all)
  | skip
 rename_i h1 h2 h3 h4 h5 h6;refine Vc.loop { i:Nat // ∀ j,j<i->a.Got.getD j default=b.Got.getD j default } (fun i=>updL [2,3] [(5,I i.1)] []) (fun i=>a.Got.length - i.1) ⟨0,by simp⟩ ?_ (fun i=>?_)
 · exact wl
 · have hi:=i.2;have h2':(a.Got.map eG).length=(b.Got.map eG).length:=xwp h6;conv=>whnf
   (refine zA ?_)
   refine xd (fun g=>?_) (fun g=>?_)
   all_goals conv=>whnf
   · repeat' first|((first|refine zz ?_|(refine xa ?_ ?_<;>intro _)|refine ixN (enc:=eG) default (by omega) ?_|refine ⟨_,xb8 _ _,?_⟩|refine wq ?_)<;>conv=>whnf)
     all_goals first
      | exact rB (by symm; simp only [xx5]; intro e; subst e; simp_all)
      | (refine ⟨⟨i.1+1,fun j hj=>?_⟩,?_,?_⟩
         · by_cases h:j<i.1
           · exact hi j h
           · obtain rfl:j=i.1:=by omega
             generalize a.Got.getD i.1 default=x at *; generalize b.Got.getD i.1 default=y at *; clear hi; cases x; cases y; simp_all
         · simp only; omega
         · exact wl)
   ·
    (refine zA ?_)
    exact rB (by
     have e:a.Got=b.Got:=jh default (by omega) fun j hj=>hi j (by omega)
     cases a; cases b; simp_all)
end Cc
end
