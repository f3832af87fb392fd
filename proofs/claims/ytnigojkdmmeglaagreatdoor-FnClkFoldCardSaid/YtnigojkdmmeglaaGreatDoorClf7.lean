/- The law FnClkFold: part 7 of 35. No conditions beyond the statement. -/
import Derived.Test.YtnigojkdmmeglaaGreatDoorClf6
set_option linter.unusedVariables false
set_option linter.unusedSimpArgs false
set_option maxRecDepth 100000
set_option maxHeartbeats 16000000
section
namespace Cc
open Go Go.AM
theorem akP {r:List (List AV)} {k:Prop} (h:allPrim r) (hk:k):allPrim r/\k:=⟨h,hk⟩
abbrev intoS (a b c:Int) (D:List Int) (K:Int) (p q r:Form):Nat->Form
 | 0=>⟨[0,0,0],D,K⟩
 | 1=>lin ⟨[0,0,0],D,K⟩ p a
 | 2=>lin (lin ⟨[0,0,0],D,K⟩ p a) q b
 | _=>lin (lin (lin ⟨[0,0,0],D,K⟩ p a) q b) r c
theorem xd9 (f p q r:Form) (hf:f.bd 10000000) (hp:p.bd 10000000) (hq:q.bd 10000000) (hr:r.bd 10000000) (hk:(into f [p,q,r]).ok=true):Sem P 268 [(.pure,.agg (aF f)),(.pure,.one (sFs [p,q,r]))] [] (.agg (aF (into f [p,q,r]))):=by
 have okf:=zk.2 hf;have okp:=zk.2 hp;have okq:=zk.2 hq;have okr:=zk.2 hr;obtain ⟨a,b,c,d,e,k,rfl,h1,h2,h3,h4,h5,h6⟩:=bdE hf;have b0:(⟨[0,0,0],[d,e],k⟩:Form).bd 10000000:=bdI (by omega) (by omega) (by omega) h4 h5 h6;have b1:(lin ⟨[0,0,0],[d,e],k⟩ p a).bd 200000000000000:=xf (yw b0 hp h1) (by decide);have b2:(lin (lin ⟨[0,0,0],[d,e],k⟩ p a) q b).bd 400000000000000:=xf (yw b1 hq h2) (by decide);rw [xhp] at hk ⊢;refine fK [8010] Go.Proofs.Tryz.f268 fun hb=>?_;conv=>whnf
 repeat' first|((first|refine zz ?_|(refine xa ?_ ?_<;>intro _)|refine ⟨_,qn ⟨[a,b,c],[d,e],k⟩,?_⟩|refine ⟨_,qn p,?_⟩|refine ⟨_,qn q,?_⟩|refine ⟨_,qn r,?_⟩|refine ixK rfl ?_|refine apN (by simp) ?_|refine apP (x1 _) ?_)<;>conv=>whnf)
 all_goals first
  | (exfalso; simp_all; done)
  | skip
 refine Vc.loop1 (fun (i:Nat)=>i<=3) (fun i=>updL [1,2,4,5,60,61,62,63,64] [(6,I i)] [(256512,.box [.ref 256000,.ref 256256,eI (intoS a b c [d,e] k p q r i).K]),(256000,.arr 3 (ints (intoS a b c [d,e] k p q r i).C) false),(256256,.arr 3 (ints (intoS a b c [d,e] k p q r i).D) false)]) (fun i=>3 - i) 0 (by omega) ?_ (fun i hi=>?_)
 · exact wk
 · match i,hi with
   | 0,_ =>
     conv=>whnf
     repeat' first|((first|refine zz ?_|(refine xa ?_ ?_<;>intro _)|refine ixK rfl ?_|refine wq ?_|refine ⟨_,z8 ⟨[0,0,0],[d,e],k⟩ p a (xf b0 (by decide)) hp (by omega),?_⟩|refine akP (x1 _) ?_)<;>conv=>whnf)
     refine ⟨1,by omega,by simp only; omega,?_⟩;exact wk
   | 1,_ =>
     conv=>whnf
     repeat' first|((first|refine zz ?_|(refine xa ?_ ?_<;>intro _)|refine ixK rfl ?_|refine wq ?_|refine ⟨_,z8 (lin ⟨[0,0,0],[d,e],k⟩ p a) q b (xf b1 (by decide)) hq (by omega),?_⟩|refine akP (x1 _) ?_)<;>conv=>whnf)
     refine ⟨2,by omega,by simp only; omega,?_⟩;exact wk
   | 2,_ =>
     conv=>whnf
     repeat' first|((first|refine zz ?_|(refine xa ?_ ?_<;>intro _)|refine ixK rfl ?_|refine wq ?_|refine ⟨_,z8 (lin (lin ⟨[0,0,0],[d,e],k⟩ p a) q b) r c (xf b2 (by decide)) hr (by omega),?_⟩|refine akP (x1 _) ?_)<;>conv=>whnf)
     refine ⟨3,by omega,by simp only; omega,?_⟩;exact wk
   | 3,_ =>
     conv=>whnf
     repeat' first|((first|refine zz ?_|(refine xa ?_ ?_<;>intro _)|refine ⟨_,qn _,?_⟩)<;>conv=>whnf)
     · rename_i h; have hk':(intoS a b c [d,e] k p q r 3).ok=true:=hk; rw [hk'] at h; cases h
     · exact ⟨rfl,rfl⟩
def bds (l:List Form):Prop:=l.length<=50/\∀ f∈l,f.bd 10000000
theorem xur (p q r:Form) (guards tells:List Form) (hp:p.bd 1000000) (hq:q.bd 1000000) (hr:r.bd 1000000) (hg:bds guards) (ht:bds tells) :
 Sem P 271 [(.pure,.one (sFs [p,q,r])),(.pure,.one (sFs guards)),(.pure,.one (sFs tells))] [] (.agg (eW (rowEnd [p,q,r] guards tells))):=by
 have m1:∀ {f:Form},f.bd 1000000->f.bd 1000000000000000:=fun h=>xf h (by decide);have m2:∀ v,(Form.pot v).bd 10000000:=fun v=>xf (z7 v) (by decide);refine yh (E:={ E0 with fz:=[(6,[128386])] }) xn xo (fn:=Go.Proofs.Tryz.f271) (by kernel_rfl) (by kernel_rfl) (fun hb=>?_);conv=>whnf
 repeat' first|((first|refine zz ?_|(refine xa ?_ ?_<;>intro _))<;>conv=>whnf)|(refine ⟨_,y7 guards (by have:=hg.1; omega) hg.2,?_⟩;conv=>whnf)|(refine ⟨_,y7 tells (by have:=ht.1; omega) ht.2,?_⟩;conv=>whnf)
 refine Vc.loop1 (fun (i:Nat)=>i<=3) (fun i=>updL [0,6,7,30] [(8,I i)] [(128320,.box [fFs guards,.ref 128386,fFs tells,eB false]),(128386,.arr 115 (([lin p (Form.pot 0) (-1),lin q (Form.pot 1) (-1),lin r (Form.pot 2) (-1)].take i).map eF) false)]) (fun i=>3 - i) 0 (by omega) ?_ (fun i hi=>?_)
 · exact wk
 · match i,hi with
   | 0,_ =>
     conv=>whnf
     repeat' first|((first|refine zz ?_|(refine xa ?_ ?_<;>intro _)|refine ixK rfl ?_|refine wq ?_|refine ⟨_,za 0 (by decide),?_⟩|refine ⟨_,z8 p (Form.pot 0) (-1) (m1 hp) (m2 _) (by decide),?_⟩|refine apN (by simp) ?_)<;>conv=>whnf)
     refine ⟨1,by omega,by simp only; omega,?_⟩;exact wk
   | 1,_ =>
     conv=>whnf
     repeat' first|((first|refine zz ?_|(refine xa ?_ ?_<;>intro _)|refine ixK rfl ?_|refine wq ?_|refine ⟨_,za 1 (by decide),?_⟩|refine ⟨_,z8 q (Form.pot 1) (-1) (m1 hq) (m2 _) (by decide),?_⟩|refine apN (by simp) ?_)<;>conv=>whnf)
     refine ⟨2,by omega,by simp only; omega,?_⟩;exact wk
   | 2,_ =>
     conv=>whnf
     repeat' first|((first|refine zz ?_|(refine xa ?_ ?_<;>intro _)|refine ixK rfl ?_|refine wq ?_|refine ⟨_,za 2 (by decide),?_⟩|refine ⟨_,z8 r (Form.pot 2) (-1) (m1 hr) (m2 _) (by decide),?_⟩|refine apN (by simp) ?_)<;>conv=>whnf)
     refine ⟨3,by omega,by simp only; omega,?_⟩;exact wk
   | 3,_ =>
     conv=>whnf
     (refine zA ?_)
     exact ⟨rfl,rfl⟩
end Cc
end
