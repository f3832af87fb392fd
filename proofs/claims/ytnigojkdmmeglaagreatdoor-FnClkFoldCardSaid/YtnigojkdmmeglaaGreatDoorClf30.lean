/- The law FnClkFold: part 30 of 35. No conditions beyond the statement. -/
import Derived.Test.YtnigojkdmmeglaaGreatDoorClf27
set_option linter.unusedVariables false
set_option linter.unusedSimpArgs false
set_option maxRecDepth 100000
set_option maxHeartbeats 16000000
section
namespace Cc
open Go Go.AM
theorem xln:∀ l:List (List AV),Rowz l l
 | []=>.nil
 | r::l=>.cons rfl (fun k a b ha hb=>by rw [ha] at hb; cases hb; exact Imp.rfl) (xln l)
theorem xfy (l:List Got):Rowz (l.map aG) (l.map eG):=Rowz.map (e:=aG) (e':=eG) (fun _=>rfl) (fun x k a b ha hb=>by
 match k,ha,hb with
 | 0,ha,hb=>cases ha; cases hb; exact Imp.rfl
 | 1,ha,hb=>cases ha; cases hb; exact q9 Imp.rfl
 | 2,ha,hb=>cases ha; cases hb; exact q9 Imp.rfl
 | k+3,ha,hb=>simp at ha) l
theorem xqe {l:List Got}:Cold (.sl 105 (l.map aG++[[eB false,.fr [] 3 [],.fr [] 3 []]])) (fGs (l++[Got.nil])):=by
 have e:(l++[Got.nil]).map eG=l.map eG++[[eB false,.fr [] 3 [],.fr [] 3 []]]:=by simp [Got.nil]
 unfold fGs;rw [e];exact xee (Rowz.app (xfy l) (xln _))
theorem xtb {l:List Got} {b:Bool} {x:List Int} {i n:Nat}:Cold (.sl 105 ((l.map aG).set i [eB b,fI x,.sl 3 (List.replicate n [AV.prim (Value.int .i64 0)])])) (fGs (l.set i ⟨b,x,List.replicate n 0⟩)):=by
 have e:(l.set i ⟨b,x,List.replicate n 0⟩).map eG=(l.map eG).set i [eB b,fI x,fI (List.replicate n 0)]:=xz8;have e2:List.replicate n [AV.prim (Value.int .i64 0)]=ints (List.replicate n 0):=by rw [ints,List.map_replicate]
 unfold fGs;rw [e,e2];refine xee (Rowz.set (r:=[eB b,fI x,sI (List.replicate n 0)]) (r':=[eB b,fI x,fI (List.replicate n 0)]) (xfy l) rfl (fun k a b ha hb=>?_) i)
 match k,ha,hb with
 | 0,ha,hb=>cases ha; cases hb; exact Imp.rfl
 | 1,ha,hb=>cases ha; cases hb; exact Imp.rfl
 | 2,ha,hb=>cases ha; cases hb; exact q9 Imp.rfl
 | k+3,ha,hb=>simp at ha
theorem xtc {l:List Call} {x:Call}:Cold (.sl 50 (l.map eC++[eC x])) (fCs (l++[x])):=by
 have e:=jl l x;unfold fCs;rw [<- e]; exact xg
theorem drClk {a m:Int} {bs:List UInt8} {cs:List AV} {os:List TV} {u:Bool} {r:Int} {b:List Int} {dn:List Done} {ws:List Call} {gs:List Got} {a':Int} (e2:os=[.agg (aRd bs a')]) (hb:a<=a'/\a'<=a+m) (h:Colds cs [eB u,eI r,fI b,fDs dn,fCs ws,fGs gs]) :
 ∃ (c:Clerk) (cs':List AV) (a':Int),(a<=a'/\a'<=a+m)/\Colds cs' (eK c)/\TV.agg cs=.agg cs'/\os=[.agg (aRd bs a')]:=⟨⟨u,r,b,dn,ws,gs⟩,cs,a',hb,h,rfl,e2⟩
theorem xjc (bs:List UInt8) (a:Int) (w:World) (c:Clerk) (hw:WorldF w) (hz:zK c<=10000) (ha:0<=a/\a<=4000000000) (hbs:bs.length<=2000) :
 ∃ os res,(∃ (c':Clerk) (a':Int),(a<=a'/\a'<=a+50)/\res=.agg (eK c')/\os=aRd bs a')/\Sem P 122 [(.io 0 0,.agg (aRd bs a)),(.pure,.agg (aWd w)),(.pure,.agg (aK c))] [.agg os] res:=by
 have key:∃ res outs,(∃ (c':Clerk) (cs':List AV) (a':Int),(a<=a'/\a'<=a+50)/\Colds cs' (eK c')/\res=.agg cs'/\outs=[.agg (aRd bs a')])/\Sem P 122 [(.io 0 0,.agg (aRd bs a)),(.pure,.agg (aWd w)),(.pure,.agg (aK c))] outs res:=by
  have hps:=xlm hw.p.ok;have hcl:=hw.p.cl;have hcp:=zh c (by omega);have hzl:c.Done.length<=10000/\c.Wants.length<=10000/\c.Got.length<=10000:=by unfold zK zDs zCs zGs at hz; omega
  have ld:(c.Done.map eD).length=c.Done.length:=xxs ..;have lw:(c.Wants.map eC).length=c.Wants.length:=xxs ..;have lg:(c.Got.map aG).length=c.Got.length:=xxs ..;refine x5 (E:={ E0 with keep:=[2001] }) xn xo (fn:=Go.Proofs.Tryz.f122) (by kernel_rfl) (by kernel_rfl) ?_;conv=>whnf
  repeat' first|((first|refine zz ?_|(refine xa ?_ ?_<;>intro _)|refine ⟨_,hcp,?_⟩)<;>conv=>whnf)|(refine callIo (xh bs _ _ (by omega) (by omega) hbs) ?_; rintro _ _ ⟨n,hn,rfl,rfl⟩;conv=>whnf)|(refine callIo (xd2 bs _ _ w.Plan hps (by omega) (by omega) hbs) ?_; rintro _ _ ⟨x,b,hb,hc,rfl,rfl⟩;conv=>whnf)|(refine callIo (xqa bs _ _ (by omega) (by omega) hbs) ?_; rintro _ _ ⟨l,b,hb,rfl,rfl⟩;conv=>whnf)|(refine callIo (xs8 bs _ _ (by omega) (by omega) hbs) ?_; rintro _ _ ⟨l,b,hb,rfl,rfl⟩;conv=>whnf)|(refine callIo (xh bs _ _ (by omega) (by omega) hbs) ?_; rintro _ _ ⟨n,hn,rfl,rfl⟩;conv=>whnf)|(refine ioN (by first|omega|(dsimp only; omega)|(simp<;>omega)|(simp_all<;>omega)) (by first|omega|(dsimp only; omega)|(simp<;>omega)|(simp_all<;>omega)) ?_;conv=>whnf)|(refine rwI rfl (by first|omega|(dsimp only; omega)|(simp<;>omega)|(simp_all<;>omega)) (by first|omega|(dsimp only; omega)|(simp<;>omega)|(simp_all<;>omega)) fun c hc=>?_;conv=>whnf)|(refine rwN (enc:=rI) 0 (by first|omega|(dsimp only; omega)|(simp<;>omega)|(simp_all<;>omega)) ?_;conv=>whnf)|(refine wq ?_;conv=>whnf)|(refine apN (by simp; omega) ?_;conv=>whnf)|(refine rwN (enc:=aG) Got.nil (by first|omega|(simp only [xxy] at *; omega)) ?_;conv=>whnf)
  all_goals first
   | (apply drClk
      · rfl
      · constructor<;>omega
      · repeat' first|exact Colds.nil|refine Colds.cons (by first|exact xl|exact xtc|exact xqe|exact xtb|exact xer _|exact xqb|exact xg|exact x6) ?_
      done)
 obtain ⟨r,o,⟨x,cs',a',h1,h3,rfl,rfl⟩,h4⟩:=key;exact ⟨_,_,⟨x,a',h1,rfl,rfl⟩,Sem.colds h3 h4⟩
theorem xnd (bs:List UInt8) (a k:Int) (w:World) (hw:WorldF w) (ha:0<=a/\a<=5000000000) (hk:0<=k/\k<=1000000) (hbs:bs.length<=2000) :
 ∃ os res,(∃ (e:Event) (a':Int),(a<=a'/\a'<=a+30)/\e.Args.length<=3/\res=.agg (eE e)/\os=aRd bs a')/\Sem P 186 [(.io 0 0,.agg (aRd bs a)),(.pure,.agg (aWd w)),(.pure,I k)] [.agg os] res:=by
 refine drEventEnd ?_;obtain ⟨⟨s1,s2⟩,⟨c1,c2⟩,⟨p1,p2⟩,hn,hq⟩:=kl hw;have ls:(w.Sites.map eS).length=w.Sites.length:=xxs ..;have lx:(w.Clients.map eX).length=w.Clients.length:=xxs ..;have la:(w.Plan.Acts.map eA).length=w.Plan.Acts.length:=xxs ..;have lm:(w.Net.map eM).length=w.Net.length:=xxs ..;have lw:(w.Clerk.Wants.map eC).length=w.Clerk.Wants.length:=xxs ..;refine x5 (E:=E0) xn xo (fn:=Go.Proofs.Tryz.f186) (by kernel_rfl) (by kernel_rfl) ?_;conv=>whnf
 repeat' first|((first|refine zz ?_|(refine xa ?_ ?_<;>intro _))<;>conv=>whnf)|(refine callIo (xh bs _ _ (by first|omega|(dsimp only; omega)|(simp<;>omega)|(simp_all<;>omega)) (by first|omega|(dsimp only; omega)|(simp<;>omega)|(simp_all<;>omega)) hbs) ?_; rintro _ _ ⟨n,hn,rfl,rfl⟩;conv=>whnf)|(refine callIo (xa6 bs _ _ (by omega) (by omega) hbs) ?_; rintro _ _ ⟨l,b'',hb'',hl,rfl,rfl⟩;conv=>whnf)|((first|refine r64g (by omega) (by omega) fun c h1 h2 h3=>?_|refine wq ?_)<;>conv=>whnf)
 all_goals first
  | (refine drEv0 rfl ⟨?_,?_⟩<;>omega)
  | (refine drEv1 hl rfl ⟨?_,?_⟩<;>omega)
  | skip
 all_goals
  refine Vc.loop2 (fun (i:Nat) (c:Int)=>i<=w.Clients.length/\0<=c/\c<w.Clients.length) (fun i c=>updL [4,6,15,55,56,57,58,59,60,61,62,63,64,65,66,67,68,69,70,71] [(8,I i),(7,I c)] []) (fun i _=>w.Clients.length - i) 0 n ⟨by omega,by omega,by omega⟩ ?_ (fun i c hi=>?_)
  · exact wk
  · obtain ⟨hi,h0,h1⟩:=hi;conv=>whnf
    repeat' first|((first|refine zz ?_|(refine xa ?_ ?_<;>intro _)|refine ixI (enc:=eX) default (by omega) (by omega) ?_|refine r64g (by omega) (by omega) fun c' g1 g2 g3=>?_|refine wq ?_)<;>conv=>whnf)
    all_goals first
     | (refine ⟨i+1,_,⟨by simp only [xxy] at *; omega,by omega,by omega⟩,by simp only [xxy] at *; omega,?_⟩
        exact wk
        done)
     | (refine drEv0 rfl ⟨?_,?_⟩<;>omega)
theorem xqg (bs:List UInt8) (a k t:Int) (w:World) (hw:WorldF w) (ha:0<=a/\a<=5000000000) (hbs:bs.length<=2000) :
 ∃ os res,(∃ (e:Event) (a':Int),(a<=a'/\a'<=a+30)/\e.Args.length<=3/\res=.agg (eE e)/\os=aRd bs a')/\Sem P 185 [(.io 0 0,.agg (aRd bs a)),(.pure,.agg (aWd w)),(.pure,I k),(.pure,I t)] [.agg os] res:=by
 refine drEventEnd ?_;obtain ⟨⟨s1,s2⟩,⟨c1,c2⟩,⟨p1,p2⟩,hn,hq⟩:=kl hw;have ls:(w.Sites.map eS).length=w.Sites.length:=xxs ..;have lx:(w.Clients.map eX).length=w.Clients.length:=xxs ..;have lm:(w.Net.map eM).length=w.Net.length:=xxs ..;refine x5 (E:=E0) xn xo (fn:=Go.Proofs.Tryz.f185) (by kernel_rfl) (by kernel_rfl) ?_;conv=>whnf
 repeat' first|((first|refine zz ?_|(refine xa ?_ ?_<;>intro _))<;>conv=>whnf)|(refine callIo (xh bs _ _ (by first|omega|(simp only [xxy,xx5] at *; omega)) (by first|omega|(simp only [xxy,xx5] at *; omega)) hbs) ?_; rintro _ _ ⟨n,hn,rfl,rfl⟩;conv=>whnf)|(refine w64 (by first|omega|(simp only [xxy,xx5] at *; omega)) (by first|omega|(simp only [xxy,xx5] at *; omega)) ?_;conv=>whnf)
 all_goals
  first
   | (refine drEv0 rfl ⟨?_,?_⟩<;>omega)
   | (refine drEv1 hl rfl ⟨?_,?_⟩<;>omega)
end Cc
end
