/- The law FnClkFold: part 35 of 35. No conditions beyond the statement. -/
import Derived.Test.YtnigojkdmmeglaaGreatDoorTie
import Derived.Test.YtnigojkdmmeglaaGreatDoorCards
import Derived.Test.YtnigojkdmmeglaaGreatDoorClf34
set_option linter.unusedVariables false
set_option linter.unusedSimpArgs false
set_option maxRecDepth 100000
set_option maxHeartbeats 16000000
section
namespace Go.Proofs.YtnigojkdmmeglaaGreatDoor.fnClkFold
open Go Go.AM Go.RowKit Go.ChangeShapes Go.WideShapes Go.ChangeAt
theorem own:ownKnob Tryz.prog.godebug=none:=by kernel_rfl
theorem laidOut:laidOutB Tryz.prog=true:=by kernel_rfl
theorem facts {W:World} (hs:W.ShapedOpen Tryz.prog) (h:laidMetH Tryz.prog Rows.fnClkFoldRow.laid W):Facts Tryz.prog W:=by
 rw [MakeChecks.laidMetH_plain _ _ _ (by kernel_rfl)] at h;obtain ⟨ps,hv,_⟩:=h
 refine ⟨hs, fun _ => ?_, fun h => absurd (show Tryz.prog.globalNamed "strconv.ErrSyntax" = none by kernel_rfl) h, fun h => absurd (show Tryz.prog.globalNamed "strconv.ErrRange" = none by kernel_rfl) h⟩
 exact xe6 (g:=0) (t:=351) (e:=344) (n:=20) (by kernel_rfl) (by kernel_rfl) (by kernel_rfl) (by kernel_rfl) (by kernel_rfl) (by kernel_rfl) (l:=Rows.fnClkFoldRow.laid) (.tail _ (.tail _ (.head _))) hv
theorem lifted (os:Os) (started:os.Started) (H:Type) (enc:TypeId × Value->H) :
 ReturnsInHanded {} Tryz.checked os 3 .any (fun w args=>(Rows.fnClkFoldSpec.pre enc Tryz.prog Tryz.f3 [] false w args/\laidMetH Tryz.prog Rows.fnClkFoldRow.laid w)/\sizedMet enc Tryz.prog Tryz.f3 (OpenSpec.ofChange Rows.fnClkFoldSpec) false w args)
  (Rows.fnClkFoldSpec.post enc Tryz.prog Tryz.f3 false true false false):=by
 refine xho (C:=Tryz.checked) (X:=fun w _=>laidMetH Tryz.prog Rows.fnClkFoldRow.laid w) (fun _ _ _ hh h=>h.of_heap hh) own started (by kernel_rfl) Tryz.func3
  (ChangeSpec.witness_shaped (enc:=enc) (C:=Tryz.checked) (os:=os) (X:=fun w _=>laidMetH Tryz.prog Rows.fnClkFoldRow.laid w) false (World.laidAll Tryz.prog os Rows.fnClkFoldRow.laid) #[.slice none 0 0] 8 (World.laidAll_os _ _ _)
    (World.shaped_of_ZipB (by kernel_rfl) (by kernel_rfl)) (by kernel_rfl) (by kernel_rfl) (by kernel_rfl)
    (by rw [MakeChecks.laidMetH_plain _ _ _ (by kernel_rfl)]; exact laidMet_laidAll _ (by kernel_rfl) (by kernel_rfl))) ?_
 intro W base args ds gs before hval0 hW hsz0 hL hsh;have hsz:(DataW.weightsEach Tryz.prog (Tryz.f3.params.toList++Rows.fnClkFoldSpec.plain.varTypes Tryz.prog) (ds++gs)).all (·<=reachBytes)=true:=hsz0;have hval:∀ (j:Nat) t v,Tryz.f3.params[j]?=some t->args[j]?=some v->Value.okWide Tryz.prog W .any base t v:=hval0;have hW':=hW;obtain ⟨p,q,hA0,hV,rfl,hfz,hnd⟩:=hW;have hA:DataW.TrodAll enc Tryz.prog W 0 (fun _=>true) true Tryz.f3.params.toList args.toList ds p:=hA0;rw [Tryz.params3] at hA hval hsz;obtain ⟨v0,vs0,d0,ds0,p0,q0,hargs,rfl,rfl,h0,r0⟩:=trodAll_cons hA;obtain ⟨rfl,rfl,rfl⟩:=trodAll_nil r0;obtain rfl:args=#[v0]:=by cases args; simp_all
 obtain ⟨rfl,rfl⟩:=trodVars_none hV;obtain ⟨a0,len0,cap0,rfl⟩:=okWide_slice Tryz.underlying22 (hval 0 22 v0 rfl rfl);have k0:=h0;have lt0:∀ x∈p0,x.block<W.heap.size:=by obtain ⟨m,hm⟩:=k0; exact DataW.trod_lt m _ _ _ hm
 obtain ⟨bs0,b0⟩:=xmi hsz (j:=0) rfl rfl Tryz.underlying22 Tryz.underlying5 h0;have hcall:=(Cc.law_clkFold bs0).2 W (fun b=>b<W.heap.size) none _ [] (xru (facts hsh hL)) (.cons (f:=[]) (.pone b0) (.nil)) (.inl rfl) xzl (by simp) (fun b hb=>⟨hb,fun i hi=>by cases hi⟩);refine hcall.mono ?_;rintro e W' ⟨v,rfl,Z',f,g,hfrm,_,_,hres,_⟩;have bel:=xrs hfrm
 cases hres with
 | one h =>
   cases h with
   | prim _ =>
     exact ⟨_,rfl,_,_,_,[],_,[],hW',trodAll_mk1 (shut_bool Tryz.underlying4 _),(trodAll_cons_mk (Below.trod laidOut (by kernel_rfl) (x0e (by kernel_rfl)) k0 bel lt0) (trodAll_mk0)),rfl,bel.frame _,fun h=>by cases h⟩
theorem closed:joinedFacts Tryz.prog 3 Tryz.f3 Rows.fnClkFoldSpec Rows.fnClkFoldRow=true:=by
 unfold joinedFacts
 repeat' (with_reducible refine Bool.and_eq_true_iff.2 ⟨?_,?_⟩)
 all_goals (as_aux_lemma=>kernel_rfl)
theorem over:Rows.fnClkFoldRow.holds Tryz.pinned (OpenSpec.ofChange Rows.fnClkFoldSpec) :=
 OpenClaim.holds_of_wide 3 Tryz.f3 rfl rfl rfl rfl rfl rfl rfl ⟨rfl,rfl,rfl,rfl,rfl⟩ rfl rfl rfl rfl rfl (by as_aux_lemma=>kernel_rfl) Tryz.func3 closed
  (x0e (by as_aux_lemma=>kernel_rfl)) (by unfold Func.isWrapper; first|(rw [if_pos (by decide +kernel)]; kernel_rfl)|(rw [if_neg (by decide +kernel)]; exact ⟨rfl,rfl⟩))
  (fun os started H enc _=>lifted os started H enc)
end Go.Proofs.YtnigojkdmmeglaaGreatDoor.fnClkFold
namespace Go.Proofs.YtnigojkdmmeglaaGreatDoor
open Go Go.AM
theorem fnClkFold_holds:Rows.FnClkFoldCardSaid :=
 Claim7.holds_tied_plain_at .later [] [.data, .data, .data] true (true, "54f9d5a698478062707da89aa4e6486c85ae70dedcb5d600d69d2320a62e97d8") false
  fnClkFold.over (fun _ h=>by cases h) (by as_aux_lemma=>kernel_rfl) (fun _ h=>by cases h) fnClkFold_row_tie rfl ⟨rfl,rfl⟩ (by as_aux_lemma=>kernel_rfl) rfl
  (fun f fn hf hfn=>by
    obtain rfl : f = 3 := xys ((show Tryz.prog.funcNamed "loop.example/concord/laws.FnClkFold" = some 3 by as_aux_lemma => kernel_rfl).symm.trans hf) |>.symm
    obtain rfl:fn=Tryz.f3:=(xys (Tryz.func3.symm.trans hfn)).symm
    exact ⟨by as_aux_lemma=>kernel_rfl,fun j t ht=>by
     rw [Tryz.params3] at ht;have hm:t=22:=by
      match j,ht with
      | 0,ht=>simpa using ht.symm
      | n+1,ht=>simp at ht
     subst hm
     exact (show Tryz.prog.wantsStandIn 22=false by as_aux_lemma=>kernel_rfl)⟩)
  (by as_aux_lemma=>kernel_rfl)
end Go.Proofs.YtnigojkdmmeglaaGreatDoor
end
