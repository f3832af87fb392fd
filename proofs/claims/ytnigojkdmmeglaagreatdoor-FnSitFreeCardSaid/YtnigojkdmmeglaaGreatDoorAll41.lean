/- The laws FnMsgOk, FnSitFree: part 41 of 41. No conditions beyond the statement. -/
import Derived.Test.YtnigojkdmmeglaaGreatDoorTie
import Derived.Test.YtnigojkdmmeglaaGreatDoorCards
import Derived.Test.YtnigojkdmmeglaaGreatDoorAll39
set_option linter.unusedVariables false
set_option linter.unusedSimpArgs false
set_option maxRecDepth 100000
set_option maxHeartbeats 16000000
section
namespace Go.Proofs.YtnigojkdmmeglaaGreatDoor.fnSitFree
open Go Go.AM Go.RowKit Go.ChangeShapes Go.WideShapes Go.ChangeAt
theorem own:ownKnob Tryz.prog.godebug=none:=by kernel_rfl
theorem laidOut:laidOutB Tryz.prog=true:=by kernel_rfl
theorem facts {W:World} (hs:W.ShapedOpen Tryz.prog) (h:laidMetH Tryz.prog Rows.fnSitFreeRow.laid W):Facts Tryz.prog W:=by
 rw [MakeChecks.laidMetH_plain _ _ _ (by kernel_rfl)] at h;obtain ⟨ps,hv,_⟩:=h
 refine ⟨hs, fun _ => ?_, fun h => absurd (show Tryz.prog.globalNamed "strconv.ErrSyntax" = none by kernel_rfl) h, fun h => absurd (show Tryz.prog.globalNamed "strconv.ErrRange" = none by kernel_rfl) h⟩
 exact xb7 (g:=0) (t:=351) (e:=344) (n:=20) (by kernel_rfl) (by kernel_rfl) (by kernel_rfl) (by kernel_rfl) (by kernel_rfl) (by kernel_rfl) (l:=Rows.fnSitFreeRow.laid) (.tail _ (.tail _ (.head _))) hv
theorem lifted (os:Os) (started:os.Started) (H:Type) (enc:TypeId × Value->H) :
 ReturnsInHanded {} Tryz.checked os 5 .any (fun w args=>(Rows.fnSitFreeSpec.pre enc Tryz.prog Tryz.f5 [] false w args/\laidMetH Tryz.prog Rows.fnSitFreeRow.laid w)/\sizedMet enc Tryz.prog Tryz.f5 (OpenSpec.ofChange Rows.fnSitFreeSpec) false w args)
  (Rows.fnSitFreeSpec.post enc Tryz.prog Tryz.f5 false true false false):=by
 refine xcr (C:=Tryz.checked) (X:=fun w _=>laidMetH Tryz.prog Rows.fnSitFreeRow.laid w) (fun _ _ _ hh h=>h.of_heap hh) own started (by kernel_rfl) Tryz.func5
  (ChangeSpec.witness_shaped (enc:=enc) (C:=Tryz.checked) (os:=os) (X:=fun w _=>laidMetH Tryz.prog Rows.fnSitFreeRow.laid w) false (World.laidAll Tryz.prog os Rows.fnSitFreeRow.laid) #[.slice none 0 0] 8 (World.laidAll_os _ _ _)
    (World.shaped_of_ZipB (by kernel_rfl) (by kernel_rfl)) (by kernel_rfl) (by kernel_rfl) (by kernel_rfl)
    (by rw [MakeChecks.laidMetH_plain _ _ _ (by kernel_rfl)]; exact laidMet_laidAll _ (by kernel_rfl) (by kernel_rfl))) ?_
 intro W base args ds gs before hval0 hW hsz0 hL hsh;have hsz:(DataW.weightsEach Tryz.prog (Tryz.f5.params.toList++Rows.fnSitFreeSpec.plain.varTypes Tryz.prog) (ds++gs)).all (·<=reachBytes)=true:=hsz0;have hval:∀ (j:Nat) t v,Tryz.f5.params[j]?=some t->args[j]?=some v->Value.okWide Tryz.prog W .any base t v:=hval0;have hW':=hW;obtain ⟨p,q,hA0,hV,rfl,hfz,hnd⟩:=hW;have hA:DataW.TrodAll enc Tryz.prog W 0 (fun _=>true) true Tryz.f5.params.toList args.toList ds p:=hA0;rw [Tryz.params5] at hA hval hsz;obtain ⟨v0,vs0,d0,ds0,p0,q0,hargs,rfl,rfl,h0,r0⟩:=trodAll_cons hA;obtain ⟨rfl,rfl,rfl⟩:=trodAll_nil r0;obtain rfl:args=#[v0]:=by cases args; simp_all
 obtain ⟨rfl,rfl⟩:=trodVars_none hV;obtain ⟨a0,len0,cap0,rfl⟩:=okWide_slice Tryz.underlying22 (hval 0 22 v0 rfl rfl);have k0:=h0;have lt0:∀ x∈p0,x.block<W.heap.size:=by obtain ⟨m,hm⟩:=k0; exact DataW.trod_lt m _ _ _ hm
 obtain ⟨bs0,b0⟩:=xb8 hsz (j:=0) rfl rfl Tryz.underlying22 Tryz.underlying5 h0;have hcall:=(Cc.law_sitFree bs0).2 W (fun b=>b<W.heap.size) none _ [] (xjd (facts hsh hL)) (.cons (f:=[]) (.pone b0) (.nil)) (.inl rfl) x09 (by simp) (fun b hb=>⟨hb,fun i hi=>by cases hi⟩);refine hcall.mono ?_;rintro e W' ⟨v,rfl,Z',f,g,hfrm,_,_,hres,_⟩;have bel:=xjc hfrm
 cases hres with
 | one h =>
   cases h with
   | prim _ =>
     exact ⟨_,rfl,_,_,_,[],_,[],hW',trodAll_mk1 (shut_bool Tryz.underlying4 _),(trodAll_cons_mk (Below.trod laidOut (by kernel_rfl) (x1j (by kernel_rfl)) k0 bel lt0) (trodAll_mk0)),rfl,bel.frame _,fun h=>by cases h⟩
theorem closed:joinedFacts Tryz.prog 5 Tryz.f5 Rows.fnSitFreeSpec Rows.fnSitFreeRow=true:=by
 unfold joinedFacts
 repeat' (with_reducible refine Bool.and_eq_true_iff.2 ⟨?_,?_⟩)
 all_goals (as_aux_lemma=>kernel_rfl)
theorem over:Rows.fnSitFreeRow.holds Tryz.pinned (OpenSpec.ofChange Rows.fnSitFreeSpec) :=
 OpenClaim.holds_of_wide 5 Tryz.f5 rfl rfl rfl rfl rfl rfl rfl ⟨rfl,rfl,rfl,rfl,rfl⟩ rfl rfl rfl rfl rfl (by as_aux_lemma=>kernel_rfl) Tryz.func5 closed
  (x1j (by as_aux_lemma=>kernel_rfl)) (by unfold Func.isWrapper; first|(rw [if_pos (by decide +kernel)]; kernel_rfl)|(rw [if_neg (by decide +kernel)]; exact ⟨rfl,rfl⟩))
  (fun os started H enc _=>lifted os started H enc)
end Go.Proofs.YtnigojkdmmeglaaGreatDoor.fnSitFree
namespace Go.Proofs.YtnigojkdmmeglaaGreatDoor
open Go Go.AM
theorem fnSitFree_holds:Rows.FnSitFreeCardSaid :=
 Claim7.holds_tied_plain_at .later [] [.data, .data, .data] true (true, "54f9d5a698478062707da89aa4e6486c85ae70dedcb5d600d69d2320a62e97d8") false
  fnSitFree.over (fun _ h=>by cases h) (by as_aux_lemma=>kernel_rfl) (fun _ h=>by cases h) fnSitFree_row_tie rfl ⟨rfl,rfl⟩ (by as_aux_lemma=>kernel_rfl) rfl
  (fun f fn hf hfn=>by
    obtain rfl : f = 5 := x0f ((show Tryz.prog.funcNamed "loop.example/concord/laws.FnSitFree" = some 5 by as_aux_lemma => kernel_rfl).symm.trans hf) |>.symm
    obtain rfl:fn=Tryz.f5:=(x0f (Tryz.func5.symm.trans hfn)).symm
    exact ⟨by as_aux_lemma=>kernel_rfl,fun j t ht=>by
     rw [Tryz.params5] at ht;have hm:t=22:=by
      match j,ht with
      | 0,ht=>simpa using ht.symm
      | n+1,ht=>simp at ht
     subst hm
     exact (show Tryz.prog.wantsStandIn 22=false by as_aux_lemma=>kernel_rfl)⟩)
  (by as_aux_lemma=>kernel_rfl)
end Go.Proofs.YtnigojkdmmeglaaGreatDoor
end
