/- The law FnExactSerSame (part 5 of 7). Conditions: none beyond the statement's own. -/
import Derived.Test.YtjkemkpghacdoaaGreatDoorEsa4
set_option linter.unusedVariables false
set_option linter.unusedSimpArgs false
section
namespace Cc
open Go Go.AM
set_option maxRecDepth 100000
set_option maxHeartbeats 4000000
theorem log_1 (p : Plan) (hc : inB p.Clients 0 4 = true) (x : LogD) : Sem P 177 [(.pure, .agg (aO x)), (.pure, .one (.fp [] (aPl p) 0))] [] (B (!(callB p x.Call && resOk x.Res))) := by
  refine fn_okR (E := E0) E0_tab E0_ord (fn := Go.Proofs.Tryz.f177) (by kernel_rfl) (by kernel_rfl) (fun hb => ?_)
  conv => whnf
  repeat' first | ((first|refine sN ?_|refine Dr.cons ?_|(refine Dr.nil ?_;refine drawIf (by kernel_rfl) ?_)|refine vN rfl ?_|refine Vc.draw rfl (by kernel_rfl) ?_|refine mkSl (by omega) (by omega) ?_);conv=>whnf) | (refine ifB_i (fun _=>?_) (fun _=>?_)<;>conv=>whnf) | ((first | refine ⟨_, impl_callOk p x.Call hc, ?_⟩ | refine ⟨_, impl_resOk x.Res, ?_⟩);conv=>whnf)
  all_goals exact rB (by simp_all)
theorem log_any_ix (p : Plan) (hc : inB p.Clients 0 4 = true) (l : List LogD) : Sem P 281 [(.pure, .one (sOs l)), (.pure, .one (.fn 177 [.fp [] (aPl p) 0]))] [] (I (idxOf (fun (x : LogD) => !(callB p x.Call && resOk x.Res)) l)) := by
  refine fn_okR (E := E0) E0_tab E0_ord (fn := Go.Proofs.Tryz.f281) (by kernel_rfl) (by kernel_rfl) (fun hb => ?_)
  have la : (l.map eO).length = l.length := List.length_map ..
  have hb1 : (l.map eO).length ≤ 1125899906842624 := hb.1.1
  conv => whnf
  (repeat' first | ((first|refine sN ?_|refine Dr.cons ?_|(refine Dr.nil ?_;refine drawIf (by kernel_rfl) ?_)|refine vN rfl ?_|refine Vc.draw rfl (by kernel_rfl) ?_|refine mkSl (by omega) (by omega) ?_);conv=>whnf))
  refine Vc.loop { i : Nat // ∀ j, j < i → j < l.length → (fun (x : LogD) => !(callB p x.Call && resOk x.Res)) (l.getD j default) = false } (fun i => updL [0, 1, 7] [(8, I i.1)] []) (fun i => l.length - i.1) ⟨0, by simp⟩ ?_ (fun i => ?_)
  · repeat' (first | exact True.intro | ((conv => whnf); first | exact True.intro | refine ⟨by rfl, ?_⟩ | refine ⟨?_, ?_⟩))
  · have hi := i.2
    conv => whnf
    (repeat' first | ((first|refine sN ?_|refine Dr.cons ?_|(refine Dr.nil ?_;refine drawIf (by kernel_rfl) ?_)|refine vN rfl ?_|refine Vc.draw rfl (by kernel_rfl) ?_|refine mkSl (by omega) (by omega) ?_);conv=>whnf))
    refine ifB_d (fun g => ?_) (fun g => ?_)
    all_goals conv => whnf
    · repeat' first | ((first|refine sN ?_|refine Dr.cons ?_|(refine Dr.nil ?_;refine drawIf (by kernel_rfl) ?_)|refine vN rfl ?_|refine Vc.draw rfl (by kernel_rfl) ?_|refine mkSl (by omega) (by omega) ?_);conv=>whnf) | (refine ifB_i (fun _=>?_) (fun _=>?_)<;>conv=>whnf) | ((first | refine ixN (enc := eO) default (by omega) ?_ | refine ⟨_, log_1 p hc _, ?_⟩ | refine w64 (by omega) (by omega) ?_);conv=>whnf)
      · rename_i h
        exact rI' (idx_hit (p := fun (x : LogD) => !(callB p x.Call && resOk x.Res)) default (by omega) h fun j hj => hi j hj (by omega)).symm
      · rename_i h
        refine ⟨⟨i.1 + 1, fun j hj hl => ?_⟩, ?_, ?_⟩
        · by_cases hji : j < i.1
          · exact hi j hji hl
          · obtain rfl : j = i.1 := by omega
            exact h
        · simp only; omega
        · repeat' (first | exact True.intro | ((conv => whnf); first | exact True.intro | refine ⟨by rfl, ?_⟩ | refine ⟨?_, ?_⟩))
    · (repeat' first | ((first|refine sN ?_|refine Dr.cons ?_|(refine Dr.nil ?_;refine drawIf (by kernel_rfl) ?_)|refine vN rfl ?_|refine Vc.draw rfl (by kernel_rfl) ?_|refine mkSl (by omega) (by omega) ?_);conv=>whnf))
      exact rI' (idx_none (p := fun (x : LogD) => !(callB p x.Call && resOk x.Res)) default fun j hj => hi j (by omega) hj).symm
theorem log_any (p : Plan) (hc : inB p.Clients 0 4 = true) (l : List LogD) : Sem P 176 [(.pure, .one (sOs l)), (.pure, .one (.fn 177 [.fp [] (aPl p) 0]))] [] (B (l.any fun (x : LogD) => !(callB p x.Call && resOk x.Res))) := by
  refine fn_okR (E := E0) E0_tab E0_ord (fn := Go.Proofs.Tryz.f176) (by kernel_rfl) (by kernel_rfl) (fun hb => ?_)
  conv => whnf
  repeat' first | ((first|refine sN ?_|refine Dr.cons ?_|(refine Dr.nil ?_;refine drawIf (by kernel_rfl) ?_)|refine vN rfl ?_|refine Vc.draw rfl (by kernel_rfl) ?_|refine mkSl (by omega) (by omega) ?_);conv=>whnf) | (refine ifB_i (fun _=>?_) (fun _=>?_)<;>conv=>whnf) | (refine ⟨_, log_any_ix p hc l, ?_⟩;conv=>whnf)
  exact rB (idx_any _ _)
theorem impl_logOk (p : Plan) (hc : inB p.Clients 0 4 = true) (l : List LogD) : Sem P 76 [(.pure, .agg (aPl p)), (.pure, .one (sOs l))] [] (B (logB p l)) := by
  refine fn_okR (E := E0) E0_tab E0_ord (fn := Go.Proofs.Tryz.f76) (by kernel_rfl) (by kernel_rfl) (fun hb => ?_)
  have la : (l.map eO).length = l.length := List.length_map ..
  conv => whnf
  repeat' first | ((first|refine sN ?_|refine Dr.cons ?_|(refine Dr.nil ?_;refine drawIf (by kernel_rfl) ?_)|refine vN rfl ?_|refine Vc.draw rfl (by kernel_rfl) ?_|refine mkSl (by omega) (by omega) ?_);conv=>whnf) | (refine ifB_i (fun _=>?_) (fun _=>?_)<;>conv=>whnf) | (refine ⟨_, log_any p hc l, ?_⟩;conv=>whnf)
  all_goals first
    | (refine rB ?_; rw [any_all]; simp_all [logB]; intros; omega)
    | (refine rB ?_; simp_all [logB]; intros; omega)
theorem spec_log (p : Plan) (hc : inB p.Clients 0 4 = true) (l : List LogD) : Sem P 78 [(.pure, .agg (aPl p)), (.pure, .one (sOs l))] [] (B (logB p l)) := by
  refine fn_okR (E := E0) E0_tab E0_ord (fn := Go.Proofs.Tryz.f78) (by kernel_rfl) (by kernel_rfl) (fun hb => ?_)
  have la : (l.map eO).length = l.length := List.length_map ..
  have hb1 : (l.map eO).length ≤ 1125899906842624 := (hb.2.1).1
  conv => whnf
  repeat' first | ((first|refine sN ?_|refine Dr.cons ?_|(refine Dr.nil ?_;refine drawIf (by kernel_rfl) ?_)|refine vN rfl ?_|refine Vc.draw rfl (by kernel_rfl) ?_|refine mkSl (by omega) (by omega) ?_);conv=>whnf) | (refine ifB_i (fun _=>?_) (fun _=>?_)<;>conv=>whnf)
  · refine rB ?_; simp_all [logB]; intros; omega
  · rename_i h
    refine Vc.loop1 (fun (i : Nat) => i ≤ l.length ∧ ∀ j, j < i → (fun x => callB p x.Call && resOk x.Res) (l.getD j default) = true) (fun i => updL [1, 2] [(5, I i)] []) (fun i => l.length - i) 0 ⟨by omega, fun j hj => absurd hj (Nat.not_lt_zero j)⟩ ?_ (fun i hi => ?_)
    · repeat' (first | exact True.intro | ((conv => whnf); first | exact True.intro | refine ⟨by rfl, ?_⟩ | refine ⟨?_, ?_⟩))
    · obtain ⟨hi, ho⟩ := hi
      have hlm : (l.map eO).length = l.length := List.length_map ..
      conv => whnf
      (repeat' first | ((first|refine sN ?_|refine Dr.cons ?_|(refine Dr.nil ?_;refine drawIf (by kernel_rfl) ?_)|refine vN rfl ?_|refine Vc.draw rfl (by kernel_rfl) ?_|refine mkSl (by omega) (by omega) ?_);conv=>whnf))
      refine ifB_d (fun g => ?_) (fun g => ?_)
      all_goals conv => whnf
      · repeat' first | ((first|refine sN ?_|refine Dr.cons ?_|(refine Dr.nil ?_;refine drawIf (by kernel_rfl) ?_)|refine vN rfl ?_|refine Vc.draw rfl (by kernel_rfl) ?_|refine mkSl (by omega) (by omega) ?_);conv=>whnf) | (refine ifB_i (fun _=>?_) (fun _=>?_)<;>conv=>whnf) | ((first | refine ixN (enc := eO) default (by omega) ?_ | refine ⟨_, spec_call p (l.getD i default).Call hc, ?_⟩ | refine ⟨_, spec_resOk (l.getD i default).Res, ?_⟩ | refine w64 (by first | omega | (dsimp only; omega)) (by first | omega | (dsimp only; omega)) ?_);conv=>whnf)
        all_goals first
          | (refine ⟨i + 1, ⟨by omega, fun j hj => ?_⟩, by simp only; omega, ?_⟩
             · by_cases h' : j < i
               · exact ho j h'
               · obtain rfl : j = i := by omega
                 clear ho
                 simp_all
             · repeat' (first | exact True.intro | ((conv => whnf); first | exact True.intro | refine ⟨by rfl, ?_⟩ | refine ⟨?_, ?_⟩)))
          | (have hp : (fun x => callB p x.Call && resOk x.Res) (l.getD i default) = false := by (clear ho; simp_all )
             have hn : l.all (fun x => callB p x.Call && resOk x.Res) = false := all_not default (j := i) (by omega) hp
             exact rB (by simp only [logB, hn, Bool.and_false]))
      · have hall : l.all (fun x => callB p x.Call && resOk x.Res) = true := all_get default fun j hj => ho j (by omega)
        repeat' first | ((first|refine sN ?_|refine Dr.cons ?_|(refine Dr.nil ?_;refine drawIf (by kernel_rfl) ?_)|refine vN rfl ?_|refine Vc.draw rfl (by kernel_rfl) ?_|refine mkSl (by omega) (by omega) ?_);conv=>whnf) | (refine ifB_i (fun _=>?_) (fun _=>?_)<;>conv=>whnf) | ((first | refine ⟨_, spec_call p (l.getD i default).Call hc, ?_⟩ | refine ⟨_, spec_resOk (l.getD i default).Res, ?_⟩ | refine w64 (by first | omega | (dsimp only; omega)) (by first | omega | (dsimp only; omega)) ?_);conv=>whnf)
        (have h6 : l.length ≤ 100 := by simp at h; omega); exact rB (by simp only [logB, hall, Bool.and_true, decide_eq_true h6])
end Cc
end
section
namespace Cc
open Go Go.AM
set_option maxRecDepth 100000
set_option maxHeartbeats 4000000
theorem plan_clients {p : Plan} (h : planOk p = true) : inB p.Clients 0 4 = true := by
  simp only [planOk, Bool.and_eq_true] at h
  have := inB_iff.1 h.1.1.1
  exact inB_iff.2 (by omega)
theorem plan_start {p : Plan} (h : planOk p = true) : p.Start.length = 3 := by
  simp only [planOk, Bool.and_eq_true] at h
  exact (within_iff.1 h.1.2).1
theorem logB_iff {p : Plan} {l : List LogD} : logB p l = true ↔ l.length ≤ 100 ∧ ∀ x ∈ l, callB p x.Call = true ∧ resOk x.Res = true := by
  simp [logB]
theorem call_act {p : Plan} {c : Call} {q : Prop} (h : callB p c = true ∧ q) : 0 ≤ c.Act ∧ c.Act < p.Acts.length := by
  have h := h.1
  simp only [callB, Bool.and_eq_true] at h
  have := inB_iff.1 h.1.2
  omega
theorem app_res (l : List Rslt) (r : Rslt) : l.map eR ++ [eR r] = (l ++ [r]).map eR := by simp
theorem impl_serRun (p : Plan) (l : List LogD) (h : (planOk p && logB p l) = true) : Sem P 13 [(.pure, .agg (aPl p)), (.pure, .one (sOs l))] [] (.tup [(false, [sRs (serRun p l).1]), (false, [fI (serRun p l).2])]) := by
  have e0 : serRun p l = serGo p l p.Start := by rw [serRun, if_pos h]
  obtain ⟨hp, hl⟩ : planOk p = true ∧ logB p l = true := by simpa using h
  have hc : inB p.Clients 0 4 = true := plan_clients hp
  have hs : p.Start.length = 3 := plan_start hp
  obtain ⟨h100, hcall⟩ := logB_iff.1 hl
  rw [e0]
  refine fn_okR (E := E0) E0_tab E0_ord (fn := Go.Proofs.Tryz.f13) (by kernel_rfl) (by kernel_rfl) (fun hb => ?_)
  have la : (l.map eO).length = l.length := List.length_map ..
  have lp : (p.Acts.map eA).length = p.Acts.length := List.length_map ..
  have ls := ints_len p.Start
  conv => whnf
  repeat' first | ((first|refine sN ?_|refine Dr.cons ?_|(refine Dr.nil ?_;refine drawIf (by kernel_rfl) ?_)|refine vN rfl ?_|refine Vc.draw rfl (by kernel_rfl) ?_|refine mkSl (by omega) (by omega) ?_);conv=>whnf) | (refine ifB_i (fun _=>?_) (fun _=>?_)<;>conv=>whnf) | ((first | refine ⟨_, impl_planOk p, ?_⟩ | refine ⟨_, impl_logOk p hc l, ?_⟩ | refine ⟨_, ints_clone p.Start (by omega), ?_⟩);conv=>whnf)
  · rename_i g; rw [hp] at g; cases g
  · rename_i g; rw [hl] at g; cases g
  · refine Vc.loop3 (fun (i : Nat) (rs : List Rslt) (vals : List Int) => i ≤ l.length ∧ rs.length = i ∧ serGo p l p.Start = (rs ++ (serGo p (l.drop i) vals).1, (serGo p (l.drop i) vals).2)) (fun i rs vals => updL [2, 4, 5, 24, 25, 51, 52] [(26, I i), (6, .one (.ref 256000)), (7, .one (fI vals))] [(256000, .arr 37 (rs.map eR) false)]) (fun i _ _ => l.length - i) 0 [] p.Start ⟨by omega, rfl, rfl⟩ ?_ (fun i rs vals hi => ?_)
    · repeat' (first | exact True.intro | ((conv => whnf); first | exact True.intro | refine ⟨by rfl, ?_⟩ | refine ⟨?_, ?_⟩))
    · obtain ⟨hi, hr, hg⟩ := hi
      have lr : (rs.map eR).length = rs.length := List.length_map ..
      conv => whnf
      (repeat' first | ((first|refine sN ?_|refine Dr.cons ?_|(refine Dr.nil ?_;refine drawIf (by kernel_rfl) ?_)|refine vN rfl ?_|refine Vc.draw rfl (by kernel_rfl) ?_|refine mkSl (by omega) (by omega) ?_);conv=>whnf))
      refine ifB_d (fun g => ?_) (fun g => ?_)
      all_goals conv => whnf
      · have hil : i < l.length := by omega
        obtain ⟨x, hx⟩ : ∃ x, l[i]? = some x := ⟨_, List.getElem?_eq_getElem hil⟩
        have hxc := hcall x (List.mem_of_getElem? hx)
        have hd : l.drop i = x :: l.drop (i + 1) := by
          rw [List.drop_eq_getElem_cons hil]
          rw [List.getElem?_eq_getElem hil] at hx
          rw [Option.some.inj hx]
        rw [hd, serGo] at hg
        have hact := call_act hxc
        repeat' first | ((first|refine sN ?_|refine Dr.cons ?_|(refine Dr.nil ?_;refine drawIf (by kernel_rfl) ?_)|refine vN rfl ?_|refine Vc.draw rfl (by kernel_rfl) ?_|refine mkSl (by omega) (by omega) ?_);conv=>whnf) | (refine ifB_i (fun _=>?_) (fun _=>?_)<;>conv=>whnf) | ((first | refine ixE (enc := eO) hx ?_ | refine ixI (enc := eA) (L := p.Acts) [] hact.1 hact.2 ?_ | refine ⟨_, impl_actRun (p.Acts.getD x.Call.Act.toNat []) vals x.Call.Args, ?_⟩ | refine w64 (by first | omega | (dsimp only; omega)) (by first | omega | (dsimp only; omega)) ?_);conv=>whnf) | (refine apN (by simp; omega) ?_;conv=>whnf)
        refine ⟨i + 1, rs ++ [(actRun (p.Acts.getD x.Call.Act.toNat []) vals x.Call.Args).1], (actRun (p.Acts.getD x.Call.Act.toNat []) vals x.Call.Args).2, ⟨by omega, by simp [hr], by rw [hg]; simp⟩, by simp only; omega, ?_⟩
        repeat' (first|exact True.intro|((conv=>whnf);first|exact True.intro|refine ⟨by rfl, ?_⟩|refine ⟨by first|omega|(show (_ : Int) = _;first|omega|(dsimp only;omega)) | exact app_res _ _, ?_⟩ | refine ⟨?_, ?_⟩))
      · repeat' first | ((first|refine sN ?_|refine Dr.cons ?_|(refine Dr.nil ?_;refine drawIf (by kernel_rfl) ?_)|refine vN rfl ?_|refine Vc.draw rfl (by kernel_rfl) ?_|refine mkSl (by omega) (by omega) ?_);conv=>whnf) | (refine ifB_i (fun _=>?_) (fun _=>?_)<;>conv=>whnf)
        have e : i = l.length := by omega
        subst e
        rw [List.drop_length, serGo] at hg
        exact ⟨by rw [hg]; simp, rfl⟩
theorem spec_serRun (p : Plan) (l : List LogD) (h : (planOk p && logB p l) = true) : Sem P 14 [(.pure, .agg (aPl p)), (.pure, .one (sOs l))] [] (.tup [(false, [sRs (serRun p l).1]), (false, [fI (serRun p l).2])]) := by
  have e0 : serRun p l = serGo p l p.Start := by rw [serRun, if_pos h]
  obtain ⟨hp, hl⟩ : planOk p = true ∧ logB p l = true := by simpa using h
  have hc : inB p.Clients 0 4 = true := plan_clients hp
  have hs : p.Start.length = 3 := plan_start hp
  obtain ⟨h100, hcall⟩ := logB_iff.1 hl
  rw [e0]
  refine fn_okR (E := { E0 with fz := [(5, [256192])] }) E0_tab E0_ord (fn := Go.Proofs.Tryz.f14) (by kernel_rfl) (by kernel_rfl) (fun hb => ?_)
  have la : (l.map eO).length = l.length := List.length_map ..
  have lp : (p.Acts.map eA).length = p.Acts.length := List.length_map ..
  have ls := ints_len p.Start
  conv => whnf
  repeat' first | ((first|refine sN ?_|refine Dr.cons ?_|(refine Dr.nil ?_;refine drawIf (by kernel_rfl) ?_)|refine vN rfl ?_|refine Vc.draw rfl (by kernel_rfl) ?_|refine mkSl (by omega) (by omega) ?_);conv=>whnf) | (refine ifB_i (fun _=>?_) (fun _=>?_)<;>conv=>whnf) | ((first | refine ⟨_, spec_planOk p, ?_⟩ | refine ⟨_, spec_log p hc l, ?_⟩);conv=>whnf) | (refine apN (by simp; omega) ?_;conv=>whnf) | (refine apP (prim_ints _) ?_;conv=>whnf)
  · rename_i g; rw [hp] at g; cases g
  · rename_i g; rw [hl] at g; cases g
  · refine Vc.loop3 (fun (i : Nat) (rs : List Rslt) (vals : List Int) => i ≤ l.length ∧ rs.length = i ∧ serGo p l p.Start = (rs ++ (serGo p (l.drop i) vals).1, (serGo p (l.drop i) vals).2)) (fun i rs vals => updL [1, 2, 4, 5, 59, 60] [(8, I i), (7, .one (.ref 320000)), (6, .one (fI vals))] [(320000, .arr 37 (rs.map eR) false)]) (fun i _ _ => l.length - i) 0 [] p.Start ⟨by omega, rfl, rfl⟩ ?_ (fun i rs vals hi => ?_)
    · repeat' (first | exact True.intro | ((conv => whnf); first | exact True.intro | refine ⟨by rfl, ?_⟩ | refine ⟨?_, ?_⟩))
    · obtain ⟨hi, hr, hg⟩ := hi
      have lr : (rs.map eR).length = rs.length := List.length_map ..
      conv => whnf
      (repeat' first | ((first|refine sN ?_|refine Dr.cons ?_|(refine Dr.nil ?_;refine drawIf (by kernel_rfl) ?_)|refine vN rfl ?_|refine Vc.draw rfl (by kernel_rfl) ?_|refine mkSl (by omega) (by omega) ?_);conv=>whnf))
      refine ifB_d (fun g => ?_) (fun g => ?_)
      all_goals conv => whnf
      · have hil : i < l.length := by omega
        obtain ⟨x, hx⟩ : ∃ x, l[i]? = some x := ⟨_, List.getElem?_eq_getElem hil⟩
        have hxc := hcall x (List.mem_of_getElem? hx)
        have hd : l.drop i = x :: l.drop (i + 1) := by
          rw [List.drop_eq_getElem_cons hil]
          rw [List.getElem?_eq_getElem hil] at hx
          rw [Option.some.inj hx]
        rw [hd, serGo] at hg
        have hact := call_act hxc
        repeat' first | ((first|refine sN ?_|refine Dr.cons ?_|(refine Dr.nil ?_;refine drawIf (by kernel_rfl) ?_)|refine vN rfl ?_|refine Vc.draw rfl (by kernel_rfl) ?_|refine mkSl (by omega) (by omega) ?_);conv=>whnf) | (refine ifB_i (fun _=>?_) (fun _=>?_)<;>conv=>whnf) | ((first | refine ixE (enc := eO) hx ?_ | refine ixI (enc := eA) (L := p.Acts) [] hact.1 hact.2 ?_ | refine ⟨_, spec_actRun (p.Acts.getD x.Call.Act.toNat []) vals x.Call.Args, ?_⟩ | refine w64 (by first | omega | (dsimp only; omega)) (by first | omega | (dsimp only; omega)) ?_);conv=>whnf) | (refine apN (by simp; omega) ?_;conv=>whnf)
        refine ⟨i + 1, rs ++ [(actRun (p.Acts.getD x.Call.Act.toNat []) vals x.Call.Args).1], (actRun (p.Acts.getD x.Call.Act.toNat []) vals x.Call.Args).2, ⟨by omega, by simp [hr], by rw [hg]; simp⟩, by simp only; omega, ?_⟩
        repeat' (first|exact True.intro|((conv=>whnf);first|exact True.intro|refine ⟨by rfl, ?_⟩|refine ⟨by first|omega|(show (_ : Int) = _;first|omega|(dsimp only;omega)) | exact app_res _ _, ?_⟩ | refine ⟨?_, ?_⟩))
      · repeat' first | ((first|refine sN ?_|refine Dr.cons ?_|(refine Dr.nil ?_;refine drawIf (by kernel_rfl) ?_)|refine vN rfl ?_|refine Vc.draw rfl (by kernel_rfl) ?_|refine mkSl (by omega) (by omega) ?_);conv=>whnf) | (refine ifB_i (fun _=>?_) (fun _=>?_)<;>conv=>whnf)
        have e : i = l.length := by omega
        subst e
        rw [List.drop_length, serGo] at hg
        exact ⟨by rw [hg]; simp, rfl⟩
end Cc
end
section
namespace Cc
open Go Go.AM
set_option maxRecDepth 100000
set_option maxHeartbeats 8000000
abbrev aRu (acts : List (List Line)) : List AV := [sAs acts, sPs (partsOf acts), sBs (pinsOf acts)]
theorem ints_z {α : Type} (l : List α) : ((l.length : Int) == 0) = l.isEmpty := by
  cases l with
  | nil => rfl
  | cons a r => simp only [List.length_cons, List.isEmpty_cons, beq_eq_false_iff_ne, ne_eq]; omega
theorem impl_isSite (p : Plan) (n : Int) : Sem P 197 [(.pure, .agg (aPl p)), (.pure, I n)] [] (B (isSite p n)) := by
  refine fn_okR (E := E0) E0_tab E0_ord (fn := Go.Proofs.Tryz.f197) (by kernel_rfl) (by kernel_rfl) (fun hb => ?_)
  have la := ints_len p.Gives
  have hb1 : (ints p.Gives).length ≤ 1125899906842624 := (hb.1 (sI p.Gives) (by simp)).1
  conv => whnf
  repeat' first | ((first|refine sN ?_|refine Dr.cons ?_|(refine Dr.nil ?_;refine drawIf (by kernel_rfl) ?_)|refine vN rfl ?_|refine Vc.draw rfl (by kernel_rfl) ?_|refine mkSl (by omega) (by omega) ?_);conv=>whnf) | (refine ifB_i (fun _=>?_) (fun _=>?_)<;>conv=>whnf) | ((first | refine ⟨_, impl_in _ _ _, ?_⟩ | refine w64 (by omega) (by omega) ?_);conv=>whnf)
  exact rB (by rw [la]; rfl)
theorem impl_resNone (r : Rslt) : Sem P 299 [(.pure, .agg (aR r))] [] (B r.none) := by
  refine fn_okR (E := E0) E0_tab E0_ord (fn := Go.Proofs.Tryz.f299) (by kernel_rfl) (by kernel_rfl) (fun hb => ?_)
  conv => whnf
  repeat' first | ((first|refine sN ?_|refine Dr.cons ?_|(refine Dr.nil ?_;refine drawIf (by kernel_rfl) ?_)|refine vN rfl ?_|refine Vc.draw rfl (by kernel_rfl) ?_|refine mkSl (by omega) (by omega) ?_);conv=>whnf) | (refine ifB_i (fun _=>?_) (fun _=>?_)<;>conv=>whnf)
  all_goals exact rB (by simp_all [Rslt.none, ints_z])
theorem impl_callNone (c : Call) : Sem P 201 [(.pure, .agg (aC c))] [] (B c.none) := by
  refine fn_okR (E := E0) E0_tab E0_ord (fn := Go.Proofs.Tryz.f201) (by kernel_rfl) (by kernel_rfl) (fun hb => ?_)
  conv => whnf
  repeat' first | ((first|refine sN ?_|refine Dr.cons ?_|(refine Dr.nil ?_;refine drawIf (by kernel_rfl) ?_)|refine vN rfl ?_|refine Vc.draw rfl (by kernel_rfl) ?_|refine mkSl (by omega) (by omega) ?_);conv=>whnf) | (refine ifB_i (fun _=>?_) (fun _=>?_)<;>conv=>whnf)
  all_goals exact rB (by simp_all [Call.none, ints_z])
theorem impl_doneOne (d : Done) : Sem P 200 [(.pure, .agg (aD d))] [] (B d.ok) := by
  refine fn_okR (E := E0) E0_tab E0_ord (fn := Go.Proofs.Tryz.f200) (by kernel_rfl) (by kernel_rfl) (fun hb => ?_)
  conv => whnf
  repeat' first | ((first|refine sN ?_|refine Dr.cons ?_|(refine Dr.nil ?_;refine drawIf (by kernel_rfl) ?_)|refine vN rfl ?_|refine Vc.draw rfl (by kernel_rfl) ?_|refine mkSl (by omega) (by omega) ?_);conv=>whnf) | (refine ifB_i (fun _=>?_) (fun _=>?_)<;>conv=>whnf) | ((first | refine ⟨_, impl_resNone d.Res, ?_⟩ | refine ⟨_, impl_in _ _ _, ?_⟩ | refine ⟨_, impl_resOk d.Res, ?_⟩);conv=>whnf)
  all_goals exact rB (by simp_all [Done.ok])
theorem done_1 (d : Done) : Sem P 298 [(.pure, .agg (aD d))] [] (B (!d.ok)) := by
  refine fn_okR (E := E0) E0_tab E0_ord (fn := Go.Proofs.Tryz.f298) (by kernel_rfl) (by kernel_rfl) (fun hb => ?_)
  conv => whnf
  repeat' first | ((first|refine sN ?_|refine Dr.cons ?_|(refine Dr.nil ?_;refine drawIf (by kernel_rfl) ?_)|refine vN rfl ?_|refine Vc.draw rfl (by kernel_rfl) ?_|refine mkSl (by omega) (by omega) ?_);conv=>whnf) | (refine ifB_i (fun _=>?_) (fun _=>?_)<;>conv=>whnf) | (refine ⟨_, impl_doneOne d, ?_⟩;conv=>whnf)
  exact ⟨rfl, rfl⟩
theorem dones_any_ix  (l : List Done) : Sem P 352 [(.pure, .one (sDs l)), (.pure, .one (.fn 298 []))] [] (I (idxOf (fun (x : Done) => !x.ok) l)) := by
  refine fn_okR (E := E0) E0_tab E0_ord (fn := Go.Proofs.Tryz.f352) (by kernel_rfl) (by kernel_rfl) (fun hb => ?_)
  have la : (l.map eD).length = l.length := List.length_map ..
  have hb1 : (l.map eD).length ≤ 1125899906842624 := hb.1.1
  conv => whnf
  (repeat' first | ((first|refine sN ?_|refine Dr.cons ?_|(refine Dr.nil ?_;refine drawIf (by kernel_rfl) ?_)|refine vN rfl ?_|refine Vc.draw rfl (by kernel_rfl) ?_|refine mkSl (by omega) (by omega) ?_);conv=>whnf))
  refine Vc.loop { i : Nat // ∀ j, j < i → j < l.length → (fun (x : Done) => !x.ok) (l.getD j default) = false } (fun i => updL [0, 1, 7] [(8, I i.1)] []) (fun i => l.length - i.1) ⟨0, by simp⟩ ?_ (fun i => ?_)
  · repeat' (first | exact True.intro | ((conv => whnf); first | exact True.intro | refine ⟨by rfl, ?_⟩ | refine ⟨?_, ?_⟩))
  · have hi := i.2
    conv => whnf
    (repeat' first | ((first|refine sN ?_|refine Dr.cons ?_|(refine Dr.nil ?_;refine drawIf (by kernel_rfl) ?_)|refine vN rfl ?_|refine Vc.draw rfl (by kernel_rfl) ?_|refine mkSl (by omega) (by omega) ?_);conv=>whnf))
    refine ifB_d (fun g => ?_) (fun g => ?_)
    all_goals conv => whnf
    · repeat' first | ((first|refine sN ?_|refine Dr.cons ?_|(refine Dr.nil ?_;refine drawIf (by kernel_rfl) ?_)|refine vN rfl ?_|refine Vc.draw rfl (by kernel_rfl) ?_|refine mkSl (by omega) (by omega) ?_);conv=>whnf) | (refine ifB_i (fun _=>?_) (fun _=>?_)<;>conv=>whnf) | ((first | refine ixN (enc := eD) default (by omega) ?_ | refine ⟨_, done_1 _, ?_⟩ | refine w64 (by omega) (by omega) ?_);conv=>whnf)
      · rename_i h
        exact rI' (idx_hit (p := fun (x : Done) => !x.ok) default (by omega) h fun j hj => hi j hj (by omega)).symm
      · rename_i h
        refine ⟨⟨i.1 + 1, fun j hj hl => ?_⟩, ?_, ?_⟩
        · by_cases hji : j < i.1
          · exact hi j hji hl
          · obtain rfl : j = i.1 := by omega
            exact h
        · simp only; omega
        · repeat' (first | exact True.intro | ((conv => whnf); first | exact True.intro | refine ⟨by rfl, ?_⟩ | refine ⟨?_, ?_⟩))
    · (repeat' first | ((first|refine sN ?_|refine Dr.cons ?_|(refine Dr.nil ?_;refine drawIf (by kernel_rfl) ?_)|refine vN rfl ?_|refine Vc.draw rfl (by kernel_rfl) ?_|refine mkSl (by omega) (by omega) ?_);conv=>whnf))
      exact rI' (idx_none (p := fun (x : Done) => !x.ok) default fun j hj => hi j (by omega) hj).symm
theorem dones_any  (l : List Done) : Sem P 297 [(.pure, .one (sDs l)), (.pure, .one (.fn 298 []))] [] (B (l.any fun (x : Done) => !x.ok)) := by
  refine fn_okR (E := E0) E0_tab E0_ord (fn := Go.Proofs.Tryz.f297) (by kernel_rfl) (by kernel_rfl) (fun hb => ?_)
  conv => whnf
  repeat' first | ((first|refine sN ?_|refine Dr.cons ?_|(refine Dr.nil ?_;refine drawIf (by kernel_rfl) ?_)|refine vN rfl ?_|refine Vc.draw rfl (by kernel_rfl) ?_|refine mkSl (by omega) (by omega) ?_);conv=>whnf) | (refine ifB_i (fun _=>?_) (fun _=>?_)<;>conv=>whnf) | (refine ⟨_, dones_any_ix  l, ?_⟩;conv=>whnf)
  exact rB (idx_any _ _)
theorem impl_doneOk (p : Plan) (l : List Done) : Sem P 199 [(.pure, .agg (aPl p)), (.pure, .one (sDs l))] [] (B (doneOk p l)) := by
  refine fn_okR (E := E0) E0_tab E0_ord (fn := Go.Proofs.Tryz.f199) (by kernel_rfl) (by kernel_rfl) (fun hb => ?_)
  have la : (l.map eD).length = l.length := List.length_map ..
  conv => whnf
  repeat' first | ((first|refine sN ?_|refine Dr.cons ?_|(refine Dr.nil ?_;refine drawIf (by kernel_rfl) ?_)|refine vN rfl ?_|refine Vc.draw rfl (by kernel_rfl) ?_|refine mkSl (by omega) (by omega) ?_);conv=>whnf) | (refine ifB_i (fun _=>?_) (fun _=>?_)<;>conv=>whnf) | (refine ⟨_, dones_any l, ?_⟩;conv=>whnf)
  all_goals exact rB (by simp_all [doneOk, any_all])
theorem seqs_1 (n : Int) : Sem P 300 [(.pure, I n)] [] (B (!inB n 0 300)) := by
  refine fn_okR (E := E0) E0_tab E0_ord (fn := Go.Proofs.Tryz.f300) (by kernel_rfl) (by kernel_rfl) (fun hb => ?_)
  conv => whnf
  repeat' first | ((first|refine sN ?_|refine Dr.cons ?_|(refine Dr.nil ?_;refine drawIf (by kernel_rfl) ?_)|refine vN rfl ?_|refine Vc.draw rfl (by kernel_rfl) ?_|refine mkSl (by omega) (by omega) ?_);conv=>whnf) | (refine ifB_i (fun _=>?_) (fun _=>?_)<;>conv=>whnf) | (refine ⟨_, impl_in _ _ _, ?_⟩;conv=>whnf)
  exact ⟨rfl, rfl⟩
theorem seqs_any_ix  (l : List Int) : Sem P 286 [(.pure, .one (sI l)), (.pure, .one (.fn 300 []))] [] (I (idxOf (fun (x : Int) => !inB x 0 300) l)) := by
  refine fn_okR (E := E0) E0_tab E0_ord (fn := Go.Proofs.Tryz.f286) (by kernel_rfl) (by kernel_rfl) (fun hb => ?_)
  have la : (ints l).length = l.length := List.length_map ..
  have hb1 : (ints l).length ≤ 1125899906842624 := hb.1.1
  conv => whnf
  (repeat' first | ((first|refine sN ?_|refine Dr.cons ?_|(refine Dr.nil ?_;refine drawIf (by kernel_rfl) ?_)|refine vN rfl ?_|refine Vc.draw rfl (by kernel_rfl) ?_|refine mkSl (by omega) (by omega) ?_);conv=>whnf))
  refine Vc.loop { i : Nat // ∀ j, j < i → j < l.length → (fun (x : Int) => !inB x 0 300) (l.getD j default) = false } (fun i => updL [0, 1, 7] [(8, I i.1)] []) (fun i => l.length - i.1) ⟨0, by simp⟩ ?_ (fun i => ?_)
  · repeat' (first | exact True.intro | ((conv => whnf); first | exact True.intro | refine ⟨by rfl, ?_⟩ | refine ⟨?_, ?_⟩))
  · have hi := i.2
    conv => whnf
    (repeat' first | ((first|refine sN ?_|refine Dr.cons ?_|(refine Dr.nil ?_;refine drawIf (by kernel_rfl) ?_)|refine vN rfl ?_|refine Vc.draw rfl (by kernel_rfl) ?_|refine mkSl (by omega) (by omega) ?_);conv=>whnf))
    refine ifB_d (fun g => ?_) (fun g => ?_)
    all_goals conv => whnf
    · repeat' first | ((first|refine sN ?_|refine Dr.cons ?_|(refine Dr.nil ?_;refine drawIf (by kernel_rfl) ?_)|refine vN rfl ?_|refine Vc.draw rfl (by kernel_rfl) ?_|refine mkSl (by omega) (by omega) ?_);conv=>whnf) | (refine ifB_i (fun _=>?_) (fun _=>?_)<;>conv=>whnf) | ((first | refine ixN (enc := rI) default (by omega) ?_ | refine ⟨_, seqs_1 _, ?_⟩ | refine w64 (by omega) (by omega) ?_);conv=>whnf)
      · rename_i h
        exact rI' (idx_hit (p := fun (x : Int) => !inB x 0 300) default (by omega) h fun j hj => hi j hj (by omega)).symm
      · rename_i h
        refine ⟨⟨i.1 + 1, fun j hj hl => ?_⟩, ?_, ?_⟩
        · by_cases hji : j < i.1
          · exact hi j hji hl
          · obtain rfl : j = i.1 := by omega
            exact h
        · simp only; omega
        · repeat' (first | exact True.intro | ((conv => whnf); first | exact True.intro | refine ⟨by rfl, ?_⟩ | refine ⟨?_, ?_⟩))
    · (repeat' first | ((first|refine sN ?_|refine Dr.cons ?_|(refine Dr.nil ?_;refine drawIf (by kernel_rfl) ?_)|refine vN rfl ?_|refine Vc.draw rfl (by kernel_rfl) ?_|refine mkSl (by omega) (by omega) ?_);conv=>whnf))
      exact rI' (idx_none (p := fun (x : Int) => !inB x 0 300) default fun j hj => hi j (by omega) hj).symm
theorem seqs_any  (l : List Int) : Sem P 188 [(.pure, .one (sI l)), (.pure, .one (.fn 300 []))] [] (B (l.any fun (x : Int) => !inB x 0 300)) := by
  refine fn_okR (E := E0) E0_tab E0_ord (fn := Go.Proofs.Tryz.f188) (by kernel_rfl) (by kernel_rfl) (fun hb => ?_)
  conv => whnf
  repeat' first | ((first|refine sN ?_|refine Dr.cons ?_|(refine Dr.nil ?_;refine drawIf (by kernel_rfl) ?_)|refine vN rfl ?_|refine Vc.draw rfl (by kernel_rfl) ?_|refine mkSl (by omega) (by omega) ?_);conv=>whnf) | (refine ifB_i (fun _=>?_) (fun _=>?_)<;>conv=>whnf) | (refine ⟨_, seqs_any_ix  l, ?_⟩;conv=>whnf)
  exact rB (idx_any _ _)
theorem impl_seqsOk (p : Plan) (l : List Int) : Sem P 202 [(.pure, .agg (aPl p)), (.pure, AI l)] [] (B (seqsOk p l)) := by
  refine fn_okR (E := E0) E0_tab E0_ord (fn := Go.Proofs.Tryz.f202) (by kernel_rfl) (by kernel_rfl) (fun hb => ?_)
  have la := ints_len l
  conv => whnf
  repeat' first | ((first|refine sN ?_|refine Dr.cons ?_|(refine Dr.nil ?_;refine drawIf (by kernel_rfl) ?_)|refine vN rfl ?_|refine Vc.draw rfl (by kernel_rfl) ?_|refine mkSl (by omega) (by omega) ?_);conv=>whnf) | (refine ifB_i (fun _=>?_) (fun _=>?_)<;>conv=>whnf) | (refine ⟨_, seqs_any l, ?_⟩;conv=>whnf)
  all_goals exact rB (by simp_all [seqsOk, any_all])
theorem impl_gotNone (g : Got) : Sem P 203 [(.pure, .agg (aG g))] [] (B g.none) := by
  refine fn_okR (E := E0) E0_tab E0_ord (fn := Go.Proofs.Tryz.f203) (by kernel_rfl) (by kernel_rfl) (fun hb => ?_)
  conv => whnf
  repeat' first | ((first|refine sN ?_|refine Dr.cons ?_|(refine Dr.nil ?_;refine drawIf (by kernel_rfl) ?_)|refine vN rfl ?_|refine Vc.draw rfl (by kernel_rfl) ?_|refine mkSl (by omega) (by omega) ?_);conv=>whnf) | (refine ifB_i (fun _=>?_) (fun _=>?_)<;>conv=>whnf)
  all_goals exact rB (by simp_all [Got.none, ints_z])
theorem impl_siteOkR (p : Plan) (s : Site) (n : Int) : Sem P 101 [(.pure, .agg (aPl p)), (.pure, .agg (aRu p.Acts)), (.pure, .agg (aS s)), (.pure, I n)] [] (B (isSite p n && siteB p s n)) := by
  refine fn_okR (E := E0) E0_tab E0_ord (fn := Go.Proofs.Tryz.f101) (by kernel_rfl) (by kernel_rfl) (fun hb => ?_)
  conv => whnf
  repeat' first | ((first|refine sN ?_|refine Dr.cons ?_|(refine Dr.nil ?_;refine drawIf (by kernel_rfl) ?_)|refine vN rfl ?_|refine Vc.draw rfl (by kernel_rfl) ?_|refine mkSl (by omega) (by omega) ?_);conv=>whnf) | (refine ifB_i (fun _=>?_) (fun _=>?_)<;>conv=>whnf) | ((first | refine ⟨_, impl_isSite p n, ?_⟩ | refine ⟨_, impl_in _ _ _, ?_⟩ | refine ⟨_, impl_valOk _, ?_⟩ | refine ⟨_, impl_treaty p s.Base, ?_⟩ | refine ⟨_, impl_keeps p.Acts (partsOf p.Acts) _ _ _ ⟨s.Base, p.Gives⟩ n s.Added, ?_⟩ | refine ⟨_, impl_doneOk p s.Done, ?_⟩);conv=>whnf)
  all_goals exact rB (by simp_all [siteB, keeps, Plan.treaty, pinsOf])
end Cc
end
section
namespace Cc
theorem valOk3 {v : List Int} (h : valOk v = true) : ∃ a b c, v = [a, b, c] ∧ (-10000 ≤ a ∧ a ≤ 10000) ∧ (-10000 ≤ b ∧ b ≤ 10000) ∧ (-10000 ≤ c ∧ c ≤ 10000) := within3 h
structure Others (parts : List (List Int)) (pins : List Bool) (O : Int) (o : List Int) : Prop where
  len : o.length = 3
  bd : ∀ p ∈ parts, -O ≤ dot p o ∧ dot p o ≤ O
  pin : unpinned pins o = true
theorem getD_mem {α : Type} {l : List α} {i : Nat} {d : α} (h : i < l.length) : l.getD i d ∈ l := by
  rw [List.getD_eq_getElem?_getD, List.getElem?_eq_getElem h]; exact List.getElem_mem h
end Cc
end
section
namespace Cc
theorem goLines_bd (g : List Int) (hg : argOk g = true) : ∀ (n : Nat) (l : List Line), l.length ≤ n → (∀ x ∈ l, x.ok = true) → ∀ (a b c : Int) (tells : List Int) (m : Int), 0 ≤ m → (m + 10) * pw l.length ≤ 1177666490 →
    (-m ≤ a ∧ a ≤ m) → (-m ≤ b ∧ b ≤ m) → (-m ≤ c ∧ c ≤ m) → (∀ x ∈ tells, -1177666490 ≤ x ∧ x ≤ 1177666490) → ∀ own ts, goLines g l [a, b, c] tells = some (own, ts) →
    own.length = 3 ∧ (∀ x ∈ ts, -1177666490 ≤ x ∧ x ≤ 1177666490) ∧ ts.length ≤ tells.length + l.length := by
  intro n
  induction n with
  | zero =>
    intro l hl hok a b c tells m hm0 hm ha hb hc ht own ts h
    cases l with
    | cons _ _ => simp at hl
    | nil => unfold goLines at h; cases h; exact ⟨rfl, ht, by simp⟩
  | succ n ih =>
    intro l hl hok a b c tells m hm0 hm ha hb hc ht own ts h
    cases l with
    | nil => unfold goLines at h; cases h; exact ⟨rfl, ht, by simp⟩
    | cons x l =>
      have hx := hok x (by simp)
      have hl' : l.length ≤ n := by simpa using hl
      have hok' : ∀ y ∈ l, y.ok = true := fun y hy => hok y (by simp [hy])
      rw [List.length_cons, pw_succ] at hm
      have hpl := pw_pos l.length
      have hmul : (m + 10) * (7 * pw l.length) = (7 * m + 70) * pw l.length := by
        rw [← Int.mul_assoc, Int.mul_comm (m + 10) 7, Int.mul_add]; rfl
      have hm2 : (7 * m + 70) * pw l.length ≤ 1177666490 := by omega
      have hm3 : 7 * m + 70 ≤ 1177666490 := by
        have : (7 * m + 70) * 1 ≤ (7 * m + 70) * pw l.length := Int.mul_le_mul_of_nonneg_left hpl (by omega)
        omega
      have hm4 : (m + 10) * pw l.length ≤ 1177666490 := by
        have : (m + 10) * pw l.length ≤ (7 * m + 70) * pw l.length := Int.mul_le_mul_of_nonneg_right (by omega) (by omega)
        omega
      unfold goLines at h
      split at h
      · simp at h
      · rename_i h4
        obtain ⟨c0, c1, c2, d0, d1, k, hf, e0, e1, e2, e3, e4, e5⟩ := small_bd (line_small hx h4)
        obtain ⟨g0, g1, rfl, hg0, hg1⟩ := within2 hg
        have q0 := mul_bd e0 ha
        have q1 := mul_bd e1 hb
        have q2 := mul_bd e2 hc
        have q3 := mul_bd e3 hg0
        have q4 := mul_bd e4 hg1
        have hat : x.Form.at [a, b, c] [g0, g1] = c0 * a + (c1 * b + (c2 * c + 0)) + (d0 * g0 + (d1 * g1 + 0)) + k := by rw [hf]; rfl
        have hbd : -(6 * m + 56) ≤ x.Form.at [a, b, c] [g0, g1] ∧ x.Form.at [a, b, c] [g0, g1] ≤ 6 * m + 56 := by rw [hat]; omega
        split at h
        · rename_i h1
          split at h
          · have hlen : (l.drop x.Skip.toNat).length ≤ l.length := by simp
            have h1 := pw_mono hlen
            obtain ⟨k1, k2, k3⟩ := ih (l.drop x.Skip.toNat) (by omega) (fun y hy => hok' y (List.mem_of_mem_drop hy)) a b c tells m hm0 (by
              have : (m + 10) * pw (l.drop x.Skip.toNat).length ≤ (m + 10) * pw l.length := Int.mul_le_mul_of_nonneg_left h1 (by omega)
              omega) ha hb hc ht own ts h
            exact ⟨k1, k2, by simp only [List.length_cons]; omega⟩
          · obtain ⟨k1, k2, k3⟩ := ih l hl' hok' a b c tells m hm0 hm4 ha hb hc ht own ts h
            exact ⟨k1, k2, by simp only [List.length_cons]; omega⟩
        · split at h
          · rename_i h2
            have hpot := line_pot hx h2
            have hm5 : (7 * m + 56 + 10) * pw l.length ≤ 1177666490 := by
              have : (7 * m + 56 + 10) * pw l.length ≤ (7 * m + 70) * pw l.length := Int.mul_le_mul_of_nonneg_right (by omega) (by omega)
              omega
            obtain e | e | e : x.Pot.toNat = 0 ∨ x.Pot.toNat = 1 ∨ x.Pot.toNat = 2 := by omega
            · rw [e] at h
              obtain ⟨k1, k2, k3⟩ := ih l hl' hok' (a + x.Form.at [a, b, c] [g0, g1]) b c tells (7 * m + 56) (by omega) hm5 (by omega) (by omega) (by omega) ht own ts h
              exact ⟨k1, k2, by simp only [List.length_cons]; omega⟩
            · rw [e] at h
              obtain ⟨k1, k2, k3⟩ := ih l hl' hok' a (b + x.Form.at [a, b, c] [g0, g1]) c tells (7 * m + 56) (by omega) hm5 (by omega) (by omega) (by omega) ht own ts h
              exact ⟨k1, k2, by simp only [List.length_cons]; omega⟩
            · rw [e] at h
              obtain ⟨k1, k2, k3⟩ := ih l hl' hok' a b (c + x.Form.at [a, b, c] [g0, g1]) tells (7 * m + 56) (by omega) hm5 (by omega) (by omega) (by omega) ht own ts h
              exact ⟨k1, k2, by simp only [List.length_cons]; omega⟩
          · obtain ⟨k1, k2, k3⟩ := ih l hl' hok' a b c (tells ++ [x.Form.at [a, b, c] [g0, g1]]) m hm0 hm4 ha hb hc (by
              intro y hy
              rcases List.mem_append.1 hy with hy | hy
              · exact ht y hy
              · simp only [List.mem_singleton] at hy; subst hy; omega) own ts h
            refine ⟨k1, k2, ?_⟩
            simp only [List.length_append, List.length_cons, List.length_nil] at k3 ⊢
            omega
theorem actRun_ok {act : List Line} {v g : List Int} (hact : actOk act = true) (hv : valOk v = true) (hg : argOk g = true) : resOk (actRun act v g).1 = true ∧ valOk (actRun act v g).2 = true ∧ (actRun act v g).1.Code ≠ 0 := by
  unfold actRun
  simp only [hact, hv, hg, Bool.and_self, if_true]
  obtain ⟨h1, h2, h3⟩ := actOk_iff.1 hact
  cases h : goLines g act v [] with
  | none => simp only [endOf]; exact ⟨by decide, hv, by decide⟩
  | some p =>
    obtain ⟨own, ts⟩ := p
    obtain ⟨a, b, c, rfl, ha, hb, hc⟩ := valOk3 hv
    have hpw := pw_mono h2
    have h6 : pw 6 = 117649 := by decide
    obtain ⟨k1, k2, k3⟩ := goLines_bd g hg act.length act (Nat.le_refl _) h1 a b c [] 10000 (by omega) (by omega) ha hb hc (by simp) own ts h
    simp only [endOf]
    split
    · rename_i ho
      refine ⟨?_, ho, by simp⟩
      simp only [resOk, Bool.and_eq_true, inB_iff, within_iff, decide_eq_true_eq, Bool.or_eq_true]
      refine ⟨⟨⟨⟨by omega, by omega⟩, .inl trivial⟩, ?_⟩, trivial, fun x hx => ?_⟩
      · simp only [List.length_nil] at k3; omega
      · have := k2 x hx; omega
    · exact ⟨by simp [resOk, inB, within], hv, by simp⟩
end Cc
namespace Cc
theorem allI_iff {α : Type} {f : Int → α → Bool} : ∀ {i : Nat} {l : List α}, allI f i l = true ↔ ∀ (k : Nat) (x : α), l[k]? = some x → f (i + k : Nat) x = true
  | i, [] => by simp [allI]
  | i, a :: r => by
    simp only [allI, Bool.and_eq_true, allI_iff (i := i + 1) (l := r)]
    constructor
    · rintro ⟨h1, h2⟩ k x hk
      cases k with
      | zero => simp at hk; subst hk; exact h1
      | succ k => have := h2 k x (by simpa using hk); rw [show i + 1 + k = i + (k + 1) by omega] at this; exact this
    · intro h
      refine ⟨h 0 a rfl, fun k x hk => ?_⟩
      have := h (k + 1) x (by simpa using hk)
      rw [show i + 1 + k = i + (k + 1) by omega]; exact this
theorem getD_some {α : Type} {l : List α} {i : Nat} {d x : α} (h : l[i]? = some x) : l.getD i d = x := by
  rw [List.getD_eq_getElem?_getD, h]; rfl
structure PlanF (p : Plan) : Prop where
  ok : planOk p = true
  cl : 1 ≤ p.Clients ∧ p.Clients ≤ 4
  cat : catOk p.Acts = true
  g1 : 1 ≤ p.Gives.length ∧ p.Gives.length ≤ 3
  gv : givesOk p.Gives = true
  st : valOk p.Start = true
theorem planF {p : Plan} (h : planOk p = true) : PlanF p := by
  have h0 := h
  simp only [planOk, Bool.and_eq_true, inB_iff, trtOk] at h
  obtain ⟨⟨⟨h1, h2⟩, h3⟩, h4, h5⟩ := h
  refine ⟨h0, h1, h2, ?_, h5, h4⟩
  simp only [givesOk, Bool.and_eq_true, inB_iff] at h5
  have : (p.treaty p.Start).Gives.length = p.Gives.length := rfl
  omega
theorem callB_iff {p : Plan} {c : Call} : callB p c = true ↔ (0 ≤ c.Client ∧ c.Client ≤ p.Clients - 1) ∧ (1 ≤ c.Seq ∧ c.Seq ≤ 300) ∧ (0 ≤ c.Act ∧ c.Act ≤ p.Acts.length - 1) ∧ argOk c.Args = true := by
  simp only [callB, isClient, Bool.and_eq_true, inB_iff]
  constructor
  · rintro ⟨⟨⟨h1, h2⟩, h3⟩, h4⟩; exact ⟨h1, h2, h3, h4⟩
  · rintro ⟨h1, h2, h3, h4⟩; exact ⟨⟨⟨h1, h2⟩, h3⟩, h4⟩
inductive TryW (p : Plan) (s : Site) (i : Int) (c : Call) : Site × Rslt × List Msg → Prop
  | no (h : s.Up = false ∨ c.Client % p.Gives.length ≠ i ∨ c.Seq < (s.Done.getD c.Client.toNat Done.nil).Seq ∨ c.Seq > (s.Done.getD c.Client.toNat Done.nil).Seq + 1) : TryW p s i c (s, Rslt.nil, [])
  | was (hu : s.Up = true) (hh : c.Client % p.Gives.length = i) (h : c.Seq = (s.Done.getD c.Client.toNat Done.nil).Seq) : TryW p s i c (s, (s.Done.getD c.Client.toNat Done.nil).Res, [])
  | does {r : Rslt} {now : List Int} (hu : s.Up = true) (hh : c.Client % p.Gives.length = i) (h : c.Seq = (s.Done.getD c.Client.toNat Done.nil).Seq + 1) (hf : s.Frozen = false) (ha : alone p.Acts (p.treaty s.Base) i s.Added c.Act c.Args = (r, now, true)) :
      TryW p s i c ({ s with Added := now, Done := s.Done.set c.Client.toNat ⟨c.Seq, r⟩ }, r, [])
  | asks (hu : s.Up = true) (hh : c.Client % p.Gives.length = i) (h : c.Seq = (s.Done.getD c.Client.toNat Done.nil).Seq + 1) (hf : s.Frozen = true ∨ (alone p.Acts (p.treaty s.Base) i s.Added c.Act c.Args).2.2 = false) : TryW p s i c (s, Rslt.nil, [wantMsg c])
end Cc
end
section
namespace Cc
structure ClerkF (p : Plan) (c : Clerk) : Prop where
  r : 0 ≤ c.Round ∧ c.Round ≤ 200
  b : valOk c.Base = true
  d : doneOk p c.Done = true
  gl : c.Got.length = p.Gives.length
  g : allI (gotB p c.Base) 0 c.Got = true
  w : ∀ x ∈ c.Wants, callB p x = true
  ri : c.Wants.Pairwise fun a b => a.Client < b.Client
  up : c.Up = true ∨ (c.Wants = [] ∧ ∀ g ∈ c.Got, g.Has = false)
theorem actOk_at {p : Plan} (hp : PlanF p) {x : Call} (hx : callB p x = true) : actOk (p.Acts.getD x.Act.toNat []) = true := by
  obtain ⟨-, -, h3, -⟩ := callB_iff.1 hx
  have hc := hp.cat
  simp only [catOk, Bool.and_eq_true, List.all_eq_true] at hc
  exact hc.2 _ (getD_mem (by omega))
inductive FoldW (p : Plan) (c : Clerk) : Clerk × List (Call × Rslt) → Prop
  | no (h : readyB c = false ∨ c.Round = 200 ∨ valOk (given c) = false) : FoldW p c (c, [])
  | yes (h1 : readyB c = true) (h2 : c.Round ≠ 200) (h3 : valOk (given c) = true) : FoldW p c
    ({ Up := c.Up, Round := c.Round + 1, Base := (foldWants p c.Got c.Wants (given c) c.Done).1, Done := (foldWants p c.Got c.Wants (given c) c.Done).2.1, Wants := [], Got := List.replicate c.Got.length Got.nil }, (foldWants p c.Got c.Wants (given c) c.Done).2.2)
inductive HearW (p : Plan) (c : Clerk) (m : Msg) : Clerk × List Msg × List (Call × Rslt) → Prop
  | no (h : c.Up = false ∨ m.To ≠ -1) : HearW p c m (c, [], [])
  | want (hu : c.Up = true) (ht : m.To = -1) (h : m.Kind = 1) : HearW p c m ({ c with Wants := wantIn c.Wants m.Call }, [], [])
  | late (hu : c.Up = true) (ht : m.To = -1) (h : m.Kind ≠ 1) (h' : m.Round ≠ c.Round ∨ keeps p.Acts (p.treaty c.Base) m.From m.Vals = false) : HearW p c m (c, [], [])
  | give (hu : c.Up = true) (ht : m.To = -1) (h : m.Kind ≠ 1) (hr : m.Round = c.Round) (hk : keeps p.Acts (p.treaty c.Base) m.From m.Vals = true) : HearW p c m
    ((clerkFold p { c with Got := c.Got.set m.From.toNat ⟨true, m.Vals, m.Seqs⟩ }).1, if (clerkFold p { c with Got := c.Got.set m.From.toNat ⟨true, m.Vals, m.Seqs⟩ }).1.Round = c.Round then [] else pacts (clerkFold p { c with Got := c.Got.set m.From.toNat ⟨true, m.Vals, m.Seqs⟩ }).1,
      (clerkFold p { c with Got := c.Got.set m.From.toNat ⟨true, m.Vals, m.Seqs⟩ }).2)
structure WorldF (w : World) : Prop where
  p : PlanF w.Plan
  sl : w.Sites.length = w.Plan.Gives.length
  cl : (w.Clients.length : Int) = w.Plan.Clients
  nl : w.Net.length ≤ 30
  ll : w.Log.length ≤ 100
  l : ∀ x ∈ w.Log, callB w.Plan x.Call = true ∧ resOk x.Res = true
  s : allI (fun i s => siteB w.Plan s i) 0 w.Sites = true
  c : allI (clientB w.Plan) 0 w.Clients = true
  n : ∀ m ∈ w.Net, msgB w.Plan m = true
  k : ClerkF w.Plan w.Clerk
end Cc
end
section
namespace Cc
open Go Go.AM
set_option maxRecDepth 100000
set_option maxHeartbeats 8000000
theorem rising_get : ∀ {l : List Call}, rising l = true ↔ ∀ j, j + 1 < l.length → (l.getD j default).Client < (l.getD (j + 1) default).Client
  | [] => by simp [rising]
  | [a] => by simp [rising]
  | a :: b :: r => by
    have ih := rising_get (l := b :: r)
    simp only [rising, Bool.and_eq_true, decide_eq_true_eq, ih]
    constructor
    · rintro ⟨h1, h2⟩ j hj
      cases j with
      | zero => exact h1
      | succ j => exact h2 j (by simpa using hj)
    · intro h
      exact ⟨h 0 (by simp), fun j hj => h (j + 1) (by simpa using hj)⟩
theorem allI_get {α : Type} [Inhabited α] {f : Int → α → Bool} {l : List α} : allI f 0 l = true ↔ ∀ (j : Nat), j < l.length → f j (l.getD j default) = true := by
  rw [allI_iff]
  constructor
  · intro h j hj
    have := h j (l.getD j default) (by rw [List.getD_eq_getElem?_getD, List.getElem?_eq_getElem hj]; rfl)
    rw [Nat.zero_add] at this; exact this
  · intro h k x hk
    obtain ⟨hj, e⟩ := List.getElem?_eq_some_iff.1 hk
    have := h k hj
    rw [List.getD_eq_getElem?_getD, hk] at this
    rw [Nat.zero_add]; exact this
theorem all_getD {α : Type} [Inhabited α] {p : α → Bool} {l : List α} : l.all p = true ↔ ∀ j, j < l.length → p (l.getD j default) = true := by
  constructor
  · intro h j hj; exact List.all_eq_true.1 h _ (gd_mem hj)
  · intro h; exact all_get default h
theorem clerkB_iff {p : Plan} {c : Clerk} : clerkB p c = true ↔ ((inB c.Round 0 200 && valOk c.Base && doneOk p c.Done && decide (c.Got.length = p.Gives.length)) = true) ∧
    (∀ j, j < c.Wants.length → callB p (c.Wants.getD j default) = true ∧ (0 < j → (c.Wants.getD (j - 1) default).Client < (c.Wants.getD j default).Client) ∧ c.Up = true) ∧
    (∀ j, j < c.Got.length → ((c.Up && (c.Got.getD j default).Has && keeps p.Acts (p.treaty c.Base) j (c.Got.getD j default).Added && seqsOk p (c.Got.getD j default).Seqs) || (c.Got.getD j default).none) = true) := by
  unfold clerkB
  simp only [Bool.and_eq_true, Bool.or_eq_true, allI_get, rising_get, all_getD, decide_eq_true_eq]
  constructor
  · rintro ⟨⟨⟨⟨⟨⟨⟨h1, h2⟩, h3⟩, h4⟩, h5⟩, h6⟩, h7⟩, h8⟩
    refine ⟨⟨⟨⟨h1, h2⟩, h3⟩, h4⟩, fun j hj => ⟨h6 j hj, fun h0 => ?_, ?_⟩, fun j hj => ?_⟩
    · have := h7 (j - 1) (by omega)
      rw [show j - 1 + 1 = j from by omega] at this; exact this
    · rcases h8 with h8 | ⟨h8, _⟩
      · exact h8
      · cases hw : c.Wants with
        | nil => rw [hw] at hj; simp at hj
        | cons a r => rw [hw] at h8; cases h8
    · have h5 := h5 j hj
      unfold gotB at h5
      simp only [Bool.or_eq_true, Bool.and_eq_true] at h5
      rcases h5 with h5 | ⟨⟨h5, h5'⟩, h5''⟩
      · exact .inr h5
      · rcases h8 with h8 | ⟨_, h8⟩
        · exact .inl ⟨⟨⟨h8, h5⟩, h5'⟩, h5''⟩
        · have := h8 j hj; rw [h5] at this; cases this
  · rintro ⟨⟨⟨⟨h1, h2⟩, h3⟩, h4⟩, h5, h6⟩
    refine ⟨⟨⟨⟨⟨⟨⟨h1, h2⟩, h3⟩, h4⟩, fun j hj => ?_⟩, fun j hj => (h5 j hj).1⟩, fun j hj => ?_⟩, ?_⟩
    · have := h6 j hj
      unfold gotB
      simp only [Bool.or_eq_true, Bool.and_eq_true]
      rcases this with ⟨⟨⟨_, a⟩, b⟩, d⟩ | h
      · exact .inr ⟨⟨a, b⟩, d⟩
      · exact .inl h
    · have := (h5 (j + 1) hj).2.1 (by omega)
      simpa using this
    · cases hu : c.Up with
      | true => exact .inl rfl
      | false =>
        refine .inr ⟨?_, fun j hj => ?_⟩
        · cases hw : c.Wants with
          | nil => rfl
          | cons a r => have := (h5 0 (by rw [hw]; simp)).2.2; rw [hu] at this; cases this
        · have := h6 j hj
          rw [hu] at this
          simp only [Bool.false_eq_true, false_and, false_or] at this
          unfold Got.none at this
          simp only [Bool.and_eq_true] at this
          exact this.1.1
end Cc
end
section
namespace Cc
open Go Go.AM
set_option maxRecDepth 100000
set_option maxHeartbeats 8000000
theorem impl_clientOk (p : Plan) (x : Client) (n : Int) (hc : inB p.Clients 0 4 = true) : Sem P 102 [(.pure, .agg (aX x)), (.pure, .agg (aPl p)), (.pure, I n)] [] (B (clientB p n x)) := by
  by_cases h : Done.ok ⟨x.Seq, x.Res⟩ = true
  · have hs : 0 ≤ x.Seq ∧ x.Seq ≤ 300 := by
      unfold Done.ok at h
      split at h
      · rename_i e; simp only at e; omega
      · rw [Bool.and_eq_true] at h; have := inB_iff.1 h.1; simp only at this; omega
    refine fn_okR (E := E0) E0_tab E0_ord (fn := Go.Proofs.Tryz.f102) (by kernel_rfl) (by kernel_rfl) (fun hb => ?_)
    conv => whnf
    repeat' first | ((first|refine sN ?_|refine Dr.cons ?_|(refine Dr.nil ?_;refine drawIf (by kernel_rfl) ?_)|refine vN rfl ?_|refine Vc.draw rfl (by kernel_rfl) ?_|refine mkSl (by omega) (by omega) ?_);conv=>whnf) | (refine ifB_i (fun _=>?_) (fun _=>?_)<;>conv=>whnf) | ((first | refine ⟨_, impl_doneOne ⟨x.Seq, x.Res⟩, ?_⟩ | refine ⟨_, impl_callNone x.Call, ?_⟩ | refine ⟨_, impl_callOk p x.Call hc, ?_⟩ | refine w64 (by omega) (by omega) ?_);conv=>whnf)
    all_goals exact rB (by first | (simp_all [clientB]; done) | (simp_all [clientB]; rfl))
  · refine fn_okR (E := E0) E0_tab E0_ord (fn := Go.Proofs.Tryz.f102) (by kernel_rfl) (by kernel_rfl) (fun hb => ?_)
    conv => whnf
    repeat' first | ((first|refine sN ?_|refine Dr.cons ?_|(refine Dr.nil ?_;refine drawIf (by kernel_rfl) ?_)|refine vN rfl ?_|refine Vc.draw rfl (by kernel_rfl) ?_|refine mkSl (by omega) (by omega) ?_);conv=>whnf) | (refine ifB_i (fun _=>?_) (fun _=>?_)<;>conv=>whnf) | (refine ⟨_, impl_doneOne ⟨x.Seq, x.Res⟩, ?_⟩;conv=>whnf)
    all_goals first
      | exact rB (by simp_all [clientB])
      | (exfalso; simp_all; done)
theorem impl_msgOk (p : Plan) (x : Msg) (hc : inB p.Clients 0 4 = true) : Sem P 106 [(.pure, .agg (aPl p)), (.pure, .agg (aM x))] [] (B (msgB p x)) := by
  obtain ⟨k, to, from_, round, call, vals, seqs, done⟩ := x
  have hk : k = 1 ∨ k = 2 ∨ k = 3 ∨ k = 4 ∨ (k ≠ 1 ∧ k ≠ 2 ∧ k ≠ 3 ∧ k ≠ 4) := by omega
  rcases hk with rfl | rfl | rfl | rfl | hk
  all_goals refine fn_okR (E := E0) E0_tab E0_ord (fn := Go.Proofs.Tryz.f106) (by kernel_rfl) (by kernel_rfl) (fun hb => ?_)
  all_goals conv => whnf
  all_goals repeat' first | ((first|refine sN ?_|refine Dr.cons ?_|(refine Dr.nil ?_;refine drawIf (by kernel_rfl) ?_)|refine vN rfl ?_|refine Vc.draw rfl (by kernel_rfl) ?_|refine mkSl (by omega) (by omega) ?_);conv=>whnf) | (refine ifB_i (fun _=>?_) (fun _=>?_)<;>conv=>whnf) | ((first | refine ⟨_, impl_callNone call, ?_⟩ | refine ⟨_, impl_in _ _ _, ?_⟩ | refine ⟨_, impl_callOk p call hc, ?_⟩ | refine ⟨_, impl_isSite p _, ?_⟩ | refine ⟨_, impl_addedOk _, ?_⟩ | refine ⟨_, impl_valOk _, ?_⟩ | refine ⟨_, impl_seqsOk p seqs, ?_⟩ | refine ⟨_, impl_doneOk p done, ?_⟩);conv=>whnf)
  all_goals first
    | (refine rB ?_; simp_all [msgB, ints_z]; done)
    | (refine rB ?_; simp_all [msgB, ints_z, inB]; done)
    | (exfalso; simp_all; done)
end Cc
end
section
namespace Cc
open Go Go.AM
set_option maxRecDepth 100000
set_option maxHeartbeats 8000000
theorem clerk_no {p : Plan} {c : Clerk} (h : clerkB p c = true → False) : clerkB p c = false := by
  cases e : clerkB p c with
  | false => rfl
  | true => exact (h e).elim
theorem impl_clerkOkR (p : Plan) (c : Clerk) (hc : inB p.Clients 0 4 = true) : Sem P 103 [(.pure, .agg (aPl p)), (.pure, .agg (aRu p.Acts)), (.pure, .agg (aK c))] [] (B (clerkB p c)) := by
  have iff := @clerkB_iff p c
  have lw : (c.Wants.map eC).length = c.Wants.length := List.length_map ..
  have lg : (c.Got.map eG).length = c.Got.length := List.length_map ..
  have lp := ints_len p.Gives
  by_cases h0 : (inB c.Round 0 200 && valOk c.Base && doneOk p c.Done && decide (c.Got.length = p.Gives.length)) = true
  · refine fn_okR (E := E0) E0_tab E0_ord (fn := Go.Proofs.Tryz.f103) (by kernel_rfl) (by kernel_rfl) (fun hb => ?_)
    have hb1 : (c.Wants.map eC).length ≤ 1125899906842624 := (hb.2.2.1 (sCs c.Wants) (by simp)).1
    have hb2 : (c.Got.map eG).length ≤ 1125899906842624 := (hb.2.2.1 (sGs c.Got) (by simp)).1
    conv => whnf
    repeat' first | ((first|refine sN ?_|refine Dr.cons ?_|(refine Dr.nil ?_;refine drawIf (by kernel_rfl) ?_)|refine vN rfl ?_|refine Vc.draw rfl (by kernel_rfl) ?_|refine mkSl (by omega) (by omega) ?_);conv=>whnf) | (refine ifB_i (fun _=>?_) (fun _=>?_)<;>conv=>whnf) | ((first | refine ⟨_, impl_in _ _ _, ?_⟩ | refine ⟨_, impl_valOk _, ?_⟩ | refine ⟨_, impl_doneOk p c.Done, ?_⟩);conv=>whnf)
    all_goals first
      | (clear iff; exfalso; simp_all; done)
      | skip
    refine Vc.loop1 (fun (i : Nat) => i ≤ c.Wants.length ∧ ∀ j, j < i → callB p (c.Wants.getD j default) = true ∧ (0 < j → (c.Wants.getD (j - 1) default).Client < (c.Wants.getD j default).Client) ∧ c.Up = true) (fun i => updL [3, 4, 5, 9, 10, 11, 39, 40, 72, 73, 74, 75, 76, 77, 78, 79, 80, 81, 82, 83, 84, 85, 86, 87, 88, 89, 90, 91, 92, 93, 94, 95, 96, 97, 98, 99, 100, 101, 102, 103, 104, 105, 106, 107, 108, 109, 110] [(41, I i)] []) (fun i => c.Wants.length - i) 0 ⟨Nat.zero_le _, fun j hj => absurd hj (Nat.not_lt_zero j)⟩ ?_ (fun i hi => ?_)
    · repeat' (first|exact True.intro|((conv=>whnf);first|exact True.intro|refine ⟨by rfl, ?_⟩|refine ⟨by first|omega|(show (_ : Int) = _;first|omega|(dsimp only;omega)), ?_⟩ | refine ⟨?_, ?_⟩))
    · obtain ⟨hi, hall⟩ := hi
      conv => whnf
      (repeat' first | ((first|refine sN ?_|refine Dr.cons ?_|(refine Dr.nil ?_;refine drawIf (by kernel_rfl) ?_)|refine vN rfl ?_|refine Vc.draw rfl (by kernel_rfl) ?_|refine mkSl (by omega) (by omega) ?_);conv=>whnf))
      refine ifB_d (fun g => ?_) (fun g => ?_)
      all_goals conv => whnf
      · have hil : i < c.Wants.length := by omega
        have no : ∀ {q : Prop}, (callB p (c.Wants.getD i default) = true ∧ (0 < i → (c.Wants.getD (i - 1) default).Client < (c.Wants.getD i default).Client) ∧ c.Up = true → q) → (q → False) → clerkB p c = false := fun h1 h2 => clerk_no fun hB => h2 (h1 ((iff.1 hB).2.1 i hil))
        by_cases hz : i = 0
        · subst hz
          repeat' first | ((first|refine sN ?_|refine Dr.cons ?_|(refine Dr.nil ?_;refine drawIf (by kernel_rfl) ?_)|refine vN rfl ?_|refine Vc.draw rfl (by kernel_rfl) ?_|refine mkSl (by omega) (by omega) ?_);conv=>whnf) | (refine ifB_i (fun _=>?_) (fun _=>?_)<;>conv=>whnf) | ((first | refine ixN (enc := eC) default hil ?_ | refine ⟨_, impl_callOk p (c.Wants.getD 0 default) hc, ?_⟩ | refine w64 (by omega) (by omega) ?_);conv=>whnf)
          all_goals first
            | (refine rB ?_; rw [no id]; rintro ⟨a1, a2, a3⟩; clear no iff hall; simp_all; done)
            | (refine ⟨1, ⟨by omega, fun j hj => ?_⟩, by simp only; omega, ?_⟩
               · obtain rfl : j = 0 := by omega
                 clear no iff hall
                 exact ⟨by simp_all, fun h => absurd h (Nat.lt_irrefl 0), by simp_all⟩
               · repeat' (first|exact True.intro|((conv=>whnf);first|exact True.intro|refine ⟨by rfl, ?_⟩|refine ⟨by first|omega|(show (_ : Int) = _;first|omega|(dsimp only;omega)), ?_⟩ | refine ⟨?_, ?_⟩)))
        · have hz1 : ((i : Int) - 1).toNat = i - 1 := by omega
          repeat' first | ((first|refine sN ?_|refine Dr.cons ?_|(refine Dr.nil ?_;refine drawIf (by kernel_rfl) ?_)|refine vN rfl ?_|refine Vc.draw rfl (by kernel_rfl) ?_|refine mkSl (by omega) (by omega) ?_);conv=>whnf) | (refine ifB_i (fun _=>?_) (fun _=>?_)<;>conv=>whnf) | ((first | refine ixN (enc := eC) default hil ?_ | refine ⟨_, impl_callOk p (c.Wants.getD i default) hc, ?_⟩ | refine ixI (enc := eC) default (by omega) (by omega) ?_ | refine w64 (by omega) (by omega) ?_);conv=>whnf)
          all_goals first
            | (refine rB ?_; rw [no id]; rintro ⟨a1, a2, a3⟩; have a2 := a2 (by omega); clear no iff hall; simp_all; done)
            | (refine rB ?_; rw [no id]; rintro ⟨a1, a2, a3⟩; have a2 := a2 (by omega); clear no iff hall; simp_all; omega)
            | (refine ⟨i + 1, ⟨by omega, fun j hj => ?_⟩, by simp only; omega, ?_⟩
               · by_cases hji : j < i
                 · exact hall j hji
                 · obtain rfl : j = i := by omega
                   clear no iff hall
                   refine ⟨by simp_all, fun h => ?_, by simp_all⟩
                   first
                     | (simp_all; done)
                     | (exfalso; simp_all; omega)
               · repeat' (first|exact True.intro|((conv=>whnf);first|exact True.intro|refine ⟨by rfl, ?_⟩|refine ⟨by first|omega|(show (_ : Int) = _;first|omega|(dsimp only;omega)), ?_⟩ | refine ⟨?_, ?_⟩)))
      · have hW : ∀ j, j < c.Wants.length → callB p (c.Wants.getD j default) = true ∧ (0 < j → (c.Wants.getD (j - 1) default).Client < (c.Wants.getD j default).Client) ∧ c.Up = true := fun j hj => hall j (by omega)
        (repeat' first | ((first|refine sN ?_|refine Dr.cons ?_|(refine Dr.nil ?_;refine drawIf (by kernel_rfl) ?_)|refine vN rfl ?_|refine Vc.draw rfl (by kernel_rfl) ?_|refine mkSl (by omega) (by omega) ?_);conv=>whnf))
        refine Vc.loop1 (fun (k : Nat) => k ≤ c.Got.length ∧ ∀ j, j < k → ((c.Up && (c.Got.getD j default).Has && keeps p.Acts (p.treaty c.Base) j (c.Got.getD j default).Added && seqsOk p (c.Got.getD j default).Seqs) || (c.Got.getD j default).none) = true) (fun k => updL [3, 4, 5, 73, 74] [(75, I k)] []) (fun k => c.Got.length - k) 0 ⟨Nat.zero_le _, fun j hj => absurd hj (Nat.not_lt_zero j)⟩ ?_ (fun k hk => ?_)
        · repeat' (first|exact True.intro|((conv=>whnf);first|exact True.intro|refine ⟨by rfl, ?_⟩|refine ⟨by first|omega|(show (_ : Int) = _;first|omega|(dsimp only;omega)), ?_⟩ | refine ⟨?_, ?_⟩))
        · obtain ⟨hk, hal2⟩ := hk
          conv => whnf
          (repeat' first | ((first|refine sN ?_|refine Dr.cons ?_|(refine Dr.nil ?_;refine drawIf (by kernel_rfl) ?_)|refine vN rfl ?_|refine Vc.draw rfl (by kernel_rfl) ?_|refine mkSl (by omega) (by omega) ?_);conv=>whnf))
          refine ifB_d (fun g => ?_) (fun g => ?_)
          all_goals conv => whnf
          · have hkl : k < c.Got.length := by omega
            have no : ¬ ((c.Up && (c.Got.getD k default).Has && keeps p.Acts (p.treaty c.Base) k (c.Got.getD k default).Added && seqsOk p (c.Got.getD k default).Seqs) || (c.Got.getD k default).none) = true → clerkB p c = false := fun h2 => clerk_no fun hB => h2 ((iff.1 hB).2.2 k hkl)
            have hke : keeps p.Acts (p.treaty c.Base) k (c.Got.getD k default).Added = (trtKeeps ⟨c.Base, p.Gives⟩ (partsOf p.Acts) k (c.Got.getD k default).Added && unpinned (pinsOf p.Acts) (c.Got.getD k default).Added) := rfl
            have hkp : Sem P 198 [(.pure, .agg (aRu p.Acts)), (.pure, .agg (aT ⟨c.Base, p.Gives⟩)), (.pure, I k), (.pure, AI (c.Got.getD k default).Added)] [] (B (keeps p.Acts (p.treaty c.Base) k (c.Got.getD k default).Added)) := impl_keeps p.Acts (partsOf p.Acts) _ _ _ ⟨c.Base, p.Gives⟩ k (c.Got.getD k default).Added
            clear hke
            generalize hkb : keeps p.Acts (p.treaty c.Base) k (c.Got.getD k default).Added = kb at hkp no
            repeat' first | ((first|refine sN ?_|refine Dr.cons ?_|(refine Dr.nil ?_;refine drawIf (by kernel_rfl) ?_)|refine vN rfl ?_|refine Vc.draw rfl (by kernel_rfl) ?_|refine mkSl (by omega) (by omega) ?_);conv=>whnf) | (refine ifB_i (fun _=>?_) (fun _=>?_)<;>conv=>whnf) | ((first | refine ixN (enc := eG) default hkl ?_ | refine ⟨_, impl_treaty p c.Base, ?_⟩ | refine ⟨_, hkp, ?_⟩ | refine ⟨_, impl_seqsOk p (c.Got.getD k default).Seqs, ?_⟩ | refine ⟨_, impl_gotNone (c.Got.getD k default), ?_⟩ | refine w64 (by omega) (by omega) ?_);conv=>whnf)
            all_goals first
              | (refine rB ?_; symm; refine no ?_; clear no iff hall hal2 hW hkb hkp hb; simp_all; done)
              | (refine ⟨k + 1, ⟨by omega, fun j hj => ?_⟩, by simp only; omega, ?_⟩
                 · by_cases hjk : j < k
                   · exact hal2 j hjk
                   · obtain rfl : j = k := by omega
                     rw [hkb]
                     clear no iff hall hal2 hW hkb hkp hb
                     simp_all
                 · repeat' (first|exact True.intro|((conv=>whnf);first|exact True.intro|refine ⟨by rfl, ?_⟩|refine ⟨by first|omega|(show (_ : Int) = _;first|omega|(dsimp only;omega)), ?_⟩ | refine ⟨?_, ?_⟩)))
          · (repeat' first | ((first|refine sN ?_|refine Dr.cons ?_|(refine Dr.nil ?_;refine drawIf (by kernel_rfl) ?_)|refine vN rfl ?_|refine Vc.draw rfl (by kernel_rfl) ?_|refine mkSl (by omega) (by omega) ?_);conv=>whnf))
            refine rB ?_
            symm
            exact iff.2 ⟨h0, hW, fun j hj => hal2 j (by omega)⟩
  · refine fn_okR (E := E0) E0_tab E0_ord (fn := Go.Proofs.Tryz.f103) (by kernel_rfl) (by kernel_rfl) (fun hb => ?_)
    conv => whnf
    repeat' first | ((first|refine sN ?_|refine Dr.cons ?_|(refine Dr.nil ?_;refine drawIf (by kernel_rfl) ?_)|refine vN rfl ?_|refine Vc.draw rfl (by kernel_rfl) ?_|refine mkSl (by omega) (by omega) ?_);conv=>whnf) | (refine ifB_i (fun _=>?_) (fun _=>?_)<;>conv=>whnf) | ((first | refine ⟨_, impl_in _ _ _, ?_⟩ | refine ⟨_, impl_valOk _, ?_⟩ | refine ⟨_, impl_doneOk p c.Done, ?_⟩);conv=>whnf)
    all_goals first
      | (refine rB ?_; rw [clerk_no (fun hB => h0 (iff.1 hB).1)]; done)
      | (exfalso; refine h0 ?_; clear h0 iff; simp only [Bool.and_eq_true, decide_eq_true_eq]; simp_all; omega)
end Cc
end
section
namespace Cc
open Go Go.AM
set_option maxRecDepth 100000
set_option maxHeartbeats 8000000
theorem wld_1 (p : Plan) (m : Msg) (hc : inB p.Clients 0 4 = true) : Sem P 105 [(.pure, .agg (aM m)), (.pure, .one (.fp [] (aPl p) 0))] [] (B (!msgB p m)) := by
  refine fn_okR (E := E0) E0_tab E0_ord (fn := Go.Proofs.Tryz.f105) (by kernel_rfl) (by kernel_rfl) (fun hb => ?_)
  conv => whnf
  repeat' first | ((first|refine sN ?_|refine Dr.cons ?_|(refine Dr.nil ?_;refine drawIf (by kernel_rfl) ?_)|refine vN rfl ?_|refine Vc.draw rfl (by kernel_rfl) ?_|refine mkSl (by omega) (by omega) ?_);conv=>whnf) | (refine ifB_i (fun _=>?_) (fun _=>?_)<;>conv=>whnf) | (refine ⟨_, impl_msgOk p m hc, ?_⟩;conv=>whnf)
  exact ⟨rfl, rfl⟩
theorem msgs_any_ix (p : Plan) (hc : inB p.Clients 0 4 = true) (l : List Msg) : Sem P 204 [(.pure, .one (sMs l)), (.pure, .one (.fn 105 [.fp [] (aPl p) 0]))] [] (I (idxOf (fun (x : Msg) => !msgB p x) l)) := by
  refine fn_okR (E := E0) E0_tab E0_ord (fn := Go.Proofs.Tryz.f204) (by kernel_rfl) (by kernel_rfl) (fun hb => ?_)
  have la : (l.map eM).length = l.length := List.length_map ..
  have hb1 : (l.map eM).length ≤ 1125899906842624 := hb.1.1
  conv => whnf
  (repeat' first | ((first|refine sN ?_|refine Dr.cons ?_|(refine Dr.nil ?_;refine drawIf (by kernel_rfl) ?_)|refine vN rfl ?_|refine Vc.draw rfl (by kernel_rfl) ?_|refine mkSl (by omega) (by omega) ?_);conv=>whnf))
  refine Vc.loop { i : Nat // ∀ j, j < i → j < l.length → (fun (x : Msg) => !msgB p x) (l.getD j default) = false } (fun i => updL [0, 1, 7] [(8, I i.1)] []) (fun i => l.length - i.1) ⟨0, by simp⟩ ?_ (fun i => ?_)
  · repeat' (first | exact True.intro | ((conv => whnf); first | exact True.intro | refine ⟨by rfl, ?_⟩ | refine ⟨?_, ?_⟩))
  · have hi := i.2
    conv => whnf
    (repeat' first | ((first|refine sN ?_|refine Dr.cons ?_|(refine Dr.nil ?_;refine drawIf (by kernel_rfl) ?_)|refine vN rfl ?_|refine Vc.draw rfl (by kernel_rfl) ?_|refine mkSl (by omega) (by omega) ?_);conv=>whnf))
    refine ifB_d (fun g => ?_) (fun g => ?_)
    all_goals conv => whnf
    · repeat' first | ((first|refine sN ?_|refine Dr.cons ?_|(refine Dr.nil ?_;refine drawIf (by kernel_rfl) ?_)|refine vN rfl ?_|refine Vc.draw rfl (by kernel_rfl) ?_|refine mkSl (by omega) (by omega) ?_);conv=>whnf) | (refine ifB_i (fun _=>?_) (fun _=>?_)<;>conv=>whnf) | ((first | refine ixN (enc := eM) default (by omega) ?_ | refine ⟨_, wld_1 p _ hc, ?_⟩ | refine w64 (by omega) (by omega) ?_);conv=>whnf)
      · rename_i h
        exact rI' (idx_hit (p := fun (x : Msg) => !msgB p x) default (by omega) h fun j hj => hi j hj (by omega)).symm
      · rename_i h
        refine ⟨⟨i.1 + 1, fun j hj hl => ?_⟩, ?_, ?_⟩
        · by_cases hji : j < i.1
          · exact hi j hji hl
          · obtain rfl : j = i.1 := by omega
            exact h
        · simp only; omega
        · repeat' (first | exact True.intro | ((conv => whnf); first | exact True.intro | refine ⟨by rfl, ?_⟩ | refine ⟨?_, ?_⟩))
    · (repeat' first | ((first|refine sN ?_|refine Dr.cons ?_|(refine Dr.nil ?_;refine drawIf (by kernel_rfl) ?_)|refine vN rfl ?_|refine Vc.draw rfl (by kernel_rfl) ?_|refine mkSl (by omega) (by omega) ?_);conv=>whnf))
      exact rI' (idx_none (p := fun (x : Msg) => !msgB p x) default fun j hj => hi j (by omega) hj).symm
theorem msgs_any (p : Plan) (hc : inB p.Clients 0 4 = true) (l : List Msg) : Sem P 104 [(.pure, .one (sMs l)), (.pure, .one (.fn 105 [.fp [] (aPl p) 0]))] [] (B (l.any fun (x : Msg) => !msgB p x)) := by
  refine fn_okR (E := E0) E0_tab E0_ord (fn := Go.Proofs.Tryz.f104) (by kernel_rfl) (by kernel_rfl) (fun hb => ?_)
  conv => whnf
  repeat' first | ((first|refine sN ?_|refine Dr.cons ?_|(refine Dr.nil ?_;refine drawIf (by kernel_rfl) ?_)|refine vN rfl ?_|refine Vc.draw rfl (by kernel_rfl) ?_|refine mkSl (by omega) (by omega) ?_);conv=>whnf) | (refine ifB_i (fun _=>?_) (fun _=>?_)<;>conv=>whnf) | (refine ⟨_, msgs_any_ix p hc l, ?_⟩;conv=>whnf)
  exact rB (idx_any _ _)
theorem plan_cat {p : Plan} (h : planOk p = true) : catOk p.Acts = true := by
  unfold planOk at h; simp only [Bool.and_eq_true] at h; exact h.1.1.2
theorem wldOk_iff {w : World} : wldOk w = true ↔ ((planOk w.Plan && decide (w.Sites.length = w.Plan.Gives.length) && decide ((w.Clients.length : Int) = w.Plan.Clients) && decide (w.Net.length ≤ 30) && logB w.Plan w.Log) = true) ∧
    (∀ j, j < w.Sites.length → siteB w.Plan (w.Sites.getD j default) j = true) ∧ (∀ j, j < w.Clients.length → clientB w.Plan j (w.Clients.getD j default) = true) ∧ (clerkB w.Plan w.Clerk && w.Net.all (msgB w.Plan)) = true := by
  unfold wldOk
  simp only [Bool.and_eq_true, allI_get]
  constructor
  · rintro ⟨⟨⟨⟨h1, h2⟩, h3⟩, h4⟩, h5⟩; exact ⟨h1, h2, h3, h5, h4⟩
  · rintro ⟨h1, h2, h3, h5, h4⟩; exact ⟨⟨⟨⟨h1, h2⟩, h3⟩, h4⟩, h5⟩
theorem wld_no {w : World} (h : wldOk w = true → False) : wldOk w = false := by
  cases e : wldOk w with
  | false => rfl
  | true => exact (h e).elim
theorem impl_wldOk (w : World) : Sem P 25 [(.pure, .agg (aWd w))] [] (B (wldOk w)) := by
  have iff := @wldOk_iff w
  have ls : (w.Sites.map eS).length = w.Sites.length := List.length_map ..
  have lx : (w.Clients.map eX).length = w.Clients.length := List.length_map ..
  have lm : (w.Net.map eM).length = w.Net.length := List.length_map ..
  have lp := ints_len w.Plan.Gives
  by_cases h0 : (planOk w.Plan && decide (w.Sites.length = w.Plan.Gives.length) && decide ((w.Clients.length : Int) = w.Plan.Clients) && decide (w.Net.length ≤ 30) && logB w.Plan w.Log) = true
  · have h := h0
    simp only [Bool.and_eq_true, decide_eq_true_eq] at h
    obtain ⟨⟨⟨⟨h1, h2⟩, h3⟩, h4⟩, h5⟩ := h
    have hc := plan_clients h1
    have hcb := inB_iff.1 hc
    refine fn_okR (E := E0) E0_tab E0_ord (fn := Go.Proofs.Tryz.f25) (by kernel_rfl) (by kernel_rfl) (fun hb => ?_)
    have hb1 : (w.Sites.map eS).length ≤ 1125899906842624 := (hb.1 (sSs w.Sites) (by simp)).1
    have hb2 : (w.Clients.map eX).length ≤ 1125899906842624 := (hb.1 (sXs w.Clients) (by simp)).1
    conv => whnf
    repeat' first | ((first|refine sN ?_|refine Dr.cons ?_|(refine Dr.nil ?_;refine drawIf (by kernel_rfl) ?_)|refine vN rfl ?_|refine Vc.draw rfl (by kernel_rfl) ?_|refine mkSl (by omega) (by omega) ?_);conv=>whnf) | (refine ifB_i (fun _=>?_) (fun _=>?_)<;>conv=>whnf) | ((first | refine ⟨_, impl_planOk w.Plan, ?_⟩ | refine ⟨_, impl_logOk w.Plan hc w.Log, ?_⟩ | refine ⟨_, impl_rules w.Plan.Acts (plan_cat h1), ?_⟩);conv=>whnf)
    all_goals first
      | (clear iff; exfalso; simp_all; done)
      | (clear iff; exfalso; simp_all; omega)
      | skip
    refine Vc.loop1 (fun (i : Nat) => i ≤ w.Sites.length ∧ ∀ j, j < i → siteB w.Plan (w.Sites.getD j default) j = true) (fun i => updL [1, 3, 4, 7, 8, 48, 49, 62, 63, 64, 65, 66, 67, 68, 69, 70, 71, 72, 73, 74, 75, 76, 77, 78, 79, 80, 81, 82, 83, 84, 85, 86, 87] [(50, I i)] []) (fun i => w.Sites.length - i) 0 ⟨Nat.zero_le _, fun j hj => absurd hj (Nat.not_lt_zero j)⟩ ?_ (fun i hi => ?_)
    · repeat' (first|exact True.intro|((conv=>whnf);first|exact True.intro|refine ⟨by rfl, ?_⟩|refine ⟨by first|omega|(show (_ : Int) = _;first|omega|(dsimp only;omega)), ?_⟩ | refine ⟨?_, ?_⟩))
    · obtain ⟨hi, hall⟩ := hi
      conv => whnf
      (repeat' first | ((first|refine sN ?_|refine Dr.cons ?_|(refine Dr.nil ?_;refine drawIf (by kernel_rfl) ?_)|refine vN rfl ?_|refine Vc.draw rfl (by kernel_rfl) ?_|refine mkSl (by omega) (by omega) ?_);conv=>whnf))
      refine ifB_d (fun g => ?_) (fun g => ?_)
      all_goals conv => whnf
      · have hil : i < w.Sites.length := by omega
        have his : isSite w.Plan i = true := inB_iff.2 (by omega)
        repeat' first | ((first|refine sN ?_|refine Dr.cons ?_|(refine Dr.nil ?_;refine drawIf (by kernel_rfl) ?_)|refine vN rfl ?_|refine Vc.draw rfl (by kernel_rfl) ?_|refine mkSl (by omega) (by omega) ?_);conv=>whnf) | (refine ifB_i (fun _=>?_) (fun _=>?_)<;>conv=>whnf) | ((first | refine ixN (enc := eS) default hil ?_ | refine ⟨_, impl_siteOkR w.Plan (w.Sites.getD i default) i, ?_⟩ | refine w64 (by omega) (by omega) ?_);conv=>whnf)
        all_goals first
          | (refine rB ?_; symm; refine wld_no fun hB => ?_; have := (iff.1 hB).2.1 i hil; clear iff hall; simp_all; done)
          | (refine ⟨i + 1, ⟨by omega, fun j hj => ?_⟩, by simp only; omega, ?_⟩
             · by_cases hji : j < i
               · exact hall j hji
               · obtain rfl : j = i := by omega
                 clear iff hall
                 simp_all
             · repeat' (first|exact True.intro|((conv=>whnf);first|exact True.intro|refine ⟨by rfl, ?_⟩|refine ⟨by first|omega|(show (_ : Int) = _;first|omega|(dsimp only;omega)), ?_⟩ | refine ⟨?_, ?_⟩)))
      · have hS : ∀ j, j < w.Sites.length → siteB w.Plan (w.Sites.getD j default) j = true := fun j hj => hall j (by omega)
        (repeat' first | ((first|refine sN ?_|refine Dr.cons ?_|(refine Dr.nil ?_;refine drawIf (by kernel_rfl) ?_)|refine vN rfl ?_|refine Vc.draw rfl (by kernel_rfl) ?_|refine mkSl (by omega) (by omega) ?_);conv=>whnf))
        refine Vc.loop1 (fun (i : Nat) => i ≤ w.Clients.length ∧ ∀ j, j < i → clientB w.Plan j (w.Clients.getD j default) = true) (fun i => updL [1, 3, 4, 63, 64, 76, 77, 78, 79, 80, 81, 82, 83, 84, 85, 86, 87] [(65, I i)] []) (fun i => w.Clients.length - i) 0 ⟨Nat.zero_le _, fun j hj => absurd hj (Nat.not_lt_zero j)⟩ ?_ (fun k hk => ?_)
        · repeat' (first|exact True.intro|((conv=>whnf);first|exact True.intro|refine ⟨by rfl, ?_⟩|refine ⟨by first|omega|(show (_ : Int) = _;first|omega|(dsimp only;omega)), ?_⟩ | refine ⟨?_, ?_⟩))
        · obtain ⟨hk, hal2⟩ := hk
          conv => whnf
          (repeat' first | ((first|refine sN ?_|refine Dr.cons ?_|(refine Dr.nil ?_;refine drawIf (by kernel_rfl) ?_)|refine vN rfl ?_|refine Vc.draw rfl (by kernel_rfl) ?_|refine mkSl (by omega) (by omega) ?_);conv=>whnf))
          refine ifB_d (fun g => ?_) (fun g => ?_)
          all_goals conv => whnf
          · have hkl : k < w.Clients.length := by omega
            repeat' first | ((first|refine sN ?_|refine Dr.cons ?_|(refine Dr.nil ?_;refine drawIf (by kernel_rfl) ?_)|refine vN rfl ?_|refine Vc.draw rfl (by kernel_rfl) ?_|refine mkSl (by omega) (by omega) ?_);conv=>whnf) | (refine ifB_i (fun _=>?_) (fun _=>?_)<;>conv=>whnf) | ((first | refine ixN (enc := eX) default hkl ?_ | refine ⟨_, impl_clientOk w.Plan (w.Clients.getD k default) k hc, ?_⟩ | refine w64 (by omega) (by omega) ?_);conv=>whnf)
            all_goals first
              | (refine rB ?_; symm; refine wld_no fun hB => ?_; have := (iff.1 hB).2.2.1 k hkl; clear iff hall hal2 hS; simp_all; done)
              | (refine ⟨k + 1, ⟨by omega, fun j hj => ?_⟩, by simp only; omega, ?_⟩
                 · by_cases hji : j < k
                   · exact hal2 j hji
                   · obtain rfl : j = k := by omega
                     clear iff hall hal2 hS
                     simp_all
                 · repeat' (first|exact True.intro|((conv=>whnf);first|exact True.intro|refine ⟨by rfl, ?_⟩|refine ⟨by first|omega|(show (_ : Int) = _;first|omega|(dsimp only;omega)), ?_⟩ | refine ⟨?_, ?_⟩)))
          · have hX : ∀ j, j < w.Clients.length → clientB w.Plan j (w.Clients.getD j default) = true := fun j hj => hal2 j (by omega)
            have fin : wldOk w = (clerkB w.Plan w.Clerk && w.Net.all (msgB w.Plan)) := by
              cases e : (clerkB w.Plan w.Clerk && w.Net.all (msgB w.Plan)) with
              | true => exact iff.2 ⟨h0, hS, hX, e⟩
              | false => exact wld_no fun hB => by rw [(iff.1 hB).2.2.2] at e; cases e
            clear iff hall hal2 hS hX
            repeat' first | ((first|refine sN ?_|refine Dr.cons ?_|(refine Dr.nil ?_;refine drawIf (by kernel_rfl) ?_)|refine vN rfl ?_|refine Vc.draw rfl (by kernel_rfl) ?_|refine mkSl (by omega) (by omega) ?_);conv=>whnf) | (refine ifB_i (fun _=>?_) (fun _=>?_)<;>conv=>whnf) | ((first | refine ⟨_, impl_clerkOkR w.Plan w.Clerk hc, ?_⟩ | refine ⟨_, msgs_any w.Plan hc w.Net, ?_⟩);conv=>whnf)
            all_goals (refine rB ?_; rw [fin]; simp_all [any_all]; done)
  · have hno : wldOk w = false := wld_no fun hB => h0 (iff.1 hB).1
    clear iff
    by_cases hp : planOk w.Plan = true
    · have hc := plan_clients hp
      refine fn_okR (E := E0) E0_tab E0_ord (fn := Go.Proofs.Tryz.f25) (by kernel_rfl) (by kernel_rfl) (fun hb => ?_)
      conv => whnf
      repeat' first | ((first|refine sN ?_|refine Dr.cons ?_|(refine Dr.nil ?_;refine drawIf (by kernel_rfl) ?_)|refine vN rfl ?_|refine Vc.draw rfl (by kernel_rfl) ?_|refine mkSl (by omega) (by omega) ?_);conv=>whnf) | (refine ifB_i (fun _=>?_) (fun _=>?_)<;>conv=>whnf) | ((first | refine ⟨_, impl_planOk w.Plan, ?_⟩ | refine ⟨_, impl_logOk w.Plan hc w.Log, ?_⟩);conv=>whnf)
      all_goals first
        | (refine rB ?_; rw [hno]; done)
        | (exfalso; refine h0 ?_; clear h0 hno; simp only [Bool.and_eq_true, decide_eq_true_eq]; simp_all; omega)
    · refine fn_okR (E := E0) E0_tab E0_ord (fn := Go.Proofs.Tryz.f25) (by kernel_rfl) (by kernel_rfl) (fun hb => ?_)
      conv => whnf
      repeat' first | ((first|refine sN ?_|refine Dr.cons ?_|(refine Dr.nil ?_;refine drawIf (by kernel_rfl) ?_)|refine vN rfl ?_|refine Vc.draw rfl (by kernel_rfl) ?_|refine mkSl (by omega) (by omega) ?_);conv=>whnf) | (refine ifB_i (fun _=>?_) (fun _=>?_)<;>conv=>whnf) | (refine ⟨_, impl_planOk w.Plan, ?_⟩;conv=>whnf)
      all_goals first
        | (refine rB ?_; rw [hno]; done)
        | (exfalso; simp_all; done)
end Cc
end
section
namespace Cc
open Go Go.AM
set_option maxRecDepth 100000
set_option maxHeartbeats 8000000
end Cc
end
section
namespace Cc
open Go Go.AM
set_option maxRecDepth 100000
set_option maxHeartbeats 8000000
def szv (n : Int) (k : Nat) : Int := if (k : Int) ≤ n then n - k else -1
theorem szE {f : Nat} {ins : List (Go.AM.Mode × TV)} {n : Int} {k : Nat} (h : Sem P f ins [] (I (szv n k))) : ∃ res, (∃ r : Int, ((k : Int) ≤ n ∧ r = n - k ∨ n < k ∧ r = -1) ∧ res = I r) ∧ Sem P f ins [] res := by
  refine ⟨_, ⟨szv n k, ?_, rfl⟩, h⟩
  unfold szv; split <;> omega
def zs {α : Type} (f : α → Nat) (l : List α) : Nat := (l.map f).sum
theorem zs_take {α : Type} [Inhabited α] (f : α → Nat) {l : List α} {i : Nat} (h : i < l.length) : zs f (l.take (i + 1)) = zs f (l.take i) + f (l.getD i default) := by
  unfold zs; rw [take_succ_getD h]; simp
theorem zs_le {α : Type} (f : α → Nat) (l : List α) (i : Nat) : zs f (l.take i) ≤ zs f l := by
  have : zs f l = zs f (l.take i) + zs f (l.drop i) := by unfold zs; rw [← List.sum_append_nat, ← List.map_append, List.take_append_drop]
  omega
theorem zs_mem {α : Type} (f : α → Nat) {l : List α} {x : α} (h : x ∈ l) : f x ≤ zs f l := by
  induction l with
  | nil => cases h
  | cons a r ih =>
    unfold zs at *; rw [List.map_cons, List.sum_cons]
    cases h with
    | head => omega
    | tail _ h => have := ih h; omega
theorem sz_I (l : List Int) (n : Int) (h : 0 ≤ n ∧ n ≤ 1048576) : Sem P 210 [(.pure, AI l), (.pure, I n)] [] (I (szv n l.length)) := by
  refine fn_okR (E := E0) E0_tab E0_ord (fn := Go.Proofs.Tryz.f210) (by kernel_rfl) (by kernel_rfl) (fun hb => ?_)
  have la := ints_len l
  have hb1 : (ints l).length ≤ 1125899906842624 := hb.1.1
  conv => whnf
  repeat' first | ((first|refine sN ?_|refine Dr.cons ?_|(refine Dr.nil ?_;refine drawIf (by kernel_rfl) ?_)|refine vN rfl ?_|refine Vc.draw rfl (by kernel_rfl) ?_|refine mkSl (by omega) (by omega) ?_);conv=>whnf) | (refine ifB_i (fun _=>?_) (fun _=>?_)<;>conv=>whnf) | (refine w64 (by omega) (by omega) ?_;conv=>whnf)
  all_goals exact rI' (by (try simp only [decide_eq_true_eq, decide_eq_false_iff_not] at *); unfold szv; split <;> omega)
def zF (x : Form) : Nat := x.C.length + x.D.length
theorem sz_F (x : Form) (n : Int) (h : 0 ≤ n ∧ n ≤ 1048576) : Sem P 379 [(.pure, .agg (Xe.aF x)), (.pure, I n)] [] (I (szv n (zF x))) := by
  refine fn_okR (E := E0) E0_tab E0_ord (fn := Go.Proofs.Tryz.f379) (by kernel_rfl) (by kernel_rfl) (fun hb => ?_)
  conv => whnf
  repeat' first | ((first|refine sN ?_|refine Dr.cons ?_|(refine Dr.nil ?_;refine drawIf (by kernel_rfl) ?_)|refine vN rfl ?_|refine Vc.draw rfl (by kernel_rfl) ?_|refine mkSl (by omega) (by omega) ?_);conv=>whnf) | (refine ifB_i (fun _=>?_) (fun _=>?_)<;>conv=>whnf) | (refine callS (szE (sz_I x.C _ (by (try simp only [decide_eq_true_eq, decide_eq_false_iff_not] at *); omega))) ?_; rintro _ ⟨r, hr, rfl⟩;conv=>whnf) | (refine callS (szE (sz_I x.D _ (by (try simp only [decide_eq_true_eq, decide_eq_false_iff_not] at *); omega))) ?_; rintro _ ⟨r, hr, rfl⟩;conv=>whnf)
  all_goals exact rI' (by (try simp only [decide_eq_true_eq, decide_eq_false_iff_not] at *); unfold szv zF; split <;> omega)
def zL (x : Line) : Nat := zF x.Form
theorem sz_L (x : Line) (n : Int) (h : 0 ≤ n ∧ n ≤ 1048576) : Sem P 353 [(.pure, .agg (Xe.aL x)), (.pure, I n)] [] (I (szv n (zL x))) := by
  refine fn_okR (E := E0) E0_tab E0_ord (fn := Go.Proofs.Tryz.f353) (by kernel_rfl) (by kernel_rfl) (fun hb => ?_)
  conv => whnf
  repeat' first | ((first|refine sN ?_|refine Dr.cons ?_|(refine Dr.nil ?_;refine drawIf (by kernel_rfl) ?_)|refine vN rfl ?_|refine Vc.draw rfl (by kernel_rfl) ?_|refine mkSl (by omega) (by omega) ?_);conv=>whnf) | (refine ifB_i (fun _=>?_) (fun _=>?_)<;>conv=>whnf) | (refine callS (szE (sz_F x.Form _ (by (try simp only [decide_eq_true_eq, decide_eq_false_iff_not] at *); omega))) ?_; rintro _ ⟨r, hr, rfl⟩;conv=>whnf)
  all_goals exact rI' (by (try simp only [decide_eq_true_eq, decide_eq_false_iff_not] at *); unfold szv zL; split <;> omega)
def zLs (l : List Line) : Nat := l.length + zs zL l
theorem sz_Ls (l : List Line) (n : Int) (h : 0 ≤ n ∧ n ≤ 1048576) : Sem P 301 [(.pure, .one (Xe.sLs l)), (.pure, I n)] [] (I (szv n (zLs l))) := by
  refine fn_okR (E := E0) E0_tab E0_ord (fn := Go.Proofs.Tryz.f301) (by kernel_rfl) (by kernel_rfl) (fun hb => ?_)
  have la : (l.map Xe.eL).length = l.length := List.length_map ..
  have hb1 : (l.map Xe.eL).length ≤ 1125899906842624 := hb.1.1
  conv => whnf
  repeat' first | ((first|refine sN ?_|refine Dr.cons ?_|(refine Dr.nil ?_;refine drawIf (by kernel_rfl) ?_)|refine vN rfl ?_|refine Vc.draw rfl (by kernel_rfl) ?_|refine mkSl (by omega) (by omega) ?_);conv=>whnf) | (refine ifB_i (fun _=>?_) (fun _=>?_)<;>conv=>whnf) | (refine w64 (by omega) (by omega) ?_;conv=>whnf)
  · exact rI' (by (try simp only [decide_eq_true_eq, decide_eq_false_iff_not] at *); unfold szv zLs; split <;> omega)
  · refine Vc.loop2 (fun (i : Nat) (m : Int) => i ≤ l.length ∧ m = n - l.length - (zs zL (l.take i) : Nat) ∧ 0 ≤ m) (fun i m => updL [0, 26] [(5, I i), (1, I m)] []) (fun i _ => l.length - i) 0 (n - l.length) ⟨Nat.zero_le _, by simp [zs], (by (try simp only [decide_eq_true_eq, decide_eq_false_iff_not] at *); omega)⟩ ?_ (fun i m hi => ?_)
    · repeat' (first|exact True.intro|((conv=>whnf);first|exact True.intro|refine ⟨by rfl, ?_⟩|refine ⟨by first|omega|(show (_ : Int) = _;first|omega|(dsimp only;omega)), ?_⟩ | refine ⟨?_, ?_⟩))
    · obtain ⟨hi, hm, h0⟩ := hi
      have le := zs_le zL l
      conv => whnf
      (repeat' first | ((first|refine sN ?_|refine Dr.cons ?_|(refine Dr.nil ?_;refine drawIf (by kernel_rfl) ?_)|refine vN rfl ?_|refine Vc.draw rfl (by kernel_rfl) ?_|refine mkSl (by omega) (by omega) ?_);conv=>whnf))
      refine ifB_d (fun g => ?_) (fun g => ?_)
      all_goals conv => whnf
      · have lt := zs_take zL (l := l) (i := i) (by omega)
        have le1 := le (i + 1)
        repeat' first | ((first|refine sN ?_|refine Dr.cons ?_|(refine Dr.nil ?_;refine drawIf (by kernel_rfl) ?_)|refine vN rfl ?_|refine Vc.draw rfl (by kernel_rfl) ?_|refine mkSl (by omega) (by omega) ?_);conv=>whnf) | (refine ifB_i (fun _=>?_) (fun _=>?_)<;>conv=>whnf) | (refine ixN (enc := Xe.eL) default (by omega) ?_;conv=>whnf) | (refine callS (szE (sz_L (l.getD i default) m (by omega))) ?_; rintro _ ⟨r, hr, rfl⟩;conv=>whnf) | (refine w64 (by omega) (by omega) ?_;conv=>whnf)
        all_goals first
          | exact rI' (by (try simp only [decide_eq_true_eq, decide_eq_false_iff_not] at *); unfold szv zLs; split <;> omega)
          | (refine ⟨i + 1, r, ⟨by omega, (by (try simp only [decide_eq_true_eq, decide_eq_false_iff_not] at *); omega), (by (try simp only [decide_eq_true_eq, decide_eq_false_iff_not] at *); omega)⟩, by simp only; omega, ?_⟩
             repeat' (first|exact True.intro|((conv=>whnf);first|exact True.intro|refine ⟨by rfl, ?_⟩|refine ⟨by first|omega|(show (_ : Int) = _;first|omega|(dsimp only;omega)), ?_⟩ | refine ⟨?_, ?_⟩)))
      · (repeat' first | ((first|refine sN ?_|refine Dr.cons ?_|(refine Dr.nil ?_;refine drawIf (by kernel_rfl) ?_)|refine vN rfl ?_|refine Vc.draw rfl (by kernel_rfl) ?_|refine mkSl (by omega) (by omega) ?_);conv=>whnf))
        exact rI' (by rw [List.take_of_length_le (by omega)] at hm; unfold szv zLs; split <;> omega)
def zAs (l : List (List Line)) : Nat := l.length + zs zLs l
theorem sz_As (l : List (List Line)) (n : Int) (h : 0 ≤ n ∧ n ≤ 1048576) : Sem P 209 [(.pure, .one (Xe.sAs l)), (.pure, I n)] [] (I (szv n (zAs l))) := by
  refine fn_okR (E := E0) E0_tab E0_ord (fn := Go.Proofs.Tryz.f209) (by kernel_rfl) (by kernel_rfl) (fun hb => ?_)
  have la : (l.map Xe.eA).length = l.length := List.length_map ..
  have hb1 : (l.map Xe.eA).length ≤ 1125899906842624 := hb.1.1
  conv => whnf
  repeat' first | ((first|refine sN ?_|refine Dr.cons ?_|(refine Dr.nil ?_;refine drawIf (by kernel_rfl) ?_)|refine vN rfl ?_|refine Vc.draw rfl (by kernel_rfl) ?_|refine mkSl (by omega) (by omega) ?_);conv=>whnf) | (refine ifB_i (fun _=>?_) (fun _=>?_)<;>conv=>whnf) | (refine w64 (by omega) (by omega) ?_;conv=>whnf)
  · exact rI' (by (try simp only [decide_eq_true_eq, decide_eq_false_iff_not] at *); unfold szv zAs; split <;> omega)
  · refine Vc.loop2 (fun (i : Nat) (m : Int) => i ≤ l.length ∧ m = n - l.length - (zs zLs (l.take i) : Nat) ∧ 0 ≤ m) (fun i m => updL [0, 26] [(5, I i), (1, I m)] []) (fun i _ => l.length - i) 0 (n - l.length) ⟨Nat.zero_le _, by simp [zs], (by (try simp only [decide_eq_true_eq, decide_eq_false_iff_not] at *); omega)⟩ ?_ (fun i m hi => ?_)
    · repeat' (first|exact True.intro|((conv=>whnf);first|exact True.intro|refine ⟨by rfl, ?_⟩|refine ⟨by first|omega|(show (_ : Int) = _;first|omega|(dsimp only;omega)), ?_⟩ | refine ⟨?_, ?_⟩))
    · obtain ⟨hi, hm, h0⟩ := hi
      have le := zs_le zLs l
      conv => whnf
      (repeat' first | ((first|refine sN ?_|refine Dr.cons ?_|(refine Dr.nil ?_;refine drawIf (by kernel_rfl) ?_)|refine vN rfl ?_|refine Vc.draw rfl (by kernel_rfl) ?_|refine mkSl (by omega) (by omega) ?_);conv=>whnf))
      refine ifB_d (fun g => ?_) (fun g => ?_)
      all_goals conv => whnf
      · have lt := zs_take zLs (l := l) (i := i) (by omega)
        have le1 := le (i + 1)
        repeat' first | ((first|refine sN ?_|refine Dr.cons ?_|(refine Dr.nil ?_;refine drawIf (by kernel_rfl) ?_)|refine vN rfl ?_|refine Vc.draw rfl (by kernel_rfl) ?_|refine mkSl (by omega) (by omega) ?_);conv=>whnf) | (refine ifB_i (fun _=>?_) (fun _=>?_)<;>conv=>whnf) | (refine ixN (enc := Xe.eA) default (by omega) ?_;conv=>whnf) | (refine callS (szE (sz_Ls (l.getD i default) m (by omega))) ?_; rintro _ ⟨r, hr, rfl⟩;conv=>whnf) | (refine w64 (by omega) (by omega) ?_;conv=>whnf)
        all_goals first
          | exact rI' (by (try simp only [decide_eq_true_eq, decide_eq_false_iff_not] at *); unfold szv zAs; split <;> omega)
          | (refine ⟨i + 1, r, ⟨by omega, (by (try simp only [decide_eq_true_eq, decide_eq_false_iff_not] at *); omega), (by (try simp only [decide_eq_true_eq, decide_eq_false_iff_not] at *); omega)⟩, by simp only; omega, ?_⟩
             repeat' (first|exact True.intro|((conv=>whnf);first|exact True.intro|refine ⟨by rfl, ?_⟩|refine ⟨by first|omega|(show (_ : Int) = _;first|omega|(dsimp only;omega)), ?_⟩ | refine ⟨?_, ?_⟩)))
      · (repeat' first | ((first|refine sN ?_|refine Dr.cons ?_|(refine Dr.nil ?_;refine drawIf (by kernel_rfl) ?_)|refine vN rfl ?_|refine Vc.draw rfl (by kernel_rfl) ?_|refine mkSl (by omega) (by omega) ?_);conv=>whnf))
        exact rI' (by rw [List.take_of_length_le (by omega)] at hm; unfold szv zAs; split <;> omega)
def zPl (x : Plan) : Nat := zAs x.Acts + x.Gives.length + x.Start.length
theorem sz_Pl (x : Plan) (n : Int) (h : 0 ≤ n ∧ n ≤ 1048576) : Sem P 114 [(.pure, .agg (Xe.aPl x)), (.pure, I n)] [] (I (szv n (zPl x))) := by
  refine fn_okR (E := E0) E0_tab E0_ord (fn := Go.Proofs.Tryz.f114) (by kernel_rfl) (by kernel_rfl) (fun hb => ?_)
  conv => whnf
  repeat' first | ((first|refine sN ?_|refine Dr.cons ?_|(refine Dr.nil ?_;refine drawIf (by kernel_rfl) ?_)|refine vN rfl ?_|refine Vc.draw rfl (by kernel_rfl) ?_|refine mkSl (by omega) (by omega) ?_);conv=>whnf) | (refine ifB_i (fun _=>?_) (fun _=>?_)<;>conv=>whnf) | (refine callS (szE (sz_As x.Acts _ (by (try simp only [decide_eq_true_eq, decide_eq_false_iff_not] at *); omega))) ?_; rintro _ ⟨r, hr, rfl⟩;conv=>whnf) | (refine callS (szE (sz_I x.Gives _ (by (try simp only [decide_eq_true_eq, decide_eq_false_iff_not] at *); omega))) ?_; rintro _ ⟨r, hr, rfl⟩;conv=>whnf) | (refine callS (szE (sz_I x.Start _ (by (try simp only [decide_eq_true_eq, decide_eq_false_iff_not] at *); omega))) ?_; rintro _ ⟨r, hr, rfl⟩;conv=>whnf)
  all_goals exact rI' (by (try simp only [decide_eq_true_eq, decide_eq_false_iff_not] at *); unfold szv zPl; split <;> omega)
def zR (x : Rslt) : Nat := x.Tells.length
theorem sz_R (x : Rslt) (n : Int) (h : 0 ≤ n ∧ n ≤ 1048576) : Sem P 305 [(.pure, .agg (Xe.aR x)), (.pure, I n)] [] (I (szv n (zR x))) := by
  refine fn_okR (E := E0) E0_tab E0_ord (fn := Go.Proofs.Tryz.f305) (by kernel_rfl) (by kernel_rfl) (fun hb => ?_)
  conv => whnf
  repeat' first | ((first|refine sN ?_|refine Dr.cons ?_|(refine Dr.nil ?_;refine drawIf (by kernel_rfl) ?_)|refine vN rfl ?_|refine Vc.draw rfl (by kernel_rfl) ?_|refine mkSl (by omega) (by omega) ?_);conv=>whnf) | (refine ifB_i (fun _=>?_) (fun _=>?_)<;>conv=>whnf) | (refine callS (szE (sz_I x.Tells _ (by (try simp only [decide_eq_true_eq, decide_eq_false_iff_not] at *); omega))) ?_; rintro _ ⟨r, hr, rfl⟩;conv=>whnf)
  all_goals exact rI' (by (try simp only [decide_eq_true_eq, decide_eq_false_iff_not] at *); unfold szv zR; split <;> omega)
def zD (x : Done) : Nat := zR x.Res
theorem sz_D (x : Done) (n : Int) (h : 0 ≤ n ∧ n ≤ 1048576) : Sem P 302 [(.pure, .agg (Xe.aD x)), (.pure, I n)] [] (I (szv n (zD x))) := by
  refine fn_okR (E := E0) E0_tab E0_ord (fn := Go.Proofs.Tryz.f302) (by kernel_rfl) (by kernel_rfl) (fun hb => ?_)
  conv => whnf
  repeat' first | ((first|refine sN ?_|refine Dr.cons ?_|(refine Dr.nil ?_;refine drawIf (by kernel_rfl) ?_)|refine vN rfl ?_|refine Vc.draw rfl (by kernel_rfl) ?_|refine mkSl (by omega) (by omega) ?_);conv=>whnf) | (refine ifB_i (fun _=>?_) (fun _=>?_)<;>conv=>whnf) | (refine callS (szE (sz_R x.Res _ (by (try simp only [decide_eq_true_eq, decide_eq_false_iff_not] at *); omega))) ?_; rintro _ ⟨r, hr, rfl⟩;conv=>whnf)
  all_goals exact rI' (by (try simp only [decide_eq_true_eq, decide_eq_false_iff_not] at *); unfold szv zD; split <;> omega)
def zDs (l : List Done) : Nat := l.length + zs zD l
theorem sz_Ds (l : List Done) (n : Int) (h : 0 ≤ n ∧ n ≤ 1048576) : Sem P 212 [(.pure, .one (Xe.sDs l)), (.pure, I n)] [] (I (szv n (zDs l))) := by
  refine fn_okR (E := E0) E0_tab E0_ord (fn := Go.Proofs.Tryz.f212) (by kernel_rfl) (by kernel_rfl) (fun hb => ?_)
  have la : (l.map Xe.eD).length = l.length := List.length_map ..
  have hb1 : (l.map Xe.eD).length ≤ 1125899906842624 := hb.1.1
  conv => whnf
  repeat' first | ((first|refine sN ?_|refine Dr.cons ?_|(refine Dr.nil ?_;refine drawIf (by kernel_rfl) ?_)|refine vN rfl ?_|refine Vc.draw rfl (by kernel_rfl) ?_|refine mkSl (by omega) (by omega) ?_);conv=>whnf) | (refine ifB_i (fun _=>?_) (fun _=>?_)<;>conv=>whnf) | (refine w64 (by omega) (by omega) ?_;conv=>whnf)
  · exact rI' (by (try simp only [decide_eq_true_eq, decide_eq_false_iff_not] at *); unfold szv zDs; split <;> omega)
  · refine Vc.loop2 (fun (i : Nat) (m : Int) => i ≤ l.length ∧ m = n - l.length - (zs zD (l.take i) : Nat) ∧ 0 ≤ m) (fun i m => updL [0, 26] [(5, I i), (1, I m)] []) (fun i _ => l.length - i) 0 (n - l.length) ⟨Nat.zero_le _, by simp [zs], (by (try simp only [decide_eq_true_eq, decide_eq_false_iff_not] at *); omega)⟩ ?_ (fun i m hi => ?_)
    · repeat' (first|exact True.intro|((conv=>whnf);first|exact True.intro|refine ⟨by rfl, ?_⟩|refine ⟨by first|omega|(show (_ : Int) = _;first|omega|(dsimp only;omega)), ?_⟩ | refine ⟨?_, ?_⟩))
    · obtain ⟨hi, hm, h0⟩ := hi
      have le := zs_le zD l
      conv => whnf
      (repeat' first | ((first|refine sN ?_|refine Dr.cons ?_|(refine Dr.nil ?_;refine drawIf (by kernel_rfl) ?_)|refine vN rfl ?_|refine Vc.draw rfl (by kernel_rfl) ?_|refine mkSl (by omega) (by omega) ?_);conv=>whnf))
      refine ifB_d (fun g => ?_) (fun g => ?_)
      all_goals conv => whnf
      · have lt := zs_take zD (l := l) (i := i) (by omega)
        have le1 := le (i + 1)
        repeat' first | ((first|refine sN ?_|refine Dr.cons ?_|(refine Dr.nil ?_;refine drawIf (by kernel_rfl) ?_)|refine vN rfl ?_|refine Vc.draw rfl (by kernel_rfl) ?_|refine mkSl (by omega) (by omega) ?_);conv=>whnf) | (refine ifB_i (fun _=>?_) (fun _=>?_)<;>conv=>whnf) | (refine ixN (enc := Xe.eD) default (by omega) ?_;conv=>whnf) | (refine callS (szE (sz_D (l.getD i default) m (by omega))) ?_; rintro _ ⟨r, hr, rfl⟩;conv=>whnf) | (refine w64 (by omega) (by omega) ?_;conv=>whnf)
        all_goals first
          | exact rI' (by (try simp only [decide_eq_true_eq, decide_eq_false_iff_not] at *); unfold szv zDs; split <;> omega)
          | (refine ⟨i + 1, r, ⟨by omega, (by (try simp only [decide_eq_true_eq, decide_eq_false_iff_not] at *); omega), (by (try simp only [decide_eq_true_eq, decide_eq_false_iff_not] at *); omega)⟩, by simp only; omega, ?_⟩
             repeat' (first|exact True.intro|((conv=>whnf);first|exact True.intro|refine ⟨by rfl, ?_⟩|refine ⟨by first|omega|(show (_ : Int) = _;first|omega|(dsimp only;omega)), ?_⟩ | refine ⟨?_, ?_⟩)))
      · (repeat' first | ((first|refine sN ?_|refine Dr.cons ?_|(refine Dr.nil ?_;refine drawIf (by kernel_rfl) ?_)|refine vN rfl ?_|refine Vc.draw rfl (by kernel_rfl) ?_|refine mkSl (by omega) (by omega) ?_);conv=>whnf))
        exact rI' (by rw [List.take_of_length_le (by omega)] at hm; unfold szv zDs; split <;> omega)
def zS (x : Site) : Nat := x.Base.length + x.Added.length + zDs x.Done
theorem sz_S (x : Site) (n : Int) (h : 0 ≤ n ∧ n ≤ 1048576) : Sem P 211 [(.pure, .agg (Xe.aS x)), (.pure, I n)] [] (I (szv n (zS x))) := by
  refine fn_okR (E := E0) E0_tab E0_ord (fn := Go.Proofs.Tryz.f211) (by kernel_rfl) (by kernel_rfl) (fun hb => ?_)
  conv => whnf
  repeat' first | ((first|refine sN ?_|refine Dr.cons ?_|(refine Dr.nil ?_;refine drawIf (by kernel_rfl) ?_)|refine vN rfl ?_|refine Vc.draw rfl (by kernel_rfl) ?_|refine mkSl (by omega) (by omega) ?_);conv=>whnf) | (refine ifB_i (fun _=>?_) (fun _=>?_)<;>conv=>whnf) | (refine callS (szE (sz_I x.Base _ (by (try simp only [decide_eq_true_eq, decide_eq_false_iff_not] at *); omega))) ?_; rintro _ ⟨r, hr, rfl⟩;conv=>whnf) | (refine callS (szE (sz_I x.Added _ (by (try simp only [decide_eq_true_eq, decide_eq_false_iff_not] at *); omega))) ?_; rintro _ ⟨r, hr, rfl⟩;conv=>whnf) | (refine callS (szE (sz_Ds x.Done _ (by (try simp only [decide_eq_true_eq, decide_eq_false_iff_not] at *); omega))) ?_; rintro _ ⟨r, hr, rfl⟩;conv=>whnf)
  all_goals exact rI' (by (try simp only [decide_eq_true_eq, decide_eq_false_iff_not] at *); unfold szv zS; split <;> omega)
def zSs (l : List Site) : Nat := l.length + zs zS l
theorem sz_Ss (l : List Site) (n : Int) (h : 0 ≤ n ∧ n ≤ 1048576) : Sem P 115 [(.pure, .one (Xe.sSs l)), (.pure, I n)] [] (I (szv n (zSs l))) := by
  refine fn_okR (E := E0) E0_tab E0_ord (fn := Go.Proofs.Tryz.f115) (by kernel_rfl) (by kernel_rfl) (fun hb => ?_)
  have la : (l.map Xe.eS).length = l.length := List.length_map ..
  have hb1 : (l.map Xe.eS).length ≤ 1125899906842624 := hb.1.1
  conv => whnf
  repeat' first | ((first|refine sN ?_|refine Dr.cons ?_|(refine Dr.nil ?_;refine drawIf (by kernel_rfl) ?_)|refine vN rfl ?_|refine Vc.draw rfl (by kernel_rfl) ?_|refine mkSl (by omega) (by omega) ?_);conv=>whnf) | (refine ifB_i (fun _=>?_) (fun _=>?_)<;>conv=>whnf) | (refine w64 (by omega) (by omega) ?_;conv=>whnf)
  · exact rI' (by (try simp only [decide_eq_true_eq, decide_eq_false_iff_not] at *); unfold szv zSs; split <;> omega)
  · refine Vc.loop2 (fun (i : Nat) (m : Int) => i ≤ l.length ∧ m = n - l.length - (zs zS (l.take i) : Nat) ∧ 0 ≤ m) (fun i m => updL [0, 26] [(5, I i), (1, I m)] []) (fun i _ => l.length - i) 0 (n - l.length) ⟨Nat.zero_le _, by simp [zs], (by (try simp only [decide_eq_true_eq, decide_eq_false_iff_not] at *); omega)⟩ ?_ (fun i m hi => ?_)
    · repeat' (first|exact True.intro|((conv=>whnf);first|exact True.intro|refine ⟨by rfl, ?_⟩|refine ⟨by first|omega|(show (_ : Int) = _;first|omega|(dsimp only;omega)), ?_⟩ | refine ⟨?_, ?_⟩))
    · obtain ⟨hi, hm, h0⟩ := hi
      have le := zs_le zS l
      conv => whnf
      (repeat' first | ((first|refine sN ?_|refine Dr.cons ?_|(refine Dr.nil ?_;refine drawIf (by kernel_rfl) ?_)|refine vN rfl ?_|refine Vc.draw rfl (by kernel_rfl) ?_|refine mkSl (by omega) (by omega) ?_);conv=>whnf))
      refine ifB_d (fun g => ?_) (fun g => ?_)
      all_goals conv => whnf
      · have lt := zs_take zS (l := l) (i := i) (by omega)
        have le1 := le (i + 1)
        repeat' first | ((first|refine sN ?_|refine Dr.cons ?_|(refine Dr.nil ?_;refine drawIf (by kernel_rfl) ?_)|refine vN rfl ?_|refine Vc.draw rfl (by kernel_rfl) ?_|refine mkSl (by omega) (by omega) ?_);conv=>whnf) | (refine ifB_i (fun _=>?_) (fun _=>?_)<;>conv=>whnf) | (refine ixN (enc := Xe.eS) default (by omega) ?_;conv=>whnf) | (refine callS (szE (sz_S (l.getD i default) m (by omega))) ?_; rintro _ ⟨r, hr, rfl⟩;conv=>whnf) | (refine w64 (by omega) (by omega) ?_;conv=>whnf)
        all_goals first
          | exact rI' (by (try simp only [decide_eq_true_eq, decide_eq_false_iff_not] at *); unfold szv zSs; split <;> omega)
          | (refine ⟨i + 1, r, ⟨by omega, (by (try simp only [decide_eq_true_eq, decide_eq_false_iff_not] at *); omega), (by (try simp only [decide_eq_true_eq, decide_eq_false_iff_not] at *); omega)⟩, by simp only; omega, ?_⟩
             repeat' (first|exact True.intro|((conv=>whnf);first|exact True.intro|refine ⟨by rfl, ?_⟩|refine ⟨by first|omega|(show (_ : Int) = _;first|omega|(dsimp only;omega)), ?_⟩ | refine ⟨?_, ?_⟩)))
      · (repeat' first | ((first|refine sN ?_|refine Dr.cons ?_|(refine Dr.nil ?_;refine drawIf (by kernel_rfl) ?_)|refine vN rfl ?_|refine Vc.draw rfl (by kernel_rfl) ?_|refine mkSl (by omega) (by omega) ?_);conv=>whnf))
        exact rI' (by rw [List.take_of_length_le (by omega)] at hm; unfold szv zSs; split <;> omega)
def zC (x : Call) : Nat := x.Args.length
theorem sz_C (x : Call) (n : Int) (h : 0 ≤ n ∧ n ≤ 1048576) : Sem P 303 [(.pure, .agg (Xe.aC x)), (.pure, I n)] [] (I (szv n (zC x))) := by
  refine fn_okR (E := E0) E0_tab E0_ord (fn := Go.Proofs.Tryz.f303) (by kernel_rfl) (by kernel_rfl) (fun hb => ?_)
  conv => whnf
  repeat' first | ((first|refine sN ?_|refine Dr.cons ?_|(refine Dr.nil ?_;refine drawIf (by kernel_rfl) ?_)|refine vN rfl ?_|refine Vc.draw rfl (by kernel_rfl) ?_|refine mkSl (by omega) (by omega) ?_);conv=>whnf) | (refine ifB_i (fun _=>?_) (fun _=>?_)<;>conv=>whnf) | (refine callS (szE (sz_I x.Args _ (by (try simp only [decide_eq_true_eq, decide_eq_false_iff_not] at *); omega))) ?_; rintro _ ⟨r, hr, rfl⟩;conv=>whnf)
  all_goals exact rI' (by (try simp only [decide_eq_true_eq, decide_eq_false_iff_not] at *); unfold szv zC; split <;> omega)
def zCs (l : List Call) : Nat := l.length + zs zC l
theorem sz_Cs (l : List Call) (n : Int) (h : 0 ≤ n ∧ n ≤ 1048576) : Sem P 213 [(.pure, .one (Xe.sCs l)), (.pure, I n)] [] (I (szv n (zCs l))) := by
  refine fn_okR (E := E0) E0_tab E0_ord (fn := Go.Proofs.Tryz.f213) (by kernel_rfl) (by kernel_rfl) (fun hb => ?_)
  have la : (l.map Xe.eC).length = l.length := List.length_map ..
  have hb1 : (l.map Xe.eC).length ≤ 1125899906842624 := hb.1.1
  conv => whnf
  repeat' first | ((first|refine sN ?_|refine Dr.cons ?_|(refine Dr.nil ?_;refine drawIf (by kernel_rfl) ?_)|refine vN rfl ?_|refine Vc.draw rfl (by kernel_rfl) ?_|refine mkSl (by omega) (by omega) ?_);conv=>whnf) | (refine ifB_i (fun _=>?_) (fun _=>?_)<;>conv=>whnf) | (refine w64 (by omega) (by omega) ?_;conv=>whnf)
  · exact rI' (by (try simp only [decide_eq_true_eq, decide_eq_false_iff_not] at *); unfold szv zCs; split <;> omega)
  · refine Vc.loop2 (fun (i : Nat) (m : Int) => i ≤ l.length ∧ m = n - l.length - (zs zC (l.take i) : Nat) ∧ 0 ≤ m) (fun i m => updL [0, 26] [(5, I i), (1, I m)] []) (fun i _ => l.length - i) 0 (n - l.length) ⟨Nat.zero_le _, by simp [zs], (by (try simp only [decide_eq_true_eq, decide_eq_false_iff_not] at *); omega)⟩ ?_ (fun i m hi => ?_)
    · repeat' (first|exact True.intro|((conv=>whnf);first|exact True.intro|refine ⟨by rfl, ?_⟩|refine ⟨by first|omega|(show (_ : Int) = _;first|omega|(dsimp only;omega)), ?_⟩ | refine ⟨?_, ?_⟩))
    · obtain ⟨hi, hm, h0⟩ := hi
      have le := zs_le zC l
      conv => whnf
      (repeat' first | ((first|refine sN ?_|refine Dr.cons ?_|(refine Dr.nil ?_;refine drawIf (by kernel_rfl) ?_)|refine vN rfl ?_|refine Vc.draw rfl (by kernel_rfl) ?_|refine mkSl (by omega) (by omega) ?_);conv=>whnf))
      refine ifB_d (fun g => ?_) (fun g => ?_)
      all_goals conv => whnf
      · have lt := zs_take zC (l := l) (i := i) (by omega)
        have le1 := le (i + 1)
        repeat' first | ((first|refine sN ?_|refine Dr.cons ?_|(refine Dr.nil ?_;refine drawIf (by kernel_rfl) ?_)|refine vN rfl ?_|refine Vc.draw rfl (by kernel_rfl) ?_|refine mkSl (by omega) (by omega) ?_);conv=>whnf) | (refine ifB_i (fun _=>?_) (fun _=>?_)<;>conv=>whnf) | (refine ixN (enc := Xe.eC) default (by omega) ?_;conv=>whnf) | (refine callS (szE (sz_C (l.getD i default) m (by omega))) ?_; rintro _ ⟨r, hr, rfl⟩;conv=>whnf) | (refine w64 (by omega) (by omega) ?_;conv=>whnf)
        all_goals first
          | exact rI' (by (try simp only [decide_eq_true_eq, decide_eq_false_iff_not] at *); unfold szv zCs; split <;> omega)
          | (refine ⟨i + 1, r, ⟨by omega, (by (try simp only [decide_eq_true_eq, decide_eq_false_iff_not] at *); omega), (by (try simp only [decide_eq_true_eq, decide_eq_false_iff_not] at *); omega)⟩, by simp only; omega, ?_⟩
             repeat' (first|exact True.intro|((conv=>whnf);first|exact True.intro|refine ⟨by rfl, ?_⟩|refine ⟨by first|omega|(show (_ : Int) = _;first|omega|(dsimp only;omega)), ?_⟩ | refine ⟨?_, ?_⟩)))
      · (repeat' first | ((first|refine sN ?_|refine Dr.cons ?_|(refine Dr.nil ?_;refine drawIf (by kernel_rfl) ?_)|refine vN rfl ?_|refine Vc.draw rfl (by kernel_rfl) ?_|refine mkSl (by omega) (by omega) ?_);conv=>whnf))
        exact rI' (by rw [List.take_of_length_le (by omega)] at hm; unfold szv zCs; split <;> omega)
def zG (x : Got) : Nat := x.Added.length + x.Seqs.length
theorem sz_G (x : Got) (n : Int) (h : 0 ≤ n ∧ n ≤ 1048576) : Sem P 304 [(.pure, .agg (Xe.aG x)), (.pure, I n)] [] (I (szv n (zG x))) := by
  refine fn_okR (E := E0) E0_tab E0_ord (fn := Go.Proofs.Tryz.f304) (by kernel_rfl) (by kernel_rfl) (fun hb => ?_)
  conv => whnf
  repeat' first | ((first|refine sN ?_|refine Dr.cons ?_|(refine Dr.nil ?_;refine drawIf (by kernel_rfl) ?_)|refine vN rfl ?_|refine Vc.draw rfl (by kernel_rfl) ?_|refine mkSl (by omega) (by omega) ?_);conv=>whnf) | (refine ifB_i (fun _=>?_) (fun _=>?_)<;>conv=>whnf) | (refine callS (szE (sz_I x.Added _ (by (try simp only [decide_eq_true_eq, decide_eq_false_iff_not] at *); omega))) ?_; rintro _ ⟨r, hr, rfl⟩;conv=>whnf) | (refine callS (szE (sz_I x.Seqs _ (by (try simp only [decide_eq_true_eq, decide_eq_false_iff_not] at *); omega))) ?_; rintro _ ⟨r, hr, rfl⟩;conv=>whnf)
  all_goals exact rI' (by (try simp only [decide_eq_true_eq, decide_eq_false_iff_not] at *); unfold szv zG; split <;> omega)
def zGs (l : List Got) : Nat := l.length + zs zG l
theorem sz_Gs (l : List Got) (n : Int) (h : 0 ≤ n ∧ n ≤ 1048576) : Sem P 214 [(.pure, .one (Xe.sGs l)), (.pure, I n)] [] (I (szv n (zGs l))) := by
  refine fn_okR (E := E0) E0_tab E0_ord (fn := Go.Proofs.Tryz.f214) (by kernel_rfl) (by kernel_rfl) (fun hb => ?_)
  have la : (l.map Xe.eG).length = l.length := List.length_map ..
  have hb1 : (l.map Xe.eG).length ≤ 1125899906842624 := hb.1.1
  conv => whnf
  repeat' first | ((first|refine sN ?_|refine Dr.cons ?_|(refine Dr.nil ?_;refine drawIf (by kernel_rfl) ?_)|refine vN rfl ?_|refine Vc.draw rfl (by kernel_rfl) ?_|refine mkSl (by omega) (by omega) ?_);conv=>whnf) | (refine ifB_i (fun _=>?_) (fun _=>?_)<;>conv=>whnf) | (refine w64 (by omega) (by omega) ?_;conv=>whnf)
  · exact rI' (by (try simp only [decide_eq_true_eq, decide_eq_false_iff_not] at *); unfold szv zGs; split <;> omega)
  · refine Vc.loop2 (fun (i : Nat) (m : Int) => i ≤ l.length ∧ m = n - l.length - (zs zG (l.take i) : Nat) ∧ 0 ≤ m) (fun i m => updL [0, 26] [(5, I i), (1, I m)] []) (fun i _ => l.length - i) 0 (n - l.length) ⟨Nat.zero_le _, by simp [zs], (by (try simp only [decide_eq_true_eq, decide_eq_false_iff_not] at *); omega)⟩ ?_ (fun i m hi => ?_)
    · repeat' (first|exact True.intro|((conv=>whnf);first|exact True.intro|refine ⟨by rfl, ?_⟩|refine ⟨by first|omega|(show (_ : Int) = _;first|omega|(dsimp only;omega)), ?_⟩ | refine ⟨?_, ?_⟩))
    · obtain ⟨hi, hm, h0⟩ := hi
      have le := zs_le zG l
      conv => whnf
      (repeat' first | ((first|refine sN ?_|refine Dr.cons ?_|(refine Dr.nil ?_;refine drawIf (by kernel_rfl) ?_)|refine vN rfl ?_|refine Vc.draw rfl (by kernel_rfl) ?_|refine mkSl (by omega) (by omega) ?_);conv=>whnf))
      refine ifB_d (fun g => ?_) (fun g => ?_)
      all_goals conv => whnf
      · have lt := zs_take zG (l := l) (i := i) (by omega)
        have le1 := le (i + 1)
        repeat' first | ((first|refine sN ?_|refine Dr.cons ?_|(refine Dr.nil ?_;refine drawIf (by kernel_rfl) ?_)|refine vN rfl ?_|refine Vc.draw rfl (by kernel_rfl) ?_|refine mkSl (by omega) (by omega) ?_);conv=>whnf) | (refine ifB_i (fun _=>?_) (fun _=>?_)<;>conv=>whnf) | (refine ixN (enc := Xe.eG) default (by omega) ?_;conv=>whnf) | (refine callS (szE (sz_G (l.getD i default) m (by omega))) ?_; rintro _ ⟨r, hr, rfl⟩;conv=>whnf) | (refine w64 (by omega) (by omega) ?_;conv=>whnf)
        all_goals first
          | exact rI' (by (try simp only [decide_eq_true_eq, decide_eq_false_iff_not] at *); unfold szv zGs; split <;> omega)
          | (refine ⟨i + 1, r, ⟨by omega, (by (try simp only [decide_eq_true_eq, decide_eq_false_iff_not] at *); omega), (by (try simp only [decide_eq_true_eq, decide_eq_false_iff_not] at *); omega)⟩, by simp only; omega, ?_⟩
             repeat' (first|exact True.intro|((conv=>whnf);first|exact True.intro|refine ⟨by rfl, ?_⟩|refine ⟨by first|omega|(show (_ : Int) = _;first|omega|(dsimp only;omega)), ?_⟩ | refine ⟨?_, ?_⟩)))
      · (repeat' first | ((first|refine sN ?_|refine Dr.cons ?_|(refine Dr.nil ?_;refine drawIf (by kernel_rfl) ?_)|refine vN rfl ?_|refine Vc.draw rfl (by kernel_rfl) ?_|refine mkSl (by omega) (by omega) ?_);conv=>whnf))
        exact rI' (by rw [List.take_of_length_le (by omega)] at hm; unfold szv zGs; split <;> omega)
def zK (x : Clerk) : Nat := x.Base.length + zDs x.Done + zCs x.Wants + zGs x.Got
theorem sz_K (x : Clerk) (n : Int) (h : 0 ≤ n ∧ n ≤ 1048576) : Sem P 116 [(.pure, .agg (Xe.aK x)), (.pure, I n)] [] (I (szv n (zK x))) := by
  refine fn_okR (E := E0) E0_tab E0_ord (fn := Go.Proofs.Tryz.f116) (by kernel_rfl) (by kernel_rfl) (fun hb => ?_)
  conv => whnf
  repeat' first | ((first|refine sN ?_|refine Dr.cons ?_|(refine Dr.nil ?_;refine drawIf (by kernel_rfl) ?_)|refine vN rfl ?_|refine Vc.draw rfl (by kernel_rfl) ?_|refine mkSl (by omega) (by omega) ?_);conv=>whnf) | (refine ifB_i (fun _=>?_) (fun _=>?_)<;>conv=>whnf) | (refine callS (szE (sz_I x.Base _ (by (try simp only [decide_eq_true_eq, decide_eq_false_iff_not] at *); omega))) ?_; rintro _ ⟨r, hr, rfl⟩;conv=>whnf) | (refine callS (szE (sz_Ds x.Done _ (by (try simp only [decide_eq_true_eq, decide_eq_false_iff_not] at *); omega))) ?_; rintro _ ⟨r, hr, rfl⟩;conv=>whnf) | (refine callS (szE (sz_Cs x.Wants _ (by (try simp only [decide_eq_true_eq, decide_eq_false_iff_not] at *); omega))) ?_; rintro _ ⟨r, hr, rfl⟩;conv=>whnf) | (refine callS (szE (sz_Gs x.Got _ (by (try simp only [decide_eq_true_eq, decide_eq_false_iff_not] at *); omega))) ?_; rintro _ ⟨r, hr, rfl⟩;conv=>whnf)
  all_goals exact rI' (by (try simp only [decide_eq_true_eq, decide_eq_false_iff_not] at *); unfold szv zK; split <;> omega)
def zX (x : Client) : Nat := zC x.Call + zR x.Res
theorem sz_X (x : Client) (n : Int) (h : 0 ≤ n ∧ n ≤ 1048576) : Sem P 215 [(.pure, .agg (Xe.aX x)), (.pure, I n)] [] (I (szv n (zX x))) := by
  refine fn_okR (E := E0) E0_tab E0_ord (fn := Go.Proofs.Tryz.f215) (by kernel_rfl) (by kernel_rfl) (fun hb => ?_)
  conv => whnf
  repeat' first | ((first|refine sN ?_|refine Dr.cons ?_|(refine Dr.nil ?_;refine drawIf (by kernel_rfl) ?_)|refine vN rfl ?_|refine Vc.draw rfl (by kernel_rfl) ?_|refine mkSl (by omega) (by omega) ?_);conv=>whnf) | (refine ifB_i (fun _=>?_) (fun _=>?_)<;>conv=>whnf) | (refine callS (szE (sz_C x.Call _ (by (try simp only [decide_eq_true_eq, decide_eq_false_iff_not] at *); omega))) ?_; rintro _ ⟨r, hr, rfl⟩;conv=>whnf) | (refine callS (szE (sz_R x.Res _ (by (try simp only [decide_eq_true_eq, decide_eq_false_iff_not] at *); omega))) ?_; rintro _ ⟨r, hr, rfl⟩;conv=>whnf)
  all_goals exact rI' (by (try simp only [decide_eq_true_eq, decide_eq_false_iff_not] at *); unfold szv zX; split <;> omega)
def zXs (l : List Client) : Nat := l.length + zs zX l
theorem sz_Xs (l : List Client) (n : Int) (h : 0 ≤ n ∧ n ≤ 1048576) : Sem P 117 [(.pure, .one (Xe.sXs l)), (.pure, I n)] [] (I (szv n (zXs l))) := by
  refine fn_okR (E := E0) E0_tab E0_ord (fn := Go.Proofs.Tryz.f117) (by kernel_rfl) (by kernel_rfl) (fun hb => ?_)
  have la : (l.map Xe.eX).length = l.length := List.length_map ..
  have hb1 : (l.map Xe.eX).length ≤ 1125899906842624 := hb.1.1
  conv => whnf
  repeat' first | ((first|refine sN ?_|refine Dr.cons ?_|(refine Dr.nil ?_;refine drawIf (by kernel_rfl) ?_)|refine vN rfl ?_|refine Vc.draw rfl (by kernel_rfl) ?_|refine mkSl (by omega) (by omega) ?_);conv=>whnf) | (refine ifB_i (fun _=>?_) (fun _=>?_)<;>conv=>whnf) | (refine w64 (by omega) (by omega) ?_;conv=>whnf)
  · exact rI' (by (try simp only [decide_eq_true_eq, decide_eq_false_iff_not] at *); unfold szv zXs; split <;> omega)
  · refine Vc.loop2 (fun (i : Nat) (m : Int) => i ≤ l.length ∧ m = n - l.length - (zs zX (l.take i) : Nat) ∧ 0 ≤ m) (fun i m => updL [0, 26] [(5, I i), (1, I m)] []) (fun i _ => l.length - i) 0 (n - l.length) ⟨Nat.zero_le _, by simp [zs], (by (try simp only [decide_eq_true_eq, decide_eq_false_iff_not] at *); omega)⟩ ?_ (fun i m hi => ?_)
    · repeat' (first|exact True.intro|((conv=>whnf);first|exact True.intro|refine ⟨by rfl, ?_⟩|refine ⟨by first|omega|(show (_ : Int) = _;first|omega|(dsimp only;omega)), ?_⟩ | refine ⟨?_, ?_⟩))
    · obtain ⟨hi, hm, h0⟩ := hi
      have le := zs_le zX l
      conv => whnf
      (repeat' first | ((first|refine sN ?_|refine Dr.cons ?_|(refine Dr.nil ?_;refine drawIf (by kernel_rfl) ?_)|refine vN rfl ?_|refine Vc.draw rfl (by kernel_rfl) ?_|refine mkSl (by omega) (by omega) ?_);conv=>whnf))
      refine ifB_d (fun g => ?_) (fun g => ?_)
      all_goals conv => whnf
      · have lt := zs_take zX (l := l) (i := i) (by omega)
        have le1 := le (i + 1)
        repeat' first | ((first|refine sN ?_|refine Dr.cons ?_|(refine Dr.nil ?_;refine drawIf (by kernel_rfl) ?_)|refine vN rfl ?_|refine Vc.draw rfl (by kernel_rfl) ?_|refine mkSl (by omega) (by omega) ?_);conv=>whnf) | (refine ifB_i (fun _=>?_) (fun _=>?_)<;>conv=>whnf) | (refine ixN (enc := Xe.eX) default (by omega) ?_;conv=>whnf) | (refine callS (szE (sz_X (l.getD i default) m (by omega))) ?_; rintro _ ⟨r, hr, rfl⟩;conv=>whnf) | (refine w64 (by omega) (by omega) ?_;conv=>whnf)
        all_goals first
          | exact rI' (by (try simp only [decide_eq_true_eq, decide_eq_false_iff_not] at *); unfold szv zXs; split <;> omega)
          | (refine ⟨i + 1, r, ⟨by omega, (by (try simp only [decide_eq_true_eq, decide_eq_false_iff_not] at *); omega), (by (try simp only [decide_eq_true_eq, decide_eq_false_iff_not] at *); omega)⟩, by simp only; omega, ?_⟩
             repeat' (first|exact True.intro|((conv=>whnf);first|exact True.intro|refine ⟨by rfl, ?_⟩|refine ⟨by first|omega|(show (_ : Int) = _;first|omega|(dsimp only;omega)), ?_⟩ | refine ⟨?_, ?_⟩)))
      · (repeat' first | ((first|refine sN ?_|refine Dr.cons ?_|(refine Dr.nil ?_;refine drawIf (by kernel_rfl) ?_)|refine vN rfl ?_|refine Vc.draw rfl (by kernel_rfl) ?_|refine mkSl (by omega) (by omega) ?_);conv=>whnf))
        exact rI' (by rw [List.take_of_length_le (by omega)] at hm; unfold szv zXs; split <;> omega)
def zM (x : Msg) : Nat := zC x.Call + x.Vals.length + x.Seqs.length + zDs x.Done
theorem sz_M (x : Msg) (n : Int) (h : 0 ≤ n ∧ n ≤ 1048576) : Sem P 216 [(.pure, .agg (Xe.aM x)), (.pure, I n)] [] (I (szv n (zM x))) := by
  refine fn_okR (E := E0) E0_tab E0_ord (fn := Go.Proofs.Tryz.f216) (by kernel_rfl) (by kernel_rfl) (fun hb => ?_)
  conv => whnf
  repeat' first | ((first|refine sN ?_|refine Dr.cons ?_|(refine Dr.nil ?_;refine drawIf (by kernel_rfl) ?_)|refine vN rfl ?_|refine Vc.draw rfl (by kernel_rfl) ?_|refine mkSl (by omega) (by omega) ?_);conv=>whnf) | (refine ifB_i (fun _=>?_) (fun _=>?_)<;>conv=>whnf) | (refine callS (szE (sz_C x.Call _ (by (try simp only [decide_eq_true_eq, decide_eq_false_iff_not] at *); omega))) ?_; rintro _ ⟨r, hr, rfl⟩;conv=>whnf) | (refine callS (szE (sz_I x.Vals _ (by (try simp only [decide_eq_true_eq, decide_eq_false_iff_not] at *); omega))) ?_; rintro _ ⟨r, hr, rfl⟩;conv=>whnf) | (refine callS (szE (sz_I x.Seqs _ (by (try simp only [decide_eq_true_eq, decide_eq_false_iff_not] at *); omega))) ?_; rintro _ ⟨r, hr, rfl⟩;conv=>whnf) | (refine callS (szE (sz_Ds x.Done _ (by (try simp only [decide_eq_true_eq, decide_eq_false_iff_not] at *); omega))) ?_; rintro _ ⟨r, hr, rfl⟩;conv=>whnf)
  all_goals exact rI' (by (try simp only [decide_eq_true_eq, decide_eq_false_iff_not] at *); unfold szv zM; split <;> omega)
def zMs (l : List Msg) : Nat := l.length + zs zM l
theorem sz_Ms (l : List Msg) (n : Int) (h : 0 ≤ n ∧ n ≤ 1048576) : Sem P 118 [(.pure, .one (Xe.sMs l)), (.pure, I n)] [] (I (szv n (zMs l))) := by
  refine fn_okR (E := E0) E0_tab E0_ord (fn := Go.Proofs.Tryz.f118) (by kernel_rfl) (by kernel_rfl) (fun hb => ?_)
  have la : (l.map Xe.eM).length = l.length := List.length_map ..
  have hb1 : (l.map Xe.eM).length ≤ 1125899906842624 := hb.1.1
  conv => whnf
  repeat' first | ((first|refine sN ?_|refine Dr.cons ?_|(refine Dr.nil ?_;refine drawIf (by kernel_rfl) ?_)|refine vN rfl ?_|refine Vc.draw rfl (by kernel_rfl) ?_|refine mkSl (by omega) (by omega) ?_);conv=>whnf) | (refine ifB_i (fun _=>?_) (fun _=>?_)<;>conv=>whnf) | (refine w64 (by omega) (by omega) ?_;conv=>whnf)
  · exact rI' (by (try simp only [decide_eq_true_eq, decide_eq_false_iff_not] at *); unfold szv zMs; split <;> omega)
  · refine Vc.loop2 (fun (i : Nat) (m : Int) => i ≤ l.length ∧ m = n - l.length - (zs zM (l.take i) : Nat) ∧ 0 ≤ m) (fun i m => updL [0, 26] [(5, I i), (1, I m)] []) (fun i _ => l.length - i) 0 (n - l.length) ⟨Nat.zero_le _, by simp [zs], (by (try simp only [decide_eq_true_eq, decide_eq_false_iff_not] at *); omega)⟩ ?_ (fun i m hi => ?_)
    · repeat' (first|exact True.intro|((conv=>whnf);first|exact True.intro|refine ⟨by rfl, ?_⟩|refine ⟨by first|omega|(show (_ : Int) = _;first|omega|(dsimp only;omega)), ?_⟩ | refine ⟨?_, ?_⟩))
    · obtain ⟨hi, hm, h0⟩ := hi
      have le := zs_le zM l
      conv => whnf
      (repeat' first | ((first|refine sN ?_|refine Dr.cons ?_|(refine Dr.nil ?_;refine drawIf (by kernel_rfl) ?_)|refine vN rfl ?_|refine Vc.draw rfl (by kernel_rfl) ?_|refine mkSl (by omega) (by omega) ?_);conv=>whnf))
      refine ifB_d (fun g => ?_) (fun g => ?_)
      all_goals conv => whnf
      · have lt := zs_take zM (l := l) (i := i) (by omega)
        have le1 := le (i + 1)
        repeat' first | ((first|refine sN ?_|refine Dr.cons ?_|(refine Dr.nil ?_;refine drawIf (by kernel_rfl) ?_)|refine vN rfl ?_|refine Vc.draw rfl (by kernel_rfl) ?_|refine mkSl (by omega) (by omega) ?_);conv=>whnf) | (refine ifB_i (fun _=>?_) (fun _=>?_)<;>conv=>whnf) | (refine ixN (enc := Xe.eM) default (by omega) ?_;conv=>whnf) | (refine callS (szE (sz_M (l.getD i default) m (by omega))) ?_; rintro _ ⟨r, hr, rfl⟩;conv=>whnf) | (refine w64 (by omega) (by omega) ?_;conv=>whnf)
        all_goals first
          | exact rI' (by (try simp only [decide_eq_true_eq, decide_eq_false_iff_not] at *); unfold szv zMs; split <;> omega)
          | (refine ⟨i + 1, r, ⟨by omega, (by (try simp only [decide_eq_true_eq, decide_eq_false_iff_not] at *); omega), (by (try simp only [decide_eq_true_eq, decide_eq_false_iff_not] at *); omega)⟩, by simp only; omega, ?_⟩
             repeat' (first|exact True.intro|((conv=>whnf);first|exact True.intro|refine ⟨by rfl, ?_⟩|refine ⟨by first|omega|(show (_ : Int) = _;first|omega|(dsimp only;omega)), ?_⟩ | refine ⟨?_, ?_⟩)))
      · (repeat' first | ((first|refine sN ?_|refine Dr.cons ?_|(refine Dr.nil ?_;refine drawIf (by kernel_rfl) ?_)|refine vN rfl ?_|refine Vc.draw rfl (by kernel_rfl) ?_|refine mkSl (by omega) (by omega) ?_);conv=>whnf))
        exact rI' (by rw [List.take_of_length_le (by omega)] at hm; unfold szv zMs; split <;> omega)
def zO (x : LogD) : Nat := zC x.Call + zR x.Res
theorem sz_O (x : LogD) (n : Int) (h : 0 ≤ n ∧ n ≤ 1048576) : Sem P 217 [(.pure, .agg (Xe.aO x)), (.pure, I n)] [] (I (szv n (zO x))) := by
  refine fn_okR (E := E0) E0_tab E0_ord (fn := Go.Proofs.Tryz.f217) (by kernel_rfl) (by kernel_rfl) (fun hb => ?_)
  conv => whnf
  repeat' first | ((first|refine sN ?_|refine Dr.cons ?_|(refine Dr.nil ?_;refine drawIf (by kernel_rfl) ?_)|refine vN rfl ?_|refine Vc.draw rfl (by kernel_rfl) ?_|refine mkSl (by omega) (by omega) ?_);conv=>whnf) | (refine ifB_i (fun _=>?_) (fun _=>?_)<;>conv=>whnf) | (refine callS (szE (sz_C x.Call _ (by (try simp only [decide_eq_true_eq, decide_eq_false_iff_not] at *); omega))) ?_; rintro _ ⟨r, hr, rfl⟩;conv=>whnf) | (refine callS (szE (sz_R x.Res _ (by (try simp only [decide_eq_true_eq, decide_eq_false_iff_not] at *); omega))) ?_; rintro _ ⟨r, hr, rfl⟩;conv=>whnf)
  all_goals exact rI' (by (try simp only [decide_eq_true_eq, decide_eq_false_iff_not] at *); unfold szv zO; split <;> omega)
def zOs (l : List LogD) : Nat := l.length + zs zO l
theorem sz_Os (l : List LogD) (n : Int) (h : 0 ≤ n ∧ n ≤ 1048576) : Sem P 119 [(.pure, .one (Xe.sOs l)), (.pure, I n)] [] (I (szv n (zOs l))) := by
  refine fn_okR (E := E0) E0_tab E0_ord (fn := Go.Proofs.Tryz.f119) (by kernel_rfl) (by kernel_rfl) (fun hb => ?_)
  have la : (l.map Xe.eO).length = l.length := List.length_map ..
  have hb1 : (l.map Xe.eO).length ≤ 1125899906842624 := hb.1.1
  conv => whnf
  repeat' first | ((first|refine sN ?_|refine Dr.cons ?_|(refine Dr.nil ?_;refine drawIf (by kernel_rfl) ?_)|refine vN rfl ?_|refine Vc.draw rfl (by kernel_rfl) ?_|refine mkSl (by omega) (by omega) ?_);conv=>whnf) | (refine ifB_i (fun _=>?_) (fun _=>?_)<;>conv=>whnf) | (refine w64 (by omega) (by omega) ?_;conv=>whnf)
  · exact rI' (by (try simp only [decide_eq_true_eq, decide_eq_false_iff_not] at *); unfold szv zOs; split <;> omega)
  · refine Vc.loop2 (fun (i : Nat) (m : Int) => i ≤ l.length ∧ m = n - l.length - (zs zO (l.take i) : Nat) ∧ 0 ≤ m) (fun i m => updL [0, 26] [(5, I i), (1, I m)] []) (fun i _ => l.length - i) 0 (n - l.length) ⟨Nat.zero_le _, by simp [zs], (by (try simp only [decide_eq_true_eq, decide_eq_false_iff_not] at *); omega)⟩ ?_ (fun i m hi => ?_)
    · repeat' (first|exact True.intro|((conv=>whnf);first|exact True.intro|refine ⟨by rfl, ?_⟩|refine ⟨by first|omega|(show (_ : Int) = _;first|omega|(dsimp only;omega)), ?_⟩ | refine ⟨?_, ?_⟩))
    · obtain ⟨hi, hm, h0⟩ := hi
      have le := zs_le zO l
      conv => whnf
      (repeat' first | ((first|refine sN ?_|refine Dr.cons ?_|(refine Dr.nil ?_;refine drawIf (by kernel_rfl) ?_)|refine vN rfl ?_|refine Vc.draw rfl (by kernel_rfl) ?_|refine mkSl (by omega) (by omega) ?_);conv=>whnf))
      refine ifB_d (fun g => ?_) (fun g => ?_)
      all_goals conv => whnf
      · have lt := zs_take zO (l := l) (i := i) (by omega)
        have le1 := le (i + 1)
        repeat' first | ((first|refine sN ?_|refine Dr.cons ?_|(refine Dr.nil ?_;refine drawIf (by kernel_rfl) ?_)|refine vN rfl ?_|refine Vc.draw rfl (by kernel_rfl) ?_|refine mkSl (by omega) (by omega) ?_);conv=>whnf) | (refine ifB_i (fun _=>?_) (fun _=>?_)<;>conv=>whnf) | (refine ixN (enc := Xe.eO) default (by omega) ?_;conv=>whnf) | (refine callS (szE (sz_O (l.getD i default) m (by omega))) ?_; rintro _ ⟨r, hr, rfl⟩;conv=>whnf) | (refine w64 (by omega) (by omega) ?_;conv=>whnf)
        all_goals first
          | exact rI' (by (try simp only [decide_eq_true_eq, decide_eq_false_iff_not] at *); unfold szv zOs; split <;> omega)
          | (refine ⟨i + 1, r, ⟨by omega, (by (try simp only [decide_eq_true_eq, decide_eq_false_iff_not] at *); omega), (by (try simp only [decide_eq_true_eq, decide_eq_false_iff_not] at *); omega)⟩, by simp only; omega, ?_⟩
             repeat' (first|exact True.intro|((conv=>whnf);first|exact True.intro|refine ⟨by rfl, ?_⟩|refine ⟨by first|omega|(show (_ : Int) = _;first|omega|(dsimp only;omega)), ?_⟩ | refine ⟨?_, ?_⟩)))
      · (repeat' first | ((first|refine sN ?_|refine Dr.cons ?_|(refine Dr.nil ?_;refine drawIf (by kernel_rfl) ?_)|refine vN rfl ?_|refine Vc.draw rfl (by kernel_rfl) ?_|refine mkSl (by omega) (by omega) ?_);conv=>whnf))
        exact rI' (by rw [List.take_of_length_le (by omega)] at hm; unfold szv zOs; split <;> omega)
def zWd (x : World) : Nat := zPl x.Plan + zSs x.Sites + zK x.Clerk + zXs x.Clients + zMs x.Net + zOs x.Log
theorem sz_Wd (x : World) (n : Int) (h : 0 ≤ n ∧ n ≤ 1048576) : Sem P 30 [(.pure, .agg (Xe.aWd x)), (.pure, I n)] [] (I (szv n (zWd x))) := by
  refine fn_okR (E := E0) E0_tab E0_ord (fn := Go.Proofs.Tryz.f30) (by kernel_rfl) (by kernel_rfl) (fun hb => ?_)
  conv => whnf
  repeat' first | ((first|refine sN ?_|refine Dr.cons ?_|(refine Dr.nil ?_;refine drawIf (by kernel_rfl) ?_)|refine vN rfl ?_|refine Vc.draw rfl (by kernel_rfl) ?_|refine mkSl (by omega) (by omega) ?_);conv=>whnf) | (refine ifB_i (fun _=>?_) (fun _=>?_)<;>conv=>whnf) | (refine callS (szE (sz_Pl x.Plan _ (by (try simp only [decide_eq_true_eq, decide_eq_false_iff_not] at *); omega))) ?_; rintro _ ⟨r, hr, rfl⟩;conv=>whnf) | (refine callS (szE (sz_Ss x.Sites _ (by (try simp only [decide_eq_true_eq, decide_eq_false_iff_not] at *); omega))) ?_; rintro _ ⟨r, hr, rfl⟩;conv=>whnf) | (refine callS (szE (sz_K x.Clerk _ (by (try simp only [decide_eq_true_eq, decide_eq_false_iff_not] at *); omega))) ?_; rintro _ ⟨r, hr, rfl⟩;conv=>whnf) | (refine callS (szE (sz_Xs x.Clients _ (by (try simp only [decide_eq_true_eq, decide_eq_false_iff_not] at *); omega))) ?_; rintro _ ⟨r, hr, rfl⟩;conv=>whnf) | (refine callS (szE (sz_Ms x.Net _ (by (try simp only [decide_eq_true_eq, decide_eq_false_iff_not] at *); omega))) ?_; rintro _ ⟨r, hr, rfl⟩;conv=>whnf) | (refine callS (szE (sz_Os x.Log _ (by (try simp only [decide_eq_true_eq, decide_eq_false_iff_not] at *); omega))) ?_; rintro _ ⟨r, hr, rfl⟩;conv=>whnf)
  all_goals exact rI' (by (try simp only [decide_eq_true_eq, decide_eq_false_iff_not] at *); unfold szv zWd; split <;> omega)
end Cc
end
section
namespace Cc
open Go Go.AM
set_option maxRecDepth 100000
set_option maxHeartbeats 8000000
theorem set_copy {α : Type} [Inhabited α] (e : α → List AV) (l : List α) {i : Nat} (h : i < l.length) : ((l.take i ++ List.replicate (l.length - i) default).map e).set i (e (l.getD i default)) = (l.take (i + 1) ++ List.replicate (l.length - (i + 1)) default).map e := by
  rw [← List.map_set]
  congr 1
  rw [List.set_append, if_neg (by rw [List.length_take]; omega), take_succ_getD h, List.append_assoc]
  congr 1
  rw [List.length_take, show i - min i l.length = 0 by omega, show l.length - i = (l.length - (i + 1)) + 1 by omega, List.replicate_succ]
  rfl
theorem end_copy {α : Type} [Inhabited α] (e : α → List AV) (l : List α) {i : Nat} (h : i = l.length) : (l.take i ++ List.replicate (l.length - i) default).map e = l.map e := by
  subst h; simp
theorem to_I (l : List Int) (h : l.length ≤ 1048576) : Sem P 219 [(.pure, AI l)] [] (AI l) := by
  refine fn_okR (E := E0) E0_tab E0_ord (fn := Go.Proofs.Tryz.f219) (by kernel_rfl) (by kernel_rfl) (fun hb => ?_)
  have la : (ints l).length = l.length := List.length_map ..
  have hb1 : (ints l).length ≤ 1125899906842624 := hb.1.1
  conv => whnf
  repeat' first | ((first|refine sN ?_|refine Dr.cons ?_|(refine Dr.nil ?_;refine drawIf (by kernel_rfl) ?_)|refine vN rfl ?_|refine Vc.draw rfl (by kernel_rfl) ?_|refine mkSl (by omega) (by omega) ?_);conv=>whnf) | (refine ifB_i (fun _=>?_) (fun _=>?_)<;>conv=>whnf) | (refine w64 (by omega) (by omega) ?_;conv=>whnf)
  refine Vc.loop1 (fun (i : Nat) => i ≤ l.length) (fun i => updL [0, 2, 3, 21] [(4, I i)] [(128128, .arr 3 ((l.take i ++ List.replicate (l.length - i) default).map rI) false)]) (fun i => l.length - i) 0 (Nat.zero_le _) ?_ (fun i hi => ?_)
  · repeat' (first|exact True.intro|((conv=>whnf);first|exact True.intro|refine ⟨by rfl, ?_⟩|refine ⟨by first|omega|(show (_ : Int) = _;first|omega|(dsimp only;omega)) | exact (by simp only [List.take_zero, List.nil_append, Nat.sub_zero, List.map_replicate, Int.toNat_natCast, List.length_map]; rfl), ?_⟩ | refine ⟨?_, ?_⟩))
  · have lr : ((l.take i ++ List.replicate (l.length - i) default).map rI).length = l.length := by simp only [List.length_map, List.length_append, List.length_take, List.length_replicate]; omega
    conv => whnf
    (repeat' first | ((first|refine sN ?_|refine Dr.cons ?_|(refine Dr.nil ?_;refine drawIf (by kernel_rfl) ?_)|refine vN rfl ?_|refine Vc.draw rfl (by kernel_rfl) ?_|refine mkSl (by omega) (by omega) ?_);conv=>whnf))
    refine ifB_d (fun g => ?_) (fun g => ?_)
    all_goals conv => whnf
    · repeat' first | ((first|refine sN ?_|refine Dr.cons ?_|(refine Dr.nil ?_;refine drawIf (by kernel_rfl) ?_)|refine vN rfl ?_|refine Vc.draw rfl (by kernel_rfl) ?_|refine mkSl (by omega) (by omega) ?_);conv=>whnf) | (refine ifB_i (fun _=>?_) (fun _=>?_)<;>conv=>whnf) | ((first | refine ixN (enc := rI) default (by omega) ?_ | refine ioN (by omega) (by omega) ?_);conv=>whnf) | (refine rwN (enc := rI) default (by simp only [Int.toNat_natCast, List.length_append, List.length_take, List.length_replicate]; omega) ?_;conv=>whnf) | (refine w64 (by omega) (by omega) ?_;conv=>whnf)
      refine ⟨i + 1, by omega, by simp only; omega, ?_⟩
      repeat' (first|exact True.intro|((conv=>whnf);first|exact True.intro|refine ⟨by rfl, ?_⟩|refine ⟨by first|omega|(show (_ : Int) = _;first|omega|(dsimp only;omega)) | exact set_copy rI l (by omega), ?_⟩ | refine ⟨?_, ?_⟩))
    · (repeat' first | ((first|refine sN ?_|refine Dr.cons ?_|(refine Dr.nil ?_;refine drawIf (by kernel_rfl) ?_)|refine vN rfl ?_|refine Vc.draw rfl (by kernel_rfl) ?_|refine mkSl (by omega) (by omega) ?_);conv=>whnf))
      exact ⟨by rw [end_copy rI l (by omega)], rfl⟩
theorem to_F (x : Form) (h : zF x ≤ 1048576) : Sem P 380 [(.pure, .agg (Xe.aF x))] [] (.agg (eF x)) := by
  refine fn_okR (E := E0) E0_tab E0_ord (fn := Go.Proofs.Tryz.f380) (by kernel_rfl) (by kernel_rfl) (fun hb => ?_)
  conv => whnf
  repeat' first | ((first|refine sN ?_|refine Dr.cons ?_|(refine Dr.nil ?_;refine drawIf (by kernel_rfl) ?_)|refine vN rfl ?_|refine Vc.draw rfl (by kernel_rfl) ?_|refine mkSl (by omega) (by omega) ?_);conv=>whnf) | (refine ifB_i (fun _=>?_) (fun _=>?_)<;>conv=>whnf) | (refine ⟨_, to_I x.C (by unfold zF at h; omega), ?_⟩;conv=>whnf) | (refine ⟨_, to_I x.D (by unfold zF at h; omega), ?_⟩;conv=>whnf)
  exact ⟨rfl, rfl⟩
theorem to_L (x : Line) (h : zL x ≤ 1048576) : Sem P 354 [(.pure, .agg (Xe.aL x))] [] (.agg (eL x)) := by
  refine fn_okR (E := E0) E0_tab E0_ord (fn := Go.Proofs.Tryz.f354) (by kernel_rfl) (by kernel_rfl) (fun hb => ?_)
  conv => whnf
  repeat' first | ((first|refine sN ?_|refine Dr.cons ?_|(refine Dr.nil ?_;refine drawIf (by kernel_rfl) ?_)|refine vN rfl ?_|refine Vc.draw rfl (by kernel_rfl) ?_|refine mkSl (by omega) (by omega) ?_);conv=>whnf) | (refine ifB_i (fun _=>?_) (fun _=>?_)<;>conv=>whnf) | (refine ⟨_, to_F x.Form (by unfold zL at h; omega), ?_⟩;conv=>whnf)
  exact ⟨rfl, rfl⟩
theorem to_Ls (l : List Line) (h : zLs l ≤ 1048576) : Sem P 306 [(.pure, .one (Xe.sLs l))] [] (.one (sLs l)) := by
  refine fn_okR (E := E0) E0_tab E0_ord (fn := Go.Proofs.Tryz.f306) (by kernel_rfl) (by kernel_rfl) (fun hb => ?_)
  have la : (l.map Xe.eL).length = l.length := List.length_map ..
  have hz : l.length ≤ 1048576 := by unfold zLs at h; omega
  have hb1 : (l.map Xe.eL).length ≤ 1125899906842624 := hb.1.1
  conv => whnf
  repeat' first | ((first|refine sN ?_|refine Dr.cons ?_|(refine Dr.nil ?_;refine drawIf (by kernel_rfl) ?_)|refine vN rfl ?_|refine Vc.draw rfl (by kernel_rfl) ?_|refine mkSl (by omega) (by omega) ?_);conv=>whnf) | (refine ifB_i (fun _=>?_) (fun _=>?_)<;>conv=>whnf) | (refine w64 (by omega) (by omega) ?_;conv=>whnf)
  refine Vc.loop1 (fun (i : Nat) => i ≤ l.length) (fun i => updL [0, 2, 3, 22] [(4, I i)] [(128128, .arr 133 ((l.take i ++ List.replicate (l.length - i) default).map eL) false)]) (fun i => l.length - i) 0 (Nat.zero_le _) ?_ (fun i hi => ?_)
  · repeat' (first|exact True.intro|((conv=>whnf);first|exact True.intro|refine ⟨by rfl, ?_⟩|refine ⟨by first|omega|(show (_ : Int) = _;first|omega|(dsimp only;omega)) | exact (by simp only [List.take_zero, List.nil_append, Nat.sub_zero, List.map_replicate, Int.toNat_natCast, List.length_map]; rfl), ?_⟩ | refine ⟨?_, ?_⟩))
  · have lr : ((l.take i ++ List.replicate (l.length - i) default).map eL).length = l.length := by simp only [List.length_map, List.length_append, List.length_take, List.length_replicate]; omega
    conv => whnf
    (repeat' first | ((first|refine sN ?_|refine Dr.cons ?_|(refine Dr.nil ?_;refine drawIf (by kernel_rfl) ?_)|refine vN rfl ?_|refine Vc.draw rfl (by kernel_rfl) ?_|refine mkSl (by omega) (by omega) ?_);conv=>whnf))
    refine ifB_d (fun g => ?_) (fun g => ?_)
    all_goals conv => whnf
    · repeat' first | ((first|refine sN ?_|refine Dr.cons ?_|(refine Dr.nil ?_;refine drawIf (by kernel_rfl) ?_)|refine vN rfl ?_|refine Vc.draw rfl (by kernel_rfl) ?_|refine mkSl (by omega) (by omega) ?_);conv=>whnf) | (refine ifB_i (fun _=>?_) (fun _=>?_)<;>conv=>whnf) | (refine ixN (enc := Xe.eL) default (by omega) ?_;conv=>whnf) | (refine ⟨_, to_L (l.getD i default) (by have := zs_mem zL (l := l) (x := l.getD i default) (gd_mem (by omega)); unfold zLs at h; omega), ?_⟩;conv=>whnf) | (refine ioN (by omega) (by omega) ?_;conv=>whnf) | (refine rwN (enc := eL) default (by simp only [Int.toNat_natCast, List.length_append, List.length_take, List.length_replicate]; omega) ?_;conv=>whnf) | (refine w64 (by omega) (by omega) ?_;conv=>whnf)
      refine ⟨i + 1, by omega, by simp only; omega, ?_⟩
      repeat' (first|exact True.intro|((conv=>whnf);first|exact True.intro|refine ⟨by rfl, ?_⟩|refine ⟨by first|omega|(show (_ : Int) = _;first|omega|(dsimp only;omega)) | exact set_copy eL l (by omega), ?_⟩ | refine ⟨?_, ?_⟩))
    · (repeat' first | ((first|refine sN ?_|refine Dr.cons ?_|(refine Dr.nil ?_;refine drawIf (by kernel_rfl) ?_)|refine vN rfl ?_|refine Vc.draw rfl (by kernel_rfl) ?_|refine mkSl (by omega) (by omega) ?_);conv=>whnf))
      exact ⟨by rw [end_copy eL l (by omega)], rfl⟩
theorem to_As (l : List (List Line)) (h : zAs l ≤ 1048576) : Sem P 218 [(.pure, .one (Xe.sAs l))] [] (.one (sAs l)) := by
  refine fn_okR (E := E0) E0_tab E0_ord (fn := Go.Proofs.Tryz.f218) (by kernel_rfl) (by kernel_rfl) (fun hb => ?_)
  have la : (l.map Xe.eA).length = l.length := List.length_map ..
  have hz : l.length ≤ 1048576 := by unfold zAs at h; omega
  have hb1 : (l.map Xe.eA).length ≤ 1125899906842624 := hb.1.1
  conv => whnf
  repeat' first | ((first|refine sN ?_|refine Dr.cons ?_|(refine Dr.nil ?_;refine drawIf (by kernel_rfl) ?_)|refine vN rfl ?_|refine Vc.draw rfl (by kernel_rfl) ?_|refine mkSl (by omega) (by omega) ?_);conv=>whnf) | (refine ifB_i (fun _=>?_) (fun _=>?_)<;>conv=>whnf) | (refine w64 (by omega) (by omega) ?_;conv=>whnf)
  refine Vc.loop1 (fun (i : Nat) => i ≤ l.length) (fun i => updL [0, 2, 3, 22] [(4, I i)] [(128128, .arr 40 ((l.take i ++ List.replicate (l.length - i) default).map eA) false)]) (fun i => l.length - i) 0 (Nat.zero_le _) ?_ (fun i hi => ?_)
  · repeat' (first|exact True.intro|((conv=>whnf);first|exact True.intro|refine ⟨by rfl, ?_⟩|refine ⟨by first|omega|(show (_ : Int) = _;first|omega|(dsimp only;omega)) | exact (by simp only [List.take_zero, List.nil_append, Nat.sub_zero, List.map_replicate, Int.toNat_natCast, List.length_map]; rfl), ?_⟩ | refine ⟨?_, ?_⟩))
  · have lr : ((l.take i ++ List.replicate (l.length - i) default).map eA).length = l.length := by simp only [List.length_map, List.length_append, List.length_take, List.length_replicate]; omega
    conv => whnf
    (repeat' first | ((first|refine sN ?_|refine Dr.cons ?_|(refine Dr.nil ?_;refine drawIf (by kernel_rfl) ?_)|refine vN rfl ?_|refine Vc.draw rfl (by kernel_rfl) ?_|refine mkSl (by omega) (by omega) ?_);conv=>whnf))
    refine ifB_d (fun g => ?_) (fun g => ?_)
    all_goals conv => whnf
    · repeat' first | ((first|refine sN ?_|refine Dr.cons ?_|(refine Dr.nil ?_;refine drawIf (by kernel_rfl) ?_)|refine vN rfl ?_|refine Vc.draw rfl (by kernel_rfl) ?_|refine mkSl (by omega) (by omega) ?_);conv=>whnf) | (refine ifB_i (fun _=>?_) (fun _=>?_)<;>conv=>whnf) | (refine ixN (enc := Xe.eA) default (by omega) ?_;conv=>whnf) | (refine ⟨_, to_Ls (l.getD i default) (by have := zs_mem zLs (l := l) (x := l.getD i default) (gd_mem (by omega)); unfold zAs at h; omega), ?_⟩;conv=>whnf) | (refine ioN (by omega) (by omega) ?_;conv=>whnf) | (refine rwN (enc := eA) default (by simp only [Int.toNat_natCast, List.length_append, List.length_take, List.length_replicate]; omega) ?_;conv=>whnf) | (refine w64 (by omega) (by omega) ?_;conv=>whnf)
      refine ⟨i + 1, by omega, by simp only; omega, ?_⟩
      repeat' (first|exact True.intro|((conv=>whnf);first|exact True.intro|refine ⟨by rfl, ?_⟩|refine ⟨by first|omega|(show (_ : Int) = _;first|omega|(dsimp only;omega)) | exact set_copy eA l (by omega), ?_⟩ | refine ⟨?_, ?_⟩))
    · (repeat' first | ((first|refine sN ?_|refine Dr.cons ?_|(refine Dr.nil ?_;refine drawIf (by kernel_rfl) ?_)|refine vN rfl ?_|refine Vc.draw rfl (by kernel_rfl) ?_|refine mkSl (by omega) (by omega) ?_);conv=>whnf))
      exact ⟨by rw [end_copy eA l (by omega)], rfl⟩
theorem to_Pl (x : Plan) (h : zPl x ≤ 1048576) : Sem P 121 [(.pure, .agg (Xe.aPl x))] [] (.agg (ePl x)) := by
  refine fn_okR (E := E0) E0_tab E0_ord (fn := Go.Proofs.Tryz.f121) (by kernel_rfl) (by kernel_rfl) (fun hb => ?_)
  conv => whnf
  repeat' first | ((first|refine sN ?_|refine Dr.cons ?_|(refine Dr.nil ?_;refine drawIf (by kernel_rfl) ?_)|refine vN rfl ?_|refine Vc.draw rfl (by kernel_rfl) ?_|refine mkSl (by omega) (by omega) ?_);conv=>whnf) | (refine ifB_i (fun _=>?_) (fun _=>?_)<;>conv=>whnf) | (refine ⟨_, to_As x.Acts (by unfold zPl at h; omega), ?_⟩;conv=>whnf) | (refine ⟨_, to_I x.Gives (by unfold zPl at h; omega), ?_⟩;conv=>whnf) | (refine ⟨_, to_I x.Start (by unfold zPl at h; omega), ?_⟩;conv=>whnf)
  exact ⟨rfl, rfl⟩
theorem to_R (x : Rslt) (h : zR x ≤ 1048576) : Sem P 310 [(.pure, .agg (Xe.aR x))] [] (.agg (eR x)) := by
  refine fn_okR (E := E0) E0_tab E0_ord (fn := Go.Proofs.Tryz.f310) (by kernel_rfl) (by kernel_rfl) (fun hb => ?_)
  conv => whnf
  repeat' first | ((first|refine sN ?_|refine Dr.cons ?_|(refine Dr.nil ?_;refine drawIf (by kernel_rfl) ?_)|refine vN rfl ?_|refine Vc.draw rfl (by kernel_rfl) ?_|refine mkSl (by omega) (by omega) ?_);conv=>whnf) | (refine ifB_i (fun _=>?_) (fun _=>?_)<;>conv=>whnf) | (refine ⟨_, to_I x.Tells (by unfold zR at h; omega), ?_⟩;conv=>whnf)
  exact ⟨rfl, rfl⟩
theorem to_D (x : Done) (h : zD x ≤ 1048576) : Sem P 307 [(.pure, .agg (Xe.aD x))] [] (.agg (eD x)) := by
  refine fn_okR (E := E0) E0_tab E0_ord (fn := Go.Proofs.Tryz.f307) (by kernel_rfl) (by kernel_rfl) (fun hb => ?_)
  conv => whnf
  repeat' first | ((first|refine sN ?_|refine Dr.cons ?_|(refine Dr.nil ?_;refine drawIf (by kernel_rfl) ?_)|refine vN rfl ?_|refine Vc.draw rfl (by kernel_rfl) ?_|refine mkSl (by omega) (by omega) ?_);conv=>whnf) | (refine ifB_i (fun _=>?_) (fun _=>?_)<;>conv=>whnf) | (refine ⟨_, to_R x.Res (by unfold zD at h; omega), ?_⟩;conv=>whnf)
  exact ⟨rfl, rfl⟩
theorem to_Ds (l : List Done) (h : zDs l ≤ 1048576) : Sem P 221 [(.pure, .one (Xe.sDs l))] [] (.one (sDs l)) := by
  refine fn_okR (E := E0) E0_tab E0_ord (fn := Go.Proofs.Tryz.f221) (by kernel_rfl) (by kernel_rfl) (fun hb => ?_)
  have la : (l.map Xe.eD).length = l.length := List.length_map ..
  have hz : l.length ≤ 1048576 := by unfold zDs at h; omega
  have hb1 : (l.map Xe.eD).length ≤ 1125899906842624 := hb.1.1
  conv => whnf
  repeat' first | ((first|refine sN ?_|refine Dr.cons ?_|(refine Dr.nil ?_;refine drawIf (by kernel_rfl) ?_)|refine vN rfl ?_|refine Vc.draw rfl (by kernel_rfl) ?_|refine mkSl (by omega) (by omega) ?_);conv=>whnf) | (refine ifB_i (fun _=>?_) (fun _=>?_)<;>conv=>whnf) | (refine w64 (by omega) (by omega) ?_;conv=>whnf)
  refine Vc.loop1 (fun (i : Nat) => i ≤ l.length) (fun i => updL [0, 2, 3, 22] [(4, I i)] [(128128, .arr 113 ((l.take i ++ List.replicate (l.length - i) default).map eD) false)]) (fun i => l.length - i) 0 (Nat.zero_le _) ?_ (fun i hi => ?_)
  · repeat' (first|exact True.intro|((conv=>whnf);first|exact True.intro|refine ⟨by rfl, ?_⟩|refine ⟨by first|omega|(show (_ : Int) = _;first|omega|(dsimp only;omega)) | exact (by simp only [List.take_zero, List.nil_append, Nat.sub_zero, List.map_replicate, Int.toNat_natCast, List.length_map]; rfl), ?_⟩ | refine ⟨?_, ?_⟩))
  · have lr : ((l.take i ++ List.replicate (l.length - i) default).map eD).length = l.length := by simp only [List.length_map, List.length_append, List.length_take, List.length_replicate]; omega
    conv => whnf
    (repeat' first | ((first|refine sN ?_|refine Dr.cons ?_|(refine Dr.nil ?_;refine drawIf (by kernel_rfl) ?_)|refine vN rfl ?_|refine Vc.draw rfl (by kernel_rfl) ?_|refine mkSl (by omega) (by omega) ?_);conv=>whnf))
    refine ifB_d (fun g => ?_) (fun g => ?_)
    all_goals conv => whnf
    · repeat' first | ((first|refine sN ?_|refine Dr.cons ?_|(refine Dr.nil ?_;refine drawIf (by kernel_rfl) ?_)|refine vN rfl ?_|refine Vc.draw rfl (by kernel_rfl) ?_|refine mkSl (by omega) (by omega) ?_);conv=>whnf) | (refine ifB_i (fun _=>?_) (fun _=>?_)<;>conv=>whnf) | (refine ixN (enc := Xe.eD) default (by omega) ?_;conv=>whnf) | (refine ⟨_, to_D (l.getD i default) (by have := zs_mem zD (l := l) (x := l.getD i default) (gd_mem (by omega)); unfold zDs at h; omega), ?_⟩;conv=>whnf) | (refine ioN (by omega) (by omega) ?_;conv=>whnf) | (refine rwN (enc := eD) default (by simp only [Int.toNat_natCast, List.length_append, List.length_take, List.length_replicate]; omega) ?_;conv=>whnf) | (refine w64 (by omega) (by omega) ?_;conv=>whnf)
      refine ⟨i + 1, by omega, by simp only; omega, ?_⟩
      repeat' (first|exact True.intro|((conv=>whnf);first|exact True.intro|refine ⟨by rfl, ?_⟩|refine ⟨by first|omega|(show (_ : Int) = _;first|omega|(dsimp only;omega)) | exact set_copy eD l (by omega), ?_⟩ | refine ⟨?_, ?_⟩))
    · (repeat' first | ((first|refine sN ?_|refine Dr.cons ?_|(refine Dr.nil ?_;refine drawIf (by kernel_rfl) ?_)|refine vN rfl ?_|refine Vc.draw rfl (by kernel_rfl) ?_|refine mkSl (by omega) (by omega) ?_);conv=>whnf))
      exact ⟨by rw [end_copy eD l (by omega)], rfl⟩
theorem to_S (x : Site) (h : zS x ≤ 1048576) : Sem P 220 [(.pure, .agg (Xe.aS x))] [] (.agg (eS x)) := by
  refine fn_okR (E := E0) E0_tab E0_ord (fn := Go.Proofs.Tryz.f220) (by kernel_rfl) (by kernel_rfl) (fun hb => ?_)
  conv => whnf
  repeat' first | ((first|refine sN ?_|refine Dr.cons ?_|(refine Dr.nil ?_;refine drawIf (by kernel_rfl) ?_)|refine vN rfl ?_|refine Vc.draw rfl (by kernel_rfl) ?_|refine mkSl (by omega) (by omega) ?_);conv=>whnf) | (refine ifB_i (fun _=>?_) (fun _=>?_)<;>conv=>whnf) | (refine ⟨_, to_I x.Base (by unfold zS at h; omega), ?_⟩;conv=>whnf) | (refine ⟨_, to_I x.Added (by unfold zS at h; omega), ?_⟩;conv=>whnf) | (refine ⟨_, to_Ds x.Done (by unfold zS at h; omega), ?_⟩;conv=>whnf)
  exact ⟨rfl, rfl⟩
theorem to_Ss (l : List Site) (h : zSs l ≤ 1048576) : Sem P 122 [(.pure, .one (Xe.sSs l))] [] (.one (sSs l)) := by
  refine fn_okR (E := E0) E0_tab E0_ord (fn := Go.Proofs.Tryz.f122) (by kernel_rfl) (by kernel_rfl) (fun hb => ?_)
  have la : (l.map Xe.eS).length = l.length := List.length_map ..
  have hz : l.length ≤ 1048576 := by unfold zSs at h; omega
  have hb1 : (l.map Xe.eS).length ≤ 1125899906842624 := hb.1.1
  conv => whnf
  repeat' first | ((first|refine sN ?_|refine Dr.cons ?_|(refine Dr.nil ?_;refine drawIf (by kernel_rfl) ?_)|refine vN rfl ?_|refine Vc.draw rfl (by kernel_rfl) ?_|refine mkSl (by omega) (by omega) ?_);conv=>whnf) | (refine ifB_i (fun _=>?_) (fun _=>?_)<;>conv=>whnf) | (refine w64 (by omega) (by omega) ?_;conv=>whnf)
  refine Vc.loop1 (fun (i : Nat) => i ≤ l.length) (fun i => updL [0, 2, 3, 22] [(4, I i)] [(128128, .arr 95 ((l.take i ++ List.replicate (l.length - i) default).map eS) false)]) (fun i => l.length - i) 0 (Nat.zero_le _) ?_ (fun i hi => ?_)
  · repeat' (first|exact True.intro|((conv=>whnf);first|exact True.intro|refine ⟨by rfl, ?_⟩|refine ⟨by first|omega|(show (_ : Int) = _;first|omega|(dsimp only;omega)) | exact (by simp only [List.take_zero, List.nil_append, Nat.sub_zero, List.map_replicate, Int.toNat_natCast, List.length_map]; rfl), ?_⟩ | refine ⟨?_, ?_⟩))
  · have lr : ((l.take i ++ List.replicate (l.length - i) default).map eS).length = l.length := by simp only [List.length_map, List.length_append, List.length_take, List.length_replicate]; omega
    conv => whnf
    (repeat' first | ((first|refine sN ?_|refine Dr.cons ?_|(refine Dr.nil ?_;refine drawIf (by kernel_rfl) ?_)|refine vN rfl ?_|refine Vc.draw rfl (by kernel_rfl) ?_|refine mkSl (by omega) (by omega) ?_);conv=>whnf))
    refine ifB_d (fun g => ?_) (fun g => ?_)
    all_goals conv => whnf
    · repeat' first | ((first|refine sN ?_|refine Dr.cons ?_|(refine Dr.nil ?_;refine drawIf (by kernel_rfl) ?_)|refine vN rfl ?_|refine Vc.draw rfl (by kernel_rfl) ?_|refine mkSl (by omega) (by omega) ?_);conv=>whnf) | (refine ifB_i (fun _=>?_) (fun _=>?_)<;>conv=>whnf) | (refine ixN (enc := Xe.eS) default (by omega) ?_;conv=>whnf) | (refine ⟨_, to_S (l.getD i default) (by have := zs_mem zS (l := l) (x := l.getD i default) (gd_mem (by omega)); unfold zSs at h; omega), ?_⟩;conv=>whnf) | (refine ioN (by omega) (by omega) ?_;conv=>whnf) | (refine rwN (enc := eS) default (by simp only [Int.toNat_natCast, List.length_append, List.length_take, List.length_replicate]; omega) ?_;conv=>whnf) | (refine w64 (by omega) (by omega) ?_;conv=>whnf)
      refine ⟨i + 1, by omega, by simp only; omega, ?_⟩
      repeat' (first|exact True.intro|((conv=>whnf);first|exact True.intro|refine ⟨by rfl, ?_⟩|refine ⟨by first|omega|(show (_ : Int) = _;first|omega|(dsimp only;omega)) | exact set_copy eS l (by omega), ?_⟩ | refine ⟨?_, ?_⟩))
    · (repeat' first | ((first|refine sN ?_|refine Dr.cons ?_|(refine Dr.nil ?_;refine drawIf (by kernel_rfl) ?_)|refine vN rfl ?_|refine Vc.draw rfl (by kernel_rfl) ?_|refine mkSl (by omega) (by omega) ?_);conv=>whnf))
      exact ⟨by rw [end_copy eS l (by omega)], rfl⟩
theorem to_C (x : Call) (h : zC x ≤ 1048576) : Sem P 308 [(.pure, .agg (Xe.aC x))] [] (.agg (eC x)) := by
  refine fn_okR (E := E0) E0_tab E0_ord (fn := Go.Proofs.Tryz.f308) (by kernel_rfl) (by kernel_rfl) (fun hb => ?_)
  conv => whnf
  repeat' first | ((first|refine sN ?_|refine Dr.cons ?_|(refine Dr.nil ?_;refine drawIf (by kernel_rfl) ?_)|refine vN rfl ?_|refine Vc.draw rfl (by kernel_rfl) ?_|refine mkSl (by omega) (by omega) ?_);conv=>whnf) | (refine ifB_i (fun _=>?_) (fun _=>?_)<;>conv=>whnf) | (refine ⟨_, to_I x.Args (by unfold zC at h; omega), ?_⟩;conv=>whnf)
  exact ⟨rfl, rfl⟩
theorem to_Cs (l : List Call) (h : zCs l ≤ 1048576) : Sem P 222 [(.pure, .one (Xe.sCs l))] [] (.one (sCs l)) := by
  refine fn_okR (E := E0) E0_tab E0_ord (fn := Go.Proofs.Tryz.f222) (by kernel_rfl) (by kernel_rfl) (fun hb => ?_)
  have la : (l.map Xe.eC).length = l.length := List.length_map ..
  have hz : l.length ≤ 1048576 := by unfold zCs at h; omega
  have hb1 : (l.map Xe.eC).length ≤ 1125899906842624 := hb.1.1
  conv => whnf
  repeat' first | ((first|refine sN ?_|refine Dr.cons ?_|(refine Dr.nil ?_;refine drawIf (by kernel_rfl) ?_)|refine vN rfl ?_|refine Vc.draw rfl (by kernel_rfl) ?_|refine mkSl (by omega) (by omega) ?_);conv=>whnf) | (refine ifB_i (fun _=>?_) (fun _=>?_)<;>conv=>whnf) | (refine w64 (by omega) (by omega) ?_;conv=>whnf)
  refine Vc.loop1 (fun (i : Nat) => i ≤ l.length) (fun i => updL [0, 2, 3, 22] [(4, I i)] [(128128, .arr 42 ((l.take i ++ List.replicate (l.length - i) default).map eC) false)]) (fun i => l.length - i) 0 (Nat.zero_le _) ?_ (fun i hi => ?_)
  · repeat' (first|exact True.intro|((conv=>whnf);first|exact True.intro|refine ⟨by rfl, ?_⟩|refine ⟨by first|omega|(show (_ : Int) = _;first|omega|(dsimp only;omega)) | exact (by simp only [List.take_zero, List.nil_append, Nat.sub_zero, List.map_replicate, Int.toNat_natCast, List.length_map]; rfl), ?_⟩ | refine ⟨?_, ?_⟩))
  · have lr : ((l.take i ++ List.replicate (l.length - i) default).map eC).length = l.length := by simp only [List.length_map, List.length_append, List.length_take, List.length_replicate]; omega
    conv => whnf
    (repeat' first | ((first|refine sN ?_|refine Dr.cons ?_|(refine Dr.nil ?_;refine drawIf (by kernel_rfl) ?_)|refine vN rfl ?_|refine Vc.draw rfl (by kernel_rfl) ?_|refine mkSl (by omega) (by omega) ?_);conv=>whnf))
    refine ifB_d (fun g => ?_) (fun g => ?_)
    all_goals conv => whnf
    · repeat' first | ((first|refine sN ?_|refine Dr.cons ?_|(refine Dr.nil ?_;refine drawIf (by kernel_rfl) ?_)|refine vN rfl ?_|refine Vc.draw rfl (by kernel_rfl) ?_|refine mkSl (by omega) (by omega) ?_);conv=>whnf) | (refine ifB_i (fun _=>?_) (fun _=>?_)<;>conv=>whnf) | (refine ixN (enc := Xe.eC) default (by omega) ?_;conv=>whnf) | (refine ⟨_, to_C (l.getD i default) (by have := zs_mem zC (l := l) (x := l.getD i default) (gd_mem (by omega)); unfold zCs at h; omega), ?_⟩;conv=>whnf) | (refine ioN (by omega) (by omega) ?_;conv=>whnf) | (refine rwN (enc := eC) default (by simp only [Int.toNat_natCast, List.length_append, List.length_take, List.length_replicate]; omega) ?_;conv=>whnf) | (refine w64 (by omega) (by omega) ?_;conv=>whnf)
      refine ⟨i + 1, by omega, by simp only; omega, ?_⟩
      repeat' (first|exact True.intro|((conv=>whnf);first|exact True.intro|refine ⟨by rfl, ?_⟩|refine ⟨by first|omega|(show (_ : Int) = _;first|omega|(dsimp only;omega)) | exact set_copy eC l (by omega), ?_⟩ | refine ⟨?_, ?_⟩))
    · (repeat' first | ((first|refine sN ?_|refine Dr.cons ?_|(refine Dr.nil ?_;refine drawIf (by kernel_rfl) ?_)|refine vN rfl ?_|refine Vc.draw rfl (by kernel_rfl) ?_|refine mkSl (by omega) (by omega) ?_);conv=>whnf))
      exact ⟨by rw [end_copy eC l (by omega)], rfl⟩
theorem to_G (x : Got) (h : zG x ≤ 1048576) : Sem P 309 [(.pure, .agg (Xe.aG x))] [] (.agg (eG x)) := by
  refine fn_okR (E := E0) E0_tab E0_ord (fn := Go.Proofs.Tryz.f309) (by kernel_rfl) (by kernel_rfl) (fun hb => ?_)
  conv => whnf
  repeat' first | ((first|refine sN ?_|refine Dr.cons ?_|(refine Dr.nil ?_;refine drawIf (by kernel_rfl) ?_)|refine vN rfl ?_|refine Vc.draw rfl (by kernel_rfl) ?_|refine mkSl (by omega) (by omega) ?_);conv=>whnf) | (refine ifB_i (fun _=>?_) (fun _=>?_)<;>conv=>whnf) | (refine ⟨_, to_I x.Added (by unfold zG at h; omega), ?_⟩;conv=>whnf) | (refine ⟨_, to_I x.Seqs (by unfold zG at h; omega), ?_⟩;conv=>whnf)
  exact ⟨rfl, rfl⟩
theorem to_Gs (l : List Got) (h : zGs l ≤ 1048576) : Sem P 223 [(.pure, .one (Xe.sGs l))] [] (.one (sGs l)) := by
  refine fn_okR (E := E0) E0_tab E0_ord (fn := Go.Proofs.Tryz.f223) (by kernel_rfl) (by kernel_rfl) (fun hb => ?_)
  have la : (l.map Xe.eG).length = l.length := List.length_map ..
  have hz : l.length ≤ 1048576 := by unfold zGs at h; omega
  have hb1 : (l.map Xe.eG).length ≤ 1125899906842624 := hb.1.1
  conv => whnf
  repeat' first | ((first|refine sN ?_|refine Dr.cons ?_|(refine Dr.nil ?_;refine drawIf (by kernel_rfl) ?_)|refine vN rfl ?_|refine Vc.draw rfl (by kernel_rfl) ?_|refine mkSl (by omega) (by omega) ?_);conv=>whnf) | (refine ifB_i (fun _=>?_) (fun _=>?_)<;>conv=>whnf) | (refine w64 (by omega) (by omega) ?_;conv=>whnf)
  refine Vc.loop1 (fun (i : Nat) => i ≤ l.length) (fun i => updL [0, 2, 3, 22] [(4, I i)] [(128128, .arr 188 ((l.take i ++ List.replicate (l.length - i) default).map eG) false)]) (fun i => l.length - i) 0 (Nat.zero_le _) ?_ (fun i hi => ?_)
  · repeat' (first|exact True.intro|((conv=>whnf);first|exact True.intro|refine ⟨by rfl, ?_⟩|refine ⟨by first|omega|(show (_ : Int) = _;first|omega|(dsimp only;omega)) | exact (by simp only [List.take_zero, List.nil_append, Nat.sub_zero, List.map_replicate, Int.toNat_natCast, List.length_map]; rfl), ?_⟩ | refine ⟨?_, ?_⟩))
  · have lr : ((l.take i ++ List.replicate (l.length - i) default).map eG).length = l.length := by simp only [List.length_map, List.length_append, List.length_take, List.length_replicate]; omega
    conv => whnf
    (repeat' first | ((first|refine sN ?_|refine Dr.cons ?_|(refine Dr.nil ?_;refine drawIf (by kernel_rfl) ?_)|refine vN rfl ?_|refine Vc.draw rfl (by kernel_rfl) ?_|refine mkSl (by omega) (by omega) ?_);conv=>whnf))
    refine ifB_d (fun g => ?_) (fun g => ?_)
    all_goals conv => whnf
    · repeat' first | ((first|refine sN ?_|refine Dr.cons ?_|(refine Dr.nil ?_;refine drawIf (by kernel_rfl) ?_)|refine vN rfl ?_|refine Vc.draw rfl (by kernel_rfl) ?_|refine mkSl (by omega) (by omega) ?_);conv=>whnf) | (refine ifB_i (fun _=>?_) (fun _=>?_)<;>conv=>whnf) | (refine ixN (enc := Xe.eG) default (by omega) ?_;conv=>whnf) | (refine ⟨_, to_G (l.getD i default) (by have := zs_mem zG (l := l) (x := l.getD i default) (gd_mem (by omega)); unfold zGs at h; omega), ?_⟩;conv=>whnf) | (refine ioN (by omega) (by omega) ?_;conv=>whnf) | (refine rwN (enc := eG) default (by simp only [Int.toNat_natCast, List.length_append, List.length_take, List.length_replicate]; omega) ?_;conv=>whnf) | (refine w64 (by omega) (by omega) ?_;conv=>whnf)
      refine ⟨i + 1, by omega, by simp only; omega, ?_⟩
      repeat' (first|exact True.intro|((conv=>whnf);first|exact True.intro|refine ⟨by rfl, ?_⟩|refine ⟨by first|omega|(show (_ : Int) = _;first|omega|(dsimp only;omega)) | exact set_copy eG l (by omega), ?_⟩ | refine ⟨?_, ?_⟩))
    · (repeat' first | ((first|refine sN ?_|refine Dr.cons ?_|(refine Dr.nil ?_;refine drawIf (by kernel_rfl) ?_)|refine vN rfl ?_|refine Vc.draw rfl (by kernel_rfl) ?_|refine mkSl (by omega) (by omega) ?_);conv=>whnf))
      exact ⟨by rw [end_copy eG l (by omega)], rfl⟩
theorem to_K (x : Clerk) (h : zK x ≤ 1048576) : Sem P 123 [(.pure, .agg (Xe.aK x))] [] (.agg (eK x)) := by
  refine fn_okR (E := E0) E0_tab E0_ord (fn := Go.Proofs.Tryz.f123) (by kernel_rfl) (by kernel_rfl) (fun hb => ?_)
  conv => whnf
  repeat' first | ((first|refine sN ?_|refine Dr.cons ?_|(refine Dr.nil ?_;refine drawIf (by kernel_rfl) ?_)|refine vN rfl ?_|refine Vc.draw rfl (by kernel_rfl) ?_|refine mkSl (by omega) (by omega) ?_);conv=>whnf) | (refine ifB_i (fun _=>?_) (fun _=>?_)<;>conv=>whnf) | (refine ⟨_, to_I x.Base (by unfold zK at h; omega), ?_⟩;conv=>whnf) | (refine ⟨_, to_Ds x.Done (by unfold zK at h; omega), ?_⟩;conv=>whnf) | (refine ⟨_, to_Cs x.Wants (by unfold zK at h; omega), ?_⟩;conv=>whnf) | (refine ⟨_, to_Gs x.Got (by unfold zK at h; omega), ?_⟩;conv=>whnf)
  exact ⟨rfl, rfl⟩
theorem to_X (x : Client) (h : zX x ≤ 1048576) : Sem P 224 [(.pure, .agg (Xe.aX x))] [] (.agg (eX x)) := by
  refine fn_okR (E := E0) E0_tab E0_ord (fn := Go.Proofs.Tryz.f224) (by kernel_rfl) (by kernel_rfl) (fun hb => ?_)
  conv => whnf
  repeat' first | ((first|refine sN ?_|refine Dr.cons ?_|(refine Dr.nil ?_;refine drawIf (by kernel_rfl) ?_)|refine vN rfl ?_|refine Vc.draw rfl (by kernel_rfl) ?_|refine mkSl (by omega) (by omega) ?_);conv=>whnf) | (refine ifB_i (fun _=>?_) (fun _=>?_)<;>conv=>whnf) | (refine ⟨_, to_C x.Call (by unfold zX at h; omega), ?_⟩;conv=>whnf) | (refine ⟨_, to_R x.Res (by unfold zX at h; omega), ?_⟩;conv=>whnf)
  exact ⟨rfl, rfl⟩
theorem to_Xs (l : List Client) (h : zXs l ≤ 1048576) : Sem P 124 [(.pure, .one (Xe.sXs l))] [] (.one (sXs l)) := by
  refine fn_okR (E := E0) E0_tab E0_ord (fn := Go.Proofs.Tryz.f124) (by kernel_rfl) (by kernel_rfl) (fun hb => ?_)
  have la : (l.map Xe.eX).length = l.length := List.length_map ..
  have hz : l.length ≤ 1048576 := by unfold zXs at h; omega
  have hb1 : (l.map Xe.eX).length ≤ 1125899906842624 := hb.1.1
  conv => whnf
  repeat' first | ((first|refine sN ?_|refine Dr.cons ?_|(refine Dr.nil ?_;refine drawIf (by kernel_rfl) ?_)|refine vN rfl ?_|refine Vc.draw rfl (by kernel_rfl) ?_|refine mkSl (by omega) (by omega) ?_);conv=>whnf) | (refine ifB_i (fun _=>?_) (fun _=>?_)<;>conv=>whnf) | (refine w64 (by omega) (by omega) ?_;conv=>whnf)
  refine Vc.loop1 (fun (i : Nat) => i ≤ l.length) (fun i => updL [0, 2, 3, 22] [(4, I i)] [(128128, .arr 147 ((l.take i ++ List.replicate (l.length - i) default).map eX) false)]) (fun i => l.length - i) 0 (Nat.zero_le _) ?_ (fun i hi => ?_)
  · repeat' (first|exact True.intro|((conv=>whnf);first|exact True.intro|refine ⟨by rfl, ?_⟩|refine ⟨by first|omega|(show (_ : Int) = _;first|omega|(dsimp only;omega)) | exact (by simp only [List.take_zero, List.nil_append, Nat.sub_zero, List.map_replicate, Int.toNat_natCast, List.length_map]; rfl), ?_⟩ | refine ⟨?_, ?_⟩))
  · have lr : ((l.take i ++ List.replicate (l.length - i) default).map eX).length = l.length := by simp only [List.length_map, List.length_append, List.length_take, List.length_replicate]; omega
    conv => whnf
    (repeat' first | ((first|refine sN ?_|refine Dr.cons ?_|(refine Dr.nil ?_;refine drawIf (by kernel_rfl) ?_)|refine vN rfl ?_|refine Vc.draw rfl (by kernel_rfl) ?_|refine mkSl (by omega) (by omega) ?_);conv=>whnf))
    refine ifB_d (fun g => ?_) (fun g => ?_)
    all_goals conv => whnf
    · repeat' first | ((first|refine sN ?_|refine Dr.cons ?_|(refine Dr.nil ?_;refine drawIf (by kernel_rfl) ?_)|refine vN rfl ?_|refine Vc.draw rfl (by kernel_rfl) ?_|refine mkSl (by omega) (by omega) ?_);conv=>whnf) | (refine ifB_i (fun _=>?_) (fun _=>?_)<;>conv=>whnf) | (refine ixN (enc := Xe.eX) default (by omega) ?_;conv=>whnf) | (refine ⟨_, to_X (l.getD i default) (by have := zs_mem zX (l := l) (x := l.getD i default) (gd_mem (by omega)); unfold zXs at h; omega), ?_⟩;conv=>whnf) | (refine ioN (by omega) (by omega) ?_;conv=>whnf) | (refine rwN (enc := eX) default (by simp only [Int.toNat_natCast, List.length_append, List.length_take, List.length_replicate]; omega) ?_;conv=>whnf) | (refine w64 (by omega) (by omega) ?_;conv=>whnf)
      refine ⟨i + 1, by omega, by simp only; omega, ?_⟩
      repeat' (first|exact True.intro|((conv=>whnf);first|exact True.intro|refine ⟨by rfl, ?_⟩|refine ⟨by first|omega|(show (_ : Int) = _;first|omega|(dsimp only;omega)) | exact set_copy eX l (by omega), ?_⟩ | refine ⟨?_, ?_⟩))
    · (repeat' first | ((first|refine sN ?_|refine Dr.cons ?_|(refine Dr.nil ?_;refine drawIf (by kernel_rfl) ?_)|refine vN rfl ?_|refine Vc.draw rfl (by kernel_rfl) ?_|refine mkSl (by omega) (by omega) ?_);conv=>whnf))
      exact ⟨by rw [end_copy eX l (by omega)], rfl⟩
theorem to_M (x : Msg) (h : zM x ≤ 1048576) : Sem P 225 [(.pure, .agg (Xe.aM x))] [] (.agg (eM x)) := by
  refine fn_okR (E := E0) E0_tab E0_ord (fn := Go.Proofs.Tryz.f225) (by kernel_rfl) (by kernel_rfl) (fun hb => ?_)
  conv => whnf
  repeat' first | ((first|refine sN ?_|refine Dr.cons ?_|(refine Dr.nil ?_;refine drawIf (by kernel_rfl) ?_)|refine vN rfl ?_|refine Vc.draw rfl (by kernel_rfl) ?_|refine mkSl (by omega) (by omega) ?_);conv=>whnf) | (refine ifB_i (fun _=>?_) (fun _=>?_)<;>conv=>whnf) | (refine ⟨_, to_C x.Call (by unfold zM at h; omega), ?_⟩;conv=>whnf) | (refine ⟨_, to_I x.Vals (by unfold zM at h; omega), ?_⟩;conv=>whnf) | (refine ⟨_, to_I x.Seqs (by unfold zM at h; omega), ?_⟩;conv=>whnf) | (refine ⟨_, to_Ds x.Done (by unfold zM at h; omega), ?_⟩;conv=>whnf)
  exact ⟨rfl, rfl⟩
theorem to_Ms (l : List Msg) (h : zMs l ≤ 1048576) : Sem P 125 [(.pure, .one (Xe.sMs l))] [] (.one (sMs l)) := by
  refine fn_okR (E := E0) E0_tab E0_ord (fn := Go.Proofs.Tryz.f125) (by kernel_rfl) (by kernel_rfl) (fun hb => ?_)
  have la : (l.map Xe.eM).length = l.length := List.length_map ..
  have hz : l.length ≤ 1048576 := by unfold zMs at h; omega
  have hb1 : (l.map Xe.eM).length ≤ 1125899906842624 := hb.1.1
  conv => whnf
  repeat' first | ((first|refine sN ?_|refine Dr.cons ?_|(refine Dr.nil ?_;refine drawIf (by kernel_rfl) ?_)|refine vN rfl ?_|refine Vc.draw rfl (by kernel_rfl) ?_|refine mkSl (by omega) (by omega) ?_);conv=>whnf) | (refine ifB_i (fun _=>?_) (fun _=>?_)<;>conv=>whnf) | (refine w64 (by omega) (by omega) ?_;conv=>whnf)
  refine Vc.loop1 (fun (i : Nat) => i ≤ l.length) (fun i => updL [0, 2, 3, 22] [(4, I i)] [(128128, .arr 90 ((l.take i ++ List.replicate (l.length - i) default).map eM) false)]) (fun i => l.length - i) 0 (Nat.zero_le _) ?_ (fun i hi => ?_)
  · repeat' (first|exact True.intro|((conv=>whnf);first|exact True.intro|refine ⟨by rfl, ?_⟩|refine ⟨by first|omega|(show (_ : Int) = _;first|omega|(dsimp only;omega)) | exact (by simp only [List.take_zero, List.nil_append, Nat.sub_zero, List.map_replicate, Int.toNat_natCast, List.length_map]; rfl), ?_⟩ | refine ⟨?_, ?_⟩))
  · have lr : ((l.take i ++ List.replicate (l.length - i) default).map eM).length = l.length := by simp only [List.length_map, List.length_append, List.length_take, List.length_replicate]; omega
    conv => whnf
    (repeat' first | ((first|refine sN ?_|refine Dr.cons ?_|(refine Dr.nil ?_;refine drawIf (by kernel_rfl) ?_)|refine vN rfl ?_|refine Vc.draw rfl (by kernel_rfl) ?_|refine mkSl (by omega) (by omega) ?_);conv=>whnf))
    refine ifB_d (fun g => ?_) (fun g => ?_)
    all_goals conv => whnf
    · repeat' first | ((first|refine sN ?_|refine Dr.cons ?_|(refine Dr.nil ?_;refine drawIf (by kernel_rfl) ?_)|refine vN rfl ?_|refine Vc.draw rfl (by kernel_rfl) ?_|refine mkSl (by omega) (by omega) ?_);conv=>whnf) | (refine ifB_i (fun _=>?_) (fun _=>?_)<;>conv=>whnf) | (refine ixN (enc := Xe.eM) default (by omega) ?_;conv=>whnf) | (refine ⟨_, to_M (l.getD i default) (by have := zs_mem zM (l := l) (x := l.getD i default) (gd_mem (by omega)); unfold zMs at h; omega), ?_⟩;conv=>whnf) | (refine ioN (by omega) (by omega) ?_;conv=>whnf) | (refine rwN (enc := eM) default (by simp only [Int.toNat_natCast, List.length_append, List.length_take, List.length_replicate]; omega) ?_;conv=>whnf) | (refine w64 (by omega) (by omega) ?_;conv=>whnf)
      refine ⟨i + 1, by omega, by simp only; omega, ?_⟩
      repeat' (first|exact True.intro|((conv=>whnf);first|exact True.intro|refine ⟨by rfl, ?_⟩|refine ⟨by first|omega|(show (_ : Int) = _;first|omega|(dsimp only;omega)) | exact set_copy eM l (by omega), ?_⟩ | refine ⟨?_, ?_⟩))
    · (repeat' first | ((first|refine sN ?_|refine Dr.cons ?_|(refine Dr.nil ?_;refine drawIf (by kernel_rfl) ?_)|refine vN rfl ?_|refine Vc.draw rfl (by kernel_rfl) ?_|refine mkSl (by omega) (by omega) ?_);conv=>whnf))
      exact ⟨by rw [end_copy eM l (by omega)], rfl⟩
theorem to_O (x : LogD) (h : zO x ≤ 1048576) : Sem P 226 [(.pure, .agg (Xe.aO x))] [] (.agg (eO x)) := by
  refine fn_okR (E := E0) E0_tab E0_ord (fn := Go.Proofs.Tryz.f226) (by kernel_rfl) (by kernel_rfl) (fun hb => ?_)
  conv => whnf
  repeat' first | ((first|refine sN ?_|refine Dr.cons ?_|(refine Dr.nil ?_;refine drawIf (by kernel_rfl) ?_)|refine vN rfl ?_|refine Vc.draw rfl (by kernel_rfl) ?_|refine mkSl (by omega) (by omega) ?_);conv=>whnf) | (refine ifB_i (fun _=>?_) (fun _=>?_)<;>conv=>whnf) | (refine ⟨_, to_C x.Call (by unfold zO at h; omega), ?_⟩;conv=>whnf) | (refine ⟨_, to_R x.Res (by unfold zO at h; omega), ?_⟩;conv=>whnf)
  exact ⟨rfl, rfl⟩
theorem to_Os (l : List LogD) (h : zOs l ≤ 1048576) : Sem P 126 [(.pure, .one (Xe.sOs l))] [] (.one (sOs l)) := by
  refine fn_okR (E := E0) E0_tab E0_ord (fn := Go.Proofs.Tryz.f126) (by kernel_rfl) (by kernel_rfl) (fun hb => ?_)
  have la : (l.map Xe.eO).length = l.length := List.length_map ..
  have hz : l.length ≤ 1048576 := by unfold zOs at h; omega
  have hb1 : (l.map Xe.eO).length ≤ 1125899906842624 := hb.1.1
  conv => whnf
  repeat' first | ((first|refine sN ?_|refine Dr.cons ?_|(refine Dr.nil ?_;refine drawIf (by kernel_rfl) ?_)|refine vN rfl ?_|refine Vc.draw rfl (by kernel_rfl) ?_|refine mkSl (by omega) (by omega) ?_);conv=>whnf) | (refine ifB_i (fun _=>?_) (fun _=>?_)<;>conv=>whnf) | (refine w64 (by omega) (by omega) ?_;conv=>whnf)
  refine Vc.loop1 (fun (i : Nat) => i ≤ l.length) (fun i => updL [0, 2, 3, 22] [(4, I i)] [(128128, .arr 44 ((l.take i ++ List.replicate (l.length - i) default).map eO) false)]) (fun i => l.length - i) 0 (Nat.zero_le _) ?_ (fun i hi => ?_)
  · repeat' (first|exact True.intro|((conv=>whnf);first|exact True.intro|refine ⟨by rfl, ?_⟩|refine ⟨by first|omega|(show (_ : Int) = _;first|omega|(dsimp only;omega)) | exact (by simp only [List.take_zero, List.nil_append, Nat.sub_zero, List.map_replicate, Int.toNat_natCast, List.length_map]; rfl), ?_⟩ | refine ⟨?_, ?_⟩))
  · have lr : ((l.take i ++ List.replicate (l.length - i) default).map eO).length = l.length := by simp only [List.length_map, List.length_append, List.length_take, List.length_replicate]; omega
    conv => whnf
    (repeat' first | ((first|refine sN ?_|refine Dr.cons ?_|(refine Dr.nil ?_;refine drawIf (by kernel_rfl) ?_)|refine vN rfl ?_|refine Vc.draw rfl (by kernel_rfl) ?_|refine mkSl (by omega) (by omega) ?_);conv=>whnf))
    refine ifB_d (fun g => ?_) (fun g => ?_)
    all_goals conv => whnf
    · repeat' first | ((first|refine sN ?_|refine Dr.cons ?_|(refine Dr.nil ?_;refine drawIf (by kernel_rfl) ?_)|refine vN rfl ?_|refine Vc.draw rfl (by kernel_rfl) ?_|refine mkSl (by omega) (by omega) ?_);conv=>whnf) | (refine ifB_i (fun _=>?_) (fun _=>?_)<;>conv=>whnf) | (refine ixN (enc := Xe.eO) default (by omega) ?_;conv=>whnf) | (refine ⟨_, to_O (l.getD i default) (by have := zs_mem zO (l := l) (x := l.getD i default) (gd_mem (by omega)); unfold zOs at h; omega), ?_⟩;conv=>whnf) | (refine ioN (by omega) (by omega) ?_;conv=>whnf) | (refine rwN (enc := eO) default (by simp only [Int.toNat_natCast, List.length_append, List.length_take, List.length_replicate]; omega) ?_;conv=>whnf) | (refine w64 (by omega) (by omega) ?_;conv=>whnf)
      refine ⟨i + 1, by omega, by simp only; omega, ?_⟩
      repeat' (first|exact True.intro|((conv=>whnf);first|exact True.intro|refine ⟨by rfl, ?_⟩|refine ⟨by first|omega|(show (_ : Int) = _;first|omega|(dsimp only;omega)) | exact set_copy eO l (by omega), ?_⟩ | refine ⟨?_, ?_⟩))
    · (repeat' first | ((first|refine sN ?_|refine Dr.cons ?_|(refine Dr.nil ?_;refine drawIf (by kernel_rfl) ?_)|refine vN rfl ?_|refine Vc.draw rfl (by kernel_rfl) ?_|refine mkSl (by omega) (by omega) ?_);conv=>whnf))
      exact ⟨by rw [end_copy eO l (by omega)], rfl⟩
theorem to_Wd (x : World) (h : zWd x ≤ 1048576) : Sem P 32 [(.pure, .agg (Xe.aWd x))] [] (.agg (eWd x)) := by
  refine fn_okR (E := E0) E0_tab E0_ord (fn := Go.Proofs.Tryz.f32) (by kernel_rfl) (by kernel_rfl) (fun hb => ?_)
  conv => whnf
  repeat' first | ((first|refine sN ?_|refine Dr.cons ?_|(refine Dr.nil ?_;refine drawIf (by kernel_rfl) ?_)|refine vN rfl ?_|refine Vc.draw rfl (by kernel_rfl) ?_|refine mkSl (by omega) (by omega) ?_);conv=>whnf) | (refine ifB_i (fun _=>?_) (fun _=>?_)<;>conv=>whnf) | (refine ⟨_, to_Pl x.Plan (by unfold zWd at h; omega), ?_⟩;conv=>whnf) | (refine ⟨_, to_Ss x.Sites (by unfold zWd at h; omega), ?_⟩;conv=>whnf) | (refine ⟨_, to_K x.Clerk (by unfold zWd at h; omega), ?_⟩;conv=>whnf) | (refine ⟨_, to_Xs x.Clients (by unfold zWd at h; omega), ?_⟩;conv=>whnf) | (refine ⟨_, to_Ms x.Net (by unfold zWd at h; omega), ?_⟩;conv=>whnf) | (refine ⟨_, to_Os x.Log (by unfold zWd at h; omega), ?_⟩;conv=>whnf)
  exact ⟨rfl, rfl⟩
end Cc
end
section
namespace Cc
open Go Go.AM
set_option maxRecDepth 100000
end Cc
end
section
namespace Cc
open Go Go.AM
set_option maxRecDepth 100000
set_option maxHeartbeats 4000000
end Cc
end
section
namespace Cc
open Go Go.AM
set_option maxRecDepth 100000
set_option maxHeartbeats 8000000
theorem eq_I (a b : List Int) : Sem P 228 [(.pure, AI a), (.pure, AI b)] [] (B (decide (a = b))) := by
  refine fn_okR (E := E0) E0_tab E0_ord (fn := Go.Proofs.Tryz.f228) (by kernel_rfl) (by kernel_rfl) (fun hb => ?_)
  have la := ints_len a
  have lb := ints_len b
  have hb1 : a.length ≤ 1125899906842624 := by simp [bdIns, bdT, bdA] at hb; omega
  conv => whnf
  (repeat' first | ((first|refine sN ?_|refine Dr.cons ?_|(refine Dr.nil ?_;refine drawIf (by kernel_rfl) ?_)|refine vN rfl ?_|refine Vc.draw rfl (by kernel_rfl) ?_|refine mkSl (by omega) (by omega) ?_);conv=>whnf))
  refine ifB_i (fun h => ?_) (fun h => ?_)
  all_goals conv => whnf
  all_goals (repeat' first | ((first|refine sN ?_|refine Dr.cons ?_|(refine Dr.nil ?_;refine drawIf (by kernel_rfl) ?_)|refine vN rfl ?_|refine Vc.draw rfl (by kernel_rfl) ?_|refine mkSl (by omega) (by omega) ?_);conv=>whnf))
  · exact rB (by have := ne_of_bne h; symm; simp; intro e; subst e; simp at this)
  · have h := eq_of_bne h
    refine Vc.loop { i : Nat // ∀ j, j < i → a.getD j 0 = b.getD j 0 } (fun i => updL [0, 1] [(5, I i.1)] []) (fun i => a.length - i.1) ⟨0, by simp⟩ ?_ (fun i => ?_)
    · repeat' (first | exact True.intro | ((conv => whnf); first | exact True.intro | refine ⟨by rfl, ?_⟩ | refine ⟨?_, ?_⟩))
    · have hi := i.2
      conv => whnf
      (repeat' first | ((first|refine sN ?_|refine Dr.cons ?_|(refine Dr.nil ?_;refine drawIf (by kernel_rfl) ?_)|refine vN rfl ?_|refine Vc.draw rfl (by kernel_rfl) ?_|refine mkSl (by omega) (by omega) ?_);conv=>whnf))
      refine ifB_d (fun g => ?_) (fun g => ?_)
      all_goals conv => whnf
      · repeat' first | ((first|refine sN ?_|refine Dr.cons ?_|(refine Dr.nil ?_;refine drawIf (by kernel_rfl) ?_)|refine vN rfl ?_|refine Vc.draw rfl (by kernel_rfl) ?_|refine mkSl (by omega) (by omega) ?_);conv=>whnf) | (refine ifB_i (fun _=>?_) (fun _=>?_)<;>conv=>whnf) | ((first | refine ixN (enc := rI) 0 (by omega) ?_ | refine w64 (by omega) (by omega) ?_);conv=>whnf)
        · rename_i g'
          exact rB (by have := ne_of_bne g'; symm; simp; intro e; subst e; simp at this)
        · rename_i g'
          have e := eq_of_bne g'
          refine ⟨⟨i.1 + 1, fun j hj => ?_⟩, ?_, ?_⟩
          · by_cases h : j < i.1
            · exact hi j h
            · obtain rfl : j = i.1 := by omega
              exact e
          · simp only; omega
          · repeat' (first | exact True.intro | ((conv => whnf); first | exact True.intro | refine ⟨by rfl, ?_⟩ | refine ⟨?_, ?_⟩))
      · (repeat' first | ((first|refine sN ?_|refine Dr.cons ?_|(refine Dr.nil ?_;refine drawIf (by kernel_rfl) ?_)|refine vN rfl ?_|refine Vc.draw rfl (by kernel_rfl) ?_|refine mkSl (by omega) (by omega) ?_);conv=>whnf))
        exact rB (by symm; simp; exact ext_get 0 (by omega) fun j hj => hi j (by omega))
theorem eq_F (a b : Form) : Sem P 381 [(.pure, .agg (aF a)), (.pure, .agg (aF b))] [] (B (decide (a = b))) := by
  refine fn_okR (E := E0) E0_tab E0_ord (fn := Go.Proofs.Tryz.f381) (by kernel_rfl) (by kernel_rfl) (fun hb => ?_)
  conv => whnf
  repeat' first | ((first|refine sN ?_|refine Dr.cons ?_|(refine Dr.nil ?_;refine drawIf (by kernel_rfl) ?_)|refine vN rfl ?_|refine Vc.draw rfl (by kernel_rfl) ?_|refine mkSl (by omega) (by omega) ?_);conv=>whnf) | (refine ifB_i (fun _=>?_) (fun _=>?_)<;>conv=>whnf) | ((first | refine ⟨_, eq_I a.C b.C, ?_⟩ | refine ⟨_, eq_I a.D b.D, ?_⟩);conv=>whnf)
  all_goals refine rB ?_
  all_goals (cases a; cases b; first | (simp_all; done) | (simp_all; rfl))
theorem eq_L (a b : Line) : Sem P 355 [(.pure, .agg (aL a)), (.pure, .agg (aL b))] [] (B (decide (a = b))) := by
  refine fn_okR (E := E0) E0_tab E0_ord (fn := Go.Proofs.Tryz.f355) (by kernel_rfl) (by kernel_rfl) (fun hb => ?_)
  conv => whnf
  repeat' first | ((first|refine sN ?_|refine Dr.cons ?_|(refine Dr.nil ?_;refine drawIf (by kernel_rfl) ?_)|refine vN rfl ?_|refine Vc.draw rfl (by kernel_rfl) ?_|refine mkSl (by omega) (by omega) ?_);conv=>whnf) | (refine ifB_i (fun _=>?_) (fun _=>?_)<;>conv=>whnf) | (refine ⟨_, eq_F a.Form b.Form, ?_⟩;conv=>whnf)
  all_goals refine rB ?_
  all_goals (cases a; cases b; first | (simp_all; done) | (simp_all; rfl))
theorem eq_Ls (a b : List Line) : Sem P 311 [(.pure, .one (sLs a)), (.pure, .one (sLs b))] [] (B (decide (a = b))) := by
  refine fn_okR (E := E0) E0_tab E0_ord (fn := Go.Proofs.Tryz.f311) (by kernel_rfl) (by kernel_rfl) (fun hb => ?_)
  have la : (a.map eL).length = a.length := List.length_map ..
  have lb : (b.map eL).length = b.length := List.length_map ..
  have hb1 : (a.map eL).length ≤ 1125899906842624 := hb.1.1
  conv => whnf
  (repeat' first | ((first|refine sN ?_|refine Dr.cons ?_|(refine Dr.nil ?_;refine drawIf (by kernel_rfl) ?_)|refine vN rfl ?_|refine Vc.draw rfl (by kernel_rfl) ?_|refine mkSl (by omega) (by omega) ?_);conv=>whnf))
  refine ifB_i (fun h => ?_) (fun h => ?_)
  all_goals conv => whnf
  all_goals (repeat' first | ((first|refine sN ?_|refine Dr.cons ?_|(refine Dr.nil ?_;refine drawIf (by kernel_rfl) ?_)|refine vN rfl ?_|refine Vc.draw rfl (by kernel_rfl) ?_|refine mkSl (by omega) (by omega) ?_);conv=>whnf))
  · exact rB (by have := ne_of_bne h; symm; simp; intro e; subst e; simp at this)
  · have h := eq_of_bne h
    repeat' first | ((first|refine sN ?_|refine Dr.cons ?_|(refine Dr.nil ?_;refine drawIf (by kernel_rfl) ?_)|refine vN rfl ?_|refine Vc.draw rfl (by kernel_rfl) ?_|refine mkSl (by omega) (by omega) ?_);conv=>whnf) | (refine ifB_i (fun _=>?_) (fun _=>?_)<;>conv=>whnf)
    refine Vc.loop { i : Nat // ∀ j, j < i → a.getD j default = b.getD j default } (fun i => updL [0, 1] [(5, I i.1)] []) (fun i => a.length - i.1) ⟨0, by simp⟩ ?_ (fun i => ?_)
    · repeat' (first | exact True.intro | ((conv => whnf); first | exact True.intro | refine ⟨by rfl, ?_⟩ | refine ⟨?_, ?_⟩))
    · have hi := i.2
      conv => whnf
      (repeat' first | ((first|refine sN ?_|refine Dr.cons ?_|(refine Dr.nil ?_;refine drawIf (by kernel_rfl) ?_)|refine vN rfl ?_|refine Vc.draw rfl (by kernel_rfl) ?_|refine mkSl (by omega) (by omega) ?_);conv=>whnf))
      refine ifB_d (fun g => ?_) (fun g => ?_)
      all_goals conv => whnf
      · repeat' first | ((first|refine sN ?_|refine Dr.cons ?_|(refine Dr.nil ?_;refine drawIf (by kernel_rfl) ?_)|refine vN rfl ?_|refine Vc.draw rfl (by kernel_rfl) ?_|refine mkSl (by omega) (by omega) ?_);conv=>whnf) | (refine ifB_i (fun _=>?_) (fun _=>?_)<;>conv=>whnf) | ((first | refine ixN (enc := eL) default (by omega) ?_ | refine ⟨_, eq_L _ _, ?_⟩ | refine w64 (by omega) (by omega) ?_);conv=>whnf)
        all_goals first
          | exact rB (by symm; simp only [decide_eq_false_iff_not]; intro e; subst e; simp_all)
          | (refine ⟨⟨i.1 + 1, fun j hj => ?_⟩, ?_, ?_⟩
             · by_cases h : j < i.1
               · exact hi j h
               · obtain rfl : j = i.1 := by omega
                 (first | (simp_all; done) | (generalize a.getD i.1 default = x at *; generalize b.getD i.1 default = y at *; clear hi; cases x; cases y; simp_all))
             · simp only; omega
             · repeat' (first | exact True.intro | ((conv => whnf); first | exact True.intro | refine ⟨by rfl, ?_⟩ | refine ⟨?_, ?_⟩)))
      · (repeat' first | ((first|refine sN ?_|refine Dr.cons ?_|(refine Dr.nil ?_;refine drawIf (by kernel_rfl) ?_)|refine vN rfl ?_|refine Vc.draw rfl (by kernel_rfl) ?_|refine mkSl (by omega) (by omega) ?_);conv=>whnf))
        exact rB (by symm; simp; exact ext_get default (by omega) fun j hj => hi j (by omega))
theorem eq_As (a b : List (List Line)) : Sem P 227 [(.pure, .one (sAs a)), (.pure, .one (sAs b))] [] (B (decide (a = b))) := by
  refine fn_okR (E := E0) E0_tab E0_ord (fn := Go.Proofs.Tryz.f227) (by kernel_rfl) (by kernel_rfl) (fun hb => ?_)
  have la : (a.map eA).length = a.length := List.length_map ..
  have lb : (b.map eA).length = b.length := List.length_map ..
  have hb1 : (a.map eA).length ≤ 1125899906842624 := hb.1.1
  conv => whnf
  (repeat' first | ((first|refine sN ?_|refine Dr.cons ?_|(refine Dr.nil ?_;refine drawIf (by kernel_rfl) ?_)|refine vN rfl ?_|refine Vc.draw rfl (by kernel_rfl) ?_|refine mkSl (by omega) (by omega) ?_);conv=>whnf))
  refine ifB_i (fun h => ?_) (fun h => ?_)
  all_goals conv => whnf
  all_goals (repeat' first | ((first|refine sN ?_|refine Dr.cons ?_|(refine Dr.nil ?_;refine drawIf (by kernel_rfl) ?_)|refine vN rfl ?_|refine Vc.draw rfl (by kernel_rfl) ?_|refine mkSl (by omega) (by omega) ?_);conv=>whnf))
  · exact rB (by have := ne_of_bne h; symm; simp; intro e; subst e; simp at this)
  · have h := eq_of_bne h
    repeat' first | ((first|refine sN ?_|refine Dr.cons ?_|(refine Dr.nil ?_;refine drawIf (by kernel_rfl) ?_)|refine vN rfl ?_|refine Vc.draw rfl (by kernel_rfl) ?_|refine mkSl (by omega) (by omega) ?_);conv=>whnf) | (refine ifB_i (fun _=>?_) (fun _=>?_)<;>conv=>whnf)
    refine Vc.loop { i : Nat // ∀ j, j < i → a.getD j default = b.getD j default } (fun i => updL [0, 1] [(5, I i.1)] []) (fun i => a.length - i.1) ⟨0, by simp⟩ ?_ (fun i => ?_)
    · repeat' (first | exact True.intro | ((conv => whnf); first | exact True.intro | refine ⟨by rfl, ?_⟩ | refine ⟨?_, ?_⟩))
    · have hi := i.2
      conv => whnf
      (repeat' first | ((first|refine sN ?_|refine Dr.cons ?_|(refine Dr.nil ?_;refine drawIf (by kernel_rfl) ?_)|refine vN rfl ?_|refine Vc.draw rfl (by kernel_rfl) ?_|refine mkSl (by omega) (by omega) ?_);conv=>whnf))
      refine ifB_d (fun g => ?_) (fun g => ?_)
      all_goals conv => whnf
      · repeat' first | ((first|refine sN ?_|refine Dr.cons ?_|(refine Dr.nil ?_;refine drawIf (by kernel_rfl) ?_)|refine vN rfl ?_|refine Vc.draw rfl (by kernel_rfl) ?_|refine mkSl (by omega) (by omega) ?_);conv=>whnf) | (refine ifB_i (fun _=>?_) (fun _=>?_)<;>conv=>whnf) | ((first | refine ixN (enc := eA) default (by omega) ?_ | refine ⟨_, eq_Ls _ _, ?_⟩ | refine w64 (by omega) (by omega) ?_);conv=>whnf)
        all_goals first
          | exact rB (by symm; simp only [decide_eq_false_iff_not]; intro e; subst e; simp_all)
          | (refine ⟨⟨i.1 + 1, fun j hj => ?_⟩, ?_, ?_⟩
             · by_cases h : j < i.1
               · exact hi j h
               · obtain rfl : j = i.1 := by omega
                 (first | (simp_all; done) | (generalize a.getD i.1 default = x at *; generalize b.getD i.1 default = y at *; clear hi; cases x; cases y; simp_all))
             · simp only; omega
             · repeat' (first | exact True.intro | ((conv => whnf); first | exact True.intro | refine ⟨by rfl, ?_⟩ | refine ⟨?_, ?_⟩)))
      · (repeat' first | ((first|refine sN ?_|refine Dr.cons ?_|(refine Dr.nil ?_;refine drawIf (by kernel_rfl) ?_)|refine vN rfl ?_|refine Vc.draw rfl (by kernel_rfl) ?_|refine mkSl (by omega) (by omega) ?_);conv=>whnf))
        exact rB (by symm; simp; exact ext_get default (by omega) fun j hj => hi j (by omega))
theorem eq_Pl (a b : Plan) : Sem P 127 [(.pure, .agg (aPl a)), (.pure, .agg (aPl b))] [] (B (decide (a = b))) := by
  refine fn_okR (E := E0) E0_tab E0_ord (fn := Go.Proofs.Tryz.f127) (by kernel_rfl) (by kernel_rfl) (fun hb => ?_)
  conv => whnf
  repeat' first | ((first|refine sN ?_|refine Dr.cons ?_|(refine Dr.nil ?_;refine drawIf (by kernel_rfl) ?_)|refine vN rfl ?_|refine Vc.draw rfl (by kernel_rfl) ?_|refine mkSl (by omega) (by omega) ?_);conv=>whnf) | (refine ifB_i (fun _=>?_) (fun _=>?_)<;>conv=>whnf) | ((first | refine ⟨_, eq_As a.Acts b.Acts, ?_⟩ | refine ⟨_, eq_I a.Gives b.Gives, ?_⟩ | refine ⟨_, eq_I a.Start b.Start, ?_⟩);conv=>whnf)
  all_goals refine rB ?_
  all_goals (cases a; cases b; first | (simp_all; done) | (simp_all; rfl))
theorem eq_R (a b : Rslt) : Sem P 315 [(.pure, .agg (aR a)), (.pure, .agg (aR b))] [] (B (decide (a = b))) := by
  refine fn_okR (E := E0) E0_tab E0_ord (fn := Go.Proofs.Tryz.f315) (by kernel_rfl) (by kernel_rfl) (fun hb => ?_)
  conv => whnf
  repeat' first | ((first|refine sN ?_|refine Dr.cons ?_|(refine Dr.nil ?_;refine drawIf (by kernel_rfl) ?_)|refine vN rfl ?_|refine Vc.draw rfl (by kernel_rfl) ?_|refine mkSl (by omega) (by omega) ?_);conv=>whnf) | (refine ifB_i (fun _=>?_) (fun _=>?_)<;>conv=>whnf) | (refine ⟨_, eq_I a.Tells b.Tells, ?_⟩;conv=>whnf)
  all_goals refine rB ?_
  all_goals (cases a; cases b; first | (simp_all; done) | (simp_all; rfl))
theorem eq_D (a b : Done) : Sem P 312 [(.pure, .agg (aD a)), (.pure, .agg (aD b))] [] (B (decide (a = b))) := by
  refine fn_okR (E := E0) E0_tab E0_ord (fn := Go.Proofs.Tryz.f312) (by kernel_rfl) (by kernel_rfl) (fun hb => ?_)
  conv => whnf
  repeat' first | ((first|refine sN ?_|refine Dr.cons ?_|(refine Dr.nil ?_;refine drawIf (by kernel_rfl) ?_)|refine vN rfl ?_|refine Vc.draw rfl (by kernel_rfl) ?_|refine mkSl (by omega) (by omega) ?_);conv=>whnf) | (refine ifB_i (fun _=>?_) (fun _=>?_)<;>conv=>whnf) | (refine ⟨_, eq_R a.Res b.Res, ?_⟩;conv=>whnf)
  all_goals refine rB ?_
  all_goals (cases a; cases b; first | (simp_all; done) | (simp_all; rfl))
theorem eq_Ds (a b : List Done) : Sem P 230 [(.pure, .one (sDs a)), (.pure, .one (sDs b))] [] (B (decide (a = b))) := by
  refine fn_okR (E := E0) E0_tab E0_ord (fn := Go.Proofs.Tryz.f230) (by kernel_rfl) (by kernel_rfl) (fun hb => ?_)
  have la : (a.map eD).length = a.length := List.length_map ..
  have lb : (b.map eD).length = b.length := List.length_map ..
  have hb1 : (a.map eD).length ≤ 1125899906842624 := hb.1.1
  conv => whnf
  (repeat' first | ((first|refine sN ?_|refine Dr.cons ?_|(refine Dr.nil ?_;refine drawIf (by kernel_rfl) ?_)|refine vN rfl ?_|refine Vc.draw rfl (by kernel_rfl) ?_|refine mkSl (by omega) (by omega) ?_);conv=>whnf))
  refine ifB_i (fun h => ?_) (fun h => ?_)
  all_goals conv => whnf
  all_goals (repeat' first | ((first|refine sN ?_|refine Dr.cons ?_|(refine Dr.nil ?_;refine drawIf (by kernel_rfl) ?_)|refine vN rfl ?_|refine Vc.draw rfl (by kernel_rfl) ?_|refine mkSl (by omega) (by omega) ?_);conv=>whnf))
  · exact rB (by have := ne_of_bne h; symm; simp; intro e; subst e; simp at this)
  · have h := eq_of_bne h
    repeat' first | ((first|refine sN ?_|refine Dr.cons ?_|(refine Dr.nil ?_;refine drawIf (by kernel_rfl) ?_)|refine vN rfl ?_|refine Vc.draw rfl (by kernel_rfl) ?_|refine mkSl (by omega) (by omega) ?_);conv=>whnf) | (refine ifB_i (fun _=>?_) (fun _=>?_)<;>conv=>whnf)
    refine Vc.loop { i : Nat // ∀ j, j < i → a.getD j default = b.getD j default } (fun i => updL [0, 1] [(5, I i.1)] []) (fun i => a.length - i.1) ⟨0, by simp⟩ ?_ (fun i => ?_)
    · repeat' (first | exact True.intro | ((conv => whnf); first | exact True.intro | refine ⟨by rfl, ?_⟩ | refine ⟨?_, ?_⟩))
    · have hi := i.2
      conv => whnf
      (repeat' first | ((first|refine sN ?_|refine Dr.cons ?_|(refine Dr.nil ?_;refine drawIf (by kernel_rfl) ?_)|refine vN rfl ?_|refine Vc.draw rfl (by kernel_rfl) ?_|refine mkSl (by omega) (by omega) ?_);conv=>whnf))
      refine ifB_d (fun g => ?_) (fun g => ?_)
      all_goals conv => whnf
      · repeat' first | ((first|refine sN ?_|refine Dr.cons ?_|(refine Dr.nil ?_;refine drawIf (by kernel_rfl) ?_)|refine vN rfl ?_|refine Vc.draw rfl (by kernel_rfl) ?_|refine mkSl (by omega) (by omega) ?_);conv=>whnf) | (refine ifB_i (fun _=>?_) (fun _=>?_)<;>conv=>whnf) | ((first | refine ixN (enc := eD) default (by omega) ?_ | refine ⟨_, eq_D _ _, ?_⟩ | refine w64 (by omega) (by omega) ?_);conv=>whnf)
        all_goals first
          | exact rB (by symm; simp only [decide_eq_false_iff_not]; intro e; subst e; simp_all)
          | (refine ⟨⟨i.1 + 1, fun j hj => ?_⟩, ?_, ?_⟩
             · by_cases h : j < i.1
               · exact hi j h
               · obtain rfl : j = i.1 := by omega
                 (first | (simp_all; done) | (generalize a.getD i.1 default = x at *; generalize b.getD i.1 default = y at *; clear hi; cases x; cases y; simp_all))
             · simp only; omega
             · repeat' (first | exact True.intro | ((conv => whnf); first | exact True.intro | refine ⟨by rfl, ?_⟩ | refine ⟨?_, ?_⟩)))
      · (repeat' first | ((first|refine sN ?_|refine Dr.cons ?_|(refine Dr.nil ?_;refine drawIf (by kernel_rfl) ?_)|refine vN rfl ?_|refine Vc.draw rfl (by kernel_rfl) ?_|refine mkSl (by omega) (by omega) ?_);conv=>whnf))
        exact rB (by symm; simp; exact ext_get default (by omega) fun j hj => hi j (by omega))
theorem eq_S (a b : Site) : Sem P 229 [(.pure, .agg (aS a)), (.pure, .agg (aS b))] [] (B (decide (a = b))) := by
  refine fn_okR (E := E0) E0_tab E0_ord (fn := Go.Proofs.Tryz.f229) (by kernel_rfl) (by kernel_rfl) (fun hb => ?_)
  conv => whnf
  repeat' first | ((first|refine sN ?_|refine Dr.cons ?_|(refine Dr.nil ?_;refine drawIf (by kernel_rfl) ?_)|refine vN rfl ?_|refine Vc.draw rfl (by kernel_rfl) ?_|refine mkSl (by omega) (by omega) ?_);conv=>whnf) | (refine ifB_i (fun _=>?_) (fun _=>?_)<;>conv=>whnf) | ((first | refine ⟨_, eq_I a.Base b.Base, ?_⟩ | refine ⟨_, eq_I a.Added b.Added, ?_⟩ | refine ⟨_, eq_Ds a.Done b.Done, ?_⟩);conv=>whnf)
  all_goals refine rB ?_
  all_goals (cases a; cases b; first | (simp_all; done) | (simp_all; rfl))
theorem eq_Ss (a b : List Site) : Sem P 128 [(.pure, .one (sSs a)), (.pure, .one (sSs b))] [] (B (decide (a = b))) := by
  refine fn_okR (E := E0) E0_tab E0_ord (fn := Go.Proofs.Tryz.f128) (by kernel_rfl) (by kernel_rfl) (fun hb => ?_)
  have la : (a.map eS).length = a.length := List.length_map ..
  have lb : (b.map eS).length = b.length := List.length_map ..
  have hb1 : (a.map eS).length ≤ 1125899906842624 := hb.1.1
  conv => whnf
  (repeat' first | ((first|refine sN ?_|refine Dr.cons ?_|(refine Dr.nil ?_;refine drawIf (by kernel_rfl) ?_)|refine vN rfl ?_|refine Vc.draw rfl (by kernel_rfl) ?_|refine mkSl (by omega) (by omega) ?_);conv=>whnf))
  refine ifB_i (fun h => ?_) (fun h => ?_)
  all_goals conv => whnf
  all_goals (repeat' first | ((first|refine sN ?_|refine Dr.cons ?_|(refine Dr.nil ?_;refine drawIf (by kernel_rfl) ?_)|refine vN rfl ?_|refine Vc.draw rfl (by kernel_rfl) ?_|refine mkSl (by omega) (by omega) ?_);conv=>whnf))
  · exact rB (by have := ne_of_bne h; symm; simp; intro e; subst e; simp at this)
  · have h := eq_of_bne h
    repeat' first | ((first|refine sN ?_|refine Dr.cons ?_|(refine Dr.nil ?_;refine drawIf (by kernel_rfl) ?_)|refine vN rfl ?_|refine Vc.draw rfl (by kernel_rfl) ?_|refine mkSl (by omega) (by omega) ?_);conv=>whnf) | (refine ifB_i (fun _=>?_) (fun _=>?_)<;>conv=>whnf)
    refine Vc.loop { i : Nat // ∀ j, j < i → a.getD j default = b.getD j default } (fun i => updL [0, 1] [(5, I i.1)] []) (fun i => a.length - i.1) ⟨0, by simp⟩ ?_ (fun i => ?_)
    · repeat' (first | exact True.intro | ((conv => whnf); first | exact True.intro | refine ⟨by rfl, ?_⟩ | refine ⟨?_, ?_⟩))
    · have hi := i.2
      conv => whnf
      (repeat' first | ((first|refine sN ?_|refine Dr.cons ?_|(refine Dr.nil ?_;refine drawIf (by kernel_rfl) ?_)|refine vN rfl ?_|refine Vc.draw rfl (by kernel_rfl) ?_|refine mkSl (by omega) (by omega) ?_);conv=>whnf))
      refine ifB_d (fun g => ?_) (fun g => ?_)
      all_goals conv => whnf
      · repeat' first | ((first|refine sN ?_|refine Dr.cons ?_|(refine Dr.nil ?_;refine drawIf (by kernel_rfl) ?_)|refine vN rfl ?_|refine Vc.draw rfl (by kernel_rfl) ?_|refine mkSl (by omega) (by omega) ?_);conv=>whnf) | (refine ifB_i (fun _=>?_) (fun _=>?_)<;>conv=>whnf) | ((first | refine ixN (enc := eS) default (by omega) ?_ | refine ⟨_, eq_S _ _, ?_⟩ | refine w64 (by omega) (by omega) ?_);conv=>whnf)
        all_goals first
          | exact rB (by symm; simp only [decide_eq_false_iff_not]; intro e; subst e; simp_all)
          | (refine ⟨⟨i.1 + 1, fun j hj => ?_⟩, ?_, ?_⟩
             · by_cases h : j < i.1
               · exact hi j h
               · obtain rfl : j = i.1 := by omega
                 (first | (simp_all; done) | (generalize a.getD i.1 default = x at *; generalize b.getD i.1 default = y at *; clear hi; cases x; cases y; simp_all))
             · simp only; omega
             · repeat' (first | exact True.intro | ((conv => whnf); first | exact True.intro | refine ⟨by rfl, ?_⟩ | refine ⟨?_, ?_⟩)))
      · (repeat' first | ((first|refine sN ?_|refine Dr.cons ?_|(refine Dr.nil ?_;refine drawIf (by kernel_rfl) ?_)|refine vN rfl ?_|refine Vc.draw rfl (by kernel_rfl) ?_|refine mkSl (by omega) (by omega) ?_);conv=>whnf))
        exact rB (by symm; simp; exact ext_get default (by omega) fun j hj => hi j (by omega))
theorem eq_C (a b : Call) : Sem P 313 [(.pure, .agg (aC a)), (.pure, .agg (aC b))] [] (B (decide (a = b))) := by
  refine fn_okR (E := E0) E0_tab E0_ord (fn := Go.Proofs.Tryz.f313) (by kernel_rfl) (by kernel_rfl) (fun hb => ?_)
  conv => whnf
  repeat' first | ((first|refine sN ?_|refine Dr.cons ?_|(refine Dr.nil ?_;refine drawIf (by kernel_rfl) ?_)|refine vN rfl ?_|refine Vc.draw rfl (by kernel_rfl) ?_|refine mkSl (by omega) (by omega) ?_);conv=>whnf) | (refine ifB_i (fun _=>?_) (fun _=>?_)<;>conv=>whnf) | (refine ⟨_, eq_I a.Args b.Args, ?_⟩;conv=>whnf)
  all_goals refine rB ?_
  all_goals (cases a; cases b; first | (simp_all; done) | (simp_all; rfl))
theorem eq_Cs (a b : List Call) : Sem P 231 [(.pure, .one (sCs a)), (.pure, .one (sCs b))] [] (B (decide (a = b))) := by
  refine fn_okR (E := E0) E0_tab E0_ord (fn := Go.Proofs.Tryz.f231) (by kernel_rfl) (by kernel_rfl) (fun hb => ?_)
  have la : (a.map eC).length = a.length := List.length_map ..
  have lb : (b.map eC).length = b.length := List.length_map ..
  have hb1 : (a.map eC).length ≤ 1125899906842624 := hb.1.1
  conv => whnf
  (repeat' first | ((first|refine sN ?_|refine Dr.cons ?_|(refine Dr.nil ?_;refine drawIf (by kernel_rfl) ?_)|refine vN rfl ?_|refine Vc.draw rfl (by kernel_rfl) ?_|refine mkSl (by omega) (by omega) ?_);conv=>whnf))
  refine ifB_i (fun h => ?_) (fun h => ?_)
  all_goals conv => whnf
  all_goals (repeat' first | ((first|refine sN ?_|refine Dr.cons ?_|(refine Dr.nil ?_;refine drawIf (by kernel_rfl) ?_)|refine vN rfl ?_|refine Vc.draw rfl (by kernel_rfl) ?_|refine mkSl (by omega) (by omega) ?_);conv=>whnf))
  · exact rB (by have := ne_of_bne h; symm; simp; intro e; subst e; simp at this)
  · have h := eq_of_bne h
    repeat' first | ((first|refine sN ?_|refine Dr.cons ?_|(refine Dr.nil ?_;refine drawIf (by kernel_rfl) ?_)|refine vN rfl ?_|refine Vc.draw rfl (by kernel_rfl) ?_|refine mkSl (by omega) (by omega) ?_);conv=>whnf) | (refine ifB_i (fun _=>?_) (fun _=>?_)<;>conv=>whnf)
    refine Vc.loop { i : Nat // ∀ j, j < i → a.getD j default = b.getD j default } (fun i => updL [0, 1] [(5, I i.1)] []) (fun i => a.length - i.1) ⟨0, by simp⟩ ?_ (fun i => ?_)
    · repeat' (first | exact True.intro | ((conv => whnf); first | exact True.intro | refine ⟨by rfl, ?_⟩ | refine ⟨?_, ?_⟩))
    · have hi := i.2
      conv => whnf
      (repeat' first | ((first|refine sN ?_|refine Dr.cons ?_|(refine Dr.nil ?_;refine drawIf (by kernel_rfl) ?_)|refine vN rfl ?_|refine Vc.draw rfl (by kernel_rfl) ?_|refine mkSl (by omega) (by omega) ?_);conv=>whnf))
      refine ifB_d (fun g => ?_) (fun g => ?_)
      all_goals conv => whnf
      · repeat' first | ((first|refine sN ?_|refine Dr.cons ?_|(refine Dr.nil ?_;refine drawIf (by kernel_rfl) ?_)|refine vN rfl ?_|refine Vc.draw rfl (by kernel_rfl) ?_|refine mkSl (by omega) (by omega) ?_);conv=>whnf) | (refine ifB_i (fun _=>?_) (fun _=>?_)<;>conv=>whnf) | ((first | refine ixN (enc := eC) default (by omega) ?_ | refine ⟨_, eq_C _ _, ?_⟩ | refine w64 (by omega) (by omega) ?_);conv=>whnf)
        all_goals first
          | exact rB (by symm; simp only [decide_eq_false_iff_not]; intro e; subst e; simp_all)
          | (refine ⟨⟨i.1 + 1, fun j hj => ?_⟩, ?_, ?_⟩
             · by_cases h : j < i.1
               · exact hi j h
               · obtain rfl : j = i.1 := by omega
                 (first | (simp_all; done) | (generalize a.getD i.1 default = x at *; generalize b.getD i.1 default = y at *; clear hi; cases x; cases y; simp_all))
             · simp only; omega
             · repeat' (first | exact True.intro | ((conv => whnf); first | exact True.intro | refine ⟨by rfl, ?_⟩ | refine ⟨?_, ?_⟩)))
      · (repeat' first | ((first|refine sN ?_|refine Dr.cons ?_|(refine Dr.nil ?_;refine drawIf (by kernel_rfl) ?_)|refine vN rfl ?_|refine Vc.draw rfl (by kernel_rfl) ?_|refine mkSl (by omega) (by omega) ?_);conv=>whnf))
        exact rB (by symm; simp; exact ext_get default (by omega) fun j hj => hi j (by omega))
theorem eq_G (a b : Got) : Sem P 314 [(.pure, .agg (aG a)), (.pure, .agg (aG b))] [] (B (decide (a = b))) := by
  refine fn_okR (E := E0) E0_tab E0_ord (fn := Go.Proofs.Tryz.f314) (by kernel_rfl) (by kernel_rfl) (fun hb => ?_)
  conv => whnf
  repeat' first | ((first|refine sN ?_|refine Dr.cons ?_|(refine Dr.nil ?_;refine drawIf (by kernel_rfl) ?_)|refine vN rfl ?_|refine Vc.draw rfl (by kernel_rfl) ?_|refine mkSl (by omega) (by omega) ?_);conv=>whnf) | (refine ifB_i (fun _=>?_) (fun _=>?_)<;>conv=>whnf) | ((first | refine ⟨_, eq_I a.Added b.Added, ?_⟩ | refine ⟨_, eq_I a.Seqs b.Seqs, ?_⟩);conv=>whnf)
  all_goals refine rB ?_
  all_goals (cases a; cases b; first | (simp_all; done) | (simp_all; rfl))
theorem eq_Gs (a b : List Got) : Sem P 232 [(.pure, .one (sGs a)), (.pure, .one (sGs b))] [] (B (decide (a = b))) := by
  refine fn_okR (E := E0) E0_tab E0_ord (fn := Go.Proofs.Tryz.f232) (by kernel_rfl) (by kernel_rfl) (fun hb => ?_)
  have la : (a.map eG).length = a.length := List.length_map ..
  have lb : (b.map eG).length = b.length := List.length_map ..
  have hb1 : (a.map eG).length ≤ 1125899906842624 := hb.1.1
  conv => whnf
  (repeat' first | ((first|refine sN ?_|refine Dr.cons ?_|(refine Dr.nil ?_;refine drawIf (by kernel_rfl) ?_)|refine vN rfl ?_|refine Vc.draw rfl (by kernel_rfl) ?_|refine mkSl (by omega) (by omega) ?_);conv=>whnf))
  refine ifB_i (fun h => ?_) (fun h => ?_)
  all_goals conv => whnf
  all_goals (repeat' first | ((first|refine sN ?_|refine Dr.cons ?_|(refine Dr.nil ?_;refine drawIf (by kernel_rfl) ?_)|refine vN rfl ?_|refine Vc.draw rfl (by kernel_rfl) ?_|refine mkSl (by omega) (by omega) ?_);conv=>whnf))
  · exact rB (by have := ne_of_bne h; symm; simp; intro e; subst e; simp at this)
  · have h := eq_of_bne h
    repeat' first | ((first|refine sN ?_|refine Dr.cons ?_|(refine Dr.nil ?_;refine drawIf (by kernel_rfl) ?_)|refine vN rfl ?_|refine Vc.draw rfl (by kernel_rfl) ?_|refine mkSl (by omega) (by omega) ?_);conv=>whnf) | (refine ifB_i (fun _=>?_) (fun _=>?_)<;>conv=>whnf)
    refine Vc.loop { i : Nat // ∀ j, j < i → a.getD j default = b.getD j default } (fun i => updL [0, 1] [(5, I i.1)] []) (fun i => a.length - i.1) ⟨0, by simp⟩ ?_ (fun i => ?_)
    · repeat' (first | exact True.intro | ((conv => whnf); first | exact True.intro | refine ⟨by rfl, ?_⟩ | refine ⟨?_, ?_⟩))
    · have hi := i.2
      conv => whnf
      (repeat' first | ((first|refine sN ?_|refine Dr.cons ?_|(refine Dr.nil ?_;refine drawIf (by kernel_rfl) ?_)|refine vN rfl ?_|refine Vc.draw rfl (by kernel_rfl) ?_|refine mkSl (by omega) (by omega) ?_);conv=>whnf))
      refine ifB_d (fun g => ?_) (fun g => ?_)
      all_goals conv => whnf
      · repeat' first | ((first|refine sN ?_|refine Dr.cons ?_|(refine Dr.nil ?_;refine drawIf (by kernel_rfl) ?_)|refine vN rfl ?_|refine Vc.draw rfl (by kernel_rfl) ?_|refine mkSl (by omega) (by omega) ?_);conv=>whnf) | (refine ifB_i (fun _=>?_) (fun _=>?_)<;>conv=>whnf) | ((first | refine ixN (enc := eG) default (by omega) ?_ | refine ⟨_, eq_G _ _, ?_⟩ | refine w64 (by omega) (by omega) ?_);conv=>whnf)
        all_goals first
          | exact rB (by symm; simp only [decide_eq_false_iff_not]; intro e; subst e; simp_all)
          | (refine ⟨⟨i.1 + 1, fun j hj => ?_⟩, ?_, ?_⟩
             · by_cases h : j < i.1
               · exact hi j h
               · obtain rfl : j = i.1 := by omega
                 (first | (simp_all; done) | (generalize a.getD i.1 default = x at *; generalize b.getD i.1 default = y at *; clear hi; cases x; cases y; simp_all))
             · simp only; omega
             · repeat' (first | exact True.intro | ((conv => whnf); first | exact True.intro | refine ⟨by rfl, ?_⟩ | refine ⟨?_, ?_⟩)))
      · (repeat' first | ((first|refine sN ?_|refine Dr.cons ?_|(refine Dr.nil ?_;refine drawIf (by kernel_rfl) ?_)|refine vN rfl ?_|refine Vc.draw rfl (by kernel_rfl) ?_|refine mkSl (by omega) (by omega) ?_);conv=>whnf))
        exact rB (by symm; simp; exact ext_get default (by omega) fun j hj => hi j (by omega))
theorem eq_K (a b : Clerk) : Sem P 129 [(.pure, .agg (aK a)), (.pure, .agg (aK b))] [] (B (decide (a = b))) := by
  refine fn_okR (E := E0) E0_tab E0_ord (fn := Go.Proofs.Tryz.f129) (by kernel_rfl) (by kernel_rfl) (fun hb => ?_)
  conv => whnf
  repeat' first | ((first|refine sN ?_|refine Dr.cons ?_|(refine Dr.nil ?_;refine drawIf (by kernel_rfl) ?_)|refine vN rfl ?_|refine Vc.draw rfl (by kernel_rfl) ?_|refine mkSl (by omega) (by omega) ?_);conv=>whnf) | (refine ifB_i (fun _=>?_) (fun _=>?_)<;>conv=>whnf) | ((first | refine ⟨_, eq_I a.Base b.Base, ?_⟩ | refine ⟨_, eq_Ds a.Done b.Done, ?_⟩ | refine ⟨_, eq_Cs a.Wants b.Wants, ?_⟩ | refine ⟨_, eq_Gs a.Got b.Got, ?_⟩);conv=>whnf)
  all_goals refine rB ?_
  all_goals (cases a; cases b; first | (simp_all; done) | (simp_all; rfl))
theorem eq_X (a b : Client) : Sem P 233 [(.pure, .agg (aX a)), (.pure, .agg (aX b))] [] (B (decide (a = b))) := by
  refine fn_okR (E := E0) E0_tab E0_ord (fn := Go.Proofs.Tryz.f233) (by kernel_rfl) (by kernel_rfl) (fun hb => ?_)
  conv => whnf
  repeat' first | ((first|refine sN ?_|refine Dr.cons ?_|(refine Dr.nil ?_;refine drawIf (by kernel_rfl) ?_)|refine vN rfl ?_|refine Vc.draw rfl (by kernel_rfl) ?_|refine mkSl (by omega) (by omega) ?_);conv=>whnf) | (refine ifB_i (fun _=>?_) (fun _=>?_)<;>conv=>whnf) | ((first | refine ⟨_, eq_C a.Call b.Call, ?_⟩ | refine ⟨_, eq_R a.Res b.Res, ?_⟩);conv=>whnf)
  all_goals refine rB ?_
  all_goals (cases a; cases b; first | (simp_all; done) | (simp_all; rfl))
theorem eq_Xs (a b : List Client) : Sem P 130 [(.pure, .one (sXs a)), (.pure, .one (sXs b))] [] (B (decide (a = b))) := by
  refine fn_okR (E := E0) E0_tab E0_ord (fn := Go.Proofs.Tryz.f130) (by kernel_rfl) (by kernel_rfl) (fun hb => ?_)
  have la : (a.map eX).length = a.length := List.length_map ..
  have lb : (b.map eX).length = b.length := List.length_map ..
  have hb1 : (a.map eX).length ≤ 1125899906842624 := hb.1.1
  conv => whnf
  (repeat' first | ((first|refine sN ?_|refine Dr.cons ?_|(refine Dr.nil ?_;refine drawIf (by kernel_rfl) ?_)|refine vN rfl ?_|refine Vc.draw rfl (by kernel_rfl) ?_|refine mkSl (by omega) (by omega) ?_);conv=>whnf))
  refine ifB_i (fun h => ?_) (fun h => ?_)
  all_goals conv => whnf
  all_goals (repeat' first | ((first|refine sN ?_|refine Dr.cons ?_|(refine Dr.nil ?_;refine drawIf (by kernel_rfl) ?_)|refine vN rfl ?_|refine Vc.draw rfl (by kernel_rfl) ?_|refine mkSl (by omega) (by omega) ?_);conv=>whnf))
  · exact rB (by have := ne_of_bne h; symm; simp; intro e; subst e; simp at this)
  · have h := eq_of_bne h
    repeat' first | ((first|refine sN ?_|refine Dr.cons ?_|(refine Dr.nil ?_;refine drawIf (by kernel_rfl) ?_)|refine vN rfl ?_|refine Vc.draw rfl (by kernel_rfl) ?_|refine mkSl (by omega) (by omega) ?_);conv=>whnf) | (refine ifB_i (fun _=>?_) (fun _=>?_)<;>conv=>whnf)
    refine Vc.loop { i : Nat // ∀ j, j < i → a.getD j default = b.getD j default } (fun i => updL [0, 1] [(5, I i.1)] []) (fun i => a.length - i.1) ⟨0, by simp⟩ ?_ (fun i => ?_)
    · repeat' (first | exact True.intro | ((conv => whnf); first | exact True.intro | refine ⟨by rfl, ?_⟩ | refine ⟨?_, ?_⟩))
    · have hi := i.2
      conv => whnf
      (repeat' first | ((first|refine sN ?_|refine Dr.cons ?_|(refine Dr.nil ?_;refine drawIf (by kernel_rfl) ?_)|refine vN rfl ?_|refine Vc.draw rfl (by kernel_rfl) ?_|refine mkSl (by omega) (by omega) ?_);conv=>whnf))
      refine ifB_d (fun g => ?_) (fun g => ?_)
      all_goals conv => whnf
      · repeat' first | ((first|refine sN ?_|refine Dr.cons ?_|(refine Dr.nil ?_;refine drawIf (by kernel_rfl) ?_)|refine vN rfl ?_|refine Vc.draw rfl (by kernel_rfl) ?_|refine mkSl (by omega) (by omega) ?_);conv=>whnf) | (refine ifB_i (fun _=>?_) (fun _=>?_)<;>conv=>whnf) | ((first | refine ixN (enc := eX) default (by omega) ?_ | refine ⟨_, eq_X _ _, ?_⟩ | refine w64 (by omega) (by omega) ?_);conv=>whnf)
        all_goals first
          | exact rB (by symm; simp only [decide_eq_false_iff_not]; intro e; subst e; simp_all)
          | (refine ⟨⟨i.1 + 1, fun j hj => ?_⟩, ?_, ?_⟩
             · by_cases h : j < i.1
               · exact hi j h
               · obtain rfl : j = i.1 := by omega
                 (first | (simp_all; done) | (generalize a.getD i.1 default = x at *; generalize b.getD i.1 default = y at *; clear hi; cases x; cases y; simp_all))
             · simp only; omega
             · repeat' (first | exact True.intro | ((conv => whnf); first | exact True.intro | refine ⟨by rfl, ?_⟩ | refine ⟨?_, ?_⟩)))
      · (repeat' first | ((first|refine sN ?_|refine Dr.cons ?_|(refine Dr.nil ?_;refine drawIf (by kernel_rfl) ?_)|refine vN rfl ?_|refine Vc.draw rfl (by kernel_rfl) ?_|refine mkSl (by omega) (by omega) ?_);conv=>whnf))
        exact rB (by symm; simp; exact ext_get default (by omega) fun j hj => hi j (by omega))
theorem eq_M (a b : Msg) : Sem P 234 [(.pure, .agg (aM a)), (.pure, .agg (aM b))] [] (B (decide (a = b))) := by
  refine fn_okR (E := E0) E0_tab E0_ord (fn := Go.Proofs.Tryz.f234) (by kernel_rfl) (by kernel_rfl) (fun hb => ?_)
  conv => whnf
  repeat' first | ((first|refine sN ?_|refine Dr.cons ?_|(refine Dr.nil ?_;refine drawIf (by kernel_rfl) ?_)|refine vN rfl ?_|refine Vc.draw rfl (by kernel_rfl) ?_|refine mkSl (by omega) (by omega) ?_);conv=>whnf) | (refine ifB_i (fun _=>?_) (fun _=>?_)<;>conv=>whnf) | ((first | refine ⟨_, eq_C a.Call b.Call, ?_⟩ | refine ⟨_, eq_I a.Vals b.Vals, ?_⟩ | refine ⟨_, eq_I a.Seqs b.Seqs, ?_⟩ | refine ⟨_, eq_Ds a.Done b.Done, ?_⟩);conv=>whnf)
  all_goals refine rB ?_
  all_goals (cases a; cases b; first | (simp_all; done) | (simp_all; rfl))
theorem eq_Ms (a b : List Msg) : Sem P 131 [(.pure, .one (sMs a)), (.pure, .one (sMs b))] [] (B (decide (a = b))) := by
  refine fn_okR (E := E0) E0_tab E0_ord (fn := Go.Proofs.Tryz.f131) (by kernel_rfl) (by kernel_rfl) (fun hb => ?_)
  have la : (a.map eM).length = a.length := List.length_map ..
  have lb : (b.map eM).length = b.length := List.length_map ..
  have hb1 : (a.map eM).length ≤ 1125899906842624 := hb.1.1
  conv => whnf
  (repeat' first | ((first|refine sN ?_|refine Dr.cons ?_|(refine Dr.nil ?_;refine drawIf (by kernel_rfl) ?_)|refine vN rfl ?_|refine Vc.draw rfl (by kernel_rfl) ?_|refine mkSl (by omega) (by omega) ?_);conv=>whnf))
  refine ifB_i (fun h => ?_) (fun h => ?_)
  all_goals conv => whnf
  all_goals (repeat' first | ((first|refine sN ?_|refine Dr.cons ?_|(refine Dr.nil ?_;refine drawIf (by kernel_rfl) ?_)|refine vN rfl ?_|refine Vc.draw rfl (by kernel_rfl) ?_|refine mkSl (by omega) (by omega) ?_);conv=>whnf))
  · exact rB (by have := ne_of_bne h; symm; simp; intro e; subst e; simp at this)
  · have h := eq_of_bne h
    repeat' first | ((first|refine sN ?_|refine Dr.cons ?_|(refine Dr.nil ?_;refine drawIf (by kernel_rfl) ?_)|refine vN rfl ?_|refine Vc.draw rfl (by kernel_rfl) ?_|refine mkSl (by omega) (by omega) ?_);conv=>whnf) | (refine ifB_i (fun _=>?_) (fun _=>?_)<;>conv=>whnf)
    refine Vc.loop { i : Nat // ∀ j, j < i → a.getD j default = b.getD j default } (fun i => updL [0, 1] [(5, I i.1)] []) (fun i => a.length - i.1) ⟨0, by simp⟩ ?_ (fun i => ?_)
    · repeat' (first | exact True.intro | ((conv => whnf); first | exact True.intro | refine ⟨by rfl, ?_⟩ | refine ⟨?_, ?_⟩))
    · have hi := i.2
      conv => whnf
      (repeat' first | ((first|refine sN ?_|refine Dr.cons ?_|(refine Dr.nil ?_;refine drawIf (by kernel_rfl) ?_)|refine vN rfl ?_|refine Vc.draw rfl (by kernel_rfl) ?_|refine mkSl (by omega) (by omega) ?_);conv=>whnf))
      refine ifB_d (fun g => ?_) (fun g => ?_)
      all_goals conv => whnf
      · repeat' first | ((first|refine sN ?_|refine Dr.cons ?_|(refine Dr.nil ?_;refine drawIf (by kernel_rfl) ?_)|refine vN rfl ?_|refine Vc.draw rfl (by kernel_rfl) ?_|refine mkSl (by omega) (by omega) ?_);conv=>whnf) | (refine ifB_i (fun _=>?_) (fun _=>?_)<;>conv=>whnf) | ((first | refine ixN (enc := eM) default (by omega) ?_ | refine ⟨_, eq_M _ _, ?_⟩ | refine w64 (by omega) (by omega) ?_);conv=>whnf)
        all_goals first
          | exact rB (by symm; simp only [decide_eq_false_iff_not]; intro e; subst e; simp_all)
          | (refine ⟨⟨i.1 + 1, fun j hj => ?_⟩, ?_, ?_⟩
             · by_cases h : j < i.1
               · exact hi j h
               · obtain rfl : j = i.1 := by omega
                 (first | (simp_all; done) | (generalize a.getD i.1 default = x at *; generalize b.getD i.1 default = y at *; clear hi; cases x; cases y; simp_all))
             · simp only; omega
             · repeat' (first | exact True.intro | ((conv => whnf); first | exact True.intro | refine ⟨by rfl, ?_⟩ | refine ⟨?_, ?_⟩)))
      · (repeat' first | ((first|refine sN ?_|refine Dr.cons ?_|(refine Dr.nil ?_;refine drawIf (by kernel_rfl) ?_)|refine vN rfl ?_|refine Vc.draw rfl (by kernel_rfl) ?_|refine mkSl (by omega) (by omega) ?_);conv=>whnf))
        exact rB (by symm; simp; exact ext_get default (by omega) fun j hj => hi j (by omega))
theorem eq_O (a b : LogD) : Sem P 235 [(.pure, .agg (aO a)), (.pure, .agg (aO b))] [] (B (decide (a = b))) := by
  refine fn_okR (E := E0) E0_tab E0_ord (fn := Go.Proofs.Tryz.f235) (by kernel_rfl) (by kernel_rfl) (fun hb => ?_)
  conv => whnf
  repeat' first | ((first|refine sN ?_|refine Dr.cons ?_|(refine Dr.nil ?_;refine drawIf (by kernel_rfl) ?_)|refine vN rfl ?_|refine Vc.draw rfl (by kernel_rfl) ?_|refine mkSl (by omega) (by omega) ?_);conv=>whnf) | (refine ifB_i (fun _=>?_) (fun _=>?_)<;>conv=>whnf) | ((first | refine ⟨_, eq_C a.Call b.Call, ?_⟩ | refine ⟨_, eq_R a.Res b.Res, ?_⟩);conv=>whnf)
  all_goals refine rB ?_
  all_goals (cases a; cases b; first | (simp_all; done) | (simp_all; rfl))
theorem eq_Os (a b : List LogD) : Sem P 132 [(.pure, .one (sOs a)), (.pure, .one (sOs b))] [] (B (decide (a = b))) := by
  refine fn_okR (E := E0) E0_tab E0_ord (fn := Go.Proofs.Tryz.f132) (by kernel_rfl) (by kernel_rfl) (fun hb => ?_)
  have la : (a.map eO).length = a.length := List.length_map ..
  have lb : (b.map eO).length = b.length := List.length_map ..
  have hb1 : (a.map eO).length ≤ 1125899906842624 := hb.1.1
  conv => whnf
  (repeat' first | ((first|refine sN ?_|refine Dr.cons ?_|(refine Dr.nil ?_;refine drawIf (by kernel_rfl) ?_)|refine vN rfl ?_|refine Vc.draw rfl (by kernel_rfl) ?_|refine mkSl (by omega) (by omega) ?_);conv=>whnf))
  refine ifB_i (fun h => ?_) (fun h => ?_)
  all_goals conv => whnf
  all_goals (repeat' first | ((first|refine sN ?_|refine Dr.cons ?_|(refine Dr.nil ?_;refine drawIf (by kernel_rfl) ?_)|refine vN rfl ?_|refine Vc.draw rfl (by kernel_rfl) ?_|refine mkSl (by omega) (by omega) ?_);conv=>whnf))
  · exact rB (by have := ne_of_bne h; symm; simp; intro e; subst e; simp at this)
  · have h := eq_of_bne h
    repeat' first | ((first|refine sN ?_|refine Dr.cons ?_|(refine Dr.nil ?_;refine drawIf (by kernel_rfl) ?_)|refine vN rfl ?_|refine Vc.draw rfl (by kernel_rfl) ?_|refine mkSl (by omega) (by omega) ?_);conv=>whnf) | (refine ifB_i (fun _=>?_) (fun _=>?_)<;>conv=>whnf)
    refine Vc.loop { i : Nat // ∀ j, j < i → a.getD j default = b.getD j default } (fun i => updL [0, 1] [(5, I i.1)] []) (fun i => a.length - i.1) ⟨0, by simp⟩ ?_ (fun i => ?_)
    · repeat' (first | exact True.intro | ((conv => whnf); first | exact True.intro | refine ⟨by rfl, ?_⟩ | refine ⟨?_, ?_⟩))
    · have hi := i.2
      conv => whnf
      (repeat' first | ((first|refine sN ?_|refine Dr.cons ?_|(refine Dr.nil ?_;refine drawIf (by kernel_rfl) ?_)|refine vN rfl ?_|refine Vc.draw rfl (by kernel_rfl) ?_|refine mkSl (by omega) (by omega) ?_);conv=>whnf))
      refine ifB_d (fun g => ?_) (fun g => ?_)
      all_goals conv => whnf
      · repeat' first | ((first|refine sN ?_|refine Dr.cons ?_|(refine Dr.nil ?_;refine drawIf (by kernel_rfl) ?_)|refine vN rfl ?_|refine Vc.draw rfl (by kernel_rfl) ?_|refine mkSl (by omega) (by omega) ?_);conv=>whnf) | (refine ifB_i (fun _=>?_) (fun _=>?_)<;>conv=>whnf) | ((first | refine ixN (enc := eO) default (by omega) ?_ | refine ⟨_, eq_O _ _, ?_⟩ | refine w64 (by omega) (by omega) ?_);conv=>whnf)
        all_goals first
          | exact rB (by symm; simp only [decide_eq_false_iff_not]; intro e; subst e; simp_all)
          | (refine ⟨⟨i.1 + 1, fun j hj => ?_⟩, ?_, ?_⟩
             · by_cases h : j < i.1
               · exact hi j h
               · obtain rfl : j = i.1 := by omega
                 (first | (simp_all; done) | (generalize a.getD i.1 default = x at *; generalize b.getD i.1 default = y at *; clear hi; cases x; cases y; simp_all))
             · simp only; omega
             · repeat' (first | exact True.intro | ((conv => whnf); first | exact True.intro | refine ⟨by rfl, ?_⟩ | refine ⟨?_, ?_⟩)))
      · (repeat' first | ((first|refine sN ?_|refine Dr.cons ?_|(refine Dr.nil ?_;refine drawIf (by kernel_rfl) ?_)|refine vN rfl ?_|refine Vc.draw rfl (by kernel_rfl) ?_|refine mkSl (by omega) (by omega) ?_);conv=>whnf))
        exact rB (by symm; simp; exact ext_get default (by omega) fun j hj => hi j (by omega))
theorem eq_Wd (a b : World) : Sem P 33 [(.pure, .agg (aWd a)), (.pure, .agg (aWd b))] [] (B (decide (a = b))) := by
  refine fn_okR (E := E0) E0_tab E0_ord (fn := Go.Proofs.Tryz.f33) (by kernel_rfl) (by kernel_rfl) (fun hb => ?_)
  conv => whnf
  repeat' first | ((first|refine sN ?_|refine Dr.cons ?_|(refine Dr.nil ?_;refine drawIf (by kernel_rfl) ?_)|refine vN rfl ?_|refine Vc.draw rfl (by kernel_rfl) ?_|refine mkSl (by omega) (by omega) ?_);conv=>whnf) | (refine ifB_i (fun _=>?_) (fun _=>?_)<;>conv=>whnf) | ((first | refine ⟨_, eq_Pl a.Plan b.Plan, ?_⟩ | refine ⟨_, eq_Ss a.Sites b.Sites, ?_⟩ | refine ⟨_, eq_K a.Clerk b.Clerk, ?_⟩ | refine ⟨_, eq_Xs a.Clients b.Clients, ?_⟩ | refine ⟨_, eq_Ms a.Net b.Net, ?_⟩ | refine ⟨_, eq_Os a.Log b.Log, ?_⟩);conv=>whnf)
  all_goals refine rB ?_
  all_goals (cases a; cases b; first | (simp_all; done) | (simp_all; rfl))
end Cc
end
section
namespace Cc
open Go Go.AM
set_option maxRecDepth 100000
set_option maxHeartbeats 4000000
theorem spec_times (p a : List Int) (hp : within p 3 10000000 = true) (ha : nums a 3) : Sem P 333 [(.pure, AI p), (.pure, AI a)] [] (I (dot p a)) := by
  obtain ⟨x, y, z, rfl, hx, hy, hz⟩ := within3 hp
  obtain ⟨u, v, w, rfl, hu, hv, hw⟩ := nums3 ha
  have m1 := mul_bd hx hu
  have m2 := mul_bd hy hv
  have m3 := mul_bd hz hw
  refine fn_okR (E := E0) E0_tab E0_ord (fn := Go.Proofs.Tryz.f333) (by kernel_rfl) (by kernel_rfl) (fun hb => ?_)
  conv => whnf
  (repeat' first | ((first|refine sN ?_|refine Dr.cons ?_|(refine Dr.nil ?_;refine drawIf (by kernel_rfl) ?_)|refine vN rfl ?_|refine Vc.draw rfl (by kernel_rfl) ?_|refine mkSl (by omega) (by omega) ?_);conv=>whnf))
  refine Vc.loop2 (fun (i : Nat) (n : Int) => i ≤ 3 ∧ (i = 0 → n = 0) ∧ (i = 1 → n = x * u) ∧ (i = 2 → n = x * u + y * v) ∧ (i = 3 → n = x * u + y * v + z * w)) (fun i n => updL [0, 1, 4, 22] [(6, I i), (5, I n)] []) (fun i _ => 3 - i) 0 0 (by simp) ?_ (fun i n hi => ?_)
  · repeat' (first|exact True.intro|((conv=>whnf);first|exact True.intro|refine ⟨by rfl, ?_⟩|refine ⟨by first|omega|(show (_ : Int) = _;first|omega|(dsimp only;omega)), ?_⟩ | refine ⟨?_, ?_⟩))
  · obtain ⟨hi, h0, h1, h2, h3⟩ := hi
    match i, hi with
    | 0, _ =>
      have hn := h0 rfl
      subst hn
      conv => whnf
      repeat' first | ((first|refine sN ?_|refine Dr.cons ?_|(refine Dr.nil ?_;refine drawIf (by kernel_rfl) ?_)|refine vN rfl ?_|refine Vc.draw rfl (by kernel_rfl) ?_|refine mkSl (by omega) (by omega) ?_);conv=>whnf) | (refine ifB_i (fun _=>?_) (fun _=>?_)<;>conv=>whnf) | ((first | refine ixK rfl ?_ | refine w64 (by omega) (by omega) ?_);conv=>whnf)
      refine ⟨1, x * u, by simp, by simp only; omega, ?_⟩
      repeat' (first|exact True.intro|((conv=>whnf);first|exact True.intro|refine ⟨by rfl, ?_⟩|refine ⟨by first|omega|(show (_ : Int) = _;first|omega|(dsimp only;omega)), ?_⟩ | refine ⟨?_, ?_⟩))
    | 1, _ =>
      have hn := h1 rfl
      subst hn
      conv => whnf
      repeat' first | ((first|refine sN ?_|refine Dr.cons ?_|(refine Dr.nil ?_;refine drawIf (by kernel_rfl) ?_)|refine vN rfl ?_|refine Vc.draw rfl (by kernel_rfl) ?_|refine mkSl (by omega) (by omega) ?_);conv=>whnf) | (refine ifB_i (fun _=>?_) (fun _=>?_)<;>conv=>whnf) | ((first | refine ixK rfl ?_ | refine w64 (by omega) (by omega) ?_);conv=>whnf)
      refine ⟨2, x * u + y * v, by simp, by simp only; omega, ?_⟩
      repeat' (first|exact True.intro|((conv=>whnf);first|exact True.intro|refine ⟨by rfl, ?_⟩|refine ⟨by first|omega|(show (_ : Int) = _;first|omega|(dsimp only;omega)), ?_⟩ | refine ⟨?_, ?_⟩))
    | 2, _ =>
      have hn := h2 rfl
      subst hn
      conv => whnf
      repeat' first | ((first|refine sN ?_|refine Dr.cons ?_|(refine Dr.nil ?_;refine drawIf (by kernel_rfl) ?_)|refine vN rfl ?_|refine Vc.draw rfl (by kernel_rfl) ?_|refine mkSl (by omega) (by omega) ?_);conv=>whnf) | (refine ifB_i (fun _=>?_) (fun _=>?_)<;>conv=>whnf) | ((first | refine ixK rfl ?_ | refine w64 (by omega) (by omega) ?_);conv=>whnf)
      refine ⟨3, x * u + y * v + z * w, by simp, by simp only; omega, ?_⟩
      repeat' (first|exact True.intro|((conv=>whnf);first|exact True.intro|refine ⟨by rfl, ?_⟩|refine ⟨by first|omega|(show (_ : Int) = _;first|omega|(dsimp only;omega)), ?_⟩ | refine ⟨?_, ?_⟩))
    | 3, _ =>
      have hn := h3 rfl
      subst hn
      conv => whnf
      (repeat' first | ((first|refine sN ?_|refine Dr.cons ?_|(refine Dr.nil ?_;refine drawIf (by kernel_rfl) ?_)|refine vN rfl ?_|refine Vc.draw rfl (by kernel_rfl) ?_|refine mkSl (by omega) (by omega) ?_);conv=>whnf))
      have e : dot [x, y, z] [u, v, w] = x * u + y * v + z * w := by simp only [dot]; omega
      exact ⟨congrArg (fun n => I n) e.symm, rfl⟩
theorem spec_partsOk (l : List (List Int)) : Sem P 332 [(.pure, .one (sPs l))] [] (B (partsOk l)) := by
  refine fn_okR (E := E0) E0_tab E0_ord (fn := Go.Proofs.Tryz.f332) (by kernel_rfl) (by kernel_rfl) (fun hb => ?_)
  have la : (l.map eP).length = l.length := List.length_map ..
  have hb1 : (l.map eP).length ≤ 1125899906842624 := hb.1.1
  conv => whnf
  (repeat' first | ((first|refine sN ?_|refine Dr.cons ?_|(refine Dr.nil ?_;refine drawIf (by kernel_rfl) ?_)|refine vN rfl ?_|refine Vc.draw rfl (by kernel_rfl) ?_|refine mkSl (by omega) (by omega) ?_);conv=>whnf))
  refine Vc.loop1 (fun (i : Nat) => i ≤ l.length ∧ ∀ j, j < i → (fun p => within p 3 10000000) (l.getD j default) = true) (fun i => updL [0] [(3, I i)] []) (fun i => l.length - i) 0 ⟨by omega, fun j hj => absurd hj (Nat.not_lt_zero j)⟩ ?_ (fun i hi => ?_)
  · repeat' (first | exact True.intro | ((conv => whnf); first | exact True.intro | refine ⟨by rfl, ?_⟩ | refine ⟨?_, ?_⟩))
  · obtain ⟨hi, ho⟩ := hi
    have hlm : (l.map eP).length = l.length := List.length_map ..
    conv => whnf
    (repeat' first | ((first|refine sN ?_|refine Dr.cons ?_|(refine Dr.nil ?_;refine drawIf (by kernel_rfl) ?_)|refine vN rfl ?_|refine Vc.draw rfl (by kernel_rfl) ?_|refine mkSl (by omega) (by omega) ?_);conv=>whnf))
    refine ifB_d (fun g => ?_) (fun g => ?_)
    all_goals conv => whnf
    · repeat' first | ((first|refine sN ?_|refine Dr.cons ?_|(refine Dr.nil ?_;refine drawIf (by kernel_rfl) ?_)|refine vN rfl ?_|refine Vc.draw rfl (by kernel_rfl) ?_|refine mkSl (by omega) (by omega) ?_);conv=>whnf) | (refine ifB_i (fun _=>?_) (fun _=>?_)<;>conv=>whnf) | ((first | refine ixN (enc := eP) default (by omega) ?_ | refine ⟨_, spec_all _ 3 _ (by omega), ?_⟩ | refine w64 (by first | omega | (dsimp only; omega)) (by first | omega | (dsimp only; omega)) ?_);conv=>whnf)
      all_goals first
        | (refine ⟨i + 1, ⟨by omega, fun j hj => ?_⟩, by simp only; omega, ?_⟩
           · by_cases h' : j < i
             · exact ho j h'
             · obtain rfl : j = i := by omega
               clear ho
               simp_all
           · repeat' (first | exact True.intro | ((conv => whnf); first | exact True.intro | refine ⟨by rfl, ?_⟩ | refine ⟨?_, ?_⟩)))
        | (have hp : (fun p => within p 3 10000000) (l.getD i default) = false := by (clear ho; simp_all )
           have hn : l.all (fun p => within p 3 10000000) = false := all_not default (j := i) (by omega) hp
           exact rB (by simp_all [partsOk]))
    · have hall : l.all (fun p => within p 3 10000000) = true := all_get default fun j hj => ho j (by omega)
      repeat' first | ((first|refine sN ?_|refine Dr.cons ?_|(refine Dr.nil ?_;refine drawIf (by kernel_rfl) ?_)|refine vN rfl ?_|refine Vc.draw rfl (by kernel_rfl) ?_|refine mkSl (by omega) (by omega) ?_);conv=>whnf) | (refine ifB_i (fun _=>?_) (fun _=>?_)<;>conv=>whnf) | ((first | refine ⟨_, spec_all _ 3 _ (by omega), ?_⟩ | refine w64 (by first | omega | (dsimp only; omega)) (by first | omega | (dsimp only; omega)) ?_);conv=>whnf)
      exact rB (by simp_all [partsOk])
theorem spec_keepsT (t : Treaty) (parts : List (List Int)) (s : Int) (a : List Int) : Sem P 272 [(.pure, .agg (aT t)), (.pure, .one (sPs parts)), (.pure, I s), (.pure, AI a)] [] (B (trtKeeps t parts s a)) := by
  have la := ints_len t.Gives
  have lp : (parts.map eP).length = parts.length := List.length_map ..
  by_cases hok : (trtOk t && partsOk parts && inB s 0 (t.Gives.length - 1) && addedOk a) = true
  · have h := hok
    simp only [Bool.and_eq_true] at h
    obtain ⟨⟨⟨h1, h2⟩, h3⟩, h4⟩ := h
    obtain ⟨g1, g2, g3, g4, g5⟩ := gives_get h1 h3
    have hn : nums a 3 := ⟨(added_three h4).1, fun x hx => by have := (added_three h4).2 x hx; omega⟩
    have hp := List.all_eq_true.1 h2
    refine fn_okR (E := E0) E0_tab E0_ord (fn := Go.Proofs.Tryz.f272) (by kernel_rfl) (by kernel_rfl) (fun hb => ?_)
    have hb1 : (ints t.Gives).length ≤ 1125899906842624 := (hb.1 (sI t.Gives) (by simp)).1
    have hb2 : (parts.map eP).length ≤ 1125899906842624 := hb.2.1.1
    conv => whnf
    repeat' first | ((first|refine sN ?_|refine Dr.cons ?_|(refine Dr.nil ?_;refine drawIf (by kernel_rfl) ?_)|refine vN rfl ?_|refine Vc.draw rfl (by kernel_rfl) ?_|refine mkSl (by omega) (by omega) ?_);conv=>whnf) | (refine ifB_i (fun _=>?_) (fun _=>?_)<;>conv=>whnf) | ((first | refine ⟨_, spec_trtOk t, ?_⟩ | refine ⟨_, spec_partsOk parts, ?_⟩ | refine ⟨_, spec_in _ _ _, ?_⟩ | refine ⟨_, spec_all a 3 _ (by omega), ?_⟩ | refine w64 (by omega) (by omega) ?_);conv=>whnf)
    all_goals first
      | (exfalso; simp_all [addedOk]; done)
      | skip
    have hp' : ∀ i, i < parts.length → within (parts.getD i default) 3 10000000 = true := fun i hi => hp _ (gd_mem hi)
    have hkp : ∀ b, (parts.all fun p => inB (dot p a) (-(t.Gives.getD s.toNat 0)) (t.Gives.getD s.toNat 0)) = b → trtKeeps t parts s a = b := fun b hb => by unfold trtKeeps keepsP; rw [hok, Bool.true_and, hb]
    refine Vc.loop1 (fun (i : Nat) => i ≤ parts.length ∧ ∀ j, j < i → (fun p => inB (dot p a) (-(t.Gives.getD s.toNat 0)) (t.Gives.getD s.toNat 0)) (parts.getD j default) = true) (fun i => updL [1, 2, 3, 4] [(9, I i)] []) (fun i => parts.length - i) 0 ⟨by omega, fun j hj => absurd hj (Nat.not_lt_zero j)⟩ ?_ (fun i hi => ?_)
    · repeat' (first | exact True.intro | ((conv => whnf); first | exact True.intro | refine ⟨by rfl, ?_⟩ | refine ⟨?_, ?_⟩))
    · obtain ⟨hi, ho⟩ := hi
      have hlm : (parts.map eP).length = parts.length := List.length_map ..
      conv => whnf
      (repeat' first | ((first|refine sN ?_|refine Dr.cons ?_|(refine Dr.nil ?_;refine drawIf (by kernel_rfl) ?_)|refine vN rfl ?_|refine Vc.draw rfl (by kernel_rfl) ?_|refine mkSl (by omega) (by omega) ?_);conv=>whnf))
      refine ifB_d (fun g => ?_) (fun g => ?_)
      all_goals conv => whnf
      · repeat' first | ((first|refine sN ?_|refine Dr.cons ?_|(refine Dr.nil ?_;refine drawIf (by kernel_rfl) ?_)|refine vN rfl ?_|refine Vc.draw rfl (by kernel_rfl) ?_|refine mkSl (by omega) (by omega) ?_);conv=>whnf) | (refine ifB_i (fun _=>?_) (fun _=>?_)<;>conv=>whnf) | ((first | refine ixN (enc := eP) default (by omega) ?_ | refine ⟨_, spec_times (parts.getD i default) a (hp' i (by omega)) hn, ?_⟩ | refine ixI (enc := rI) 0 (by omega) (by omega) ?_ | refine ⟨_, spec_in _ _ _, ?_⟩ | refine w64 (by first | omega | (dsimp only; omega)) (by first | omega | (dsimp only; omega)) ?_);conv=>whnf)
        all_goals first
          | (refine ⟨i + 1, ⟨by omega, fun j hj => ?_⟩, by simp only; omega, ?_⟩
             · by_cases h' : j < i
               · exact ho j h'
               · obtain rfl : j = i := by omega
                 clear ho
                 simp_all
             · repeat' (first | exact True.intro | ((conv => whnf); first | exact True.intro | refine ⟨by rfl, ?_⟩ | refine ⟨?_, ?_⟩)))
          | (have hp : (fun p => inB (dot p a) (-(t.Gives.getD s.toNat 0)) (t.Gives.getD s.toNat 0)) (parts.getD i default) = false := by (clear ho; simp_all )
             have hn : parts.all (fun p => inB (dot p a) (-(t.Gives.getD s.toNat 0)) (t.Gives.getD s.toNat 0)) = false := all_not default (j := i) (by omega) hp
             exact rB (hkp _ hn).symm)
      · have hall : parts.all (fun p => inB (dot p a) (-(t.Gives.getD s.toNat 0)) (t.Gives.getD s.toNat 0)) = true := all_get default fun j hj => ho j (by omega)
        repeat' first | ((first|refine sN ?_|refine Dr.cons ?_|(refine Dr.nil ?_;refine drawIf (by kernel_rfl) ?_)|refine vN rfl ?_|refine Vc.draw rfl (by kernel_rfl) ?_|refine mkSl (by omega) (by omega) ?_);conv=>whnf) | (refine ifB_i (fun _=>?_) (fun _=>?_)<;>conv=>whnf) | ((first | refine ⟨_, spec_times (parts.getD i default) a (hp' i (by omega)) hn, ?_⟩ | refine ixI (enc := rI) 0 (by omega) (by omega) ?_ | refine ⟨_, spec_in _ _ _, ?_⟩ | refine w64 (by first | omega | (dsimp only; omega)) (by first | omega | (dsimp only; omega)) ?_);conv=>whnf)
        exact rB (hkp _ hall).symm
  · refine fn_okR (E := E0) E0_tab E0_ord (fn := Go.Proofs.Tryz.f272) (by kernel_rfl) (by kernel_rfl) (fun hb => ?_)
    have hb1 : (ints t.Gives).length ≤ 1125899906842624 := (hb.1 (sI t.Gives) (by simp)).1
    conv => whnf
    repeat' first | ((first|refine sN ?_|refine Dr.cons ?_|(refine Dr.nil ?_;refine drawIf (by kernel_rfl) ?_)|refine vN rfl ?_|refine Vc.draw rfl (by kernel_rfl) ?_|refine mkSl (by omega) (by omega) ?_);conv=>whnf) | (refine ifB_i (fun _=>?_) (fun _=>?_)<;>conv=>whnf) | ((first | refine ⟨_, spec_trtOk t, ?_⟩ | refine ⟨_, spec_partsOk parts, ?_⟩ | refine ⟨_, spec_in _ _ _, ?_⟩ | refine ⟨_, spec_all a 3 _ (by omega), ?_⟩ | refine w64 (by omega) (by omega) ?_);conv=>whnf)
    all_goals first
      | exact rB (by unfold trtKeeps; simp_all)
      | (exfalso; simp_all [addedOk]; done)
theorem spec_still (p q r : Bool) (x y z : Int) : Sem P 273 [(.pure, .one (sBs [p, q, r])), (.pure, AI [x, y, z])] [] (B (unpinned [p, q, r] [x, y, z])) := by
  refine fn_okR (E := E0) E0_tab E0_ord (fn := Go.Proofs.Tryz.f273) (by kernel_rfl) (by kernel_rfl) (fun hb => ?_)
  conv => whnf
  (repeat' first | ((first|refine sN ?_|refine Dr.cons ?_|(refine Dr.nil ?_;refine drawIf (by kernel_rfl) ?_)|refine vN rfl ?_|refine Vc.draw rfl (by kernel_rfl) ?_|refine mkSl (by omega) (by omega) ?_);conv=>whnf))
  refine Vc.loop1 (fun (v : Nat) => v ≤ 3 ∧ (0 < v → (!p || decide (x = 0)) = true) ∧ (1 < v → (!q || decide (y = 0)) = true) ∧ (2 < v → (!r || decide (z = 0)) = true)) (fun v => updL [0, 1] [(5, I v)] []) (fun v => 3 - v) 0 (by simp) ?_ (fun v hv => ?_)
  · repeat' (first|exact True.intro|((conv=>whnf);first|exact True.intro|refine ⟨by rfl, ?_⟩|refine ⟨by first|omega|(show (_ : Int) = _;first|omega|(dsimp only;omega)), ?_⟩ | refine ⟨?_, ?_⟩))
  · match v, hv with
    | 0, hv =>
      conv => whnf
      repeat' first | ((first|refine sN ?_|refine Dr.cons ?_|(refine Dr.nil ?_;refine drawIf (by kernel_rfl) ?_)|refine vN rfl ?_|refine Vc.draw rfl (by kernel_rfl) ?_|refine mkSl (by omega) (by omega) ?_);conv=>whnf) | (refine ifB_i (fun _=>?_) (fun _=>?_)<;>conv=>whnf) | ((first | refine ixK rfl ?_ | refine w64 (by omega) (by omega) ?_);conv=>whnf)
      all_goals first
        | exact rB (by simp_all [unpinned])
        | (refine ⟨1, by simp_all, by simp only; omega, ?_⟩; repeat' (first|exact True.intro|((conv=>whnf);first|exact True.intro|refine ⟨by rfl, ?_⟩|refine ⟨by first|omega|(show (_ : Int) = _;first|omega|(dsimp only;omega)), ?_⟩ | refine ⟨?_, ?_⟩)))
    | 1, hv =>
      conv => whnf
      repeat' first | ((first|refine sN ?_|refine Dr.cons ?_|(refine Dr.nil ?_;refine drawIf (by kernel_rfl) ?_)|refine vN rfl ?_|refine Vc.draw rfl (by kernel_rfl) ?_|refine mkSl (by omega) (by omega) ?_);conv=>whnf) | (refine ifB_i (fun _=>?_) (fun _=>?_)<;>conv=>whnf) | ((first | refine ixK rfl ?_ | refine w64 (by omega) (by omega) ?_);conv=>whnf)
      all_goals first
        | exact rB (by simp_all [unpinned])
        | (refine ⟨2, by simp_all, by simp only; omega, ?_⟩; repeat' (first|exact True.intro|((conv=>whnf);first|exact True.intro|refine ⟨by rfl, ?_⟩|refine ⟨by first|omega|(show (_ : Int) = _;first|omega|(dsimp only;omega)), ?_⟩ | refine ⟨?_, ?_⟩)))
    | 2, hv =>
      conv => whnf
      repeat' first | ((first|refine sN ?_|refine Dr.cons ?_|(refine Dr.nil ?_;refine drawIf (by kernel_rfl) ?_)|refine vN rfl ?_|refine Vc.draw rfl (by kernel_rfl) ?_|refine mkSl (by omega) (by omega) ?_);conv=>whnf) | (refine ifB_i (fun _=>?_) (fun _=>?_)<;>conv=>whnf) | ((first | refine ixK rfl ?_ | refine w64 (by omega) (by omega) ?_);conv=>whnf)
      all_goals first
        | exact rB (by simp_all [unpinned])
        | (refine ⟨3, by simp_all, by simp only; omega, ?_⟩; repeat' (first|exact True.intro|((conv=>whnf);first|exact True.intro|refine ⟨by rfl, ?_⟩|refine ⟨by first|omega|(show (_ : Int) = _;first|omega|(dsimp only;omega)), ?_⟩ | refine ⟨?_, ?_⟩)))
    | 3, hv =>
      conv => whnf
      (repeat' first | ((first|refine sN ?_|refine Dr.cons ?_|(refine Dr.nil ?_;refine drawIf (by kernel_rfl) ?_)|refine vN rfl ?_|refine Vc.draw rfl (by kernel_rfl) ?_|refine mkSl (by omega) (by omega) ?_);conv=>whnf))
      exact rB (by simp_all [unpinned])
end Cc
end
section
namespace Cc
open Go Go.AM
set_option maxRecDepth 100000
set_option maxHeartbeats 8000000
theorem done_eq (d : Done) : d.ok = (inB d.Seq 0 300 && ((d.Seq == 0) == (d.Res.Code == 0)) && (!(d.Seq == 0) || !decide (0 < d.Res.Tells.length)) && (!(decide (0 < d.Seq)) || resOk d.Res)) := by
  have hr : resOk d.Res = true → d.Res.Code ≠ 0 := fun h => by have := (resOk_iff.1 h).1; omega
  by_cases h : d.Seq = 0
  · have e : d.Res.Tells.isEmpty = !decide (0 < d.Res.Tells.length) := by cases d.Res.Tells <;> simp
    rw [← e]
    simp [Done.ok, h, Rslt.none, inB]
    rfl
  · have hd : d.ok = (inB d.Seq 1 300 && resOk d.Res) := by unfold Done.ok; rw [if_neg h]
    have hb : (d.Seq == 0) = false := by simpa using h
    rw [hd, hb]
    by_cases h2 : 0 < d.Seq
    · have e : inB d.Seq 1 300 = inB d.Seq 0 300 := Bool.eq_iff_iff.2 (by rw [inB_iff, inB_iff]; omega)
      rw [e, decide_eq_true h2]
      cases hres : resOk d.Res with
      | false => simp
      | true => have := hr hres; simp [this]
    · have e1 : inB d.Seq 1 300 = false := by cases e : inB d.Seq 1 300 with | false => rfl | true => have := inB_iff.1 e; omega
      have e2 : inB d.Seq 0 300 = false := by cases e : inB d.Seq 0 300 with | false => rfl | true => have := inB_iff.1 e; omega
      rw [e1, e2]; simp
theorem spec_doneOk (p : Plan) (l : List Done) : Sem P 256 [(.pure, .agg (aPl p)), (.pure, .one (sDs l))] [] (B (doneOk p l)) := by
  refine fn_okR (E := E0) E0_tab E0_ord (fn := Go.Proofs.Tryz.f256) (by kernel_rfl) (by kernel_rfl) (fun hb => ?_)
  have la : (l.map eD).length = l.length := List.length_map ..
  have hb1 : (l.map eD).length ≤ 1125899906842624 := (hb.2.1).1
  conv => whnf
  repeat' first | ((first|refine sN ?_|refine Dr.cons ?_|(refine Dr.nil ?_;refine drawIf (by kernel_rfl) ?_)|refine vN rfl ?_|refine Vc.draw rfl (by kernel_rfl) ?_|refine mkSl (by omega) (by omega) ?_);conv=>whnf) | (refine ifB_i (fun _=>?_) (fun _=>?_)<;>conv=>whnf)
  · exact rB (by simp_all [doneOk])
  · rename_i h
    have hl : (l.length : Int) = p.Clients := by simp at h; omega
    refine Vc.loop1 (fun (i : Nat) => i ≤ l.length ∧ ∀ j, j < i → Done.ok (l.getD j default) = true) (fun i => updL [1] [(5, I i)] []) (fun i => l.length - i) 0 ⟨by omega, fun j hj => absurd hj (Nat.not_lt_zero j)⟩ ?_ (fun i hi => ?_)
    · repeat' (first | exact True.intro | ((conv => whnf); first | exact True.intro | refine ⟨by rfl, ?_⟩ | refine ⟨?_, ?_⟩))
    · obtain ⟨hi, ho⟩ := hi
      have hlm : (l.map eD).length = l.length := List.length_map ..
      conv => whnf
      (repeat' first | ((first|refine sN ?_|refine Dr.cons ?_|(refine Dr.nil ?_;refine drawIf (by kernel_rfl) ?_)|refine vN rfl ?_|refine Vc.draw rfl (by kernel_rfl) ?_|refine mkSl (by omega) (by omega) ?_);conv=>whnf))
      refine ifB_d (fun g => ?_) (fun g => ?_)
      all_goals conv => whnf
      · repeat' first | ((first|refine sN ?_|refine Dr.cons ?_|(refine Dr.nil ?_;refine drawIf (by kernel_rfl) ?_)|refine vN rfl ?_|refine Vc.draw rfl (by kernel_rfl) ?_|refine mkSl (by omega) (by omega) ?_);conv=>whnf) | (refine ifB_i (fun _=>?_) (fun _=>?_)<;>conv=>whnf) | ((first | refine ixN (enc := eD) default (by omega) ?_ | refine ⟨_, spec_in _ _ _, ?_⟩ | refine ⟨_, spec_resOk (l.getD i default).Res, ?_⟩ | refine w64 (by first | omega | (dsimp only; omega)) (by first | omega | (dsimp only; omega)) ?_);conv=>whnf)
        all_goals first
          | (refine ⟨i + 1, ⟨by omega, fun j hj => ?_⟩, by simp only; omega, ?_⟩
             · by_cases h' : j < i
               · exact ho j h'
               · obtain rfl : j = i := by omega
                 clear ho
                 simp_all [done_eq]
             · repeat' (first | exact True.intro | ((conv => whnf); first | exact True.intro | refine ⟨by rfl, ?_⟩ | refine ⟨?_, ?_⟩)))
          | (have hp : Done.ok (l.getD i default) = false := by (clear ho; simp_all [done_eq])
             have hn : l.all Done.ok = false := all_not default (j := i) (by omega) hp
             exact rB (by simp only [doneOk, hn, Bool.and_false]))
      · have hall : l.all Done.ok = true := all_get default fun j hj => ho j (by omega)
        repeat' first | ((first|refine sN ?_|refine Dr.cons ?_|(refine Dr.nil ?_;refine drawIf (by kernel_rfl) ?_)|refine vN rfl ?_|refine Vc.draw rfl (by kernel_rfl) ?_|refine mkSl (by omega) (by omega) ?_);conv=>whnf) | (refine ifB_i (fun _=>?_) (fun _=>?_)<;>conv=>whnf) | ((first | refine ⟨_, spec_in _ _ _, ?_⟩ | refine ⟨_, spec_resOk (l.getD i default).Res, ?_⟩ | refine w64 (by first | omega | (dsimp only; omega)) (by first | omega | (dsimp only; omega)) ?_);conv=>whnf)
        exact rB (by simp only [doneOk, hall, hl, decide_true, Bool.and_true])
theorem spec_seqs (p : Plan) (l : List Int) : Sem P 263 [(.pure, .agg (aPl p)), (.pure, AI l)] [] (B (seqsOk p l)) := by
  refine fn_okR (E := E0) E0_tab E0_ord (fn := Go.Proofs.Tryz.f263) (by kernel_rfl) (by kernel_rfl) (fun hb => ?_)
  have la := ints_len l
  have hb1 : (ints l).length ≤ 1125899906842624 := (hb.2.1).1
  conv => whnf
  repeat' first | ((first|refine sN ?_|refine Dr.cons ?_|(refine Dr.nil ?_;refine drawIf (by kernel_rfl) ?_)|refine vN rfl ?_|refine Vc.draw rfl (by kernel_rfl) ?_|refine mkSl (by omega) (by omega) ?_);conv=>whnf) | (refine ifB_i (fun _=>?_) (fun _=>?_)<;>conv=>whnf)
  · exact rB (by simp_all [seqsOk])
  · rename_i h
    have hl : (l.length : Int) = p.Clients := by simp at h; omega
    refine Vc.loop1 (fun (i : Nat) => i ≤ l.length ∧ ∀ j, j < i → (fun n => inB n 0 300) (l.getD j default) = true) (fun i => updL [1] [(5, I i)] []) (fun i => l.length - i) 0 ⟨by omega, fun j hj => absurd hj (Nat.not_lt_zero j)⟩ ?_ (fun i hi => ?_)
    · repeat' (first | exact True.intro | ((conv => whnf); first | exact True.intro | refine ⟨by rfl, ?_⟩ | refine ⟨?_, ?_⟩))
    · obtain ⟨hi, ho⟩ := hi
      have hlm : (l.map rI).length = l.length := List.length_map ..
      conv => whnf
      (repeat' first | ((first|refine sN ?_|refine Dr.cons ?_|(refine Dr.nil ?_;refine drawIf (by kernel_rfl) ?_)|refine vN rfl ?_|refine Vc.draw rfl (by kernel_rfl) ?_|refine mkSl (by omega) (by omega) ?_);conv=>whnf))
      refine ifB_d (fun g => ?_) (fun g => ?_)
      all_goals conv => whnf
      · repeat' first | ((first|refine sN ?_|refine Dr.cons ?_|(refine Dr.nil ?_;refine drawIf (by kernel_rfl) ?_)|refine vN rfl ?_|refine Vc.draw rfl (by kernel_rfl) ?_|refine mkSl (by omega) (by omega) ?_);conv=>whnf) | (refine ifB_i (fun _=>?_) (fun _=>?_)<;>conv=>whnf) | ((first | refine ixN (enc := rI) default (by omega) ?_ | refine ⟨_, spec_in _ _ _, ?_⟩ | refine w64 (by first | omega | (dsimp only; omega)) (by first | omega | (dsimp only; omega)) ?_);conv=>whnf)
        all_goals first
          | (refine ⟨i + 1, ⟨by omega, fun j hj => ?_⟩, by simp only; omega, ?_⟩
             · by_cases h' : j < i
               · exact ho j h'
               · obtain rfl : j = i := by omega
                 clear ho
                 simp_all
             · repeat' (first | exact True.intro | ((conv => whnf); first | exact True.intro | refine ⟨by rfl, ?_⟩ | refine ⟨?_, ?_⟩)))
          | (have hp : (fun n => inB n 0 300) (l.getD i default) = false := by (clear ho; simp_all )
             have hn : l.all (fun n => inB n 0 300) = false := all_not default (j := i) (by omega) hp
             exact rB (by simp only [seqsOk, hn, Bool.and_false]))
      · have hall : l.all (fun n => inB n 0 300) = true := all_get default fun j hj => ho j (by omega)
        repeat' first | ((first|refine sN ?_|refine Dr.cons ?_|(refine Dr.nil ?_;refine drawIf (by kernel_rfl) ?_)|refine vN rfl ?_|refine Vc.draw rfl (by kernel_rfl) ?_|refine mkSl (by omega) (by omega) ?_);conv=>whnf) | (refine ifB_i (fun _=>?_) (fun _=>?_)<;>conv=>whnf) | ((first | refine ⟨_, spec_in _ _ _, ?_⟩ | refine w64 (by first | omega | (dsimp only; omega)) (by first | omega | (dsimp only; omega)) ?_);conv=>whnf)
        exact rB (by simp only [seqsOk, hall, hl, decide_true, Bool.and_true])
theorem spec_bare (x : Msg) (a b c d : Bool) : Sem P 262 [(.pure, .agg (aM x)), (.pure, B a), (.pure, B b), (.pure, B c), (.pure, B d)] [] (B ((a || x.Call.none) && (b || x.Vals.isEmpty) && (c || x.Seqs.isEmpty) && (d || x.Done.isEmpty))) := by
  refine fn_okR (E := E0) E0_tab E0_ord (fn := Go.Proofs.Tryz.f262) (by kernel_rfl) (by kernel_rfl) (fun hb => ?_)
  conv => whnf
  repeat' first | ((first|refine sN ?_|refine Dr.cons ?_|(refine Dr.nil ?_;refine drawIf (by kernel_rfl) ?_)|refine vN rfl ?_|refine Vc.draw rfl (by kernel_rfl) ?_|refine mkSl (by omega) (by omega) ?_);conv=>whnf) | (refine ifB_i (fun _=>?_) (fun _=>?_)<;>conv=>whnf)
  all_goals exact rB (by simp_all [Call.none, ints_z])
theorem spec_msgOk (p : Plan) (x : Msg) (hc : inB p.Clients 0 4 = true) : Sem P 148 [(.pure, .agg (aPl p)), (.pure, .agg (aM x))] [] (B (msgB p x)) := by
  obtain ⟨k, to, from_, round, call, vals, seqs, done⟩ := x
  have lg := ints_len p.Gives
  have hk : k = 1 ∨ k = 2 ∨ k = 3 ∨ k = 4 ∨ (k ≠ 1 ∧ k ≠ 2 ∧ k ≠ 3 ∧ k ≠ 4) := by omega
  rcases hk with rfl | rfl | rfl | rfl | hk
  all_goals refine fn_okR (E := E0) E0_tab E0_ord (fn := Go.Proofs.Tryz.f148) (by kernel_rfl) (by kernel_rfl) (fun hb => ?_)
  all_goals have hb1 : (ints p.Gives).length ≤ 1125899906842624 := (hb.1 (sI p.Gives) (by simp)).1
  all_goals conv => whnf
  all_goals repeat' first | ((first|refine sN ?_|refine Dr.cons ?_|(refine Dr.nil ?_;refine drawIf (by kernel_rfl) ?_)|refine vN rfl ?_|refine Vc.draw rfl (by kernel_rfl) ?_|refine mkSl (by omega) (by omega) ?_);conv=>whnf) | (refine ifB_i (fun _=>?_) (fun _=>?_)<;>conv=>whnf) | ((first | refine ⟨_, spec_in _ _ _, ?_⟩ | refine ⟨_, spec_call p call hc, ?_⟩ | refine ⟨_, spec_bare _ _ _ _ _, ?_⟩ | refine ⟨_, spec_all vals 3 _ (by omega), ?_⟩ | refine ⟨_, spec_valOk _, ?_⟩ | refine ⟨_, spec_seqs p seqs, ?_⟩ | refine ⟨_, spec_doneOk p done, ?_⟩ | refine w64 (by omega) (by omega) ?_);conv=>whnf)
  all_goals first
    | (refine rB ?_; simp_all [msgB, isSite, addedOk]; done)
    | (refine rB ?_; simp_all [msgB, isSite, addedOk, inB]; done)
    | (exfalso; simp_all; done)
theorem spec_client (p : Plan) (x : Client) (n : Int) (hc : inB p.Clients 0 4 = true) : Sem P 274 [(.pure, .agg (aPl p)), (.pure, .agg (aX x)), (.pure, I n)] [] (B (clientB p n x)) := by
  by_cases h : inB x.Seq 0 300 = true
  · have hs := inB_iff.1 h
    have ce : clientB p n x = ((inB x.Seq 0 300 && ((x.Seq == 0) == (x.Res.Code == 0)) && (!(x.Seq == 0) || !decide (0 < x.Res.Tells.length)) && (!(decide (0 < x.Seq)) || resOk x.Res)) && if x.Busy then callB p x.Call && (x.Call.Client == n) && (x.Call.Seq == x.Seq + 1) else ((x.Call.Client == 0) && (x.Call.Seq == 0) && (x.Call.Act == 0) && x.Call.Args.isEmpty)) := by
      unfold clientB; rw [done_eq]; rfl
    refine fn_okR (E := E0) E0_tab E0_ord (fn := Go.Proofs.Tryz.f274) (by kernel_rfl) (by kernel_rfl) (fun hb => ?_)
    conv => whnf
    repeat' first | ((first|refine sN ?_|refine Dr.cons ?_|(refine Dr.nil ?_;refine drawIf (by kernel_rfl) ?_)|refine vN rfl ?_|refine Vc.draw rfl (by kernel_rfl) ?_|refine mkSl (by omega) (by omega) ?_);conv=>whnf) | (refine ifB_i (fun _=>?_) (fun _=>?_)<;>conv=>whnf) | ((first | refine ⟨_, spec_in _ _ _, ?_⟩ | refine ⟨_, spec_resOk x.Res, ?_⟩ | refine ⟨_, spec_call p x.Call hc, ?_⟩ | refine w64 (by omega) (by omega) ?_);conv=>whnf)
    all_goals refine rB ?_
    all_goals rw [ce]
    all_goals clear ce hb
    all_goals first
      | (simp_all [ints_z]; done)
      | (simp only [gt_iff_lt] at *
         generalize (x.Res.Code == 0) = bc at *
         generalize (x.Seq == 0) = bs at *
         cases bs <;> cases bc <;> first | (exfalso; simp_all; done) | (simp_all [ints_z]; done))
      | trace_state
  · have hf : inB x.Seq 0 300 = false := by simpa using h
    have ce0 : clientB p n x = false := by unfold clientB; rw [done_eq]; simp only; rw [hf]; rfl
    refine fn_okR (E := E0) E0_tab E0_ord (fn := Go.Proofs.Tryz.f274) (by kernel_rfl) (by kernel_rfl) (fun hb => ?_)
    conv => whnf
    repeat' first | ((first|refine sN ?_|refine Dr.cons ?_|(refine Dr.nil ?_;refine drawIf (by kernel_rfl) ?_)|refine vN rfl ?_|refine Vc.draw rfl (by kernel_rfl) ?_|refine mkSl (by omega) (by omega) ?_);conv=>whnf) | (refine ifB_i (fun _=>?_) (fun _=>?_)<;>conv=>whnf) | (refine ⟨_, spec_in _ _ _, ?_⟩;conv=>whnf)
    all_goals first
      | exact rB ce0.symm
      | (exfalso; simp_all; done)
end Cc
end
section
namespace Cc
open Go Go.AM
set_option maxRecDepth 100000
set_option maxHeartbeats 8000000
theorem pins_len (acts : List (List Line)) : (pinsOf acts).length = 3 := rfl
theorem keeps_len {t : Treaty} {parts : List (List Int)} {s : Int} {a : List Int} (h : trtKeeps t parts s a = true) : a.length = 3 := by
  unfold trtKeeps at h
  simp only [Bool.and_eq_true] at h
  exact (added_three h.1.2).1
theorem spec_stillT (b : List Bool) (l : List Int) (hb : b.length = 3) (hl : l.length = 3) : Sem P 273 [(.pure, .one (sBs b)), (.pure, AI l)] [] (B (unpinned b l)) := by
  obtain ⟨p, q, r, rfl⟩ := len3 hb
  obtain ⟨x, y, z, rfl⟩ := len3 hl
  exact spec_still p q r x y z
theorem spec_treaty (p : Plan) (s : Site) : Sem P 161 [(.pure, .agg (aPl p)), (.pure, .agg (aS s))] [] (.agg [fI s.Base, fI p.Gives]) := by
  refine fn_okR (E := E0) E0_tab E0_ord (fn := Go.Proofs.Tryz.f161) (by kernel_rfl) (by kernel_rfl) (fun hb => ?_)
  conv => whnf
  repeat' first | ((first|refine sN ?_|refine Dr.cons ?_|(refine Dr.nil ?_;refine drawIf (by kernel_rfl) ?_)|refine vN rfl ?_|refine Vc.draw rfl (by kernel_rfl) ?_|refine mkSl (by omega) (by omega) ?_);conv=>whnf) | (refine ifB_i (fun _=>?_) (fun _=>?_)<;>conv=>whnf)
  exact ⟨rfl, rfl⟩
theorem spec_siteOk (p : Plan) (s : Site) (n : Int) : Sem P 163 [(.pure, .agg (aPl p)), (.pure, .one (sPs (partsOf p.Acts))), (.pure, .one (sBs (pinsOf p.Acts))), (.pure, .agg (aS s)), (.pure, I n)] [] (B (siteB p s n)) := by
  have hk : keeps p.Acts (p.treaty s.Base) n s.Added = (trtKeeps ⟨s.Base, p.Gives⟩ (partsOf p.Acts) n s.Added && unpinned (pinsOf p.Acts) s.Added) := rfl
  have hkT := spec_keepsT ⟨s.Base, p.Gives⟩ (partsOf p.Acts) n s.Added
  cases hkb : trtKeeps ⟨s.Base, p.Gives⟩ (partsOf p.Acts) n s.Added with
  | false =>
    rw [hkb] at hkT hk
    refine fn_okR (E := E0) E0_tab E0_ord (fn := Go.Proofs.Tryz.f163) (by kernel_rfl) (by kernel_rfl) (fun hb => ?_)
    conv => whnf
    repeat' first | ((first|refine sN ?_|refine Dr.cons ?_|(refine Dr.nil ?_;refine drawIf (by kernel_rfl) ?_)|refine vN rfl ?_|refine Vc.draw rfl (by kernel_rfl) ?_|refine mkSl (by omega) (by omega) ?_);conv=>whnf) | (refine ifB_i (fun _=>?_) (fun _=>?_)<;>conv=>whnf) | ((first | refine ⟨_, spec_in _ _ _, ?_⟩ | refine ⟨_, spec_valOk _, ?_⟩ | refine ⟨_, spec_treaty p s, ?_⟩ | refine ⟨_, hkT, ?_⟩);conv=>whnf)
    all_goals (refine rB ?_; unfold siteB; rw [hk]; clear hk hb hkT; simp_all)
  | true =>
    have hl := keeps_len hkb
    rw [hkb] at hkT hk
    refine fn_okR (E := E0) E0_tab E0_ord (fn := Go.Proofs.Tryz.f163) (by kernel_rfl) (by kernel_rfl) (fun hb => ?_)
    conv => whnf
    repeat' first | ((first|refine sN ?_|refine Dr.cons ?_|(refine Dr.nil ?_;refine drawIf (by kernel_rfl) ?_)|refine vN rfl ?_|refine Vc.draw rfl (by kernel_rfl) ?_|refine mkSl (by omega) (by omega) ?_);conv=>whnf) | (refine ifB_i (fun _=>?_) (fun _=>?_)<;>conv=>whnf) | ((first | refine ⟨_, spec_in _ _ _, ?_⟩ | refine ⟨_, spec_valOk _, ?_⟩ | refine ⟨_, spec_treaty p s, ?_⟩ | refine ⟨_, hkT, ?_⟩ | refine ⟨_, spec_stillT (pinsOf p.Acts) s.Added (pins_len _) hl, ?_⟩ | refine ⟨_, spec_doneOk p s.Done, ?_⟩);conv=>whnf)
    all_goals (refine rB ?_; unfold siteB; rw [hk]; clear hk hb hkT; simp_all)
theorem spec_has9 (c : Clerk) : Sem P 142 [(.pure, .agg (aK c))] [] (I (c.Got.countP Got.Has)) := by
  have lg : (c.Got.map eG).length = c.Got.length := List.length_map ..
  refine fn_okR (E := E0) E0_tab E0_ord (fn := Go.Proofs.Tryz.f142) (by kernel_rfl) (by kernel_rfl) (fun hb => ?_)
  have hb1 : (c.Got.map eG).length ≤ 1125899906842624 := (hb.1 (sGs c.Got) (by simp)).1
  conv => whnf
  (repeat' first | ((first|refine sN ?_|refine Dr.cons ?_|(refine Dr.nil ?_;refine drawIf (by kernel_rfl) ?_)|refine vN rfl ?_|refine Vc.draw rfl (by kernel_rfl) ?_|refine mkSl (by omega) (by omega) ?_);conv=>whnf))
  refine Vc.loop2 (fun (i n : Nat) => i ≤ c.Got.length ∧ n = (c.Got.take i).countP Got.Has) (fun i n => updL [1, 2, 20] [(4, I i), (3, I n)] []) (fun i _ => c.Got.length - i) 0 0 ⟨Nat.zero_le _, rfl⟩ ?_ (fun i n hi => ?_)
  · repeat' (first|exact True.intro|((conv=>whnf);first|exact True.intro|refine ⟨by rfl, ?_⟩|refine ⟨by first|omega|(show (_ : Int) = _;first|omega|(dsimp only;omega)), ?_⟩ | refine ⟨?_, ?_⟩))
  · obtain ⟨hi, hn⟩ := hi
    have hcl := List.countP_le_length (p := Got.Has) (l := c.Got.take i)
    rw [List.length_take] at hcl
    conv => whnf
    (repeat' first | ((first|refine sN ?_|refine Dr.cons ?_|(refine Dr.nil ?_;refine drawIf (by kernel_rfl) ?_)|refine vN rfl ?_|refine Vc.draw rfl (by kernel_rfl) ?_|refine mkSl (by omega) (by omega) ?_);conv=>whnf))
    refine ifB_d (fun g => ?_) (fun g => ?_)
    all_goals conv => whnf
    · have es := take_succ_getD (l := c.Got) (i := i) (by omega)
      repeat' first | ((first|refine sN ?_|refine Dr.cons ?_|(refine Dr.nil ?_;refine drawIf (by kernel_rfl) ?_)|refine vN rfl ?_|refine Vc.draw rfl (by kernel_rfl) ?_|refine mkSl (by omega) (by omega) ?_);conv=>whnf) | (refine ifB_i (fun _=>?_) (fun _=>?_)<;>conv=>whnf) | ((first | refine ixN (enc := eG) default (by omega) ?_ | refine w64 (by omega) (by omega) ?_);conv=>whnf)
      · rename_i h
        refine ⟨i + 1, n + 1, ⟨by omega, by rw [es, List.countP_append, ← hn, List.countP_cons_of_pos h]; rfl⟩, by simp only; omega, ?_⟩
        repeat' (first|exact True.intro|((conv=>whnf);first|exact True.intro|refine ⟨by rfl, ?_⟩|refine ⟨by first|omega|(show (_ : Int) = _;first|omega|(dsimp only;omega)), ?_⟩ | refine ⟨?_, ?_⟩))
      · rename_i h
        refine ⟨i + 1, n, ⟨by omega, by rw [es, List.countP_append, ← hn, List.countP_cons_of_neg (by rw [h]; decide)]; rfl⟩, by simp only; omega, ?_⟩
        repeat' (first|exact True.intro|((conv=>whnf);first|exact True.intro|refine ⟨by rfl, ?_⟩|refine ⟨by first|omega|(show (_ : Int) = _;first|omega|(dsimp only;omega)), ?_⟩ | refine ⟨?_, ?_⟩))
    · (repeat' first | ((first|refine sN ?_|refine Dr.cons ?_|(refine Dr.nil ?_;refine drawIf (by kernel_rfl) ?_)|refine vN rfl ?_|refine Vc.draw rfl (by kernel_rfl) ?_|refine mkSl (by omega) (by omega) ?_);conv=>whnf))
      exact rI' (by rw [List.take_of_length_le (by omega)] at hn; omega)
theorem spec_got9 (p : Plan) (c : Clerk) : Sem P 257 [(.pure, .agg (aPl p)), (.pure, .one (sPs (partsOf p.Acts))), (.pure, .one (sBs (pinsOf p.Acts))), (.pure, .agg (aK c))] [] (B (decide (c.Got.length = p.Gives.length) && allI (gotB p c.Base) 0 c.Got)) := by
  have lg : (c.Got.map eG).length = c.Got.length := List.length_map ..
  have lp := ints_len p.Gives
  have al := @allI_get Got _ (gotB p c.Base) c.Got
  refine fn_okR (E := E0) E0_tab E0_ord (fn := Go.Proofs.Tryz.f257) (by kernel_rfl) (by kernel_rfl) (fun hb => ?_)
  have hb1 : (c.Got.map eG).length ≤ 1125899906842624 := (hb.2.2.2.1 (sGs c.Got) (by simp)).1
  have hb2 := (hb.2.2.2.1 (sGs c.Got) (by simp)).2
  conv => whnf
  repeat' first | ((first|refine sN ?_|refine Dr.cons ?_|(refine Dr.nil ?_;refine drawIf (by kernel_rfl) ?_)|refine vN rfl ?_|refine Vc.draw rfl (by kernel_rfl) ?_|refine mkSl (by omega) (by omega) ?_);conv=>whnf) | (refine ifB_i (fun _=>?_) (fun _=>?_)<;>conv=>whnf)
  · rename_i hne
    have hne := ne_of_bne hne
    refine rB ?_
    rw [decide_eq_false (fun e => hne (by rw [lg, lp, e]))]; rfl
  · rename_i hne
    have hlen : c.Got.length = p.Gives.length := by clear al; simp at hne; omega
    refine Vc.loop1 (fun (i : Nat) => i ≤ c.Got.length ∧ ∀ j, j < i → gotB p c.Base j (c.Got.getD j default) = true) (fun i => updL [1, 2, 4, 7, 9] [(10, I i)] []) (fun i => c.Got.length - i) 0 ⟨Nat.zero_le _, fun j hj => absurd hj (Nat.not_lt_zero j)⟩ ?_ (fun i hi => ?_)
    · repeat' (first|exact True.intro|((conv=>whnf);first|exact True.intro|refine ⟨by rfl, ?_⟩|refine ⟨by first|omega|(show (_ : Int) = _;first|omega|(dsimp only;omega)), ?_⟩ | refine ⟨?_, ?_⟩))
    · obtain ⟨hi, hall⟩ := hi
      conv => whnf
      (repeat' first | ((first|refine sN ?_|refine Dr.cons ?_|(refine Dr.nil ?_;refine drawIf (by kernel_rfl) ?_)|refine vN rfl ?_|refine Vc.draw rfl (by kernel_rfl) ?_|refine mkSl (by omega) (by omega) ?_);conv=>whnf))
      refine ifB_d (fun g => ?_) (fun g => ?_)
      all_goals conv => whnf
      · have hil : i < c.Got.length := by omega
        have no : gotB p c.Base i (c.Got.getD i default) = false → (decide (c.Got.length = p.Gives.length) && allI (gotB p c.Base) 0 c.Got) = false := fun h => by
          cases e : allI (gotB p c.Base) 0 c.Got with
          | false => exact Bool.and_false _
          | true => have := al.1 e i hil; rw [h] at this; cases this
        have hk : gotB p c.Base i (c.Got.getD i default) = ((c.Got.getD i default).none || ((c.Got.getD i default).Has && (trtKeeps ⟨c.Base, p.Gives⟩ (partsOf p.Acts) i (c.Got.getD i default).Added && unpinned (pinsOf p.Acts) (c.Got.getD i default).Added) && seqsOk p (c.Got.getD i default).Seqs)) := rfl
        have la := ints_len (c.Got.getD i default).Added
        have ls := ints_len (c.Got.getD i default).Seqs
        have hr := hb2 (eG (c.Got.getD i default)) (List.mem_map_of_mem (gd_mem hil))
        have h1a : (ints (c.Got.getD i default).Added).length ≤ 1125899906842624 := (hr (fI (c.Got.getD i default).Added) (by simp)).1
        have h1s : (ints (c.Got.getD i default).Seqs).length ≤ 1125899906842624 := (hr (fI (c.Got.getD i default).Seqs) (by simp)).1
        have en : (c.Got.getD i default).none = (!(c.Got.getD i default).Has && !decide (((ints (c.Got.getD i default).Added).length : Int) + (ints (c.Got.getD i default).Seqs).length > 0)) := by
          rw [la, ls]; unfold Got.none
          cases (c.Got.getD i default).Added <;> cases (c.Got.getD i default).Seqs <;> cases (c.Got.getD i default).Has <;> simp <;> omega
        have hkT := spec_keepsT ⟨c.Base, p.Gives⟩ (partsOf p.Acts) i (c.Got.getD i default).Added
        rw [en] at hk
        clear en hr
        have fin : ∀ {b : Bool}, gotB p c.Base i (c.Got.getD i default) = b → b = true → ∀ j, j < i + 1 → gotB p c.Base j (c.Got.getD j default) = true := fun h1 h2 j hj => by
          by_cases hji : j < i
          · exact hall j hji
          · obtain rfl : j = i := by omega
            rw [h1]; exact h2
        cases hkb : trtKeeps ⟨c.Base, p.Gives⟩ (partsOf p.Acts) i (c.Got.getD i default).Added with
        | false =>
          rw [hkb] at hkT hk
          repeat' first | ((first|refine sN ?_|refine Dr.cons ?_|(refine Dr.nil ?_;refine drawIf (by kernel_rfl) ?_)|refine vN rfl ?_|refine Vc.draw rfl (by kernel_rfl) ?_|refine mkSl (by omega) (by omega) ?_);conv=>whnf) | (refine ifB_i (fun _=>?_) (fun _=>?_)<;>conv=>whnf) | ((first | refine ixN (enc := eG) default hil ?_ | refine ⟨_, hkT, ?_⟩ | refine w64 (by omega) (by omega) ?_);conv=>whnf)
          all_goals first
            | (refine rB ?_; rw [no (by rw [hk]; clear no hk hall al hb hb2 hkT fin; simp_all)]; done)
            | (refine ⟨i + 1, ⟨by omega, fin hk (by clear no hk hall al hb hb2 hkT fin; simp_all)⟩, by simp only; omega, ?_⟩
               repeat' (first|exact True.intro|((conv=>whnf);first|exact True.intro|refine ⟨by rfl, ?_⟩|refine ⟨by first|omega|(show (_ : Int) = _;first|omega|(dsimp only;omega)), ?_⟩ | refine ⟨?_, ?_⟩)))
            | (exfalso; clear no hk hall al hb hb2 hkT fin; simp_all; done)
            | trace_state
        | true =>
          have hl := keeps_len hkb
          rw [hkb] at hkT hk
          repeat' first | ((first|refine sN ?_|refine Dr.cons ?_|(refine Dr.nil ?_;refine drawIf (by kernel_rfl) ?_)|refine vN rfl ?_|refine Vc.draw rfl (by kernel_rfl) ?_|refine mkSl (by omega) (by omega) ?_);conv=>whnf) | (refine ifB_i (fun _=>?_) (fun _=>?_)<;>conv=>whnf) | ((first | refine ixN (enc := eG) default hil ?_ | refine ⟨_, hkT, ?_⟩ | refine ⟨_, spec_stillT (pinsOf p.Acts) (c.Got.getD i default).Added (pins_len _) hl, ?_⟩ | refine ⟨_, spec_seqs p (c.Got.getD i default).Seqs, ?_⟩ | refine w64 (by omega) (by omega) ?_);conv=>whnf)
          all_goals first
            | (refine rB ?_; rw [no (by rw [hk]; clear no hk hall al hb hb2 hkT fin; simp_all)]; done)
            | (refine ⟨i + 1, ⟨by omega, fin hk (by clear no hk hall al hb hb2 hkT fin; simp_all)⟩, by simp only; omega, ?_⟩
               repeat' (first|exact True.intro|((conv=>whnf);first|exact True.intro|refine ⟨by rfl, ?_⟩|refine ⟨by first|omega|(show (_ : Int) = _;first|omega|(dsimp only;omega)), ?_⟩ | refine ⟨?_, ?_⟩)))
            | (exfalso; clear no hk hall al hb hb2 hkT fin; simp_all; done)
            | trace_state
      · (repeat' first | ((first|refine sN ?_|refine Dr.cons ?_|(refine Dr.nil ?_;refine drawIf (by kernel_rfl) ?_)|refine vN rfl ?_|refine Vc.draw rfl (by kernel_rfl) ?_|refine mkSl (by omega) (by omega) ?_);conv=>whnf))
        refine rB ?_
        rw [al.2 fun j hj => hall j (by omega), decide_eq_true hlen]; rfl
theorem clerkB_iff2 {p : Plan} {c : Clerk} : clerkB p c = true ↔ ((inB c.Round 0 200 && valOk c.Base && doneOk p c.Done && (decide (c.Got.length = p.Gives.length) && allI (gotB p c.Base) 0 c.Got)) = true) ∧
    (∀ j, j < c.Wants.length → callB p (c.Wants.getD j default) = true ∧ (0 < j → (c.Wants.getD (j - 1) default).Client < (c.Wants.getD j default).Client)) ∧ (c.Up || (c.Wants.isEmpty && decide (c.Got.countP Got.Has = 0))) = true := by
  have e : (c.Got.all fun g => !g.Has) = decide (c.Got.countP Got.Has = 0) := by
    cases h : decide (c.Got.countP Got.Has = 0) with
    | true => have := List.countP_eq_zero.1 (of_decide_eq_true h); rw [List.all_eq_true]; intro x hx; simpa using this x hx
    | false =>
      have := of_decide_eq_false h
      cases h' : (c.Got.all fun g => !g.Has) with
      | false => rfl
      | true => exact absurd (List.countP_eq_zero.2 fun x hx => by have := List.all_eq_true.1 h' x hx; simpa using this) this
  unfold clerkB
  rw [e]
  simp only [Bool.and_eq_true, rising_get, all_getD]
  constructor
  · rintro ⟨⟨⟨⟨⟨⟨⟨h1, h2⟩, h3⟩, h4⟩, h5⟩, h6⟩, h7⟩, h8⟩
    refine ⟨⟨⟨⟨h1, h2⟩, h3⟩, h4, h5⟩, fun j hj => ⟨h6 j hj, fun h0 => ?_⟩, h8⟩
    have := h7 (j - 1) (by omega)
    rw [show j - 1 + 1 = j from by omega] at this; exact this
  · rintro ⟨⟨⟨⟨h1, h2⟩, h3⟩, h4, h5⟩, h6, h8⟩
    refine ⟨⟨⟨⟨⟨⟨⟨h1, h2⟩, h3⟩, h4⟩, h5⟩, fun j hj => (h6 j hj).1⟩, fun j hj => ?_⟩, h8⟩
    have := (h6 (j + 1) hj).2 (by omega)
    simpa using this
theorem spec_clerkOk (p : Plan) (c : Clerk) (hc : inB p.Clients 0 4 = true) : Sem P 144 [(.pure, .agg (aPl p)), (.pure, .one (sPs (partsOf p.Acts))), (.pure, .one (sBs (pinsOf p.Acts))), (.pure, .agg (aK c))] [] (B (clerkB p c)) := by
  have iff := @clerkB_iff2 p c
  have lw : (c.Wants.map eC).length = c.Wants.length := List.length_map ..
  by_cases h0 : (inB c.Round 0 200 && valOk c.Base && doneOk p c.Done && (decide (c.Got.length = p.Gives.length) && allI (gotB p c.Base) 0 c.Got)) = true
  · refine fn_okR (E := E0) E0_tab E0_ord (fn := Go.Proofs.Tryz.f144) (by kernel_rfl) (by kernel_rfl) (fun hb => ?_)
    have hb1 : (c.Wants.map eC).length ≤ 1125899906842624 := (hb.2.2.2.1 (sCs c.Wants) (by simp)).1
    conv => whnf
    repeat' first | ((first|refine sN ?_|refine Dr.cons ?_|(refine Dr.nil ?_;refine drawIf (by kernel_rfl) ?_)|refine vN rfl ?_|refine Vc.draw rfl (by kernel_rfl) ?_|refine mkSl (by omega) (by omega) ?_);conv=>whnf) | (refine ifB_i (fun _=>?_) (fun _=>?_)<;>conv=>whnf) | ((first | refine ⟨_, spec_in _ _ _, ?_⟩ | refine ⟨_, spec_valOk _, ?_⟩ | refine ⟨_, spec_doneOk p c.Done, ?_⟩ | refine ⟨_, spec_got9 p c, ?_⟩);conv=>whnf)
    all_goals first
      | (clear iff; exfalso; simp_all; done)
      | skip
    refine Vc.loop1 (fun (i : Nat) => i ≤ c.Wants.length ∧ ∀ j, j < i → callB p (c.Wants.getD j default) = true ∧ (0 < j → (c.Wants.getD (j - 1) default).Client < (c.Wants.getD j default).Client)) (fun i => updL [4, 7, 70, 71, 72, 73, 74, 75, 76, 77, 78, 79, 80, 81, 82] [(9, I i)] []) (fun i => c.Wants.length - i) 0 ⟨Nat.zero_le _, fun j hj => absurd hj (Nat.not_lt_zero j)⟩ ?_ (fun i hi => ?_)
    · repeat' (first|exact True.intro|((conv=>whnf);first|exact True.intro|refine ⟨by rfl, ?_⟩|refine ⟨by first|omega|(show (_ : Int) = _;first|omega|(dsimp only;omega)), ?_⟩ | refine ⟨?_, ?_⟩))
    · obtain ⟨hi, hall⟩ := hi
      conv => whnf
      (repeat' first | ((first|refine sN ?_|refine Dr.cons ?_|(refine Dr.nil ?_;refine drawIf (by kernel_rfl) ?_)|refine vN rfl ?_|refine Vc.draw rfl (by kernel_rfl) ?_|refine mkSl (by omega) (by omega) ?_);conv=>whnf))
      refine ifB_d (fun g => ?_) (fun g => ?_)
      all_goals conv => whnf
      · have hil : i < c.Wants.length := by omega
        have no : ∀ {q : Prop}, (callB p (c.Wants.getD i default) = true ∧ (0 < i → (c.Wants.getD (i - 1) default).Client < (c.Wants.getD i default).Client) → q) → (q → False) → clerkB p c = false := fun h1 h2 => clerk_no fun hB => h2 (h1 ((iff.1 hB).2.1 i hil))
        by_cases hz : i = 0
        · subst hz
          repeat' first | ((first|refine sN ?_|refine Dr.cons ?_|(refine Dr.nil ?_;refine drawIf (by kernel_rfl) ?_)|refine vN rfl ?_|refine Vc.draw rfl (by kernel_rfl) ?_|refine mkSl (by omega) (by omega) ?_);conv=>whnf) | (refine ifB_i (fun _=>?_) (fun _=>?_)<;>conv=>whnf) | ((first | refine ixN (enc := eC) default hil ?_ | refine ⟨_, spec_call p (c.Wants.getD 0 default) hc, ?_⟩ | refine w64 (by omega) (by omega) ?_);conv=>whnf)
          all_goals first
            | (refine rB ?_; rw [no id]; rintro ⟨a1, a2⟩; clear no iff hall; simp_all; done)
            | (refine ⟨1, ⟨by omega, fun j hj => ?_⟩, by simp only; omega, ?_⟩
               · obtain rfl : j = 0 := by omega
                 clear no iff hall
                 exact ⟨by simp_all, fun h => absurd h (Nat.lt_irrefl 0)⟩
               · repeat' (first|exact True.intro|((conv=>whnf);first|exact True.intro|refine ⟨by rfl, ?_⟩|refine ⟨by first|omega|(show (_ : Int) = _;first|omega|(dsimp only;omega)), ?_⟩ | refine ⟨?_, ?_⟩)))
        · have hz1 : ((i : Int) - 1).toNat = i - 1 := by omega
          repeat' first | ((first|refine sN ?_|refine Dr.cons ?_|(refine Dr.nil ?_;refine drawIf (by kernel_rfl) ?_)|refine vN rfl ?_|refine Vc.draw rfl (by kernel_rfl) ?_|refine mkSl (by omega) (by omega) ?_);conv=>whnf) | (refine ifB_i (fun _=>?_) (fun _=>?_)<;>conv=>whnf) | ((first | refine ixN (enc := eC) default hil ?_ | refine ⟨_, spec_call p (c.Wants.getD i default) hc, ?_⟩ | refine ixI (enc := eC) default (by omega) (by omega) ?_ | refine w64 (by omega) (by omega) ?_);conv=>whnf)
          all_goals first
            | (refine rB ?_; rw [no id]; rintro ⟨a1, a2⟩; have a2 := a2 (by omega); clear no iff hall; simp_all; done)
            | (refine rB ?_; rw [no id]; rintro ⟨a1, a2⟩; have a2 := a2 (by omega); clear no iff hall; simp_all; omega)
            | (refine ⟨i + 1, ⟨by omega, fun j hj => ?_⟩, by simp only; omega, ?_⟩
               · by_cases hji : j < i
                 · exact hall j hji
                 · obtain rfl : j = i := by omega
                   clear no iff hall
                   refine ⟨by simp_all, fun h => ?_⟩
                   first
                     | (simp_all; done)
                     | (simp_all; omega)
               · repeat' (first|exact True.intro|((conv=>whnf);first|exact True.intro|refine ⟨by rfl, ?_⟩|refine ⟨by first|omega|(show (_ : Int) = _;first|omega|(dsimp only;omega)), ?_⟩ | refine ⟨?_, ?_⟩)))
            | trace_state
      · have hW : ∀ j, j < c.Wants.length → callB p (c.Wants.getD j default) = true ∧ (0 < j → (c.Wants.getD (j - 1) default).Client < (c.Wants.getD j default).Client) := fun j hj => hall j (by omega)
        have e : clerkB p c = (c.Up || (c.Wants.isEmpty && decide (c.Got.countP Got.Has = 0))) := Bool.eq_iff_iff.2 (iff.trans ⟨fun h => h.2.2, fun h => ⟨h0, hW, h⟩⟩)
        clear iff hall hW
        have e0 : (((c.Got.countP Got.Has : Nat) : Int) == 0) = decide (c.Got.countP Got.Has = 0) := Bool.eq_iff_iff.2 (by simp only [beq_iff_eq, decide_eq_true_eq]; omega)
        repeat' first | ((first|refine sN ?_|refine Dr.cons ?_|(refine Dr.nil ?_;refine drawIf (by kernel_rfl) ?_)|refine vN rfl ?_|refine Vc.draw rfl (by kernel_rfl) ?_|refine mkSl (by omega) (by omega) ?_);conv=>whnf) | (refine ifB_i (fun _=>?_) (fun _=>?_)<;>conv=>whnf) | (refine ⟨_, spec_has9 c, ?_⟩;conv=>whnf)
        all_goals refine rB ?_
        all_goals rw [e]
        all_goals clear e hb hb1 h0
        all_goals (try rw [e0])
        all_goals clear e0
        all_goals generalize decide (c.Got.countP Got.Has = 0) = z
        all_goals simp_all [ints_z]
  · refine fn_okR (E := E0) E0_tab E0_ord (fn := Go.Proofs.Tryz.f144) (by kernel_rfl) (by kernel_rfl) (fun hb => ?_)
    conv => whnf
    repeat' first | ((first|refine sN ?_|refine Dr.cons ?_|(refine Dr.nil ?_;refine drawIf (by kernel_rfl) ?_)|refine vN rfl ?_|refine Vc.draw rfl (by kernel_rfl) ?_|refine mkSl (by omega) (by omega) ?_);conv=>whnf) | (refine ifB_i (fun _=>?_) (fun _=>?_)<;>conv=>whnf) | ((first | refine ⟨_, spec_in _ _ _, ?_⟩ | refine ⟨_, spec_valOk _, ?_⟩ | refine ⟨_, spec_doneOk p c.Done, ?_⟩ | refine ⟨_, spec_got9 p c, ?_⟩);conv=>whnf)
    all_goals first
      | (refine rB ?_; rw [clerk_no (fun hB => h0 (iff.1 hB).1)]; done)
      | (exfalso; refine h0 ?_; clear h0 iff; simp only [Bool.and_eq_true, decide_eq_true_eq]; simp_all; done)
end Cc
end
section
namespace Cc
open Go Go.AM
set_option maxRecDepth 100000
set_option maxHeartbeats 8000000
theorem spec_wldOkR (w : World) (h1 : planOk w.Plan = true) : Sem P 167 [(.pure, .agg (aWd w)), (.pure, .one (sPs (partsOf w.Plan.Acts))), (.pure, .one (sBs (pinsOf w.Plan.Acts)))] [] (B (wldOk w)) := by
  have iff := @wldOk_iff w
  have ls : (w.Sites.map eS).length = w.Sites.length := List.length_map ..
  have lx : (w.Clients.map eX).length = w.Clients.length := List.length_map ..
  have lm : (w.Net.map eM).length = w.Net.length := List.length_map ..
  have lp := ints_len w.Plan.Gives
  by_cases h0 : (planOk w.Plan && decide (w.Sites.length = w.Plan.Gives.length) && decide ((w.Clients.length : Int) = w.Plan.Clients) && decide (w.Net.length ≤ 30) && logB w.Plan w.Log) = true
  · have h := h0
    simp only [Bool.and_eq_true, decide_eq_true_eq] at h
    obtain ⟨⟨⟨⟨_, h2⟩, h3⟩, h4⟩, h5⟩ := h
    have hc := plan_clients h1
    have hcb := inB_iff.1 hc
    refine fn_okR (E := E0) E0_tab E0_ord (fn := Go.Proofs.Tryz.f167) (by kernel_rfl) (by kernel_rfl) (fun hb => ?_)
    have hb1 : (w.Sites.map eS).length ≤ 1125899906842624 := (hb.1 (sSs w.Sites) (by simp)).1
    have hb2 : (w.Clients.map eX).length ≤ 1125899906842624 := (hb.1 (sXs w.Clients) (by simp)).1
    conv => whnf
    repeat' first | ((first|refine sN ?_|refine Dr.cons ?_|(refine Dr.nil ?_;refine drawIf (by kernel_rfl) ?_)|refine vN rfl ?_|refine Vc.draw rfl (by kernel_rfl) ?_|refine mkSl (by omega) (by omega) ?_);conv=>whnf) | (refine ifB_i (fun _=>?_) (fun _=>?_)<;>conv=>whnf) | (refine ⟨_, spec_log w.Plan hc w.Log, ?_⟩;conv=>whnf)
    all_goals first
      | (clear iff; exfalso; simp_all; done)
      | (clear iff; exfalso; simp_all; omega)
      | skip
    refine Vc.loop1 (fun (i : Nat) => i ≤ w.Sites.length ∧ ∀ j, j < i → siteB w.Plan (w.Sites.getD j default) j = true) (fun i => updL [1, 2, 3, 7, 9, 10, 59, 60, 61, 62, 63, 64, 65, 66, 67, 68, 69, 70, 71, 72, 73, 74, 75, 76, 77, 78, 79, 80, 81, 82, 83, 84, 85, 86, 87, 88, 89, 90, 91, 92, 93, 94, 95] [(8, I i)] []) (fun i => w.Sites.length - i) 0 ⟨Nat.zero_le _, fun j hj => absurd hj (Nat.not_lt_zero j)⟩ ?_ (fun i hi => ?_)
    · repeat' (first|exact True.intro|((conv=>whnf);first|exact True.intro|refine ⟨by rfl, ?_⟩|refine ⟨by first|omega|(show (_ : Int) = _;first|omega|(dsimp only;omega)), ?_⟩ | refine ⟨?_, ?_⟩))
    · obtain ⟨hi, hall⟩ := hi
      conv => whnf
      (repeat' first | ((first|refine sN ?_|refine Dr.cons ?_|(refine Dr.nil ?_;refine drawIf (by kernel_rfl) ?_)|refine vN rfl ?_|refine Vc.draw rfl (by kernel_rfl) ?_|refine mkSl (by omega) (by omega) ?_);conv=>whnf))
      refine ifB_d (fun g => ?_) (fun g => ?_)
      all_goals conv => whnf
      · have hil : i < w.Sites.length := by omega
        have his : isSite w.Plan i = true := inB_iff.2 (by omega)
        repeat' first | ((first|refine sN ?_|refine Dr.cons ?_|(refine Dr.nil ?_;refine drawIf (by kernel_rfl) ?_)|refine vN rfl ?_|refine Vc.draw rfl (by kernel_rfl) ?_|refine mkSl (by omega) (by omega) ?_);conv=>whnf) | (refine ifB_i (fun _=>?_) (fun _=>?_)<;>conv=>whnf) | ((first | refine ixN (enc := eS) default hil ?_ | refine ⟨_, spec_siteOk w.Plan (w.Sites.getD i default) i, ?_⟩ | refine w64 (by omega) (by omega) ?_);conv=>whnf)
        all_goals first
          | (refine rB ?_; symm; refine wld_no fun hB => ?_; have := (iff.1 hB).2.1 i hil; clear iff hall; simp_all; done)
          | (refine ⟨i + 1, ⟨by omega, fun j hj => ?_⟩, by simp only; omega, ?_⟩
             · by_cases hji : j < i
               · exact hall j hji
               · obtain rfl : j = i := by omega
                 clear iff hall
                 simp_all
             · repeat' (first|exact True.intro|((conv=>whnf);first|exact True.intro|refine ⟨by rfl, ?_⟩|refine ⟨by first|omega|(show (_ : Int) = _;first|omega|(dsimp only;omega)), ?_⟩ | refine ⟨?_, ?_⟩)))
      · have hS : ∀ j, j < w.Sites.length → siteB w.Plan (w.Sites.getD j default) j = true := fun j hj => hall j (by omega)
        (repeat' first | ((first|refine sN ?_|refine Dr.cons ?_|(refine Dr.nil ?_;refine drawIf (by kernel_rfl) ?_)|refine vN rfl ?_|refine Vc.draw rfl (by kernel_rfl) ?_|refine mkSl (by omega) (by omega) ?_);conv=>whnf))
        refine Vc.loop1 (fun (i : Nat) => i ≤ w.Clients.length ∧ ∀ j, j < i → clientB w.Plan j (w.Clients.getD j default) = true) (fun i => updL [1, 2, 3, 7, 10, 75, 76, 77, 78, 79, 80, 81, 82, 83, 84, 85, 86, 87, 88, 89, 90, 91, 92, 93, 94, 95] [(9, I i)] []) (fun i => w.Clients.length - i) 0 ⟨Nat.zero_le _, fun j hj => absurd hj (Nat.not_lt_zero j)⟩ ?_ (fun k hk => ?_)
        · repeat' (first|exact True.intro|((conv=>whnf);first|exact True.intro|refine ⟨by rfl, ?_⟩|refine ⟨by first|omega|(show (_ : Int) = _;first|omega|(dsimp only;omega)), ?_⟩ | refine ⟨?_, ?_⟩))
        · obtain ⟨hk, hal2⟩ := hk
          conv => whnf
          (repeat' first | ((first|refine sN ?_|refine Dr.cons ?_|(refine Dr.nil ?_;refine drawIf (by kernel_rfl) ?_)|refine vN rfl ?_|refine Vc.draw rfl (by kernel_rfl) ?_|refine mkSl (by omega) (by omega) ?_);conv=>whnf))
          refine ifB_d (fun g => ?_) (fun g => ?_)
          all_goals conv => whnf
          · have hkl : k < w.Clients.length := by omega
            repeat' first | ((first|refine sN ?_|refine Dr.cons ?_|(refine Dr.nil ?_;refine drawIf (by kernel_rfl) ?_)|refine vN rfl ?_|refine Vc.draw rfl (by kernel_rfl) ?_|refine mkSl (by omega) (by omega) ?_);conv=>whnf) | (refine ifB_i (fun _=>?_) (fun _=>?_)<;>conv=>whnf) | ((first | refine ixN (enc := eX) default hkl ?_ | refine ⟨_, spec_client w.Plan (w.Clients.getD k default) k hc, ?_⟩ | refine w64 (by omega) (by omega) ?_);conv=>whnf)
            all_goals first
              | (refine rB ?_; symm; refine wld_no fun hB => ?_; have := (iff.1 hB).2.2.1 k hkl; clear iff hall hal2 hS; simp_all; done)
              | (refine ⟨k + 1, ⟨by omega, fun j hj => ?_⟩, by simp only; omega, ?_⟩
                 · by_cases hji : j < k
                   · exact hal2 j hji
                   · obtain rfl : j = k := by omega
                     clear iff hall hal2 hS
                     simp_all
                 · repeat' (first|exact True.intro|((conv=>whnf);first|exact True.intro|refine ⟨by rfl, ?_⟩|refine ⟨by first|omega|(show (_ : Int) = _;first|omega|(dsimp only;omega)), ?_⟩ | refine ⟨?_, ?_⟩)))
          · have hX : ∀ j, j < w.Clients.length → clientB w.Plan j (w.Clients.getD j default) = true := fun j hj => hal2 j (by omega)
            have fin : wldOk w = (clerkB w.Plan w.Clerk && w.Net.all (msgB w.Plan)) := by
              cases e : (clerkB w.Plan w.Clerk && w.Net.all (msgB w.Plan)) with
              | true => exact iff.2 ⟨h0, hS, hX, e⟩
              | false => exact wld_no fun hB => by rw [(iff.1 hB).2.2.2] at e; cases e
            clear iff hall hal2 hS hX
            (repeat' first | ((first|refine sN ?_|refine Dr.cons ?_|(refine Dr.nil ?_;refine drawIf (by kernel_rfl) ?_)|refine vN rfl ?_|refine Vc.draw rfl (by kernel_rfl) ?_|refine mkSl (by omega) (by omega) ?_);conv=>whnf))
            have hb3 : (w.Net.map eM).length ≤ 1125899906842624 := by omega
            refine Vc.loop1 (fun (i : Nat) => i ≤ w.Net.length ∧ ∀ j, j < i → (msgB w.Plan) (w.Net.getD j default) = true) (fun i => updL [1, 2, 3, 7, 90, 91, 92, 93, 94, 95] [(10, I i)] []) (fun i => w.Net.length - i) 0 ⟨by omega, fun j hj => absurd hj (Nat.not_lt_zero j)⟩ ?_ (fun i hi => ?_)
            · repeat' (first | exact True.intro | ((conv => whnf); first | exact True.intro | refine ⟨by rfl, ?_⟩ | refine ⟨?_, ?_⟩))
            · obtain ⟨hi, ho⟩ := hi
              have hlm : (w.Net.map eM).length = w.Net.length := List.length_map ..
              conv => whnf
              (repeat' first | ((first|refine sN ?_|refine Dr.cons ?_|(refine Dr.nil ?_;refine drawIf (by kernel_rfl) ?_)|refine vN rfl ?_|refine Vc.draw rfl (by kernel_rfl) ?_|refine mkSl (by omega) (by omega) ?_);conv=>whnf))
              refine ifB_d (fun g => ?_) (fun g => ?_)
              all_goals conv => whnf
              · repeat' first | ((first|refine sN ?_|refine Dr.cons ?_|(refine Dr.nil ?_;refine drawIf (by kernel_rfl) ?_)|refine vN rfl ?_|refine Vc.draw rfl (by kernel_rfl) ?_|refine mkSl (by omega) (by omega) ?_);conv=>whnf) | (refine ifB_i (fun _=>?_) (fun _=>?_)<;>conv=>whnf) | ((first | refine ixN (enc := eM) default (by omega) ?_ | refine ⟨_, spec_msgOk w.Plan (w.Net.getD i default) hc, ?_⟩ | refine ⟨_, spec_clerkOk w.Plan w.Clerk hc, ?_⟩ | refine w64 (by first | omega | (dsimp only; omega)) (by first | omega | (dsimp only; omega)) ?_);conv=>whnf)
                all_goals first
                  | (refine ⟨i + 1, ⟨by omega, fun j hj => ?_⟩, by simp only; omega, ?_⟩
                     · by_cases h' : j < i
                       · exact ho j h'
                       · obtain rfl : j = i := by omega
                         clear ho
                         simp_all
                     · repeat' (first | exact True.intro | ((conv => whnf); first | exact True.intro | refine ⟨by rfl, ?_⟩ | refine ⟨?_, ?_⟩)))
                  | (have hp : (msgB w.Plan) (w.Net.getD i default) = false := by (clear ho; simp_all )
                     have hn : w.Net.all (msgB w.Plan) = false := all_not default (j := i) (by omega) hp
                     (refine rB ?_; rw [fin, hn, Bool.and_false]))
              · have hall : w.Net.all (msgB w.Plan) = true := all_get default fun j hj => ho j (by omega)
                repeat' first | ((first|refine sN ?_|refine Dr.cons ?_|(refine Dr.nil ?_;refine drawIf (by kernel_rfl) ?_)|refine vN rfl ?_|refine Vc.draw rfl (by kernel_rfl) ?_|refine mkSl (by omega) (by omega) ?_);conv=>whnf) | (refine ifB_i (fun _=>?_) (fun _=>?_)<;>conv=>whnf) | ((first | refine ⟨_, spec_msgOk w.Plan (w.Net.getD i default) hc, ?_⟩ | refine ⟨_, spec_clerkOk w.Plan w.Clerk hc, ?_⟩ | refine w64 (by first | omega | (dsimp only; omega)) (by first | omega | (dsimp only; omega)) ?_);conv=>whnf)
                (refine rB ?_; rw [fin, hall, Bool.and_true])
  · have hno : wldOk w = false := wld_no fun hB => h0 (iff.1 hB).1
    clear iff
    have hc := plan_clients h1
    refine fn_okR (E := E0) E0_tab E0_ord (fn := Go.Proofs.Tryz.f167) (by kernel_rfl) (by kernel_rfl) (fun hb => ?_)
    conv => whnf
    repeat' first | ((first|refine sN ?_|refine Dr.cons ?_|(refine Dr.nil ?_;refine drawIf (by kernel_rfl) ?_)|refine vN rfl ?_|refine Vc.draw rfl (by kernel_rfl) ?_|refine mkSl (by omega) (by omega) ?_);conv=>whnf) | (refine ifB_i (fun _=>?_) (fun _=>?_)<;>conv=>whnf) | (refine ⟨_, spec_log w.Plan hc w.Log, ?_⟩;conv=>whnf)
    all_goals first
      | (refine rB ?_; rw [hno]; done)
      | (exfalso; refine h0 ?_; clear h0 hno; simp only [Bool.and_eq_true, decide_eq_true_eq]; simp_all; omega)
      | trace_state
theorem plan_acts4 {p : Plan} (h : planOk p = true) : p.Acts.length ≤ 4 := catOk_four (plan_cat h)
theorem spec_wldOk (w : World) : Sem P 67 [(.pure, .agg (aWd w))] [] (B (wldOk w)) := by
  cases hp : planOk w.Plan with
  | false =>
    have hno : wldOk w = false := wld_no fun hB => by have := (wldOk_iff.1 hB).1; simp [hp] at this
    refine fn_okR (E := E0) E0_tab E0_ord (fn := Go.Proofs.Tryz.f67) (by kernel_rfl) (by kernel_rfl) (fun hb => ?_)
    conv => whnf
    repeat' first | ((first|refine sN ?_|refine Dr.cons ?_|(refine Dr.nil ?_;refine drawIf (by kernel_rfl) ?_)|refine vN rfl ?_|refine Vc.draw rfl (by kernel_rfl) ?_|refine mkSl (by omega) (by omega) ?_);conv=>whnf) | (refine ifB_i (fun _=>?_) (fun _=>?_)<;>conv=>whnf) | (refine ⟨_, spec_planOk w.Plan, ?_⟩;conv=>whnf)
    all_goals first
      | (refine rB ?_; rw [hno]; done)
      | (exfalso; simp_all; done)
  | true =>
    refine fn_okR (E := E0) E0_tab E0_ord (fn := Go.Proofs.Tryz.f67) (by kernel_rfl) (by kernel_rfl) (fun hb => ?_)
    conv => whnf
    repeat' first | ((first|refine sN ?_|refine Dr.cons ?_|(refine Dr.nil ?_;refine drawIf (by kernel_rfl) ?_)|refine vN rfl ?_|refine Vc.draw rfl (by kernel_rfl) ?_|refine mkSl (by omega) (by omega) ?_);conv=>whnf) | (refine ifB_i (fun _=>?_) (fun _=>?_)<;>conv=>whnf) | ((first | refine ⟨_, spec_planOk w.Plan, ?_⟩ | refine ⟨_, spec_both w.Plan.Acts (plan_acts4 hp), ?_⟩ | refine ⟨_, spec_wldOkR w hp, ?_⟩);conv=>whnf)
    all_goals first
      | exact rB rfl
      | (exfalso; simp_all; done)
      | trace_state
end Cc
end
section
namespace Cc
open Go Go.AM
set_option maxRecDepth 100000
set_option maxHeartbeats 8000000
def mid (l : List Int) : Prop := ∀ x ∈ l, -1000000000000000 ≤ x ∧ x ≤ 1000000000000000
theorem plus_add {a b : List Int} (h : a.length = b.length) : plus a b = addL a b 1 := by
  rw [addL_zip 1 a b h]; unfold plus; congr 1; funext x y; omega
theorem impl_plus (a b : List Int) (h : a.length = b.length) (h1 : a.length ≤ 100) (ha : mid a) (hb' : mid b) : Sem P 206 [(.pure, AI a), (.pure, AI b)] [] (AI (plus a b)) := by
  have lb := ints_len b
  refine fn_okR (E := { E0 with keep := [2001] }) E0_tab E0_ord (fn := Go.Proofs.Tryz.f206) (by kernel_rfl) (by kernel_rfl) (fun hb => ?_)
  conv => whnf
  repeat' first | ((first|refine sN ?_|refine Dr.cons ?_|(refine Dr.nil ?_;refine drawIf (by kernel_rfl) ?_)|refine vN rfl ?_|refine Vc.draw rfl (by kernel_rfl) ?_|refine mkSl (by omega) (by omega) ?_);conv=>whnf) | (refine ifB_i (fun _=>?_) (fun _=>?_)<;>conv=>whnf) | (refine ⟨_, ints_clone a (by omega), ?_⟩;conv=>whnf)
  refine Vc.loop1 (fun (i : Nat) => i ≤ b.length) (fun i => updL [4, 5, 10, 11, 25] [(12, I i)] [(128064, .arr 3 (ints (addL a (b.take i) 1)) false)]) (fun i => b.length - i) 0 (Nat.zero_le _) ?_ (fun i hi => ?_)
  · repeat' (first|exact True.intro|((conv=>whnf);first|exact True.intro|refine ⟨by rfl, ?_⟩|refine ⟨by first|omega|(show (_ : Int) = _;first|omega|(dsimp only;omega)) | exact congrArg ints (addL_nil _ _).symm, ?_⟩ | refine ⟨?_, ?_⟩))
  · have hlo : (ints (addL a (b.take i) 1)).length = a.length := by rw [ints_len, addL_len]
    have hlo' := addL_len a (b.take i) 1
    conv => whnf
    (repeat' first | ((first|refine sN ?_|refine Dr.cons ?_|(refine Dr.nil ?_;refine drawIf (by kernel_rfl) ?_)|refine vN rfl ?_|refine Vc.draw rfl (by kernel_rfl) ?_|refine mkSl (by omega) (by omega) ?_);conv=>whnf))
    refine ifB_d (fun g => ?_) (fun g => ?_)
    all_goals conv => whnf
    · have hil : i < b.length := by omega
      have b1 := ha (a.getD i 0) (gd_mem (by omega))
      have b2 := hb' (b.getD i 0) (gd_mem hil)
      have e1 := addL_get 1 a b i
      have e2 := addL_step 1 a b i hil (by omega)
      rw [Int.one_mul] at e2
      repeat' first | ((first|refine sN ?_|refine Dr.cons ?_|(refine Dr.nil ?_;refine drawIf (by kernel_rfl) ?_)|refine vN rfl ?_|refine Vc.draw rfl (by kernel_rfl) ?_|refine mkSl (by omega) (by omega) ?_);conv=>whnf) | (refine ifB_i (fun _=>?_) (fun _=>?_)<;>conv=>whnf) | ((first | refine ixN (enc := rI) 0 (by omega) ?_ | refine ioN (by omega) (by omega) ?_);conv=>whnf) | (refine rwN (enc := rI) 0 (by simp only [Int.toNat_natCast]; omega) ?_;conv=>whnf) | (refine w64 (by first | omega | (simp only [Int.toNat_natCast]; omega)) (by first | omega | (simp only [Int.toNat_natCast]; omega)) ?_;conv=>whnf)
      refine ⟨i + 1, by omega, by simp only; omega, ?_⟩
      repeat' (first|exact True.intro|((conv=>whnf);first|exact True.intro|refine ⟨by rfl, ?_⟩|refine ⟨by first|omega|(show (_ : Int) = _;first|omega|(dsimp only;omega)) | exact (by simp only [Int.toNat_natCast]; rw [set_ints, e1, e2]), ?_⟩ | refine ⟨?_, ?_⟩))
    · (repeat' first | ((first|refine sN ?_|refine Dr.cons ?_|(refine Dr.nil ?_;refine drawIf (by kernel_rfl) ?_)|refine vN rfl ?_|refine Vc.draw rfl (by kernel_rfl) ?_|refine mkSl (by omega) (by omega) ?_);conv=>whnf))
      have hend : b.take i = b := List.take_of_length_le (by omega)
      exact ⟨by rw [hend, plus_add h], rfl⟩
end Cc
end
section
namespace Cc
open Go Go.AM
set_option maxRecDepth 100000
set_option maxHeartbeats 8000000
def vAt (w : World) (i : Nat) : List Int := (w.Sites.take i).foldl (fun v s => if s.Round = w.Clerk.Round then plus v s.Added else v) w.Clerk.Base
theorem vAt_succ {w : World} {i : Nat} (h : i < w.Sites.length) : vAt w (i + 1) = if (w.Sites.getD i default).Round = w.Clerk.Round then plus (vAt w i) (w.Sites.getD i default).Added else vAt w i := by
  unfold vAt; rw [take_succ_getD h, List.foldl_append]; rfl
theorem vAt_end {w : World} {i : Nat} (h : w.Sites.length ≤ i) : vAt w i = valsOf w := by unfold vAt valsOf; rw [List.take_of_length_le h]
theorem plus_bd {a b : List Int} {m n : Int} (h : a.length = 3) (h' : b.length = 3) (ha : ∀ x ∈ a, -m ≤ x ∧ x ≤ m) (hb : ∀ x ∈ b, -n ≤ x ∧ x ≤ n) : (plus a b).length = 3 ∧ ∀ x ∈ plus a b, -(m + n) ≤ x ∧ x ≤ m + n := by
  obtain ⟨a1, a2, a3, rfl⟩ := len3 h
  obtain ⟨b1, b2, b3, rfl⟩ := len3 h'
  refine ⟨rfl, ?_⟩
  have p1 := ha a1 (by simp); have p2 := ha a2 (by simp); have p3 := ha a3 (by simp)
  have q1 := hb b1 (by simp); have q2 := hb b2 (by simp); have q3 := hb b3 (by simp)
  intro x hx
  simp only [plus, List.zipWith_cons_cons, List.zipWith_nil_left, List.mem_cons, List.not_mem_nil, or_false] at hx
  rcases hx with rfl | rfl | rfl <;> omega
theorem wld_site {w : World} (hw : wldOk w = true) {i : Nat} (h : i < w.Sites.length) : addedOk (w.Sites.getD i default).Added = true := by
  have := (wldOk_iff.1 hw).2.1 i h
  unfold siteB keeps trtKeeps at this
  simp only [Bool.and_eq_true] at this
  exact this.1.2.1.1.2
theorem wld_sites {w : World} (hw : wldOk w = true) : w.Sites.length ≤ 3 := by
  have h := (wldOk_iff.1 hw).1
  simp only [Bool.and_eq_true, decide_eq_true_eq] at h
  have hp := h.1.1.1.1
  unfold planOk trtOk givesOk at hp
  simp only [Bool.and_eq_true, inB_iff] at hp
  have := hp.2.2.1
  have e := h.1.1.1.2
  simp only [Plan.treaty] at this
  omega
theorem vAt_bd {w : World} (hw : wldOk w = true) : ∀ i, i ≤ w.Sites.length → (vAt w i).length = 3 ∧ ∀ x ∈ vAt w i, -(10000 + i * 20000 : Int) ≤ x ∧ x ≤ 10000 + i * 20000 := by
  intro i
  induction i with
  | zero =>
    intro _
    have h := (wldOk_iff.1 hw).2.2.2
    rw [Bool.and_eq_true] at h
    have h := (clerkB_iff.1 h.1).1
    simp only [Bool.and_eq_true] at h
    have := within_iff.1 h.1.1.2
    simpa [vAt] using this
  | succ i ih =>
    intro hi
    obtain ⟨l, b⟩ := ih (by omega)
    rw [vAt_succ (by omega)]
    split
    · have ha := added_three (wld_site hw (i := i) (by omega))
      have := plus_bd l ha.1 b ha.2
      refine ⟨this.1, fun x hx => ?_⟩
      have := this.2 x hx
      omega
    · exact ⟨l, fun x hx => by have := b x hx; omega⟩
end Cc
end
section
namespace Cc
open Go Go.AM
set_option maxRecDepth 100000
set_option maxHeartbeats 8000000
theorem impl_valsOf (w : World) (hw : wldOk w = true) : Sem P 107 [(.pure, .agg (aWd w))] [] (AI (valsOf w)) := by
  have ls : (w.Sites.map eS).length = w.Sites.length := List.length_map ..
  have l3 := wld_sites hw
  have v0 := vAt_bd hw 0 (Nat.zero_le _)
  refine fn_okR (E := { E0 with keep := [2003, 7003] }) E0_tab E0_ord (fn := Go.Proofs.Tryz.f107) (by kernel_rfl) (by kernel_rfl) (fun hb => ?_)
  conv => whnf
  repeat' first | ((first|refine sN ?_|refine Dr.cons ?_|(refine Dr.nil ?_;refine drawIf (by kernel_rfl) ?_)|refine vN rfl ?_|refine Vc.draw rfl (by kernel_rfl) ?_|refine mkSl (by omega) (by omega) ?_);conv=>whnf) | (refine ifB_i (fun _=>?_) (fun _=>?_)<;>conv=>whnf) | (refine ⟨_, ints_clone w.Clerk.Base (by have := v0.1; simp only [vAt, List.take_zero, List.foldl_nil] at this; omega), ?_⟩;conv=>whnf)
  refine Vc.loop1 (fun (i : Nat) => i ≤ w.Sites.length) (fun i => updL [1, 2, 11, 12, 28] [(13, I i), (3, .one (.ref 128192))] [(128192, .arr 3 (ints (vAt w i)) false)]) (fun i => w.Sites.length - i) 0 (Nat.zero_le _) ?_ (fun i hi => ?_)
  · repeat' (first|exact True.intro|((conv=>whnf);first|exact True.intro|refine ⟨by rfl, ?_⟩|refine ⟨by first|omega|(show (_ : Int) = _;first|omega|(dsimp only;omega)), ?_⟩ | refine ⟨?_, ?_⟩))
  · have vi := vAt_bd hw i hi
    conv => whnf
    (repeat' first | ((first|refine sN ?_|refine Dr.cons ?_|(refine Dr.nil ?_;refine drawIf (by kernel_rfl) ?_)|refine vN rfl ?_|refine Vc.draw rfl (by kernel_rfl) ?_|refine mkSl (by omega) (by omega) ?_);conv=>whnf))
    refine ifB_d (fun g => ?_) (fun g => ?_)
    all_goals conv => whnf
    · have hil : i < w.Sites.length := by omega
      have ha := added_three (wld_site hw hil)
      have es := vAt_succ hil
      repeat' first | ((first|refine sN ?_|refine Dr.cons ?_|(refine Dr.nil ?_;refine drawIf (by kernel_rfl) ?_)|refine vN rfl ?_|refine Vc.draw rfl (by kernel_rfl) ?_|refine mkSl (by omega) (by omega) ?_);conv=>whnf) | (refine ifB_i (fun _=>?_) (fun _=>?_)<;>conv=>whnf) | (refine ixN (enc := eS) default hil ?_;conv=>whnf) | (refine ⟨_, impl_plus (vAt w i) (w.Sites.getD i default).Added (by omega) (by omega) (fun x hx => by have := vi.2 x hx; omega) (fun x hx => by have := ha.2 x hx; omega), ?_⟩;conv=>whnf) | ((first | refine w64 (by omega) (by omega) ?_ | refine akP (prim_ints _) ?_);conv=>whnf)
      · rename_i h
        rw [if_pos (by simpa using h)] at es
        refine ⟨i + 1, by omega, by simp only; omega, ?_⟩
        repeat' (first|exact True.intro|((conv=>whnf);first|exact True.intro|refine ⟨by rfl, ?_⟩|refine ⟨by first|omega|(show (_ : Int) = _;first|omega|(dsimp only;omega)) | exact congrArg ints es.symm, ?_⟩ | refine ⟨?_, ?_⟩))
      · rename_i h
        rw [if_neg (by simpa using h)] at es
        refine ⟨i + 1, by omega, by simp only; omega, ?_⟩
        repeat' (first|exact True.intro|((conv=>whnf);first|exact True.intro|refine ⟨by rfl, ?_⟩|refine ⟨by first|omega|(show (_ : Int) = _;first|omega|(dsimp only;omega)) | exact congrArg ints es.symm, ?_⟩ | refine ⟨?_, ?_⟩))
    · (repeat' first | ((first|refine sN ?_|refine Dr.cons ?_|(refine Dr.nil ?_;refine drawIf (by kernel_rfl) ?_)|refine vN rfl ?_|refine Vc.draw rfl (by kernel_rfl) ?_|refine mkSl (by omega) (by omega) ?_);conv=>whnf))
      exact ⟨by rw [vAt_end (by omega)], rfl⟩
end Cc
end
section
namespace Cc
open Go Go.AM
set_option maxRecDepth 100000
set_option maxHeartbeats 8000000
theorem impl_resSame (a b : Rslt) : Sem P 112 [(.pure, .agg (aR a)), (.pure, .agg (aR b))] [] (B (decide (a = b))) := by
  obtain ⟨k, l⟩ := a
  obtain ⟨k', l'⟩ := b
  refine fn_okR (E := E0) E0_tab E0_ord (fn := Go.Proofs.Tryz.f112) (by kernel_rfl) (by kernel_rfl) (fun hb => ?_)
  conv => whnf
  repeat' first | ((first|refine sN ?_|refine Dr.cons ?_|(refine Dr.nil ?_;refine drawIf (by kernel_rfl) ?_)|refine vN rfl ?_|refine Vc.draw rfl (by kernel_rfl) ?_|refine mkSl (by omega) (by omega) ?_);conv=>whnf) | (refine ifB_i (fun _=>?_) (fun _=>?_)<;>conv=>whnf) | (refine ⟨_, ints_eq l l', ?_⟩;conv=>whnf)
  all_goals (refine rB ?_; simp_all; done)
end Cc
end
section
namespace Cc
open Go Go.AM
set_option maxRecDepth 100000
set_option maxHeartbeats 8000000
end Cc
end
