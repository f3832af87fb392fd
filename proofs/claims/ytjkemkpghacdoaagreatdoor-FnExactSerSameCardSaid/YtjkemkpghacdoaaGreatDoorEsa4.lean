/- The law FnExactSerSame (part 4 of 7). Conditions: none beyond the statement's own. -/
import Derived.Shelf.Spec.SlicesGrow
import Derived.Shelf.Strings.Builder1
import Derived.Test.YtjkemkpghacdoaaGreatDoorProg
import Derived.Lib.AppendIntMem
import Derived.BigCall
import Derived.Lib.ItoaNum
import Derived.Laws.Strings
import Derived.Test.YtjkemkpghacdoaaGreatDoorEsa3
set_option linter.unusedVariables false
set_option linter.unusedSimpArgs false
section
namespace Cc
open Go Go.AM
set_option maxRecDepth 100000
set_option maxHeartbeats 4000000
theorem ixE {α : Type} {L : List α} {enc : α → List AV} {i : Nat} {x : α} {k : List AV → Prop} (h : L[i]? = some x) (hk : k (enc x)) : 0 ≤ (i : Int) ∧ ∃ row, (L.map enc)[((i : Int)).toNat]? = some row ∧ k row :=
  ⟨by omega, _, by rw [Int.toNat_natCast, List.getElem?_map, h]; rfl, hk⟩
theorem prim_ints (l : List Int) : allPrim (ints l) := by
  intro row hr a ha
  obtain ⟨n, _, rfl⟩ := List.mem_map.1 hr
  exact ⟨_, List.mem_singleton.1 ha⟩
theorem apP {r : List (List AV)} {k q : Prop} (h : allPrim r) (hk : k) : allPrim r ∧ k ∨ q := .inl ⟨h, hk⟩
theorem set_ints (l : List Int) (i : Nat) (n : Int) : (ints l).set i (rI n) = ints (l.set i n) := List.map_set.symm
theorem app_ints (l : List Int) (n : Int) : ints l ++ [rI n] = ints (l ++ [n]) := by simp
theorem apN {a : Nat} {k : Prop} (h : a ≤ 1048576) (hk : k) : a ≤ 1048576 ∧ k := ⟨h, hk⟩
theorem impl_actRun (act : List Line) (vals args : List Int) : Sem P 18 [(.pure, .one (sLs act)), (.pure, AI vals), (.pure, AI args)] [] (.tup [(true, aR (actRun act vals args).1), (false, [sI (actRun act vals args).2])]) := by
  refine fn_okR (E := { E0 with keep := [4001, 11002, 22002] }) E0_tab E0_ord (fn := Go.Proofs.Tryz.f18) (by kernel_rfl) (by kernel_rfl) (fun hb => ?_)
  have la : (act.map eL).length = act.length := List.length_map ..
  by_cases hall : (actOk act && valOk vals && argOk args) = true
  · obtain ⟨⟨ha, hv⟩, hg⟩ : (actOk act = true ∧ valOk vals = true) ∧ argOk args = true := by simpa using hall
    have hlen : vals.length ≤ 100000 := by rw [(potsB.zero hv).1]; decide
    have e0 : actRun act vals args = endOf vals (goLines args act vals []) := by rw [actRun, if_pos hall]
    obtain ⟨hlines, h6, _⟩ := actOk_iff.1 ha
    rw [e0]
    conv => whnf
    repeat' first | ((first|refine sN ?_|refine Dr.cons ?_|(refine Dr.nil ?_;refine drawIf (by kernel_rfl) ?_)|refine vN rfl ?_|refine Vc.draw rfl (by kernel_rfl) ?_|refine mkSl (by omega) (by omega) ?_);conv=>whnf) | (refine ifB_i (fun _=>?_) (fun _=>?_)<;>conv=>whnf) | ((first | refine ⟨_, impl_actOk _, ?_⟩ | refine ⟨_, impl_valOk _, ?_⟩ | refine ⟨_, impl_argOk _, ?_⟩ | refine ⟨_, ints_clone vals hlen, ?_⟩);conv=>whnf)
    · rename_i h; rw [ha] at h; cases h
    · rename_i h; rw [hv] at h; cases h
    · rename_i h; rw [hg] at h; cases h
    · refine Vc.loop3 (fun (i : Nat) (own tells : List Int) => i ≤ 12 ∧ potsB own (min i 6) ∧ tells.length ≤ i ∧ goLines args act vals [] = goLines args (act.drop i) own tells) (fun i own tells => updL [0, 1, 2, 6, 8, 76, 77, 78, 79, 80, 81, 82, 83, 84] [(10, I i), (9, .one (.ref 320000))] [(256064, .arr 3 (ints own) false), (320000, .arr 3 (ints tells) false)]) (fun i _ _ => 12 - i) 0 vals [] ⟨by omega, potsB.zero hv, by simp, rfl⟩ ?_ (fun i own tells hi => ?_)
      · repeat' (first | exact True.intro | ((conv => whnf); first | exact True.intro | refine ⟨by rfl, ?_⟩ | refine ⟨?_, ?_⟩))
      · obtain ⟨hi, ho, ht, hgo⟩ := hi
        have lt := ints_len tells
        conv => whnf
        (repeat' first | ((first|refine sN ?_|refine Dr.cons ?_|(refine Dr.nil ?_;refine drawIf (by kernel_rfl) ?_)|refine vN rfl ?_|refine Vc.draw rfl (by kernel_rfl) ?_|refine mkSl (by omega) (by omega) ?_);conv=>whnf))
        refine ifB_d (fun g => ?_) (fun g => ?_)
        all_goals conv => whnf
        · have hi6 : i < act.length := by omega
          have hm : min i 6 = i := by omega
          rw [hm] at ho
          rw [go_at args own tells hi6] at hgo
          obtain ⟨x, hxi⟩ : ∃ x, act[i]? = some x := ⟨_, List.getElem?_eq_getElem hi6⟩
          have hx : x.ok = true := hlines _ (List.mem_of_getElem? hxi)
          have ex : act.getD i default = x := by rw [List.getD_eq_getElem?_getD, hxi]; rfl
          rw [ex] at hgo
          have hkind := line_kind hx
          have hsk := line_skip hx
          have hpo := line_pot hx
          have hfo := line_form hx
          obtain ⟨kind, pot, skip, form⟩ := x
          simp only at hkind hsk hpo hfo hgo
          rcases hkind with rfl | rfl | rfl | rfl
          · have hs := hfo (by decide)
            have hsk := hsk rfl
            have q := at_small hs ho hg
            simp only [Int.reduceEq, if_false, if_true] at hgo
            repeat' first | ((first|refine sN ?_|refine Dr.cons ?_|(refine Dr.nil ?_;refine drawIf (by kernel_rfl) ?_)|refine vN rfl ?_|refine Vc.draw rfl (by kernel_rfl) ?_|refine mkSl (by omega) (by omega) ?_);conv=>whnf) | (refine ifB_i (fun _=>?_) (fun _=>?_)<;>conv=>whnf) | ((first | refine ixE (enc := eL) hxi ?_ | refine ⟨_, impl_at form own args (small_form hs).1 (ho.nums (by omega)) (arg_nums hg), ?_⟩ | refine w64 (by first | omega | (dsimp only; omega)) (by first | omega | (dsimp only; omega)) ?_);conv=>whnf)
            · rename_i h
              have h : form.at own args < 0 := by simpa using h
              rw [if_pos h] at hgo
              refine ⟨i + 1 + skip.toNat, own, tells, ⟨by omega, ho.mono (by omega), by omega, hgo⟩, by simp only; omega, ?_⟩
              repeat' (first|exact True.intro|((conv=>whnf);first|exact True.intro|refine ⟨by rfl, ?_⟩|refine ⟨by first|omega|(show (_ : Int) = _;first|omega|(dsimp only;omega)), ?_⟩ | refine ⟨?_, ?_⟩))
            · rename_i h
              have h : ¬ form.at own args < 0 := by simpa using h
              rw [if_neg h] at hgo
              refine ⟨i + 1, own, tells, ⟨by omega, ho.mono (by omega), by omega, hgo⟩, by simp only; omega, ?_⟩
              repeat' (first | exact True.intro | ((conv => whnf); first | exact True.intro | refine ⟨by rfl, ?_⟩ | refine ⟨?_, ?_⟩))
          · have hs := hfo (by decide)
            have hpo := hpo rfl
            have q := at_small hs ho hg
            have q2 := getD_bd ho.2 (i := pot.toNat) (by rw [ho.1]; omega)
            have q3 := bnd_le (i := i) (by omega)
            have lo := ho.1
            simp only [Int.reduceEq, if_false, if_true] at hgo
            repeat' first | ((first|refine sN ?_|refine Dr.cons ?_|(refine Dr.nil ?_;refine drawIf (by kernel_rfl) ?_)|refine vN rfl ?_|refine Vc.draw rfl (by kernel_rfl) ?_|refine mkSl (by omega) (by omega) ?_);conv=>whnf) | (refine ifB_i (fun _=>?_) (fun _=>?_)<;>conv=>whnf) | ((first | refine ixE (enc := eL) hxi ?_ | refine ⟨_, impl_at form own args (small_form hs).1 (ho.nums (by omega)) (arg_nums hg), ?_⟩ | refine w64 (by first | omega | (dsimp only; omega)) (by first | omega | (dsimp only; omega)) ?_);conv=>whnf) | (refine ioN (by first | omega | (dsimp only; omega)) (by rw [ints_len]; dsimp only; omega) ?_;conv=>whnf) | ((first | refine rwN (enc := rI) 0 (by first | omega | (dsimp only; omega)) ?_ | refine ixI (enc := rI) 0 (by first | omega | (dsimp only; omega)) (by first | omega | (dsimp only; omega)) ?_);conv=>whnf)
            refine ⟨i + 1, own.set pot.toNat (own.getD pot.toNat 0 + form.at own args), tells, ⟨by omega, by rw [show min (i + 1) 6 = i + 1 by omega]; exact ho.set q (by omega), by omega, hgo⟩, by simp only; omega, ?_⟩
            repeat' (first|exact True.intro|((conv=>whnf);first|exact True.intro|refine ⟨by rfl, ?_⟩|refine ⟨by first|omega|(show (_ : Int) = _;first|omega|(dsimp only;omega)) | exact set_ints _ _ _, ?_⟩ | refine ⟨?_, ?_⟩))
          · have hs := hfo (by decide)
            have q := at_small hs ho hg
            simp only [Int.reduceEq, if_false, if_true] at hgo
            repeat' first | ((first|refine sN ?_|refine Dr.cons ?_|(refine Dr.nil ?_;refine drawIf (by kernel_rfl) ?_)|refine vN rfl ?_|refine Vc.draw rfl (by kernel_rfl) ?_|refine mkSl (by omega) (by omega) ?_);conv=>whnf) | (refine ifB_i (fun _=>?_) (fun _=>?_)<;>conv=>whnf) | ((first | refine ixE (enc := eL) hxi ?_ | refine ⟨_, impl_at form own args (small_form hs).1 (ho.nums (by omega)) (arg_nums hg), ?_⟩ | refine w64 (by first | omega | (dsimp only; omega)) (by first | omega | (dsimp only; omega)) ?_);conv=>whnf) | (refine apN (by simp; omega) ?_;conv=>whnf) | (refine apP (prim_ints _) ?_;conv=>whnf)
            refine ⟨i + 1, own, tells ++ [form.at own args], ⟨by omega, ho.mono (by omega), by rw [List.length_append]; simp; omega, hgo⟩, by simp only; omega, ?_⟩
            repeat' (first|exact True.intro|((conv=>whnf);first|exact True.intro|refine ⟨by rfl, ?_⟩|refine ⟨by first|omega|(show (_ : Int) = _;first|omega|(dsimp only;omega)) | exact app_ints _ _, ?_⟩ | refine ⟨?_, ?_⟩))
          · simp only [Int.reduceEq, if_false, if_true] at hgo
            repeat' first | ((first|refine sN ?_|refine Dr.cons ?_|(refine Dr.nil ?_;refine drawIf (by kernel_rfl) ?_)|refine vN rfl ?_|refine Vc.draw rfl (by kernel_rfl) ?_|refine mkSl (by omega) (by omega) ?_);conv=>whnf) | (refine ifB_i (fun _=>?_) (fun _=>?_)<;>conv=>whnf) | ((first | refine ixE (enc := eL) hxi ?_ | refine ⟨_, ints_clone vals hlen, ?_⟩);conv=>whnf)
            exact ⟨by rw [hgo]; rfl, rfl⟩
        · rw [go_end args own tells (by omega)] at hgo
          repeat' first | ((first|refine sN ?_|refine Dr.cons ?_|(refine Dr.nil ?_;refine drawIf (by kernel_rfl) ?_)|refine vN rfl ?_|refine Vc.draw rfl (by kernel_rfl) ?_|refine mkSl (by omega) (by omega) ?_);conv=>whnf) | (refine ifB_i (fun _=>?_) (fun _=>?_)<;>conv=>whnf) | ((first | refine ⟨_, impl_valOk own, ?_⟩ | refine ⟨_, ints_clone vals hlen, ?_⟩);conv=>whnf)
          · rename_i h
            have h : valOk own = false := by simpa using h
            exact ⟨by rw [hgo, endOf, if_neg (by simp [h])]; rfl, rfl⟩
          · rename_i h
            have h : valOk own = true := by simpa using h
            exact ⟨by rw [hgo, endOf, if_pos h]; rfl, rfl⟩
  · have e0 : actRun act vals args = (Rslt.nil, []) := by rw [actRun, if_neg hall]
    rw [e0]
    conv => whnf
    repeat' first | ((first|refine sN ?_|refine Dr.cons ?_|(refine Dr.nil ?_;refine drawIf (by kernel_rfl) ?_)|refine vN rfl ?_|refine Vc.draw rfl (by kernel_rfl) ?_|refine mkSl (by omega) (by omega) ?_);conv=>whnf) | (refine ifB_i (fun _=>?_) (fun _=>?_)<;>conv=>whnf) | ((first | refine ⟨_, impl_actOk _, ?_⟩ | refine ⟨_, impl_valOk _, ?_⟩ | refine ⟨_, impl_argOk _, ?_⟩);conv=>whnf)
    all_goals first | exact ⟨rfl, rfl⟩ | skip
    all_goals exact absurd (by simp_all) hall
theorem spec_end (vals own tells : List Int) (hv : vals.length ≤ 100000) : Sem P 185 [(.pure, AI vals), (.own, AI own), (.own, AI tells)] [] (.tup [(true, aR (endOf vals (some (own, tells))).1), (false, [sI (endOf vals (some (own, tells))).2])]) := by
  refine fn_okR (E := E0) E0_tab E0_ord (fn := Go.Proofs.Tryz.f185) (by kernel_rfl) (by kernel_rfl) (fun hb => ?_)
  have lv := ints_len vals
  conv => whnf
  repeat' first | ((first|refine sN ?_|refine Dr.cons ?_|(refine Dr.nil ?_;refine drawIf (by kernel_rfl) ?_)|refine vN rfl ?_|refine Vc.draw rfl (by kernel_rfl) ?_|refine mkSl (by omega) (by omega) ?_);conv=>whnf) | (refine ifB_i (fun _=>?_) (fun _=>?_)<;>conv=>whnf) | (refine ⟨_, spec_valOk own, ?_⟩;conv=>whnf) | (refine apN (by simp; omega) ?_;conv=>whnf) | (refine apP (prim_ints _) ?_;conv=>whnf)
  · rename_i h
    have h : valOk own = false := by simpa using h
    exact ⟨by rw [endOf, if_neg (by simp [h])]; rfl, rfl⟩
  · rename_i h
    have h : valOk own = true := by simpa using h
    exact ⟨by rw [endOf, if_pos h]; rfl, rfl⟩
theorem spec_actRun (act : List Line) (vals args : List Int) : Sem P 79 [(.pure, .one (sLs act)), (.pure, AI vals), (.pure, AI args)] [] (.tup [(true, aR (actRun act vals args).1), (false, [sI (actRun act vals args).2])]) := by
  refine fn_okR (E := { E0 with keep := [19003] }) E0_tab E0_ord (fn := Go.Proofs.Tryz.f79) (by kernel_rfl) (by kernel_rfl) (fun hb => ?_)
  have la : (act.map eL).length = act.length := List.length_map ..
  by_cases hall : (actOk act && valOk vals && argOk args) = true
  · obtain ⟨⟨ha, hv⟩, hg⟩ : (actOk act = true ∧ valOk vals = true) ∧ argOk args = true := by simpa using hall
    have hlen : vals.length ≤ 100000 := by rw [(potsB.zero hv).1]; decide
    have e0 : actRun act vals args = endOf vals (goLines args act vals []) := by rw [actRun, if_pos hall]
    obtain ⟨hlines, h6, _⟩ := actOk_iff.1 ha
    rw [e0]
    conv => whnf
    repeat' first | ((first|refine sN ?_|refine Dr.cons ?_|(refine Dr.nil ?_;refine drawIf (by kernel_rfl) ?_)|refine vN rfl ?_|refine Vc.draw rfl (by kernel_rfl) ?_|refine mkSl (by omega) (by omega) ?_);conv=>whnf) | (refine ifB_i (fun _=>?_) (fun _=>?_)<;>conv=>whnf) | ((first | refine ⟨_, spec_actOk _, ?_⟩ | refine ⟨_, spec_valOk _, ?_⟩ | refine ⟨_, spec_argOk _, ?_⟩);conv=>whnf) | (refine apN (by simp; omega) ?_;conv=>whnf) | (refine apP (prim_ints _) ?_;conv=>whnf)
    · rename_i h; rw [ha] at h; cases h
    · rename_i h; rw [hv] at h; cases h
    · rename_i h; rw [hg] at h; cases h
    · refine Vc.loop3 (fun (i : Nat) (own tells : List Int) => i ≤ 12 ∧ potsB own (min i 6) ∧ tells.length ≤ i ∧ goLines args act vals [] = goLines args (act.drop i) own tells) (fun i own tells => updL [0, 1, 2, 6, 8, 86, 87, 88, 89, 90, 91] [(10, I i), (9, .one (.ref 320000))] [(256128, .arr 3 (ints own) false), (320000, .arr 3 (ints tells) false)]) (fun i _ _ => 12 - i) 0 vals [] ⟨by omega, potsB.zero hv, by simp, rfl⟩ ?_ (fun i own tells hi => ?_)
      · repeat' (first | exact True.intro | ((conv => whnf); first | exact True.intro | refine ⟨by rfl, ?_⟩ | refine ⟨?_, ?_⟩))
      · obtain ⟨hi, ho, ht, hgo⟩ := hi
        have lt := ints_len tells
        conv => whnf
        (repeat' first | ((first|refine sN ?_|refine Dr.cons ?_|(refine Dr.nil ?_;refine drawIf (by kernel_rfl) ?_)|refine vN rfl ?_|refine Vc.draw rfl (by kernel_rfl) ?_|refine mkSl (by omega) (by omega) ?_);conv=>whnf))
        refine ifB_d (fun g => ?_) (fun g => ?_)
        all_goals conv => whnf
        · have hi6 : i < act.length := by omega
          have hm : min i 6 = i := by omega
          rw [hm] at ho
          rw [go_at args own tells hi6] at hgo
          obtain ⟨x, hxi⟩ : ∃ x, act[i]? = some x := ⟨_, List.getElem?_eq_getElem hi6⟩
          have hx : x.ok = true := hlines _ (List.mem_of_getElem? hxi)
          have ex : act.getD i default = x := by rw [List.getD_eq_getElem?_getD, hxi]; rfl
          rw [ex] at hgo
          have hkind := line_kind hx
          have hsk := line_skip hx
          have hpo := line_pot hx
          have hfo := line_form hx
          obtain ⟨kind, pot, skip, form⟩ := x
          simp only at hkind hsk hpo hfo hgo
          rcases hkind with rfl | rfl | rfl | rfl
          · have hs := hfo (by decide)
            have hsk := hsk rfl
            have q := at_small hs ho hg
            simp only [Int.reduceEq, if_false, if_true] at hgo
            repeat' first | ((first|refine sN ?_|refine Dr.cons ?_|(refine Dr.nil ?_;refine drawIf (by kernel_rfl) ?_)|refine vN rfl ?_|refine Vc.draw rfl (by kernel_rfl) ?_|refine mkSl (by omega) (by omega) ?_);conv=>whnf) | (refine ifB_i (fun _=>?_) (fun _=>?_)<;>conv=>whnf) | ((first | refine ixE (enc := eL) hxi ?_ | refine ⟨_, spec_at form own args (small_form hs).1 (ho.nums (by omega)) (arg_nums hg), ?_⟩ | refine w64 (by first | omega | (dsimp only; omega)) (by first | omega | (dsimp only; omega)) ?_);conv=>whnf)
            · rename_i h
              have h : form.at own args < 0 := by simpa using h
              rw [if_pos h] at hgo
              refine ⟨i + 1 + skip.toNat, own, tells, ⟨by omega, ho.mono (by omega), by omega, hgo⟩, by simp only; omega, ?_⟩
              repeat' (first|exact True.intro|((conv=>whnf);first|exact True.intro|refine ⟨by rfl, ?_⟩|refine ⟨by first|omega|(show (_ : Int) = _;first|omega|(dsimp only;omega)), ?_⟩ | refine ⟨?_, ?_⟩))
            · rename_i h
              have h : ¬ form.at own args < 0 := by simpa using h
              rw [if_neg h] at hgo
              refine ⟨i + 1, own, tells, ⟨by omega, ho.mono (by omega), by omega, hgo⟩, by simp only; omega, ?_⟩
              repeat' (first | exact True.intro | ((conv => whnf); first | exact True.intro | refine ⟨by rfl, ?_⟩ | refine ⟨?_, ?_⟩))
          · have hs := hfo (by decide)
            have hpo := hpo rfl
            have q := at_small hs ho hg
            have q2 := getD_bd ho.2 (i := pot.toNat) (by rw [ho.1]; omega)
            have q3 := bnd_le (i := i) (by omega)
            have lo := ho.1
            simp only [Int.reduceEq, if_false, if_true] at hgo
            repeat' first | ((first|refine sN ?_|refine Dr.cons ?_|(refine Dr.nil ?_;refine drawIf (by kernel_rfl) ?_)|refine vN rfl ?_|refine Vc.draw rfl (by kernel_rfl) ?_|refine mkSl (by omega) (by omega) ?_);conv=>whnf) | (refine ifB_i (fun _=>?_) (fun _=>?_)<;>conv=>whnf) | ((first | refine ixE (enc := eL) hxi ?_ | refine ⟨_, spec_at form own args (small_form hs).1 (ho.nums (by omega)) (arg_nums hg), ?_⟩ | refine w64 (by first | omega | (dsimp only; omega)) (by first | omega | (dsimp only; omega)) ?_);conv=>whnf) | (refine ioN (by first | omega | (dsimp only; omega)) (by rw [ints_len]; dsimp only; omega) ?_;conv=>whnf) | ((first | refine rwN (enc := rI) 0 (by first | omega | (dsimp only; omega)) ?_ | refine ixI (enc := rI) 0 (by first | omega | (dsimp only; omega)) (by first | omega | (dsimp only; omega)) ?_);conv=>whnf)
            refine ⟨i + 1, own.set pot.toNat (own.getD pot.toNat 0 + form.at own args), tells, ⟨by omega, by rw [show min (i + 1) 6 = i + 1 by omega]; exact ho.set q (by omega), by omega, hgo⟩, by simp only; omega, ?_⟩
            repeat' (first|exact True.intro|((conv=>whnf);first|exact True.intro|refine ⟨by rfl, ?_⟩|refine ⟨by first|omega|(show (_ : Int) = _;first|omega|(dsimp only;omega)) | exact set_ints _ _ _, ?_⟩ | refine ⟨?_, ?_⟩))
          · have hs := hfo (by decide)
            have q := at_small hs ho hg
            simp only [Int.reduceEq, if_false, if_true] at hgo
            repeat' first | ((first|refine sN ?_|refine Dr.cons ?_|(refine Dr.nil ?_;refine drawIf (by kernel_rfl) ?_)|refine vN rfl ?_|refine Vc.draw rfl (by kernel_rfl) ?_|refine mkSl (by omega) (by omega) ?_);conv=>whnf) | (refine ifB_i (fun _=>?_) (fun _=>?_)<;>conv=>whnf) | ((first | refine ixE (enc := eL) hxi ?_ | refine ⟨_, spec_at form own args (small_form hs).1 (ho.nums (by omega)) (arg_nums hg), ?_⟩ | refine w64 (by first | omega | (dsimp only; omega)) (by first | omega | (dsimp only; omega)) ?_);conv=>whnf) | (refine apN (by simp; omega) ?_;conv=>whnf) | (refine apP (prim_ints _) ?_;conv=>whnf)
            refine ⟨i + 1, own, tells ++ [form.at own args], ⟨by omega, ho.mono (by omega), by rw [List.length_append]; simp; omega, hgo⟩, by simp only; omega, ?_⟩
            repeat' (first|exact True.intro|((conv=>whnf);first|exact True.intro|refine ⟨by rfl, ?_⟩|refine ⟨by first|omega|(show (_ : Int) = _;first|omega|(dsimp only;omega)) | exact app_ints _ _, ?_⟩ | refine ⟨?_, ?_⟩))
          · simp only [Int.reduceEq, if_false, if_true] at hgo
            repeat' first | ((first|refine sN ?_|refine Dr.cons ?_|(refine Dr.nil ?_;refine drawIf (by kernel_rfl) ?_)|refine vN rfl ?_|refine Vc.draw rfl (by kernel_rfl) ?_|refine mkSl (by omega) (by omega) ?_);conv=>whnf) | (refine ifB_i (fun _=>?_) (fun _=>?_)<;>conv=>whnf) | (refine ixE (enc := eL) hxi ?_;conv=>whnf) | (refine apN (by simp; omega) ?_;conv=>whnf) | (refine apP (prim_ints _) ?_;conv=>whnf)
            exact ⟨by rw [hgo]; rfl, rfl⟩
        · rw [go_end args own tells (by omega)] at hgo
          repeat' first | ((first|refine sN ?_|refine Dr.cons ?_|(refine Dr.nil ?_;refine drawIf (by kernel_rfl) ?_)|refine vN rfl ?_|refine Vc.draw rfl (by kernel_rfl) ?_|refine mkSl (by omega) (by omega) ?_);conv=>whnf) | (refine ifB_i (fun _=>?_) (fun _=>?_)<;>conv=>whnf) | (refine ⟨_, spec_end vals own tells hlen, ?_⟩;conv=>whnf)
          exact ⟨by rw [hgo]; rfl, rfl⟩
  · have e0 : actRun act vals args = (Rslt.nil, []) := by rw [actRun, if_neg hall]
    rw [e0]
    conv => whnf
    repeat' first | ((first|refine sN ?_|refine Dr.cons ?_|(refine Dr.nil ?_;refine drawIf (by kernel_rfl) ?_)|refine vN rfl ?_|refine Vc.draw rfl (by kernel_rfl) ?_|refine mkSl (by omega) (by omega) ?_);conv=>whnf) | (refine ifB_i (fun _=>?_) (fun _=>?_)<;>conv=>whnf) | ((first | refine ⟨_, spec_actOk _, ?_⟩ | refine ⟨_, spec_valOk _, ?_⟩ | refine ⟨_, spec_argOk _, ?_⟩);conv=>whnf)
    all_goals first | exact ⟨rfl, rfl⟩ | skip
    all_goals exact absurd (by simp_all) hall
end Cc
end
section
namespace Cc
open Go Go.AM
set_option maxRecDepth 100000
set_option maxHeartbeats 4000000
theorem app_take {α β : Type} [Inhabited α] {l : List α} {g : α → β} {i : Nat} (h : i < l.length) : (l.take i).map g ++ [g (l.getD i default)] = (l.take (i + 1)).map g := by
  rw [List.take_add_one, List.map_append, List.getElem?_eq_getElem h, List.getD_eq_getElem?_getD, List.getElem?_eq_getElem h]
  rfl
theorem gd_mem {α : Type} [Inhabited α] {l : List α} {i : Nat} (h : i < l.length) : l.getD i default ∈ l := by
  rw [List.getD_eq_getElem?_getD, List.getElem?_eq_getElem h]; exact List.getElem_mem h
theorem impl_pot (v : Nat) (hv : v < 3) : Sem P 288 [(.pure, I v)] [] (.agg (aF (Form.pot v))) := by
  match v, hv with
  | 0, _ | 1, _ | 2, _ =>
    refine fn_okR (E := { E0 with keep := [4000] }) E0_tab E0_ord (fn := Go.Proofs.Tryz.f288) (by kernel_rfl) (by kernel_rfl) (fun hb => ?_)
    conv => whnf
    repeat' first | ((first|refine sN ?_|refine Dr.cons ?_|(refine Dr.nil ?_;refine drawIf (by kernel_rfl) ?_)|refine vN rfl ?_|refine Vc.draw rfl (by kernel_rfl) ?_|refine mkSl (by omega) (by omega) ?_);conv=>whnf) | (refine ifB_i (fun _=>?_) (fun _=>?_)<;>conv=>whnf) | ((first | refine ⟨_, impl_in _ _ _, ?_⟩ | refine ⟨_, impl_zero, ?_⟩ | refine ioK (Nat.le_of_ble_eq_true rfl) ?_ | refine rwC rfl ?_);conv=>whnf)
    all_goals first | (rename_i h; exact absurd h (by decide)) | exact ⟨rfl, rfl⟩
theorem form_copied (f : Form) (h : f.C.length ≤ 100000 ∧ f.D.length ≤ 100000) : Sem P 190 [(.pure, .agg (aF f))] [] (.agg (aF f)) := by
  refine fn_okR (E := { E0 with keep := [2002, 2005] }) E0_tab E0_ord (fn := Go.Proofs.Tryz.f190) (by kernel_rfl) (by kernel_rfl) (fun hb => ?_)
  conv => whnf
  repeat' first | ((first|refine sN ?_|refine Dr.cons ?_|(refine Dr.nil ?_;refine drawIf (by kernel_rfl) ?_)|refine vN rfl ?_|refine Vc.draw rfl (by kernel_rfl) ?_|refine mkSl (by omega) (by omega) ?_);conv=>whnf) | (refine ifB_i (fun _=>?_) (fun _=>?_)<;>conv=>whnf) | ((first | refine ⟨_, ints_clone f.C h.1, ?_⟩ | refine ⟨_, ints_clone f.D h.2, ?_⟩);conv=>whnf)
  exact ⟨rfl, rfl⟩
def shs (l : List Form) : Prop := l.length ≤ 100 ∧ ∀ f ∈ l, f.sh
theorem sh_short {f : Form} (h : f.sh) : f.C.length ≤ 100000 ∧ f.D.length ≤ 100000 := by obtain ⟨h1, h2⟩ := h; omega
theorem impl_forms (l : List Form) (hl : shs l) : Sem P 373 [(.pure, .one (sFs l))] [] (.one (sFs l)) := by
  have hl1 := hl.1
  refine fn_okR (E := E0) E0_tab E0_ord (fn := Go.Proofs.Tryz.f373) (by kernel_rfl) (by kernel_rfl) (fun hb => ?_)
  conv => whnf
  (repeat' first | ((first|refine sN ?_|refine Dr.cons ?_|(refine Dr.nil ?_;refine drawIf (by kernel_rfl) ?_)|refine vN rfl ?_|refine Vc.draw rfl (by kernel_rfl) ?_|refine mkSl (by omega) (by omega) ?_);conv=>whnf))
  refine Vc.loop1 (fun (i : Nat) => i ≤ l.length) (fun i => updL [2, 6, 7, 18] [(8, I i), (3, .one (.ref 128000))] [(128000, .arr 129 ((l.take i).map eF) false)]) (fun i => l.length - i) 0 (Nat.zero_le _) ?_ (fun i hi => ?_)
  · repeat' (first|exact True.intro|((conv=>whnf);first|exact True.intro|refine ⟨by rfl, ?_⟩|refine ⟨by first|omega|(show (_ : Int) = _;first|omega|(dsimp only;omega)), ?_⟩ | refine ⟨?_, ?_⟩))
  · have hlm : (l.map eF).length = l.length := List.length_map ..
    have hlo : ((l.take i).map eF).length = i := by rw [List.length_map, List.length_take]; omega
    conv => whnf
    (repeat' first | ((first|refine sN ?_|refine Dr.cons ?_|(refine Dr.nil ?_;refine drawIf (by kernel_rfl) ?_)|refine vN rfl ?_|refine Vc.draw rfl (by kernel_rfl) ?_|refine mkSl (by omega) (by omega) ?_);conv=>whnf))
    refine ifB_d (fun g => ?_) (fun g => ?_)
    all_goals conv => whnf
    · repeat' first | ((first|refine sN ?_|refine Dr.cons ?_|(refine Dr.nil ?_;refine drawIf (by kernel_rfl) ?_)|refine vN rfl ?_|refine Vc.draw rfl (by kernel_rfl) ?_|refine mkSl (by omega) (by omega) ?_);conv=>whnf) | (refine ifB_i (fun _=>?_) (fun _=>?_)<;>conv=>whnf) | ((first | refine ixN (enc := eF) default (by omega) ?_ | refine ⟨_, form_copied (l.getD i default) (sh_short (hl.2 _ (gd_mem (by omega)))), ?_⟩);conv=>whnf) | (refine apN (by first | omega | (simp; omega)) ?_;conv=>whnf) | (refine w64 (by first | omega | (dsimp only; omega)) (by first | omega | (dsimp only; omega)) ?_;conv=>whnf)
      refine ⟨i + 1, by omega, by simp only; omega, ?_⟩
      repeat' (first|exact True.intro|((conv=>whnf);first|exact True.intro|refine ⟨by rfl, ?_⟩|refine ⟨by first|omega|(show (_ : Int) = _;first|omega|(dsimp only;omega)) | exact app_take (by omega), ?_⟩ | refine ⟨?_, ?_⟩))
    · have hend : l.take i = l := List.take_of_length_le (by omega)
      (repeat' first | ((first|refine sN ?_|refine Dr.cons ?_|(refine Dr.nil ?_;refine drawIf (by kernel_rfl) ?_)|refine vN rfl ?_|refine Vc.draw rfl (by kernel_rfl) ?_|refine mkSl (by omega) (by omega) ?_);conv=>whnf))
      exact ⟨by rw [hend], rfl⟩
theorem lin1 {f : Form} (h : f.sh) : lin Form.zero f 1 = f := by
  obtain ⟨C, D, K⟩ := f
  obtain ⟨a, b, c, rfl⟩ := len3 h.1
  obtain ⟨d, e, rfl⟩ := len2 h.2
  simp [lin, Form.zero]
theorem spec_copy (l : List Form) (hl : l.length ≤ 100) (hb' : ∀ f ∈ l, f.bd 10000000) : Sem P 356 [(.pure, .one (sFs l))] [] (.one (sFs l)) := by
  refine fn_okR (E := E0) E0_tab E0_ord (fn := Go.Proofs.Tryz.f356) (by kernel_rfl) (by kernel_rfl) (fun hb => ?_)
  conv => whnf
  (repeat' first | ((first|refine sN ?_|refine Dr.cons ?_|(refine Dr.nil ?_;refine drawIf (by kernel_rfl) ?_)|refine vN rfl ?_|refine Vc.draw rfl (by kernel_rfl) ?_|refine mkSl (by omega) (by omega) ?_);conv=>whnf))
  refine Vc.loop1 (fun (i : Nat) => i ≤ l.length) (fun i => updL [0, 2, 21] [(4, I i), (3, .one (.ref 128000))] [(128000, .arr 129 ((l.take i).map (fun f => eF (lin Form.zero f 1))) false)]) (fun i => l.length - i) 0 (Nat.zero_le _) ?_ (fun i hi => ?_)
  · repeat' (first|exact True.intro|((conv=>whnf);first|exact True.intro|refine ⟨by rfl, ?_⟩|refine ⟨by first|omega|(show (_ : Int) = _;first|omega|(dsimp only;omega)), ?_⟩ | refine ⟨?_, ?_⟩))
  · have hlm : (l.map eF).length = l.length := List.length_map ..
    have hlo : ((l.take i).map (fun f => eF (lin Form.zero f 1))).length = i := by rw [List.length_map, List.length_take]; omega
    conv => whnf
    (repeat' first | ((first|refine sN ?_|refine Dr.cons ?_|(refine Dr.nil ?_;refine drawIf (by kernel_rfl) ?_)|refine vN rfl ?_|refine Vc.draw rfl (by kernel_rfl) ?_|refine mkSl (by omega) (by omega) ?_);conv=>whnf))
    refine ifB_d (fun g => ?_) (fun g => ?_)
    all_goals conv => whnf
    · repeat' first | ((first|refine sN ?_|refine Dr.cons ?_|(refine Dr.nil ?_;refine drawIf (by kernel_rfl) ?_)|refine vN rfl ?_|refine Vc.draw rfl (by kernel_rfl) ?_|refine mkSl (by omega) (by omega) ?_);conv=>whnf) | (refine ifB_i (fun _=>?_) (fun _=>?_)<;>conv=>whnf) | ((first | refine ixN (enc := eF) default (by omega) ?_ | refine ⟨_, spec_zero, ?_⟩ | refine ⟨_, spec_sum Form.zero (l.getD i default) 1 (bd_mono zero_bd (by decide)) (hb' _ (gd_mem (by omega))) (by decide), ?_⟩);conv=>whnf) | (refine apN (by first | omega | (simp; omega)) ?_;conv=>whnf) | (refine w64 (by first | omega | (dsimp only; omega)) (by first | omega | (dsimp only; omega)) ?_;conv=>whnf)
      refine ⟨i + 1, by omega, by simp only; omega, ?_⟩
      repeat' (first|exact True.intro|((conv=>whnf);first|exact True.intro|refine ⟨by rfl, ?_⟩|refine ⟨by first|omega|(show (_ : Int) = _;first|omega|(dsimp only;omega)) | exact app_take (by omega), ?_⟩ | refine ⟨?_, ?_⟩))
    · have hend : l.take i = l := List.take_of_length_le (by omega)
      (repeat' first | ((first|refine sN ?_|refine Dr.cons ?_|(refine Dr.nil ?_;refine drawIf (by kernel_rfl) ?_)|refine vN rfl ?_|refine Vc.draw rfl (by kernel_rfl) ?_|refine mkSl (by omega) (by omega) ?_);conv=>whnf))
      exact ⟨by rw [hend]; exact congrArg (fun x => TV.one (.sl 129 x)) (List.map_congr_left fun f hf => by rw [lin1 (hb' f hf).1]), rfl⟩
end Cc
end
section
namespace Go.AM
open Go
def loopQ6 {E : Env} {α β γ δ ε ζ : Type} (P : α → β → γ → δ → ε → ζ → Prop) (upd : α → β → γ → δ → ε → ζ → St → St) (μ : α → β → γ → δ → ε → ζ → Nat) (st : St) (m : Nat) (Q : Ex → St → Prop) (e : Ex) (st' : St) : Prop := match e with
  | .normal => ∃ a' b' c' d' e' f', P a' b' c' d' e' f' ∧ μ a' b' c' d' e' f' < m ∧ weak st' (upd a' b' c' d' e' f' st)
  | .exit id => Q (.exit id) st'
  | .ret => Q .ret st'
theorem Vc.loop6 {E : Env} {cd : Code} {st : St} {Q : Ex → St → Prop} {α β γ δ ε ζ : Type} (P : α → β → γ → δ → ε → ζ → Prop) (upd : α → β → γ → δ → ε → ζ → St → St) (μ : α → β → γ → δ → ε → ζ → Nat) (a0 : α) (b0 : β) (c0 : γ) (d0 : δ) (e0 : ε) (f0 : ζ) (h0 : P a0 b0 c0 d0 e0 f0) (h1 : weak st (upd a0 b0 c0 d0 e0 f0 st))
    (h2 : ∀ a b c d e f, P a b c d e f → fSt (upd a b c d e f st) fun s => Vc E cd s (loopQ6 (E := E) P upd μ st (μ a b c d e f) Q)) : Vc E (.loop cd) st Q := by
  refine Vc.loop1 (α := α × β × γ × δ × ε × ζ) (fun x => P x.1 x.2.1 x.2.2.1 x.2.2.2.1 x.2.2.2.2.1 x.2.2.2.2.2) (fun x => upd x.1 x.2.1 x.2.2.1 x.2.2.2.1 x.2.2.2.2.1 x.2.2.2.2.2) (fun x => μ x.1 x.2.1 x.2.2.1 x.2.2.2.1 x.2.2.2.2.1 x.2.2.2.2.2) (a0, b0, c0, d0, e0, f0) h0 h1 fun x hx => ?_
  have h := h2 x.1 x.2.1 x.2.2.1 x.2.2.2.1 x.2.2.2.2.1 x.2.2.2.2.2 hx
  rw [fSt_eq] at h ⊢
  have e : loopQ6 (E := E) P upd μ st (μ x.1 x.2.1 x.2.2.1 x.2.2.2.1 x.2.2.2.2.1 x.2.2.2.2.2) Q = loopQ1 (α := α × β × γ × δ × ε × ζ) (fun x => P x.1 x.2.1 x.2.2.1 x.2.2.2.1 x.2.2.2.2.1 x.2.2.2.2.2) (fun x => upd x.1 x.2.1 x.2.2.1 x.2.2.2.1 x.2.2.2.2.1 x.2.2.2.2.2) (fun x => μ x.1 x.2.1 x.2.2.1 x.2.2.2.1 x.2.2.2.2.1 x.2.2.2.2.2) st (μ x.1 x.2.1 x.2.2.1 x.2.2.2.1 x.2.2.2.2.1 x.2.2.2.2.2) Q := by
    funext e st'
    cases e with
    | normal => exact propext ⟨fun ⟨a', b', c', d', e', f', q⟩ => ⟨(a', b', c', d', e', f'), q⟩, fun ⟨x, q⟩ => ⟨x.1, x.2.1, x.2.2.1, x.2.2.2.1, x.2.2.2.2.1, x.2.2.2.2.2, q⟩⟩
    | exit id => rfl
    | ret => rfl
  rw [← e]; exact h
end Go.AM
namespace Cc
open Go Go.AM
theorem drop_at {act : List Line} {i : Nat} (h : i < act.length) : act.drop i = act.getD i default :: act.drop (i + 1) := by
  rw [List.drop_eq_getElem_cons h, List.getD_eq_getElem?_getD, List.getElem?_eq_getElem h]; rfl
structure Wk (act : List Line) (i : Nat) (p q r : Form) (g t : List Form) : Prop where
  b : ∃ m : Int, 0 ≤ m ∧ (m + 4) * pw (act.length - i) ≤ 588245 ∧ p.bd m ∧ q.bd m ∧ r.bd m
  g : g.length + (act.length - i) ≤ 50 ∧ ∀ f ∈ g, f.bd 588246
  t : t.length + (act.length - i) ≤ 50 ∧ ∀ f ∈ t, f.bd 588246
section
variable {act : List Line} {i : Nat} {p q r : Form} {g t : List Form}
theorem Wk.start (h : act.length ≤ 6) : Wk act 0 (Form.pot 0) (Form.pot 1) (Form.pot 2) [] [] := by
  refine ⟨⟨1, by decide, ?_, pot_bd 0, pot_bd 1, pot_bd 2⟩, ⟨by simp; omega, by simp⟩, ⟨by simp; omega, by simp⟩⟩
  have h1 := pw_mono (n := act.length - 0) (k := 6) (by omega)
  have h2 : pw 6 = 117649 := by decide
  omega
theorem Wk.pots (w : Wk act i p q r g t) : p.bd 1000000 ∧ q.bd 1000000 ∧ r.bd 1000000 := by
  obtain ⟨m, h0, h1, hp, hq, hr⟩ := w.b
  have h2 := pw_pos (act.length - i)
  have : (m + 4) * 1 ≤ (m + 4) * pw (act.length - i) := Int.mul_le_mul_of_nonneg_left h2 (by omega)
  exact ⟨bd_mono hp (by omega), bd_mono hq (by omega), bd_mono hr (by omega)⟩
theorem Wk.lists (w : Wk act i p q r g t) : (g.length ≤ 50 ∧ ∀ f ∈ g, f.bd 10000000) ∧ (t.length ≤ 50 ∧ ∀ f ∈ t, f.bd 10000000) :=
  ⟨⟨by have := w.g.1; omega, fun f hf => bd_mono (w.g.2 f hf) (by decide)⟩, ⟨by have := w.t.1; omega, fun f hf => bd_mono (w.t.2 f hf) (by decide)⟩⟩
theorem Wk.mid (w : Wk act i p q r g t) (h : i < act.length) (hs : (act.getD i default).Form.small = true) :
    ∃ m : Int, 0 ≤ m ∧ (7 * m + 28) * pw (act.length - (i + 1)) ≤ 588245 ∧ 7 * m + 28 ≤ 588245 ∧ p.bd m ∧ q.bd m ∧ r.bd m ∧ (into (act.getD i default).Form [p, q, r]).bd (6 * m + 20) := by
  obtain ⟨m, h0, h1, hp, hq, hr⟩ := w.b
  rw [show act.length - i = (act.length - (i + 1)) + 1 from by omega, pw_succ] at h1
  have hpl := pw_pos (act.length - (i + 1))
  have hmul : (m + 4) * (7 * pw (act.length - (i + 1))) = (7 * m + 28) * pw (act.length - (i + 1)) := by
    rw [← Int.mul_assoc, Int.mul_comm (m + 4) 7, Int.mul_add]; rfl
  have hm2 : (7 * m + 28) * pw (act.length - (i + 1)) ≤ 588245 := by omega
  refine ⟨m, h0, hm2, ?_, hp, hq, hr, into_bd hs hp hq hr⟩
  have : (7 * m + 28) * 1 ≤ (7 * m + 28) * pw (act.length - (i + 1)) := Int.mul_le_mul_of_nonneg_left hpl (by omega)
  omega
theorem Wk.into (w : Wk act i p q r g t) (h : i < act.length) (hs : (act.getD i default).Form.small = true) : (Cc.into (act.getD i default).Form [p, q, r]).bd 588246 := by
  obtain ⟨m, h0, h1, h2, hp, hq, hr, hf⟩ := w.mid h hs
  exact bd_mono hf (by omega)
theorem Wk.on (w : Wk act i p q r g t) (h : i < act.length) (hs : (act.getD i default).Form.small = true) {k : Nat} (hk : i + 1 ≤ k) {g' t' : List Form} (hg : g' = g ∨ ∃ f : Form, f.bd 588246 ∧ g' = g ++ [f]) (ht : t' = t ∨ ∃ f : Form, f.bd 588246 ∧ t' = t ++ [f]) : Wk act k p q r g' t' := by
  obtain ⟨m, h0, h1, h2, hp, hq, hr, hf⟩ := w.mid h hs
  have key : ∀ {l l' : List Form}, (l.length + (act.length - i) ≤ 50 ∧ ∀ f ∈ l, f.bd 588246) → (l' = l ∨ ∃ f : Form, f.bd 588246 ∧ l' = l ++ [f]) → l'.length + (act.length - k) ≤ 50 ∧ ∀ f ∈ l', f.bd 588246 := by
    rintro l l' ⟨a, b⟩ (rfl | ⟨f, hf, rfl⟩)
    · exact ⟨by omega, b⟩
    · refine ⟨by simp only [List.length_append, List.length_singleton]; omega, fun x hx => ?_⟩
      rcases List.mem_append.1 hx with hx | hx
      · exact b x hx
      · rw [List.mem_singleton.1 hx]; exact hf
  refine ⟨⟨m, h0, ?_, hp, hq, hr⟩, key w.g hg, key w.t ht⟩
  have a1 := pw_mono (n := act.length - k) (k := act.length - (i + 1)) (by omega)
  have a2 : (m + 4) * pw (act.length - k) ≤ (m + 4) * pw (act.length - (i + 1)) := Int.mul_le_mul_of_nonneg_left a1 (by omega)
  have a3 : (m + 4) * pw (act.length - (i + 1)) ≤ (7 * m + 28) * pw (act.length - (i + 1)) := Int.mul_le_mul_of_nonneg_right (by omega) (by have := pw_pos (act.length - (i + 1)); omega)
  omega
theorem Wk.minus (w : Wk act i p q r g t) (h : i < act.length) (hs : (act.getD i default).Form.small = true) : (Cc.minus (Cc.into (act.getD i default).Form [p, q, r])).bd 588246 := by
  obtain ⟨m, h0, h1, h2, hp, hq, hr, hf⟩ := w.mid h hs
  exact bd_mono (minus_bd hf) (by omega)
theorem Wk.add (w : Wk act i p q r g t) (h : i < act.length) (hs : (act.getD i default).Form.small = true) {p' q' r' : Form}
    (hp' : p' = p ∨ p' = lin p (Cc.into (act.getD i default).Form [p, q, r]) 1) (hq' : q' = q ∨ q' = lin q (Cc.into (act.getD i default).Form [p, q, r]) 1) (hr' : r' = r ∨ r' = lin r (Cc.into (act.getD i default).Form [p, q, r]) 1) : Wk act (i + 1) p' q' r' g t := by
  obtain ⟨m, h0, h1, h2, hp, hq, hr, hf⟩ := w.mid h hs
  have one : ∀ {x y : Form}, x.bd m → (y = x ∨ y = lin x (Cc.into (act.getD i default).Form [p, q, r]) 1) → y.bd (7 * m + 20) := by
    rintro x y hx (rfl | rfl)
    · exact bd_mono hx (by omega)
    · exact bd_mono (lin_bd (k := 1) hx hf (by decide)) (by omega)
  refine ⟨⟨7 * m + 20, by omega, ?_, one hp hp', one hq hq', one hr hr'⟩, ⟨by have := w.g.1; omega, w.g.2⟩, ⟨by have := w.t.1; omega, w.t.2⟩⟩
  have : (7 * m + 20 + 4) * pw (act.length - (i + 1)) ≤ (7 * m + 28) * pw (act.length - (i + 1)) := Int.mul_le_mul_of_nonneg_right (by omega) (by have := pw_pos (act.length - (i + 1)); omega)
  omega
theorem Wk.sum (w : Wk act i p q r g t) (h : i < act.length) (hs : (act.getD i default).Form.small = true) {x : Form} (hx : x = p ∨ x = q ∨ x = r) : (lin x (Cc.into (act.getD i default).Form [p, q, r]) 1).bd 1000000 := by
  obtain ⟨m, h0, h1, h2, hp, hq, hr, hf⟩ := w.mid h hs
  have : x.bd m := by rcases hx with rfl | rfl | rfl <;> assumption
  exact bd_mono (lin_bd (k := 1) this hf (by decide)) (by omega)
theorem walk_end (h : act.length ≤ i) (ps g t : List Form) : walk (act.drop i) ps g t = [rowEnd ps g t] := by
  rw [List.drop_of_length_le h]; unfold walk; rfl
theorem walk_stop (h : i < act.length) (hk : (act.getD i default).Kind = 4) (ps g t : List Form) : walk (act.drop i) ps g t = [⟨g, [], [], true⟩] := by
  rw [drop_at h]; unfold walk; rw [if_pos hk]
theorem walk_test (h : i < act.length) (hk : (act.getD i default).Kind = 1) (ps g t : List Form) : walk (act.drop i) ps g t = walk (act.drop (i + 1)) ps (g ++ [Cc.into (act.getD i default).Form ps]) t ++ walk (act.drop (i + 1 + (act.getD i default).Skip.toNat)) ps (g ++ [Cc.minus (Cc.into (act.getD i default).Form ps)]) t := by
  rw [drop_at h]; conv => lhs; unfold walk
  rw [if_neg (by omega), if_pos hk, List.drop_drop]
theorem walk_add (h : i < act.length) (hk : (act.getD i default).Kind = 2) (ps g t : List Form) : walk (act.drop i) ps g t = walk (act.drop (i + 1)) (ps.set (act.getD i default).Pot.toNat (lin (ps.getD (act.getD i default).Pot.toNat Form.nil) (Cc.into (act.getD i default).Form ps) 1)) g t := by
  rw [drop_at h]; conv => lhs; unfold walk
  rw [if_neg (by omega), if_neg (by omega), if_pos hk]
theorem walk_tell (h : i < act.length) (hk : (act.getD i default).Kind = 3) (ps g t : List Form) : walk (act.drop i) ps g t = walk (act.drop (i + 1)) ps g (t ++ [Cc.into (act.getD i default).Form ps]) := by
  rw [drop_at h]; conv => lhs; unfold walk
  rw [if_neg (by omega), if_neg (by omega), if_neg (by omega)]
end
theorem walk_len : ∀ (n : Nat) (l : List Line), l.length ≤ n → ∀ (ps g t : List Form), (walk l ps g t).length ≤ 2 ^ n := by
  intro n
  induction n with
  | zero => intro l hl ps g t; cases l with | nil => unfold walk; simp | cons _ _ => simp at hl
  | succ n ih =>
    intro l hl ps g t
    have hp : 2 ^ n + 2 ^ n = 2 ^ (n + 1) := by omega
    have h1 : 1 ≤ 2 ^ n := Nat.one_le_two_pow
    cases l with
    | nil => unfold walk; simp; omega
    | cons x l =>
      have hl' : l.length ≤ n := by simpa using hl
      unfold walk
      split
      · simp; omega
      · split
        · rw [List.length_append]
          have a := ih l hl' ps (g ++ [into x.Form ps]) t
          have b := ih (l.drop x.Skip.toNat) (by simp; omega) ps (g ++ [minus (into x.Form ps)]) t
          omega
        · split
          · have a := ih l hl' (ps.set x.Pot.toNat (lin (ps.getD x.Pot.toNat Form.nil) (into x.Form ps) 1)) g t
            omega
          · have a := ih l hl' ps g (t ++ [into x.Form ps])
            omega
end Cc
end
section
namespace Cc
open Go Go.AM
theorem take_succ_getD {α : Type} [Inhabited α] {l : List α} {i : Nat} (h : i < l.length) : l.take (i + 1) = l.take i ++ [l.getD i default] := by
  rw [List.take_add_one, List.getElem?_eq_getElem h, List.getD_eq_getElem?_getD, List.getElem?_eq_getElem h]; rfl
theorem walk_lens : ∀ (n : Nat) (l : List Line), l.length ≤ n → ∀ (p q r : Form) (g t : List Form), ∀ w ∈ walk l [p, q, r] g t, w.Guards.length ≤ g.length + n ∧ w.Adds.length ≤ 3 ∧ w.Tells.length ≤ t.length + n := by
  intro n
  induction n with
  | zero =>
    intro l hl p q r g t w hw
    cases l with
    | cons _ _ => simp at hl
    | nil => unfold walk at hw; simp only [List.mem_singleton] at hw; subst hw; simp [rowEnd]
  | succ n ih =>
    intro l hl p q r g t w hw
    cases l with
    | nil => unfold walk at hw; simp only [List.mem_singleton] at hw; subst hw; simp [rowEnd]
    | cons x l =>
      have hl' : l.length ≤ n := by simpa using hl
      unfold walk at hw
      split at hw
      · simp only [List.mem_singleton] at hw; subst hw; simp
      · split at hw
        · rcases List.mem_append.1 hw with hw | hw
          · have := ih l hl' p q r _ t w hw
            simp only [List.length_append, List.length_singleton] at this; omega
          · have := ih (l.drop x.Skip.toNat) (by simp; omega) p q r _ t w hw
            simp only [List.length_append, List.length_singleton] at this; omega
        · split at hw
          · obtain ⟨p', q', r', e⟩ : ∃ p' q' r', [p, q, r].set x.Pot.toNat (lin ([p, q, r].getD x.Pot.toNat Form.nil) (into x.Form [p, q, r]) 1) = [p', q', r'] := len3 (by simp)
            rw [e] at hw
            have := ih l hl' p' q' r' g t w hw
            omega
          · have := ih l hl' p q r g _ w hw
            simp only [List.length_append, List.length_singleton] at this; omega
theorem rows_lens {act : List Line} {w : Row} (h : w ∈ rowsOf act) : w.Guards.length ≤ 6 ∧ w.Adds.length ≤ 3 ∧ w.Tells.length ≤ 6 := by
  unfold rowsOf at h
  split at h
  · rename_i ha
    have := walk_lens 6 act (actOk_iff.1 ha).2.1 _ _ _ [] [] w h
    simpa using this
  · cases h
theorem rows_len (act : List Line) : (rowsOf act).length ≤ 64 := by
  unfold rowsOf
  split
  · rename_i ha
    have := walk_len 6 act (actOk_iff.1 ha).2.1 pots0 [] []
    omega
  · simp
theorem rows_shs {act : List Line} {w : Row} (h : w ∈ rowsOf act) : shs w.Guards ∧ shs w.Adds ∧ shs w.Tells := by
  have hb := rowsOf_bd h
  have hl := rows_lens h
  exact ⟨⟨by omega, fun f hf => (hb.1 f hf).1⟩, ⟨by omega, fun f hf => (hb.2.1 f hf).1⟩, ⟨by omega, fun f hf => (hb.2.2.1 f hf).1⟩⟩
def gAt (acts : List (List Line)) (i k : Nat) : List Form := guardsOf (acts.take i) ++ ((rowsOf (acts.getD i [])).take k).flatMap fun r => r.Guards
def fAt (acts : List (List Line)) (i k : Nat) : List Form := formsOf (acts.take i) ++ ((rowsOf (acts.getD i [])).take k).flatMap fun r => r.Adds ++ r.Tells
theorem gAt_row {acts : List (List Line)} {i k : Nat} (h : k < (rowsOf (acts.getD i [])).length) : gAt acts i (k + 1) = gAt acts i k ++ ((rowsOf (acts.getD i [])).getD k default).Guards := by
  unfold gAt; rw [take_succ_getD h, List.flatMap_append]; simp
theorem fAt_row {acts : List (List Line)} {i k : Nat} (h : k < (rowsOf (acts.getD i [])).length) : fAt acts i (k + 1) = fAt acts i k ++ (((rowsOf (acts.getD i [])).getD k default).Adds ++ ((rowsOf (acts.getD i [])).getD k default).Tells) := by
  unfold fAt; rw [take_succ_getD h, List.flatMap_append]; simp
theorem gAt_act {acts : List (List Line)} {i k : Nat} (hi : i < acts.length) (h : (rowsOf (acts.getD i [])).length ≤ k) : gAt acts i k = gAt acts (i + 1) 0 := by
  unfold gAt guardsOf; rw [List.take_of_length_le h]
  have e : acts.take (i + 1) = acts.take i ++ [acts.getD i []] := take_succ_getD hi
  rw [e, List.flatMap_append]; simp
theorem fAt_act {acts : List (List Line)} {i k : Nat} (hi : i < acts.length) (h : (rowsOf (acts.getD i [])).length ≤ k) : fAt acts i k = fAt acts (i + 1) 0 := by
  unfold fAt formsOf; rw [List.take_of_length_le h]
  have e : acts.take (i + 1) = acts.take i ++ [acts.getD i []] := take_succ_getD hi
  rw [e, List.flatMap_append]; simp
theorem gAt_end {acts : List (List Line)} {i : Nat} (h : acts.length ≤ i) : gAt acts i 0 = guardsOf acts := by unfold gAt; rw [List.take_of_length_le h]; simp
theorem fAt_end {acts : List (List Line)} {i : Nat} (h : acts.length ≤ i) : fAt acts i 0 = formsOf acts := by unfold fAt; rw [List.take_of_length_le h]; simp
theorem reads_app (a b : List Form) (v : Nat) : reads (a ++ b) v = (reads a v || reads b v) := by simp [reads]
def pAt (gs : List Form) : List (List Int) := gs.foldl addPart [[1, 0, 0], [0, 1, 0], [0, 0, 1]]
theorem pAt_app (gs : List Form) (g : Form) : pAt (gs ++ [g]) = addPart (pAt gs) g := by simp [pAt]
theorem addPart_len (out : List (List Int)) (g : Form) : (addPart out g).length ≤ out.length + 1 := by unfold addPart; simp only; split <;> simp
theorem pAt_len (gs : List Form) : (pAt gs).length ≤ 3 + gs.length := by
  unfold pAt
  have key : ∀ (gs : List Form) (o : List (List Int)), (gs.foldl addPart o).length ≤ o.length + gs.length := by
    intro gs
    induction gs with
    | nil => intro o; simp
    | cons g r ih => intro o; have h1 := ih (addPart o g); have h2 := addPart_len o g; simp only [List.foldl_cons, List.length_cons]; omega
  have := key gs [[1, 0, 0], [0, 1, 0], [0, 0, 1]]
  simpa using this
theorem guards_len : ∀ acts : List (List Line), (guardsOf acts).length ≤ acts.length * 384
  | [] => by simp [guardsOf]
  | a :: r => by
    have ih := guards_len r
    have h1 : ∀ l : List Row, (∀ w ∈ l, w.Guards.length ≤ 6) → (l.flatMap fun r => r.Guards).length ≤ l.length * 6 := by
      intro l
      induction l with
      | nil => simp
      | cons w l ih => intro h; have := ih fun w hw => h w (List.mem_cons_of_mem _ hw); have := h w (by simp); simp only [List.flatMap_cons, List.length_append, List.length_cons]; omega
    have h2 := h1 (rowsOf a) fun w hw => (rows_lens hw).1
    have h3 := rows_len a
    unfold guardsOf at ih ⊢
    simp only [List.flatMap_cons, List.length_append, List.length_cons]; omega
theorem rows_take_len (acts : List (List Line)) (i k : Nat) : (gAt acts i k).length ≤ (acts.take i).length * 384 + 384 := by
  have h1 : ∀ l : List Row, (∀ w ∈ l, w.Guards.length ≤ 6) → (l.flatMap fun r => r.Guards).length ≤ l.length * 6 := by
    intro l
    induction l with
    | nil => simp
    | cons w l ih => intro h; have := ih fun w hw => h w (List.mem_cons_of_mem _ hw); have := h w (by simp); simp only [List.flatMap_cons, List.length_append, List.length_cons]; omega
  have h2 := h1 ((rowsOf (acts.getD i [])).take k) fun w hw => (rows_lens (List.mem_of_mem_take hw)).1
  have h3 := rows_len (acts.getD i [])
  have h4 := guards_len (acts.take i)
  have h5 : ((rowsOf (acts.getD i [])).take k).length ≤ 64 := by rw [List.length_take]; omega
  unfold gAt
  rw [List.length_append]; omega
theorem part_len (c : List Int) : (part c).length = c.length := by simp [part]
theorem zeros_three {p : List Int} (h : p.length = 3) : zeros p = decide (p = [0, 0, 0]) := by
  obtain ⟨a, b, c, rfl⟩ := len3 h
  simp [zeros]
theorem has_idx (out : List (List Int)) (p : List Int) : decide (idxOf (fun q => decide (q = p)) out < 0) = !has out p := by
  have := idx_any (fun q => decide (q = p)) out
  unfold has
  rw [← this]
  by_cases h : idxOf (fun q => decide (q = p)) out < 0
  · simp [h]
  · simp [h, Int.not_lt.1 h]
theorem addPart_eq {out : List (List Int)} {g : Form} (h : g.sh) : addPart out g = if (decide (idxOf (fun q => decide (q = part g.C)) out < 0) && !decide (part g.C = [0, 0, 0])) = true then out ++ [part g.C] else out := by
  unfold addPart
  simp only [has_idx, zeros_three (show (part g.C).length = 3 from by rw [part_len, h.1])]
  rw [Bool.and_comm]
end Cc
end
section
namespace Cc
open Go Go.AM
set_option maxRecDepth 100000
set_option maxHeartbeats 4000000
def addL : List Int → List Int → Int → List Int
  | a :: r, b :: s, n => (a + n * b) :: addL r s n
  | l, _, _ => l
abbrev addF (f g : Form) (n : Int) : Form := ⟨addL f.C g.C n, addL f.D g.D n, f.K + n * g.K⟩
theorem addL_nil (l : List Int) (n : Int) : addL l [] n = l := by cases l <;> rfl
theorem addL_len : ∀ (l s : List Int) (n : Int), (addL l s n).length = l.length
  | [], _, _ => by simp [addL]
  | a :: r, [], _ => by simp [addL]
  | a :: r, b :: s, n => by simp [addL, addL_len r s n]
theorem addL_get (n : Int) : ∀ (l s : List Int) (i : Nat), (addL l (s.take i) n).getD i 0 = l.getD i 0
  | [], s, i => by simp [addL]
  | a :: r, s, 0 => by simp [addL]
  | a :: r, [], i + 1 => by simp [addL]
  | a :: r, b :: s, i + 1 => by simpa [addL] using addL_get n r s i
theorem addL_step (n : Int) : ∀ (l s : List Int) (i : Nat), i < s.length → i < l.length → (addL l (s.take i) n).set i (l.getD i 0 + n * s.getD i 0) = addL l (s.take (i + 1)) n
  | [], s, i, _, h => by simp at h
  | a :: r, [], i, h, _ => by simp at h
  | a :: r, b :: s, 0, _, _ => by simp [addL, addL_nil]
  | a :: r, b :: s, i + 1, h, h' => by
    have := addL_step n r s i (by simpa using h) (by simpa using h')
    simpa [addL] using this
theorem addL_zip (n : Int) : ∀ (l s : List Int), l.length = s.length → addL l s n = List.zipWith (fun x y => x + n * y) l s
  | [], [], _ => rfl
  | [], _ :: _, h => by simp at h
  | _ :: _, [], h => by simp at h
  | a :: r, b :: s, h => by simp [addL, addL_zip n r s (by simpa using h)]
theorem impl_add (f g : Form) (n : Int) (hf : (∀ x ∈ f.C, -1000000000000000 ≤ x ∧ x ≤ 1000000000000000) ∧ (∀ x ∈ f.D, -1000000000000000 ≤ x ∧ x ≤ 1000000000000000) ∧ -1000000000000000 ≤ f.K ∧ f.K ≤ 1000000000000000)
    (hg : (∀ x ∈ g.C, -10000000 ≤ x ∧ x ≤ 10000000) ∧ (∀ x ∈ g.D, -10000000 ≤ x ∧ x ≤ 10000000) ∧ -10000000 ≤ g.K ∧ g.K ≤ 10000000) (hn : -10000000000 ≤ n ∧ n ≤ 10000000000) (hC : g.C.length ≤ f.C.length) (hD : g.D.length ≤ f.D.length) (h100 : f.C.length ≤ 100 ∧ f.D.length ≤ 100) :
    Sem P 395 [(.io 0 0, .agg (aF f)), (.pure, .agg (aF g)), (.pure, I n)] [.agg (aF (addF f g n))] (.tup []) := by
  have p6 := mul_bd hn hg.2.2
  have lgC := ints_len g.C
  have lgD := ints_len g.D
  refine fn_okR (E := E0) E0_tab E0_ord (fn := Go.Proofs.Tryz.f395) (by kernel_rfl) (by kernel_rfl) (fun hb => ?_)
  conv => whnf
  (repeat' first | ((first|refine sN ?_|refine Dr.cons ?_|(refine Dr.nil ?_;refine drawIf (by kernel_rfl) ?_)|refine vN rfl ?_|refine Vc.draw rfl (by kernel_rfl) ?_|refine mkSl (by omega) (by omega) ?_);conv=>whnf))
  refine Vc.loop1 (fun (i : Nat) => i ≤ g.C.length) (fun i => updL [0, 2, 4, 8, 9, 11, 12, 31, 32, 33, 34, 35, 36, 37, 38, 39, 40, 41, 42, 43, 44, 45, 46, 47, 48, 49, 50, 51, 52, 53, 54, 55, 56, 57, 58, 59, 60, 61, 62] [(13, I i)] [(0, .arr 3 (ints (addL f.C (g.C.take i) n)) false)]) (fun i => g.C.length - i) 0 (Nat.zero_le _) ?_ (fun i hi => ?_)
  · repeat' (first|exact True.intro|((conv=>whnf);first|exact True.intro|refine ⟨by rfl, ?_⟩|refine ⟨by first|omega|(show (_ : Int) = _;first|omega|(dsimp only;omega)) | exact congrArg ints (addL_nil _ _).symm | exact congrArg ints (addL_nil _ _), ?_⟩ | refine ⟨?_, ?_⟩))
  · have hlo : (ints (addL f.C (g.C.take i) n)).length = f.C.length := by rw [ints_len, addL_len]
    have hlo' := addL_len f.C (g.C.take i) n
    conv => whnf
    (repeat' first | ((first|refine sN ?_|refine Dr.cons ?_|(refine Dr.nil ?_;refine drawIf (by kernel_rfl) ?_)|refine vN rfl ?_|refine Vc.draw rfl (by kernel_rfl) ?_|refine mkSl (by omega) (by omega) ?_);conv=>whnf))
    refine ifB_d (fun gd => ?_) (fun gd => ?_)
    all_goals conv => whnf
    · have b1 := getD_bd hf.1 (i := i) (by omega)
      have p := mul_bd hn (getD_bd hg.1 (i := i) (by omega))
      have e1 := addL_get n f.C g.C i
      have e2 := addL_step n f.C g.C i (by omega) (by omega)
      repeat' first | ((first|refine sN ?_|refine Dr.cons ?_|(refine Dr.nil ?_;refine drawIf (by kernel_rfl) ?_)|refine vN rfl ?_|refine Vc.draw rfl (by kernel_rfl) ?_|refine mkSl (by omega) (by omega) ?_);conv=>whnf) | (refine ifB_i (fun _=>?_) (fun _=>?_)<;>conv=>whnf) | ((first | refine ixN (enc := rI) 0 (by omega) ?_ | refine ioN (by omega) (by omega) ?_ | refine rwN (enc := rI) 0 (by omega) ?_);conv=>whnf) | (refine w64 (by first | omega | (simp only [Int.toNat_natCast]; omega)) (by first | omega | (simp only [Int.toNat_natCast]; omega)) ?_;conv=>whnf)
      refine ⟨i + 1, by omega, by simp only; omega, ?_⟩
      repeat' (first|exact True.intro|((conv=>whnf);first|exact True.intro|refine ⟨by rfl, ?_⟩|refine ⟨by first|omega|(show (_ : Int) = _;first|omega|(dsimp only;omega)) | exact (by simp only [Int.toNat_natCast]; rw [set_ints, e1, e2]), ?_⟩ | refine ⟨?_, ?_⟩))
    · have e : i = g.C.length := by omega
      subst e
      (repeat' first | ((first|refine sN ?_|refine Dr.cons ?_|(refine Dr.nil ?_;refine drawIf (by kernel_rfl) ?_)|refine vN rfl ?_|refine Vc.draw rfl (by kernel_rfl) ?_|refine mkSl (by omega) (by omega) ?_);conv=>whnf))
      refine Vc.loop1 (fun (i : Nat) => i ≤ g.D.length) (fun i => updL [0, 2, 4, 32, 33, 52, 53, 54, 55, 56, 57, 58, 59, 60, 61, 62] [(34, I i)] [(1, .arr 3 (ints (addL f.D (g.D.take i) n)) false)]) (fun i => g.D.length - i) 0 (Nat.zero_le _) ?_ (fun i hi => ?_)
      · repeat' (first|exact True.intro|((conv=>whnf);first|exact True.intro|refine ⟨by rfl, ?_⟩|refine ⟨by first|omega|(show (_ : Int) = _;first|omega|(dsimp only;omega)) | exact congrArg ints (addL_nil _ _).symm | exact congrArg ints (addL_nil _ _), ?_⟩ | refine ⟨?_, ?_⟩))
      · have hlo : (ints (addL f.D (g.D.take i) n)).length = f.D.length := by rw [ints_len, addL_len]
        conv => whnf
        (repeat' first | ((first|refine sN ?_|refine Dr.cons ?_|(refine Dr.nil ?_;refine drawIf (by kernel_rfl) ?_)|refine vN rfl ?_|refine Vc.draw rfl (by kernel_rfl) ?_|refine mkSl (by omega) (by omega) ?_);conv=>whnf))
        refine ifB_d (fun gd => ?_) (fun gd => ?_)
        all_goals conv => whnf
        · have b1 := getD_bd hf.2.1 (i := i) (by omega)
          have p := mul_bd hn (getD_bd hg.2.1 (i := i) (by omega))
          have e1 := addL_get n f.D g.D i
          have e2 := addL_step n f.D g.D i (by omega) (by omega)
          have hlo' := addL_len f.D (g.D.take i) n
          repeat' first | ((first|refine sN ?_|refine Dr.cons ?_|(refine Dr.nil ?_;refine drawIf (by kernel_rfl) ?_)|refine vN rfl ?_|refine Vc.draw rfl (by kernel_rfl) ?_|refine mkSl (by omega) (by omega) ?_);conv=>whnf) | (refine ifB_i (fun _=>?_) (fun _=>?_)<;>conv=>whnf) | ((first | refine ixN (enc := rI) 0 (by omega) ?_ | refine ioN (by omega) (by omega) ?_ | refine rwN (enc := rI) 0 (by omega) ?_);conv=>whnf) | (refine w64 (by first | omega | (simp only [Int.toNat_natCast]; omega)) (by first | omega | (simp only [Int.toNat_natCast]; omega)) ?_;conv=>whnf)
          refine ⟨i + 1, by omega, by simp only; omega, ?_⟩
          repeat' (first|exact True.intro|((conv=>whnf);first|exact True.intro|refine ⟨by rfl, ?_⟩|refine ⟨by first|omega|(show (_ : Int) = _;first|omega|(dsimp only;omega)) | exact (by simp only [Int.toNat_natCast]; rw [set_ints, e1, e2]), ?_⟩ | refine ⟨?_, ?_⟩))
        · have e : i = g.D.length := by omega
          subst e
          repeat' first | ((first|refine sN ?_|refine Dr.cons ?_|(refine Dr.nil ?_;refine drawIf (by kernel_rfl) ?_)|refine vN rfl ?_|refine Vc.draw rfl (by kernel_rfl) ?_|refine mkSl (by omega) (by omega) ?_);conv=>whnf) | (refine ifB_i (fun _=>?_) (fun _=>?_)<;>conv=>whnf) | (refine w64 (by omega) (by omega) ?_;conv=>whnf)
          exact ⟨rfl, by simp only [List.take_length]⟩
theorem impl_checked {f g : Form} (e : f = g) (h : g.ok = true) : Sem P 396 [(.pure, .agg (aF f))] [] (.agg (eF g)) := by
  subst e
  refine fn_okR (E := E0) E0_tab E0_ord (fn := Go.Proofs.Tryz.f396) (by kernel_rfl) (by kernel_rfl) (fun hb => ?_)
  conv => whnf
  repeat' first | ((first|refine sN ?_|refine Dr.cons ?_|(refine Dr.nil ?_;refine drawIf (by kernel_rfl) ?_)|refine vN rfl ?_|refine Vc.draw rfl (by kernel_rfl) ?_|refine mkSl (by omega) (by omega) ?_);conv=>whnf) | (refine ifB_i (fun _=>?_) (fun _=>?_)<;>conv=>whnf) | (refine ⟨_, impl_frmOk f, ?_⟩;conv=>whnf)
  · rename_i h'; rw [h] at h'; cases h'
  · exact ⟨rfl, rfl⟩
def wide (f : Form) : Prop := f.sh ∧ (∀ x ∈ f.C, -1000000000000000 ≤ x ∧ x ≤ 1000000000000000) ∧ (∀ x ∈ f.D, -1000000000000000 ≤ x ∧ x ≤ 1000000000000000) ∧ -1000000000000000 ≤ f.K ∧ f.K ≤ 1000000000000000
theorem addS (f g : Form) (n : Int) (hf : wide f) (hg : g.bd 10000000) (hn : -10000000000 ≤ n ∧ n ≤ 10000000000) : Sem P 395 [(.io 0 0, .agg (aF f)), (.pure, .agg (aF g)), (.pure, I n)] [.agg (aF (addF f g n))] (.tup []) :=
  impl_add f g n hf.2 hg.2 hn (by rw [hf.1.1, hg.1.1]; exact Nat.le_refl _) (by rw [hf.1.2, hg.1.2]; exact Nat.le_refl _) (by rw [hf.1.1, hf.1.2]; decide)
theorem wide_zero : wide Form.zero := ⟨⟨rfl, rfl⟩, by simp [Form.zero], by simp [Form.zero], by decide, by decide⟩
theorem addF_lin {f g : Form} {n : Int} (hf : f.sh) (hg : g.sh) : addF f g n = lin f g n := by
  simp only [addF, lin]
  rw [addL_zip n _ _ (by rw [hf.1, hg.1]), addL_zip n _ _ (by rw [hf.2, hg.2])]
theorem bd_wide {f : Form} {m : Int} (h : f.bd m) (hm : m ≤ 1000000000000000) : wide f := by
  have h := bd_mono h hm
  exact ⟨h.1, h.2.1, h.2.2.1, h.2.2.2⟩
theorem impl_times (a : Form) (n : Int) (ha : a.bd 10000000) (hn : -10000000 ≤ n ∧ n ≤ 10000000) (hk : (lin Form.zero a n).ok = true) : Sem P 375 [(.pure, .agg (aF a)), (.pure, I n)] [] (.agg (eF (lin Form.zero a n))) := by
  have e1 : addF Form.zero a n = lin Form.zero a n := addF_lin ⟨rfl, rfl⟩ ha.1
  have ok1 := ok_bd.2 ha
  have in1 : inB n (-10000000) 10000000 = true := inB_iff.2 hn
  refine fn_okR (E := { E0 with keep := [4000], fz := [(5, [320160, 320161])] }) E0_tab E0_ord (fn := Go.Proofs.Tryz.f375) (by kernel_rfl) (by kernel_rfl) (fun hb => ?_)
  conv => whnf
  repeat' first | ((first|refine sN ?_|refine Dr.cons ?_|(refine Dr.nil ?_;refine drawIf (by kernel_rfl) ?_)|refine vN rfl ?_|refine Vc.draw rfl (by kernel_rfl) ?_|refine mkSl (by omega) (by omega) ?_);conv=>whnf) | (refine ifB_i (fun _=>?_) (fun _=>?_)<;>conv=>whnf) | ((first | refine ⟨_, impl_frmOk a, ?_⟩ | refine ⟨_, impl_in _ _ _, ?_⟩ | refine ⟨_, impl_zero, ?_⟩ | refine ⟨_, _, addS Form.zero a n wide_zero ha (by omega), ?_⟩ | refine ⟨_, impl_checked e1 hk, ?_⟩);conv=>whnf)
  all_goals first
    | exact ⟨rfl, rfl⟩
    | (exfalso; simp_all; done)
theorem impl_frmAdd (a b : Form) (ha : a.bd 10000000) (hb' : b.bd 10000000) (hk : (lin a b 1).ok = true) : Sem P 376 [(.pure, .agg (aF a)), (.pure, .agg (aF b))] [] (.agg (eF (lin a b 1))) := by
  have e0 : addF Form.zero a 1 = a := by rw [addF_lin ⟨rfl, rfl⟩ ha.1, lin1 ha.1]
  have e1 : addF (addF Form.zero a 1) b 1 = lin a b 1 := by rw [e0]; exact addF_lin ha.1 hb'.1
  have w1 : wide (addF Form.zero a 1) := by rw [e0]; exact bd_wide ha (by decide)
  have ok1 := ok_bd.2 ha
  have ok2 := ok_bd.2 hb'
  refine fn_okR (E := { E0 with keep := [4000], fz := [(6, [384096, 384097])] }) E0_tab E0_ord (fn := Go.Proofs.Tryz.f376) (by kernel_rfl) (by kernel_rfl) (fun hb => ?_)
  conv => whnf
  repeat' first | ((first|refine sN ?_|refine Dr.cons ?_|(refine Dr.nil ?_;refine drawIf (by kernel_rfl) ?_)|refine vN rfl ?_|refine Vc.draw rfl (by kernel_rfl) ?_|refine mkSl (by omega) (by omega) ?_);conv=>whnf) | (refine ifB_i (fun _=>?_) (fun _=>?_)<;>conv=>whnf) | ((first | refine ⟨_, impl_frmOk a, ?_⟩ | refine ⟨_, impl_frmOk b, ?_⟩ | refine ⟨_, impl_zero, ?_⟩ | refine ⟨_, _, addS Form.zero a 1 wide_zero ha (by decide), ?_⟩ | refine ⟨_, _, addS (addF Form.zero a 1) b 1 w1 hb' (by decide), ?_⟩ | refine ⟨_, impl_checked e1 hk, ?_⟩);conv=>whnf)
  all_goals first
    | exact ⟨rfl, rfl⟩
    | (exfalso; simp_all; done)
theorem into_1 (f : Form) : Sem P 394 [(.pure, .agg (aF f))] [] (B (!f.ok)) := by
  refine fn_okR (E := E0) E0_tab E0_ord (fn := Go.Proofs.Tryz.f394) (by kernel_rfl) (by kernel_rfl) (fun hb => ?_)
  conv => whnf
  repeat' first | ((first|refine sN ?_|refine Dr.cons ?_|(refine Dr.nil ?_;refine drawIf (by kernel_rfl) ?_)|refine vN rfl ?_|refine Vc.draw rfl (by kernel_rfl) ?_|refine mkSl (by omega) (by omega) ?_);conv=>whnf) | (refine ifB_i (fun _=>?_) (fun _=>?_)<;>conv=>whnf) | (refine ⟨_, impl_frmOk f, ?_⟩;conv=>whnf)
  exact ⟨rfl, rfl⟩
theorem forms_any_ix  (l : List Form) : Sem P 363 [(.pure, .one (sFs l)), (.pure, .one (.fn 394 []))] [] (I (idxOf (fun (x : Form) => !x.ok) l)) := by
  refine fn_okR (E := E0) E0_tab E0_ord (fn := Go.Proofs.Tryz.f363) (by kernel_rfl) (by kernel_rfl) (fun hb => ?_)
  have la : (l.map eF).length = l.length := List.length_map ..
  have hb1 : (l.map eF).length ≤ 1125899906842624 := hb.1.1
  conv => whnf
  (repeat' first | ((first|refine sN ?_|refine Dr.cons ?_|(refine Dr.nil ?_;refine drawIf (by kernel_rfl) ?_)|refine vN rfl ?_|refine Vc.draw rfl (by kernel_rfl) ?_|refine mkSl (by omega) (by omega) ?_);conv=>whnf))
  refine Vc.loop { i : Nat // ∀ j, j < i → j < l.length → (fun (x : Form) => !x.ok) (l.getD j default) = false } (fun i => updL [0, 1, 7] [(8, I i.1)] []) (fun i => l.length - i.1) ⟨0, by simp⟩ ?_ (fun i => ?_)
  · repeat' (first | exact True.intro | ((conv => whnf); first | exact True.intro | refine ⟨by rfl, ?_⟩ | refine ⟨?_, ?_⟩))
  · have hi := i.2
    conv => whnf
    (repeat' first | ((first|refine sN ?_|refine Dr.cons ?_|(refine Dr.nil ?_;refine drawIf (by kernel_rfl) ?_)|refine vN rfl ?_|refine Vc.draw rfl (by kernel_rfl) ?_|refine mkSl (by omega) (by omega) ?_);conv=>whnf))
    refine ifB_d (fun g => ?_) (fun g => ?_)
    all_goals conv => whnf
    · repeat' first | ((first|refine sN ?_|refine Dr.cons ?_|(refine Dr.nil ?_;refine drawIf (by kernel_rfl) ?_)|refine vN rfl ?_|refine Vc.draw rfl (by kernel_rfl) ?_|refine mkSl (by omega) (by omega) ?_);conv=>whnf) | (refine ifB_i (fun _=>?_) (fun _=>?_)<;>conv=>whnf) | ((first | refine ixN (enc := eF) default (by omega) ?_ | refine ⟨_, into_1 _, ?_⟩ | refine w64 (by omega) (by omega) ?_);conv=>whnf)
      · rename_i h
        exact rI' (idx_hit (p := fun (x : Form) => !x.ok) default (by omega) h fun j hj => hi j hj (by omega)).symm
      · rename_i h
        refine ⟨⟨i.1 + 1, fun j hj hl => ?_⟩, ?_, ?_⟩
        · by_cases hji : j < i.1
          · exact hi j hji hl
          · obtain rfl : j = i.1 := by omega
            exact h
        · simp only; omega
        · repeat' (first | exact True.intro | ((conv => whnf); first | exact True.intro | refine ⟨by rfl, ?_⟩ | refine ⟨?_, ?_⟩))
    · (repeat' first | ((first|refine sN ?_|refine Dr.cons ?_|(refine Dr.nil ?_;refine drawIf (by kernel_rfl) ?_)|refine vN rfl ?_|refine Vc.draw rfl (by kernel_rfl) ?_|refine mkSl (by omega) (by omega) ?_);conv=>whnf))
      exact rI' (idx_none (p := fun (x : Form) => !x.ok) default fun j hj => hi j (by omega) hj).symm
theorem forms_any  (l : List Form) : Sem P 328 [(.pure, .one (sFs l)), (.pure, .one (.fn 394 []))] [] (B (l.any fun (x : Form) => !x.ok)) := by
  refine fn_okR (E := E0) E0_tab E0_ord (fn := Go.Proofs.Tryz.f328) (by kernel_rfl) (by kernel_rfl) (fun hb => ?_)
  conv => whnf
  repeat' first | ((first|refine sN ?_|refine Dr.cons ?_|(refine Dr.nil ?_;refine drawIf (by kernel_rfl) ?_)|refine vN rfl ?_|refine Vc.draw rfl (by kernel_rfl) ?_|refine mkSl (by omega) (by omega) ?_);conv=>whnf) | (refine ifB_i (fun _=>?_) (fun _=>?_)<;>conv=>whnf) | (refine ⟨_, forms_any_ix  l, ?_⟩;conv=>whnf)
  exact rB (idx_any _ _)
abbrev intoN (a b c : Int) (p q r : Form) : Nat → Form
  | 0 => Form.zero
  | 1 => addF Form.zero p a
  | 2 => addF (addF Form.zero p a) q b
  | _ => addF (addF (addF Form.zero p a) q b) r c
theorem impl_into (f p q r : Form) (hf : f.bd 10000000) (hp : p.bd 10000000) (hq : q.bd 10000000) (hr : r.bd 10000000) (hk : (into f [p, q, r]).ok = true) : Sem P 374 [(.pure, .agg (aF f)), (.pure, .one (sFs [p, q, r]))] [] (.agg (eF (into f [p, q, r]))) := by
  have okf := ok_bd.2 hf
  have okp := ok_bd.2 hp
  have okq := ok_bd.2 hq
  have okr := ok_bd.2 hr
  obtain ⟨a, b, c, d, e, k, rfl, h1, h2, h3, h4, h5, h6⟩ := bdE hf
  have b1 : (lin Form.zero p a).bd 100000000000000 := bd_mono (lin_bd (m := 0) zero_bd hp h1) (by decide)
  have e1 : addF Form.zero p a = lin Form.zero p a := addF_lin ⟨rfl, rfl⟩ hp.1
  have b2 : (lin (lin Form.zero p a) q b).bd 200000000000000 := bd_mono (lin_bd b1 hq h2) (by decide)
  have e2 : addF (addF Form.zero p a) q b = lin (lin Form.zero p a) q b := by rw [e1]; exact addF_lin b1.1 hq.1
  have b3 : (lin (lin (lin Form.zero p a) q b) r c).bd 300000000000000 := bd_mono (lin_bd b2 hr h3) (by decide)
  have e3 : addF (addF (addF Form.zero p a) q b) r c = lin (lin (lin Form.zero p a) q b) r c := by rw [e2]; exact addF_lin b2.1 hr.1
  have w1 : wide (addF Form.zero p a) := by rw [e1]; exact bd_wide b1 (by decide)
  have w2 : wide (addF (addF Form.zero p a) q b) := by rw [e2]; exact bd_wide b2 (by decide)
  have w3 : wide (addF (addF (addF Form.zero p a) q b) r c) := by rw [e3]; exact bd_wide b3 (by decide)
  have eL : addF (addF (addF (addF Form.zero p a) q b) r c) ⟨[], [d, e], k⟩ 1 = into ⟨[a, b, c], [d, e], k⟩ [p, q, r] := by
    rw [e3, into_eq]
    obtain ⟨p1, p2, p3, p4, p5, p6, rfl, _⟩ := bdE hp
    obtain ⟨q1, q2, q3, q4, q5, q6, rfl, _⟩ := bdE hq
    obtain ⟨r1, r2, r3, r4, r5, r6, rfl, _⟩ := bdE hr
    simp only [addF, addL, lin, Form.zero, List.zipWith_cons_cons, List.zipWith_nil_right, Form.mk.injEq, List.cons.injEq, and_true, true_and]
    omega
  refine fn_okR (E := { E0 with keep := [4000], fz := [(10, [640352, 640353])] }) E0_tab E0_ord (fn := Go.Proofs.Tryz.f374) (by kernel_rfl) (by kernel_rfl) (fun hb => ?_)
  conv => whnf
  repeat' first | ((first|refine sN ?_|refine Dr.cons ?_|(refine Dr.nil ?_;refine drawIf (by kernel_rfl) ?_)|refine vN rfl ?_|refine Vc.draw rfl (by kernel_rfl) ?_|refine mkSl (by omega) (by omega) ?_);conv=>whnf) | (refine ifB_i (fun _=>?_) (fun _=>?_)<;>conv=>whnf) | ((first | refine ⟨_, impl_frmOk ⟨[a, b, c], [d, e], k⟩, ?_⟩ | refine ⟨_, forms_any [p, q, r], ?_⟩ | refine ⟨_, impl_zero, ?_⟩);conv=>whnf)
  all_goals first
    | (exfalso; simp_all; done)
    | skip
  refine Vc.loop1 (fun (i : Nat) => i ≤ 3) (fun i => updL [2, 4, 5, 22, 23, 37, 38, 39, 40, 41, 43, 44] [(24, I i)] [(256064, .box [.ref 256000, .ref 256001, eI (intoN a b c p q r i).K]), (256000, .arr 3 (ints (intoN a b c p q r i).C) false), (256001, .arr 3 (ints (intoN a b c p q r i).D) false)]) (fun i => 3 - i) 0 (by omega) ?_ (fun i hi => ?_)
  · repeat' (first|exact True.intro|((conv=>whnf);first|exact True.intro|refine ⟨by rfl, ?_⟩|refine ⟨by first|omega|(show (_ : Int) = _;first|omega|(dsimp only;omega)), ?_⟩ | refine ⟨?_, ?_⟩))
  · match i, hi with
    | 0, _ =>
      conv => whnf
      repeat' first | ((first|refine sN ?_|refine Dr.cons ?_|(refine Dr.nil ?_;refine drawIf (by kernel_rfl) ?_)|refine vN rfl ?_|refine Vc.draw rfl (by kernel_rfl) ?_|refine mkSl (by omega) (by omega) ?_);conv=>whnf) | (refine ifB_i (fun _=>?_) (fun _=>?_)<;>conv=>whnf) | ((first | refine ixK rfl ?_ | refine w64 (by omega) (by omega) ?_ | refine ⟨_, _, addS Form.zero p a wide_zero hp (by omega), ?_⟩);conv=>whnf)
      refine ⟨1, by omega, by simp only; omega, ?_⟩
      repeat' (first|exact True.intro|((conv=>whnf);first|exact True.intro|refine ⟨by rfl, ?_⟩|refine ⟨by first|omega|(show (_ : Int) = _;first|omega|(dsimp only;omega)), ?_⟩ | refine ⟨?_, ?_⟩))
    | 1, _ =>
      conv => whnf
      repeat' first | ((first|refine sN ?_|refine Dr.cons ?_|(refine Dr.nil ?_;refine drawIf (by kernel_rfl) ?_)|refine vN rfl ?_|refine Vc.draw rfl (by kernel_rfl) ?_|refine mkSl (by omega) (by omega) ?_);conv=>whnf) | (refine ifB_i (fun _=>?_) (fun _=>?_)<;>conv=>whnf) | ((first | refine ixK rfl ?_ | refine w64 (by omega) (by omega) ?_ | refine ⟨_, _, addS (addF Form.zero p a) q b w1 hq (by omega), ?_⟩);conv=>whnf)
      refine ⟨2, by omega, by simp only; omega, ?_⟩
      repeat' (first|exact True.intro|((conv=>whnf);first|exact True.intro|refine ⟨by rfl, ?_⟩|refine ⟨by first|omega|(show (_ : Int) = _;first|omega|(dsimp only;omega)), ?_⟩ | refine ⟨?_, ?_⟩))
    | 2, _ =>
      conv => whnf
      repeat' first | ((first|refine sN ?_|refine Dr.cons ?_|(refine Dr.nil ?_;refine drawIf (by kernel_rfl) ?_)|refine vN rfl ?_|refine Vc.draw rfl (by kernel_rfl) ?_|refine mkSl (by omega) (by omega) ?_);conv=>whnf) | (refine ifB_i (fun _=>?_) (fun _=>?_)<;>conv=>whnf) | ((first | refine ixK rfl ?_ | refine w64 (by omega) (by omega) ?_ | refine ⟨_, _, addS (addF (addF Form.zero p a) q b) r c w2 hr (by omega), ?_⟩);conv=>whnf)
      refine ⟨3, by omega, by simp only; omega, ?_⟩
      repeat' (first|exact True.intro|((conv=>whnf);first|exact True.intro|refine ⟨by rfl, ?_⟩|refine ⟨by first|omega|(show (_ : Int) = _;first|omega|(dsimp only;omega)), ?_⟩ | refine ⟨?_, ?_⟩))
    | 3, _ =>
      conv => whnf
      repeat' first | ((first|refine sN ?_|refine Dr.cons ?_|(refine Dr.nil ?_;refine drawIf (by kernel_rfl) ?_)|refine vN rfl ?_|refine Vc.draw rfl (by kernel_rfl) ?_|refine mkSl (by omega) (by omega) ?_);conv=>whnf) | (refine ifB_i (fun _=>?_) (fun _=>?_)<;>conv=>whnf) | (refine ⟨_, _, impl_add (addF (addF (addF Form.zero p a) q b) r c) ⟨[], [d, e], k⟩ 1 w3.2 ⟨by simp, hf.2.2.1, hf.2.2.2⟩ (by decide) (by simp) (by rw [w3.1.2]; exact Nat.le_refl _) (by rw [w3.1.1, w3.1.2]; decide), ?_⟩;conv=>whnf) | (refine ⟨_, impl_checked eL hk, ?_⟩;conv=>whnf)
      exact ⟨rfl, rfl⟩
end Cc
end
section
namespace Cc
open Go Go.AM
set_option maxRecDepth 100000
set_option maxHeartbeats 8000000
theorem lin_neg {p f : Form} (hp : p.sh) (hf : f.sh) : lin p (lin Form.zero f (-1)) 1 = lin p f (-1) := by
  obtain ⟨C, D, K⟩ := p
  obtain ⟨C', D', K'⟩ := f
  obtain ⟨a, b, c, rfl⟩ := len3 hp.1
  obtain ⟨d, e, rfl⟩ := len2 hp.2
  obtain ⟨a', b', c', rfl⟩ := len3 hf.1
  obtain ⟨d', e', rfl⟩ := len2 hf.2
  simp [lin, Form.zero]
theorem impl_walk (act : List Line) (h6 : act.length ≤ 6) (hok : ∀ x ∈ act, x.ok = true) : ∀ (n i : Nat), act.length - i < n → i ≤ 100 → ∀ (p q r : Form) (g t : List Form), Wk act i p q r g t → ∀ (rs : List (List AV)), rs.length + (walk (act.drop i) [p, q, r] g t).length ≤ 1000 →
    ∀ (j : Int) (rp rg rt : List (List AV)), j = i → rp = [p, q, r].map eF → rg = g.map eF → rt = t.map eF →
    Sem P 342 [(.io 0 0, .agg [fLs act, .sl 289 rs]), (.pure, I j), (.own, .one (.sl 129 rg)), (.own, .one (.sl 129 rp)), (.own, .one (.sl 129 rt))]
      [.agg [fLs act, .sl 289 (rs ++ (walk (act.drop i) [p, q, r] g t).map eW)]] (.tup []) := by
  intro n
  induction n with
  | zero => intro i h; omega
  | succ n ih =>
    intro i0 hn h100 p0 q0 r0 g0 t0 hw0 rs hrs j rp rg rt rfl rfl rfl rfl
    refine fn_okR (E := { E0 with keep := [9004, 9009, 9011, 12001, 15001, 18001], fz := [(1000000, [128, 192, 256]), (1, [768064, 768256, 960064, 1152064, 1152256]), (24, [1216386])] }) E0_tab E0_ord (fn := Go.Proofs.Tryz.f342) (by kernel_rfl) (by kernel_rfl) (fun hb => ?_)
    have la : (act.map eL).length = act.length := List.length_map ..
    conv => whnf
    (repeat' first | ((first|refine sN ?_|refine Dr.cons ?_|(refine Dr.nil ?_;refine drawIf (by kernel_rfl) ?_)|refine vN rfl ?_|refine Vc.draw rfl (by kernel_rfl) ?_|refine mkSl (by omega) (by omega) ?_);conv=>whnf))
    refine Vc.loop6 (fun (i : Nat) (ps g t : List Form) (d : List Row) (_ : Unit) => ∃ p q r, ps = [p, q, r] ∧ i ≤ 100 ∧ act.length - i < n + 1 ∧ Wk act i p q r g t ∧ d ++ walk (act.drop i) [p, q, r] g t = walk (act.drop i0) [p0, q0, r0] g0 t0)
      (fun i ps g t d _ => updL [0, 13, 14, 15, 105, 106, 107, 108, 109, 110, 111, 112, 113, 114, 115, 116, 117, 118, 119, 120, 121, 122, 123, 124, 125, 126, 127, 128, 129, 130, 131, 132, 133, 134, 135, 136, 137] [(1, I i), (2, .one (fFs g)), (3, .one (fFs ps)), (4, .one (fFs t))] [(63, .box [fLs act, .ref 1]), (1, .arr 289 (rs ++ d.map eW) false)]) (fun i _ _ _ _ _ => act.length - i) i0 [p0, q0, r0] g0 t0 [] () ⟨p0, q0, r0, rfl, h100, hn, hw0, rfl⟩ ?_ (fun i ps g t d _ hs => ?_)
    · repeat' (first|exact True.intro|((conv=>whnf);first|exact True.intro|refine ⟨by rfl, ?_⟩|refine ⟨by first|omega|(show (_ : Int) = _;first|omega|(dsimp only;omega)) | exact by simp, ?_⟩ | refine ⟨?_, ?_⟩))
    · obtain ⟨p, q, r, rfl, h100', hn', w, hW⟩ := hs
      have wp := w.pots
      have wl := w.lists
      have m7 : ∀ {f : Form}, f.bd 1000000 → f.bd 10000000 := fun h => bd_mono h (by decide)
      have m8 : ∀ {f : Form}, f.bd 588246 → f.bd 10000000 := fun h => bd_mono h (by decide)
      have sg : shs g := ⟨by have := wl.1.1; omega, fun f hf => (wl.1.2 f hf).1⟩
      have st : shs t := ⟨by have := wl.2.1; omega, fun f hf => (wl.2.2 f hf).1⟩
      have sps : shs [p, q, r] := ⟨by simp, by simp only [List.mem_cons, List.not_mem_nil, or_false]; rintro f (rfl | rfl | rfl); exact wp.1.1; exact wp.2.1.1; exact wp.2.2.1⟩
      have hln := congrArg List.length hW
      rw [List.length_append] at hln
      conv => whnf
      (repeat' first | ((first|refine sN ?_|refine Dr.cons ?_|(refine Dr.nil ?_;refine drawIf (by kernel_rfl) ?_)|refine vN rfl ?_|refine Vc.draw rfl (by kernel_rfl) ?_|refine mkSl (by omega) (by omega) ?_);conv=>whnf))
      refine ifB_d (fun gd => ?_) (fun gd => ?_)
      all_goals conv => whnf
      · have hil : i < act.length := by omega
        have hx := hok (act.getD i default) (gd_mem hil)
        by_cases h4 : (act.getD i default).Kind = 4
        · rw [walk_stop hil h4] at hln
          repeat' first | ((first|refine sN ?_|refine Dr.cons ?_|(refine Dr.nil ?_;refine drawIf (by kernel_rfl) ?_)|refine vN rfl ?_|refine Vc.draw rfl (by kernel_rfl) ?_|refine mkSl (by omega) (by omega) ?_);conv=>whnf) | (refine ifB_i (fun _=>?_) (fun _=>?_)<;>conv=>whnf) | ((first | refine ixN (enc := eL) default hil ?_ | refine ⟨_, impl_forms g sg, ?_⟩);conv=>whnf) | (refine apN (by simp only [List.length_append, List.length_map, List.length_cons, List.length_nil] at hln ⊢; omega) ?_;conv=>whnf)
          · exact ⟨rfl, by rw [← hW, walk_stop hil h4]; simp⟩
          all_goals (exfalso; simp_all; done)
        · have hs := line_small hx h4
          have wi := w.into hil hs
          have wm := w.minus hil hs
          have fb : (act.getD i default).Form.bd 10000000 := (small_form hs).1
          rcases line_kind hx with hk | hk | hk | hk
          · have hsk := line_skip hx hk
            rw [walk_test hil hk, List.length_append] at hln
            have ihy := ih (i + 1) (by omega) (by omega) p q r (g ++ [into (act.getD i default).Form [p, q, r]]) t (w.on hil hs (by omega) (.inr ⟨_, wi, rfl⟩) (.inl rfl)) (rs ++ d.map eW) (by simp only [List.length_append, List.length_map]; omega)
            have b1 := lin_bd (k := 1) zero_bd wi (n := -1) (by decide)
            have hK := b1.2.2.2
            have es : ((i + 1 + (act.getD i default).Skip.toNat : Nat) : Int) = i + (act.getD i default).Skip + 1 := by omega
            repeat' first | ((first|refine sN ?_|refine Dr.cons ?_|(refine Dr.nil ?_;refine drawIf (by kernel_rfl) ?_)|refine vN rfl ?_|refine Vc.draw rfl (by kernel_rfl) ?_|refine mkSl (by omega) (by omega) ?_);conv=>whnf) | (refine ifB_i (fun _=>?_) (fun _=>?_)<;>conv=>whnf) | ((first | refine ixN (enc := eL) default hil ?_ | refine ⟨_, impl_into (act.getD i default).Form p q r fb (m7 wp.1) (m7 wp.2.1) (m7 wp.2.2) (ok_bd.2 (m8 wi)), ?_⟩ | refine ⟨_, impl_forms g sg, ?_⟩ | refine ⟨_, impl_forms t st, ?_⟩ | refine ⟨_, impl_forms [p, q, r] sps, ?_⟩ | refine w64 (by omega) (by omega) ?_ | refine ⟨_, _, ihy _ _ _ _ (by omega) rfl (by simp) rfl, ?_⟩ | refine ⟨_, impl_times (into (act.getD i default).Form [p, q, r]) (-1) (m8 wi) (by decide) (bd_ok b1 (by decide)), ?_⟩);conv=>whnf) | (refine apN (by first | (simp only [List.length_map]; omega) | (simp; omega) | (exfalso; simp_all; done)) ?_;conv=>whnf)
            all_goals first
              | (exfalso; simp_all; done)
              | skip
            refine ⟨i + 1 + (act.getD i default).Skip.toNat, [p, q, r], g ++ [minus (into (act.getD i default).Form [p, q, r])], t, d ++ walk (act.drop (i + 1)) [p, q, r] (g ++ [into (act.getD i default).Form [p, q, r]]) t, (), ⟨p, q, r, rfl, by omega, by omega, w.on hil hs (by omega) (.inr ⟨_, wm, rfl⟩) (.inl rfl), by rw [← hW, walk_test hil hk, List.append_assoc]⟩, show act.length - (i + 1 + (act.getD i default).Skip.toNat) < act.length - i from by omega, ?_⟩
            repeat' (first|exact True.intro|((conv=>whnf);first|exact True.intro|refine ⟨by rfl, ?_⟩|refine ⟨by first|omega|(show (_ : Int) = _;first|omega|(dsimp only;omega)) | exact (List.map_append (f := eF) (l₁ := g) (l₂ := [minus (into (act.getD i default).Form [p, q, r])])).symm | exact es.symm | exact by simp, ?_⟩ | refine ⟨?_, ?_⟩))
          · obtain ⟨hp0, hp2⟩ := line_pot hx hk
            rw [walk_add hil hk] at hln
            have ok1 : ∀ {x : Form}, (x = p ∨ x = q ∨ x = r) → (lin x (into (act.getD i default).Form [p, q, r]) 1).ok = true := fun h => bd_ok (w.sum hil hs h) (by decide)
            have hpot : (act.getD i default).Pot = 0 ∨ (act.getD i default).Pot = 1 ∨ (act.getD i default).Pot = 2 := by omega
            rcases hpot with hpot | hpot | hpot
            all_goals repeat' first | ((first|refine sN ?_|refine Dr.cons ?_|(refine Dr.nil ?_;refine drawIf (by kernel_rfl) ?_)|refine vN rfl ?_|refine Vc.draw rfl (by kernel_rfl) ?_|refine mkSl (by omega) (by omega) ?_);conv=>whnf) | (refine ifB_i (fun _=>?_) (fun _=>?_)<;>conv=>whnf) | ((first | refine ixN (enc := eL) default hil ?_ | refine ⟨_, impl_into (act.getD i default).Form p q r fb (m7 wp.1) (m7 wp.2.1) (m7 wp.2.2) (ok_bd.2 (m8 wi)), ?_⟩ | refine ⟨_, impl_forms g sg, ?_⟩ | refine ⟨_, impl_forms t st, ?_⟩ | refine ⟨_, impl_forms [p, q, r] sps, ?_⟩ | refine w64 (by omega) (by omega) ?_ | refine ⟨_, impl_frmAdd p (into (act.getD i default).Form [p, q, r]) (m7 wp.1) (m8 wi) (ok1 (.inl rfl)), ?_⟩ | refine ⟨_, impl_frmAdd q (into (act.getD i default).Form [p, q, r]) (m7 wp.2.1) (m8 wi) (ok1 (.inr (.inl rfl))), ?_⟩ | refine ⟨_, impl_frmAdd r (into (act.getD i default).Form [p, q, r]) (m7 wp.2.2) (m8 wi) (ok1 (.inr (.inr rfl))), ?_⟩);conv=>whnf) | ((rw [hpot];conv=>whnf)) | ((first | refine ioN (by decide) (by simp) ?_ | refine rwC rfl ?_);conv=>whnf)
            all_goals first
              | (exfalso; simp_all; done)
              | skip
            · refine ⟨i + 1, [lin p (into (act.getD i default).Form [p, q, r]) 1, q, r], g, t, d, (), ⟨_, _, _, rfl, by omega, by omega, w.add hil hs (.inr rfl) (.inl rfl) (.inl rfl), by rw [← hW, walk_add hil hk, hpot]; rfl⟩, show act.length - (i + 1) < act.length - i from by omega, ?_⟩
              repeat' (first|exact True.intro|((conv=>whnf);first|exact True.intro|refine ⟨by rfl, ?_⟩|refine ⟨by first|omega|(show (_ : Int) = _;first|omega|(dsimp only;omega)), ?_⟩ | refine ⟨?_, ?_⟩))
            · refine ⟨i + 1, [p, lin q (into (act.getD i default).Form [p, q, r]) 1, r], g, t, d, (), ⟨_, _, _, rfl, by omega, by omega, w.add hil hs (.inl rfl) (.inr rfl) (.inl rfl), by rw [← hW, walk_add hil hk, hpot]; rfl⟩, show act.length - (i + 1) < act.length - i from by omega, ?_⟩
              repeat' (first|exact True.intro|((conv=>whnf);first|exact True.intro|refine ⟨by rfl, ?_⟩|refine ⟨by first|omega|(show (_ : Int) = _;first|omega|(dsimp only;omega)), ?_⟩ | refine ⟨?_, ?_⟩))
            · refine ⟨i + 1, [p, q, lin r (into (act.getD i default).Form [p, q, r]) 1], g, t, d, (), ⟨_, _, _, rfl, by omega, by omega, w.add hil hs (.inl rfl) (.inl rfl) (.inr rfl), by rw [← hW, walk_add hil hk, hpot]; rfl⟩, show act.length - (i + 1) < act.length - i from by omega, ?_⟩
              repeat' (first|exact True.intro|((conv=>whnf);first|exact True.intro|refine ⟨by rfl, ?_⟩|refine ⟨by first|omega|(show (_ : Int) = _;first|omega|(dsimp only;omega)), ?_⟩ | refine ⟨?_, ?_⟩))
          · rw [walk_tell hil hk] at hln
            repeat' first | ((first|refine sN ?_|refine Dr.cons ?_|(refine Dr.nil ?_;refine drawIf (by kernel_rfl) ?_)|refine vN rfl ?_|refine Vc.draw rfl (by kernel_rfl) ?_|refine mkSl (by omega) (by omega) ?_);conv=>whnf) | (refine ifB_i (fun _=>?_) (fun _=>?_)<;>conv=>whnf) | ((first | refine ixN (enc := eL) default hil ?_ | refine ⟨_, impl_into (act.getD i default).Form p q r fb (m7 wp.1) (m7 wp.2.1) (m7 wp.2.2) (ok_bd.2 (m8 wi)), ?_⟩ | refine ⟨_, impl_forms g sg, ?_⟩ | refine ⟨_, impl_forms t st, ?_⟩ | refine ⟨_, impl_forms [p, q, r] sps, ?_⟩ | refine w64 (by omega) (by omega) ?_);conv=>whnf) | (refine apN (by first | (simp only [List.length_map]; omega) | (simp; omega) | (exfalso; simp_all; done)) ?_;conv=>whnf)
            all_goals first
              | (exfalso; simp_all; done)
              | skip
            refine ⟨i + 1, [p, q, r], g, t ++ [into (act.getD i default).Form [p, q, r]], d, (), ⟨_, _, _, rfl, by omega, by omega, w.on hil hs (by omega) (.inl rfl) (.inr ⟨_, wi, rfl⟩), by rw [← hW, walk_tell hil hk]⟩, show act.length - (i + 1) < act.length - i from by omega, ?_⟩
            repeat' (first|exact True.intro|((conv=>whnf);first|exact True.intro|refine ⟨by rfl, ?_⟩|refine ⟨by first|omega|(show (_ : Int) = _;first|omega|(dsimp only;omega)) | exact (List.map_append (f := eF) (l₁ := t) (l₂ := [into (act.getD i default).Form [p, q, r]])).symm, ?_⟩ | refine ⟨?_, ?_⟩))
          · exact absurd hk h4
      · repeat' first | ((first|refine sN ?_|refine Dr.cons ?_|(refine Dr.nil ?_;refine drawIf (by kernel_rfl) ?_)|refine vN rfl ?_|refine Vc.draw rfl (by kernel_rfl) ?_|refine mkSl (by omega) (by omega) ?_);conv=>whnf) | (refine ifB_i (fun _=>?_) (fun _=>?_)<;>conv=>whnf) | ((first | refine ⟨_, impl_forms g sg, ?_⟩ | refine ⟨_, impl_forms t st, ?_⟩);conv=>whnf)
        have oz : ∀ v, (lin Form.zero (Form.pot v) (-1)).bd 1 := fun v => bd_mono (lin_bd (k := 1) zero_bd (pot_bd v) (by decide)) (by decide)
        have pz : ∀ v, (Form.pot v).bd 10000000 := fun v => bd_mono (pot_bd v) (by decide)
        have oa : ∀ {x : Form} (v : Nat), x.bd 1000000 → (lin x (lin Form.zero (Form.pot v) (-1)) 1).ok = true := fun v h => bd_ok (lin_bd (k := 1) h (oz v) (by decide)) (by decide)
        rw [walk_end (by omega)] at hln hW
        refine Vc.loop1 (fun (v : Nat) => v ≤ 3) (fun v => updL [0, 13, 110, 111, 128, 129, 130, 131, 132, 133, 134, 135, 136, 137] [(112, I v)] [(1216320, .box [fFs g, .ref 1216386, fFs t, eB false]), (1216386, .arr 129 (([lin p (lin Form.zero (Form.pot 0) (-1)) 1, lin q (lin Form.zero (Form.pot 1) (-1)) 1, lin r (lin Form.zero (Form.pot 2) (-1)) 1].take v).map eF) false)]) (fun v => 3 - v) 0 (by omega) ?_ (fun v hv => ?_)
        · repeat' (first|exact True.intro|((conv=>whnf);first|exact True.intro|refine ⟨by rfl, ?_⟩|refine ⟨by first|omega|(show (_ : Int) = _;first|omega|(dsimp only;omega)), ?_⟩ | refine ⟨?_, ?_⟩))
        · match v, hv with
          | 0, _ =>
            conv => whnf
            repeat' first | ((first|refine sN ?_|refine Dr.cons ?_|(refine Dr.nil ?_;refine drawIf (by kernel_rfl) ?_)|refine vN rfl ?_|refine Vc.draw rfl (by kernel_rfl) ?_|refine mkSl (by omega) (by omega) ?_);conv=>whnf) | (refine ifB_i (fun _=>?_) (fun _=>?_)<;>conv=>whnf) | ((first | refine ixK rfl ?_ | refine w64 (by omega) (by omega) ?_ | refine ⟨_, impl_pot 0 (by decide), ?_⟩ | refine ⟨_, impl_times (Form.pot 0) (-1) (pz _) (by decide) (bd_ok (oz _) (by decide)), ?_⟩ | refine ⟨_, impl_frmAdd p (lin Form.zero (Form.pot 0) (-1)) (m7 wp.1) (bd_mono (oz _) (by decide)) (oa _ wp.1), ?_⟩ | refine apN (by simp) ?_);conv=>whnf)
            refine ⟨1, by omega, by simp only; omega, ?_⟩
            repeat' (first|exact True.intro|((conv=>whnf);first|exact True.intro|refine ⟨by rfl, ?_⟩|refine ⟨by first|omega|(show (_ : Int) = _;first|omega|(dsimp only;omega)), ?_⟩ | refine ⟨?_, ?_⟩))
          | 1, _ =>
            conv => whnf
            repeat' first | ((first|refine sN ?_|refine Dr.cons ?_|(refine Dr.nil ?_;refine drawIf (by kernel_rfl) ?_)|refine vN rfl ?_|refine Vc.draw rfl (by kernel_rfl) ?_|refine mkSl (by omega) (by omega) ?_);conv=>whnf) | (refine ifB_i (fun _=>?_) (fun _=>?_)<;>conv=>whnf) | ((first | refine ixK rfl ?_ | refine w64 (by omega) (by omega) ?_ | refine ⟨_, impl_pot 1 (by decide), ?_⟩ | refine ⟨_, impl_times (Form.pot 1) (-1) (pz _) (by decide) (bd_ok (oz _) (by decide)), ?_⟩ | refine ⟨_, impl_frmAdd q (lin Form.zero (Form.pot 1) (-1)) (m7 wp.2.1) (bd_mono (oz _) (by decide)) (oa _ wp.2.1), ?_⟩ | refine apN (by simp) ?_);conv=>whnf)
            refine ⟨2, by omega, by simp only; omega, ?_⟩
            repeat' (first|exact True.intro|((conv=>whnf);first|exact True.intro|refine ⟨by rfl, ?_⟩|refine ⟨by first|omega|(show (_ : Int) = _;first|omega|(dsimp only;omega)), ?_⟩ | refine ⟨?_, ?_⟩))
          | 2, _ =>
            conv => whnf
            repeat' first | ((first|refine sN ?_|refine Dr.cons ?_|(refine Dr.nil ?_;refine drawIf (by kernel_rfl) ?_)|refine vN rfl ?_|refine Vc.draw rfl (by kernel_rfl) ?_|refine mkSl (by omega) (by omega) ?_);conv=>whnf) | (refine ifB_i (fun _=>?_) (fun _=>?_)<;>conv=>whnf) | ((first | refine ixK rfl ?_ | refine w64 (by omega) (by omega) ?_ | refine ⟨_, impl_pot 2 (by decide), ?_⟩ | refine ⟨_, impl_times (Form.pot 2) (-1) (pz _) (by decide) (bd_ok (oz _) (by decide)), ?_⟩ | refine ⟨_, impl_frmAdd r (lin Form.zero (Form.pot 2) (-1)) (m7 wp.2.2) (bd_mono (oz _) (by decide)) (oa _ wp.2.2), ?_⟩ | refine apN (by simp) ?_);conv=>whnf)
            refine ⟨3, by omega, by simp only; omega, ?_⟩
            repeat' (first|exact True.intro|((conv=>whnf);first|exact True.intro|refine ⟨by rfl, ?_⟩|refine ⟨by first|omega|(show (_ : Int) = _;first|omega|(dsimp only;omega)), ?_⟩ | refine ⟨?_, ?_⟩))
          | 3, _ =>
            conv => whnf
            repeat' first | ((first|refine sN ?_|refine Dr.cons ?_|(refine Dr.nil ?_;refine drawIf (by kernel_rfl) ?_)|refine vN rfl ?_|refine Vc.draw rfl (by kernel_rfl) ?_|refine mkSl (by omega) (by omega) ?_);conv=>whnf) | (refine ifB_i (fun _=>?_) (fun _=>?_)<;>conv=>whnf) | (refine apN (by simp at hln ⊢; omega) ?_;conv=>whnf)
            have er : rowEnd [p, q, r] g t = ⟨g, [lin p (lin Form.zero (Form.pot 0) (-1)) 1, lin q (lin Form.zero (Form.pot 1) (-1)) 1, lin r (lin Form.zero (Form.pot 2) (-1)) 1], t, false⟩ := by
              rw [lin_neg wp.1.1 (pot_bd 0).1, lin_neg wp.2.1.1 (pot_bd 1).1, lin_neg wp.2.2.1 (pot_bd 2).1]; rfl
            refine ⟨rfl, ?_⟩
            rw [← hW, er, List.map_append, ← List.append_assoc]
            rfl
theorem impl_rowsOf (act : List Line) : Sem P 289 [(.pure, .one (sLs act))] [] (.one (sWs (rowsOf act))) := by
  by_cases ha : actOk act = true
  · obtain ⟨hok, h6, _⟩ := actOk_iff.1 ha
    have hl := walk_len 6 (act.drop 0) (by simpa using h6) [Form.pot 0, Form.pot 1, Form.pot 2] [] []
    have hw := impl_walk act h6 hok 7 0 (by omega) (by decide) (Form.pot 0) (Form.pot 1) (Form.pot 2) [] [] (Wk.start h6) [] (by simp only [List.length_nil]; omega)
    refine fn_okR (E := E0) E0_tab E0_ord (fn := Go.Proofs.Tryz.f289) (by kernel_rfl) (by kernel_rfl) (fun hb => ?_)
    conv => whnf
    repeat' first | ((first|refine sN ?_|refine Dr.cons ?_|(refine Dr.nil ?_;refine drawIf (by kernel_rfl) ?_)|refine vN rfl ?_|refine Vc.draw rfl (by kernel_rfl) ?_|refine mkSl (by omega) (by omega) ?_);conv=>whnf) | (refine ifB_i (fun _=>?_) (fun _=>?_)<;>conv=>whnf) | (refine ⟨_, impl_actOk act, ?_⟩;conv=>whnf)
    · exfalso; simp_all
    · refine Vc.loop1 (fun (v : Nat) => v ≤ 3) (fun v => updL [2, 3, 21, 22, 24, 25, 26, 27] [(12, I v), (4, .one (.ref 320000))] [(320000, .arr 129 (([Form.pot 0, Form.pot 1, Form.pot 2].take v).map eF) false)]) (fun v => 3 - v) 0 (by omega) ?_ (fun v hv => ?_)
      · repeat' (first|exact True.intro|((conv=>whnf);first|exact True.intro|refine ⟨by rfl, ?_⟩|refine ⟨by first|omega|(show (_ : Int) = _;first|omega|(dsimp only;omega)), ?_⟩ | refine ⟨?_, ?_⟩))
      · match v, hv with
        | 0, _ =>
          conv => whnf
          repeat' first | ((first|refine sN ?_|refine Dr.cons ?_|(refine Dr.nil ?_;refine drawIf (by kernel_rfl) ?_)|refine vN rfl ?_|refine Vc.draw rfl (by kernel_rfl) ?_|refine mkSl (by omega) (by omega) ?_);conv=>whnf) | (refine ifB_i (fun _=>?_) (fun _=>?_)<;>conv=>whnf) | ((first | refine w64 (by omega) (by omega) ?_ | refine ⟨_, impl_pot 0 (by decide), ?_⟩ | refine apN (by simp) ?_);conv=>whnf)
          refine ⟨1, by omega, by simp only; omega, ?_⟩
          repeat' (first|exact True.intro|((conv=>whnf);first|exact True.intro|refine ⟨by rfl, ?_⟩|refine ⟨by first|omega|(show (_ : Int) = _;first|omega|(dsimp only;omega)), ?_⟩ | refine ⟨?_, ?_⟩))
        | 1, _ =>
          conv => whnf
          repeat' first | ((first|refine sN ?_|refine Dr.cons ?_|(refine Dr.nil ?_;refine drawIf (by kernel_rfl) ?_)|refine vN rfl ?_|refine Vc.draw rfl (by kernel_rfl) ?_|refine mkSl (by omega) (by omega) ?_);conv=>whnf) | (refine ifB_i (fun _=>?_) (fun _=>?_)<;>conv=>whnf) | ((first | refine w64 (by omega) (by omega) ?_ | refine ⟨_, impl_pot 1 (by decide), ?_⟩ | refine apN (by simp) ?_);conv=>whnf)
          refine ⟨2, by omega, by simp only; omega, ?_⟩
          repeat' (first|exact True.intro|((conv=>whnf);first|exact True.intro|refine ⟨by rfl, ?_⟩|refine ⟨by first|omega|(show (_ : Int) = _;first|omega|(dsimp only;omega)), ?_⟩ | refine ⟨?_, ?_⟩))
        | 2, _ =>
          conv => whnf
          repeat' first | ((first|refine sN ?_|refine Dr.cons ?_|(refine Dr.nil ?_;refine drawIf (by kernel_rfl) ?_)|refine vN rfl ?_|refine Vc.draw rfl (by kernel_rfl) ?_|refine mkSl (by omega) (by omega) ?_);conv=>whnf) | (refine ifB_i (fun _=>?_) (fun _=>?_)<;>conv=>whnf) | ((first | refine w64 (by omega) (by omega) ?_ | refine ⟨_, impl_pot 2 (by decide), ?_⟩ | refine apN (by simp) ?_);conv=>whnf)
          refine ⟨3, by omega, by simp only; omega, ?_⟩
          repeat' (first|exact True.intro|((conv=>whnf);first|exact True.intro|refine ⟨by rfl, ?_⟩|refine ⟨by first|omega|(show (_ : Int) = _;first|omega|(dsimp only;omega)), ?_⟩ | refine ⟨?_, ?_⟩))
        | 3, _ =>
          conv => whnf
          repeat' first | ((first|refine sN ?_|refine Dr.cons ?_|(refine Dr.nil ?_;refine drawIf (by kernel_rfl) ?_)|refine vN rfl ?_|refine Vc.draw rfl (by kernel_rfl) ?_|refine mkSl (by omega) (by omega) ?_);conv=>whnf) | (refine ifB_i (fun _=>?_) (fun _=>?_)<;>conv=>whnf) | (refine ⟨_, _, hw _ _ _ _ rfl rfl rfl rfl, ?_⟩;conv=>whnf)
          exact ⟨by rw [rowsOf, if_pos ha]; rfl, rfl⟩
  · refine fn_okR (E := E0) E0_tab E0_ord (fn := Go.Proofs.Tryz.f289) (by kernel_rfl) (by kernel_rfl) (fun hb => ?_)
    conv => whnf
    repeat' first | ((first|refine sN ?_|refine Dr.cons ?_|(refine Dr.nil ?_;refine drawIf (by kernel_rfl) ?_)|refine vN rfl ?_|refine Vc.draw rfl (by kernel_rfl) ?_|refine mkSl (by omega) (by omega) ?_);conv=>whnf) | (refine ifB_i (fun _=>?_) (fun _=>?_)<;>conv=>whnf) | (refine ⟨_, impl_actOk act, ?_⟩;conv=>whnf)
    · exact ⟨by rw [rowsOf, if_neg ha]; rfl, rfl⟩
    · exfalso; simp_all
end Cc
end
section
namespace Go.AM
open Go Go.RowKit Go.Proofs
set_option maxRecDepth 100000
def growRen : Go.Shelf.Ren := ⟨fun | 4 => 377 | n => n, fun | 22 => 287 | 25 => 129 | n => n, fun | n => n⟩
theorem lays_grow : Go.Proofs.Lays8.n4 P growRen := {
  mixed := by kernel_rfl
  f4 := ⟨Go.Proofs.Tryz.f377.name, by kernel_rfl, (show P.funcs[377]? = some Go.Proofs.Tryz.f377 by kernel_rfl).trans (congrArg some (by kernel_rfl))⟩
  t0 := Tryz.underlying0, a0 := Tryz.isAgg0, z0 := Tryz.sizeOf0, v0 := Tryz.zeroValue0
  t3 := Tryz.underlying3, a3 := Tryz.isAgg3, z3 := Tryz.sizeOf3, v3 := Tryz.zeroValue3
  t4 := Tryz.underlying4, a4 := Tryz.isAgg4, z4 := Tryz.sizeOf4, v4 := Tryz.zeroValue4
  t9 := Tryz.underlying9, a9 := Tryz.isAgg9, z9 := Tryz.sizeOf9, v9 := Tryz.zeroValue9
  t20 := Tryz.underlying20, a20 := Tryz.isAgg20, z20 := Tryz.sizeOf20, v20 := Tryz.zeroValue20
  t22 := Tryz.underlying287, a22 := Tryz.isAgg287, z22 := Tryz.sizeOf287, v22 := Tryz.zeroValue287 }
theorem cells_form : (P : Program).cellsOf 129 = 3 := by kernel_rfl
theorem ow_none {w : World} {Z : Nat → Prop} {v : Value} (ho : w.ownsRow 0 129 3 v 0 []) : Ow P w Z (.sl 129 []) v v.ownBlock.toList := by
  have h : Ow P w Z (.sl 129 []) v (v.ownBlock.toList ++ ([] : List (List Nat)).flatten) :=
    .sl (cells := []) (by simp) (by simp) (by rw [cells_form]; exact ho) rfl (by simp)
  simpa using h
theorem ow_none_inv {w : World} {Z : Nat → Prop} {x : Value} {f : List Nat} (h : Ow P w Z (.sl 129 []) x f) : f = x.ownBlock.toList ∧ w.ownsRow 0 129 3 x 0 [] := by
  cases h with
  | sl hm hw ho hf hr =>
    rename_i cells fs
    rw [cells_form] at ho
    have h0 : cells = [] := List.eq_nil_of_length_eq_zero (by simpa using ho.1)
    subst h0
    have h1 : fs = [] := List.eq_nil_of_length_eq_zero hf
    subst h1
    exact ⟨by simp, ho⟩
theorem ins_own1 {w : World} {Z : Nat → Prop} {io : Option Io} {a b : AV} {vals : List Value} {fin : List Nat} (h : InsR P w Z io [(.own, .one a), (.pure, .one b)] vals fin) : ∃ x y f, vals = [x, y] ∧ fin = f ∧ Ow P w Z a x f ∧ Rd P w Z b y := by
  cases h with
  | cons h t =>
    cases t with
    | cons h2 t2 =>
      cases t2
      cases h2 with
      | pone h2 =>
        cases h with
        | oone h => exact ⟨_, _, _, rfl, by simp, h, h2⟩
theorem forms_grow (n : Nat) (hn : n ≤ 100000) : Sem P 377 [(.own, .one (.sl 129 [])), (.pure, I n)] [] (.one (.sl 129 [])) := by
  refine ⟨by refine ⟨Go.Proofs.Tryz.f377, ?_, ?_, ?_⟩ <;> kernel_rfl, fun w Z io vals fin hG hI hio hnd hfin hZ => ?_⟩
  have hio : io = none := by
    rcases hio with h | ⟨lo, hi, v, hm⟩
    · exact h
    · simp at hm
  subst hio
  obtain ⟨x, y, f, rfl, rfl, hx, hy⟩ := ins_own1 hI
  obtain ⟨rfl, ho⟩ := ow_none_inv hx
  cases hy
  have room : ∀ {e : Ending} {w' : World}, e = .returned x ∧ w' = w → ∃ v, e = .returned v ∧ Post P w Z none [(.own, .one (.sl 129 [])), (.pure, I n)] [x, .int .i64 n] x.ownBlock.toList [] (.one (.sl 129 [])) v w' := by
    rintro e w' ⟨rfl, rfl⟩
    refine ⟨x, rfl, Z, x.ownBlock.toList, [], ⟨rfl, rfl, rfl, Nat.le_refl _, fun _ _ _ _ => rfl, fun i hi => by cases hi⟩, fun b h => h, fun b h => ⟨.inl h, (hZ b h).1, fun i hi => by cases hi⟩, .one (ow_none ho), .own (.pure .nil), by simpa using ownB_nodup _, fun b hb => ?_⟩
    have hb' : b ∈ x.ownBlock.toList := by simpa using hb
    exact ⟨.inl hb', (hfin b hb').1, (hfin b hb').2.1, fun i hi => by cases hi⟩
  have fresh : ∀ (c : Nat) (cells : Array Value) (cap : Nat), cells.size = cap * 3 → cap ≤ maxLen → ∀ {e : Ending} {w' : World}, e = .returned (.slice (some ⟨w.heap.size, 0, none⟩) 0 cap) ∧ w' = w.drew.alloc (.cells cells 129) → ∃ v, e = .returned v ∧ Post P w Z none [(.own, .one (.sl 129 [])), (.pure, I n)] [x, .int .i64 n] x.ownBlock.toList [] (.one (.sl 129 [])) v w' := by
    rintro c cells cap hs hm e w' ⟨rfl, rfl⟩
    have hB : Below w.heap.size w (w.drew.alloc (.cells cells 129)) := (Below.refl _ w).drew.alloc (Nat.le_refl _) _
    have ho' := World.ownsRow_made (base := 0) (e := 129) (size := 3) w.drew cells cap (Nat.zero_le _) hm hs
    refine ⟨_, rfl, Z, [w.heap.size], [], ⟨hB.os, hB.tape, hB.output, hB.size, fun k hk _ _ => hB.block k hk, fun i hi => by cases hi⟩, fun b h => h, fun b h => ⟨.inl h, Nat.lt_of_lt_of_le (hZ b h).1 hB.size, fun i hi => by cases hi⟩, .one (ow_none ho'), .own (.pure .nil), by simp, fun b hb => ?_⟩
    have hb' : b = w.heap.size := by simpa using hb
    subst hb'
    exact ⟨.inr (Nat.le_refl _), by have := heap_alloc_new w.drew (.cells cells 129); exact (Array.getElem?_eq_some_iff.1 this).1, fun hz => absurd (hZ _ hz).1 (Nat.lt_irrefl _), fun i hi => by cases hi⟩
  by_cases h0 : n = 0
  · subst h0
    rcases ho.2 with ⟨rfl, _⟩ | ⟨g, cap, cur, rfl, h1, h2, h3, h4, h5, h6⟩
    · exact (Any8.slices_Grow_room lays_grow none 0 0 0 w (by decide) (by decide) (by decide) (by decide)).mono fun e w' h => room h
    · exact (Any8.slices_Grow_room lays_grow _ 0 cap 0 w (Nat.zero_le _) (by have : maxLen = 9223372036854775807 := by decide
                                                                             omega) (by decide) (Nat.zero_le _)).mono fun e w' h => room h
  · have hml : maxLen = 9223372036854775807 := by decide
    have hinfo : (P.info? 129).map (fun i => (i.zero.map (fun z => z.cells.size), i.size, i.bytes)) = some (some 3, 3, 56) := by kernel_rfl
    obtain ⟨i0, hi0, hinfo⟩ := Option.map_eq_some_iff.1 hinfo
    simp only [Prod.mk.injEq] at hinfo
    obtain ⟨hz, hs0, hb0⟩ := hinfo
    obtain ⟨z, hz0, hz3⟩ := Option.map_eq_some_iff.1 hz
    have hge : ∀ c, n ≤ grownCap w (0 + n) c 129 := fun c => by have := grownCap_ge w (0 + n) c 129; omega
    have hle : ∀ c, grownCap w (0 + n) c 129 ≤ maxLen := fun c => grownCap_le_maxLen w (0 + n) c 129 (by omega)
    have hzc : ∀ k, (Builtin.zeroCells z.cells k).size = k * 3 := fun k => by simp [Builtin.zeroCells, hz3]
    rcases ho.2 with ⟨rfl, _⟩ | ⟨g, cap, cur, rfl, h1, h2, h3, h4, h5, h6⟩
    · refine (Any8.slices_Grow_grow lays_grow i0 z hi0 hz0 (by omega) none 0 0 n [] w (by decide) (by omega) (by rw [hb0]; omega) (by omega) (by simp) (fun _ => rfl) (by intro a h; cases h)).mono fun e w' h => fresh 0 _ _ ?_ (hle 0) h
      simp only [Array.size_append, hzc, List.size_toArray, List.length_nil]
      have := hge 0
      show 0 + (0 + n - 0) * 3 + (grownCap w (0 + n) 0 129 - (0 + n)) * 3 = grownCap w (0 + n) 0 129 * 3
      omega
    · by_cases hc : n ≤ cap
      · exact (Any8.slices_Grow_room lays_grow _ 0 cap n w (Nat.zero_le _) (by omega) (by omega) (by omega)).mono fun e w' h => room h
      · refine (Any8.slices_Grow_grow lays_grow i0 z hi0 hz0 (by omega) (some ⟨g, 0, none⟩) 0 cap n cur.toList w (by omega) (by omega) (by rw [hb0]; omega) (by omega) (by simp [h5, hs0]) (by intro h; cases h) (by
          rintro a rfl' j v hj
          cases rfl'
          have e : (⟨g, 0, none⟩ : Addr).add j = ⟨g, j, none⟩ := by cases j <;> simp [Addr.add]
          rw [e]
          simp only [World.cell?, h2]
          simpa using hj)).mono fun e w' h => fresh 0 _ _ ?_ (hle cap) h
        simp only [Array.size_append, hzc, Array.toArray_toList, h5]
        have := hge cap
        show cap * 3 + (0 + n - cap) * 3 + (grownCap w (0 + n) cap 129 - (0 + n)) * 3 = grownCap w (0 + n) cap 129 * 3
        omega
end Go.AM
end
section
namespace Cc
open Go Go.AM
set_option maxRecDepth 100000
set_option maxHeartbeats 4000000
theorem zeros_1 (n : Int) : Sem P 344 [(.pure, I n)] [] (B (!decide (n = 0))) := by
  refine fn_okR (E := E0) E0_tab E0_ord (fn := Go.Proofs.Tryz.f344) (by kernel_rfl) (by kernel_rfl) (fun hb => ?_)
  conv => whnf
  (repeat' first | ((first|refine sN ?_|refine Dr.cons ?_|(refine Dr.nil ?_;refine drawIf (by kernel_rfl) ?_)|refine vN rfl ?_|refine Vc.draw rfl (by kernel_rfl) ?_|refine mkSl (by omega) (by omega) ?_);conv=>whnf))
  exact rB rfl
theorem zeros_any_ix  (l : List Int) : Sem P 286 [(.pure, .one (sI l)), (.pure, .one (.fn 344 []))] [] (I (idxOf (fun (x : Int) => !decide (x = 0)) l)) := by
  refine fn_okR (E := E0) E0_tab E0_ord (fn := Go.Proofs.Tryz.f286) (by kernel_rfl) (by kernel_rfl) (fun hb => ?_)
  have la : (ints l).length = l.length := List.length_map ..
  have hb1 : (ints l).length ≤ 1125899906842624 := hb.1.1
  conv => whnf
  (repeat' first | ((first|refine sN ?_|refine Dr.cons ?_|(refine Dr.nil ?_;refine drawIf (by kernel_rfl) ?_)|refine vN rfl ?_|refine Vc.draw rfl (by kernel_rfl) ?_|refine mkSl (by omega) (by omega) ?_);conv=>whnf))
  refine Vc.loop { i : Nat // ∀ j, j < i → j < l.length → (fun (x : Int) => !decide (x = 0)) (l.getD j default) = false } (fun i => updL [0, 1, 7] [(8, I i.1)] []) (fun i => l.length - i.1) ⟨0, by simp⟩ ?_ (fun i => ?_)
  · repeat' (first | exact True.intro | ((conv => whnf); first | exact True.intro | refine ⟨by rfl, ?_⟩ | refine ⟨?_, ?_⟩))
  · have hi := i.2
    conv => whnf
    (repeat' first | ((first|refine sN ?_|refine Dr.cons ?_|(refine Dr.nil ?_;refine drawIf (by kernel_rfl) ?_)|refine vN rfl ?_|refine Vc.draw rfl (by kernel_rfl) ?_|refine mkSl (by omega) (by omega) ?_);conv=>whnf))
    refine ifB_d (fun g => ?_) (fun g => ?_)
    all_goals conv => whnf
    · repeat' first | ((first|refine sN ?_|refine Dr.cons ?_|(refine Dr.nil ?_;refine drawIf (by kernel_rfl) ?_)|refine vN rfl ?_|refine Vc.draw rfl (by kernel_rfl) ?_|refine mkSl (by omega) (by omega) ?_);conv=>whnf) | (refine ifB_i (fun _=>?_) (fun _=>?_)<;>conv=>whnf) | ((first | refine ixN (enc := rI) default (by omega) ?_ | refine ⟨_, zeros_1 _, ?_⟩ | refine w64 (by omega) (by omega) ?_);conv=>whnf)
      · rename_i h
        exact rI' (idx_hit (p := fun (x : Int) => !decide (x = 0)) default (by omega) h fun j hj => hi j hj (by omega)).symm
      · rename_i h
        refine ⟨⟨i.1 + 1, fun j hj hl => ?_⟩, ?_, ?_⟩
        · by_cases hji : j < i.1
          · exact hi j hji hl
          · obtain rfl : j = i.1 := by omega
            exact h
        · simp only; omega
        · repeat' (first | exact True.intro | ((conv => whnf); first | exact True.intro | refine ⟨by rfl, ?_⟩ | refine ⟨?_, ?_⟩))
    · (repeat' first | ((first|refine sN ?_|refine Dr.cons ?_|(refine Dr.nil ?_;refine drawIf (by kernel_rfl) ?_)|refine vN rfl ?_|refine Vc.draw rfl (by kernel_rfl) ?_|refine mkSl (by omega) (by omega) ?_);conv=>whnf))
      exact rI' (idx_none (p := fun (x : Int) => !decide (x = 0)) default fun j hj => hi j (by omega) hj).symm
theorem zeros_any  (l : List Int) : Sem P 188 [(.pure, .one (sI l)), (.pure, .one (.fn 344 []))] [] (B (l.any fun (x : Int) => !decide (x = 0))) := by
  refine fn_okR (E := E0) E0_tab E0_ord (fn := Go.Proofs.Tryz.f188) (by kernel_rfl) (by kernel_rfl) (fun hb => ?_)
  conv => whnf
  repeat' first | ((first|refine sN ?_|refine Dr.cons ?_|(refine Dr.nil ?_;refine drawIf (by kernel_rfl) ?_)|refine vN rfl ?_|refine Vc.draw rfl (by kernel_rfl) ?_|refine mkSl (by omega) (by omega) ?_);conv=>whnf) | (refine ifB_i (fun _=>?_) (fun _=>?_)<;>conv=>whnf) | (refine ⟨_, zeros_any_ix  l, ?_⟩;conv=>whnf)
  exact rB (idx_any _ _)
theorem impl_zeros (l : List Int) : Sem P 291 [(.pure, AI l)] [] (B (zeros l)) := by
  refine fn_okR (E := E0) E0_tab E0_ord (fn := Go.Proofs.Tryz.f291) (by kernel_rfl) (by kernel_rfl) (fun hb => ?_)
  conv => whnf
  repeat' first | ((first|refine sN ?_|refine Dr.cons ?_|(refine Dr.nil ?_;refine drawIf (by kernel_rfl) ?_)|refine vN rfl ?_|refine Vc.draw rfl (by kernel_rfl) ?_|refine mkSl (by omega) (by omega) ?_);conv=>whnf) | (refine ifB_i (fun _=>?_) (fun _=>?_)<;>conv=>whnf) | (refine ⟨_, zeros_any l, ?_⟩;conv=>whnf)
  exact rB (any_all _ _)
theorem part_1 (n : Int) : Sem P 343 [(.pure, I n)] [] (B (!decide (n = 0))) := by
  refine fn_okR (E := E0) E0_tab E0_ord (fn := Go.Proofs.Tryz.f343) (by kernel_rfl) (by kernel_rfl) (fun hb => ?_)
  conv => whnf
  (repeat' first | ((first|refine sN ?_|refine Dr.cons ?_|(refine Dr.nil ?_;refine drawIf (by kernel_rfl) ?_)|refine vN rfl ?_|refine Vc.draw rfl (by kernel_rfl) ?_|refine mkSl (by omega) (by omega) ?_);conv=>whnf))
  exact rB rfl
theorem part_any_ix  (l : List Int) : Sem P 286 [(.pure, .one (sI l)), (.pure, .one (.fn 343 []))] [] (I (idxOf (fun (x : Int) => !decide (x = 0)) l)) := by
  refine fn_okR (E := E0) E0_tab E0_ord (fn := Go.Proofs.Tryz.f286) (by kernel_rfl) (by kernel_rfl) (fun hb => ?_)
  have la : (ints l).length = l.length := List.length_map ..
  have hb1 : (ints l).length ≤ 1125899906842624 := hb.1.1
  conv => whnf
  (repeat' first | ((first|refine sN ?_|refine Dr.cons ?_|(refine Dr.nil ?_;refine drawIf (by kernel_rfl) ?_)|refine vN rfl ?_|refine Vc.draw rfl (by kernel_rfl) ?_|refine mkSl (by omega) (by omega) ?_);conv=>whnf))
  refine Vc.loop { i : Nat // ∀ j, j < i → j < l.length → (fun (x : Int) => !decide (x = 0)) (l.getD j default) = false } (fun i => updL [0, 1, 7] [(8, I i.1)] []) (fun i => l.length - i.1) ⟨0, by simp⟩ ?_ (fun i => ?_)
  · repeat' (first | exact True.intro | ((conv => whnf); first | exact True.intro | refine ⟨by rfl, ?_⟩ | refine ⟨?_, ?_⟩))
  · have hi := i.2
    conv => whnf
    (repeat' first | ((first|refine sN ?_|refine Dr.cons ?_|(refine Dr.nil ?_;refine drawIf (by kernel_rfl) ?_)|refine vN rfl ?_|refine Vc.draw rfl (by kernel_rfl) ?_|refine mkSl (by omega) (by omega) ?_);conv=>whnf))
    refine ifB_d (fun g => ?_) (fun g => ?_)
    all_goals conv => whnf
    · repeat' first | ((first|refine sN ?_|refine Dr.cons ?_|(refine Dr.nil ?_;refine drawIf (by kernel_rfl) ?_)|refine vN rfl ?_|refine Vc.draw rfl (by kernel_rfl) ?_|refine mkSl (by omega) (by omega) ?_);conv=>whnf) | (refine ifB_i (fun _=>?_) (fun _=>?_)<;>conv=>whnf) | ((first | refine ixN (enc := rI) default (by omega) ?_ | refine ⟨_, part_1 _, ?_⟩ | refine w64 (by omega) (by omega) ?_);conv=>whnf)
      · rename_i h
        exact rI' (idx_hit (p := fun (x : Int) => !decide (x = 0)) default (by omega) h fun j hj => hi j hj (by omega)).symm
      · rename_i h
        refine ⟨⟨i.1 + 1, fun j hj hl => ?_⟩, ?_, ?_⟩
        · by_cases hji : j < i.1
          · exact hi j hji hl
          · obtain rfl : j = i.1 := by omega
            exact h
        · simp only; omega
        · repeat' (first | exact True.intro | ((conv => whnf); first | exact True.intro | refine ⟨by rfl, ?_⟩ | refine ⟨?_, ?_⟩))
    · (repeat' first | ((first|refine sN ?_|refine Dr.cons ?_|(refine Dr.nil ?_;refine drawIf (by kernel_rfl) ?_)|refine vN rfl ?_|refine Vc.draw rfl (by kernel_rfl) ?_|refine mkSl (by omega) (by omega) ?_);conv=>whnf))
      exact rI' (idx_none (p := fun (x : Int) => !decide (x = 0)) default fun j hj => hi j (by omega) hj).symm
theorem has_1 (q p : List Int) : Sem P 346 [(.pure, AI q), (.pure, .one (.fp [] [sI p] 0))] [] (B (decide (q = p))) := by
  refine fn_okR (E := E0) E0_tab E0_ord (fn := Go.Proofs.Tryz.f346) (by kernel_rfl) (by kernel_rfl) (fun hb => ?_)
  conv => whnf
  repeat' first | ((first|refine sN ?_|refine Dr.cons ?_|(refine Dr.nil ?_;refine drawIf (by kernel_rfl) ?_)|refine vN rfl ?_|refine Vc.draw rfl (by kernel_rfl) ?_|refine mkSl (by omega) (by omega) ?_);conv=>whnf) | (refine ifB_i (fun _=>?_) (fun _=>?_)<;>conv=>whnf) | (refine ⟨_, ints_eq q p, ?_⟩;conv=>whnf)
  exact ⟨rfl, rfl⟩
theorem has_any_ix (p : List Int) (l : List (List Int)) : Sem P 345 [(.pure, .one (sPs l)), (.pure, .one (.fn 346 [.fp [] [sI p] 0]))] [] (I (idxOf (fun (x : (List Int)) => decide (x = p)) l)) := by
  refine fn_okR (E := E0) E0_tab E0_ord (fn := Go.Proofs.Tryz.f345) (by kernel_rfl) (by kernel_rfl) (fun hb => ?_)
  have la : (l.map eP).length = l.length := List.length_map ..
  have hb1 : (l.map eP).length ≤ 1125899906842624 := hb.1.1
  conv => whnf
  (repeat' first | ((first|refine sN ?_|refine Dr.cons ?_|(refine Dr.nil ?_;refine drawIf (by kernel_rfl) ?_)|refine vN rfl ?_|refine Vc.draw rfl (by kernel_rfl) ?_|refine mkSl (by omega) (by omega) ?_);conv=>whnf))
  refine Vc.loop { i : Nat // ∀ j, j < i → j < l.length → (fun (x : (List Int)) => decide (x = p)) (l.getD j default) = false } (fun i => updL [0, 1, 7] [(8, I i.1)] []) (fun i => l.length - i.1) ⟨0, by simp⟩ ?_ (fun i => ?_)
  · repeat' (first | exact True.intro | ((conv => whnf); first | exact True.intro | refine ⟨by rfl, ?_⟩ | refine ⟨?_, ?_⟩))
  · have hi := i.2
    conv => whnf
    (repeat' first | ((first|refine sN ?_|refine Dr.cons ?_|(refine Dr.nil ?_;refine drawIf (by kernel_rfl) ?_)|refine vN rfl ?_|refine Vc.draw rfl (by kernel_rfl) ?_|refine mkSl (by omega) (by omega) ?_);conv=>whnf))
    refine ifB_d (fun g => ?_) (fun g => ?_)
    all_goals conv => whnf
    · repeat' first | ((first|refine sN ?_|refine Dr.cons ?_|(refine Dr.nil ?_;refine drawIf (by kernel_rfl) ?_)|refine vN rfl ?_|refine Vc.draw rfl (by kernel_rfl) ?_|refine mkSl (by omega) (by omega) ?_);conv=>whnf) | (refine ifB_i (fun _=>?_) (fun _=>?_)<;>conv=>whnf) | ((first | refine ixN (enc := eP) default (by omega) ?_ | refine ⟨_, has_1 _ p, ?_⟩ | refine w64 (by omega) (by omega) ?_);conv=>whnf)
      · rename_i h
        exact rI' (idx_hit (p := fun (x : (List Int)) => decide (x = p)) default (by omega) h fun j hj => hi j hj (by omega)).symm
      · rename_i h
        refine ⟨⟨i.1 + 1, fun j hj hl => ?_⟩, ?_, ?_⟩
        · by_cases hji : j < i.1
          · exact hi j hji hl
          · obtain rfl : j = i.1 := by omega
            exact h
        · simp only; omega
        · repeat' (first | exact True.intro | ((conv => whnf); first | exact True.intro | refine ⟨by rfl, ?_⟩ | refine ⟨?_, ?_⟩))
    · (repeat' first | ((first|refine sN ?_|refine Dr.cons ?_|(refine Dr.nil ?_;refine drawIf (by kernel_rfl) ?_)|refine vN rfl ?_|refine Vc.draw rfl (by kernel_rfl) ?_|refine mkSl (by omega) (by omega) ?_);conv=>whnf))
      exact rI' (idx_none (p := fun (x : (List Int)) => decide (x = p)) default fun j hj => hi j (by omega) hj).symm
theorem impl_has (l : List (List Int)) (p : List Int) : Sem P 292 [(.pure, .one (sPs l)), (.pure, AI p)] [] (I (idxOf (fun q => decide (q = p)) l)) := by
  refine fn_okR (E := E0) E0_tab E0_ord (fn := Go.Proofs.Tryz.f292) (by kernel_rfl) (by kernel_rfl) (fun hb => ?_)
  conv => whnf
  repeat' first | ((first|refine sN ?_|refine Dr.cons ?_|(refine Dr.nil ?_;refine drawIf (by kernel_rfl) ?_)|refine vN rfl ?_|refine Vc.draw rfl (by kernel_rfl) ?_|refine mkSl (by omega) (by omega) ?_);conv=>whnf) | (refine ifB_i (fun _=>?_) (fun _=>?_)<;>conv=>whnf) | (refine ⟨_, has_any_ix p l, ?_⟩;conv=>whnf)
  exact ⟨rfl, rfl⟩
theorem idx_sign : ∀ c : List Int, (idxOf (fun n => !decide (n = 0)) c < 0 → ∀ x ∈ c, x = 0) ∧ (0 ≤ idxOf (fun n => !decide (n = 0)) c → idxOf (fun n => !decide (n = 0)) c < c.length ∧
    (c.getD (idxOf (fun n => !decide (n = 0)) c).toNat 0 < 0 → sign c = -1) ∧ (¬ c.getD (idxOf (fun n => !decide (n = 0)) c).toNat 0 < 0 → sign c = 1))
  | [] => by simp [idxOf]
  | a :: r => by
    obtain ⟨h1, h2⟩ := idx_sign r
    by_cases ha : a = 0
    · subst ha
      have lo := idx_lo (fun n : Int => !decide (n = 0)) r
      have e : idxOf (fun n => !decide (n = 0)) ((0 : Int) :: r) = if idxOf (fun n => !decide (n = 0)) r < 0 then -1 else idxOf (fun n => !decide (n = 0)) r + 1 := by simp [idxOf]
      have es : sign (0 :: r) = sign r := by simp [sign]
      rw [e, es]
      by_cases hr : idxOf (fun n => !decide (n = 0)) r < 0
      · rw [if_pos hr]
        refine ⟨fun _ x hx => ?_, fun h => by omega⟩
        rcases List.mem_cons.1 hx with rfl | hx
        · rfl
        · exact h1 hr x hx
      · rw [if_neg hr]
        obtain ⟨a1, a2, a3⟩ := h2 (by omega)
        refine ⟨fun h => by omega, fun _ => ⟨by simp only [List.length_cons]; omega, ?_⟩⟩
        have et : (idxOf (fun n => !decide (n = 0)) r + 1).toNat = (idxOf (fun n => !decide (n = 0)) r).toNat + 1 := by omega
        rw [et, List.getD_cons_succ]
        exact ⟨a2, a3⟩
    · have e : idxOf (fun n => !decide (n = 0)) (a :: r) = 0 := by simp [idxOf, ha]
      rw [e]
      refine ⟨fun h => by omega, fun _ => ⟨by simp only [List.length_cons]; omega, fun h => ?_, fun h => ?_⟩⟩
      · have h : a < 0 := by simpa using h
        simp only [sign]; rw [if_neg (by omega), if_pos h]
      · have h : ¬ a < 0 := by simpa using h
        simp only [sign]; rw [if_pos (by omega)]
theorem part_zero {c : List Int} (h : ∀ x ∈ c, x = 0) : part c = c := by
  unfold part
  calc c.map (fun x => sign c * x) = c.map id := List.map_congr_left fun x hx => by rw [h x hx]; simp
    _ = c := by simp
theorem part_pos {c : List Int} (h : sign c = 1) : part c = c := by unfold part; rw [h]; simp
theorem part_neg {c : List Int} (h : sign c = -1) : part c = c.map fun x => -x := by unfold part; rw [h]; exact List.map_congr_left fun x _ => by omega
theorem impl_part (c D : List Int) (K : Int) (hl : c.length ≤ 100) (hx : ∀ x ∈ c, -1000000000000 ≤ x ∧ x ≤ 1000000000000) : Sem P 290 [(.pure, .agg [sI c, sI D, eI K])] [] (AI (part c)) := by
  obtain ⟨i1, i2⟩ := idx_sign c
  have px := part_any_ix c
  generalize idxOf (fun (x : Int) => !decide (x = 0)) c = ix at i1 i2 px
  have lc := ints_len c
  by_cases h0 : 0 ≤ ix
  · obtain ⟨i3, i4, i5⟩ := i2 h0
    refine fn_okR (E := { E0 with keep := [2002] }) E0_tab E0_ord (fn := Go.Proofs.Tryz.f290) (by kernel_rfl) (by kernel_rfl) (fun hb => ?_)
    conv => whnf
    repeat' first | ((first|refine sN ?_|refine Dr.cons ?_|(refine Dr.nil ?_;refine drawIf (by kernel_rfl) ?_)|refine vN rfl ?_|refine Vc.draw rfl (by kernel_rfl) ?_|refine mkSl (by omega) (by omega) ?_);conv=>whnf) | (refine ifB_i (fun _=>?_) (fun _=>?_)<;>conv=>whnf) | ((first | refine ⟨_, ints_clone c (by omega), ?_⟩ | refine ⟨_, px, ?_⟩ | refine ioN (by omega) (by omega) ?_ | refine rwN (enc := rI) 0 (by omega) ?_);conv=>whnf)
    · rename_i h2
      have hs := i4 (of_decide_eq_true h2)
      refine Vc.loop1 (fun (k : Nat) => k ≤ c.length) (fun k => updL [2, 3, 21, 34] [(22, I k)] [(128128, .arr 3 (ints ((c.take k).map (fun x => -x) ++ c.drop k)) false)]) (fun k => c.length - k) 0 (Nat.zero_le _) ?_ (fun k hk => ?_)
      · repeat' (first|exact True.intro|((conv=>whnf);first|exact True.intro|refine ⟨by rfl, ?_⟩|refine ⟨by first|omega|(show (_ : Int) = _;first|omega|(dsimp only;omega)), ?_⟩ | refine ⟨?_, ?_⟩))
      · have hlo : (ints ((c.take k).map (fun x => -x) ++ c.drop k)).length = c.length := by rw [ints_len, List.length_append, List.length_map, List.length_take, List.length_drop]; omega
        conv => whnf
        (repeat' first | ((first|refine sN ?_|refine Dr.cons ?_|(refine Dr.nil ?_;refine drawIf (by kernel_rfl) ?_)|refine vN rfl ?_|refine Vc.draw rfl (by kernel_rfl) ?_|refine mkSl (by omega) (by omega) ?_);conv=>whnf))
        refine ifB_d (fun g => ?_) (fun g => ?_)
        all_goals conv => whnf
        · have hkl : k < c.length := by omega
          have b1 := hx (c.getD k 0) (gd_mem hkl)
          have eg : ((c.take k).map (fun x => -x) ++ c.drop k).getD k 0 = c.getD k 0 := by
            rw [List.getD_eq_getElem?_getD, List.getElem?_append_right (by rw [List.length_map, List.length_take]; omega), List.length_map, List.length_take, Nat.min_eq_left (by omega), List.getElem?_drop]
            simp [List.getD_eq_getElem?_getD]
          have es : ((c.take k).map (fun x => -x) ++ c.drop k).set k (-(c.getD k 0)) = (c.take (k + 1)).map (fun x => -x) ++ c.drop (k + 1) := by
            rw [List.set_append_right _ _ (by rw [List.length_map, List.length_take]; omega), List.length_map, List.length_take, Nat.min_eq_left (by omega), Nat.sub_self, List.drop_eq_getElem_cons hkl, List.set_cons_zero, show c.take (k + 1) = c.take k ++ [c.getD k 0] from take_succ_getD hkl, List.map_append, List.append_assoc]
            rfl
          repeat' first | ((first|refine sN ?_|refine Dr.cons ?_|(refine Dr.nil ?_;refine drawIf (by kernel_rfl) ?_)|refine vN rfl ?_|refine Vc.draw rfl (by kernel_rfl) ?_|refine mkSl (by omega) (by omega) ?_);conv=>whnf) | (refine ifB_i (fun _=>?_) (fun _=>?_)<;>conv=>whnf) | (refine ioN (by omega) (by omega) ?_;conv=>whnf) | (refine rwN (enc := rI) 0 (by rw [← ints_len]; omega) ?_;conv=>whnf) | (refine w64 (by first | omega | (simp only [Int.toNat_natCast]; omega)) (by first | omega | (simp only [Int.toNat_natCast]; omega)) ?_;conv=>whnf)
          refine ⟨k + 1, by omega, by simp only; omega, ?_⟩
          repeat' (first|exact True.intro|((conv=>whnf);first|exact True.intro|refine ⟨by rfl, ?_⟩|refine ⟨by first|omega|(show (_ : Int) = _;first|omega|(dsimp only;omega)) | exact (by simp only [Int.toNat_natCast]; rw [set_ints, eg, Int.zero_sub, es]), ?_⟩ | refine ⟨?_, ?_⟩))
        · (repeat' first | ((first|refine sN ?_|refine Dr.cons ?_|(refine Dr.nil ?_;refine drawIf (by kernel_rfl) ?_)|refine vN rfl ?_|refine Vc.draw rfl (by kernel_rfl) ?_|refine mkSl (by omega) (by omega) ?_);conv=>whnf))
          have hend : k = c.length := by omega
          subst hend
          exact ⟨by rw [part_neg hs, List.take_length, List.drop_length, List.append_nil], rfl⟩
    · rename_i h2
      exact ⟨by rw [part_pos (i5 (of_decide_eq_false h2))], rfl⟩
    all_goals (exfalso; simp_all; done)
  · refine fn_okR (E := { E0 with keep := [2002] }) E0_tab E0_ord (fn := Go.Proofs.Tryz.f290) (by kernel_rfl) (by kernel_rfl) (fun hb => ?_)
    conv => whnf
    repeat' first | ((first|refine sN ?_|refine Dr.cons ?_|(refine Dr.nil ?_;refine drawIf (by kernel_rfl) ?_)|refine vN rfl ?_|refine Vc.draw rfl (by kernel_rfl) ?_|refine mkSl (by omega) (by omega) ?_);conv=>whnf) | (refine ifB_i (fun _=>?_) (fun _=>?_)<;>conv=>whnf) | ((first | refine ⟨_, ints_clone c (by omega), ?_⟩ | refine ⟨_, px, ?_⟩);conv=>whnf)
    · exfalso; rename_i h; exact h0 (of_decide_eq_true h)
    · exact ⟨by rw [part_zero (i1 (by omega))], rfl⟩
theorem rd_1 (f : Form) (v : Nat) (hv : v < 3) (hf : f.sh) : Sem P 348 [(.pure, .agg (aF f)), (.pure, .one (.fp [] [eI v] 0))] [] (B (!decide (f.C.getD v 0 = 0))) := by
  have hC := hf.1
  have lc := ints_len f.C
  refine fn_okR (E := E0) E0_tab E0_ord (fn := Go.Proofs.Tryz.f348) (by kernel_rfl) (by kernel_rfl) (fun hb => ?_)
  conv => whnf
  repeat' first | ((first|refine sN ?_|refine Dr.cons ?_|(refine Dr.nil ?_;refine drawIf (by kernel_rfl) ?_)|refine vN rfl ?_|refine Vc.draw rfl (by kernel_rfl) ?_|refine mkSl (by omega) (by omega) ?_);conv=>whnf) | (refine ifB_i (fun _=>?_) (fun _=>?_)<;>conv=>whnf) | (refine ixN (enc := rI) 0 (by omega) ?_;conv=>whnf)
  exact ⟨rfl, rfl⟩
theorem rd_any_ix (v : Nat) (hv : v < 3) (l : List Form) (hl : ∀ (x : Form), x ∈ l → x.sh) : Sem P 363 [(.pure, .one (sFs l)), (.pure, .one (.fn 348 [.fp [] [eI v] 0]))] [] (I (idxOf (fun (x : Form) => !decide (x.C.getD v 0 = 0)) l)) := by
  refine fn_okR (E := E0) E0_tab E0_ord (fn := Go.Proofs.Tryz.f363) (by kernel_rfl) (by kernel_rfl) (fun hb => ?_)
  have la : (l.map eF).length = l.length := List.length_map ..
  have hb1 : (l.map eF).length ≤ 1125899906842624 := hb.1.1
  conv => whnf
  (repeat' first | ((first|refine sN ?_|refine Dr.cons ?_|(refine Dr.nil ?_;refine drawIf (by kernel_rfl) ?_)|refine vN rfl ?_|refine Vc.draw rfl (by kernel_rfl) ?_|refine mkSl (by omega) (by omega) ?_);conv=>whnf))
  refine Vc.loop { i : Nat // ∀ j, j < i → j < l.length → (fun (x : Form) => !decide (x.C.getD v 0 = 0)) (l.getD j default) = false } (fun i => updL [0, 1, 7] [(8, I i.1)] []) (fun i => l.length - i.1) ⟨0, by simp⟩ ?_ (fun i => ?_)
  · repeat' (first | exact True.intro | ((conv => whnf); first | exact True.intro | refine ⟨by rfl, ?_⟩ | refine ⟨?_, ?_⟩))
  · have hi := i.2
    conv => whnf
    (repeat' first | ((first|refine sN ?_|refine Dr.cons ?_|(refine Dr.nil ?_;refine drawIf (by kernel_rfl) ?_)|refine vN rfl ?_|refine Vc.draw rfl (by kernel_rfl) ?_|refine mkSl (by omega) (by omega) ?_);conv=>whnf))
    refine ifB_d (fun g => ?_) (fun g => ?_)
    all_goals conv => whnf
    · repeat' first | ((first|refine sN ?_|refine Dr.cons ?_|(refine Dr.nil ?_;refine drawIf (by kernel_rfl) ?_)|refine vN rfl ?_|refine Vc.draw rfl (by kernel_rfl) ?_|refine mkSl (by omega) (by omega) ?_);conv=>whnf) | (refine ifB_i (fun _=>?_) (fun _=>?_)<;>conv=>whnf) | ((first | refine ixN (enc := eF) default (by omega) ?_ | refine ⟨_, rd_1 _ v hv (hl _ (gd_mem (by omega))), ?_⟩ | refine w64 (by omega) (by omega) ?_);conv=>whnf)
      · rename_i h
        exact rI' (idx_hit (p := fun (x : Form) => !decide (x.C.getD v 0 = 0)) default (by omega) h fun j hj => hi j hj (by omega)).symm
      · rename_i h
        refine ⟨⟨i.1 + 1, fun j hj hl => ?_⟩, ?_, ?_⟩
        · by_cases hji : j < i.1
          · exact hi j hji hl
          · obtain rfl : j = i.1 := by omega
            exact h
        · simp only; omega
        · repeat' (first | exact True.intro | ((conv => whnf); first | exact True.intro | refine ⟨by rfl, ?_⟩ | refine ⟨?_, ?_⟩))
    · (repeat' first | ((first|refine sN ?_|refine Dr.cons ?_|(refine Dr.nil ?_;refine drawIf (by kernel_rfl) ?_)|refine vN rfl ?_|refine Vc.draw rfl (by kernel_rfl) ?_|refine mkSl (by omega) (by omega) ?_);conv=>whnf))
      exact rI' (idx_none (p := fun (x : Form) => !decide (x.C.getD v 0 = 0)) default fun j hj => hi j (by omega) hj).symm
theorem rd_any (v : Nat) (hv : v < 3) (l : List Form) (hl : ∀ (x : Form), x ∈ l → x.sh) : Sem P 328 [(.pure, .one (sFs l)), (.pure, .one (.fn 348 [.fp [] [eI v] 0]))] [] (B (l.any fun (x : Form) => !decide (x.C.getD v 0 = 0))) := by
  refine fn_okR (E := E0) E0_tab E0_ord (fn := Go.Proofs.Tryz.f328) (by kernel_rfl) (by kernel_rfl) (fun hb => ?_)
  conv => whnf
  repeat' first | ((first|refine sN ?_|refine Dr.cons ?_|(refine Dr.nil ?_;refine drawIf (by kernel_rfl) ?_)|refine vN rfl ?_|refine Vc.draw rfl (by kernel_rfl) ?_|refine mkSl (by omega) (by omega) ?_);conv=>whnf) | (refine ifB_i (fun _=>?_) (fun _=>?_)<;>conv=>whnf) | (refine ⟨_, rd_any_ix v hv l hl, ?_⟩;conv=>whnf)
  exact rB (idx_any _ _)
theorem take_flat {l : List (List Form)} {i : Nat} (h : i < l.length) : (l.take (i + 1)).flatten = (l.take i).flatten ++ l.getD i [] := by
  rw [show l.take (i + 1) = l.take i ++ [l.getD i []] from take_succ_getD h, List.flatten_append]; simp
theorem flat_len : ∀ (l : List (List Form)), (∀ x ∈ l, x.length ≤ 100) → l.flatten.length ≤ l.length * 100
  | [], _ => by simp
  | a :: r, h => by
    have := flat_len r fun x hx => h x (List.mem_cons_of_mem _ hx)
    have := h a (by simp)
    simp only [List.flatten_cons, List.length_append, List.length_cons]; omega
theorem frz_forms (l : List Form) : frzOk (l.map eF) := by
  intro row h a ha
  obtain ⟨f, _, rfl⟩ := List.mem_map.1 h
  simp only [List.mem_cons, List.not_mem_nil, or_false] at ha
  rcases ha with rfl | rfl | rfl
  · exact .inr (.inr ⟨_, _, rfl⟩)
  · exact .inr (.inr ⟨_, _, rfl⟩)
  · exact .inl ⟨_, rfl⟩
theorem frz_eF (l : List Form) : (l.map eF).map (List.map frz) = l.map eF := by rw [List.map_map]; rfl
theorem apF {p k : Prop} {r : List (List AV)} (h : frzOk r) (hk : k) : p ∨ (([] : List Nat) = [] ∧ frzOk r ∧ k) := .inr ⟨rfl, h, hk⟩
theorem concat_forms (l : List (List Form)) (h1 : l.length ≤ 10) (h2 : ∀ x ∈ l, x.length ≤ 100) : Sem P 347 [(.pure, .one (.sl 287 (l.map fun x => [fFs x])))] [] (.one (sFs l.flatten)) := by
  refine fn_okR (E := { E0 with keep := [10001, 14002] }) E0_tab E0_ord (fn := Go.Proofs.Tryz.f347) (by kernel_rfl) (by kernel_rfl) (fun hb => ?_)
  have la : (l.map fun x => [fFs x]).length = l.length := List.length_map ..
  have fl := fun i => flat_len (l.take i) fun x hx => h2 x (List.mem_of_mem_take hx)
  have tl := fun i => List.length_take (i := i) (l := l)
  conv => whnf
  (repeat' first | ((first|refine sN ?_|refine Dr.cons ?_|(refine Dr.nil ?_;refine drawIf (by kernel_rfl) ?_)|refine vN rfl ?_|refine Vc.draw rfl (by kernel_rfl) ?_|refine mkSl (by omega) (by omega) ?_);conv=>whnf))
  refine Vc.loop1 (fun (i : Nat) => i ≤ l.length) (fun i => updL [0, 2, 6, 8, 9, 10, 23, 24, 25, 26, 27, 28, 29, 30, 31, 32, 33, 34, 35] [(11, I i), (3, I (l.take i).flatten.length)] []) (fun i => l.length - i) 0 (Nat.zero_le _) ?_ (fun i hi => ?_)
  · repeat' (first|exact True.intro|((conv=>whnf);first|exact True.intro|refine ⟨by rfl, ?_⟩|refine ⟨by first|omega|(show (_ : Int) = _;first|omega|(dsimp only;omega)), ?_⟩ | refine ⟨?_, ?_⟩))
  · have fi := fl i
    have ti := tl i
    conv => whnf
    (repeat' first | ((first|refine sN ?_|refine Dr.cons ?_|(refine Dr.nil ?_;refine drawIf (by kernel_rfl) ?_)|refine vN rfl ?_|refine Vc.draw rfl (by kernel_rfl) ?_|refine mkSl (by omega) (by omega) ?_);conv=>whnf))
    refine ifB_d (fun g => ?_) (fun g => ?_)
    all_goals conv => whnf
    · have hil : i < l.length := by omega
      have tf := congrArg List.length (take_flat hil)
      rw [List.length_append] at tf
      have hx : (l.getD i []).length ≤ 100 := h2 _ (gd_mem hil)
      have lf : (List.map eF (l.getD i [])).length = (l.getD i []).length := List.length_map ..
      repeat' first | ((first|refine sN ?_|refine Dr.cons ?_|(refine Dr.nil ?_;refine drawIf (by kernel_rfl) ?_)|refine vN rfl ?_|refine Vc.draw rfl (by kernel_rfl) ?_|refine mkSl (by omega) (by omega) ?_);conv=>whnf) | (refine ifB_i (fun _=>?_) (fun _=>?_)<;>conv=>whnf) | ((first | refine ixN (enc := fun x => [fFs x]) [] (by omega) ?_ | refine w64 (by omega) (by omega) ?_);conv=>whnf)
      refine ⟨i + 1, by omega, by simp only; omega, ?_⟩
      repeat' (first|exact True.intro|((conv=>whnf);first|exact True.intro|refine ⟨by rfl, ?_⟩|refine ⟨by first|omega|(show (_ : Int) = _;first|omega|(dsimp only;omega)), ?_⟩ | refine ⟨?_, ?_⟩))
    · have hend : l.take i = l := List.take_of_length_le (by omega)
      repeat' first | ((first|refine sN ?_|refine Dr.cons ?_|(refine Dr.nil ?_;refine drawIf (by kernel_rfl) ?_)|refine vN rfl ?_|refine Vc.draw rfl (by kernel_rfl) ?_|refine mkSl (by omega) (by omega) ?_);conv=>whnf) | (refine ifB_i (fun _=>?_) (fun _=>?_)<;>conv=>whnf) | (refine ⟨_, forms_grow (l.take i).flatten.length (by omega), ?_⟩;conv=>whnf)
      refine Vc.loop1 (fun (i : Nat) => i ≤ l.length) (fun i => updL [2, 25, 26, 35] [(27, I i), (6, .one (.ref 640064))] [(640064, .arr 129 ((l.take i).flatten.map eF) false)]) (fun i => l.length - i) 0 (Nat.zero_le _) ?_ (fun i hi => ?_)
      · repeat' (first|exact True.intro|((conv=>whnf);first|exact True.intro|refine ⟨by rfl, ?_⟩|refine ⟨by first|omega|(show (_ : Int) = _;first|omega|(dsimp only;omega)), ?_⟩ | refine ⟨?_, ?_⟩))
      · have fi := fl i
        have ti := tl i
        conv => whnf
        (repeat' first | ((first|refine sN ?_|refine Dr.cons ?_|(refine Dr.nil ?_;refine drawIf (by kernel_rfl) ?_)|refine vN rfl ?_|refine Vc.draw rfl (by kernel_rfl) ?_|refine mkSl (by omega) (by omega) ?_);conv=>whnf))
        refine ifB_d (fun g => ?_) (fun g => ?_)
        all_goals conv => whnf
        · have hil : i < l.length := by omega
          have hx : (l.getD i []).length ≤ 100 := h2 _ (gd_mem hil)
          repeat' first | ((first|refine sN ?_|refine Dr.cons ?_|(refine Dr.nil ?_;refine drawIf (by kernel_rfl) ?_)|refine vN rfl ?_|refine Vc.draw rfl (by kernel_rfl) ?_|refine mkSl (by omega) (by omega) ?_);conv=>whnf) | (refine ifB_i (fun _=>?_) (fun _=>?_)<;>conv=>whnf) | ((first | refine ixN (enc := fun x => [fFs x]) [] (by omega) ?_ | refine w64 (by omega) (by omega) ?_);conv=>whnf) | (refine apN (by simp only [List.length_map]; omega) ?_;conv=>whnf) | (refine apF (frz_forms _) ?_;conv=>whnf)
          refine ⟨i + 1, by omega, by simp only; omega, ?_⟩
          repeat' (first|exact True.intro|((conv=>whnf);first|exact True.intro|refine ⟨by rfl, ?_⟩|refine ⟨by first|omega|(show (_ : Int) = _;first|omega|(dsimp only;omega)) | exact (by rw [take_flat hil, List.map_append, frz_eF]), ?_⟩ | refine ⟨?_, ?_⟩))
        · have hend : l.take i = l := List.take_of_length_le (by omega)
          (repeat' first | ((first|refine sN ?_|refine Dr.cons ?_|(refine Dr.nil ?_;refine drawIf (by kernel_rfl) ?_)|refine vN rfl ?_|refine Vc.draw rfl (by kernel_rfl) ?_|refine mkSl (by omega) (by omega) ?_);conv=>whnf))
          exact ⟨by rw [hend], rfl⟩
theorem impl_reads (r : Row) (v : Nat) (hv : v < 3) (h1 : shs r.Adds) (h2 : shs r.Tells) : Sem P 294 [(.pure, .agg (aW r)), (.pure, I v)] [] (B (reads (r.Adds ++ r.Tells) v)) := by
  refine fn_okR (E := E0) E0_tab E0_ord (fn := Go.Proofs.Tryz.f294) (by kernel_rfl) (by kernel_rfl) (fun hb => ?_)
  conv => whnf
  repeat' first | ((first|refine sN ?_|refine Dr.cons ?_|(refine Dr.nil ?_;refine drawIf (by kernel_rfl) ?_)|refine vN rfl ?_|refine Vc.draw rfl (by kernel_rfl) ?_|refine mkSl (by omega) (by omega) ?_);conv=>whnf) | (refine ifB_i (fun _=>?_) (fun _=>?_)<;>conv=>whnf) | (refine ⟨_, concat_forms [r.Adds, r.Tells] (by simp) (by simp only [List.mem_cons, List.not_mem_nil, or_false]; rintro x (rfl | rfl); exact h1.1; exact h2.1), ?_⟩;conv=>whnf) | (refine ⟨_, rd_any v hv [r.Adds, r.Tells].flatten (fun f hf => by simp only [List.flatten_cons, List.flatten_nil, List.append_nil] at hf; rcases List.mem_append.1 hf with hf | hf; exact h1.2 f hf; exact h2.2 f hf), ?_⟩;conv=>whnf)
  exact rB (by simp [reads])
end Cc
end
section
namespace Cc
open Go Go.AM
set_option maxRecDepth 100000
set_option maxHeartbeats 4000000
theorem spec_catOk (acts : List (List Line)) : Sem P 97 [(.pure, .one (sAs acts))] [] (B (catOk acts)) := by
  refine fn_okR (E := E0) E0_tab E0_ord (fn := Go.Proofs.Tryz.f97) (by kernel_rfl) (by kernel_rfl) (fun hb => ?_)
  have la : (acts.map eA).length = acts.length := List.length_map ..
  have hb1 : (acts.map eA).length ≤ 1125899906842624 := hb.1.1
  conv => whnf
  repeat' first | ((first|refine sN ?_|refine Dr.cons ?_|(refine Dr.nil ?_;refine drawIf (by kernel_rfl) ?_)|refine vN rfl ?_|refine Vc.draw rfl (by kernel_rfl) ?_|refine mkSl (by omega) (by omega) ?_);conv=>whnf) | (refine ifB_i (fun _=>?_) (fun _=>?_)<;>conv=>whnf) | (refine ⟨_, spec_in _ _ _, ?_⟩;conv=>whnf)
  · rename_i h
    exact rB (by simp_all [catOk])
  · rename_i h
    refine Vc.loop1 (fun (i : Nat) => i ≤ acts.length ∧ ∀ j, j < i → actOk (acts.getD j default) = true) (fun i => updL [0] [(3, I i)] []) (fun i => acts.length - i) 0 ⟨by omega, fun j hj => absurd hj (Nat.not_lt_zero j)⟩ ?_ (fun i hi => ?_)
    · repeat' (first | exact True.intro | ((conv => whnf); first | exact True.intro | refine ⟨by rfl, ?_⟩ | refine ⟨?_, ?_⟩))
    · obtain ⟨hi, ho⟩ := hi
      have hlm : (acts.map eA).length = acts.length := List.length_map ..
      conv => whnf
      (repeat' first | ((first|refine sN ?_|refine Dr.cons ?_|(refine Dr.nil ?_;refine drawIf (by kernel_rfl) ?_)|refine vN rfl ?_|refine Vc.draw rfl (by kernel_rfl) ?_|refine mkSl (by omega) (by omega) ?_);conv=>whnf))
      refine ifB_d (fun g => ?_) (fun g => ?_)
      all_goals conv => whnf
      · repeat' first | ((first|refine sN ?_|refine Dr.cons ?_|(refine Dr.nil ?_;refine drawIf (by kernel_rfl) ?_)|refine vN rfl ?_|refine Vc.draw rfl (by kernel_rfl) ?_|refine mkSl (by omega) (by omega) ?_);conv=>whnf) | (refine ifB_i (fun _=>?_) (fun _=>?_)<;>conv=>whnf) | ((first | refine ixN (enc := eA) default (by omega) ?_ | refine ⟨_, spec_actOk _, ?_⟩ | refine w64 (by first | omega | (dsimp only; omega)) (by first | omega | (dsimp only; omega)) ?_);conv=>whnf)
        all_goals first
          | (refine ⟨i + 1, ⟨by omega, fun j hj => ?_⟩, by simp only; omega, ?_⟩
             · by_cases h' : j < i
               · exact ho j h'
               · obtain rfl : j = i := by omega
                 clear ho
                 simp_all
             · repeat' (first | exact True.intro | ((conv => whnf); first | exact True.intro | refine ⟨by rfl, ?_⟩ | refine ⟨?_, ?_⟩)))
          | (have hp : actOk (acts.getD i default) = false := by (clear ho; simp_all )
             have hn : acts.all actOk = false := all_not default (j := i) (by omega) hp
             exact rB (by simp_all [catOk]))
      · have hall : acts.all actOk = true := all_get default fun j hj => ho j (by omega)
        repeat' first | ((first|refine sN ?_|refine Dr.cons ?_|(refine Dr.nil ?_;refine drawIf (by kernel_rfl) ?_)|refine vN rfl ?_|refine Vc.draw rfl (by kernel_rfl) ?_|refine mkSl (by omega) (by omega) ?_);conv=>whnf) | (refine ifB_i (fun _=>?_) (fun _=>?_)<;>conv=>whnf) | ((first | refine ⟨_, spec_actOk _, ?_⟩ | refine w64 (by first | omega | (dsimp only; omega)) (by first | omega | (dsimp only; omega)) ?_);conv=>whnf)
        exact rB (by simp_all [catOk])
theorem cat_1 (a : List Line) : Sem P 279 [(.pure, .one (sLs a))] [] (B (!actOk a)) := by
  refine fn_okR (E := E0) E0_tab E0_ord (fn := Go.Proofs.Tryz.f279) (by kernel_rfl) (by kernel_rfl) (fun hb => ?_)
  conv => whnf
  repeat' first | ((first|refine sN ?_|refine Dr.cons ?_|(refine Dr.nil ?_;refine drawIf (by kernel_rfl) ?_)|refine vN rfl ?_|refine Vc.draw rfl (by kernel_rfl) ?_|refine mkSl (by omega) (by omega) ?_);conv=>whnf) | (refine ifB_i (fun _=>?_) (fun _=>?_)<;>conv=>whnf) | (refine ⟨_, impl_actOk _, ?_⟩;conv=>whnf)
  exact ⟨rfl, rfl⟩
theorem cats_any_ix  (l : List (List Line)) : Sem P 337 [(.pure, .one (sAs l)), (.pure, .one (.fn 279 []))] [] (I (idxOf (fun (x : (List Line)) => !actOk x) l)) := by
  refine fn_okR (E := E0) E0_tab E0_ord (fn := Go.Proofs.Tryz.f337) (by kernel_rfl) (by kernel_rfl) (fun hb => ?_)
  have la : (l.map eA).length = l.length := List.length_map ..
  have hb1 : (l.map eA).length ≤ 1125899906842624 := hb.1.1
  conv => whnf
  (repeat' first | ((first|refine sN ?_|refine Dr.cons ?_|(refine Dr.nil ?_;refine drawIf (by kernel_rfl) ?_)|refine vN rfl ?_|refine Vc.draw rfl (by kernel_rfl) ?_|refine mkSl (by omega) (by omega) ?_);conv=>whnf))
  refine Vc.loop { i : Nat // ∀ j, j < i → j < l.length → (fun (x : (List Line)) => !actOk x) (l.getD j default) = false } (fun i => updL [0, 1, 7] [(8, I i.1)] []) (fun i => l.length - i.1) ⟨0, by simp⟩ ?_ (fun i => ?_)
  · repeat' (first | exact True.intro | ((conv => whnf); first | exact True.intro | refine ⟨by rfl, ?_⟩ | refine ⟨?_, ?_⟩))
  · have hi := i.2
    conv => whnf
    (repeat' first | ((first|refine sN ?_|refine Dr.cons ?_|(refine Dr.nil ?_;refine drawIf (by kernel_rfl) ?_)|refine vN rfl ?_|refine Vc.draw rfl (by kernel_rfl) ?_|refine mkSl (by omega) (by omega) ?_);conv=>whnf))
    refine ifB_d (fun g => ?_) (fun g => ?_)
    all_goals conv => whnf
    · repeat' first | ((first|refine sN ?_|refine Dr.cons ?_|(refine Dr.nil ?_;refine drawIf (by kernel_rfl) ?_)|refine vN rfl ?_|refine Vc.draw rfl (by kernel_rfl) ?_|refine mkSl (by omega) (by omega) ?_);conv=>whnf) | (refine ifB_i (fun _=>?_) (fun _=>?_)<;>conv=>whnf) | ((first | refine ixN (enc := eA) default (by omega) ?_ | refine ⟨_, cat_1 _, ?_⟩ | refine w64 (by omega) (by omega) ?_);conv=>whnf)
      · rename_i h
        exact rI' (idx_hit (p := fun (x : (List Line)) => !actOk x) default (by omega) h fun j hj => hi j hj (by omega)).symm
      · rename_i h
        refine ⟨⟨i.1 + 1, fun j hj hl => ?_⟩, ?_, ?_⟩
        · by_cases hji : j < i.1
          · exact hi j hji hl
          · obtain rfl : j = i.1 := by omega
            exact h
        · simp only; omega
        · repeat' (first | exact True.intro | ((conv => whnf); first | exact True.intro | refine ⟨by rfl, ?_⟩ | refine ⟨?_, ?_⟩))
    · (repeat' first | ((first|refine sN ?_|refine Dr.cons ?_|(refine Dr.nil ?_;refine drawIf (by kernel_rfl) ?_)|refine vN rfl ?_|refine Vc.draw rfl (by kernel_rfl) ?_|refine mkSl (by omega) (by omega) ?_);conv=>whnf))
      exact rI' (idx_none (p := fun (x : (List Line)) => !actOk x) default fun j hj => hi j (by omega) hj).symm
theorem cats_any  (l : List (List Line)) : Sem P 278 [(.pure, .one (sAs l)), (.pure, .one (.fn 279 []))] [] (B (l.any fun (x : (List Line)) => !actOk x)) := by
  refine fn_okR (E := E0) E0_tab E0_ord (fn := Go.Proofs.Tryz.f278) (by kernel_rfl) (by kernel_rfl) (fun hb => ?_)
  conv => whnf
  repeat' first | ((first|refine sN ?_|refine Dr.cons ?_|(refine Dr.nil ?_;refine drawIf (by kernel_rfl) ?_)|refine vN rfl ?_|refine Vc.draw rfl (by kernel_rfl) ?_|refine mkSl (by omega) (by omega) ?_);conv=>whnf) | (refine ifB_i (fun _=>?_) (fun _=>?_)<;>conv=>whnf) | (refine ⟨_, cats_any_ix  l, ?_⟩;conv=>whnf)
  exact rB (idx_any _ _)
theorem impl_catOk (acts : List (List Line)) : Sem P 173 [(.pure, .one (sAs acts))] [] (B (catOk acts)) := by
  refine fn_okR (E := E0) E0_tab E0_ord (fn := Go.Proofs.Tryz.f173) (by kernel_rfl) (by kernel_rfl) (fun hb => ?_)
  have la : (acts.map eA).length = acts.length := List.length_map ..
  conv => whnf
  repeat' first | ((first|refine sN ?_|refine Dr.cons ?_|(refine Dr.nil ?_;refine drawIf (by kernel_rfl) ?_)|refine vN rfl ?_|refine Vc.draw rfl (by kernel_rfl) ?_|refine mkSl (by omega) (by omega) ?_);conv=>whnf) | (refine ifB_i (fun _=>?_) (fun _=>?_)<;>conv=>whnf) | ((first | refine ⟨_, impl_in _ _ _, ?_⟩ | refine ⟨_, cats_any acts, ?_⟩);conv=>whnf)
  all_goals exact rB (by simp_all [catOk, any_all])
theorem trt_1 (n : Int) : Sem P 280 [(.pure, I n)] [] (B (!inB n 0 50)) := by
  refine fn_okR (E := E0) E0_tab E0_ord (fn := Go.Proofs.Tryz.f280) (by kernel_rfl) (by kernel_rfl) (fun hb => ?_)
  conv => whnf
  repeat' first | ((first|refine sN ?_|refine Dr.cons ?_|(refine Dr.nil ?_;refine drawIf (by kernel_rfl) ?_)|refine vN rfl ?_|refine Vc.draw rfl (by kernel_rfl) ?_|refine mkSl (by omega) (by omega) ?_);conv=>whnf) | (refine ifB_i (fun _=>?_) (fun _=>?_)<;>conv=>whnf) | (refine ⟨_, impl_in _ _ _, ?_⟩;conv=>whnf)
  exact ⟨rfl, rfl⟩
theorem gives_any_ix  (l : List Int) : Sem P 286 [(.pure, .one (sI l)), (.pure, .one (.fn 280 []))] [] (I (idxOf (fun (x : Int) => !inB x 0 50) l)) := by
  refine fn_okR (E := E0) E0_tab E0_ord (fn := Go.Proofs.Tryz.f286) (by kernel_rfl) (by kernel_rfl) (fun hb => ?_)
  have la : (ints l).length = l.length := List.length_map ..
  have hb1 : (ints l).length ≤ 1125899906842624 := hb.1.1
  conv => whnf
  (repeat' first | ((first|refine sN ?_|refine Dr.cons ?_|(refine Dr.nil ?_;refine drawIf (by kernel_rfl) ?_)|refine vN rfl ?_|refine Vc.draw rfl (by kernel_rfl) ?_|refine mkSl (by omega) (by omega) ?_);conv=>whnf))
  refine Vc.loop { i : Nat // ∀ j, j < i → j < l.length → (fun (x : Int) => !inB x 0 50) (l.getD j default) = false } (fun i => updL [0, 1, 7] [(8, I i.1)] []) (fun i => l.length - i.1) ⟨0, by simp⟩ ?_ (fun i => ?_)
  · repeat' (first | exact True.intro | ((conv => whnf); first | exact True.intro | refine ⟨by rfl, ?_⟩ | refine ⟨?_, ?_⟩))
  · have hi := i.2
    conv => whnf
    (repeat' first | ((first|refine sN ?_|refine Dr.cons ?_|(refine Dr.nil ?_;refine drawIf (by kernel_rfl) ?_)|refine vN rfl ?_|refine Vc.draw rfl (by kernel_rfl) ?_|refine mkSl (by omega) (by omega) ?_);conv=>whnf))
    refine ifB_d (fun g => ?_) (fun g => ?_)
    all_goals conv => whnf
    · repeat' first | ((first|refine sN ?_|refine Dr.cons ?_|(refine Dr.nil ?_;refine drawIf (by kernel_rfl) ?_)|refine vN rfl ?_|refine Vc.draw rfl (by kernel_rfl) ?_|refine mkSl (by omega) (by omega) ?_);conv=>whnf) | (refine ifB_i (fun _=>?_) (fun _=>?_)<;>conv=>whnf) | ((first | refine ixN (enc := rI) default (by omega) ?_ | refine ⟨_, trt_1 _, ?_⟩ | refine w64 (by omega) (by omega) ?_);conv=>whnf)
      · rename_i h
        exact rI' (idx_hit (p := fun (x : Int) => !inB x 0 50) default (by omega) h fun j hj => hi j hj (by omega)).symm
      · rename_i h
        refine ⟨⟨i.1 + 1, fun j hj hl => ?_⟩, ?_, ?_⟩
        · by_cases hji : j < i.1
          · exact hi j hji hl
          · obtain rfl : j = i.1 := by omega
            exact h
        · simp only; omega
        · repeat' (first | exact True.intro | ((conv => whnf); first | exact True.intro | refine ⟨by rfl, ?_⟩ | refine ⟨?_, ?_⟩))
    · (repeat' first | ((first|refine sN ?_|refine Dr.cons ?_|(refine Dr.nil ?_;refine drawIf (by kernel_rfl) ?_)|refine vN rfl ?_|refine Vc.draw rfl (by kernel_rfl) ?_|refine mkSl (by omega) (by omega) ?_);conv=>whnf))
      exact rI' (idx_none (p := fun (x : Int) => !inB x 0 50) default fun j hj => hi j (by omega) hj).symm
theorem gives_any  (l : List Int) : Sem P 188 [(.pure, .one (sI l)), (.pure, .one (.fn 280 []))] [] (B (l.any fun (x : Int) => !inB x 0 50)) := by
  refine fn_okR (E := E0) E0_tab E0_ord (fn := Go.Proofs.Tryz.f188) (by kernel_rfl) (by kernel_rfl) (fun hb => ?_)
  conv => whnf
  repeat' first | ((first|refine sN ?_|refine Dr.cons ?_|(refine Dr.nil ?_;refine drawIf (by kernel_rfl) ?_)|refine vN rfl ?_|refine Vc.draw rfl (by kernel_rfl) ?_|refine mkSl (by omega) (by omega) ?_);conv=>whnf) | (refine ifB_i (fun _=>?_) (fun _=>?_)<;>conv=>whnf) | (refine ⟨_, gives_any_ix  l, ?_⟩;conv=>whnf)
  exact rB (idx_any _ _)
theorem impl_trtOk (t : Treaty) : Sem P 174 [(.pure, .agg (aT t))] [] (B (trtOk t)) := by
  refine fn_okR (E := E0) E0_tab E0_ord (fn := Go.Proofs.Tryz.f174) (by kernel_rfl) (by kernel_rfl) (fun hb => ?_)
  have la := ints_len t.Gives
  conv => whnf
  repeat' first | ((first|refine sN ?_|refine Dr.cons ?_|(refine Dr.nil ?_;refine drawIf (by kernel_rfl) ?_)|refine vN rfl ?_|refine Vc.draw rfl (by kernel_rfl) ?_|refine mkSl (by omega) (by omega) ?_);conv=>whnf) | (refine ifB_i (fun _=>?_) (fun _=>?_)<;>conv=>whnf) | ((first | refine ⟨_, impl_valOk _, ?_⟩ | refine ⟨_, impl_in _ _ _, ?_⟩ | refine ⟨_, gives_any t.Gives, ?_⟩);conv=>whnf)
  all_goals exact rB (by simp_all [trtOk, givesOk, any_all])
theorem spec_trtOk (t : Treaty) : Sem P 99 [(.pure, .agg (aT t))] [] (B (trtOk t)) := by
  refine fn_okR (E := E0) E0_tab E0_ord (fn := Go.Proofs.Tryz.f99) (by kernel_rfl) (by kernel_rfl) (fun hb => ?_)
  have la := ints_len t.Gives
  have hb1 : (ints t.Gives).length ≤ 1125899906842624 := (hb.1 (sI t.Gives) (by simp)).1
  conv => whnf
  repeat' first | ((first|refine sN ?_|refine Dr.cons ?_|(refine Dr.nil ?_;refine drawIf (by kernel_rfl) ?_)|refine vN rfl ?_|refine Vc.draw rfl (by kernel_rfl) ?_|refine mkSl (by omega) (by omega) ?_);conv=>whnf) | (refine ifB_i (fun _=>?_) (fun _=>?_)<;>conv=>whnf) | ((first | refine ⟨_, spec_valOk _, ?_⟩ | refine ⟨_, spec_in _ _ _, ?_⟩);conv=>whnf)
  · rename_i h
    exact rB (by simp_all [trtOk])
  · rename_i h
    exact rB (by simp_all [trtOk, givesOk])
  · rename_i h1 h2
    refine Vc.loop1 (fun (i : Nat) => i ≤ t.Gives.length ∧ ∀ j, j < i → (fun n => inB n 0 50) (t.Gives.getD j default) = true) (fun i => updL [1] [(3, I i)] []) (fun i => t.Gives.length - i) 0 ⟨by omega, fun j hj => absurd hj (Nat.not_lt_zero j)⟩ ?_ (fun i hi => ?_)
    · repeat' (first | exact True.intro | ((conv => whnf); first | exact True.intro | refine ⟨by rfl, ?_⟩ | refine ⟨?_, ?_⟩))
    · obtain ⟨hi, ho⟩ := hi
      have hlm : (t.Gives.map rI).length = t.Gives.length := List.length_map ..
      conv => whnf
      (repeat' first | ((first|refine sN ?_|refine Dr.cons ?_|(refine Dr.nil ?_;refine drawIf (by kernel_rfl) ?_)|refine vN rfl ?_|refine Vc.draw rfl (by kernel_rfl) ?_|refine mkSl (by omega) (by omega) ?_);conv=>whnf))
      refine ifB_d (fun g => ?_) (fun g => ?_)
      all_goals conv => whnf
      · repeat' first | ((first|refine sN ?_|refine Dr.cons ?_|(refine Dr.nil ?_;refine drawIf (by kernel_rfl) ?_)|refine vN rfl ?_|refine Vc.draw rfl (by kernel_rfl) ?_|refine mkSl (by omega) (by omega) ?_);conv=>whnf) | (refine ifB_i (fun _=>?_) (fun _=>?_)<;>conv=>whnf) | ((first | refine ixN (enc := rI) default (by omega) ?_ | refine ⟨_, spec_in _ _ _, ?_⟩ | refine w64 (by first | omega | (dsimp only; omega)) (by first | omega | (dsimp only; omega)) ?_);conv=>whnf)
        all_goals first
          | (refine ⟨i + 1, ⟨by omega, fun j hj => ?_⟩, by simp only; omega, ?_⟩
             · by_cases h' : j < i
               · exact ho j h'
               · obtain rfl : j = i := by omega
                 clear ho
                 simp_all
             · repeat' (first | exact True.intro | ((conv => whnf); first | exact True.intro | refine ⟨by rfl, ?_⟩ | refine ⟨?_, ?_⟩)))
          | (have hp : (fun n => inB n 0 50) (t.Gives.getD i default) = false := by (clear ho; simp_all )
             have hn : t.Gives.all (fun n => inB n 0 50) = false := all_not default (j := i) (by omega) hp
             exact rB (by simp_all [trtOk, givesOk]))
      · have hall : t.Gives.all (fun n => inB n 0 50) = true := all_get default fun j hj => ho j (by omega)
        repeat' first | ((first|refine sN ?_|refine Dr.cons ?_|(refine Dr.nil ?_;refine drawIf (by kernel_rfl) ?_)|refine vN rfl ?_|refine Vc.draw rfl (by kernel_rfl) ?_|refine mkSl (by omega) (by omega) ?_);conv=>whnf) | (refine ifB_i (fun _=>?_) (fun _=>?_)<;>conv=>whnf) | ((first | refine ⟨_, spec_in _ _ _, ?_⟩ | refine w64 (by first | omega | (dsimp only; omega)) (by first | omega | (dsimp only; omega)) ?_);conv=>whnf)
        exact rB (by simp_all [trtOk, givesOk])
theorem impl_treaty (p : Plan) (base : List Int) : Sem P 175 [(.pure, .agg (aPl p)), (.pure, AI base)] [] (.agg [fI base, fI p.Gives]) := by
  refine fn_okR (E := E0) E0_tab E0_ord (fn := Go.Proofs.Tryz.f175) (by kernel_rfl) (by kernel_rfl) (fun hb => ?_)
  conv => whnf
  repeat' first | ((first|refine sN ?_|refine Dr.cons ?_|(refine Dr.nil ?_;refine drawIf (by kernel_rfl) ?_)|refine vN rfl ?_|refine Vc.draw rfl (by kernel_rfl) ?_|refine mkSl (by omega) (by omega) ?_);conv=>whnf) | (refine ifB_i (fun _=>?_) (fun _=>?_)<;>conv=>whnf)
  exact ⟨rfl, rfl⟩
theorem impl_planOk (p : Plan) : Sem P 75 [(.pure, .agg (aPl p))] [] (B (planOk p)) := by
  refine fn_okR (E := E0) E0_tab E0_ord (fn := Go.Proofs.Tryz.f75) (by kernel_rfl) (by kernel_rfl) (fun hb => ?_)
  conv => whnf
  repeat' first | ((first|refine sN ?_|refine Dr.cons ?_|(refine Dr.nil ?_;refine drawIf (by kernel_rfl) ?_)|refine vN rfl ?_|refine Vc.draw rfl (by kernel_rfl) ?_|refine mkSl (by omega) (by omega) ?_);conv=>whnf) | (refine ifB_i (fun _=>?_) (fun _=>?_)<;>conv=>whnf) | ((first | refine ⟨_, impl_in _ _ _, ?_⟩ | refine ⟨_, impl_catOk _, ?_⟩ | refine ⟨_, impl_within _ 3 _ (by omega), ?_⟩ | refine ⟨_, impl_treaty p p.Start, ?_⟩ | refine ⟨_, impl_trtOk ⟨p.Start, p.Gives⟩, ?_⟩);conv=>whnf)
  all_goals exact rB (by simp_all [planOk, Plan.treaty])
theorem spec_planOk (p : Plan) : Sem P 24 [(.pure, .agg (aPl p))] [] (B (planOk p)) := by
  refine fn_okR (E := E0) E0_tab E0_ord (fn := Go.Proofs.Tryz.f24) (by kernel_rfl) (by kernel_rfl) (fun hb => ?_)
  conv => whnf
  repeat' first | ((first|refine sN ?_|refine Dr.cons ?_|(refine Dr.nil ?_;refine drawIf (by kernel_rfl) ?_)|refine vN rfl ?_|refine Vc.draw rfl (by kernel_rfl) ?_|refine mkSl (by omega) (by omega) ?_);conv=>whnf) | (refine ifB_i (fun _=>?_) (fun _=>?_)<;>conv=>whnf) | ((first | refine ⟨_, spec_in _ _ _, ?_⟩ | refine ⟨_, spec_catOk _, ?_⟩ | refine ⟨_, spec_all _ 3 _ (by omega), ?_⟩ | refine ⟨_, spec_trtOk ⟨p.Start, p.Gives⟩, ?_⟩);conv=>whnf)
  all_goals exact rB (by simp_all [planOk, Plan.treaty])
theorem impl_isClient (p : Plan) (n : Int) (hc : inB p.Clients 0 4 = true) : Sem P 165 [(.pure, .agg (aPl p)), (.pure, I n)] [] (B (isClient p n)) := by
  have hc := inB_iff.1 hc
  refine fn_okR (E := E0) E0_tab E0_ord (fn := Go.Proofs.Tryz.f165) (by kernel_rfl) (by kernel_rfl) (fun hb => ?_)
  conv => whnf
  repeat' first | ((first|refine sN ?_|refine Dr.cons ?_|(refine Dr.nil ?_;refine drawIf (by kernel_rfl) ?_)|refine vN rfl ?_|refine Vc.draw rfl (by kernel_rfl) ?_|refine mkSl (by omega) (by omega) ?_);conv=>whnf) | (refine ifB_i (fun _=>?_) (fun _=>?_)<;>conv=>whnf) | ((first | refine ⟨_, impl_in _ _ _, ?_⟩ | refine w64 (by omega) (by omega) ?_);conv=>whnf)
  exact ⟨rfl, rfl⟩
theorem impl_callOk (p : Plan) (c : Call) (hc : inB p.Clients 0 4 = true) : Sem P 178 [(.pure, .agg (aPl p)), (.pure, .agg (aC c))] [] (B (callB p c)) := by
  refine fn_okR (E := E0) E0_tab E0_ord (fn := Go.Proofs.Tryz.f178) (by kernel_rfl) (by kernel_rfl) (fun hb => ?_)
  have la : (p.Acts.map eA).length = p.Acts.length := List.length_map ..
  have hb1 : (p.Acts.map eA).length ≤ 1125899906842624 := (hb.1 (sAs p.Acts) (by simp)).1
  conv => whnf
  repeat' first | ((first|refine sN ?_|refine Dr.cons ?_|(refine Dr.nil ?_;refine drawIf (by kernel_rfl) ?_)|refine vN rfl ?_|refine Vc.draw rfl (by kernel_rfl) ?_|refine mkSl (by omega) (by omega) ?_);conv=>whnf) | (refine ifB_i (fun _=>?_) (fun _=>?_)<;>conv=>whnf) | ((first | refine ⟨_, impl_isClient p c.Client hc, ?_⟩ | refine ⟨_, impl_in _ _ _, ?_⟩ | refine ⟨_, impl_argOk _, ?_⟩ | refine w64 (by omega) (by omega) ?_);conv=>whnf)
  all_goals exact rB (by simp_all [callB])
theorem spec_call (p : Plan) (c : Call) (hc : inB p.Clients 0 4 = true) : Sem P 164 [(.pure, .agg (aPl p)), (.pure, .agg (aC c))] [] (B (callB p c)) := by
  have hc := inB_iff.1 hc
  refine fn_okR (E := E0) E0_tab E0_ord (fn := Go.Proofs.Tryz.f164) (by kernel_rfl) (by kernel_rfl) (fun hb => ?_)
  have la : (p.Acts.map eA).length = p.Acts.length := List.length_map ..
  have hb1 : (p.Acts.map eA).length ≤ 1125899906842624 := (hb.1 (sAs p.Acts) (by simp)).1
  conv => whnf
  repeat' first | ((first|refine sN ?_|refine Dr.cons ?_|(refine Dr.nil ?_;refine drawIf (by kernel_rfl) ?_)|refine vN rfl ?_|refine Vc.draw rfl (by kernel_rfl) ?_|refine mkSl (by omega) (by omega) ?_);conv=>whnf) | (refine ifB_i (fun _=>?_) (fun _=>?_)<;>conv=>whnf) | ((first | refine ⟨_, spec_in _ _ _, ?_⟩ | refine ⟨_, spec_argOk _, ?_⟩ | refine w64 (by omega) (by omega) ?_);conv=>whnf)
  all_goals exact rB (by simp_all [callB, isClient])
end Cc
end
section
namespace Cc
open Go Go.AM
set_option maxRecDepth 100000
set_option maxHeartbeats 4000000
theorem catOk_four {acts : List (List Line)} (h : catOk acts = true) : acts.length ≤ 4 := by
  unfold catOk at h
  rw [Bool.and_eq_true] at h
  have := inB_iff.1 h.1; omega
theorem addPart_eq' {out : List (List Int)} {g : Form} (h : g.sh) : addPart out g = if (!zeros (part g.C) && decide (idxOf (fun q => decide (q = part g.C)) out < 0)) = true then out ++ [part g.C] else out := by
  unfold addPart
  simp only [has_idx]
theorem impl_pots (acts : List (List Line)) (h4 : acts.length ≤ 4) : Sem P 293 [(.pure, .one (sAs acts)), (.pure, .one (.fn 294 []))] [] (.one (sBs (pinsOf acts))) := by
  refine fn_okR (E := E0) E0_tab E0_ord (fn := Go.Proofs.Tryz.f293) (by kernel_rfl) (by kernel_rfl) (fun hb => ?_)
  have la : (acts.map eA).length = acts.length := List.length_map ..
  conv => whnf
  (repeat' first | ((first|refine sN ?_|refine Dr.cons ?_|(refine Dr.nil ?_;refine drawIf (by kernel_rfl) ?_)|refine vN rfl ?_|refine Vc.draw rfl (by kernel_rfl) ?_|refine mkSl (by omega) (by omega) ?_);conv=>whnf))
  refine Vc.loop1 (fun (i : Nat) => i ≤ acts.length) (fun i => updL [1, 4, 5, 12, 13, 46] [(14, I i)] [(128000, .arr 4 [[eB (reads (fAt acts i 0) 0)], [eB (reads (fAt acts i 0) 1)], [eB (reads (fAt acts i 0) 2)]] false)]) (fun i => acts.length - i) 0 (by omega) ?_ (fun i hi => ?_)
  · repeat' (first|exact True.intro|((conv=>whnf);first|exact True.intro|refine ⟨by rfl, ?_⟩|refine ⟨by first|omega|(show (_ : Int) = _;first|omega|(dsimp only;omega)), ?_⟩ | refine ⟨?_, ?_⟩))
  · conv => whnf
    (repeat' first | ((first|refine sN ?_|refine Dr.cons ?_|(refine Dr.nil ?_;refine drawIf (by kernel_rfl) ?_)|refine vN rfl ?_|refine Vc.draw rfl (by kernel_rfl) ?_|refine mkSl (by omega) (by omega) ?_);conv=>whnf))
    refine ifB_d (fun g => ?_) (fun g => ?_)
    all_goals conv => whnf
    · have hil : i < acts.length := by omega
      have hb1 : (List.map eW (rowsOf (acts.getD i []))).length = (rowsOf (acts.getD i [])).length := List.length_map ..
      have rl := rows_len (acts.getD i [])
      repeat' first | ((first|refine sN ?_|refine Dr.cons ?_|(refine Dr.nil ?_;refine drawIf (by kernel_rfl) ?_)|refine vN rfl ?_|refine Vc.draw rfl (by kernel_rfl) ?_|refine mkSl (by omega) (by omega) ?_);conv=>whnf) | (refine ifB_i (fun _=>?_) (fun _=>?_)<;>conv=>whnf) | ((first | refine ixN (enc := eA) [] hil ?_ | refine ⟨_, impl_rowsOf (acts.getD i []), ?_⟩);conv=>whnf)
      refine Vc.loop1 (fun (k : Nat) => k ≤ (rowsOf (acts.getD i [])).length) (fun k => updL [1, 4, 5, 7, 12, 13, 14, 15, 16, 17, 18, 19, 20, 45, 46] [(21, I k)] [(128000, .arr 4 [[eB (reads (fAt acts i k) 0)], [eB (reads (fAt acts i k) 1)], [eB (reads (fAt acts i k) 2)]] false)]) (fun k => (rowsOf (acts.getD i [])).length - k) 0 (by omega) ?_ (fun k hk => ?_)
      · repeat' (first|exact True.intro|((conv=>whnf);first|exact True.intro|refine ⟨by rfl, ?_⟩|refine ⟨by first|omega|(show (_ : Int) = _;first|omega|(dsimp only;omega)), ?_⟩ | refine ⟨?_, ?_⟩))
      · conv => whnf
        (repeat' first | ((first|refine sN ?_|refine Dr.cons ?_|(refine Dr.nil ?_;refine drawIf (by kernel_rfl) ?_)|refine vN rfl ?_|refine Vc.draw rfl (by kernel_rfl) ?_|refine mkSl (by omega) (by omega) ?_);conv=>whnf))
        refine ifB_d (fun g => ?_) (fun g => ?_)
        all_goals conv => whnf
        · have hkl : k < (rowsOf (acts.getD i [])).length := by omega
          have hmem : (rowsOf (acts.getD i [])).getD k default ∈ rowsOf (acts.getD i []) := gd_mem hkl
          obtain ⟨sg, sa, st⟩ := rows_shs hmem
          have er := fAt_row hkl
          repeat' first | ((first|refine sN ?_|refine Dr.cons ?_|(refine Dr.nil ?_;refine drawIf (by kernel_rfl) ?_)|refine vN rfl ?_|refine Vc.draw rfl (by kernel_rfl) ?_|refine mkSl (by omega) (by omega) ?_);conv=>whnf) | (refine ifB_i (fun _=>?_) (fun _=>?_)<;>conv=>whnf) | (refine ixN (enc := eW) default hkl ?_;conv=>whnf)
          refine Vc.loop1 (fun (v : Nat) => v ≤ 3) (fun v => updL [1, 4, 5, 7, 9, 12, 13, 14, 15, 16, 17, 18, 19, 20, 21, 22, 23, 24, 25, 26, 44, 45, 46] [(27, I v)] [(128000, .arr 4 [[eB (reads (fAt acts i k) 0 || (decide (0 < v) && reads (((rowsOf (acts.getD i [])).getD k default).Adds ++ ((rowsOf (acts.getD i [])).getD k default).Tells) 0))], [eB (reads (fAt acts i k) 1 || (decide (1 < v) && reads (((rowsOf (acts.getD i [])).getD k default).Adds ++ ((rowsOf (acts.getD i [])).getD k default).Tells) 1))], [eB (reads (fAt acts i k) 2 || (decide (2 < v) && reads (((rowsOf (acts.getD i [])).getD k default).Adds ++ ((rowsOf (acts.getD i [])).getD k default).Tells) 2))]] false)]) (fun v => 3 - v) 0 (by omega) ?_ (fun v hv => ?_)
          · repeat' (first|exact True.intro|((conv=>whnf);first|exact True.intro|refine ⟨by rfl, ?_⟩|refine ⟨by first|omega|(show (_ : Int) = _;first|omega|(dsimp only;omega)) | exact by simp, ?_⟩ | refine ⟨?_, ?_⟩))
          · match v, hv with
            | 0, _ =>
              conv => whnf
              repeat' first | ((first|refine sN ?_|refine Dr.cons ?_|(refine Dr.nil ?_;refine drawIf (by kernel_rfl) ?_)|refine vN rfl ?_|refine Vc.draw rfl (by kernel_rfl) ?_|refine mkSl (by omega) (by omega) ?_);conv=>whnf) | (refine ifB_i (fun _=>?_) (fun _=>?_)<;>conv=>whnf) | ((first | refine ioN (by decide) (by simp) ?_ | refine rwC rfl ?_ | refine ⟨_, impl_reads ((rowsOf (acts.getD i [])).getD k default) 0 (by decide) sa st, ?_⟩ | refine w64 (by omega) (by omega) ?_);conv=>whnf)
              all_goals (refine ⟨1, by omega, by simp only; omega, ?_⟩)
              all_goals (repeat' (first|exact True.intro|((conv=>whnf);first|exact True.intro|refine ⟨by rfl, ?_⟩|refine ⟨by first|omega|(show (_ : Int) = _;first|omega|(dsimp only;omega)) | exact by simp_all, ?_⟩ | refine ⟨?_, ?_⟩)))
            | 1, _ =>
              conv => whnf
              repeat' first | ((first|refine sN ?_|refine Dr.cons ?_|(refine Dr.nil ?_;refine drawIf (by kernel_rfl) ?_)|refine vN rfl ?_|refine Vc.draw rfl (by kernel_rfl) ?_|refine mkSl (by omega) (by omega) ?_);conv=>whnf) | (refine ifB_i (fun _=>?_) (fun _=>?_)<;>conv=>whnf) | ((first | refine ioN (by decide) (by simp) ?_ | refine rwC rfl ?_ | refine ⟨_, impl_reads ((rowsOf (acts.getD i [])).getD k default) 1 (by decide) sa st, ?_⟩ | refine w64 (by omega) (by omega) ?_);conv=>whnf)
              all_goals (refine ⟨2, by omega, by simp only; omega, ?_⟩)
              all_goals (repeat' (first|exact True.intro|((conv=>whnf);first|exact True.intro|refine ⟨by rfl, ?_⟩|refine ⟨by first|omega|(show (_ : Int) = _;first|omega|(dsimp only;omega)) | exact by simp_all, ?_⟩ | refine ⟨?_, ?_⟩)))
            | 2, _ =>
              conv => whnf
              repeat' first | ((first|refine sN ?_|refine Dr.cons ?_|(refine Dr.nil ?_;refine drawIf (by kernel_rfl) ?_)|refine vN rfl ?_|refine Vc.draw rfl (by kernel_rfl) ?_|refine mkSl (by omega) (by omega) ?_);conv=>whnf) | (refine ifB_i (fun _=>?_) (fun _=>?_)<;>conv=>whnf) | ((first | refine ioN (by decide) (by simp) ?_ | refine rwC rfl ?_ | refine ⟨_, impl_reads ((rowsOf (acts.getD i [])).getD k default) 2 (by decide) sa st, ?_⟩ | refine w64 (by omega) (by omega) ?_);conv=>whnf)
              all_goals (refine ⟨3, by omega, by simp only; omega, ?_⟩)
              all_goals (repeat' (first|exact True.intro|((conv=>whnf);first|exact True.intro|refine ⟨by rfl, ?_⟩|refine ⟨by first|omega|(show (_ : Int) = _;first|omega|(dsimp only;omega)) | exact by simp_all, ?_⟩ | refine ⟨?_, ?_⟩)))
            | 3, _ =>
              conv => whnf
              repeat' first | ((first|refine sN ?_|refine Dr.cons ?_|(refine Dr.nil ?_;refine drawIf (by kernel_rfl) ?_)|refine vN rfl ?_|refine Vc.draw rfl (by kernel_rfl) ?_|refine mkSl (by omega) (by omega) ?_);conv=>whnf) | (refine ifB_i (fun _=>?_) (fun _=>?_)<;>conv=>whnf) | (refine w64 (by omega) (by omega) ?_;conv=>whnf)
              refine ⟨k + 1, by omega, by simp only; omega, ?_⟩
              repeat' (first|exact True.intro|((conv=>whnf);first|exact True.intro|refine ⟨by rfl, ?_⟩|refine ⟨by first|omega|(show (_ : Int) = _;first|omega|(dsimp only;omega)) | exact by simp [er, reads_app, Bool.or_assoc], ?_⟩ | refine ⟨?_, ?_⟩))
        · repeat' first | ((first|refine sN ?_|refine Dr.cons ?_|(refine Dr.nil ?_;refine drawIf (by kernel_rfl) ?_)|refine vN rfl ?_|refine Vc.draw rfl (by kernel_rfl) ?_|refine mkSl (by omega) (by omega) ?_);conv=>whnf) | (refine ifB_i (fun _=>?_) (fun _=>?_)<;>conv=>whnf) | (refine w64 (by omega) (by omega) ?_;conv=>whnf)
          refine ⟨i + 1, by omega, by simp only; omega, ?_⟩
          repeat' (first|exact True.intro|((conv=>whnf);first|exact True.intro|refine ⟨by rfl, ?_⟩|refine ⟨by first|omega|(show (_ : Int) = _;first|omega|(dsimp only;omega)) | exact (by rw [fAt_act hil (by omega)]), ?_⟩ | refine ⟨?_, ?_⟩))
    · (repeat' first | ((first|refine sN ?_|refine Dr.cons ?_|(refine Dr.nil ?_;refine drawIf (by kernel_rfl) ?_)|refine vN rfl ?_|refine Vc.draw rfl (by kernel_rfl) ?_|refine mkSl (by omega) (by omega) ?_);conv=>whnf))
      exact ⟨by rw [fAt_end (by omega)]; rfl, rfl⟩
theorem impl_catForms (acts : List (List Line)) (hc : catOk acts = true) : Sem P 195 [(.pure, .one (sAs acts))] [] (.one (sPs (partsOf acts))) := by
  have h4 : acts.length ≤ 4 := catOk_four hc
  refine fn_okR (E := E0) E0_tab E0_ord (fn := Go.Proofs.Tryz.f195) (by kernel_rfl) (by kernel_rfl) (fun hb => ?_)
  have la : (acts.map eA).length = acts.length := List.length_map ..
  conv => whnf
  repeat' first | ((first|refine sN ?_|refine Dr.cons ?_|(refine Dr.nil ?_;refine drawIf (by kernel_rfl) ?_)|refine vN rfl ?_|refine Vc.draw rfl (by kernel_rfl) ?_|refine mkSl (by omega) (by omega) ?_);conv=>whnf) | (refine ifB_i (fun _=>?_) (fun _=>?_)<;>conv=>whnf) | (refine ⟨_, impl_catOk acts, ?_⟩;conv=>whnf)
  · exfalso; rename_i h; rw [hc] at h; cases h
  refine Vc.loop1 (fun (v : Nat) => v ≤ 3) (fun v => updL [0, 2, 6, 8, 10, 11, 25, 26, 27, 28, 29, 30, 31, 32, 33, 34, 35, 36, 37, 38, 39, 40, 41, 42, 43, 44, 45, 46, 47, 48, 49, 50, 51, 52, 53, 54, 55, 56, 57, 58, 59, 60, 61, 62, 63] [(15, I v), (3, .one (.ref 256000))] [(256000, .arr 24 (([[1, 0, 0], [0, 1, 0], [0, 0, 1]].take v).map eP) false)]) (fun v => 3 - v) 0 (by omega) ?_ (fun v hv => ?_)
  · repeat' (first|exact True.intro|((conv=>whnf);first|exact True.intro|refine ⟨by rfl, ?_⟩|refine ⟨by first|omega|(show (_ : Int) = _;first|omega|(dsimp only;omega)), ?_⟩ | refine ⟨?_, ?_⟩))
  · match v, hv with
    | 0, _ =>
      conv => whnf
      repeat' first | ((first|refine sN ?_|refine Dr.cons ?_|(refine Dr.nil ?_;refine drawIf (by kernel_rfl) ?_)|refine vN rfl ?_|refine Vc.draw rfl (by kernel_rfl) ?_|refine mkSl (by omega) (by omega) ?_);conv=>whnf) | (refine ifB_i (fun _=>?_) (fun _=>?_)<;>conv=>whnf) | ((first | refine ⟨_, impl_pot 0 (by decide), ?_⟩ | refine apN (by simp) ?_ | refine w64 (by omega) (by omega) ?_);conv=>whnf)
      refine ⟨1, by omega, by simp only; omega, ?_⟩
      repeat' (first|exact True.intro|((conv=>whnf);first|exact True.intro|refine ⟨by rfl, ?_⟩|refine ⟨by first|omega|(show (_ : Int) = _;first|omega|(dsimp only;omega)), ?_⟩ | refine ⟨?_, ?_⟩))
    | 1, _ =>
      conv => whnf
      repeat' first | ((first|refine sN ?_|refine Dr.cons ?_|(refine Dr.nil ?_;refine drawIf (by kernel_rfl) ?_)|refine vN rfl ?_|refine Vc.draw rfl (by kernel_rfl) ?_|refine mkSl (by omega) (by omega) ?_);conv=>whnf) | (refine ifB_i (fun _=>?_) (fun _=>?_)<;>conv=>whnf) | ((first | refine ⟨_, impl_pot 1 (by decide), ?_⟩ | refine apN (by simp) ?_ | refine w64 (by omega) (by omega) ?_);conv=>whnf)
      refine ⟨2, by omega, by simp only; omega, ?_⟩
      repeat' (first|exact True.intro|((conv=>whnf);first|exact True.intro|refine ⟨by rfl, ?_⟩|refine ⟨by first|omega|(show (_ : Int) = _;first|omega|(dsimp only;omega)), ?_⟩ | refine ⟨?_, ?_⟩))
    | 2, _ =>
      conv => whnf
      repeat' first | ((first|refine sN ?_|refine Dr.cons ?_|(refine Dr.nil ?_;refine drawIf (by kernel_rfl) ?_)|refine vN rfl ?_|refine Vc.draw rfl (by kernel_rfl) ?_|refine mkSl (by omega) (by omega) ?_);conv=>whnf) | (refine ifB_i (fun _=>?_) (fun _=>?_)<;>conv=>whnf) | ((first | refine ⟨_, impl_pot 2 (by decide), ?_⟩ | refine apN (by simp) ?_ | refine w64 (by omega) (by omega) ?_);conv=>whnf)
      refine ⟨3, by omega, by simp only; omega, ?_⟩
      repeat' (first|exact True.intro|((conv=>whnf);first|exact True.intro|refine ⟨by rfl, ?_⟩|refine ⟨by first|omega|(show (_ : Int) = _;first|omega|(dsimp only;omega)), ?_⟩ | refine ⟨?_, ?_⟩))
    | 3, _ =>
      conv => whnf
      (repeat' first | ((first|refine sN ?_|refine Dr.cons ?_|(refine Dr.nil ?_;refine drawIf (by kernel_rfl) ?_)|refine vN rfl ?_|refine Vc.draw rfl (by kernel_rfl) ?_|refine mkSl (by omega) (by omega) ?_);conv=>whnf))
      refine Vc.loop1 (fun (i : Nat) => i ≤ acts.length) (fun i => updL [2, 25, 26, 63] [(27, I i), (3, .one (.ref 256000))] [(256000, .arr 24 ((pAt (gAt acts i 0)).map eP) false)]) (fun i => acts.length - i) 0 (by omega) ?_ (fun i hi => ?_)
      · repeat' (first|exact True.intro|((conv=>whnf);first|exact True.intro|refine ⟨by rfl, ?_⟩|refine ⟨by first|omega|(show (_ : Int) = _;first|omega|(dsimp only;omega)), ?_⟩ | refine ⟨?_, ?_⟩))
      · conv => whnf
        (repeat' first | ((first|refine sN ?_|refine Dr.cons ?_|(refine Dr.nil ?_;refine drawIf (by kernel_rfl) ?_)|refine vN rfl ?_|refine Vc.draw rfl (by kernel_rfl) ?_|refine mkSl (by omega) (by omega) ?_);conv=>whnf))
        refine ifB_d (fun g => ?_) (fun g => ?_)
        all_goals conv => whnf
        · have hil : i < acts.length := by omega
          have hb1 : (List.map eW (rowsOf (acts.getD i []))).length = (rowsOf (acts.getD i [])).length := List.length_map ..
          have rl := rows_len (acts.getD i [])
          repeat' first | ((first|refine sN ?_|refine Dr.cons ?_|(refine Dr.nil ?_;refine drawIf (by kernel_rfl) ?_)|refine vN rfl ?_|refine Vc.draw rfl (by kernel_rfl) ?_|refine mkSl (by omega) (by omega) ?_);conv=>whnf) | (refine ifB_i (fun _=>?_) (fun _=>?_)<;>conv=>whnf) | ((first | refine ixN (enc := eA) [] hil ?_ | refine ⟨_, impl_rowsOf (acts.getD i []), ?_⟩);conv=>whnf)
          refine Vc.loop1 (fun (k : Nat) => k ≤ (rowsOf (acts.getD i [])).length) (fun k => updL [2, 6, 25, 26, 27, 28, 29, 30, 31, 32, 33, 62, 63] [(34, I k), (3, .one (.ref 256000))] [(256000, .arr 24 ((pAt (gAt acts i k)).map eP) false)]) (fun k => (rowsOf (acts.getD i [])).length - k) 0 (by omega) ?_ (fun k hk => ?_)
          · repeat' (first|exact True.intro|((conv=>whnf);first|exact True.intro|refine ⟨by rfl, ?_⟩|refine ⟨by first|omega|(show (_ : Int) = _;first|omega|(dsimp only;omega)), ?_⟩ | refine ⟨?_, ?_⟩))
          · conv => whnf
            (repeat' first | ((first|refine sN ?_|refine Dr.cons ?_|(refine Dr.nil ?_;refine drawIf (by kernel_rfl) ?_)|refine vN rfl ?_|refine Vc.draw rfl (by kernel_rfl) ?_|refine mkSl (by omega) (by omega) ?_);conv=>whnf))
            refine ifB_d (fun g => ?_) (fun g => ?_)
            all_goals conv => whnf
            · have hkl : k < (rowsOf (acts.getD i [])).length := by omega
              have hmem : (rowsOf (acts.getD i [])).getD k default ∈ rowsOf (acts.getD i []) := gd_mem hkl
              obtain ⟨sg, sa, st⟩ := rows_shs hmem
              repeat' first | ((first|refine sN ?_|refine Dr.cons ?_|(refine Dr.nil ?_;refine drawIf (by kernel_rfl) ?_)|refine vN rfl ?_|refine Vc.draw rfl (by kernel_rfl) ?_|refine mkSl (by omega) (by omega) ?_);conv=>whnf) | (refine ifB_i (fun _=>?_) (fun _=>?_)<;>conv=>whnf) | (refine ixN (enc := eW) default hkl ?_;conv=>whnf)
              refine Vc.loop1 (fun (j : Nat) => j ≤ ((rowsOf (acts.getD i [])).getD k default).Guards.length) (fun j => updL [2, 6, 8, 25, 26, 27, 28, 29, 30, 31, 32, 33, 34, 35, 36, 37, 38, 39, 40, 61, 62, 63] [(41, I j), (3, .one (.ref 256000))] [(256000, .arr 24 ((pAt (gAt acts i k ++ ((rowsOf (acts.getD i [])).getD k default).Guards.take j)).map eP) false)]) (fun j => ((rowsOf (acts.getD i [])).getD k default).Guards.length - j) 0 (by omega) ?_ (fun j hj => ?_)
              · repeat' (first|exact True.intro|((conv=>whnf);first|exact True.intro|refine ⟨by rfl, ?_⟩|refine ⟨by first|omega|(show (_ : Int) = _;first|omega|(dsimp only;omega)) | exact by simp, ?_⟩ | refine ⟨?_, ?_⟩))
              · have hg1 : (List.map eF ((rowsOf (acts.getD i [])).getD k default).Guards).length = ((rowsOf (acts.getD i [])).getD k default).Guards.length := List.length_map ..
                conv => whnf
                (repeat' first | ((first|refine sN ?_|refine Dr.cons ?_|(refine Dr.nil ?_;refine drawIf (by kernel_rfl) ?_)|refine vN rfl ?_|refine Vc.draw rfl (by kernel_rfl) ?_|refine mkSl (by omega) (by omega) ?_);conv=>whnf))
                refine ifB_d (fun g => ?_) (fun g => ?_)
                all_goals conv => whnf
                · have hjl : j < ((rowsOf (acts.getD i [])).getD k default).Guards.length := by omega
                  have hjm : ((rowsOf (acts.getD i [])).getD k default).Guards.getD j default ∈ ((rowsOf (acts.getD i [])).getD k default).Guards := gd_mem hjl
                  have hjb := bd_mono ((rowsOf_bd hmem).1 _ hjm) (m' := 1000000000000) (by decide)
                  have pl := pAt_len (gAt acts i k ++ ((rowsOf (acts.getD i [])).getD k default).Guards.take j)
                  have gl := rows_take_len acts i k
                  have tl := List.length_take (i := i) (l := acts)
                  have gl2 := List.length_take (i := j) (l := ((rowsOf (acts.getD i [])).getD k default).Guards)
                  have g6 := sg.1
                  rw [List.length_append] at pl
                  have e1 : pAt (gAt acts i k ++ ((rowsOf (acts.getD i [])).getD k default).Guards.take (j + 1)) = addPart (pAt (gAt acts i k ++ ((rowsOf (acts.getD i [])).getD k default).Guards.take j)) (((rowsOf (acts.getD i [])).getD k default).Guards.getD j default) := by rw [take_succ_getD hjl, ← List.append_assoc, pAt_app]
                  rw [addPart_eq' hjb.1] at e1
                  repeat' first | ((first|refine sN ?_|refine Dr.cons ?_|(refine Dr.nil ?_;refine drawIf (by kernel_rfl) ?_)|refine vN rfl ?_|refine Vc.draw rfl (by kernel_rfl) ?_|refine mkSl (by omega) (by omega) ?_);conv=>whnf) | (refine ifB_i (fun _=>?_) (fun _=>?_)<;>conv=>whnf) | (refine ixN (enc := eF) default hjl ?_;conv=>whnf) | (refine ⟨_, impl_part (((rowsOf (acts.getD i [])).getD k default).Guards.getD j default).C (((rowsOf (acts.getD i [])).getD k default).Guards.getD j default).D (((rowsOf (acts.getD i [])).getD k default).Guards.getD j default).K (by rw [hjb.1.1]; decide) hjb.2.1, ?_⟩;conv=>whnf) | ((first | refine ⟨_, impl_zeros _, ?_⟩ | refine ⟨_, impl_has _ _, ?_⟩);conv=>whnf) | (refine apN (by rw [List.length_map]; show _ + 1 ≤ _; omega) ?_;conv=>whnf) | (refine w64 (by omega) (by omega) ?_;conv=>whnf)
                  all_goals (refine ⟨j + 1, by omega, by simp only; omega, ?_⟩)
                  all_goals (repeat' (first|exact True.intro|((conv=>whnf);first|exact True.intro|refine ⟨by rfl, ?_⟩|refine ⟨by first|omega|(show (_ : Int) = _;first|omega|(dsimp only;omega)) | exact (by rw [e1, if_pos (by clear e1; simp_all; done), List.map_append]; rfl) | exact (by rw [e1, if_neg (by clear e1; first | (simp_all; done) | (simp_all; omega))]), ?_⟩ | refine ⟨?_, ?_⟩)))
                · repeat' first | ((first|refine sN ?_|refine Dr.cons ?_|(refine Dr.nil ?_;refine drawIf (by kernel_rfl) ?_)|refine vN rfl ?_|refine Vc.draw rfl (by kernel_rfl) ?_|refine mkSl (by omega) (by omega) ?_);conv=>whnf) | (refine ifB_i (fun _=>?_) (fun _=>?_)<;>conv=>whnf) | (refine w64 (by omega) (by omega) ?_;conv=>whnf)
                  refine ⟨k + 1, by omega, by simp only; omega, ?_⟩
                  repeat' (first|exact True.intro|((conv=>whnf);first|exact True.intro|refine ⟨by rfl, ?_⟩|refine ⟨by first|omega|(show (_ : Int) = _;first|omega|(dsimp only;omega)) | exact (by rw [gAt_row hkl, List.take_of_length_le (by omega)]), ?_⟩ | refine ⟨?_, ?_⟩))
            · repeat' first | ((first|refine sN ?_|refine Dr.cons ?_|(refine Dr.nil ?_;refine drawIf (by kernel_rfl) ?_)|refine vN rfl ?_|refine Vc.draw rfl (by kernel_rfl) ?_|refine mkSl (by omega) (by omega) ?_);conv=>whnf) | (refine ifB_i (fun _=>?_) (fun _=>?_)<;>conv=>whnf) | (refine w64 (by omega) (by omega) ?_;conv=>whnf)
              refine ⟨i + 1, by omega, by simp only; omega, ?_⟩
              repeat' (first|exact True.intro|((conv=>whnf);first|exact True.intro|refine ⟨by rfl, ?_⟩|refine ⟨by first|omega|(show (_ : Int) = _;first|omega|(dsimp only;omega)) | exact (by rw [gAt_act hil (by omega)]), ?_⟩ | refine ⟨?_, ?_⟩))
        · (repeat' first | ((first|refine sN ?_|refine Dr.cons ?_|(refine Dr.nil ?_;refine drawIf (by kernel_rfl) ?_)|refine vN rfl ?_|refine Vc.draw rfl (by kernel_rfl) ?_|refine mkSl (by omega) (by omega) ?_);conv=>whnf))
          refine ⟨?_, rfl⟩
          rw [gAt_end (by omega)]
          rfl
theorem impl_catPins (acts : List (List Line)) (hc : catOk acts = true) : Sem P 196 [(.pure, .one (sAs acts))] [] (.one (sBs (pinsOf acts))) := by
  refine fn_okR (E := { E0 with keep := [4001] }) E0_tab E0_ord (fn := Go.Proofs.Tryz.f196) (by kernel_rfl) (by kernel_rfl) (fun hb => ?_)
  conv => whnf
  repeat' first | ((first|refine sN ?_|refine Dr.cons ?_|(refine Dr.nil ?_;refine drawIf (by kernel_rfl) ?_)|refine vN rfl ?_|refine Vc.draw rfl (by kernel_rfl) ?_|refine mkSl (by omega) (by omega) ?_);conv=>whnf) | (refine ifB_i (fun _=>?_) (fun _=>?_)<;>conv=>whnf) | ((first | refine ⟨_, impl_catOk acts, ?_⟩ | refine ⟨_, impl_pots acts (catOk_four hc), ?_⟩);conv=>whnf)
  · exfalso; rename_i h; rw [hc] at h; cases h
  · exact ⟨rfl, rfl⟩
theorem impl_rules (acts : List (List Line)) (hc : catOk acts = true) : Sem P 100 [(.pure, .one (sAs acts))] [] (.agg [fAs acts, fPs (partsOf acts), fBs (pinsOf acts)]) := by
  refine fn_okR (E := E0) E0_tab E0_ord (fn := Go.Proofs.Tryz.f100) (by kernel_rfl) (by kernel_rfl) (fun hb => ?_)
  conv => whnf
  repeat' first | ((first|refine sN ?_|refine Dr.cons ?_|(refine Dr.nil ?_;refine drawIf (by kernel_rfl) ?_)|refine vN rfl ?_|refine Vc.draw rfl (by kernel_rfl) ?_|refine mkSl (by omega) (by omega) ?_);conv=>whnf) | (refine ifB_i (fun _=>?_) (fun _=>?_)<;>conv=>whnf) | ((first | refine ⟨_, impl_catForms acts hc, ?_⟩ | refine ⟨_, impl_catPins acts hc, ?_⟩);conv=>whnf)
  exact ⟨rfl, rfl⟩
end Cc
end
section
namespace Cc
open Go Go.AM
set_option maxRecDepth 100000
set_option maxHeartbeats 4000000
theorem spec_same (a b : List Int) : Sem P 134 [(.pure, AI a), (.pure, AI b)] [] (B (decide (a = b))) := by
  refine fn_okR (E := E0) E0_tab E0_ord (fn := Go.Proofs.Tryz.f134) (by kernel_rfl) (by kernel_rfl) (fun hb => ?_)
  have la := ints_len a
  have lb := ints_len b
  have hb1 : (ints a).length ≤ 1125899906842624 := hb.1.1
  conv => whnf
  (repeat' first | ((first|refine sN ?_|refine Dr.cons ?_|(refine Dr.nil ?_;refine drawIf (by kernel_rfl) ?_)|refine vN rfl ?_|refine Vc.draw rfl (by kernel_rfl) ?_|refine mkSl (by omega) (by omega) ?_);conv=>whnf))
  refine ifB_i (fun h => ?_) (fun h => ?_)
  all_goals conv => whnf
  all_goals (repeat' first | ((first|refine sN ?_|refine Dr.cons ?_|(refine Dr.nil ?_;refine drawIf (by kernel_rfl) ?_)|refine vN rfl ?_|refine Vc.draw rfl (by kernel_rfl) ?_|refine mkSl (by omega) (by omega) ?_);conv=>whnf))
  · exact rB (by have := ne_of_bne h; symm; simp; intro e; subst e; simp at this)
  · have h := eq_of_bne h
    refine Vc.loop1 (fun (i : Nat) => ∀ j, j < i → a.getD j 0 = b.getD j 0) (fun i => updL [0, 1] [(5, I i)] []) (fun i => a.length - i) 0 (by simp) ?_ (fun i hi => ?_)
    · repeat' (first | exact True.intro | ((conv => whnf); first | exact True.intro | refine ⟨by rfl, ?_⟩ | refine ⟨?_, ?_⟩))
    · conv => whnf
      (repeat' first | ((first|refine sN ?_|refine Dr.cons ?_|(refine Dr.nil ?_;refine drawIf (by kernel_rfl) ?_)|refine vN rfl ?_|refine Vc.draw rfl (by kernel_rfl) ?_|refine mkSl (by omega) (by omega) ?_);conv=>whnf))
      refine ifB_d (fun g => ?_) (fun g => ?_)
      all_goals conv => whnf
      · repeat' first | ((first|refine sN ?_|refine Dr.cons ?_|(refine Dr.nil ?_;refine drawIf (by kernel_rfl) ?_)|refine vN rfl ?_|refine Vc.draw rfl (by kernel_rfl) ?_|refine mkSl (by omega) (by omega) ?_);conv=>whnf) | (refine ifB_i (fun _=>?_) (fun _=>?_)<;>conv=>whnf) | ((first | refine ixN (enc := rI) 0 (by omega) ?_ | refine w64 (by omega) (by omega) ?_);conv=>whnf)
        · rename_i g'
          exact rB (by have := ne_of_bne g'; symm; simp; intro e; subst e; simp at this)
        · rename_i g'
          have e := eq_of_bne g'
          refine ⟨i + 1, fun j hj => ?_, ?_, ?_⟩
          · by_cases h : j < i
            · exact hi j h
            · obtain rfl : j = i := by omega
              exact e
          · simp only; omega
          · repeat' (first | exact True.intro | ((conv => whnf); first | exact True.intro | refine ⟨by rfl, ?_⟩ | refine ⟨?_, ?_⟩))
      · (repeat' first | ((first|refine sN ?_|refine Dr.cons ?_|(refine Dr.nil ?_;refine drawIf (by kernel_rfl) ?_)|refine vN rfl ?_|refine Vc.draw rfl (by kernel_rfl) ?_|refine mkSl (by omega) (by omega) ?_);conv=>whnf))
        exact rB (by symm; simp; exact ext_get 0 (by omega) fun j hj => hi j (by omega))
theorem sign_zero : ∀ {l : List Int}, sign l = 0 → ∀ x ∈ l, x = 0
  | [], _, _, hx => by cases hx
  | a :: r, h, x, hx => by
    unfold sign at h
    split at h
    · cases h
    · split at h
      · cases h
      · rcases List.mem_cons.1 hx with rfl | hx
        · omega
        · exact sign_zero h x hx
theorem sign_three (l : List Int) : sign l = 0 ∨ sign l = 1 ∨ sign l = -1 := by
  induction l with
  | nil => exact .inl rfl
  | cons a r ih => unfold sign; split; exact .inr (.inl rfl); split; exact .inr (.inr rfl); exact ih
theorem sign_app : ∀ (l : List Int) (x : Int), sign (l ++ [x]) = if sign l = 0 then (if x > 0 then 1 else if x < 0 then -1 else 0) else sign l
  | [], x => by simp [sign]
  | a :: r, x => by
    have ih := sign_app r x
    simp only [List.cons_append, sign]
    split
    · simp
    · split
      · simp
      · exact ih
theorem take_get {l : List Int} {i : Nat} (h : i < l.length) : l.take (i + 1) = l.take i ++ [l.getD i 0] := by
  rw [List.take_add_one, List.getElem?_eq_getElem h, List.getD_eq_getElem?_getD, List.getElem?_eq_getElem h]; rfl
theorem part_step (c : List Int) {i : Nat} (h : i < c.length) : ints ((c.take i).map (sign (c.take i) * ·)) ++ [rI (sign (c.take (i + 1)) * c.getD i 0)] = ints ((c.take (i + 1)).map (sign (c.take (i + 1)) * ·)) := by
  rw [app_ints, take_get h, List.map_append, List.map_cons, List.map_nil]
  congr 2
  apply List.map_congr_left
  intro x hx
  rw [sign_app]
  split
  · rename_i hs
    rw [sign_zero hs x hx]; simp
  · rfl
theorem mul_sign {s x : Int} (hs : s = 0 ∨ s = 1 ∨ s = -1) (hx : -1000000000000 ≤ x ∧ x ≤ 1000000000000) : -1000000000000 ≤ s * x ∧ s * x ≤ 1000000000000 := by
  rcases hs with rfl | rfl | rfl <;> omega
theorem sg1 {l : List Int} {i : Nat} (h : i < l.length) (h0 : sign (l.take i) = 0) (hx : l.getD i 0 > 0) : sign (l.take (i + 1)) = 1 := by rw [take_get h, sign_app, if_pos h0, if_pos hx]
theorem sg2 {l : List Int} {i : Nat} (h : i < l.length) (h0 : sign (l.take i) = 0) (hx : ¬ l.getD i 0 > 0) (hy : l.getD i 0 < 0) : sign (l.take (i + 1)) = -1 := by rw [take_get h, sign_app, if_pos h0, if_neg hx, if_pos hy]
theorem sg3 {l : List Int} {i : Nat} (h : i < l.length) (h0 : sign (l.take i) = 0) (hx : ¬ l.getD i 0 > 0) (hy : ¬ l.getD i 0 < 0) : sign (l.take (i + 1)) = sign (l.take i) := by rw [take_get h, sign_app, if_pos h0, if_neg hx, if_neg hy, h0]
theorem sg4 {l : List Int} {i : Nat} (h : i < l.length) (h0 : ¬ sign (l.take i) = 0) : sign (l.take (i + 1)) = sign (l.take i) := by rw [take_get h, sign_app, if_neg h0]
theorem spec_part (c D : List Int) (K : Int) (hl : c.length ≤ 100) (hx : ∀ x ∈ c, -1000000000000 ≤ x ∧ x ≤ 1000000000000) : Sem P 253 [(.pure, .agg [sI c, sI D, eI K])] [] (AI (part c)) := by
  refine fn_okR (E := E0) E0_tab E0_ord (fn := Go.Proofs.Tryz.f253) (by kernel_rfl) (by kernel_rfl) (fun hb => ?_)
  have lc := ints_len c
  conv => whnf
  (repeat' first | ((first|refine sN ?_|refine Dr.cons ?_|(refine Dr.nil ?_;refine drawIf (by kernel_rfl) ?_)|refine vN rfl ?_|refine Vc.draw rfl (by kernel_rfl) ?_|refine mkSl (by omega) (by omega) ?_);conv=>whnf))
  refine Vc.loop1 (fun (i : Nat) => i ≤ c.length) (fun i => updL [1, 2, 44] [(5, I i), (4, I (sign (c.take i))), (3, .one (.ref 128000))] [(128000, .arr 3 (ints ((c.take i).map (sign (c.take i) * ·))) false)]) (fun i => c.length - i) 0 (Nat.zero_le _) ?_ (fun i hi => ?_)
  · repeat' (first|exact True.intro|((conv=>whnf);first|exact True.intro|refine ⟨by rfl, ?_⟩|refine ⟨by first|omega|(show (_ : Int) = _;first|omega|(dsimp only;omega)), ?_⟩ | refine ⟨?_, ?_⟩))
  · have hlo : (ints ((c.take i).map (sign (c.take i) * ·))).length = i := by rw [ints_len, List.length_map, List.length_take]; omega
    conv => whnf
    (repeat' first | ((first|refine sN ?_|refine Dr.cons ?_|(refine Dr.nil ?_;refine drawIf (by kernel_rfl) ?_)|refine vN rfl ?_|refine Vc.draw rfl (by kernel_rfl) ?_|refine mkSl (by omega) (by omega) ?_);conv=>whnf))
    refine ifB_d (fun g => ?_) (fun g => ?_)
    all_goals conv => whnf
    · have hil : i < c.length := by omega
      have b1 := hx (c.getD i 0) (by rw [List.getD_eq_getElem?_getD, List.getElem?_eq_getElem hil]; exact List.getElem_mem hil)
      have ms := mul_sign (sign_three (c.take i)) b1
      have st := part_step c hil
      repeat' first | ((first|refine sN ?_|refine Dr.cons ?_|(refine Dr.nil ?_;refine drawIf (by kernel_rfl) ?_)|refine vN rfl ?_|refine Vc.draw rfl (by kernel_rfl) ?_|refine mkSl (by omega) (by omega) ?_);conv=>whnf) | (refine ifB_i (fun _=>?_) (fun _=>?_)<;>conv=>whnf) | ((first | refine ixN (enc := rI) 0 (by omega) ?_ | refine w64 (by omega) (by omega) ?_);conv=>whnf) | (refine apN (by rw [hlo]; show i + 1 ≤ _; omega) ?_;conv=>whnf)
      all_goals simp only [beq_iff_eq, beq_eq_false_iff_ne, ne_eq, decide_eq_true_eq, decide_eq_false_iff_not] at *
      all_goals first
        | (have es := sg1 hil (by assumption) (by assumption)
           refine ⟨i + 1, by omega, by (try simp only); omega, ?_⟩
           repeat' (first|exact True.intro|((conv=>whnf);first|exact True.intro|refine ⟨by rfl, ?_⟩|refine ⟨by first|omega|(show (_ : Int) = _;first|omega|(dsimp only;omega)) | exact es.symm | exact (by rw [← part_step c hil, es]), ?_⟩ | refine ⟨?_, ?_⟩)))
        | (have es := sg2 hil (by assumption) (by assumption) (by assumption)
           refine ⟨i + 1, by omega, by (try simp only); omega, ?_⟩
           repeat' (first|exact True.intro|((conv=>whnf);first|exact True.intro|refine ⟨by rfl, ?_⟩|refine ⟨by first|omega|(show (_ : Int) = _;first|omega|(dsimp only;omega)) | exact es.symm | exact (by rw [← part_step c hil, es]), ?_⟩ | refine ⟨?_, ?_⟩)))
        | (have es := sg3 hil (by assumption) (by assumption) (by assumption)
           refine ⟨i + 1, by omega, by (try simp only); omega, ?_⟩
           repeat' (first|exact True.intro|((conv=>whnf);first|exact True.intro|refine ⟨by rfl, ?_⟩|refine ⟨by first|omega|(show (_ : Int) = _;first|omega|(dsimp only;omega)) | exact es.symm | exact (by rw [← part_step c hil, es]), ?_⟩ | refine ⟨?_, ?_⟩)))
        | (have es := sg4 hil (by assumption)
           refine ⟨i + 1, by omega, by (try simp only); omega, ?_⟩
           repeat' (first|exact True.intro|((conv=>whnf);first|exact True.intro|refine ⟨by rfl, ?_⟩|refine ⟨by first|omega|(show (_ : Int) = _;first|omega|(dsimp only;omega)) | exact es.symm | exact (by rw [← part_step c hil, es]), ?_⟩ | refine ⟨?_, ?_⟩)))
        | (exfalso; simp_all; done)
    · have hend : c.take i = c := List.take_of_length_le (by omega)
      (repeat' first | ((first|refine sN ?_|refine Dr.cons ?_|(refine Dr.nil ?_;refine drawIf (by kernel_rfl) ?_)|refine vN rfl ?_|refine Vc.draw rfl (by kernel_rfl) ?_|refine mkSl (by omega) (by omega) ?_);conv=>whnf))
      exact ⟨by rw [hend]; rfl, rfl⟩
end Cc
end
section
namespace Cc
open Go Go.AM
set_option maxRecDepth 100000
set_option maxHeartbeats 4000000
theorem akP {r : List (List AV)} {k : Prop} (h : allPrim r) (hk : k) : allPrim r ∧ k := ⟨h, hk⟩
abbrev intoS (a b c : Int) (D : List Int) (K : Int) (p q r : Form) : Nat → Form
  | 0 => ⟨[0, 0, 0], D, K⟩
  | 1 => lin ⟨[0, 0, 0], D, K⟩ p a
  | 2 => lin (lin ⟨[0, 0, 0], D, K⟩ p a) q b
  | _ => lin (lin (lin ⟨[0, 0, 0], D, K⟩ p a) q b) r c
theorem spec_into (f p q r : Form) (hf : f.bd 10000000) (hp : p.bd 10000000) (hq : q.bd 10000000) (hr : r.bd 10000000) (hk : (into f [p, q, r]).ok = true) : Sem P 357 [(.pure, .agg (aF f)), (.pure, .one (sFs [p, q, r]))] [] (.agg (aF (into f [p, q, r]))) := by
  have okf := ok_bd.2 hf
  have okp := ok_bd.2 hp
  have okq := ok_bd.2 hq
  have okr := ok_bd.2 hr
  obtain ⟨a, b, c, d, e, k, rfl, h1, h2, h3, h4, h5, h6⟩ := bdE hf
  have b0 : (⟨[0, 0, 0], [d, e], k⟩ : Form).bd 10000000 := bdI (by omega) (by omega) (by omega) h4 h5 h6
  have b1 : (lin ⟨[0, 0, 0], [d, e], k⟩ p a).bd 200000000000000 := bd_mono (lin_bd b0 hp h1) (by decide)
  have b2 : (lin (lin ⟨[0, 0, 0], [d, e], k⟩ p a) q b).bd 400000000000000 := bd_mono (lin_bd b1 hq h2) (by decide)
  rw [into_eq] at hk ⊢
  refine fn_okR (E := { E0 with keep := [8010] }) E0_tab E0_ord (fn := Go.Proofs.Tryz.f357) (by kernel_rfl) (by kernel_rfl) (fun hb => ?_)
  conv => whnf
  repeat' first | ((first|refine sN ?_|refine Dr.cons ?_|(refine Dr.nil ?_;refine drawIf (by kernel_rfl) ?_)|refine vN rfl ?_|refine Vc.draw rfl (by kernel_rfl) ?_|refine mkSl (by omega) (by omega) ?_);conv=>whnf) | (refine ifB_i (fun _=>?_) (fun _=>?_)<;>conv=>whnf) | ((first | refine ⟨_, spec_frmOk ⟨[a, b, c], [d, e], k⟩, ?_⟩ | refine ⟨_, spec_frmOk p, ?_⟩ | refine ⟨_, spec_frmOk q, ?_⟩ | refine ⟨_, spec_frmOk r, ?_⟩ | refine ixK rfl ?_ | refine apN (by simp) ?_ | refine apP (prim_ints _) ?_);conv=>whnf)
  all_goals first
    | (exfalso; simp_all; done)
    | skip
  refine Vc.loop1 (fun (i : Nat) => i ≤ 3) (fun i => updL [1, 2, 4, 5, 60, 61, 62, 63, 64] [(6, I i)] [(256512, .box [.ref 256000, .ref 256256, eI (intoS a b c [d, e] k p q r i).K]), (256000, .arr 3 (ints (intoS a b c [d, e] k p q r i).C) false), (256256, .arr 3 (ints (intoS a b c [d, e] k p q r i).D) false)]) (fun i => 3 - i) 0 (by omega) ?_ (fun i hi => ?_)
  · repeat' (first|exact True.intro|((conv=>whnf);first|exact True.intro|refine ⟨by rfl, ?_⟩|refine ⟨by first|omega|(show (_ : Int) = _;first|omega|(dsimp only;omega)), ?_⟩ | refine ⟨?_, ?_⟩))
  · match i, hi with
    | 0, _ =>
      conv => whnf
      repeat' first | ((first|refine sN ?_|refine Dr.cons ?_|(refine Dr.nil ?_;refine drawIf (by kernel_rfl) ?_)|refine vN rfl ?_|refine Vc.draw rfl (by kernel_rfl) ?_|refine mkSl (by omega) (by omega) ?_);conv=>whnf) | (refine ifB_i (fun _=>?_) (fun _=>?_)<;>conv=>whnf) | ((first | refine ixK rfl ?_ | refine w64 (by omega) (by omega) ?_ | refine ⟨_, spec_sum ⟨[0, 0, 0], [d, e], k⟩ p a (bd_mono b0 (by decide)) hp (by omega), ?_⟩ | refine akP (prim_ints _) ?_);conv=>whnf)
      refine ⟨1, by omega, by simp only; omega, ?_⟩
      repeat' (first|exact True.intro|((conv=>whnf);first|exact True.intro|refine ⟨by rfl, ?_⟩|refine ⟨by first|omega|(show (_ : Int) = _;first|omega|(dsimp only;omega)), ?_⟩ | refine ⟨?_, ?_⟩))
    | 1, _ =>
      conv => whnf
      repeat' first | ((first|refine sN ?_|refine Dr.cons ?_|(refine Dr.nil ?_;refine drawIf (by kernel_rfl) ?_)|refine vN rfl ?_|refine Vc.draw rfl (by kernel_rfl) ?_|refine mkSl (by omega) (by omega) ?_);conv=>whnf) | (refine ifB_i (fun _=>?_) (fun _=>?_)<;>conv=>whnf) | ((first | refine ixK rfl ?_ | refine w64 (by omega) (by omega) ?_ | refine ⟨_, spec_sum (lin ⟨[0, 0, 0], [d, e], k⟩ p a) q b (bd_mono b1 (by decide)) hq (by omega), ?_⟩ | refine akP (prim_ints _) ?_);conv=>whnf)
      refine ⟨2, by omega, by simp only; omega, ?_⟩
      repeat' (first|exact True.intro|((conv=>whnf);first|exact True.intro|refine ⟨by rfl, ?_⟩|refine ⟨by first|omega|(show (_ : Int) = _;first|omega|(dsimp only;omega)), ?_⟩ | refine ⟨?_, ?_⟩))
    | 2, _ =>
      conv => whnf
      repeat' first | ((first|refine sN ?_|refine Dr.cons ?_|(refine Dr.nil ?_;refine drawIf (by kernel_rfl) ?_)|refine vN rfl ?_|refine Vc.draw rfl (by kernel_rfl) ?_|refine mkSl (by omega) (by omega) ?_);conv=>whnf) | (refine ifB_i (fun _=>?_) (fun _=>?_)<;>conv=>whnf) | ((first | refine ixK rfl ?_ | refine w64 (by omega) (by omega) ?_ | refine ⟨_, spec_sum (lin (lin ⟨[0, 0, 0], [d, e], k⟩ p a) q b) r c (bd_mono b2 (by decide)) hr (by omega), ?_⟩ | refine akP (prim_ints _) ?_);conv=>whnf)
      refine ⟨3, by omega, by simp only; omega, ?_⟩
      repeat' (first|exact True.intro|((conv=>whnf);first|exact True.intro|refine ⟨by rfl, ?_⟩|refine ⟨by first|omega|(show (_ : Int) = _;first|omega|(dsimp only;omega)), ?_⟩ | refine ⟨?_, ?_⟩))
    | 3, _ =>
      conv => whnf
      repeat' first | ((first|refine sN ?_|refine Dr.cons ?_|(refine Dr.nil ?_;refine drawIf (by kernel_rfl) ?_)|refine vN rfl ?_|refine Vc.draw rfl (by kernel_rfl) ?_|refine mkSl (by omega) (by omega) ?_);conv=>whnf) | (refine ifB_i (fun _=>?_) (fun _=>?_)<;>conv=>whnf) | (refine ⟨_, spec_frmOk _, ?_⟩;conv=>whnf)
      · rename_i h; have hk' : (intoS a b c [d, e] k p q r 3).ok = true := hk; rw [hk'] at h; cases h
      · exact ⟨rfl, rfl⟩
def bds (l : List Form) : Prop := l.length ≤ 50 ∧ ∀ f ∈ l, f.bd 10000000
theorem spec_row (p q r : Form) (guards tells : List Form) (hp : p.bd 1000000) (hq : q.bd 1000000) (hr : r.bd 1000000) (hg : bds guards) (ht : bds tells) :
    Sem P 360 [(.pure, .one (sFs [p, q, r])), (.pure, .one (sFs guards)), (.pure, .one (sFs tells))] [] (.agg (eW (rowEnd [p, q, r] guards tells))) := by
  have m1 : ∀ {f : Form}, f.bd 1000000 → f.bd 1000000000000000 := fun h => bd_mono h (by decide)
  have m2 : ∀ v, (Form.pot v).bd 10000000 := fun v => bd_mono (pot_bd v) (by decide)
  refine fn_okR (E := { E0 with fz := [(6, [128386])] }) E0_tab E0_ord (fn := Go.Proofs.Tryz.f360) (by kernel_rfl) (by kernel_rfl) (fun hb => ?_)
  conv => whnf
  repeat' first | ((first|refine sN ?_|refine Dr.cons ?_|(refine Dr.nil ?_;refine drawIf (by kernel_rfl) ?_)|refine vN rfl ?_|refine Vc.draw rfl (by kernel_rfl) ?_|refine mkSl (by omega) (by omega) ?_);conv=>whnf) | (refine ifB_i (fun _=>?_) (fun _=>?_)<;>conv=>whnf) | (refine ⟨_, spec_copy guards (by have := hg.1; omega) hg.2, ?_⟩;conv=>whnf) | (refine ⟨_, spec_copy tells (by have := ht.1; omega) ht.2, ?_⟩;conv=>whnf)
  refine Vc.loop1 (fun (i : Nat) => i ≤ 3) (fun i => updL [0, 6, 7, 30] [(8, I i)] [(128320, .box [fFs guards, .ref 128386, fFs tells, eB false]), (128386, .arr 129 (([lin p (Form.pot 0) (-1), lin q (Form.pot 1) (-1), lin r (Form.pot 2) (-1)].take i).map eF) false)]) (fun i => 3 - i) 0 (by omega) ?_ (fun i hi => ?_)
  · repeat' (first|exact True.intro|((conv=>whnf);first|exact True.intro|refine ⟨by rfl, ?_⟩|refine ⟨by first|omega|(show (_ : Int) = _;first|omega|(dsimp only;omega)), ?_⟩ | refine ⟨?_, ?_⟩))
  · match i, hi with
    | 0, _ =>
      conv => whnf
      repeat' first | ((first|refine sN ?_|refine Dr.cons ?_|(refine Dr.nil ?_;refine drawIf (by kernel_rfl) ?_)|refine vN rfl ?_|refine Vc.draw rfl (by kernel_rfl) ?_|refine mkSl (by omega) (by omega) ?_);conv=>whnf) | (refine ifB_i (fun _=>?_) (fun _=>?_)<;>conv=>whnf) | ((first | refine ixK rfl ?_ | refine w64 (by omega) (by omega) ?_ | refine ⟨_, spec_pot 0 (by decide), ?_⟩ | refine ⟨_, spec_sum p (Form.pot 0) (-1) (m1 hp) (m2 _) (by decide), ?_⟩ | refine apN (by simp) ?_);conv=>whnf)
      refine ⟨1, by omega, by simp only; omega, ?_⟩
      repeat' (first|exact True.intro|((conv=>whnf);first|exact True.intro|refine ⟨by rfl, ?_⟩|refine ⟨by first|omega|(show (_ : Int) = _;first|omega|(dsimp only;omega)), ?_⟩ | refine ⟨?_, ?_⟩))
    | 1, _ =>
      conv => whnf
      repeat' first | ((first|refine sN ?_|refine Dr.cons ?_|(refine Dr.nil ?_;refine drawIf (by kernel_rfl) ?_)|refine vN rfl ?_|refine Vc.draw rfl (by kernel_rfl) ?_|refine mkSl (by omega) (by omega) ?_);conv=>whnf) | (refine ifB_i (fun _=>?_) (fun _=>?_)<;>conv=>whnf) | ((first | refine ixK rfl ?_ | refine w64 (by omega) (by omega) ?_ | refine ⟨_, spec_pot 1 (by decide), ?_⟩ | refine ⟨_, spec_sum q (Form.pot 1) (-1) (m1 hq) (m2 _) (by decide), ?_⟩ | refine apN (by simp) ?_);conv=>whnf)
      refine ⟨2, by omega, by simp only; omega, ?_⟩
      repeat' (first|exact True.intro|((conv=>whnf);first|exact True.intro|refine ⟨by rfl, ?_⟩|refine ⟨by first|omega|(show (_ : Int) = _;first|omega|(dsimp only;omega)), ?_⟩ | refine ⟨?_, ?_⟩))
    | 2, _ =>
      conv => whnf
      repeat' first | ((first|refine sN ?_|refine Dr.cons ?_|(refine Dr.nil ?_;refine drawIf (by kernel_rfl) ?_)|refine vN rfl ?_|refine Vc.draw rfl (by kernel_rfl) ?_|refine mkSl (by omega) (by omega) ?_);conv=>whnf) | (refine ifB_i (fun _=>?_) (fun _=>?_)<;>conv=>whnf) | ((first | refine ixK rfl ?_ | refine w64 (by omega) (by omega) ?_ | refine ⟨_, spec_pot 2 (by decide), ?_⟩ | refine ⟨_, spec_sum r (Form.pot 2) (-1) (m1 hr) (m2 _) (by decide), ?_⟩ | refine apN (by simp) ?_);conv=>whnf)
      refine ⟨3, by omega, by simp only; omega, ?_⟩
      repeat' (first|exact True.intro|((conv=>whnf);first|exact True.intro|refine ⟨by rfl, ?_⟩|refine ⟨by first|omega|(show (_ : Int) = _;first|omega|(dsimp only;omega)), ?_⟩ | refine ⟨?_, ?_⟩))
    | 3, _ =>
      conv => whnf
      (repeat' first | ((first|refine sN ?_|refine Dr.cons ?_|(refine Dr.nil ?_;refine drawIf (by kernel_rfl) ?_)|refine vN rfl ?_|refine Vc.draw rfl (by kernel_rfl) ?_|refine mkSl (by omega) (by omega) ?_);conv=>whnf))
      exact ⟨rfl, rfl⟩
end Cc
end
section
namespace Cc
open Go Go.AM
set_option maxRecDepth 100000
set_option maxHeartbeats 4000000
theorem spec_walk (act : List Line) (h6 : act.length ≤ 6) (hok : ∀ x ∈ act, x.ok = true) : ∀ (n i : Nat), act.length - i < n → i ≤ 100 → ∀ (p q r : Form) (g t : List Form), Wk act i p q r g t → ∀ (j : Int) (rp rg rt : List (List AV)), j = i → rp = [p, q, r].map eF → rg = g.map eF → rt = t.map eF →
    Sem P 319 [(.pure, .one (sLs act)), (.pure, I j), (.own, .one (.sl 129 rp)), (.own, .one (.sl 129 rg)), (.own, .one (.sl 129 rt))] [] (.one (sWs (walk (act.drop i) [p, q, r] g t))) := by
  intro n
  induction n with
  | zero => intro i h; omega
  | succ n ih =>
    intro i0 hn h100 p0 q0 r0 g0 t0 hw0 j rp rg rt rfl rfl rfl rfl
    refine fn_okR (E := { E0 with keep := [10001, 12004, 12006, 12011, 12012, 13007, 13009, 13015, 13016, 16001], fz := [(0, [128, 192, 256]), (3, [640064, 640256, 1024064])] }) E0_tab E0_ord (fn := Go.Proofs.Tryz.f319) (by kernel_rfl) (by kernel_rfl) (fun hb => ?_)
    have la : (act.map eL).length = act.length := List.length_map ..
    conv => whnf
    (repeat' first | ((first|refine sN ?_|refine Dr.cons ?_|(refine Dr.nil ?_;refine drawIf (by kernel_rfl) ?_)|refine vN rfl ?_|refine Vc.draw rfl (by kernel_rfl) ?_|refine mkSl (by omega) (by omega) ?_);conv=>whnf))
    refine Vc.loop6 (fun (i : Nat) (p q r : Form) (g t : List Form) => i ≤ 100 ∧ act.length - i < n + 1 ∧ Wk act i p q r g t ∧ walk (act.drop i) [p, q, r] g t = walk (act.drop i0) [p0, q0, r0] g0 t0 ∧ g = g0)
      (fun i p q r g t => updL [0, 3, 95, 96, 97, 98, 99] [(11, I i), (2, .one (fFs [p, q, r])), (4, .one (fFs t))] []) (fun i _ _ _ _ _ => act.length - i) i0 p0 q0 r0 g0 t0 ⟨h100, hn, hw0, rfl, rfl⟩ ?_ (fun i p q r g t hs => ?_)
    · repeat' (first|exact True.intro|((conv=>whnf);first|exact True.intro|refine ⟨by rfl, ?_⟩|refine ⟨by first|omega|(show (_ : Int) = _;first|omega|(dsimp only;omega)), ?_⟩ | refine ⟨?_, ?_⟩))
    · obtain ⟨h100', hn', w, hW, hg⟩ := hs
      subst hg
      conv => whnf
      (repeat' first | ((first|refine sN ?_|refine Dr.cons ?_|(refine Dr.nil ?_;refine drawIf (by kernel_rfl) ?_)|refine vN rfl ?_|refine Vc.draw rfl (by kernel_rfl) ?_|refine mkSl (by omega) (by omega) ?_);conv=>whnf))
      refine ifB_d (fun gd => ?_) (fun gd => ?_)
      all_goals conv => whnf
      · have hil : i < act.length := by omega
        have hx := hok (act.getD i default) (gd_mem hil)
        have wp := w.pots
        have wl := w.lists
        have m7 : ∀ {f : Form}, f.bd 1000000 → f.bd 10000000 := fun h => bd_mono h (by decide)
        have m8 : ∀ {f : Form}, f.bd 588246 → f.bd 10000000 := fun h => bd_mono h (by decide)
        have mS : ∀ {f : Form}, f.bd 1000000 → f.bd 1000000000000000 := fun h => bd_mono h (by decide)
        have wps : ∀ f ∈ [p, q, r], f.bd 10000000 := by simp only [List.mem_cons, List.not_mem_nil, or_false]; rintro f (rfl | rfl | rfl); exact m7 wp.1; exact m7 wp.2.1; exact m7 wp.2.2
        by_cases h4 : (act.getD i default).Kind = 4
        · repeat' first | ((first|refine sN ?_|refine Dr.cons ?_|(refine Dr.nil ?_;refine drawIf (by kernel_rfl) ?_)|refine vN rfl ?_|refine Vc.draw rfl (by kernel_rfl) ?_|refine mkSl (by omega) (by omega) ?_);conv=>whnf) | (refine ifB_i (fun _=>?_) (fun _=>?_)<;>conv=>whnf) | (refine ixN (enc := eL) default hil ?_;conv=>whnf) | (refine ⟨_, spec_copy g (by have := wl.1.1; omega) wl.1.2, ?_⟩;conv=>whnf)
          · exact ⟨by rw [← hW, walk_stop hil h4]; rfl, rfl⟩
          all_goals (exfalso; simp_all; done)
        · have hs := line_small hx h4
          have wi := w.into hil hs
          have wm := w.minus hil hs
          have fb : (act.getD i default).Form.bd 10000000 := (small_form hs).1
          rcases line_kind hx with hk | hk | hk | hk
          · have ihy := ih (i + 1) (by omega) (by omega) p q r (g ++ [into (act.getD i default).Form [p, q, r]]) t (w.on hil hs (by omega) (.inr ⟨_, wi, rfl⟩) (.inl rfl))
            have hsk := line_skip hx hk
            have ihn := ih (i + 1 + (act.getD i default).Skip.toNat) (by omega) (by omega) p q r (g ++ [minus (into (act.getD i default).Form [p, q, r])]) t (w.on hil hs (by omega) (.inr ⟨_, wm, rfl⟩) (.inl rfl))
            have l1 := walk_len 6 (act.drop (i + 1)) (by simp; omega) [p, q, r] (g ++ [into (act.getD i default).Form [p, q, r]]) t
            have l2 := walk_len 6 (act.drop (i + 1 + (act.getD i default).Skip.toNat)) (by simp; omega) [p, q, r] (g ++ [minus (into (act.getD i default).Form [p, q, r])]) t
            repeat' first | ((first|refine sN ?_|refine Dr.cons ?_|(refine Dr.nil ?_;refine drawIf (by kernel_rfl) ?_)|refine vN rfl ?_|refine Vc.draw rfl (by kernel_rfl) ?_|refine mkSl (by omega) (by omega) ?_);conv=>whnf) | (refine ifB_i (fun _=>?_) (fun _=>?_)<;>conv=>whnf) | ((first | refine ixN (enc := eL) default hil ?_ | refine ⟨_, spec_into (act.getD i default).Form p q r fb (m7 wp.1) (m7 wp.2.1) (m7 wp.2.2) (ok_bd.2 (m8 wi)), ?_⟩);conv=>whnf) | (refine ⟨_, spec_copy g (by have := wl.1.1; omega) wl.1.2, ?_⟩;conv=>whnf) | (refine ⟨_, spec_copy t (by have := wl.2.1; omega) wl.2.2, ?_⟩;conv=>whnf) | ((first | refine ⟨_, spec_copy [p, q, r] (by simp) wps, ?_⟩ | refine ⟨_, spec_minus (into (act.getD i default).Form [p, q, r]) (m8 wi), ?_⟩ | refine w64 (by omega) (by omega) ?_ | refine ⟨_, ihy _ _ _ _ (by omega) rfl (by simp) rfl, ?_⟩ | refine ⟨_, ihn _ _ _ _ (by omega) rfl (by simp) rfl, ?_⟩);conv=>whnf) | (refine apN (by first | (simp only [List.length_map]; omega) | (simp; omega)) ?_;conv=>whnf)
            all_goals first
              | (exfalso; simp_all; done)
              | skip
            exact ⟨by rw [← hW, walk_test hil hk]; exact congrArg (fun x => TV.one (AV.sl _ x)) List.map_append.symm, rfl⟩
          · obtain ⟨hp0, hp2⟩ := line_pot hx hk
            have hpot : (act.getD i default).Pot = 0 ∨ (act.getD i default).Pot = 1 ∨ (act.getD i default).Pot = 2 := by omega
            rcases hpot with hpot | hpot | hpot
            all_goals repeat' first | ((first|refine sN ?_|refine Dr.cons ?_|(refine Dr.nil ?_;refine drawIf (by kernel_rfl) ?_)|refine vN rfl ?_|refine Vc.draw rfl (by kernel_rfl) ?_|refine mkSl (by omega) (by omega) ?_);conv=>whnf) | (refine ifB_i (fun _=>?_) (fun _=>?_)<;>conv=>whnf) | ((first | refine ixN (enc := eL) default hil ?_ | refine ⟨_, spec_into (act.getD i default).Form p q r fb (m7 wp.1) (m7 wp.2.1) (m7 wp.2.2) (ok_bd.2 (m8 wi)), ?_⟩);conv=>whnf) | (refine ⟨_, spec_copy g (by have := wl.1.1; omega) wl.1.2, ?_⟩;conv=>whnf) | (refine ⟨_, spec_copy t (by have := wl.2.1; omega) wl.2.2, ?_⟩;conv=>whnf) | ((first | refine ⟨_, spec_copy [p, q, r] (by simp) wps, ?_⟩ | refine ⟨_, spec_sum p (into (act.getD i default).Form [p, q, r]) 1 (mS wp.1) (m8 wi) (by decide), ?_⟩ | refine ⟨_, spec_sum q (into (act.getD i default).Form [p, q, r]) 1 (mS wp.2.1) (m8 wi) (by decide), ?_⟩ | refine ⟨_, spec_sum r (into (act.getD i default).Form [p, q, r]) 1 (mS wp.2.2) (m8 wi) (by decide), ?_⟩ | refine w64 (by omega) (by omega) ?_);conv=>whnf) | ((rw [hpot];conv=>whnf)) | ((first | refine ioN (by decide) (by simp) ?_ | refine rwC rfl ?_);conv=>whnf)
            all_goals first
              | (exfalso; simp_all; done)
              | skip
            · refine ⟨i + 1, lin p (into (act.getD i default).Form [p, q, r]) 1, q, r, g, t, ⟨show i + 1 ≤ 100 from by omega, show act.length - (i + 1) < n + 1 from by omega, w.add hil hs (.inr rfl) (.inl rfl) (.inl rfl), by rw [← hW, walk_add hil hk, hpot]; rfl, rfl⟩, show act.length - (i + 1) < act.length - i from by omega, ?_⟩
              repeat' (first|exact True.intro|((conv=>whnf);first|exact True.intro|refine ⟨by rfl, ?_⟩|refine ⟨by first|omega|(show (_ : Int) = _;first|omega|(dsimp only;omega)), ?_⟩ | refine ⟨?_, ?_⟩))
            · refine ⟨i + 1, p, lin q (into (act.getD i default).Form [p, q, r]) 1, r, g, t, ⟨show i + 1 ≤ 100 from by omega, show act.length - (i + 1) < n + 1 from by omega, w.add hil hs (.inl rfl) (.inr rfl) (.inl rfl), by rw [← hW, walk_add hil hk, hpot]; rfl, rfl⟩, show act.length - (i + 1) < act.length - i from by omega, ?_⟩
              repeat' (first|exact True.intro|((conv=>whnf);first|exact True.intro|refine ⟨by rfl, ?_⟩|refine ⟨by first|omega|(show (_ : Int) = _;first|omega|(dsimp only;omega)), ?_⟩ | refine ⟨?_, ?_⟩))
            · refine ⟨i + 1, p, q, lin r (into (act.getD i default).Form [p, q, r]) 1, g, t, ⟨show i + 1 ≤ 100 from by omega, show act.length - (i + 1) < n + 1 from by omega, w.add hil hs (.inl rfl) (.inl rfl) (.inr rfl), by rw [← hW, walk_add hil hk, hpot]; rfl, rfl⟩, show act.length - (i + 1) < act.length - i from by omega, ?_⟩
              repeat' (first|exact True.intro|((conv=>whnf);first|exact True.intro|refine ⟨by rfl, ?_⟩|refine ⟨by first|omega|(show (_ : Int) = _;first|omega|(dsimp only;omega)), ?_⟩ | refine ⟨?_, ?_⟩))
          · repeat' first | ((first|refine sN ?_|refine Dr.cons ?_|(refine Dr.nil ?_;refine drawIf (by kernel_rfl) ?_)|refine vN rfl ?_|refine Vc.draw rfl (by kernel_rfl) ?_|refine mkSl (by omega) (by omega) ?_);conv=>whnf) | (refine ifB_i (fun _=>?_) (fun _=>?_)<;>conv=>whnf) | ((first | refine ixN (enc := eL) default hil ?_ | refine ⟨_, spec_into (act.getD i default).Form p q r fb (m7 wp.1) (m7 wp.2.1) (m7 wp.2.2) (ok_bd.2 (m8 wi)), ?_⟩);conv=>whnf) | (refine ⟨_, spec_copy g (by have := wl.1.1; omega) wl.1.2, ?_⟩;conv=>whnf) | (refine ⟨_, spec_copy t (by have := wl.2.1; omega) wl.2.2, ?_⟩;conv=>whnf) | ((first | refine ⟨_, spec_copy [p, q, r] (by simp) wps, ?_⟩ | refine w64 (by omega) (by omega) ?_);conv=>whnf) | (refine apN (by simp; omega) ?_;conv=>whnf)
            all_goals first
              | (exfalso; simp_all; done)
              | skip
            refine ⟨i + 1, p, q, r, g, t ++ [into (act.getD i default).Form [p, q, r]], ⟨show i + 1 ≤ 100 from by omega, show act.length - (i + 1) < n + 1 from by omega, w.on hil hs (by omega) (.inl rfl) (.inr ⟨_, wi, rfl⟩), by rw [← hW, walk_tell hil hk], rfl⟩, show act.length - (i + 1) < act.length - i from by omega, ?_⟩
            repeat' (first|exact True.intro|((conv=>whnf);first|exact True.intro|refine ⟨by rfl, ?_⟩|refine ⟨by first|omega|(show (_ : Int) = _;first|omega|(dsimp only;omega)) | exact (List.map_append (f := eF) (l₁ := t) (l₂ := [into (act.getD i default).Form [p, q, r]])).symm, ?_⟩ | refine ⟨?_, ?_⟩))
          · exact absurd hk h4
      · repeat' first | ((first|refine sN ?_|refine Dr.cons ?_|(refine Dr.nil ?_;refine drawIf (by kernel_rfl) ?_)|refine vN rfl ?_|refine Vc.draw rfl (by kernel_rfl) ?_|refine mkSl (by omega) (by omega) ?_);conv=>whnf) | (refine ifB_i (fun _=>?_) (fun _=>?_)<;>conv=>whnf) | (refine ⟨_, spec_row p q r g t w.pots.1 w.pots.2.1 w.pots.2.2 w.lists.1 w.lists.2, ?_⟩;conv=>whnf)
        exact ⟨by rw [← hW, walk_end (by omega)]; rfl, rfl⟩
end Cc
end
section
namespace Cc
open Go Go.AM
set_option maxRecDepth 100000
set_option maxHeartbeats 4000000
theorem spec_rowsOf (act : List Line) : Sem P 251 [(.pure, .one (sLs act))] [] (.one (sWs (rowsOf act))) := by
  by_cases ha : actOk act = true
  · obtain ⟨hok, h6, _⟩ := actOk_iff.1 ha
    have hw := spec_walk act h6 hok 7 0 (by omega) (by decide) (Form.pot 0) (Form.pot 1) (Form.pot 2) [] [] (Wk.start h6)
    refine fn_okR (E := { E0 with keep := [4007] }) E0_tab E0_ord (fn := Go.Proofs.Tryz.f251) (by kernel_rfl) (by kernel_rfl) (fun hb => ?_)
    conv => whnf
    repeat' first | ((first|refine sN ?_|refine Dr.cons ?_|(refine Dr.nil ?_;refine drawIf (by kernel_rfl) ?_)|refine vN rfl ?_|refine Vc.draw rfl (by kernel_rfl) ?_|refine mkSl (by omega) (by omega) ?_);conv=>whnf) | (refine ifB_i (fun _=>?_) (fun _=>?_)<;>conv=>whnf) | ((first | refine ⟨_, spec_actOk act, ?_⟩ | refine ⟨_, spec_pot 0 (by decide), ?_⟩ | refine ⟨_, spec_pot 1 (by decide), ?_⟩ | refine ⟨_, spec_pot 2 (by decide), ?_⟩ | refine ⟨_, hw _ _ _ _ rfl rfl rfl rfl, ?_⟩);conv=>whnf)
    · exfalso; simp_all
    · exact ⟨by rw [rowsOf, if_pos ha]; rfl, rfl⟩
  · refine fn_okR (E := { E0 with keep := [4007] }) E0_tab E0_ord (fn := Go.Proofs.Tryz.f251) (by kernel_rfl) (by kernel_rfl) (fun hb => ?_)
    conv => whnf
    repeat' first | ((first|refine sN ?_|refine Dr.cons ?_|(refine Dr.nil ?_;refine drawIf (by kernel_rfl) ?_)|refine vN rfl ?_|refine Vc.draw rfl (by kernel_rfl) ?_|refine mkSl (by omega) (by omega) ?_);conv=>whnf) | (refine ifB_i (fun _=>?_) (fun _=>?_)<;>conv=>whnf) | (refine ⟨_, spec_actOk act, ?_⟩;conv=>whnf)
    · exact ⟨by rw [rowsOf, if_neg ha]; rfl, rfl⟩
    · exfalso; simp_all
end Cc
end
section
namespace Cc
open Go Go.AM
set_option maxRecDepth 100000
set_option maxHeartbeats 4000000
theorem prim_bools (l : List Bool) : allPrim (l.map fun b => [eB b]) := by
  intro row h a ha
  obtain ⟨b, _, rfl⟩ := List.mem_map.1 h
  simp only [List.mem_singleton] at ha
  exact ⟨_, ha⟩
theorem spec_has (l : List (List Int)) (p : List Int) : Sem P 254 [(.pure, .one (sPs l)), (.pure, AI p)] [] (I (idxOf (fun q => decide (q = p)) l)) := by
  refine fn_okR (E := E0) E0_tab E0_ord (fn := Go.Proofs.Tryz.f254) (by kernel_rfl) (by kernel_rfl) (fun hb => ?_)
  have la : (l.map eP).length = l.length := List.length_map ..
  have hb1 : (l.map eP).length ≤ 1125899906842624 := hb.1.1
  conv => whnf
  (repeat' first | ((first|refine sN ?_|refine Dr.cons ?_|(refine Dr.nil ?_;refine drawIf (by kernel_rfl) ?_)|refine vN rfl ?_|refine Vc.draw rfl (by kernel_rfl) ?_|refine mkSl (by omega) (by omega) ?_);conv=>whnf))
  refine Vc.loop1 (fun (i : Nat) => i ≤ l.length ∧ ∀ j, j < i → decide (l.getD j [] = p) = false) (fun i => updL [0, 1] [(5, I i)] []) (fun i => l.length - i) 0 ⟨by omega, fun j hj => absurd hj (Nat.not_lt_zero j)⟩ ?_ (fun i hi => ?_)
  · repeat' (first | exact True.intro | ((conv => whnf); first | exact True.intro | refine ⟨by rfl, ?_⟩ | refine ⟨?_, ?_⟩))
  · obtain ⟨hi, ho⟩ := hi
    conv => whnf
    (repeat' first | ((first|refine sN ?_|refine Dr.cons ?_|(refine Dr.nil ?_;refine drawIf (by kernel_rfl) ?_)|refine vN rfl ?_|refine Vc.draw rfl (by kernel_rfl) ?_|refine mkSl (by omega) (by omega) ?_);conv=>whnf))
    refine ifB_d (fun g => ?_) (fun g => ?_)
    all_goals conv => whnf
    · repeat' first | ((first|refine sN ?_|refine Dr.cons ?_|(refine Dr.nil ?_;refine drawIf (by kernel_rfl) ?_)|refine vN rfl ?_|refine Vc.draw rfl (by kernel_rfl) ?_|refine mkSl (by omega) (by omega) ?_);conv=>whnf) | (refine ifB_i (fun _=>?_) (fun _=>?_)<;>conv=>whnf) | ((first | refine ixN (enc := eP) [] (by omega) ?_ | refine ⟨_, spec_same (l.getD i []) p, ?_⟩ | refine w64 (by omega) (by omega) ?_);conv=>whnf)
      · rename_i h
        exact ⟨by rw [idx_hit (p := fun q => decide (q = p)) [] (by omega) h ho], rfl⟩
      · rename_i h
        refine ⟨i + 1, ⟨by omega, fun j hj => ?_⟩, by simp only; omega, ?_⟩
        · by_cases h' : j < i
          · exact ho j h'
          · obtain rfl : j = i := by omega
            exact h
        · repeat' (first | exact True.intro | ((conv => whnf); first | exact True.intro | refine ⟨by rfl, ?_⟩ | refine ⟨?_, ?_⟩))
    · (repeat' first | ((first|refine sN ?_|refine Dr.cons ?_|(refine Dr.nil ?_;refine drawIf (by kernel_rfl) ?_)|refine vN rfl ?_|refine Vc.draw rfl (by kernel_rfl) ?_|refine mkSl (by omega) (by omega) ?_);conv=>whnf))
      exact ⟨by rw [idx_none (p := fun q => decide (q = p)) [] (fun j hj => ho j (by omega))], rfl⟩
theorem reads_succ {l : List Form} {i : Nat} (h : i < l.length) (v : Nat) : reads (l.take (i + 1)) v = (reads (l.take i) v || decide ((l.getD i default).C.getD v 0 ≠ 0)) := by
  have e : l.getD i default = l[i] := by rw [List.getD_eq_getElem?_getD, List.getElem?_eq_getElem h]; rfl
  unfold reads
  rw [List.take_add_one, List.getElem?_eq_getElem h, e, List.any_append]
  simp only [Option.toList, List.any_cons, List.any_nil, Bool.or_false]
theorem spec_reads (a b c : Bool) (l : List Form) (hl : shs l) : Sem P 252 [(.pure, .one (sBs [a, b, c])), (.pure, .one (sFs l))] [] (.one (sBs [a || reads l 0, b || reads l 1, c || reads l 2])) := by
  refine fn_okR (E := E0) E0_tab E0_ord (fn := Go.Proofs.Tryz.f252) (by kernel_rfl) (by kernel_rfl) (fun hb => ?_)
  have la : (l.map eF).length = l.length := List.length_map ..
  have hl1 := hl.1
  conv => whnf
  repeat' first | ((first|refine sN ?_|refine Dr.cons ?_|(refine Dr.nil ?_;refine drawIf (by kernel_rfl) ?_)|refine vN rfl ?_|refine Vc.draw rfl (by kernel_rfl) ?_|refine mkSl (by omega) (by omega) ?_);conv=>whnf) | (refine ifB_i (fun _=>?_) (fun _=>?_)<;>conv=>whnf) | ((first | refine apN (by simp) ?_ | refine apP (prim_bools _) ?_);conv=>whnf)
  refine Vc.loop1 (fun (i : Nat) => i ≤ l.length) (fun i => updL [1, 4, 5, 33] [(6, I i)] [(128128, .arr 4 [[eB (a || reads (l.take i) 0)], [eB (b || reads (l.take i) 1)], [eB (c || reads (l.take i) 2)]] false)]) (fun i => l.length - i) 0 (Nat.zero_le _) ?_ (fun i hi => ?_)
  · repeat' (first|exact True.intro|((conv=>whnf);first|exact True.intro|refine ⟨by rfl, ?_⟩|refine ⟨by first|omega|(show (_ : Int) = _;first|omega|(dsimp only;omega)) | exact by simp [reads], ?_⟩ | refine ⟨?_, ?_⟩))
  · conv => whnf
    (repeat' first | ((first|refine sN ?_|refine Dr.cons ?_|(refine Dr.nil ?_;refine drawIf (by kernel_rfl) ?_)|refine vN rfl ?_|refine Vc.draw rfl (by kernel_rfl) ?_|refine mkSl (by omega) (by omega) ?_);conv=>whnf))
    refine ifB_d (fun g => ?_) (fun g => ?_)
    all_goals conv => whnf
    · have hil : i < l.length := by omega
      have hs := hl.2 _ (gd_mem hil)
      have r0 := reads_succ hil 0
      have r1 := reads_succ hil 1
      have r2 := reads_succ hil 2
      obtain ⟨x, y, z, hC⟩ := len3 hs.1
      rw [hC] at r0 r1 r2
      (repeat' first | ((first|refine sN ?_|refine Dr.cons ?_|(refine Dr.nil ?_;refine drawIf (by kernel_rfl) ?_)|refine vN rfl ?_|refine Vc.draw rfl (by kernel_rfl) ?_|refine mkSl (by omega) (by omega) ?_);conv=>whnf))
      refine Vc.loop1 (fun (v : Nat) => v ≤ 3) (fun v => updL [1, 4, 5, 6, 11, 12, 13, 14, 15, 16, 33] [(7, I v)] [(128128, .arr 4 [[eB (a || reads (l.take i) 0 || (decide (0 < v) && decide (x ≠ 0)))], [eB (b || reads (l.take i) 1 || (decide (1 < v) && decide (y ≠ 0)))], [eB (c || reads (l.take i) 2 || (decide (2 < v) && decide (z ≠ 0)))]] false)]) (fun v => 3 - v) 0 (by omega) ?_ (fun v hv => ?_)
      · repeat' (first|exact True.intro|((conv=>whnf);first|exact True.intro|refine ⟨by rfl, ?_⟩|refine ⟨by first|omega|(show (_ : Int) = _;first|omega|(dsimp only;omega)) | exact by simp, ?_⟩ | refine ⟨?_, ?_⟩))
      · match v, hv with
        | 0, _ =>
          conv => whnf
          repeat' first | ((first|refine sN ?_|refine Dr.cons ?_|(refine Dr.nil ?_;refine drawIf (by kernel_rfl) ?_)|refine vN rfl ?_|refine Vc.draw rfl (by kernel_rfl) ?_|refine mkSl (by omega) (by omega) ?_);conv=>whnf) | (refine ifB_i (fun _=>?_) (fun _=>?_)<;>conv=>whnf) | (refine ixN (enc := eF) default hil ?_;conv=>whnf) | ((rw [hC];conv=>whnf)) | ((first | refine ixK rfl ?_ | refine ioN (by decide) (by simp) ?_ | refine rwC rfl ?_ | refine w64 (by omega) (by omega) ?_);conv=>whnf)
          all_goals (refine ⟨1, by omega, by simp only; omega, ?_⟩)
          all_goals (repeat' (first|exact True.intro|((conv=>whnf);first|exact True.intro|refine ⟨by rfl, ?_⟩|refine ⟨by first|omega|(show (_ : Int) = _;first|omega|(dsimp only;omega)) | exact by simp_all, ?_⟩ | refine ⟨?_, ?_⟩)))
        | 1, _ =>
          conv => whnf
          repeat' first | ((first|refine sN ?_|refine Dr.cons ?_|(refine Dr.nil ?_;refine drawIf (by kernel_rfl) ?_)|refine vN rfl ?_|refine Vc.draw rfl (by kernel_rfl) ?_|refine mkSl (by omega) (by omega) ?_);conv=>whnf) | (refine ifB_i (fun _=>?_) (fun _=>?_)<;>conv=>whnf) | (refine ixN (enc := eF) default hil ?_;conv=>whnf) | ((rw [hC];conv=>whnf)) | ((first | refine ixK rfl ?_ | refine ioN (by decide) (by simp) ?_ | refine rwC rfl ?_ | refine w64 (by omega) (by omega) ?_);conv=>whnf)
          all_goals (refine ⟨2, by omega, by simp only; omega, ?_⟩)
          all_goals (repeat' (first|exact True.intro|((conv=>whnf);first|exact True.intro|refine ⟨by rfl, ?_⟩|refine ⟨by first|omega|(show (_ : Int) = _;first|omega|(dsimp only;omega)) | exact by simp_all, ?_⟩ | refine ⟨?_, ?_⟩)))
        | 2, _ =>
          conv => whnf
          repeat' first | ((first|refine sN ?_|refine Dr.cons ?_|(refine Dr.nil ?_;refine drawIf (by kernel_rfl) ?_)|refine vN rfl ?_|refine Vc.draw rfl (by kernel_rfl) ?_|refine mkSl (by omega) (by omega) ?_);conv=>whnf) | (refine ifB_i (fun _=>?_) (fun _=>?_)<;>conv=>whnf) | (refine ixN (enc := eF) default hil ?_;conv=>whnf) | ((rw [hC];conv=>whnf)) | ((first | refine ixK rfl ?_ | refine ioN (by decide) (by simp) ?_ | refine rwC rfl ?_ | refine w64 (by omega) (by omega) ?_);conv=>whnf)
          all_goals (refine ⟨3, by omega, by simp only; omega, ?_⟩)
          all_goals (repeat' (first|exact True.intro|((conv=>whnf);first|exact True.intro|refine ⟨by rfl, ?_⟩|refine ⟨by first|omega|(show (_ : Int) = _;first|omega|(dsimp only;omega)) | exact by simp_all, ?_⟩ | refine ⟨?_, ?_⟩)))
        | 3, _ =>
          conv => whnf
          repeat' first | ((first|refine sN ?_|refine Dr.cons ?_|(refine Dr.nil ?_;refine drawIf (by kernel_rfl) ?_)|refine vN rfl ?_|refine Vc.draw rfl (by kernel_rfl) ?_|refine mkSl (by omega) (by omega) ?_);conv=>whnf) | (refine ifB_i (fun _=>?_) (fun _=>?_)<;>conv=>whnf) | (refine w64 (by omega) (by omega) ?_;conv=>whnf)
          refine ⟨i + 1, by omega, by simp only; omega, ?_⟩
          repeat' (first|exact True.intro|((conv=>whnf);first|exact True.intro|refine ⟨by rfl, ?_⟩|refine ⟨by first|omega|(show (_ : Int) = _;first|omega|(dsimp only;omega)) | exact by simp [r0, r1, r2, Bool.or_assoc], ?_⟩ | refine ⟨?_, ?_⟩))
    · (repeat' first | ((first|refine sN ?_|refine Dr.cons ?_|(refine Dr.nil ?_;refine drawIf (by kernel_rfl) ?_)|refine vN rfl ?_|refine Vc.draw rfl (by kernel_rfl) ?_|refine mkSl (by omega) (by omega) ?_);conv=>whnf))
      have hend : l.take i = l := List.take_of_length_le (by omega)
      exact ⟨by rw [hend]; rfl, rfl⟩
theorem spec_both (acts : List (List Line)) (h4 : acts.length ≤ 4) : Sem P 143 [(.pure, .one (sAs acts))] [] (.tup [(false, [sPs (partsOf acts)]), (false, [fBs (pinsOf acts)])]) := by
  refine fn_okR (E := { E0 with fz := [(3, [192000])] }) E0_tab E0_ord (fn := Go.Proofs.Tryz.f143) (by kernel_rfl) (by kernel_rfl) (fun hb => ?_)
  have la : (acts.map eA).length = acts.length := List.length_map ..
  conv => whnf
  (repeat' first | ((first|refine sN ?_|refine Dr.cons ?_|(refine Dr.nil ?_;refine drawIf (by kernel_rfl) ?_)|refine vN rfl ?_|refine Vc.draw rfl (by kernel_rfl) ?_|refine mkSl (by omega) (by omega) ?_);conv=>whnf))
  refine Vc.loop1 (fun (v : Nat) => v ≤ 3) (fun v => updL [0, 2, 3, 5, 7, 8, 9, 10, 11, 24, 25, 26, 27, 28, 29, 30, 31, 32, 33, 34, 35, 36, 37, 38, 39, 40, 41, 42, 43, 44, 45, 46, 47, 48, 49, 50, 51, 52, 53, 54, 55, 56, 57, 58, 59, 60, 61, 62, 63, 64, 65, 66, 67, 68, 69, 70, 71, 72, 73, 74, 75, 76, 77, 78, 79, 80, 81, 82, 83, 84, 85, 86, 87, 88, 89] [(6, I v), (4, .one (.ref 128000))] [(128000, .arr 24 (([[1, 0, 0], [0, 1, 0], [0, 0, 1]].take v).map eP) false)]) (fun v => 3 - v) 0 (by omega) ?_ (fun v hv => ?_)
  · repeat' (first|exact True.intro|((conv=>whnf);first|exact True.intro|refine ⟨by rfl, ?_⟩|refine ⟨by first|omega|(show (_ : Int) = _;first|omega|(dsimp only;omega)), ?_⟩ | refine ⟨?_, ?_⟩))
  · match v, hv with
    | 0, _ =>
      conv => whnf
      repeat' first | ((first|refine sN ?_|refine Dr.cons ?_|(refine Dr.nil ?_;refine drawIf (by kernel_rfl) ?_)|refine vN rfl ?_|refine Vc.draw rfl (by kernel_rfl) ?_|refine mkSl (by omega) (by omega) ?_);conv=>whnf) | (refine ifB_i (fun _=>?_) (fun _=>?_)<;>conv=>whnf) | ((first | refine ⟨_, spec_pot 0 (by decide), ?_⟩ | refine apN (by simp) ?_ | refine w64 (by omega) (by omega) ?_);conv=>whnf)
      refine ⟨1, by omega, by simp only; omega, ?_⟩
      repeat' (first|exact True.intro|((conv=>whnf);first|exact True.intro|refine ⟨by rfl, ?_⟩|refine ⟨by first|omega|(show (_ : Int) = _;first|omega|(dsimp only;omega)), ?_⟩ | refine ⟨?_, ?_⟩))
    | 1, _ =>
      conv => whnf
      repeat' first | ((first|refine sN ?_|refine Dr.cons ?_|(refine Dr.nil ?_;refine drawIf (by kernel_rfl) ?_)|refine vN rfl ?_|refine Vc.draw rfl (by kernel_rfl) ?_|refine mkSl (by omega) (by omega) ?_);conv=>whnf) | (refine ifB_i (fun _=>?_) (fun _=>?_)<;>conv=>whnf) | ((first | refine ⟨_, spec_pot 1 (by decide), ?_⟩ | refine apN (by simp) ?_ | refine w64 (by omega) (by omega) ?_);conv=>whnf)
      refine ⟨2, by omega, by simp only; omega, ?_⟩
      repeat' (first|exact True.intro|((conv=>whnf);first|exact True.intro|refine ⟨by rfl, ?_⟩|refine ⟨by first|omega|(show (_ : Int) = _;first|omega|(dsimp only;omega)), ?_⟩ | refine ⟨?_, ?_⟩))
    | 2, _ =>
      conv => whnf
      repeat' first | ((first|refine sN ?_|refine Dr.cons ?_|(refine Dr.nil ?_;refine drawIf (by kernel_rfl) ?_)|refine vN rfl ?_|refine Vc.draw rfl (by kernel_rfl) ?_|refine mkSl (by omega) (by omega) ?_);conv=>whnf) | (refine ifB_i (fun _=>?_) (fun _=>?_)<;>conv=>whnf) | ((first | refine ⟨_, spec_pot 2 (by decide), ?_⟩ | refine apN (by simp) ?_ | refine w64 (by omega) (by omega) ?_);conv=>whnf)
      refine ⟨3, by omega, by simp only; omega, ?_⟩
      repeat' (first|exact True.intro|((conv=>whnf);first|exact True.intro|refine ⟨by rfl, ?_⟩|refine ⟨by first|omega|(show (_ : Int) = _;first|omega|(dsimp only;omega)), ?_⟩ | refine ⟨?_, ?_⟩))
    | 3, _ =>
      conv => whnf
      (repeat' first | ((first|refine sN ?_|refine Dr.cons ?_|(refine Dr.nil ?_;refine drawIf (by kernel_rfl) ?_)|refine vN rfl ?_|refine Vc.draw rfl (by kernel_rfl) ?_|refine mkSl (by omega) (by omega) ?_);conv=>whnf))
      refine Vc.loop1 (fun (i : Nat) => i ≤ acts.length) (fun i => updL [0, 2, 3, 88, 89] [(7, I i), (4, .one (.ref 128000)), (5, .one (fBs [reads (fAt acts i 0) 0, reads (fAt acts i 0) 1, reads (fAt acts i 0) 2]))] [(128000, .arr 24 ((pAt (gAt acts i 0)).map eP) false)]) (fun i => acts.length - i) 0 (by omega) ?_ (fun i hi => ?_)
      · repeat' (first|exact True.intro|((conv=>whnf);first|exact True.intro|refine ⟨by rfl, ?_⟩|refine ⟨by first|omega|(show (_ : Int) = _;first|omega|(dsimp only;omega)), ?_⟩ | refine ⟨?_, ?_⟩))
      · conv => whnf
        (repeat' first | ((first|refine sN ?_|refine Dr.cons ?_|(refine Dr.nil ?_;refine drawIf (by kernel_rfl) ?_)|refine vN rfl ?_|refine Vc.draw rfl (by kernel_rfl) ?_|refine mkSl (by omega) (by omega) ?_);conv=>whnf))
        refine ifB_d (fun g => ?_) (fun g => ?_)
        all_goals conv => whnf
        · have hil : i < acts.length := by omega
          have hb1 : (List.map eW (rowsOf (acts.getD i []))).length = (rowsOf (acts.getD i [])).length := List.length_map ..
          repeat' first | ((first|refine sN ?_|refine Dr.cons ?_|(refine Dr.nil ?_;refine drawIf (by kernel_rfl) ?_)|refine vN rfl ?_|refine Vc.draw rfl (by kernel_rfl) ?_|refine mkSl (by omega) (by omega) ?_);conv=>whnf) | (refine ifB_i (fun _=>?_) (fun _=>?_)<;>conv=>whnf) | ((first | refine ixN (enc := eA) [] hil ?_ | refine ⟨_, spec_rowsOf (acts.getD i []), ?_⟩);conv=>whnf)
          refine Vc.loop1 (fun (k : Nat) => k ≤ (rowsOf (acts.getD i [])).length) (fun k => updL [0, 2, 3, 7, 8, 24, 25, 26, 27, 28, 29, 30, 31, 32, 33, 34, 88, 89] [(9, I k), (4, .one (.ref 128000)), (5, .one (fBs [reads (fAt acts i k) 0, reads (fAt acts i k) 1, reads (fAt acts i k) 2]))] [(128000, .arr 24 ((pAt (gAt acts i k)).map eP) false)]) (fun k => (rowsOf (acts.getD i [])).length - k) 0 (by omega) ?_ (fun k hk => ?_)
          · repeat' (first|exact True.intro|((conv=>whnf);first|exact True.intro|refine ⟨by rfl, ?_⟩|refine ⟨by first|omega|(show (_ : Int) = _;first|omega|(dsimp only;omega)), ?_⟩ | refine ⟨?_, ?_⟩))
          · conv => whnf
            (repeat' first | ((first|refine sN ?_|refine Dr.cons ?_|(refine Dr.nil ?_;refine drawIf (by kernel_rfl) ?_)|refine vN rfl ?_|refine Vc.draw rfl (by kernel_rfl) ?_|refine mkSl (by omega) (by omega) ?_);conv=>whnf))
            refine ifB_d (fun g => ?_) (fun g => ?_)
            all_goals conv => whnf
            · have hkl : k < (rowsOf (acts.getD i [])).length := by omega
              have rl := rows_len (acts.getD i [])
              have hmem : (rowsOf (acts.getD i [])).getD k default ∈ rowsOf (acts.getD i []) := gd_mem hkl
              obtain ⟨sg, sa, st⟩ := rows_shs hmem
              repeat' first | ((first|refine sN ?_|refine Dr.cons ?_|(refine Dr.nil ?_;refine drawIf (by kernel_rfl) ?_)|refine vN rfl ?_|refine Vc.draw rfl (by kernel_rfl) ?_|refine mkSl (by omega) (by omega) ?_);conv=>whnf) | (refine ifB_i (fun _=>?_) (fun _=>?_)<;>conv=>whnf) | ((first | refine ixN (enc := eW) default hkl ?_ | refine ⟨_, spec_reads _ _ _ ((rowsOf (acts.getD i [])).getD k default).Adds sa, ?_⟩ | refine ⟨_, spec_reads _ _ _ ((rowsOf (acts.getD i [])).getD k default).Tells st, ?_⟩);conv=>whnf)
              refine Vc.loop1 (fun (j : Nat) => j ≤ ((rowsOf (acts.getD i [])).getD k default).Guards.length) (fun j => updL [0, 2, 3, 5, 7, 8, 9, 24, 25, 26, 27, 28, 29, 30, 31, 32, 33, 34, 35, 36, 37, 38, 39, 40, 41, 42, 43, 44, 45, 46, 47, 48, 49, 50, 51, 52, 53, 88, 89] [(10, I j), (4, .one (.ref 128000))] [(128000, .arr 24 ((pAt (gAt acts i k ++ ((rowsOf (acts.getD i [])).getD k default).Guards.take j)).map eP) false)]) (fun j => ((rowsOf (acts.getD i [])).getD k default).Guards.length - j) 0 (by omega) ?_ (fun j hj => ?_)
              · repeat' (first|exact True.intro|((conv=>whnf);first|exact True.intro|refine ⟨by rfl, ?_⟩|refine ⟨by first|omega|(show (_ : Int) = _;first|omega|(dsimp only;omega)) | exact by simp, ?_⟩ | refine ⟨?_, ?_⟩))
              · have hg1 : (List.map eF ((rowsOf (acts.getD i [])).getD k default).Guards).length = ((rowsOf (acts.getD i [])).getD k default).Guards.length := List.length_map ..
                conv => whnf
                (repeat' first | ((first|refine sN ?_|refine Dr.cons ?_|(refine Dr.nil ?_;refine drawIf (by kernel_rfl) ?_)|refine vN rfl ?_|refine Vc.draw rfl (by kernel_rfl) ?_|refine mkSl (by omega) (by omega) ?_);conv=>whnf))
                refine ixN (enc := eW) default hkl ?_
                conv => whnf
                (repeat' first | ((first|refine sN ?_|refine Dr.cons ?_|(refine Dr.nil ?_;refine drawIf (by kernel_rfl) ?_)|refine vN rfl ?_|refine Vc.draw rfl (by kernel_rfl) ?_|refine mkSl (by omega) (by omega) ?_);conv=>whnf))
                refine ifB_d (fun g => ?_) (fun g => ?_)
                all_goals conv => whnf
                · have hjl : j < ((rowsOf (acts.getD i [])).getD k default).Guards.length := by omega
                  have hjm : ((rowsOf (acts.getD i [])).getD k default).Guards.getD j default ∈ ((rowsOf (acts.getD i [])).getD k default).Guards := gd_mem hjl
                  have hjb := bd_mono ((rowsOf_bd hmem).1 _ hjm) (m' := 1000000000000) (by decide)
                  have pl := pAt_len (gAt acts i k ++ ((rowsOf (acts.getD i [])).getD k default).Guards.take j)
                  have gl := rows_take_len acts i k
                  have tl := List.length_take (i := i) (l := acts)
                  have gl2 := List.length_take (i := j) (l := ((rowsOf (acts.getD i [])).getD k default).Guards)
                  have g6 := sg.1
                  rw [List.length_append] at pl
                  have e1 : pAt (gAt acts i k ++ ((rowsOf (acts.getD i [])).getD k default).Guards.take (j + 1)) = addPart (pAt (gAt acts i k ++ ((rowsOf (acts.getD i [])).getD k default).Guards.take j)) (((rowsOf (acts.getD i [])).getD k default).Guards.getD j default) := by rw [take_succ_getD hjl, ← List.append_assoc, pAt_app]
                  rw [addPart_eq hjb.1] at e1
                  repeat' first | ((first|refine sN ?_|refine Dr.cons ?_|(refine Dr.nil ?_;refine drawIf (by kernel_rfl) ?_)|refine vN rfl ?_|refine Vc.draw rfl (by kernel_rfl) ?_|refine mkSl (by omega) (by omega) ?_);conv=>whnf) | (refine ifB_i (fun _=>?_) (fun _=>?_)<;>conv=>whnf) | ((first | refine ixN (enc := eW) default hkl ?_ | refine ixN (enc := eF) default hjl ?_);conv=>whnf) | (refine ⟨_, spec_part (((rowsOf (acts.getD i [])).getD k default).Guards.getD j default).C (((rowsOf (acts.getD i [])).getD k default).Guards.getD j default).D (((rowsOf (acts.getD i [])).getD k default).Guards.getD j default).K (by rw [hjb.1.1]; decide) hjb.2.1, ?_⟩;conv=>whnf) | ((first | refine ⟨_, spec_has _ _, ?_⟩ | refine ⟨_, spec_zero, ?_⟩ | refine ⟨_, spec_same (part ((rowsOf (acts.getD i [])).getD k default |>.Guards.getD j default).C) [0, 0, 0], ?_⟩);conv=>whnf) | (refine apN (by rw [List.length_map]; show _ + 1 ≤ _; omega) ?_;conv=>whnf) | (refine w64 (by omega) (by omega) ?_;conv=>whnf)
                  all_goals (refine ⟨j + 1, by omega, by simp only; omega, ?_⟩)
                  all_goals (repeat' (first|exact True.intro|((conv=>whnf);first|exact True.intro|refine ⟨by rfl, ?_⟩|refine ⟨by first|omega|(show (_ : Int) = _;first|omega|(dsimp only;omega)) | exact (by rw [e1, if_pos (by clear e1; simp_all; done), List.map_append]; rfl) | exact (by rw [e1, if_neg (by clear e1; first | (simp_all; done) | (simp_all; omega))]), ?_⟩ | refine ⟨?_, ?_⟩)))
                · repeat' first | ((first|refine sN ?_|refine Dr.cons ?_|(refine Dr.nil ?_;refine drawIf (by kernel_rfl) ?_)|refine vN rfl ?_|refine Vc.draw rfl (by kernel_rfl) ?_|refine mkSl (by omega) (by omega) ?_);conv=>whnf) | (refine ifB_i (fun _=>?_) (fun _=>?_)<;>conv=>whnf) | (refine w64 (by omega) (by omega) ?_;conv=>whnf)
                  refine ⟨k + 1, by omega, by simp only; omega, ?_⟩
                  repeat' (first|exact True.intro|((conv=>whnf);first|exact True.intro|refine ⟨by rfl, ?_⟩|refine ⟨by first|omega|(show (_ : Int) = _;first|omega|(dsimp only;omega)) | exact (by rw [gAt_row hkl, List.take_of_length_le (by omega)]) | exact (by simp [fAt_row hkl, reads_app, Bool.or_assoc]), ?_⟩ | refine ⟨?_, ?_⟩))
            · repeat' first | ((first|refine sN ?_|refine Dr.cons ?_|(refine Dr.nil ?_;refine drawIf (by kernel_rfl) ?_)|refine vN rfl ?_|refine Vc.draw rfl (by kernel_rfl) ?_|refine mkSl (by omega) (by omega) ?_);conv=>whnf) | (refine ifB_i (fun _=>?_) (fun _=>?_)<;>conv=>whnf) | (refine w64 (by omega) (by omega) ?_;conv=>whnf)
              refine ⟨i + 1, by omega, by simp only; omega, ?_⟩
              repeat' (first|exact True.intro|((conv=>whnf);first|exact True.intro|refine ⟨by rfl, ?_⟩|refine ⟨by first|omega|(show (_ : Int) = _;first|omega|(dsimp only;omega)) | exact (by rw [gAt_act hil (by omega)]) | exact (by rw [fAt_act hil (by omega)]), ?_⟩ | refine ⟨?_, ?_⟩))
        · (repeat' first | ((first|refine sN ?_|refine Dr.cons ?_|(refine Dr.nil ?_;refine drawIf (by kernel_rfl) ?_)|refine vN rfl ?_|refine Vc.draw rfl (by kernel_rfl) ?_|refine mkSl (by omega) (by omega) ?_);conv=>whnf))
          refine ⟨?_, rfl⟩
          rw [gAt_end (by omega), fAt_end (by omega)]
          rfl
end Cc
end
section
namespace Cc
open Go Go.AM
set_option maxRecDepth 100000
set_option maxHeartbeats 4000000
theorem parts_1 (p : List Int) : Sem P 397 [(.pure, AI p)] [] (B (!within p 3 10000000)) := by
  refine fn_okR (E := E0) E0_tab E0_ord (fn := Go.Proofs.Tryz.f397) (by kernel_rfl) (by kernel_rfl) (fun hb => ?_)
  conv => whnf
  repeat' first | ((first|refine sN ?_|refine Dr.cons ?_|(refine Dr.nil ?_;refine drawIf (by kernel_rfl) ?_)|refine vN rfl ?_|refine Vc.draw rfl (by kernel_rfl) ?_|refine mkSl (by omega) (by omega) ?_);conv=>whnf) | (refine ifB_i (fun _=>?_) (fun _=>?_)<;>conv=>whnf) | (refine ⟨_, impl_within _ 3 _ (by omega), ?_⟩;conv=>whnf)
  exact ⟨rfl, rfl⟩
theorem parts_any_ix  (l : List (List Int)) : Sem P 345 [(.pure, .one (sPs l)), (.pure, .one (.fn 397 []))] [] (I (idxOf (fun (x : (List Int)) => !within x 3 10000000) l)) := by
  refine fn_okR (E := E0) E0_tab E0_ord (fn := Go.Proofs.Tryz.f345) (by kernel_rfl) (by kernel_rfl) (fun hb => ?_)
  have la : (l.map eP).length = l.length := List.length_map ..
  have hb1 : (l.map eP).length ≤ 1125899906842624 := hb.1.1
  conv => whnf
  (repeat' first | ((first|refine sN ?_|refine Dr.cons ?_|(refine Dr.nil ?_;refine drawIf (by kernel_rfl) ?_)|refine vN rfl ?_|refine Vc.draw rfl (by kernel_rfl) ?_|refine mkSl (by omega) (by omega) ?_);conv=>whnf))
  refine Vc.loop { i : Nat // ∀ j, j < i → j < l.length → (fun (x : (List Int)) => !within x 3 10000000) (l.getD j default) = false } (fun i => updL [0, 1, 7] [(8, I i.1)] []) (fun i => l.length - i.1) ⟨0, by simp⟩ ?_ (fun i => ?_)
  · repeat' (first | exact True.intro | ((conv => whnf); first | exact True.intro | refine ⟨by rfl, ?_⟩ | refine ⟨?_, ?_⟩))
  · have hi := i.2
    conv => whnf
    (repeat' first | ((first|refine sN ?_|refine Dr.cons ?_|(refine Dr.nil ?_;refine drawIf (by kernel_rfl) ?_)|refine vN rfl ?_|refine Vc.draw rfl (by kernel_rfl) ?_|refine mkSl (by omega) (by omega) ?_);conv=>whnf))
    refine ifB_d (fun g => ?_) (fun g => ?_)
    all_goals conv => whnf
    · repeat' first | ((first|refine sN ?_|refine Dr.cons ?_|(refine Dr.nil ?_;refine drawIf (by kernel_rfl) ?_)|refine vN rfl ?_|refine Vc.draw rfl (by kernel_rfl) ?_|refine mkSl (by omega) (by omega) ?_);conv=>whnf) | (refine ifB_i (fun _=>?_) (fun _=>?_)<;>conv=>whnf) | ((first | refine ixN (enc := eP) default (by omega) ?_ | refine ⟨_, parts_1 _, ?_⟩ | refine w64 (by omega) (by omega) ?_);conv=>whnf)
      · rename_i h
        exact rI' (idx_hit (p := fun (x : (List Int)) => !within x 3 10000000) default (by omega) h fun j hj => hi j hj (by omega)).symm
      · rename_i h
        refine ⟨⟨i.1 + 1, fun j hj hl => ?_⟩, ?_, ?_⟩
        · by_cases hji : j < i.1
          · exact hi j hji hl
          · obtain rfl : j = i.1 := by omega
            exact h
        · simp only; omega
        · repeat' (first | exact True.intro | ((conv => whnf); first | exact True.intro | refine ⟨by rfl, ?_⟩ | refine ⟨?_, ?_⟩))
    · (repeat' first | ((first|refine sN ?_|refine Dr.cons ?_|(refine Dr.nil ?_;refine drawIf (by kernel_rfl) ?_)|refine vN rfl ?_|refine Vc.draw rfl (by kernel_rfl) ?_|refine mkSl (by omega) (by omega) ?_);conv=>whnf))
      exact rI' (idx_none (p := fun (x : (List Int)) => !within x 3 10000000) default fun j hj => hi j (by omega) hj).symm
theorem parts_any  (l : List (List Int)) : Sem P 350 [(.pure, .one (sPs l)), (.pure, .one (.fn 397 []))] [] (B (l.any fun (x : (List Int)) => !within x 3 10000000)) := by
  refine fn_okR (E := E0) E0_tab E0_ord (fn := Go.Proofs.Tryz.f350) (by kernel_rfl) (by kernel_rfl) (fun hb => ?_)
  conv => whnf
  repeat' first | ((first|refine sN ?_|refine Dr.cons ?_|(refine Dr.nil ?_;refine drawIf (by kernel_rfl) ?_)|refine vN rfl ?_|refine Vc.draw rfl (by kernel_rfl) ?_|refine mkSl (by omega) (by omega) ?_);conv=>whnf) | (refine ifB_i (fun _=>?_) (fun _=>?_)<;>conv=>whnf) | (refine ⟨_, parts_any_ix  l, ?_⟩;conv=>whnf)
  exact rB (idx_any _ _)
theorem impl_partsOk (l : List (List Int)) : Sem P 378 [(.pure, .one (sPs l))] [] (B (partsOk l)) := by
  refine fn_okR (E := E0) E0_tab E0_ord (fn := Go.Proofs.Tryz.f378) (by kernel_rfl) (by kernel_rfl) (fun hb => ?_)
  conv => whnf
  repeat' first | ((first|refine sN ?_|refine Dr.cons ?_|(refine Dr.nil ?_;refine drawIf (by kernel_rfl) ?_)|refine vN rfl ?_|refine Vc.draw rfl (by kernel_rfl) ?_|refine mkSl (by omega) (by omega) ?_);conv=>whnf) | (refine ifB_i (fun _=>?_) (fun _=>?_)<;>conv=>whnf) | (refine ⟨_, parts_any l, ?_⟩;conv=>whnf)
  exact rB (any_all _ _)
theorem impl_addedOk (l : List Int) : Sem P 205 [(.pure, AI l)] [] (B (addedOk l)) := by
  refine fn_okR (E := E0) E0_tab E0_ord (fn := Go.Proofs.Tryz.f205) (by kernel_rfl) (by kernel_rfl) (fun hb => ?_)
  conv => whnf
  repeat' first | ((first|refine sN ?_|refine Dr.cons ?_|(refine Dr.nil ?_;refine drawIf (by kernel_rfl) ?_)|refine vN rfl ?_|refine Vc.draw rfl (by kernel_rfl) ?_|refine mkSl (by omega) (by omega) ?_);conv=>whnf) | (refine ifB_i (fun _=>?_) (fun _=>?_)<;>conv=>whnf) | (refine ⟨_, impl_within _ 3 _ (by omega), ?_⟩;conv=>whnf)
  exact ⟨rfl, rfl⟩
theorem impl_trtOkAll (t : Treaty) (parts : List (List Int)) (s : Int) (a : List Int) : Sem P 349 [(.pure, .agg (aT t)), (.pure, .one (sPs parts)), (.pure, I s), (.pure, AI a)] []
    (B (trtOk t && partsOk parts && inB s 0 (t.Gives.length - 1) && addedOk a)) := by
  refine fn_okR (E := E0) E0_tab E0_ord (fn := Go.Proofs.Tryz.f349) (by kernel_rfl) (by kernel_rfl) (fun hb => ?_)
  have la := ints_len t.Gives
  have hb1 : (ints t.Gives).length ≤ 1125899906842624 := (hb.1 (sI t.Gives) (by simp)).1
  conv => whnf
  repeat' first | ((first|refine sN ?_|refine Dr.cons ?_|(refine Dr.nil ?_;refine drawIf (by kernel_rfl) ?_)|refine vN rfl ?_|refine Vc.draw rfl (by kernel_rfl) ?_|refine mkSl (by omega) (by omega) ?_);conv=>whnf) | (refine ifB_i (fun _=>?_) (fun _=>?_)<;>conv=>whnf) | ((first | refine ⟨_, impl_trtOk t, ?_⟩ | refine ⟨_, impl_partsOk parts, ?_⟩ | refine ⟨_, impl_in _ _ _, ?_⟩ | refine ⟨_, impl_addedOk a, ?_⟩ | refine w64 (by omega) (by omega) ?_);conv=>whnf)
  all_goals exact rB (by simp_all)
theorem added_three {a : List Int} (h : addedOk a = true) : a.length = 3 ∧ ∀ x ∈ a, -20000 ≤ x ∧ x ≤ 20000 := within_iff.1 h
theorem keeps_1 (p a : List Int) (g : Int) (ha : addedOk a = true) (hg : -1000 ≤ g ∧ g ≤ 1000) (hp : within p 3 10000000 = true) : Sem P 351 [(.pure, AI p), (.pure, .one (.fp [] [sI a] 0)), (.pure, .one (.fp [] [eI g] 0))] [] (B (!inB (dot p a) (-g) g)) := by
  obtain ⟨h1, h2⟩ := added_three ha
  obtain ⟨h3, h4⟩ := within_iff.1 hp
  refine fn_okR (E := E0) E0_tab E0_ord (fn := Go.Proofs.Tryz.f351) (by kernel_rfl) (by kernel_rfl) (fun hb => ?_)
  conv => whnf
  repeat' first | ((first|refine sN ?_|refine Dr.cons ?_|(refine Dr.nil ?_;refine drawIf (by kernel_rfl) ?_)|refine vN rfl ?_|refine Vc.draw rfl (by kernel_rfl) ?_|refine mkSl (by omega) (by omega) ?_);conv=>whnf) | (refine ifB_i (fun _=>?_) (fun _=>?_)<;>conv=>whnf) | (refine ⟨_, impl_dot p a (by omega) (by omega) h4 (fun x hx => by have := h2 x hx; omega), ?_⟩;conv=>whnf) | ((first | refine ⟨_, impl_in _ _ _, ?_⟩ | refine w64 (by omega) (by omega) ?_);conv=>whnf)
  exact rB (by rw [Int.zero_sub])
theorem keeps_any_ix (a : List Int) (gv : Int) (ha : addedOk a = true) (hg : -1000 ≤ gv ∧ gv ≤ 1000) (l : List (List Int)) (hl : ∀ (x : (List Int)), x ∈ l → within x 3 10000000 = true) : Sem P 345 [(.pure, .one (sPs l)), (.pure, .one (.fn 351 [.fp [] [sI a] 0, .fp [] [eI gv] 0]))] [] (I (idxOf (fun (x : (List Int)) => !inB (dot x a) (-gv) gv) l)) := by
  refine fn_okR (E := E0) E0_tab E0_ord (fn := Go.Proofs.Tryz.f345) (by kernel_rfl) (by kernel_rfl) (fun hb => ?_)
  have la : (l.map eP).length = l.length := List.length_map ..
  have hb1 : (l.map eP).length ≤ 1125899906842624 := hb.1.1
  conv => whnf
  (repeat' first | ((first|refine sN ?_|refine Dr.cons ?_|(refine Dr.nil ?_;refine drawIf (by kernel_rfl) ?_)|refine vN rfl ?_|refine Vc.draw rfl (by kernel_rfl) ?_|refine mkSl (by omega) (by omega) ?_);conv=>whnf))
  refine Vc.loop { i : Nat // ∀ j, j < i → j < l.length → (fun (x : (List Int)) => !inB (dot x a) (-gv) gv) (l.getD j default) = false } (fun i => updL [0, 1, 7] [(8, I i.1)] []) (fun i => l.length - i.1) ⟨0, by simp⟩ ?_ (fun i => ?_)
  · repeat' (first | exact True.intro | ((conv => whnf); first | exact True.intro | refine ⟨by rfl, ?_⟩ | refine ⟨?_, ?_⟩))
  · have hi := i.2
    conv => whnf
    (repeat' first | ((first|refine sN ?_|refine Dr.cons ?_|(refine Dr.nil ?_;refine drawIf (by kernel_rfl) ?_)|refine vN rfl ?_|refine Vc.draw rfl (by kernel_rfl) ?_|refine mkSl (by omega) (by omega) ?_);conv=>whnf))
    refine ifB_d (fun g => ?_) (fun g => ?_)
    all_goals conv => whnf
    · repeat' first | ((first|refine sN ?_|refine Dr.cons ?_|(refine Dr.nil ?_;refine drawIf (by kernel_rfl) ?_)|refine vN rfl ?_|refine Vc.draw rfl (by kernel_rfl) ?_|refine mkSl (by omega) (by omega) ?_);conv=>whnf) | (refine ifB_i (fun _=>?_) (fun _=>?_)<;>conv=>whnf) | ((first | refine ixN (enc := eP) default (by omega) ?_ | refine ⟨_, keeps_1 _ a gv ha hg (hl _ (gd_mem (by omega))), ?_⟩ | refine w64 (by omega) (by omega) ?_);conv=>whnf)
      · rename_i h
        exact rI' (idx_hit (p := fun (x : (List Int)) => !inB (dot x a) (-gv) gv) default (by omega) h fun j hj => hi j hj (by omega)).symm
      · rename_i h
        refine ⟨⟨i.1 + 1, fun j hj hl => ?_⟩, ?_, ?_⟩
        · by_cases hji : j < i.1
          · exact hi j hji hl
          · obtain rfl : j = i.1 := by omega
            exact h
        · simp only; omega
        · repeat' (first | exact True.intro | ((conv => whnf); first | exact True.intro | refine ⟨by rfl, ?_⟩ | refine ⟨?_, ?_⟩))
    · (repeat' first | ((first|refine sN ?_|refine Dr.cons ?_|(refine Dr.nil ?_;refine drawIf (by kernel_rfl) ?_)|refine vN rfl ?_|refine Vc.draw rfl (by kernel_rfl) ?_|refine mkSl (by omega) (by omega) ?_);conv=>whnf))
      exact rI' (idx_none (p := fun (x : (List Int)) => !inB (dot x a) (-gv) gv) default fun j hj => hi j (by omega) hj).symm
theorem keeps_any (a : List Int) (gv : Int) (ha : addedOk a = true) (hg : -1000 ≤ gv ∧ gv ≤ 1000) (l : List (List Int)) (hl : ∀ (x : (List Int)), x ∈ l → within x 3 10000000 = true) : Sem P 350 [(.pure, .one (sPs l)), (.pure, .one (.fn 351 [.fp [] [sI a] 0, .fp [] [eI gv] 0]))] [] (B (l.any fun (x : (List Int)) => !inB (dot x a) (-gv) gv)) := by
  refine fn_okR (E := E0) E0_tab E0_ord (fn := Go.Proofs.Tryz.f350) (by kernel_rfl) (by kernel_rfl) (fun hb => ?_)
  conv => whnf
  repeat' first | ((first|refine sN ?_|refine Dr.cons ?_|(refine Dr.nil ?_;refine drawIf (by kernel_rfl) ?_)|refine vN rfl ?_|refine Vc.draw rfl (by kernel_rfl) ?_|refine mkSl (by omega) (by omega) ?_);conv=>whnf) | (refine ifB_i (fun _=>?_) (fun _=>?_)<;>conv=>whnf) | (refine ⟨_, keeps_any_ix a gv ha hg l hl, ?_⟩;conv=>whnf)
  exact rB (idx_any _ _)
theorem gives_get {t : Treaty} (h : trtOk t = true) {s : Int} (hs : inB s 0 (t.Gives.length - 1) = true) : 0 ≤ s ∧ s < t.Gives.length ∧ t.Gives.length ≤ 3 ∧ 0 ≤ t.Gives.getD s.toNat 0 ∧ t.Gives.getD s.toNat 0 ≤ 50 := by
  unfold trtOk givesOk at h
  simp only [Bool.and_eq_true, List.all_eq_true, inB_iff] at h
  have h1 := inB_iff.1 hs
  have hm : t.Gives.getD s.toNat 0 ∈ t.Gives := gd_mem (by omega)
  have := h.2.2 _ hm
  omega
theorem impl_keepsT (t : Treaty) (parts : List (List Int)) (s : Int) (a : List Int) : Sem P 295 [(.pure, .agg (aT t)), (.pure, .one (sPs parts)), (.pure, I s), (.pure, AI a)] [] (B (trtKeeps t parts s a)) := by
  have la := ints_len t.Gives
  by_cases hok : (trtOk t && partsOk parts && inB s 0 (t.Gives.length - 1) && addedOk a) = true
  · have h := hok
    simp only [Bool.and_eq_true] at h
    obtain ⟨⟨⟨h1, h2⟩, h3⟩, h4⟩ := h
    obtain ⟨g1, g2, g3, g4, g5⟩ := gives_get h1 h3
    refine fn_okR (E := E0) E0_tab E0_ord (fn := Go.Proofs.Tryz.f295) (by kernel_rfl) (by kernel_rfl) (fun hb => ?_)
    conv => whnf
    repeat' first | ((first|refine sN ?_|refine Dr.cons ?_|(refine Dr.nil ?_;refine drawIf (by kernel_rfl) ?_)|refine vN rfl ?_|refine Vc.draw rfl (by kernel_rfl) ?_|refine mkSl (by omega) (by omega) ?_);conv=>whnf) | (refine ifB_i (fun _=>?_) (fun _=>?_)<;>conv=>whnf) | ((first | refine ⟨_, impl_trtOkAll t parts s a, ?_⟩ | refine ixI (enc := rI) 0 (by omega) (by omega) ?_ | refine ⟨_, keeps_any a (t.Gives.getD s.toNat 0) h4 (by omega) parts (List.all_eq_true.1 h2), ?_⟩);conv=>whnf)
    · exfalso; simp_all
    · exact rB (by rw [any_all]; unfold trtKeeps; rw [hok, Bool.true_and]; rfl)
  · refine fn_okR (E := E0) E0_tab E0_ord (fn := Go.Proofs.Tryz.f295) (by kernel_rfl) (by kernel_rfl) (fun hb => ?_)
    conv => whnf
    repeat' first | ((first|refine sN ?_|refine Dr.cons ?_|(refine Dr.nil ?_;refine drawIf (by kernel_rfl) ?_)|refine vN rfl ?_|refine Vc.draw rfl (by kernel_rfl) ?_|refine mkSl (by omega) (by omega) ?_);conv=>whnf) | (refine ifB_i (fun _=>?_) (fun _=>?_)<;>conv=>whnf) | (refine ⟨_, impl_trtOkAll t parts s a, ?_⟩;conv=>whnf)
    · exact rB (by unfold trtKeeps; simp_all)
    · exfalso; simp_all
theorem impl_unpinned (acts : List (List Line)) (parts : List (List Int)) (p q r : Bool) (x y z : Int) : Sem P 296 [(.pure, .agg [sAs acts, sPs parts, sBs [p, q, r]]), (.pure, AI [x, y, z])] [] (B (unpinned [p, q, r] [x, y, z])) := by
  refine fn_okR (E := E0) E0_tab E0_ord (fn := Go.Proofs.Tryz.f296) (by kernel_rfl) (by kernel_rfl) (fun hb => ?_)
  conv => whnf
  (repeat' first | ((first|refine sN ?_|refine Dr.cons ?_|(refine Dr.nil ?_;refine drawIf (by kernel_rfl) ?_)|refine vN rfl ?_|refine Vc.draw rfl (by kernel_rfl) ?_|refine mkSl (by omega) (by omega) ?_);conv=>whnf))
  refine Vc.loop1 (fun (v : Nat) => v ≤ 3 ∧ (0 < v → (!p || decide (x = 0)) = true) ∧ (1 < v → (!q || decide (y = 0)) = true) ∧ (2 < v → (!r || decide (z = 0)) = true)) (fun v => updL [2, 7, 8] [(9, I v)] []) (fun v => 3 - v) 0 (by simp) ?_ (fun v hv => ?_)
  · repeat' (first|exact True.intro|((conv=>whnf);first|exact True.intro|refine ⟨by rfl, ?_⟩|refine ⟨by first|omega|(show (_ : Int) = _;first|omega|(dsimp only;omega)), ?_⟩ | refine ⟨?_, ?_⟩))
  · match v, hv with
    | 0, hv =>
      conv => whnf
      repeat' first | ((first|refine sN ?_|refine Dr.cons ?_|(refine Dr.nil ?_;refine drawIf (by kernel_rfl) ?_)|refine vN rfl ?_|refine Vc.draw rfl (by kernel_rfl) ?_|refine mkSl (by omega) (by omega) ?_);conv=>whnf) | (refine ifB_i (fun _=>?_) (fun _=>?_)<;>conv=>whnf) | ((first | refine ixK rfl ?_ | refine w64 (by omega) (by omega) ?_);conv=>whnf)
      all_goals first
        | exact rB (by simp_all [unpinned])
        | (refine ⟨1, by simp_all, by simp only; omega, ?_⟩; repeat' (first|exact True.intro|((conv=>whnf);first|exact True.intro|refine ⟨by rfl, ?_⟩|refine ⟨by first|omega|(show (_ : Int) = _;first|omega|(dsimp only;omega)), ?_⟩ | refine ⟨?_, ?_⟩)))
    | 1, hv =>
      conv => whnf
      repeat' first | ((first|refine sN ?_|refine Dr.cons ?_|(refine Dr.nil ?_;refine drawIf (by kernel_rfl) ?_)|refine vN rfl ?_|refine Vc.draw rfl (by kernel_rfl) ?_|refine mkSl (by omega) (by omega) ?_);conv=>whnf) | (refine ifB_i (fun _=>?_) (fun _=>?_)<;>conv=>whnf) | ((first | refine ixK rfl ?_ | refine w64 (by omega) (by omega) ?_);conv=>whnf)
      all_goals first
        | exact rB (by simp_all [unpinned])
        | (refine ⟨2, by simp_all, by simp only; omega, ?_⟩; repeat' (first|exact True.intro|((conv=>whnf);first|exact True.intro|refine ⟨by rfl, ?_⟩|refine ⟨by first|omega|(show (_ : Int) = _;first|omega|(dsimp only;omega)), ?_⟩ | refine ⟨?_, ?_⟩)))
    | 2, hv =>
      conv => whnf
      repeat' first | ((first|refine sN ?_|refine Dr.cons ?_|(refine Dr.nil ?_;refine drawIf (by kernel_rfl) ?_)|refine vN rfl ?_|refine Vc.draw rfl (by kernel_rfl) ?_|refine mkSl (by omega) (by omega) ?_);conv=>whnf) | (refine ifB_i (fun _=>?_) (fun _=>?_)<;>conv=>whnf) | ((first | refine ixK rfl ?_ | refine w64 (by omega) (by omega) ?_);conv=>whnf)
      all_goals first
        | exact rB (by simp_all [unpinned])
        | (refine ⟨3, by simp_all, by simp only; omega, ?_⟩; repeat' (first|exact True.intro|((conv=>whnf);first|exact True.intro|refine ⟨by rfl, ?_⟩|refine ⟨by first|omega|(show (_ : Int) = _;first|omega|(dsimp only;omega)), ?_⟩ | refine ⟨?_, ?_⟩)))
    | 3, hv =>
      conv => whnf
      (repeat' first | ((first|refine sN ?_|refine Dr.cons ?_|(refine Dr.nil ?_;refine drawIf (by kernel_rfl) ?_)|refine vN rfl ?_|refine Vc.draw rfl (by kernel_rfl) ?_|refine mkSl (by omega) (by omega) ?_);conv=>whnf))
      exact rB (by simp_all [unpinned])
theorem impl_keeps (acts : List (List Line)) (parts : List (List Int)) (p q r : Bool) (t : Treaty) (s : Int) (a : List Int) : Sem P 198 [(.pure, .agg [sAs acts, sPs parts, sBs [p, q, r]]), (.pure, .agg (aT t)), (.pure, I s), (.pure, AI a)] [] (B (trtKeeps t parts s a && unpinned [p, q, r] a)) := by
  by_cases hk : trtKeeps t parts s a = true
  · have ha : addedOk a = true := by unfold trtKeeps at hk; simp only [Bool.and_eq_true] at hk; exact hk.1.2
    obtain ⟨x, y, z, rfl⟩ := len3 (added_three ha).1
    refine fn_okR (E := E0) E0_tab E0_ord (fn := Go.Proofs.Tryz.f198) (by kernel_rfl) (by kernel_rfl) (fun hb => ?_)
    conv => whnf
    repeat' first | ((first|refine sN ?_|refine Dr.cons ?_|(refine Dr.nil ?_;refine drawIf (by kernel_rfl) ?_)|refine vN rfl ?_|refine Vc.draw rfl (by kernel_rfl) ?_|refine mkSl (by omega) (by omega) ?_);conv=>whnf) | (refine ifB_i (fun _=>?_) (fun _=>?_)<;>conv=>whnf) | ((first | refine ⟨_, impl_keepsT t parts s [x, y, z], ?_⟩ | refine ⟨_, impl_unpinned acts parts p q r x y z, ?_⟩);conv=>whnf)
    all_goals exact rB (by simp_all)
  · refine fn_okR (E := E0) E0_tab E0_ord (fn := Go.Proofs.Tryz.f198) (by kernel_rfl) (by kernel_rfl) (fun hb => ?_)
    conv => whnf
    repeat' first | ((first|refine sN ?_|refine Dr.cons ?_|(refine Dr.nil ?_;refine drawIf (by kernel_rfl) ?_)|refine vN rfl ?_|refine Vc.draw rfl (by kernel_rfl) ?_|refine mkSl (by omega) (by omega) ?_);conv=>whnf) | (refine ifB_i (fun _=>?_) (fun _=>?_)<;>conv=>whnf) | (refine ⟨_, impl_keepsT t parts s a, ?_⟩;conv=>whnf)
    · exfalso; simp_all
    · exact rB (by simp_all)
end Cc
end
section
namespace Go.Proofs
open Go.Shelf
def Tryz.lays166_ren : Go.Shelf.Ren := ⟨fun | 166 => 370 | 240 => 392 | 276 => 402 | n => n, fun | 0 => 0 | 3 => 3 | 4 => 4 | 5 => 5 | 9 => 9 | 20 => 20 | 37 => 22 | 70 => 389 | 72 => 391 | 75 => 393 | 80 => 396 | 164 => 415 | 77 => 394 | n => n, fun | n => n⟩
theorem Tryz.lays166 : Go.Proofs.Lays.n166 Tryz.prog Tryz.lays166_ren := {
  mixed := by kernel_rfl
  f166 := Tryz.func370.trans (congrArg some (by kernel_rfl))
  f240 := Tryz.func392.trans (congrArg some (by kernel_rfl))
  f276 := Tryz.func402.trans (congrArg some (by kernel_rfl))
  t0 := Tryz.underlying0
  a0 := Tryz.isAgg0
  z0 := Tryz.sizeOf0
  v0 := Tryz.zeroValue0
  t3 := Tryz.underlying3
  a3 := Tryz.isAgg3
  z3 := Tryz.sizeOf3
  v3 := Tryz.zeroValue3
  t4 := Tryz.underlying4
  a4 := Tryz.isAgg4
  z4 := Tryz.sizeOf4
  v4 := Tryz.zeroValue4
  t9 := Tryz.underlying9
  a9 := Tryz.isAgg9
  z9 := Tryz.sizeOf9
  v9 := Tryz.zeroValue9
  t20 := Tryz.underlying20
  a20 := Tryz.isAgg20
  z20 := Tryz.sizeOf20
  v20 := Tryz.zeroValue20
  t37 := Tryz.underlying22
  a37 := Tryz.isAgg22
  z37 := Tryz.sizeOf22
  v37 := Tryz.zeroValue22
  t70 := Tryz.underlying389
  a70 := Tryz.isAgg389
  z70 := Tryz.sizeOf389
  v70 := Tryz.zeroValue389
  t72 := Tryz.underlying391
  a72 := Tryz.isAgg391
  z72 := Tryz.sizeOf391
  v72 := Tryz.zeroValue391
  t75 := Tryz.underlying393
  a75 := Tryz.isAgg393
  z75 := Tryz.sizeOf393
  v75 := Tryz.zeroValue393
  t164 := Tryz.underlying415
  a164 := Tryz.isAgg415
  z164 := Tryz.sizeOf415
  v164 := Tryz.zeroValue415 }
theorem Tryz.Builder_Extra_166 : Builder.Extra Tryz.prog Tryz.lays166_ren := {
  sizeBuilder := by kernel_rfl
  liesBuilder := by kernel_rfl
  t5 := Tryz.underlying5
  a5 := Tryz.isAgg5
  z5 := Tryz.sizeOf5
  v5 := Tryz.zeroValue5
  infoByte := by kernel_rfl
  cellsByte := by kernel_rfl
  sizeByte := by kernel_rfl
  neB5 := by decide }
open Go.RowKit in
theorem Tryz.Builder_WriteString (B b : Nat) (bs : List Value) (s : ByteArray) (w : World) (h : Lib.IsBuilder 391 5 B b bs w) (hlen : bs.length + s.size ≤ 140737488355328) (hBw : B ≤ w.heap.size) :
    Calls Tryz.prog 370 #[.pointer (some ⟨b, 0, none⟩), .string s] w fun e w' => e = .returned (.tuple #[.int .i64 s.size, .nilIface]) ∧ (Lib.BuilderAt 391 5 B b (.pointer (some ⟨b, 0, none⟩)) (bs ++ Lib.strCells s) w' ∧ Below B w w') := Any.Builder_WriteString Tryz.lays166 Tryz.Builder_Extra_166 B b bs s w h hlen hBw
end Go.Proofs
end
section
namespace Go.AM
open Go Go.RowKit Go.Sort
def joinT (l : List Int) : List UInt8 := l.flatMap fun n => 32 :: Lib.itoa n
theorem joinT_take {l : List Int} {k : Nat} (h : k < l.length) : joinT (l.take (k + 1)) = joinT (l.take k) ++ (32 :: Lib.itoa (l.getD k 0)) := by
  rw [joinT, joinT, List.take_add_one, List.flatMap_append, List.getD_eq_getElem?_getD, List.getElem?_eq_getElem h]
  simp
theorem nDigits_pow : ∀ (k : Nat) {u : Nat}, u < 10 ^ (k + 1) → Lib.nDigits u ≤ k + 1
  | 0, u, h => by rw [Lib.nDigits_small (by simpa using h)]; exact Nat.le_refl _
  | k + 1, u, h => by
    by_cases h' : u < 10
    · rw [Lib.nDigits_small h']; omega
    · rw [Lib.nDigits_big h']
      have := nDigits_pow k (u := u / 10) (by rw [Nat.pow_succ] at h; omega)
      omega
theorem itoa_len {n : Int} (h : -9223372036854775808 ≤ n ∧ n ≤ 9223372036854775807) : (Lib.itoa n).length ≤ 21 := by
  unfold Lib.itoa
  split
  · rw [List.length_cons, Lib.decDigits_length]
    have := nDigits_pow 19 (u := n.natAbs) (by omega)
    omega
  · rw [Lib.decDigits_length]
    have := nDigits_pow 19 (u := n.toNat) (by omega)
    omega
theorem joinT_len : ∀ {l : List Int}, (∀ x ∈ l, -9223372036854775808 ≤ x ∧ x ≤ 9223372036854775807) → (joinT l).length ≤ l.length * 22
  | [], _ => by simp [joinT]
  | a :: r, h => by
    have h1 := itoa_len (h a (by simp))
    have h2 := joinT_len (l := r) fun x hx => h x (by simp [hx])
    have e : joinT (a :: r) = (32 :: Lib.itoa a) ++ joinT r := rfl
    rw [e, List.length_append, List.length_cons, List.length_cons]
    omega
theorem tab_below {w wr : World} (h : Lib.TabIs (P : Program) w "internal/strconv.uint64pow10" .u64 Lib.pow10Tab) (hb : Below w.heap.size w wr) : Lib.TabIs (P : Program) wr "internal/strconv.uint64pow10" .u64 Lib.pow10Tab := by
  unfold Lib.TabIs World.var? at *
  cases hg : (P : Program).globalNamed "internal/strconv.uint64pow10" with
  | none => rw [hg] at h; cases h
  | some g =>
    rw [hg] at h
    simp only [Option.bind_some] at h ⊢
    have hlt : g < w.heap.size := by
      by_cases hlt : g < w.heap.size
      · exact hlt
      · rw [Array.getElem?_eq_none (by omega)] at h; cases h
    rw [hb.block g hlt]
    exact h
theorem cell_lt {w : World} {p : Addr} {v : Value} (h : w.cell? p = some v) : p.block < w.heap.size := by
  by_cases hlt : p.block < w.heap.size
  · exact hlt
  · unfold World.cell? at h
    rw [Array.getElem?_eq_none (by omega)] at h
    cases h
theorem builder_grow {B b : Nat} {bs : List Value} {w : World} {T e : TypeId} (h : Lib.IsBuilder T e B b bs w) (k : Nat) (os : Array Obj) : Lib.IsBuilder T e B b bs (Go.Sort.grow (w.drewN k) os) := by
  have key : ∀ {p : Value}, Lib.BuilderAt T e B b p bs w → Lib.BuilderAt T e B b p bs (Go.Sort.grow (w.drewN k) os) := by
    intro p h
    have hlt := h.lt
    obtain ⟨h1, v, h2, h3, h4⟩ := h
    exact ⟨h1, v, by rw [Lib.heap_grow_old w k os b hlt]; exact h2, Lib.ownsRow_grow h3 k os, h4⟩
  rcases h with h | h
  · exact .inl (key h)
  · exact .inr (key h)
set_option maxHeartbeats 4000000 in
set_option maxRecDepth 1000000 in
theorem joined_walk (l : List Int) (a : Option Addr) (cap : Nat) (w : World) (hl : l.length ≤ 1000) (hbd : ∀ x ∈ l, -9223372036854775808 ≤ x ∧ x ≤ 9223372036854775807) (h0 : l ≠ [] → ∃ b o, a = some ⟨b, o, none⟩) (hc : ∀ b o, a = some ⟨b, o, none⟩ → ∀ j, j < l.length → w.cell? ⟨b, o + j, none⟩ = some (.int .i64 (l.getD j 0)))
    (htab : Lib.TabIs (P : Program) w "internal/strconv.uint64pow10" .u64 Lib.pow10Tab) :
    Calls Go.Proofs.Tryz.prog 339 #[.slice a l.length cap] w fun e w' => e = .returned (.string ⟨(joinT l).toArray⟩) ∧ Below w.heap.size w w' := by
  go_enter Go.Proofs.Tryz.func339, Go.Proofs.Tryz.ntmps339
  go_wp2
  go_loopw [8] (fun i wr => ∃ k : Nat, i = .int .i64 k ∧ k ≤ l.length ∧ Lib.IsBuilder 391 5 w.heap.size w.heap.size (Lib.byteCells (joinT (l.take k))) wr ∧ Below w.heap.size w wr) (fun i _ => l.length - (intOf i).toNat)
  case atStart =>
    exact ⟨0, rfl, Nat.zero_le _, Lib.fresh_isBuilder 391 5 w, (Below.refl _ w).alloc (Nat.le_refl _) _⟩
  case round =>
    obtain ⟨k, rfl, hk, hI, hbw⟩ := hrel
    have hsz : w.heap.size ≤ wr.heap.size := hbw.size
    by_cases hkl : k < l.length
    · obtain ⟨b, o, rfl⟩ := h0 (by intro e; subst e; simp at hkl)
      have hco := hc b o rfl k hkl
      have hcell : wr.cell? ⟨b, o + k, none⟩ = some (.int .i64 (l.getD k 0)) := by
        rw [hbw.cell (cell_lt hco)]; exact hco
      have hgd : l.getD k 0 = l[k] := by rw [List.getD_eq_getElem?_getD, List.getElem?_eq_getElem hkl]; rfl
      rw [hgd] at hcell
      have hn := hbd l[k] (List.getElem_mem hkl)
      have ht := tab_below htab hbw
      have hlen := joinT_len (l := l.take k) fun x hx => hbd x (List.mem_of_mem_take hx)
      rw [List.length_take, Nat.min_eq_left hk] at hlen
      have hil := itoa_len hn
      have hcat : (⟨#[32]⟩ : ByteArray) ++ ⟨(Lib.itoa l[k]).toArray⟩ = ⟨(32 :: Lib.itoa l[k]).toArray⟩ := by
        apply ByteArray.ext
        simp
      go_wp2_with (go_at_call 371; refine (Go.Proofs.Tryz.strconv_Itoa l[k] hn.1 hn.2 wr ht).mono ?_)
      rintro e W1 ⟨rfl, k1, os, rfl⟩
      have hI1 : Lib.IsBuilder 391 5 w.heap.size w.heap.size (Lib.byteCells (joinT (l.take k))) (grow (wr.drewN k1) os) := builder_grow hI k1 os
      have hb1 : Below w.heap.size wr (grow (wr.drewN k1) os) := Lib.below_grow _ _ hsz _ _
      have hs1 : w.heap.size ≤ (grow (wr.drewN k1) os).heap.size := Nat.le_trans hsz hb1.size
      generalize grow (wr.drewN k1) os = W at hI1 hb1 hs1 ⊢
      go_wp2_with (go_at_call 370; refine (Go.Proofs.Tryz.Builder_WriteString w.heap.size w.heap.size _ _ _ hI1 ?_ hs1).mono ?_)
      · rw [Lib.byteCells_length]
        show _ + ((32 :: Lib.itoa l[k]).toArray).size ≤ _
        rw [List.size_toArray, List.length_cons]
        omega
      · rintro e W1 ⟨rfl, h1, b1⟩
        rw [Lib.strCells_toArray, ← Lib.byteCells_append] at h1
        have e1 : joinT (l.take k) ++ (32 :: Lib.itoa l[k]) = joinT (l.take (k + 1)) := by rw [joinT_take hkl, hgd]
        rw [e1] at h1
        go_wp2
        go_roundw
        case rel => exact ⟨k + 1, by go_num, by omega, .inr h1, (hbw.trans hb1).trans b1⟩
        case measure => simp [intOf]; omega
    · have e : k = l.length := by omega
      subst e
      rw [List.take_length] at hI
      go_wp2_with (go_at_call 372; refine (Go.Proofs.Tryz.Builder_String_any w.heap.size w.heap.size (joinT l) _ hI hsz).mono ?_)
      rintro e W1 ⟨rfl, b1⟩
      go_wp2
      go_ret
      exact ⟨rfl, hbw.trans b1⟩
theorem named_lt {P : Program} {n : String} {g : Nat} (h : P.globalNamed n = some g) : g < P.globals.size := by
  unfold Program.globalNamed at h
  split at h
  · rename_i g' e
    obtain rfl := Option.some.inj h
    have : g' ∈ (List.range P.globals.size).filter fun g => (P.globals[g]?).any (·.name == n) := by rw [e]; simp
    exact List.mem_range.1 (List.mem_filter.1 this).1
  · cases h
theorem rd_fact {w : World} {Z : Nat → Prop} (h : GOk P w Z) : Lib.TabIs (P : Program) w "internal/strconv.uint64pow10" .u64 Lib.pow10Tab := by
  obtain ⟨w0, hf, hz⟩ := h
  have hn : (P : Program).globalNamed "internal/strconv.uint64pow10" ≠ none := by
    have e : ((P : Program).globalNamed "internal/strconv.uint64pow10").isSome = true := by kernel_rfl
    intro h; rw [h] at e; cases e
  have h0 := hf.2.1 hn
  unfold Lib.TabIs World.var? at *
  cases hg : (P : Program).globalNamed "internal/strconv.uint64pow10" with
  | none => exact absurd hg hn
  | some g =>
    rw [hg] at h0
    simp only [Option.bind_some] at h0 ⊢
    have hlt : g < (P : Program).globals.size := named_lt hg
    rw [(hz g hlt).2]
    exact h0
theorem impl_joined (l : List Int) (hl : l.length ≤ 1000) (hbd : ∀ x ∈ l, -9223372036854775808 ≤ x ∧ x ≤ 9223372036854775807) : Sem P 339 [(.pure, .one (.sl 3 (ints l)))] [] (.one (.prim (.string ⟨(joinT l).toArray⟩))) := by
  refine sem_pure (by refine ⟨Go.Proofs.Tryz.f339, ?_, ?_, ?_⟩ <;> kernel_rfl) (by simp) fun w Z vals hG hI hZ => ?_
  obtain ⟨x, rfl, hx⟩ := ins_one hI
  obtain ⟨a, cap, rfl, h0, hc⟩ := rd_ints hx
  refine (joined_walk l a cap w hl hbd h0 hc (rd_fact hG)).mono ?_
  rintro e w' ⟨rfl, hb⟩
  exact ⟨_, [], rfl, hb, fun Z' => .one (.prim rfl), by simp, by simp⟩
end Go.AM
end
section
namespace Cc
open Go Go.AM
set_option maxRecDepth 100000
set_option maxHeartbeats 4000000
abbrev eT (l : List UInt8) : AV := .prim (.string ⟨l.toArray⟩)
abbrev T (l : List UInt8) : TV := .one (eT l)
theorem w8 {e : Int} {k : Int → Prop} (h1 : 0 ≤ e) (h2 : e ≤ 255) (h : k e) : ∃ c, IntKind.u8.wrap e = c ∧ k c := ⟨e, by simp [IntKind.wrap, IntKind.signed, IntKind.bits]; omega, h⟩
theorem cat_b (a b : List UInt8) : (⟨a.toArray⟩ : ByteArray) ++ ⟨b.toArray⟩ = ⟨(a ++ b).toArray⟩ := by
  apply ByteArray.ext
  simp
theorem catT {a b : List UInt8} {q : Prop} (h : a.length + b.length ≤ 9000000000000000000) (hq : q) : (((⟨a.toArray⟩ : ByteArray).size + (⟨b.toArray⟩ : ByteArray).size : Nat) : Int) ≤ 9223372036854775807 ∧ q := by
  refine ⟨?_, hq⟩
  show ((a.toArray.size + b.toArray.size : Nat) : Int) ≤ _
  simp only [List.size_toArray]; omega
theorem byteRow {n : Int} (h : 0 ≤ n ∧ n ≤ 255) : [[AV.prim (Value.int .u8 n)]] = bytesRows [UInt8.ofNat n.toNat] := by
  have e : ((UInt8.ofNat n.toNat).toNat : Int) = n := by simp; omega
  simp only [bytesRows, List.map_cons, List.map_nil, e]
theorem decDigits_big {u : Nat} (h : ¬ u < 10) : Lib.decDigits u = Lib.decDigits (u / 10) ++ [UInt8.ofNat (48 + u % 10)] := by rw [Lib.decDigits, dif_neg h]
theorem nDigits_le (u : Nat) : Lib.nDigits u ≤ u + 1 := by
  induction u using Nat.strongRecOn with
  | _ u ih =>
    by_cases h : u < 10
    · rw [Lib.nDigits_small h]; omega
    · rw [Lib.nDigits_big h]; have := ih (u / 10) (by omega); omega
theorem spec_digits0 (n0 : Int) (h0 : 0 ≤ n0) (h1 : n0 ≤ 1000000000000000) : Sem P 236 [(.pure, I n0)] [] (T (Lib.decDigits n0.toNat)) := by
  refine fn_okR (E := E0) E0_tab E0_ord (fn := Go.Proofs.Tryz.f236) (by kernel_rfl) (by kernel_rfl) (fun hb => ?_)
  conv => whnf
  (repeat' first | ((first|refine sN ?_|refine Dr.cons ?_|(refine Dr.nil ?_;refine drawIf (by kernel_rfl) ?_)|refine vN rfl ?_|refine Vc.draw rfl (by kernel_rfl) ?_|refine mkSl (by omega) (by omega) ?_);conv=>whnf))
  refine ifB_i (fun h => ?_) (fun h => ?_)
  · exfalso; simp at h; omega
  · conv => whnf
    (repeat' first | ((first|refine sN ?_|refine Dr.cons ?_|(refine Dr.nil ?_;refine drawIf (by kernel_rfl) ?_)|refine vN rfl ?_|refine Vc.draw rfl (by kernel_rfl) ?_|refine mkSl (by omega) (by omega) ?_);conv=>whnf))
    refine Vc.loop2 (fun (n : Int) (l : List UInt8) => 0 ≤ n ∧ n ≤ n0 ∧ Lib.decDigits n.toNat ++ l = Lib.decDigits n0.toNat) (fun n l => updL [2, 22, 23, 24, 25, 26, 27, 28] [(0, I n), (3, T l)] []) (fun n _ => n.toNat) n0 [] ⟨h0, by omega, by simp⟩ ?_ (fun n l hi => ?_)
    · repeat' (first | exact True.intro | ((conv => whnf); first | exact True.intro | refine ⟨by rfl, ?_⟩ | refine ⟨?_, ?_⟩))
    · obtain ⟨g0, g1, g2⟩ := hi
      have hlen : l.length ≤ n0.toNat + 1 := by
        have e := congrArg List.length g2
        rw [List.length_append, Lib.decDigits_length, Lib.decDigits_length] at e
        have := nDigits_le n0.toNat
        omega
      conv => whnf
      (repeat' first | ((first|refine sN ?_|refine Dr.cons ?_|(refine Dr.nil ?_;refine drawIf (by kernel_rfl) ?_)|refine vN rfl ?_|refine Vc.draw rfl (by kernel_rfl) ?_|refine mkSl (by omega) (by omega) ?_);conv=>whnf))
      refine ifB_d (fun g => ?_) (fun g => ?_)
      all_goals conv => whnf
      · repeat' first | ((first|refine sN ?_|refine Dr.cons ?_|(refine Dr.nil ?_;refine drawIf (by kernel_rfl) ?_)|refine vN rfl ?_|refine Vc.draw rfl (by kernel_rfl) ?_|refine mkSl (by omega) (by omega) ?_);conv=>whnf) | (refine ifB_i (fun _=>?_) (fun _=>?_)<;>conv=>whnf) | ((first | refine r64 (by omega) (by omega) ?_ | refine w64 (by omega) (by omega) ?_ | refine w8 (by omega) (by omega) ?_ | refine ⟨_, byteRow (by omega), ?_⟩);conv=>whnf) | (refine catT (by simp; omega) ?_; rw [cat_b];conv=>whnf) | (refine q64 (by omega) (by omega) (by omega) ?_;conv=>whnf)
        refine ⟨n / 10, [UInt8.ofNat (48 + n % 10).toNat] ++ l, ⟨by omega, by omega, ?_⟩, by simp only; omega, ?_⟩
        · rw [← g2, decDigits_big (u := n.toNat) (by omega), List.append_assoc]
          have e1 : (n / 10).toNat = n.toNat / 10 := by omega
          have e2 : (48 + n % 10).toNat = 48 + n.toNat % 10 := by omega
          rw [e1, e2]
        · repeat' (first | exact True.intro | ((conv => whnf); first | exact True.intro | refine ⟨by rfl, ?_⟩ | refine ⟨?_, ?_⟩))
      · repeat' first | ((first|refine sN ?_|refine Dr.cons ?_|(refine Dr.nil ?_;refine drawIf (by kernel_rfl) ?_)|refine vN rfl ?_|refine Vc.draw rfl (by kernel_rfl) ?_|refine mkSl (by omega) (by omega) ?_);conv=>whnf) | (refine ifB_i (fun _=>?_) (fun _=>?_)<;>conv=>whnf) | ((first | refine w64 (by omega) (by omega) ?_ | refine w8 (by omega) (by omega) ?_ | refine ⟨_, byteRow (by omega), ?_⟩);conv=>whnf) | (refine catT (by simp; omega) ?_; rw [cat_b];conv=>whnf)
        have e : n.toNat < 10 := by omega
        rw [Lib.decDigits_one e] at g2
        have e2 : (48 + n).toNat = 48 + n.toNat := by omega
        exact ⟨by rw [e2, g2], rfl⟩
theorem spec_digits (n : Int) (h0 : -1000000000000000 ≤ n) (h1 : n ≤ 1000000000000000) : Sem P 236 [(.pure, I n)] [] (T (Lib.itoa n)) := by
  by_cases hn : 0 ≤ n
  · have e : Lib.itoa n = Lib.decDigits n.toNat := by rw [Lib.itoa, if_neg (by omega)]
    rw [e]; exact spec_digits0 n hn h1
  · have e : Lib.itoa n = 45 :: Lib.decDigits (0 - n).toNat := by
      rw [Lib.itoa, if_pos (by omega)]
      congr 2; omega
    have hl : (Lib.decDigits (0 - n).toNat).length ≤ 21 := by
      rw [Lib.decDigits_length]
      have := nDigits_pow 19 (u := (0 - n).toNat) (by omega)
      omega
    rw [e]
    refine fn_okR (E := E0) E0_tab E0_ord (fn := Go.Proofs.Tryz.f236) (by kernel_rfl) (by kernel_rfl) (fun hb => ?_)
    conv => whnf
    (repeat' first | ((first|refine sN ?_|refine Dr.cons ?_|(refine Dr.nil ?_;refine drawIf (by kernel_rfl) ?_)|refine vN rfl ?_|refine Vc.draw rfl (by kernel_rfl) ?_|refine mkSl (by omega) (by omega) ?_);conv=>whnf))
    refine ifB_i (fun h => ?_) (fun h => ?_)
    · conv => whnf
      repeat' first | ((first|refine sN ?_|refine Dr.cons ?_|(refine Dr.nil ?_;refine drawIf (by kernel_rfl) ?_)|refine vN rfl ?_|refine Vc.draw rfl (by kernel_rfl) ?_|refine mkSl (by omega) (by omega) ?_);conv=>whnf) | (refine ifB_i (fun _=>?_) (fun _=>?_)<;>conv=>whnf) | ((first | refine w64 (by omega) (by omega) ?_ | refine ⟨_, spec_digits0 (0 - n) (by omega) (by omega), ?_⟩);conv=>whnf) | (refine catT (a := [45]) (by rw [List.length_singleton]; omega) ?_; rw [cat_b [45]];conv=>whnf)
      exact ⟨rfl, rfl⟩
    · exfalso; simp at h; omega
def codeT (n : Int) : List UInt8 := if n = 1 then [100, 111, 110, 101] else if n = 2 then [115, 116, 111, 112, 112, 101, 100] else [111, 118, 101, 114]
def resT (r : Rslt) : List UInt8 := if resOk r then codeT r.Code ++ joinT r.Tells else []
theorem resOk_iff {r : Rslt} : resOk r = true ↔ (1 ≤ r.Code ∧ r.Code ≤ 3) ∧ (r.Code = 1 ∨ r.Tells = []) ∧ r.Tells.length ≤ 6 ∧ within r.Tells r.Tells.length 999999999999 = true := by
  simp [resOk, inB_iff, and_assoc]
theorem tells_bd {r : Rslt} (h : resOk r = true) : ∀ x ∈ r.Tells, -999999999999 ≤ x ∧ x ≤ 999999999999 := (within_iff.1 (resOk_iff.1 h).2.2.2).2
theorem codeT_len (n : Int) : (codeT n).length ≤ 7 := by unfold codeT; split <;> (try split) <;> decide
theorem impl_words : Sem P 338 [] [] (.one (.sl 9 [[eT []], [eT [100, 111, 110, 101]], [eT [115, 116, 111, 112, 112, 101, 100]], [eT [111, 118, 101, 114]]])) := by
  refine fn_okR (E := E0) E0_tab E0_ord (fn := Go.Proofs.Tryz.f338) (by kernel_rfl) (by kernel_rfl) (fun hb => ?_)
  conv => whnf
  repeat' first | ((first|refine sN ?_|refine Dr.cons ?_|(refine Dr.nil ?_;refine drawIf (by kernel_rfl) ?_)|refine vN rfl ?_|refine Vc.draw rfl (by kernel_rfl) ?_|refine mkSl (by omega) (by omega) ?_);conv=>whnf) | (refine ifB_i (fun _=>?_) (fun _=>?_)<;>conv=>whnf)
  exact ⟨rfl, rfl⟩
theorem impl_resText (r : Rslt) : Sem P 282 [(.pure, .agg (aR r))] [] (T (resT r)) := by
  by_cases hr : resOk r = true
  · have hb3 := tells_bd hr
    have e : resT r = codeT r.Code ++ joinT r.Tells := by rw [resT, if_pos hr]
    rw [e]
    obtain ⟨⟨h1, h2⟩, h3, h4, h5⟩ := resOk_iff.1 hr
    obtain ⟨code, tells⟩ := r
    simp only at h1 h2 h3 h4 h5 hb3 ⊢
    have hj := joinT_len (l := tells) fun x hx => by have := hb3 x hx; omega
    have lt := ints_len tells
    rw [← lt] at h5
    have hc : code = 1 ∨ code = 2 ∨ code = 3 := by omega
    rcases hc with rfl | rfl | rfl
    all_goals
      refine fn_okR (E := E0) E0_tab E0_ord (fn := Go.Proofs.Tryz.f282) (by kernel_rfl) (by kernel_rfl) (fun hb => ?_)
      conv => whnf
      repeat' first | ((first|refine sN ?_|refine Dr.cons ?_|(refine Dr.nil ?_;refine drawIf (by kernel_rfl) ?_)|refine vN rfl ?_|refine Vc.draw rfl (by kernel_rfl) ?_|refine mkSl (by omega) (by omega) ?_);conv=>whnf) | (refine ifB_i (fun _=>?_) (fun _=>?_)<;>conv=>whnf) | ((first | refine ⟨_, impl_in _ _ _, ?_⟩ | refine ⟨_, impl_within tells (ints tells).length _ (by omega), ?_⟩ | refine ⟨_, impl_words, ?_⟩);conv=>whnf) | (refine ⟨_, impl_joined tells (by omega) (fun x hx => by have := hb3 x hx; omega), ?_⟩;conv=>whnf) | (refine ixC (by dsimp only; decide) rfl ?_;conv=>whnf) | (refine catT (by simp; omega) ?_; rw [cat_b];conv=>whnf)
      all_goals first
        | exact ⟨rfl, rfl⟩
        | (exfalso; simp_all; done)
        | (exfalso; simp_all; omega)
  · have e : resT r = [] := by rw [resT, if_neg hr]
    rw [e]
    refine fn_okR (E := E0) E0_tab E0_ord (fn := Go.Proofs.Tryz.f282) (by kernel_rfl) (by kernel_rfl) (fun hb => ?_)
    have lt := ints_len r.Tells
    conv => whnf
    repeat' first | ((first|refine sN ?_|refine Dr.cons ?_|(refine Dr.nil ?_;refine drawIf (by kernel_rfl) ?_)|refine vN rfl ?_|refine Vc.draw rfl (by kernel_rfl) ?_|refine mkSl (by omega) (by omega) ?_);conv=>whnf) | (refine ifB_i (fun _=>?_) (fun _=>?_)<;>conv=>whnf) | ((first | refine ⟨_, impl_in _ _ _, ?_⟩ | refine ⟨_, impl_within r.Tells (ints r.Tells).length _ (by omega), ?_⟩);conv=>whnf)
    all_goals first
      | exact ⟨rfl, rfl⟩
      | (exfalso; refine hr (resOk_iff.2 ?_); simp_all [inB_iff]; done)
      | (exfalso; refine hr (resOk_iff.2 ?_); simp_all [inB_iff]; omega)
theorem text_ne (l : List UInt8) : (!((⟨l.toArray⟩ : ByteArray).toList == (⟨#[]⟩ : ByteArray).toList)) = !l.isEmpty := by
  rw [ByteArray.toList_mk, show (⟨#[]⟩ : ByteArray) = ⟨([] : List UInt8).toArray⟩ from rfl, ByteArray.toList_mk]
  cases l <;> rfl
theorem resT_ne (r : Rslt) : (!(resT r).isEmpty) = resOk r := by
  unfold resT
  cases h : resOk r
  · rfl
  · simp only [if_true]
    unfold codeT
    split <;> (try split) <;> rfl
theorem impl_resOk (r : Rslt) : Sem P 179 [(.pure, .agg (aR r))] [] (B (resOk r)) := by
  refine fn_okR (E := E0) E0_tab E0_ord (fn := Go.Proofs.Tryz.f179) (by kernel_rfl) (by kernel_rfl) (fun hb => ?_)
  conv => whnf
  repeat' first | ((first|refine sN ?_|refine Dr.cons ?_|(refine Dr.nil ?_;refine drawIf (by kernel_rfl) ?_)|refine vN rfl ?_|refine Vc.draw rfl (by kernel_rfl) ?_|refine mkSl (by omega) (by omega) ?_);conv=>whnf) | (refine ifB_i (fun _=>?_) (fun _=>?_)<;>conv=>whnf) | (refine ⟨_, impl_resText r, ?_⟩;conv=>whnf)
  exact rB (by rw [← resT_ne, ← text_ne])
theorem spec_resText (r : Rslt) : Sem P 133 [(.pure, .agg (aR r))] [] (T (resT r)) := by
  by_cases hr : resOk r = true
  · have hb3 := tells_bd hr
    have e : resT r = codeT r.Code ++ joinT r.Tells := by rw [resT, if_pos hr]
    rw [e]
    obtain ⟨⟨h1, h2⟩, h3, h4, h5⟩ := resOk_iff.1 hr
    obtain ⟨code, tells⟩ := r
    simp only at h1 h2 h3 h4 h5 hb3 ⊢
    have lt := ints_len tells
    rw [← lt] at h5
    have hc : code = 1 ∨ code = 2 ∨ code = 3 := by omega
    rcases hc with rfl | rfl | rfl
    · refine fn_okR (E := E0) E0_tab E0_ord (fn := Go.Proofs.Tryz.f133) (by kernel_rfl) (by kernel_rfl) (fun hb => ?_)
      conv => whnf
      repeat' first | ((first|refine sN ?_|refine Dr.cons ?_|(refine Dr.nil ?_;refine drawIf (by kernel_rfl) ?_)|refine vN rfl ?_|refine Vc.draw rfl (by kernel_rfl) ?_|refine mkSl (by omega) (by omega) ?_);conv=>whnf) | (refine ifB_i (fun _=>?_) (fun _=>?_)<;>conv=>whnf) | ((first | refine ⟨_, spec_in _ _ _, ?_⟩ | refine ⟨_, spec_all tells (ints tells).length _ (by omega), ?_⟩ | refine rwC rfl ?_);conv=>whnf) | (refine ioN (by dsimp only; decide) (by dsimp only; decide) ?_;conv=>whnf)
      all_goals first
        | (exfalso; simp_all; done)
        | (exfalso; simp_all; omega)
        | skip
      refine Vc.loop2 (fun (i : Nat) (l : List UInt8) => i ≤ tells.length ∧ l = codeT 1 ++ joinT (tells.take i)) (fun i l => updL [1, 2, 58] [(5, I i), (4, T l)] []) (fun i _ => tells.length - i) 0 (codeT 1) ⟨by omega, by simp [joinT]⟩ ?_ (fun i l hi => ?_)
      · repeat' (first | exact True.intro | ((conv => whnf); first | exact True.intro | refine ⟨by rfl, ?_⟩ | refine ⟨?_, ?_⟩))
      · obtain ⟨hi, rfl⟩ := hi
        have hj := joinT_len (l := tells.take i) fun x hx => by have := hb3 x (List.mem_of_mem_take hx); omega
        rw [List.length_take, Nat.min_eq_left hi] at hj
        have hw := codeT_len 1
        conv => whnf
        (repeat' first | ((first|refine sN ?_|refine Dr.cons ?_|(refine Dr.nil ?_;refine drawIf (by kernel_rfl) ?_)|refine vN rfl ?_|refine Vc.draw rfl (by kernel_rfl) ?_|refine mkSl (by omega) (by omega) ?_);conv=>whnf))
        refine ifB_d (fun g => ?_) (fun g => ?_)
        all_goals conv => whnf
        · have hin : i < tells.length := by simp only at g; omega
          have hm := hb3 (tells.getD i 0) (by rw [List.getD_eq_getElem?_getD, List.getElem?_eq_getElem hin]; exact List.getElem_mem hin)
          have hil := itoa_len (n := tells.getD i 0) (by omega)
          repeat' first | ((first|refine sN ?_|refine Dr.cons ?_|(refine Dr.nil ?_;refine drawIf (by kernel_rfl) ?_)|refine vN rfl ?_|refine Vc.draw rfl (by kernel_rfl) ?_|refine mkSl (by omega) (by omega) ?_);conv=>whnf) | (refine ifB_i (fun _=>?_) (fun _=>?_)<;>conv=>whnf) | (with_reducible refine catT (b := [32]) ?_ ?_; (simp only [List.length_append, List.length_singleton]; omega); rw [cat_b _ [32]];conv=>whnf) | (with_reducible refine catT ?_ ?_; (simp only [List.length_append, List.length_singleton]; omega); rw [cat_b];conv=>whnf) | ((first | refine w64 (by first | omega | (dsimp only; omega)) (by first | omega | (dsimp only; omega)) ?_ | refine ⟨_, spec_digits (tells.getD i 0) (by omega) (by omega), ?_⟩ | refine ixN (enc := rI) (L := tells) 0 hin ?_);conv=>whnf)
          refine ⟨i + 1, codeT 1 ++ joinT (tells.take i) ++ [32] ++ Lib.itoa (tells.getD i 0), ⟨by omega, by rw [joinT_take hin]; simp⟩, by simp only; omega, ?_⟩
          repeat' (first | exact True.intro | ((conv => whnf); first | exact True.intro | refine ⟨by rfl, ?_⟩ | refine ⟨?_, ?_⟩))
        · repeat' first | ((first|refine sN ?_|refine Dr.cons ?_|(refine Dr.nil ?_;refine drawIf (by kernel_rfl) ?_)|refine vN rfl ?_|refine Vc.draw rfl (by kernel_rfl) ?_|refine mkSl (by omega) (by omega) ?_);conv=>whnf) | (refine ifB_i (fun _=>?_) (fun _=>?_)<;>conv=>whnf)
          have e : i = tells.length := by simp only at g; omega
          subst e
          exact ⟨by rw [List.take_length], rfl⟩
    · refine fn_okR (E := E0) E0_tab E0_ord (fn := Go.Proofs.Tryz.f133) (by kernel_rfl) (by kernel_rfl) (fun hb => ?_)
      conv => whnf
      repeat' first | ((first|refine sN ?_|refine Dr.cons ?_|(refine Dr.nil ?_;refine drawIf (by kernel_rfl) ?_)|refine vN rfl ?_|refine Vc.draw rfl (by kernel_rfl) ?_|refine mkSl (by omega) (by omega) ?_);conv=>whnf) | (refine ifB_i (fun _=>?_) (fun _=>?_)<;>conv=>whnf) | ((first | refine ⟨_, spec_in _ _ _, ?_⟩ | refine ⟨_, spec_all tells (ints tells).length _ (by omega), ?_⟩ | refine rwC rfl ?_);conv=>whnf) | (refine ioN (by dsimp only; decide) (by dsimp only; decide) ?_;conv=>whnf)
      all_goals first
        | (exfalso; simp_all; done)
        | (exfalso; simp_all; omega)
        | skip
      refine Vc.loop2 (fun (i : Nat) (l : List UInt8) => i ≤ tells.length ∧ l = codeT 2 ++ joinT (tells.take i)) (fun i l => updL [1, 2, 58] [(5, I i), (4, T l)] []) (fun i _ => tells.length - i) 0 (codeT 2) ⟨by omega, by simp [joinT]⟩ ?_ (fun i l hi => ?_)
      · repeat' (first | exact True.intro | ((conv => whnf); first | exact True.intro | refine ⟨by rfl, ?_⟩ | refine ⟨?_, ?_⟩))
      · obtain ⟨hi, rfl⟩ := hi
        have hj := joinT_len (l := tells.take i) fun x hx => by have := hb3 x (List.mem_of_mem_take hx); omega
        rw [List.length_take, Nat.min_eq_left hi] at hj
        have hw := codeT_len 2
        conv => whnf
        (repeat' first | ((first|refine sN ?_|refine Dr.cons ?_|(refine Dr.nil ?_;refine drawIf (by kernel_rfl) ?_)|refine vN rfl ?_|refine Vc.draw rfl (by kernel_rfl) ?_|refine mkSl (by omega) (by omega) ?_);conv=>whnf))
        refine ifB_d (fun g => ?_) (fun g => ?_)
        all_goals conv => whnf
        · have hin : i < tells.length := by simp only at g; omega
          have hm := hb3 (tells.getD i 0) (by rw [List.getD_eq_getElem?_getD, List.getElem?_eq_getElem hin]; exact List.getElem_mem hin)
          have hil := itoa_len (n := tells.getD i 0) (by omega)
          repeat' first | ((first|refine sN ?_|refine Dr.cons ?_|(refine Dr.nil ?_;refine drawIf (by kernel_rfl) ?_)|refine vN rfl ?_|refine Vc.draw rfl (by kernel_rfl) ?_|refine mkSl (by omega) (by omega) ?_);conv=>whnf) | (refine ifB_i (fun _=>?_) (fun _=>?_)<;>conv=>whnf) | (with_reducible refine catT (b := [32]) ?_ ?_; (simp only [List.length_append, List.length_singleton]; omega); rw [cat_b _ [32]];conv=>whnf) | (with_reducible refine catT ?_ ?_; (simp only [List.length_append, List.length_singleton]; omega); rw [cat_b];conv=>whnf) | ((first | refine w64 (by first | omega | (dsimp only; omega)) (by first | omega | (dsimp only; omega)) ?_ | refine ⟨_, spec_digits (tells.getD i 0) (by omega) (by omega), ?_⟩ | refine ixN (enc := rI) (L := tells) 0 hin ?_);conv=>whnf)
          refine ⟨i + 1, codeT 2 ++ joinT (tells.take i) ++ [32] ++ Lib.itoa (tells.getD i 0), ⟨by omega, by rw [joinT_take hin]; simp⟩, by simp only; omega, ?_⟩
          repeat' (first | exact True.intro | ((conv => whnf); first | exact True.intro | refine ⟨by rfl, ?_⟩ | refine ⟨?_, ?_⟩))
        · repeat' first | ((first|refine sN ?_|refine Dr.cons ?_|(refine Dr.nil ?_;refine drawIf (by kernel_rfl) ?_)|refine vN rfl ?_|refine Vc.draw rfl (by kernel_rfl) ?_|refine mkSl (by omega) (by omega) ?_);conv=>whnf) | (refine ifB_i (fun _=>?_) (fun _=>?_)<;>conv=>whnf)
          have e : i = tells.length := by simp only at g; omega
          subst e
          exact ⟨by rw [List.take_length], rfl⟩
    · refine fn_okR (E := E0) E0_tab E0_ord (fn := Go.Proofs.Tryz.f133) (by kernel_rfl) (by kernel_rfl) (fun hb => ?_)
      conv => whnf
      repeat' first | ((first|refine sN ?_|refine Dr.cons ?_|(refine Dr.nil ?_;refine drawIf (by kernel_rfl) ?_)|refine vN rfl ?_|refine Vc.draw rfl (by kernel_rfl) ?_|refine mkSl (by omega) (by omega) ?_);conv=>whnf) | (refine ifB_i (fun _=>?_) (fun _=>?_)<;>conv=>whnf) | ((first | refine ⟨_, spec_in _ _ _, ?_⟩ | refine ⟨_, spec_all tells (ints tells).length _ (by omega), ?_⟩ | refine rwC rfl ?_);conv=>whnf) | (refine ioN (by dsimp only; decide) (by dsimp only; decide) ?_;conv=>whnf)
      all_goals first
        | (exfalso; simp_all; done)
        | (exfalso; simp_all; omega)
        | skip
      refine Vc.loop2 (fun (i : Nat) (l : List UInt8) => i ≤ tells.length ∧ l = codeT 3 ++ joinT (tells.take i)) (fun i l => updL [1, 2, 58] [(5, I i), (4, T l)] []) (fun i _ => tells.length - i) 0 (codeT 3) ⟨by omega, by simp [joinT]⟩ ?_ (fun i l hi => ?_)
      · repeat' (first | exact True.intro | ((conv => whnf); first | exact True.intro | refine ⟨by rfl, ?_⟩ | refine ⟨?_, ?_⟩))
      · obtain ⟨hi, rfl⟩ := hi
        have hj := joinT_len (l := tells.take i) fun x hx => by have := hb3 x (List.mem_of_mem_take hx); omega
        rw [List.length_take, Nat.min_eq_left hi] at hj
        have hw := codeT_len 3
        conv => whnf
        (repeat' first | ((first|refine sN ?_|refine Dr.cons ?_|(refine Dr.nil ?_;refine drawIf (by kernel_rfl) ?_)|refine vN rfl ?_|refine Vc.draw rfl (by kernel_rfl) ?_|refine mkSl (by omega) (by omega) ?_);conv=>whnf))
        refine ifB_d (fun g => ?_) (fun g => ?_)
        all_goals conv => whnf
        · have hin : i < tells.length := by simp only at g; omega
          have hm := hb3 (tells.getD i 0) (by rw [List.getD_eq_getElem?_getD, List.getElem?_eq_getElem hin]; exact List.getElem_mem hin)
          have hil := itoa_len (n := tells.getD i 0) (by omega)
          repeat' first | ((first|refine sN ?_|refine Dr.cons ?_|(refine Dr.nil ?_;refine drawIf (by kernel_rfl) ?_)|refine vN rfl ?_|refine Vc.draw rfl (by kernel_rfl) ?_|refine mkSl (by omega) (by omega) ?_);conv=>whnf) | (refine ifB_i (fun _=>?_) (fun _=>?_)<;>conv=>whnf) | (with_reducible refine catT (b := [32]) ?_ ?_; (simp only [List.length_append, List.length_singleton]; omega); rw [cat_b _ [32]];conv=>whnf) | (with_reducible refine catT ?_ ?_; (simp only [List.length_append, List.length_singleton]; omega); rw [cat_b];conv=>whnf) | ((first | refine w64 (by first | omega | (dsimp only; omega)) (by first | omega | (dsimp only; omega)) ?_ | refine ⟨_, spec_digits (tells.getD i 0) (by omega) (by omega), ?_⟩ | refine ixN (enc := rI) (L := tells) 0 hin ?_);conv=>whnf)
          refine ⟨i + 1, codeT 3 ++ joinT (tells.take i) ++ [32] ++ Lib.itoa (tells.getD i 0), ⟨by omega, by rw [joinT_take hin]; simp⟩, by simp only; omega, ?_⟩
          repeat' (first | exact True.intro | ((conv => whnf); first | exact True.intro | refine ⟨by rfl, ?_⟩ | refine ⟨?_, ?_⟩))
        · repeat' first | ((first|refine sN ?_|refine Dr.cons ?_|(refine Dr.nil ?_;refine drawIf (by kernel_rfl) ?_)|refine vN rfl ?_|refine Vc.draw rfl (by kernel_rfl) ?_|refine mkSl (by omega) (by omega) ?_);conv=>whnf) | (refine ifB_i (fun _=>?_) (fun _=>?_)<;>conv=>whnf)
          have e : i = tells.length := by simp only at g; omega
          subst e
          exact ⟨by rw [List.take_length], rfl⟩
  · have e : resT r = [] := by rw [resT, if_neg hr]
    rw [e]
    refine fn_okR (E := E0) E0_tab E0_ord (fn := Go.Proofs.Tryz.f133) (by kernel_rfl) (by kernel_rfl) (fun hb => ?_)
    have lt := ints_len r.Tells
    conv => whnf
    repeat' first | ((first|refine sN ?_|refine Dr.cons ?_|(refine Dr.nil ?_;refine drawIf (by kernel_rfl) ?_)|refine vN rfl ?_|refine Vc.draw rfl (by kernel_rfl) ?_|refine mkSl (by omega) (by omega) ?_);conv=>whnf) | (refine ifB_i (fun _=>?_) (fun _=>?_)<;>conv=>whnf) | ((first | refine ⟨_, spec_in _ _ _, ?_⟩ | refine ⟨_, spec_all r.Tells (ints r.Tells).length _ (by omega), ?_⟩);conv=>whnf)
    all_goals first
      | exact ⟨rfl, rfl⟩
      | (exfalso; refine hr (resOk_iff.2 ?_); simp_all [inB_iff]; done)
      | (exfalso; refine hr (resOk_iff.2 ?_); simp_all [inB_iff]; omega)
theorem spec_resOk (r : Rslt) : Sem P 180 [(.pure, .agg (aR r))] [] (B (resOk r)) := by
  refine fn_okR (E := E0) E0_tab E0_ord (fn := Go.Proofs.Tryz.f180) (by kernel_rfl) (by kernel_rfl) (fun hb => ?_)
  conv => whnf
  repeat' first | ((first|refine sN ?_|refine Dr.cons ?_|(refine Dr.nil ?_;refine drawIf (by kernel_rfl) ?_)|refine vN rfl ?_|refine Vc.draw rfl (by kernel_rfl) ?_|refine mkSl (by omega) (by omega) ?_);conv=>whnf) | (refine ifB_i (fun _=>?_) (fun _=>?_)<;>conv=>whnf) | (refine ⟨_, spec_resText r, ?_⟩;conv=>whnf)
  exact rB (by rw [← resT_ne, ← text_ne])
end Cc
end
