/- The law FnExactSerSame (part 6 of 7). Conditions: none beyond the statement's own. -/
import Derived.Test.YtjkemkpghacdoaaGreatDoorEsa5
set_option linter.unusedVariables false
set_option linter.unusedSimpArgs false
section
namespace Cc
open Go Go.AM
set_option maxRecDepth 100000
set_option maxHeartbeats 8000000
theorem ser_len (p : Plan) : ∀ (l : List LogD) (v : List Int), (serGo p l v).1.length = l.length
  | [], v => rfl
  | x :: r, v => by simp only [serGo, List.length_cons, ser_len p r]
theorem wld_log {w : World} (hw : wldOk w = true) : (planOk w.Plan && logB w.Plan w.Log) = true := by
  have h := (wldOk_iff.1 hw).1
  simp only [Bool.and_eq_true, decide_eq_true_eq] at h ⊢
  exact ⟨h.1.1.1.1, h.2⟩
theorem serSame_iff {w : World} (hw : wldOk w = true) : serSame w = true ↔ (∀ j, j < w.Log.length → (serRun w.Plan w.Log).1.getD j default = (w.Log.getD j default).Res) ∧ (serRun w.Plan w.Log).2 = valsOf w := by
  have hl : (serRun w.Plan w.Log).1.length = w.Log.length := by unfold serRun; rw [if_pos (wld_log hw)]; exact ser_len _ _ _
  unfold serSame
  rw [hw, Bool.true_and, decide_eq_true_eq, Prod.ext_iff]
  constructor
  · rintro ⟨h1, h2⟩
    refine ⟨fun j hj => ?_, h2⟩
    simp only at h1
    rw [h1, List.getD_eq_getElem?_getD, List.getD_eq_getElem?_getD, List.getElem?_map, List.getElem?_eq_getElem hj]
    rfl
  · rintro ⟨h1, h2⟩
    refine ⟨?_, h2⟩
    simp only
    apply ext_get default (by rw [hl, List.length_map])
    intro j hj
    rw [h1 j (by omega), List.getD_eq_getElem?_getD, List.getD_eq_getElem?_getD, List.getElem?_map, List.getElem?_eq_getElem (by omega)]
    rfl
theorem impl_serSame (w : World) : Sem P 28 [(.pure, .agg (aWd w))] [] (B (serSame w)) := by
  have ll : (w.Log.map eO).length = w.Log.length := List.length_map ..
  by_cases hw : wldOk w = true
  · have hl := wld_log hw
    have iff := serSame_iff hw
    have hn : (serRun w.Plan w.Log).1.length = w.Log.length := by unfold serRun; rw [if_pos hl]; exact ser_len _ _ _
    have l100 : w.Log.length ≤ 100 := by rw [Bool.and_eq_true] at hl; exact (logB_iff.1 hl.2).1
    have no : (serSame w = true → False) → serSame w = false := fun h => by cases e : serSame w with | false => rfl | true => exact (h e).elim
    refine fn_okR (E := E0) E0_tab E0_ord (fn := Go.Proofs.Tryz.f28) (by kernel_rfl) (by kernel_rfl) (fun hb => ?_)
    conv => whnf
    repeat' first | ((first|refine sN ?_|refine Dr.cons ?_|(refine Dr.nil ?_;refine drawIf (by kernel_rfl) ?_)|refine vN rfl ?_|refine Vc.draw rfl (by kernel_rfl) ?_|refine mkSl (by omega) (by omega) ?_);conv=>whnf) | (refine ifB_i (fun _=>?_) (fun _=>?_)<;>conv=>whnf) | ((first | refine ⟨_, impl_wldOk w, ?_⟩ | refine ⟨_, impl_serRun w.Plan w.Log hl, ?_⟩);conv=>whnf)
    · exfalso; clear iff no; simp_all
    · refine Vc.loop1 (fun (i : Nat) => i ≤ w.Log.length ∧ ∀ j, j < i → (serRun w.Plan w.Log).1.getD j default = (w.Log.getD j default).Res) (fun i => updL [1, 3, 4, 19, 20, 35, 36, 37, 38] [(21, I i)] []) (fun i => w.Log.length - i) 0 ⟨Nat.zero_le _, fun j hj => absurd hj (Nat.not_lt_zero j)⟩ ?_ (fun i hi => ?_)
      · repeat' (first|exact True.intro|((conv=>whnf);first|exact True.intro|refine ⟨by rfl, ?_⟩|refine ⟨by first|omega|(show (_ : Int) = _;first|omega|(dsimp only;omega)), ?_⟩ | refine ⟨?_, ?_⟩))
      · obtain ⟨hi, hall⟩ := hi
        conv => whnf
        (repeat' first | ((first|refine sN ?_|refine Dr.cons ?_|(refine Dr.nil ?_;refine drawIf (by kernel_rfl) ?_)|refine vN rfl ?_|refine Vc.draw rfl (by kernel_rfl) ?_|refine mkSl (by omega) (by omega) ?_);conv=>whnf))
        refine ifB_d (fun g => ?_) (fun g => ?_)
        all_goals conv => whnf
        · have hil : i < w.Log.length := by omega
          repeat' first | ((first|refine sN ?_|refine Dr.cons ?_|(refine Dr.nil ?_;refine drawIf (by kernel_rfl) ?_)|refine vN rfl ?_|refine Vc.draw rfl (by kernel_rfl) ?_|refine mkSl (by omega) (by omega) ?_);conv=>whnf) | (refine ifB_i (fun _=>?_) (fun _=>?_)<;>conv=>whnf) | ((first | refine ixN (enc := eO) default hil ?_ | refine ixN (enc := eR) default (by omega) ?_ | refine ⟨_, impl_resSame ((serRun w.Plan w.Log).1.getD i default) (w.Log.getD i default).Res, ?_⟩ | refine w64 (by omega) (by omega) ?_);conv=>whnf)
          · rename_i h
            refine rB ?_
            symm
            refine no fun hB => ?_
            have := (iff.1 hB).1 i hil
            rw [this] at h
            simp at h
          · rename_i h
            refine ⟨i + 1, ⟨by omega, fun j hj => ?_⟩, by simp only; omega, ?_⟩
            · by_cases hji : j < i
              · exact hall j hji
              · obtain rfl : j = i := by omega
                simpa using h
            · repeat' (first|exact True.intro|((conv=>whnf);first|exact True.intro|refine ⟨by rfl, ?_⟩|refine ⟨by first|omega|(show (_ : Int) = _;first|omega|(dsimp only;omega)), ?_⟩ | refine ⟨?_, ?_⟩))
        · repeat' first | ((first|refine sN ?_|refine Dr.cons ?_|(refine Dr.nil ?_;refine drawIf (by kernel_rfl) ?_)|refine vN rfl ?_|refine Vc.draw rfl (by kernel_rfl) ?_|refine mkSl (by omega) (by omega) ?_);conv=>whnf) | (refine ifB_i (fun _=>?_) (fun _=>?_)<;>conv=>whnf) | ((first | refine ⟨_, impl_valsOf w hw, ?_⟩ | refine ⟨_, ints_eq (serRun w.Plan w.Log).2 (valsOf w), ?_⟩);conv=>whnf)
          refine rB ?_
          cases e : decide ((serRun w.Plan w.Log).2 = valsOf w) with
          | true => exact (iff.2 ⟨fun j hj => hall j (by omega), of_decide_eq_true e⟩).symm
          | false => exact (no fun hB => of_decide_eq_false e (iff.1 hB).2).symm
  · refine fn_okR (E := E0) E0_tab E0_ord (fn := Go.Proofs.Tryz.f28) (by kernel_rfl) (by kernel_rfl) (fun hb => ?_)
    conv => whnf
    repeat' first | ((first|refine sN ?_|refine Dr.cons ?_|(refine Dr.nil ?_;refine drawIf (by kernel_rfl) ?_)|refine vN rfl ?_|refine Vc.draw rfl (by kernel_rfl) ?_|refine mkSl (by omega) (by omega) ?_);conv=>whnf) | (refine ifB_i (fun _=>?_) (fun _=>?_)<;>conv=>whnf) | (refine ⟨_, impl_wldOk w, ?_⟩;conv=>whnf)
    · refine rB ?_; unfold serSame; simp_all
    · exfalso; simp_all
end Cc
end
section
namespace Cc
open Go Go.AM
set_option maxRecDepth 100000
theorem dig_val (u : Nat) : (Lib.decDigits u).foldl (fun v (b : UInt8) => v * 10 + (b.toNat - 48)) 0 = u := by
  induction u using Nat.strongRecOn with
  | _ u ih =>
    rw [Lib.decDigits]
    have one : ∀ k, k < 10 → (UInt8.ofNat (48 + k)).toNat - 48 = k := fun k hk => by
      rw [UInt8.toNat_ofNat']; omega
    split
    · rename_i h
      simp only [List.foldl_cons, List.foldl_nil, one u h]; omega
    · rename_i h
      rw [List.foldl_append, ih (u / 10) (by omega)]
      simp only [List.foldl_cons, List.foldl_nil, one (u % 10) (by omega)]; omega
theorem dig_bd (u : Nat) : ∀ b ∈ Lib.decDigits u, 48 ≤ b.toNat ∧ b.toNat ≤ 57 := by
  induction u using Nat.strongRecOn with
  | _ u ih =>
    intro b hb
    have one : ∀ k, k < 10 → 48 ≤ (UInt8.ofNat (48 + k)).toNat ∧ (UInt8.ofNat (48 + k)).toNat ≤ 57 := fun k hk => by
      rw [UInt8.toNat_ofNat']; omega
    rw [Lib.decDigits] at hb
    split at hb
    · rename_i h
      rw [List.mem_singleton.1 hb]; exact one u h
    · rename_i h
      rcases List.mem_append.1 hb with hb | hb
      · exact ih (u / 10) (by omega) b hb
      · rw [List.mem_singleton.1 hb]; exact one (u % 10) (by omega)
theorem dig_inj {u v : Nat} (h : Lib.decDigits u = Lib.decDigits v) : u = v := by
  rw [← dig_val u, h, dig_val v]
theorem dig_no45 {u : Nat} {r : List UInt8} (h : Lib.decDigits u = 45 :: r) : False := by
  have := dig_bd u 45 (by rw [h]; exact List.mem_cons_self ..)
  simp at this
theorem itoa_inj {a b : Int} (h : Lib.itoa a = Lib.itoa b) : a = b := by
  unfold Lib.itoa at h
  split at h <;> split at h
  · have := dig_inj (List.cons.inj h).2; omega
  · exact (dig_no45 h.symm).elim
  · exact (dig_no45 h).elim
  · have := dig_inj h; omega
theorem itoa_no32 (n : Int) : ∀ b ∈ Lib.itoa n, b ≠ 32 := by
  intro b hb e
  subst e
  unfold Lib.itoa at hb
  split at hb
  · rcases List.mem_cons.1 hb with hb | hb
    · simp at hb
    · have := dig_bd _ _ hb; simp at this
  · have := dig_bd _ _ hb; simp at this
theorem span_inj : ∀ {p q r s : List UInt8}, (∀ b ∈ p, b ≠ 32) → (∀ b ∈ q, b ≠ 32) → (r = [] ∨ ∃ t, r = 32 :: t) → (s = [] ∨ ∃ t, s = 32 :: t) → p ++ r = q ++ s → p = q ∧ r = s
  | [], [], r, s, _, _, _, _, h => ⟨rfl, h⟩
  | [], b :: q, r, s, _, hq, hr, _, h => by
    rcases hr with rfl | ⟨t, rfl⟩
    · cases h
    · exact (hq b (List.mem_cons_self ..) (List.cons.inj h).1.symm).elim
  | a :: p, [], r, s, hp, _, _, hs, h => by
    rcases hs with rfl | ⟨t, rfl⟩
    · cases h
    · exact (hp a (List.mem_cons_self ..) (List.cons.inj h).1).elim
  | a :: p, b :: q, r, s, hp, hq, hr, hs, h => by
    obtain ⟨h1, h2⟩ := List.cons.inj h
    obtain ⟨h3, h4⟩ := span_inj (fun x hx => hp x (List.mem_cons_of_mem _ hx)) (fun x hx => hq x (List.mem_cons_of_mem _ hx)) hr hs h2
    exact ⟨by rw [h1, h3], h4⟩
theorem joinT_cons (n : Int) (l : List Int) : joinT (n :: l) = 32 :: (Lib.itoa n ++ joinT l) := rfl
theorem joinT_head : ∀ l : List Int, joinT l = [] ∨ ∃ t, joinT l = 32 :: t
  | [] => .inl rfl
  | n :: l => .inr ⟨_, joinT_cons n l⟩
theorem joinT_inj : ∀ {l k : List Int}, joinT l = joinT k → l = k
  | [], [], _ => rfl
  | [], _ :: _, h => by cases h
  | _ :: _, [], h => by cases h
  | a :: l, b :: k, h => by
    rw [joinT_cons, joinT_cons] at h
    obtain ⟨h1, h2⟩ := span_inj (itoa_no32 a) (itoa_no32 b) (joinT_head l) (joinT_head k) (List.cons.inj h).2
    rw [itoa_inj h1, joinT_inj h2]
theorem resT_inj {r s : Rslt} (hr : resOk r = true) (hs : resOk s = true) (h : resT r = resT s) : r = s := by
  obtain ⟨⟨a1, a2⟩, a3, -, -⟩ := resOk_iff.1 hr
  obtain ⟨⟨b1, b2⟩, b3, -, -⟩ := resOk_iff.1 hs
  rw [resT, resT, if_pos hr, if_pos hs] at h
  obtain ⟨c, t⟩ := r
  obtain ⟨d, u⟩ := s
  simp only at *
  have hc : c = 1 ∨ c = 2 ∨ c = 3 := by omega
  have hd : d = 1 ∨ d = 2 ∨ d = 3 := by omega
  rcases hc with rfl | rfl | rfl <;> rcases hd with rfl | rfl | rfl <;> simp [codeT] at h a3 b3 <;> simp_all
  exact joinT_inj h
end Cc
end
section
namespace Cc
open Go Go.AM
set_option maxRecDepth 100000
set_option maxHeartbeats 8000000
end Cc
end
section
namespace Cc
open Go Go.AM
set_option maxRecDepth 100000
set_option maxHeartbeats 8000000
theorem apI {l : List Int} {k q : Prop} (hk : k) : (allPrim (ints l) ∧ k) ∨ q := .inl ⟨prim_ints l, hk⟩
end Cc
end
section
namespace Cc
open Go Go.AM
set_option maxRecDepth 100000
set_option maxHeartbeats 8000000
theorem spec_plus (a b : List Int) (h1 : a.length = 3) (h2 : b.length = 3) (ha : mid a) (hb' : mid b) : Sem P 237 [(.pure, AI a), (.pure, AI b)] [] (AI (plus a b)) := by
  obtain ⟨x, y, z, rfl⟩ := len3 h1
  obtain ⟨u, v, w, rfl⟩ := len3 h2
  have hx := ha x (by simp); have hy := ha y (by simp); have hz := ha z (by simp)
  have hu := hb' u (by simp); have hv := hb' v (by simp); have hw := hb' w (by simp)
  refine fn_okR (E := E0) E0_tab E0_ord (fn := Go.Proofs.Tryz.f237) (by kernel_rfl) (by kernel_rfl) (fun hb => ?_)
  conv => whnf
  (repeat' first | ((first|refine sN ?_|refine Dr.cons ?_|(refine Dr.nil ?_;refine drawIf (by kernel_rfl) ?_)|refine vN rfl ?_|refine Vc.draw rfl (by kernel_rfl) ?_|refine mkSl (by omega) (by omega) ?_);conv=>whnf))
  refine Vc.loop1 (fun (i : Nat) => i ≤ 3) (fun i => updL [0, 1, 4, 24] [(6, I i), (5, .one (.ref 128000))] [(128000, .arr 3 (ints ([x + u, y + v, z + w].take i)) false)]) (fun i => 3 - i) 0 (by omega) ?_ (fun i hi => ?_)
  · repeat' (first|exact True.intro|((conv=>whnf);first|exact True.intro|refine ⟨by rfl, ?_⟩|refine ⟨by first|omega|(show (_ : Int) = _;first|omega|(dsimp only;omega)), ?_⟩ | refine ⟨?_, ?_⟩))
  · match i, hi with
    | 0, _ =>
      conv => whnf
      repeat' first | ((first|refine sN ?_|refine Dr.cons ?_|(refine Dr.nil ?_;refine drawIf (by kernel_rfl) ?_)|refine vN rfl ?_|refine Vc.draw rfl (by kernel_rfl) ?_|refine mkSl (by omega) (by omega) ?_);conv=>whnf) | (refine ifB_i (fun _=>?_) (fun _=>?_)<;>conv=>whnf) | ((first | refine ixK rfl ?_ | refine w64 (by omega) (by omega) ?_ | refine apN (by simp) ?_);conv=>whnf)
      refine ⟨1, by omega, by simp only; omega, ?_⟩
      repeat' (first|exact True.intro|((conv=>whnf);first|exact True.intro|refine ⟨by rfl, ?_⟩|refine ⟨by first|omega|(show (_ : Int) = _;first|omega|(dsimp only;omega)), ?_⟩ | refine ⟨?_, ?_⟩))
    | 1, _ =>
      conv => whnf
      repeat' first | ((first|refine sN ?_|refine Dr.cons ?_|(refine Dr.nil ?_;refine drawIf (by kernel_rfl) ?_)|refine vN rfl ?_|refine Vc.draw rfl (by kernel_rfl) ?_|refine mkSl (by omega) (by omega) ?_);conv=>whnf) | (refine ifB_i (fun _=>?_) (fun _=>?_)<;>conv=>whnf) | ((first | refine ixK rfl ?_ | refine w64 (by omega) (by omega) ?_ | refine apN (by simp) ?_);conv=>whnf)
      refine ⟨2, by omega, by simp only; omega, ?_⟩
      repeat' (first|exact True.intro|((conv=>whnf);first|exact True.intro|refine ⟨by rfl, ?_⟩|refine ⟨by first|omega|(show (_ : Int) = _;first|omega|(dsimp only;omega)), ?_⟩ | refine ⟨?_, ?_⟩))
    | 2, _ =>
      conv => whnf
      repeat' first | ((first|refine sN ?_|refine Dr.cons ?_|(refine Dr.nil ?_;refine drawIf (by kernel_rfl) ?_)|refine vN rfl ?_|refine Vc.draw rfl (by kernel_rfl) ?_|refine mkSl (by omega) (by omega) ?_);conv=>whnf) | (refine ifB_i (fun _=>?_) (fun _=>?_)<;>conv=>whnf) | ((first | refine ixK rfl ?_ | refine w64 (by omega) (by omega) ?_ | refine apN (by simp) ?_);conv=>whnf)
      refine ⟨3, by omega, by simp only; omega, ?_⟩
      repeat' (first|exact True.intro|((conv=>whnf);first|exact True.intro|refine ⟨by rfl, ?_⟩|refine ⟨by first|omega|(show (_ : Int) = _;first|omega|(dsimp only;omega)), ?_⟩ | refine ⟨?_, ?_⟩))
    | 3, _ =>
      conv => whnf
      (repeat' first | ((first|refine sN ?_|refine Dr.cons ?_|(refine Dr.nil ?_;refine drawIf (by kernel_rfl) ?_)|refine vN rfl ?_|refine Vc.draw rfl (by kernel_rfl) ?_|refine mkSl (by omega) (by omega) ?_);conv=>whnf))
      exact ⟨rfl, rfl⟩
theorem spec_valsOf (w : World) (hw : wldOk w = true) : Sem P 135 [(.pure, .agg (aWd w))] [] (AI (valsOf w)) := by
  have ls : (w.Sites.map eS).length = w.Sites.length := List.length_map ..
  have l3 := wld_sites hw
  have v0 := vAt_bd hw 0 (Nat.zero_le _)
  have lb : w.Clerk.Base.length = 3 := by have := v0.1; simp only [vAt, List.take_zero, List.foldl_nil] at this; omega
  refine fn_okR (E := { E0 with keep := [7007] }) E0_tab E0_ord (fn := Go.Proofs.Tryz.f135) (by kernel_rfl) (by kernel_rfl) (fun hb => ?_)
  conv => whnf
  repeat' first | ((first|refine sN ?_|refine Dr.cons ?_|(refine Dr.nil ?_;refine drawIf (by kernel_rfl) ?_)|refine vN rfl ?_|refine Vc.draw rfl (by kernel_rfl) ?_|refine mkSl (by omega) (by omega) ?_);conv=>whnf) | (refine ifB_i (fun _=>?_) (fun _=>?_)<;>conv=>whnf) | (refine apN (by simp; omega) ?_;conv=>whnf) | (refine apI ?_;conv=>whnf)
  refine Vc.loop1 (fun (i : Nat) => i ≤ w.Sites.length) (fun i => updL [0, 1, 2] [(4, I i), (3, .one (.ref 128256))] [(128256, .arr 3 (ints (vAt w i)) false)]) (fun i => w.Sites.length - i) 0 (Nat.zero_le _) ?_ (fun i hi => ?_)
  · repeat' (first|exact True.intro|((conv=>whnf);first|exact True.intro|refine ⟨by rfl, ?_⟩|refine ⟨by first|omega|(show (_ : Int) = _;first|omega|(dsimp only;omega)), ?_⟩ | refine ⟨?_, ?_⟩))
  · have vi := vAt_bd hw i hi
    conv => whnf
    (repeat' first | ((first|refine sN ?_|refine Dr.cons ?_|(refine Dr.nil ?_;refine drawIf (by kernel_rfl) ?_)|refine vN rfl ?_|refine Vc.draw rfl (by kernel_rfl) ?_|refine mkSl (by omega) (by omega) ?_);conv=>whnf))
    refine ifB_d (fun g => ?_) (fun g => ?_)
    all_goals conv => whnf
    · have hil : i < w.Sites.length := by omega
      have ha := added_three (wld_site hw hil)
      have es := vAt_succ hil
      repeat' first | ((first|refine sN ?_|refine Dr.cons ?_|(refine Dr.nil ?_;refine drawIf (by kernel_rfl) ?_)|refine vN rfl ?_|refine Vc.draw rfl (by kernel_rfl) ?_|refine mkSl (by omega) (by omega) ?_);conv=>whnf) | (refine ifB_i (fun _=>?_) (fun _=>?_)<;>conv=>whnf) | (refine ixN (enc := eS) default hil ?_;conv=>whnf) | (refine ⟨_, spec_plus (vAt w i) (w.Sites.getD i default).Added vi.1 ha.1 (fun x hx => by have := vi.2 x hx; omega) (fun x hx => by have := ha.2 x hx; omega), ?_⟩;conv=>whnf) | ((first | refine w64 (by omega) (by omega) ?_ | refine akP (prim_ints _) ?_);conv=>whnf)
      · rename_i h
        rw [if_pos (by simpa using h)] at es
        refine ⟨i + 1, by omega, by simp only; omega, ?_⟩
        repeat' (first|exact True.intro|((conv=>whnf);first|exact True.intro|refine ⟨by rfl, ?_⟩|refine ⟨by first|omega|(show (_ : Int) = _;first|omega|(dsimp only;omega)) | exact congrArg ints es.symm, ?_⟩ | refine ⟨?_, ?_⟩))
      · rename_i h
        rw [if_neg (by simpa using h)] at es
        refine ⟨i + 1, by omega, by simp only; omega, ?_⟩
        repeat' (first|exact True.intro|((conv=>whnf);first|exact True.intro|refine ⟨by rfl, ?_⟩|refine ⟨by first|omega|(show (_ : Int) = _;first|omega|(dsimp only;omega)) | exact congrArg ints es.symm, ?_⟩ | refine ⟨?_, ?_⟩))
    · (repeat' first | ((first|refine sN ?_|refine Dr.cons ?_|(refine Dr.nil ?_;refine drawIf (by kernel_rfl) ?_)|refine vN rfl ?_|refine Vc.draw rfl (by kernel_rfl) ?_|refine mkSl (by omega) (by omega) ?_);conv=>whnf))
      exact ⟨by rw [vAt_end (by omega)], rfl⟩
theorem ser_ok {w : World} (hw : wldOk w = true) : ∀ j, j < w.Log.length → resOk ((serRun w.Plan w.Log).1.getD j default) = true := by
  have hl := wld_log hw
  have hp := planF (by simp only [Bool.and_eq_true] at hl; exact hl.1)
  have hc := (logB_iff.1 (by simp only [Bool.and_eq_true] at hl; exact hl.2)).2
  have go : ∀ (l : List LogD) (v : List Int), (∀ x ∈ l, callB w.Plan x.Call = true) → valOk v = true → ∀ j, j < l.length → resOk ((serGo w.Plan l v).1.getD j default) = true := by
    intro l
    induction l with
    | nil => intro v _ _ j hj; simp at hj
    | cons x r ih =>
      intro v h hv j hj
      have hx := h x (List.mem_cons_self ..)
      have := actRun_ok (actOk_at hp hx) hv (callB_iff.1 hx).2.2.2
      cases j with
      | zero => exact this.1
      | succ j => exact ih _ (fun y hy => h y (List.mem_cons_of_mem _ hy)) this.2.1 j (by simpa using hj)
  intro j hj
  unfold serRun; rw [if_pos hl]
  exact go w.Log w.Plan.Start (fun x hx => (hc x hx).1) hp.st j hj
theorem spec_serSame (w : World) : Sem P 34 [(.pure, .agg (aWd w))] [] (B (serSame w)) := by
  have ll : (w.Log.map eO).length = w.Log.length := List.length_map ..
  by_cases hw : wldOk w = true
  · have hl := wld_log hw
    have iff := serSame_iff hw
    have sok := ser_ok hw
    have lok : ∀ j, j < w.Log.length → resOk (w.Log.getD j default).Res = true := fun j hj => by
      have := (logB_iff.1 (by simp only [Bool.and_eq_true] at hl; exact hl.2)).2 _ (gd_mem hj); exact this.2
    have hn : (serRun w.Plan w.Log).1.length = w.Log.length := by unfold serRun; rw [if_pos hl]; exact ser_len _ _ _
    have hn' : ((serRun w.Plan w.Log).1.map eR).length = w.Log.length := by rw [List.length_map, hn]
    have l100 : w.Log.length ≤ 100 := by rw [Bool.and_eq_true] at hl; exact (logB_iff.1 hl.2).1
    have no : (serSame w = true → False) → serSame w = false := fun h => by cases e : serSame w with | false => rfl | true => exact (h e).elim
    refine fn_okR (E := E0) E0_tab E0_ord (fn := Go.Proofs.Tryz.f34) (by kernel_rfl) (by kernel_rfl) (fun hb => ?_)
    conv => whnf
    repeat' first | ((first|refine sN ?_|refine Dr.cons ?_|(refine Dr.nil ?_;refine drawIf (by kernel_rfl) ?_)|refine vN rfl ?_|refine Vc.draw rfl (by kernel_rfl) ?_|refine mkSl (by omega) (by omega) ?_);conv=>whnf) | (refine ifB_i (fun _=>?_) (fun _=>?_)<;>conv=>whnf) | ((first | refine ⟨_, spec_wldOk w, ?_⟩ | refine ⟨_, spec_serRun w.Plan w.Log hl, ?_⟩);conv=>whnf)
    · exfalso; clear iff no; simp_all
    · refine Vc.loop1 (fun (i : Nat) => i ≤ w.Log.length ∧ ∀ j, j < i → (serRun w.Plan w.Log).1.getD j default = (w.Log.getD j default).Res) (fun i => updL [1, 3, 4, 36, 37, 38, 39] [(5, I i)] []) (fun i => w.Log.length - i) 0 ⟨Nat.zero_le _, fun j hj => absurd hj (Nat.not_lt_zero j)⟩ ?_ (fun i hi => ?_)
      · repeat' (first|exact True.intro|((conv=>whnf);first|exact True.intro|refine ⟨by rfl, ?_⟩|refine ⟨by first|omega|(show (_ : Int) = _;first|omega|(dsimp only;omega)), ?_⟩ | refine ⟨?_, ?_⟩))
      · obtain ⟨hi, hall⟩ := hi
        conv => whnf
        (repeat' first | ((first|refine sN ?_|refine Dr.cons ?_|(refine Dr.nil ?_;refine drawIf (by kernel_rfl) ?_)|refine vN rfl ?_|refine Vc.draw rfl (by kernel_rfl) ?_|refine mkSl (by omega) (by omega) ?_);conv=>whnf))
        refine ifB_d (fun g => ?_) (fun g => ?_)
        all_goals conv => whnf
        · have hil : i < w.Log.length := by omega
          repeat' first | ((first|refine sN ?_|refine Dr.cons ?_|(refine Dr.nil ?_;refine drawIf (by kernel_rfl) ?_)|refine vN rfl ?_|refine Vc.draw rfl (by kernel_rfl) ?_|refine mkSl (by omega) (by omega) ?_);conv=>whnf) | (refine ifB_i (fun _=>?_) (fun _=>?_)<;>conv=>whnf) | ((first | refine ixN (enc := eO) default hil ?_ | refine ixN (enc := eR) default (by omega) ?_ | refine ⟨_, spec_resText ((serRun w.Plan w.Log).1.getD i default), ?_⟩ | refine ⟨_, spec_resText (w.Log.getD i default).Res, ?_⟩ | refine w64 (by omega) (by omega) ?_);conv=>whnf)
          · rename_i h
            refine rB ?_
            symm
            refine no fun hB => ?_
            have := (iff.1 hB).1 i hil
            rw [this] at h
            simp at h
          · rename_i h
            rw [ByteArray.toList_mk, ByteArray.toList_mk] at h
            have h' : resT ((serRun w.Plan w.Log).1.getD i default) = resT (w.Log.getD i default).Res := by simpa only [Bool.not_eq_false', beq_iff_eq] using h
            have h2 := resT_inj (sok i hil) (lok i hil) h'
            refine ⟨i + 1, ⟨by omega, fun j hj => ?_⟩, by simp only; omega, ?_⟩
            · by_cases hji : j < i
              · exact hall j hji
              · obtain rfl : j = i := by omega
                exact h2
            · repeat' (first|exact True.intro|((conv=>whnf);first|exact True.intro|refine ⟨by rfl, ?_⟩|refine ⟨by first|omega|(show (_ : Int) = _;first|omega|(dsimp only;omega)), ?_⟩ | refine ⟨?_, ?_⟩))
        · repeat' first | ((first|refine sN ?_|refine Dr.cons ?_|(refine Dr.nil ?_;refine drawIf (by kernel_rfl) ?_)|refine vN rfl ?_|refine Vc.draw rfl (by kernel_rfl) ?_|refine mkSl (by omega) (by omega) ?_);conv=>whnf) | (refine ifB_i (fun _=>?_) (fun _=>?_)<;>conv=>whnf) | ((first | refine ⟨_, spec_valsOf w hw, ?_⟩ | refine ⟨_, spec_same (serRun w.Plan w.Log).2 (valsOf w), ?_⟩);conv=>whnf)
          refine rB ?_
          cases e : decide ((serRun w.Plan w.Log).2 = valsOf w) with
          | true => exact (iff.2 ⟨fun j hj => hall j (by omega), of_decide_eq_true e⟩).symm
          | false => exact (no fun hB => of_decide_eq_false e (iff.1 hB).2).symm
  · refine fn_okR (E := E0) E0_tab E0_ord (fn := Go.Proofs.Tryz.f34) (by kernel_rfl) (by kernel_rfl) (fun hb => ?_)
    conv => whnf
    repeat' first | ((first|refine sN ?_|refine Dr.cons ?_|(refine Dr.nil ?_;refine drawIf (by kernel_rfl) ?_)|refine vN rfl ?_|refine Vc.draw rfl (by kernel_rfl) ?_|refine mkSl (by omega) (by omega) ?_);conv=>whnf) | (refine ifB_i (fun _=>?_) (fun _=>?_)<;>conv=>whnf) | (refine ⟨_, spec_wldOk w, ?_⟩;conv=>whnf)
    · refine rB ?_; unfold serSame; simp_all
    · exfalso; simp_all
end Cc
end
section
namespace Cc
open Go Go.AM
set_option maxRecDepth 100000
set_option maxHeartbeats 8000000
theorem law_exactSerSame (w : World) : Sem P 6 [(.pure, .agg (Xe.aWd w))] [] (B true) := by
  refine fn_okR (E := E0) E0_tab E0_ord (fn := Go.Proofs.Tryz.f6) (by kernel_rfl) (by kernel_rfl) (fun hb => ?_)
  conv => whnf
  repeat' first | ((first|refine sN ?_|refine Dr.cons ?_|(refine Dr.nil ?_;refine drawIf (by kernel_rfl) ?_)|refine vN rfl ?_|refine Vc.draw rfl (by kernel_rfl) ?_|refine mkSl (by omega) (by omega) ?_);conv=>whnf) | (refine ifB_i (fun _=>?_) (fun _=>?_)<;>conv=>whnf) | (refine callS (szE (sz_Wd w _ (by omega))) ?_; rintro _ ⟨r, hr, rfl⟩;conv=>whnf)
  · exact ⟨rfl, rfl⟩
  · have hz : zWd w ≤ 1048576 := by simp only [decide_eq_false_iff_not] at *; omega
    repeat' first | ((first|refine sN ?_|refine Dr.cons ?_|(refine Dr.nil ?_;refine drawIf (by kernel_rfl) ?_)|refine vN rfl ?_|refine Vc.draw rfl (by kernel_rfl) ?_|refine mkSl (by omega) (by omega) ?_);conv=>whnf) | (refine ifB_i (fun _=>?_) (fun _=>?_)<;>conv=>whnf) | ((first | refine ⟨_, to_Wd w hz, ?_⟩ | refine ⟨_, spec_serSame w, ?_⟩ | refine ⟨_, impl_serSame w, ?_⟩ | refine ⟨_, eq_Wd w w, ?_⟩);conv=>whnf)
    all_goals first | exact ⟨rfl, rfl⟩ | (exfalso; simp_all; done) | trace_state
end Cc
end
