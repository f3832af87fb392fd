/- The law FnWldNew (part 5 of 6). Conditions: none beyond the statement's own. -/
import Derived.Shelf.Spec.SlicesGrow
import Derived.Test.YtjkemkpghacdoaaGreatDoorNew4
set_option linter.unusedVariables false
set_option linter.unusedSimpArgs false
section
namespace Go.AM
open Go Go.RowKit Go.Proofs
set_option maxRecDepth 100000
def growRen : Go.Shelf.Ren := ⟨fun | 4 => 377 | n => n, fun | 22 => 287 | 25 => 129 | n => n, fun | n => n⟩
theorem lays_grow : Go.Proofs.Lays8.n4 P growRen := {
  mixed := by kernel_rfl
  f4 := ⟨Go.Proofs.Tryz.f377.name, by kernel_rfl, (show P.funcs[377]? = some Go.Proofs.Tryz.f377 by kernel_rfl).trans (congrArg some (by kernel_rfl))⟩
  t0 := Tryz.underlying0, a0 := Tryz.isAgg0, z0 := Tryz.sizeOf0, v0 := Tryz.zeroValue0
  t3 := Tryz.underlying3, a3 := Tryz.isAgg3, z3 := Tryz.sizeOf3, v3 := Tryz.zeroValue3
  t4 := Tryz.underlying4, a4 := Tryz.isAgg4, z4 := Tryz.sizeOf4, v4 := Tryz.zeroValue4
  t9 := Tryz.underlying9, a9 := Tryz.isAgg9, z9 := Tryz.sizeOf9, v9 := Tryz.zeroValue9
  t20 := Tryz.underlying20, a20 := Tryz.isAgg20, z20 := Tryz.sizeOf20, v20 := Tryz.zeroValue20
  t22 := Tryz.underlying287, a22 := Tryz.isAgg287, z22 := Tryz.sizeOf287, v22 := Tryz.zeroValue287 }
theorem cells_form : (P : Program).cellsOf 129 = 3 := by kernel_rfl
theorem ow_none {w : World} {Z : Nat → Prop} {v : Value} (ho : w.ownsRow 0 129 3 v 0 []) : Ow P w Z (.sl 129 []) v v.ownBlock.toList := by
  have h : Ow P w Z (.sl 129 []) v (v.ownBlock.toList ++ ([] : List (List Nat)).flatten) :=
    .sl (cells := []) (by simp) (by simp) (by rw [cells_form]; exact ho) rfl (by simp)
  simpa using h
theorem ow_none_inv {w : World} {Z : Nat → Prop} {x : Value} {f : List Nat} (h : Ow P w Z (.sl 129 []) x f) : f = x.ownBlock.toList ∧ w.ownsRow 0 129 3 x 0 [] := by
  cases h with
  | sl hm hw ho hf hr =>
    rename_i cells fs
    rw [cells_form] at ho
    have h0 : cells = [] := List.eq_nil_of_length_eq_zero (by simpa using ho.1)
    subst h0
    have h1 : fs = [] := List.eq_nil_of_length_eq_zero hf
    subst h1
    exact ⟨by simp, ho⟩
theorem ins_own1 {w : World} {Z : Nat → Prop} {io : Option Io} {a b : AV} {vals : List Value} {fin : List Nat} (h : InsR P w Z io [(.own, .one a), (.pure, .one b)] vals fin) : ∃ x y f, vals = [x, y] ∧ fin = f ∧ Ow P w Z a x f ∧ Rd P w Z b y := by
  cases h with
  | cons h t =>
    cases t with
    | cons h2 t2 =>
      cases t2
      cases h2 with
      | pone h2 =>
        cases h with
        | oone h => exact ⟨_, _, _, rfl, by simp, h, h2⟩
theorem forms_grow (n : Nat) (hn : n ≤ 100000) : Sem P 377 [(.own, .one (.sl 129 [])), (.pure, I n)] [] (.one (.sl 129 [])) := by
  refine ⟨by refine ⟨Go.Proofs.Tryz.f377, ?_, ?_, ?_⟩ <;> kernel_rfl, fun w Z io vals fin hG hI hio hnd hfin hZ => ?_⟩
  have hio : io = none := by
    rcases hio with h | ⟨lo, hi, v, hm⟩
    · exact h
    · simp at hm
  subst hio
  obtain ⟨x, y, f, rfl, rfl, hx, hy⟩ := ins_own1 hI
  obtain ⟨rfl, ho⟩ := ow_none_inv hx
  cases hy
  have room : ∀ {e : Ending} {w' : World}, e = .returned x ∧ w' = w → ∃ v, e = .returned v ∧ Post P w Z none [(.own, .one (.sl 129 [])), (.pure, I n)] [x, .int .i64 n] x.ownBlock.toList [] (.one (.sl 129 [])) v w' := by
    rintro e w' ⟨rfl, rfl⟩
    refine ⟨x, rfl, Z, x.ownBlock.toList, [], ⟨rfl, rfl, rfl, Nat.le_refl _, fun _ _ _ _ => rfl, fun i hi => by cases hi⟩, fun b h => h, fun b h => ⟨.inl h, (hZ b h).1, fun i hi => by cases hi⟩, .one (ow_none ho), .own (.pure .nil), by simpa using ownB_nodup _, fun b hb => ?_⟩
    have hb' : b ∈ x.ownBlock.toList := by simpa using hb
    exact ⟨.inl hb', (hfin b hb').1, (hfin b hb').2.1, fun i hi => by cases hi⟩
  have fresh : ∀ (c : Nat) (cells : Array Value) (cap : Nat), cells.size = cap * 3 → cap ≤ maxLen → ∀ {e : Ending} {w' : World}, e = .returned (.slice (some ⟨w.heap.size, 0, none⟩) 0 cap) ∧ w' = w.drew.alloc (.cells cells 129) → ∃ v, e = .returned v ∧ Post P w Z none [(.own, .one (.sl 129 [])), (.pure, I n)] [x, .int .i64 n] x.ownBlock.toList [] (.one (.sl 129 [])) v w' := by
    rintro c cells cap hs hm e w' ⟨rfl, rfl⟩
    have hB : Below w.heap.size w (w.drew.alloc (.cells cells 129)) := (Below.refl _ w).drew.alloc (Nat.le_refl _) _
    have ho' := World.ownsRow_made (base := 0) (e := 129) (size := 3) w.drew cells cap (Nat.zero_le _) hm hs
    refine ⟨_, rfl, Z, [w.heap.size], [], ⟨hB.os, hB.tape, hB.output, hB.size, fun k hk _ _ => hB.block k hk, fun i hi => by cases hi⟩, fun b h => h, fun b h => ⟨.inl h, Nat.lt_of_lt_of_le (hZ b h).1 hB.size, fun i hi => by cases hi⟩, .one (ow_none ho'), .own (.pure .nil), by simp, fun b hb => ?_⟩
    have hb' : b = w.heap.size := by simpa using hb
    subst hb'
    exact ⟨.inr (Nat.le_refl _), by have := heap_alloc_new w.drew (.cells cells 129); exact (Array.getElem?_eq_some_iff.1 this).1, fun hz => absurd (hZ _ hz).1 (Nat.lt_irrefl _), fun i hi => by cases hi⟩
  by_cases h0 : n = 0
  · subst h0
    rcases ho.2 with ⟨rfl, _⟩ | ⟨g, cap, cur, rfl, h1, h2, h3, h4, h5, h6⟩
    · exact (Any8.slices_Grow_room lays_grow none 0 0 0 w (by decide) (by decide) (by decide) (by decide)).mono fun e w' h => room h
    · exact (Any8.slices_Grow_room lays_grow _ 0 cap 0 w (Nat.zero_le _) (by have : maxLen = 9223372036854775807 := by decide
                                                                             omega) (by decide) (Nat.zero_le _)).mono fun e w' h => room h
  · have hml : maxLen = 9223372036854775807 := by decide
    have hinfo : (P.info? 129).map (fun i => (i.zero.map (fun z => z.cells.size), i.size, i.bytes)) = some (some 3, 3, 56) := by kernel_rfl
    obtain ⟨i0, hi0, hinfo⟩ := Option.map_eq_some_iff.1 hinfo
    simp only [Prod.mk.injEq] at hinfo
    obtain ⟨hz, hs0, hb0⟩ := hinfo
    obtain ⟨z, hz0, hz3⟩ := Option.map_eq_some_iff.1 hz
    have hge : ∀ c, n ≤ grownCap w (0 + n) c 129 := fun c => by have := grownCap_ge w (0 + n) c 129; omega
    have hle : ∀ c, grownCap w (0 + n) c 129 ≤ maxLen := fun c => grownCap_le_maxLen w (0 + n) c 129 (by omega)
    have hzc : ∀ k, (Builtin.zeroCells z.cells k).size = k * 3 := fun k => by simp [Builtin.zeroCells, hz3]
    rcases ho.2 with ⟨rfl, _⟩ | ⟨g, cap, cur, rfl, h1, h2, h3, h4, h5, h6⟩
    · refine (Any8.slices_Grow_grow lays_grow i0 z hi0 hz0 (by omega) none 0 0 n [] w (by decide) (by omega) (by rw [hb0]; omega) (by omega) (by simp) (fun _ => rfl) (by intro a h; cases h)).mono fun e w' h => fresh 0 _ _ ?_ (hle 0) h
      simp only [Array.size_append, hzc, List.size_toArray, List.length_nil]
      have := hge 0
      show 0 + (0 + n - 0) * 3 + (grownCap w (0 + n) 0 129 - (0 + n)) * 3 = grownCap w (0 + n) 0 129 * 3
      omega
    · by_cases hc : n ≤ cap
      · exact (Any8.slices_Grow_room lays_grow _ 0 cap n w (Nat.zero_le _) (by omega) (by omega) (by omega)).mono fun e w' h => room h
      · refine (Any8.slices_Grow_grow lays_grow i0 z hi0 hz0 (by omega) (some ⟨g, 0, none⟩) 0 cap n cur.toList w (by omega) (by omega) (by rw [hb0]; omega) (by omega) (by simp [h5, hs0]) (by intro h; cases h) (by
          rintro a rfl' j v hj
          cases rfl'
          have e : (⟨g, 0, none⟩ : Addr).add j = ⟨g, j, none⟩ := by cases j <;> simp [Addr.add]
          rw [e]
          simp only [World.cell?, h2]
          simpa using hj)).mono fun e w' h => fresh 0 _ _ ?_ (hle cap) h
        simp only [Array.size_append, hzc, Array.toArray_toList, h5]
        have := hge cap
        show cap * 3 + (0 + n - cap) * 3 + (grownCap w (0 + n) cap 129 - (0 + n)) * 3 = grownCap w (0 + n) cap 129 * 3
        omega
end Go.AM
end
section
namespace Cc
open Go Go.AM
set_option maxRecDepth 100000
set_option maxHeartbeats 4000000
theorem zeros_1 (n : Int) : Sem P 344 [(.pure, I n)] [] (B (!decide (n = 0))) := by
  refine fn_okR (E := E0) E0_tab E0_ord (fn := Go.Proofs.Tryz.f344) (by kernel_rfl) (by kernel_rfl) (fun hb => ?_)
  conv => whnf
  (repeat' first | ((first | refine Sq.cons ?_ | refine Dr.cons ?_ | refine Sq.nil ?_ | (refine Dr.nil ?_; refine drawIf (by kernel_rfl) ?_) | refine Vc.region rfl ?_ | refine Vc.draw rfl (by kernel_rfl) ?_ | refine Vc.cond ?_ | refine Vc.block ?_ | refine Vc.ret ?_ | refine Vc.skip ?_ | refine Vc.exit ?_ | refine mkSl (by omega) (by omega) ?_); conv => whnf) | refine Vc.seq ?_)
  exact rB rfl
theorem zeros_any_ix  (l : List Int) : Sem P 286 [(.pure, .one (sI l)), (.pure, .one (.fn 344 []))] [] (I (idxOf (fun (x : Int) => !decide (x = 0)) l)) := by
  refine fn_okR (E := E0) E0_tab E0_ord (fn := Go.Proofs.Tryz.f286) (by kernel_rfl) (by kernel_rfl) (fun hb => ?_)
  have la : (ints l).length = l.length := List.length_map ..
  have hb1 : (ints l).length ≤ 1125899906842624 := hb.1.1
  conv => whnf
  (repeat' first | ((first | refine Sq.cons ?_ | refine Dr.cons ?_ | refine Sq.nil ?_ | (refine Dr.nil ?_; refine drawIf (by kernel_rfl) ?_) | refine Vc.region rfl ?_ | refine Vc.draw rfl (by kernel_rfl) ?_ | refine Vc.cond ?_ | refine Vc.block ?_ | refine Vc.ret ?_ | refine Vc.skip ?_ | refine Vc.exit ?_ | refine mkSl (by omega) (by omega) ?_); conv => whnf) | refine Vc.seq ?_)
  refine Vc.loop { i : Nat // ∀ j, j < i → j < l.length → (fun (x : Int) => !decide (x = 0)) (l.getD j default) = false } (fun i => updL [0, 1, 7] [(8, I i.1)] []) (fun i => l.length - i.1) ⟨0, by simp⟩ ?_ (fun i => ?_)
  · repeat' (first | exact True.intro | ((conv => whnf); first | exact True.intro | refine ⟨by rfl, ?_⟩ | refine ⟨?_, ?_⟩))
  · have hi := i.2
    conv => whnf
    (repeat' first | ((first | refine Sq.cons ?_ | refine Dr.cons ?_ | refine Sq.nil ?_ | (refine Dr.nil ?_; refine drawIf (by kernel_rfl) ?_) | refine Vc.region rfl ?_ | refine Vc.draw rfl (by kernel_rfl) ?_ | refine Vc.cond ?_ | refine Vc.block ?_ | refine Vc.ret ?_ | refine Vc.skip ?_ | refine Vc.exit ?_ | refine mkSl (by omega) (by omega) ?_); conv => whnf) | refine Vc.seq ?_)
    refine ifB_d (fun g => ?_) (fun g => ?_)
    all_goals conv => whnf
    · repeat' first | ((first | refine Sq.cons ?_ | refine Dr.cons ?_ | refine Sq.nil ?_ | (refine Dr.nil ?_; refine drawIf (by kernel_rfl) ?_) | refine Vc.region rfl ?_ | refine Vc.draw rfl (by kernel_rfl) ?_ | refine Vc.cond ?_ | refine Vc.block ?_ | refine Vc.ret ?_ | refine Vc.skip ?_ | refine Vc.exit ?_ | refine mkSl (by omega) (by omega) ?_); conv => whnf) | refine Vc.seq ?_ | (refine ifB_i (fun _ => ?_) (fun _ => ?_) <;> conv => whnf) | (refine ixN (enc := rI) default (by omega) ?_; conv => whnf) | (refine ⟨_, zeros_1 _, ?_⟩; conv => whnf) | (refine w64 (by omega) (by omega) ?_; conv => whnf)
      · rename_i h
        exact rI' (idx_hit (p := fun (x : Int) => !decide (x = 0)) default (by omega) h fun j hj => hi j hj (by omega)).symm
      · rename_i h
        refine ⟨⟨i.1 + 1, fun j hj hl => ?_⟩, ?_, ?_⟩
        · by_cases hji : j < i.1
          · exact hi j hji hl
          · obtain rfl : j = i.1 := by omega
            exact h
        · simp only; omega
        · repeat' (first | exact True.intro | ((conv => whnf); first | exact True.intro | refine ⟨by rfl, ?_⟩ | refine ⟨?_, ?_⟩))
    · (repeat' first | ((first | refine Sq.cons ?_ | refine Dr.cons ?_ | refine Sq.nil ?_ | (refine Dr.nil ?_; refine drawIf (by kernel_rfl) ?_) | refine Vc.region rfl ?_ | refine Vc.draw rfl (by kernel_rfl) ?_ | refine Vc.cond ?_ | refine Vc.block ?_ | refine Vc.ret ?_ | refine Vc.skip ?_ | refine Vc.exit ?_ | refine mkSl (by omega) (by omega) ?_); conv => whnf) | refine Vc.seq ?_)
      exact rI' (idx_none (p := fun (x : Int) => !decide (x = 0)) default fun j hj => hi j (by omega) hj).symm
theorem zeros_any  (l : List Int) : Sem P 188 [(.pure, .one (sI l)), (.pure, .one (.fn 344 []))] [] (B (l.any fun (x : Int) => !decide (x = 0))) := by
  refine fn_okR (E := E0) E0_tab E0_ord (fn := Go.Proofs.Tryz.f188) (by kernel_rfl) (by kernel_rfl) (fun hb => ?_)
  conv => whnf
  repeat' first | ((first | refine Sq.cons ?_ | refine Dr.cons ?_ | refine Sq.nil ?_ | (refine Dr.nil ?_; refine drawIf (by kernel_rfl) ?_) | refine Vc.region rfl ?_ | refine Vc.draw rfl (by kernel_rfl) ?_ | refine Vc.cond ?_ | refine Vc.block ?_ | refine Vc.ret ?_ | refine Vc.skip ?_ | refine Vc.exit ?_ | refine mkSl (by omega) (by omega) ?_); conv => whnf) | refine Vc.seq ?_ | (refine ifB_i (fun _ => ?_) (fun _ => ?_) <;> conv => whnf) | (refine ⟨_, zeros_any_ix  l, ?_⟩; conv => whnf)
  exact rB (idx_any _ _)
theorem impl_zeros (l : List Int) : Sem P 291 [(.pure, AI l)] [] (B (zeros l)) := by
  refine fn_okR (E := E0) E0_tab E0_ord (fn := Go.Proofs.Tryz.f291) (by kernel_rfl) (by kernel_rfl) (fun hb => ?_)
  conv => whnf
  repeat' first | ((first | refine Sq.cons ?_ | refine Dr.cons ?_ | refine Sq.nil ?_ | (refine Dr.nil ?_; refine drawIf (by kernel_rfl) ?_) | refine Vc.region rfl ?_ | refine Vc.draw rfl (by kernel_rfl) ?_ | refine Vc.cond ?_ | refine Vc.block ?_ | refine Vc.ret ?_ | refine Vc.skip ?_ | refine Vc.exit ?_ | refine mkSl (by omega) (by omega) ?_); conv => whnf) | refine Vc.seq ?_ | (refine ifB_i (fun _ => ?_) (fun _ => ?_) <;> conv => whnf) | (refine ⟨_, zeros_any l, ?_⟩; conv => whnf)
  exact rB (any_all _ _)
theorem part_1 (n : Int) : Sem P 343 [(.pure, I n)] [] (B (!decide (n = 0))) := by
  refine fn_okR (E := E0) E0_tab E0_ord (fn := Go.Proofs.Tryz.f343) (by kernel_rfl) (by kernel_rfl) (fun hb => ?_)
  conv => whnf
  (repeat' first | ((first | refine Sq.cons ?_ | refine Dr.cons ?_ | refine Sq.nil ?_ | (refine Dr.nil ?_; refine drawIf (by kernel_rfl) ?_) | refine Vc.region rfl ?_ | refine Vc.draw rfl (by kernel_rfl) ?_ | refine Vc.cond ?_ | refine Vc.block ?_ | refine Vc.ret ?_ | refine Vc.skip ?_ | refine Vc.exit ?_ | refine mkSl (by omega) (by omega) ?_); conv => whnf) | refine Vc.seq ?_)
  exact rB rfl
theorem part_any_ix  (l : List Int) : Sem P 286 [(.pure, .one (sI l)), (.pure, .one (.fn 343 []))] [] (I (idxOf (fun (x : Int) => !decide (x = 0)) l)) := by
  refine fn_okR (E := E0) E0_tab E0_ord (fn := Go.Proofs.Tryz.f286) (by kernel_rfl) (by kernel_rfl) (fun hb => ?_)
  have la : (ints l).length = l.length := List.length_map ..
  have hb1 : (ints l).length ≤ 1125899906842624 := hb.1.1
  conv => whnf
  (repeat' first | ((first | refine Sq.cons ?_ | refine Dr.cons ?_ | refine Sq.nil ?_ | (refine Dr.nil ?_; refine drawIf (by kernel_rfl) ?_) | refine Vc.region rfl ?_ | refine Vc.draw rfl (by kernel_rfl) ?_ | refine Vc.cond ?_ | refine Vc.block ?_ | refine Vc.ret ?_ | refine Vc.skip ?_ | refine Vc.exit ?_ | refine mkSl (by omega) (by omega) ?_); conv => whnf) | refine Vc.seq ?_)
  refine Vc.loop { i : Nat // ∀ j, j < i → j < l.length → (fun (x : Int) => !decide (x = 0)) (l.getD j default) = false } (fun i => updL [0, 1, 7] [(8, I i.1)] []) (fun i => l.length - i.1) ⟨0, by simp⟩ ?_ (fun i => ?_)
  · repeat' (first | exact True.intro | ((conv => whnf); first | exact True.intro | refine ⟨by rfl, ?_⟩ | refine ⟨?_, ?_⟩))
  · have hi := i.2
    conv => whnf
    (repeat' first | ((first | refine Sq.cons ?_ | refine Dr.cons ?_ | refine Sq.nil ?_ | (refine Dr.nil ?_; refine drawIf (by kernel_rfl) ?_) | refine Vc.region rfl ?_ | refine Vc.draw rfl (by kernel_rfl) ?_ | refine Vc.cond ?_ | refine Vc.block ?_ | refine Vc.ret ?_ | refine Vc.skip ?_ | refine Vc.exit ?_ | refine mkSl (by omega) (by omega) ?_); conv => whnf) | refine Vc.seq ?_)
    refine ifB_d (fun g => ?_) (fun g => ?_)
    all_goals conv => whnf
    · repeat' first | ((first | refine Sq.cons ?_ | refine Dr.cons ?_ | refine Sq.nil ?_ | (refine Dr.nil ?_; refine drawIf (by kernel_rfl) ?_) | refine Vc.region rfl ?_ | refine Vc.draw rfl (by kernel_rfl) ?_ | refine Vc.cond ?_ | refine Vc.block ?_ | refine Vc.ret ?_ | refine Vc.skip ?_ | refine Vc.exit ?_ | refine mkSl (by omega) (by omega) ?_); conv => whnf) | refine Vc.seq ?_ | (refine ifB_i (fun _ => ?_) (fun _ => ?_) <;> conv => whnf) | (refine ixN (enc := rI) default (by omega) ?_; conv => whnf) | (refine ⟨_, part_1 _, ?_⟩; conv => whnf) | (refine w64 (by omega) (by omega) ?_; conv => whnf)
      · rename_i h
        exact rI' (idx_hit (p := fun (x : Int) => !decide (x = 0)) default (by omega) h fun j hj => hi j hj (by omega)).symm
      · rename_i h
        refine ⟨⟨i.1 + 1, fun j hj hl => ?_⟩, ?_, ?_⟩
        · by_cases hji : j < i.1
          · exact hi j hji hl
          · obtain rfl : j = i.1 := by omega
            exact h
        · simp only; omega
        · repeat' (first | exact True.intro | ((conv => whnf); first | exact True.intro | refine ⟨by rfl, ?_⟩ | refine ⟨?_, ?_⟩))
    · (repeat' first | ((first | refine Sq.cons ?_ | refine Dr.cons ?_ | refine Sq.nil ?_ | (refine Dr.nil ?_; refine drawIf (by kernel_rfl) ?_) | refine Vc.region rfl ?_ | refine Vc.draw rfl (by kernel_rfl) ?_ | refine Vc.cond ?_ | refine Vc.block ?_ | refine Vc.ret ?_ | refine Vc.skip ?_ | refine Vc.exit ?_ | refine mkSl (by omega) (by omega) ?_); conv => whnf) | refine Vc.seq ?_)
      exact rI' (idx_none (p := fun (x : Int) => !decide (x = 0)) default fun j hj => hi j (by omega) hj).symm
theorem has_1 (q p : List Int) : Sem P 346 [(.pure, AI q), (.pure, .one (.fp [] [sI p] 0))] [] (B (decide (q = p))) := by
  refine fn_okR (E := E0) E0_tab E0_ord (fn := Go.Proofs.Tryz.f346) (by kernel_rfl) (by kernel_rfl) (fun hb => ?_)
  conv => whnf
  repeat' first | ((first | refine Sq.cons ?_ | refine Dr.cons ?_ | refine Sq.nil ?_ | (refine Dr.nil ?_; refine drawIf (by kernel_rfl) ?_) | refine Vc.region rfl ?_ | refine Vc.draw rfl (by kernel_rfl) ?_ | refine Vc.cond ?_ | refine Vc.block ?_ | refine Vc.ret ?_ | refine Vc.skip ?_ | refine Vc.exit ?_ | refine mkSl (by omega) (by omega) ?_); conv => whnf) | refine Vc.seq ?_ | (refine ifB_i (fun _ => ?_) (fun _ => ?_) <;> conv => whnf) | (refine ⟨_, ints_eq q p, ?_⟩; conv => whnf)
  exact ⟨rfl, rfl⟩
theorem has_any_ix (p : List Int) (l : List (List Int)) : Sem P 345 [(.pure, .one (sPs l)), (.pure, .one (.fn 346 [.fp [] [sI p] 0]))] [] (I (idxOf (fun (x : (List Int)) => decide (x = p)) l)) := by
  refine fn_okR (E := E0) E0_tab E0_ord (fn := Go.Proofs.Tryz.f345) (by kernel_rfl) (by kernel_rfl) (fun hb => ?_)
  have la : (l.map eP).length = l.length := List.length_map ..
  have hb1 : (l.map eP).length ≤ 1125899906842624 := hb.1.1
  conv => whnf
  (repeat' first | ((first | refine Sq.cons ?_ | refine Dr.cons ?_ | refine Sq.nil ?_ | (refine Dr.nil ?_; refine drawIf (by kernel_rfl) ?_) | refine Vc.region rfl ?_ | refine Vc.draw rfl (by kernel_rfl) ?_ | refine Vc.cond ?_ | refine Vc.block ?_ | refine Vc.ret ?_ | refine Vc.skip ?_ | refine Vc.exit ?_ | refine mkSl (by omega) (by omega) ?_); conv => whnf) | refine Vc.seq ?_)
  refine Vc.loop { i : Nat // ∀ j, j < i → j < l.length → (fun (x : (List Int)) => decide (x = p)) (l.getD j default) = false } (fun i => updL [0, 1, 7] [(8, I i.1)] []) (fun i => l.length - i.1) ⟨0, by simp⟩ ?_ (fun i => ?_)
  · repeat' (first | exact True.intro | ((conv => whnf); first | exact True.intro | refine ⟨by rfl, ?_⟩ | refine ⟨?_, ?_⟩))
  · have hi := i.2
    conv => whnf
    (repeat' first | ((first | refine Sq.cons ?_ | refine Dr.cons ?_ | refine Sq.nil ?_ | (refine Dr.nil ?_; refine drawIf (by kernel_rfl) ?_) | refine Vc.region rfl ?_ | refine Vc.draw rfl (by kernel_rfl) ?_ | refine Vc.cond ?_ | refine Vc.block ?_ | refine Vc.ret ?_ | refine Vc.skip ?_ | refine Vc.exit ?_ | refine mkSl (by omega) (by omega) ?_); conv => whnf) | refine Vc.seq ?_)
    refine ifB_d (fun g => ?_) (fun g => ?_)
    all_goals conv => whnf
    · repeat' first | ((first | refine Sq.cons ?_ | refine Dr.cons ?_ | refine Sq.nil ?_ | (refine Dr.nil ?_; refine drawIf (by kernel_rfl) ?_) | refine Vc.region rfl ?_ | refine Vc.draw rfl (by kernel_rfl) ?_ | refine Vc.cond ?_ | refine Vc.block ?_ | refine Vc.ret ?_ | refine Vc.skip ?_ | refine Vc.exit ?_ | refine mkSl (by omega) (by omega) ?_); conv => whnf) | refine Vc.seq ?_ | (refine ifB_i (fun _ => ?_) (fun _ => ?_) <;> conv => whnf) | (refine ixN (enc := eP) default (by omega) ?_; conv => whnf) | (refine ⟨_, has_1 _ p, ?_⟩; conv => whnf) | (refine w64 (by omega) (by omega) ?_; conv => whnf)
      · rename_i h
        exact rI' (idx_hit (p := fun (x : (List Int)) => decide (x = p)) default (by omega) h fun j hj => hi j hj (by omega)).symm
      · rename_i h
        refine ⟨⟨i.1 + 1, fun j hj hl => ?_⟩, ?_, ?_⟩
        · by_cases hji : j < i.1
          · exact hi j hji hl
          · obtain rfl : j = i.1 := by omega
            exact h
        · simp only; omega
        · repeat' (first | exact True.intro | ((conv => whnf); first | exact True.intro | refine ⟨by rfl, ?_⟩ | refine ⟨?_, ?_⟩))
    · (repeat' first | ((first | refine Sq.cons ?_ | refine Dr.cons ?_ | refine Sq.nil ?_ | (refine Dr.nil ?_; refine drawIf (by kernel_rfl) ?_) | refine Vc.region rfl ?_ | refine Vc.draw rfl (by kernel_rfl) ?_ | refine Vc.cond ?_ | refine Vc.block ?_ | refine Vc.ret ?_ | refine Vc.skip ?_ | refine Vc.exit ?_ | refine mkSl (by omega) (by omega) ?_); conv => whnf) | refine Vc.seq ?_)
      exact rI' (idx_none (p := fun (x : (List Int)) => decide (x = p)) default fun j hj => hi j (by omega) hj).symm
theorem impl_has (l : List (List Int)) (p : List Int) : Sem P 292 [(.pure, .one (sPs l)), (.pure, AI p)] [] (I (idxOf (fun q => decide (q = p)) l)) := by
  refine fn_okR (E := E0) E0_tab E0_ord (fn := Go.Proofs.Tryz.f292) (by kernel_rfl) (by kernel_rfl) (fun hb => ?_)
  conv => whnf
  repeat' first | ((first | refine Sq.cons ?_ | refine Dr.cons ?_ | refine Sq.nil ?_ | (refine Dr.nil ?_; refine drawIf (by kernel_rfl) ?_) | refine Vc.region rfl ?_ | refine Vc.draw rfl (by kernel_rfl) ?_ | refine Vc.cond ?_ | refine Vc.block ?_ | refine Vc.ret ?_ | refine Vc.skip ?_ | refine Vc.exit ?_ | refine mkSl (by omega) (by omega) ?_); conv => whnf) | refine Vc.seq ?_ | (refine ifB_i (fun _ => ?_) (fun _ => ?_) <;> conv => whnf) | (refine ⟨_, has_any_ix p l, ?_⟩; conv => whnf)
  exact ⟨rfl, rfl⟩
theorem idx_sign : ∀ c : List Int, (idxOf (fun n => !decide (n = 0)) c < 0 → ∀ x ∈ c, x = 0) ∧ (0 ≤ idxOf (fun n => !decide (n = 0)) c → idxOf (fun n => !decide (n = 0)) c < c.length ∧
    (c.getD (idxOf (fun n => !decide (n = 0)) c).toNat 0 < 0 → sign c = -1) ∧ (¬ c.getD (idxOf (fun n => !decide (n = 0)) c).toNat 0 < 0 → sign c = 1))
  | [] => by simp [idxOf]
  | a :: r => by
    obtain ⟨h1, h2⟩ := idx_sign r
    by_cases ha : a = 0
    · subst ha
      have lo := idx_lo (fun n : Int => !decide (n = 0)) r
      have e : idxOf (fun n => !decide (n = 0)) ((0 : Int) :: r) = if idxOf (fun n => !decide (n = 0)) r < 0 then -1 else idxOf (fun n => !decide (n = 0)) r + 1 := by simp [idxOf]
      have es : sign (0 :: r) = sign r := by simp [sign]
      rw [e, es]
      by_cases hr : idxOf (fun n => !decide (n = 0)) r < 0
      · rw [if_pos hr]
        refine ⟨fun _ x hx => ?_, fun h => by omega⟩
        rcases List.mem_cons.1 hx with rfl | hx
        · rfl
        · exact h1 hr x hx
      · rw [if_neg hr]
        obtain ⟨a1, a2, a3⟩ := h2 (by omega)
        refine ⟨fun h => by omega, fun _ => ⟨by simp only [List.length_cons]; omega, ?_⟩⟩
        have et : (idxOf (fun n => !decide (n = 0)) r + 1).toNat = (idxOf (fun n => !decide (n = 0)) r).toNat + 1 := by omega
        rw [et, List.getD_cons_succ]
        exact ⟨a2, a3⟩
    · have e : idxOf (fun n => !decide (n = 0)) (a :: r) = 0 := by simp [idxOf, ha]
      rw [e]
      refine ⟨fun h => by omega, fun _ => ⟨by simp only [List.length_cons]; omega, fun h => ?_, fun h => ?_⟩⟩
      · have h : a < 0 := by simpa using h
        simp only [sign]; rw [if_neg (by omega), if_pos h]
      · have h : ¬ a < 0 := by simpa using h
        simp only [sign]; rw [if_pos (by omega)]
theorem part_zero {c : List Int} (h : ∀ x ∈ c, x = 0) : part c = c := by
  unfold part
  calc c.map (fun x => sign c * x) = c.map id := List.map_congr_left fun x hx => by rw [h x hx]; simp
    _ = c := by simp
theorem part_pos {c : List Int} (h : sign c = 1) : part c = c := by unfold part; rw [h]; simp
theorem part_neg {c : List Int} (h : sign c = -1) : part c = c.map fun x => -x := by unfold part; rw [h]; exact List.map_congr_left fun x _ => by omega
theorem impl_part (c D : List Int) (K : Int) (hl : c.length ≤ 100) (hx : ∀ x ∈ c, -1000000000000 ≤ x ∧ x ≤ 1000000000000) : Sem P 290 [(.pure, .agg [sI c, sI D, eI K])] [] (AI (part c)) := by
  obtain ⟨i1, i2⟩ := idx_sign c
  have px := part_any_ix c
  generalize idxOf (fun (x : Int) => !decide (x = 0)) c = ix at i1 i2 px
  have lc := ints_len c
  by_cases h0 : 0 ≤ ix
  · obtain ⟨i3, i4, i5⟩ := i2 h0
    refine fn_okR (E := { E0 with keep := [2002] }) E0_tab E0_ord (fn := Go.Proofs.Tryz.f290) (by kernel_rfl) (by kernel_rfl) (fun hb => ?_)
    conv => whnf
    repeat' first | ((first | refine Sq.cons ?_ | refine Dr.cons ?_ | refine Sq.nil ?_ | (refine Dr.nil ?_; refine drawIf (by kernel_rfl) ?_) | refine Vc.region rfl ?_ | refine Vc.draw rfl (by kernel_rfl) ?_ | refine Vc.cond ?_ | refine Vc.block ?_ | refine Vc.ret ?_ | refine Vc.skip ?_ | refine Vc.exit ?_ | refine mkSl (by omega) (by omega) ?_); conv => whnf) | refine Vc.seq ?_ | (refine ifB_i (fun _ => ?_) (fun _ => ?_) <;> conv => whnf) | (refine ⟨_, ints_clone c (by omega), ?_⟩; conv => whnf) | (refine ⟨_, px, ?_⟩; conv => whnf) | (refine ioN (by omega) (by omega) ?_; conv => whnf) | (refine rwN (enc := rI) 0 (by omega) ?_; conv => whnf)
    · rename_i h2
      have hs := i4 (of_decide_eq_true h2)
      refine Vc.loop1 (fun (k : Nat) => k ≤ c.length) (fun k => updL [2, 3, 21, 34] [(22, I k)] [(128128, .arr 3 (ints ((c.take k).map (fun x => -x) ++ c.drop k)) false)]) (fun k => c.length - k) 0 (Nat.zero_le _) ?_ (fun k hk => ?_)
      · repeat' (first | exact True.intro | ((conv => whnf); first | exact True.intro | refine ⟨by rfl, ?_⟩ | refine ⟨by first | omega | (show (_ : Int) = _; first | omega | (dsimp only; omega)), ?_⟩ | refine ⟨?_, ?_⟩))
      · have hlo : (ints ((c.take k).map (fun x => -x) ++ c.drop k)).length = c.length := by rw [ints_len, List.length_append, List.length_map, List.length_take, List.length_drop]; omega
        conv => whnf
        (repeat' first | ((first | refine Sq.cons ?_ | refine Dr.cons ?_ | refine Sq.nil ?_ | (refine Dr.nil ?_; refine drawIf (by kernel_rfl) ?_) | refine Vc.region rfl ?_ | refine Vc.draw rfl (by kernel_rfl) ?_ | refine Vc.cond ?_ | refine Vc.block ?_ | refine Vc.ret ?_ | refine Vc.skip ?_ | refine Vc.exit ?_ | refine mkSl (by omega) (by omega) ?_); conv => whnf) | refine Vc.seq ?_)
        refine ifB_d (fun g => ?_) (fun g => ?_)
        all_goals conv => whnf
        · have hkl : k < c.length := by omega
          have b1 := hx (c.getD k 0) (gd_mem hkl)
          have eg : ((c.take k).map (fun x => -x) ++ c.drop k).getD k 0 = c.getD k 0 := by
            rw [List.getD_eq_getElem?_getD, List.getElem?_append_right (by rw [List.length_map, List.length_take]; omega), List.length_map, List.length_take, Nat.min_eq_left (by omega), List.getElem?_drop]
            simp [List.getD_eq_getElem?_getD]
          have es : ((c.take k).map (fun x => -x) ++ c.drop k).set k (-(c.getD k 0)) = (c.take (k + 1)).map (fun x => -x) ++ c.drop (k + 1) := by
            rw [List.set_append_right _ _ (by rw [List.length_map, List.length_take]; omega), List.length_map, List.length_take, Nat.min_eq_left (by omega), Nat.sub_self, List.drop_eq_getElem_cons hkl, List.set_cons_zero, show c.take (k + 1) = c.take k ++ [c.getD k 0] from take_succ_getD hkl, List.map_append, List.append_assoc]
            rfl
          repeat' first | ((first | refine Sq.cons ?_ | refine Dr.cons ?_ | refine Sq.nil ?_ | (refine Dr.nil ?_; refine drawIf (by kernel_rfl) ?_) | refine Vc.region rfl ?_ | refine Vc.draw rfl (by kernel_rfl) ?_ | refine Vc.cond ?_ | refine Vc.block ?_ | refine Vc.ret ?_ | refine Vc.skip ?_ | refine Vc.exit ?_ | refine mkSl (by omega) (by omega) ?_); conv => whnf) | refine Vc.seq ?_ | (refine ifB_i (fun _ => ?_) (fun _ => ?_) <;> conv => whnf) | (refine ioN (by omega) (by omega) ?_; conv => whnf) | (refine rwN (enc := rI) 0 (by rw [← ints_len]; omega) ?_; conv => whnf) | (refine w64 (by first | omega | (simp only [Int.toNat_natCast]; omega)) (by first | omega | (simp only [Int.toNat_natCast]; omega)) ?_; conv => whnf)
          refine ⟨k + 1, by omega, by simp only; omega, ?_⟩
          repeat' (first | exact True.intro | ((conv => whnf); first | exact True.intro | refine ⟨by rfl, ?_⟩ | refine ⟨by first | omega | (show (_ : Int) = _; first | omega | (dsimp only; omega)) | exact (by simp only [Int.toNat_natCast]; rw [set_ints, eg, Int.zero_sub, es]), ?_⟩ | refine ⟨?_, ?_⟩))
        · (repeat' first | ((first | refine Sq.cons ?_ | refine Dr.cons ?_ | refine Sq.nil ?_ | (refine Dr.nil ?_; refine drawIf (by kernel_rfl) ?_) | refine Vc.region rfl ?_ | refine Vc.draw rfl (by kernel_rfl) ?_ | refine Vc.cond ?_ | refine Vc.block ?_ | refine Vc.ret ?_ | refine Vc.skip ?_ | refine Vc.exit ?_ | refine mkSl (by omega) (by omega) ?_); conv => whnf) | refine Vc.seq ?_)
          have hend : k = c.length := by omega
          subst hend
          exact ⟨by rw [part_neg hs, List.take_length, List.drop_length, List.append_nil], rfl⟩
    · rename_i h2
      exact ⟨by rw [part_pos (i5 (of_decide_eq_false h2))], rfl⟩
    all_goals (exfalso; simp_all; done)
  · refine fn_okR (E := { E0 with keep := [2002] }) E0_tab E0_ord (fn := Go.Proofs.Tryz.f290) (by kernel_rfl) (by kernel_rfl) (fun hb => ?_)
    conv => whnf
    repeat' first | ((first | refine Sq.cons ?_ | refine Dr.cons ?_ | refine Sq.nil ?_ | (refine Dr.nil ?_; refine drawIf (by kernel_rfl) ?_) | refine Vc.region rfl ?_ | refine Vc.draw rfl (by kernel_rfl) ?_ | refine Vc.cond ?_ | refine Vc.block ?_ | refine Vc.ret ?_ | refine Vc.skip ?_ | refine Vc.exit ?_ | refine mkSl (by omega) (by omega) ?_); conv => whnf) | refine Vc.seq ?_ | (refine ifB_i (fun _ => ?_) (fun _ => ?_) <;> conv => whnf) | (refine ⟨_, ints_clone c (by omega), ?_⟩; conv => whnf) | (refine ⟨_, px, ?_⟩; conv => whnf)
    · exfalso; rename_i h; exact h0 (of_decide_eq_true h)
    · exact ⟨by rw [part_zero (i1 (by omega))], rfl⟩
theorem rd_1 (f : Form) (v : Nat) (hv : v < 3) (hf : f.sh) : Sem P 348 [(.pure, .agg (aF f)), (.pure, .one (.fp [] [eI v] 0))] [] (B (!decide (f.C.getD v 0 = 0))) := by
  have hC := hf.1
  have lc := ints_len f.C
  refine fn_okR (E := E0) E0_tab E0_ord (fn := Go.Proofs.Tryz.f348) (by kernel_rfl) (by kernel_rfl) (fun hb => ?_)
  conv => whnf
  repeat' first | ((first | refine Sq.cons ?_ | refine Dr.cons ?_ | refine Sq.nil ?_ | (refine Dr.nil ?_; refine drawIf (by kernel_rfl) ?_) | refine Vc.region rfl ?_ | refine Vc.draw rfl (by kernel_rfl) ?_ | refine Vc.cond ?_ | refine Vc.block ?_ | refine Vc.ret ?_ | refine Vc.skip ?_ | refine Vc.exit ?_ | refine mkSl (by omega) (by omega) ?_); conv => whnf) | refine Vc.seq ?_ | (refine ifB_i (fun _ => ?_) (fun _ => ?_) <;> conv => whnf) | (refine ixN (enc := rI) 0 (by omega) ?_; conv => whnf)
  exact ⟨rfl, rfl⟩
theorem rd_any_ix (v : Nat) (hv : v < 3) (l : List Form) (hl : ∀ (x : Form), x ∈ l → x.sh) : Sem P 363 [(.pure, .one (sFs l)), (.pure, .one (.fn 348 [.fp [] [eI v] 0]))] [] (I (idxOf (fun (x : Form) => !decide (x.C.getD v 0 = 0)) l)) := by
  refine fn_okR (E := E0) E0_tab E0_ord (fn := Go.Proofs.Tryz.f363) (by kernel_rfl) (by kernel_rfl) (fun hb => ?_)
  have la : (l.map eF).length = l.length := List.length_map ..
  have hb1 : (l.map eF).length ≤ 1125899906842624 := hb.1.1
  conv => whnf
  (repeat' first | ((first | refine Sq.cons ?_ | refine Dr.cons ?_ | refine Sq.nil ?_ | (refine Dr.nil ?_; refine drawIf (by kernel_rfl) ?_) | refine Vc.region rfl ?_ | refine Vc.draw rfl (by kernel_rfl) ?_ | refine Vc.cond ?_ | refine Vc.block ?_ | refine Vc.ret ?_ | refine Vc.skip ?_ | refine Vc.exit ?_ | refine mkSl (by omega) (by omega) ?_); conv => whnf) | refine Vc.seq ?_)
  refine Vc.loop { i : Nat // ∀ j, j < i → j < l.length → (fun (x : Form) => !decide (x.C.getD v 0 = 0)) (l.getD j default) = false } (fun i => updL [0, 1, 7] [(8, I i.1)] []) (fun i => l.length - i.1) ⟨0, by simp⟩ ?_ (fun i => ?_)
  · repeat' (first | exact True.intro | ((conv => whnf); first | exact True.intro | refine ⟨by rfl, ?_⟩ | refine ⟨?_, ?_⟩))
  · have hi := i.2
    conv => whnf
    (repeat' first | ((first | refine Sq.cons ?_ | refine Dr.cons ?_ | refine Sq.nil ?_ | (refine Dr.nil ?_; refine drawIf (by kernel_rfl) ?_) | refine Vc.region rfl ?_ | refine Vc.draw rfl (by kernel_rfl) ?_ | refine Vc.cond ?_ | refine Vc.block ?_ | refine Vc.ret ?_ | refine Vc.skip ?_ | refine Vc.exit ?_ | refine mkSl (by omega) (by omega) ?_); conv => whnf) | refine Vc.seq ?_)
    refine ifB_d (fun g => ?_) (fun g => ?_)
    all_goals conv => whnf
    · repeat' first | ((first | refine Sq.cons ?_ | refine Dr.cons ?_ | refine Sq.nil ?_ | (refine Dr.nil ?_; refine drawIf (by kernel_rfl) ?_) | refine Vc.region rfl ?_ | refine Vc.draw rfl (by kernel_rfl) ?_ | refine Vc.cond ?_ | refine Vc.block ?_ | refine Vc.ret ?_ | refine Vc.skip ?_ | refine Vc.exit ?_ | refine mkSl (by omega) (by omega) ?_); conv => whnf) | refine Vc.seq ?_ | (refine ifB_i (fun _ => ?_) (fun _ => ?_) <;> conv => whnf) | (refine ixN (enc := eF) default (by omega) ?_; conv => whnf) | (refine ⟨_, rd_1 _ v hv (hl _ (gd_mem (by omega))), ?_⟩; conv => whnf) | (refine w64 (by omega) (by omega) ?_; conv => whnf)
      · rename_i h
        exact rI' (idx_hit (p := fun (x : Form) => !decide (x.C.getD v 0 = 0)) default (by omega) h fun j hj => hi j hj (by omega)).symm
      · rename_i h
        refine ⟨⟨i.1 + 1, fun j hj hl => ?_⟩, ?_, ?_⟩
        · by_cases hji : j < i.1
          · exact hi j hji hl
          · obtain rfl : j = i.1 := by omega
            exact h
        · simp only; omega
        · repeat' (first | exact True.intro | ((conv => whnf); first | exact True.intro | refine ⟨by rfl, ?_⟩ | refine ⟨?_, ?_⟩))
    · (repeat' first | ((first | refine Sq.cons ?_ | refine Dr.cons ?_ | refine Sq.nil ?_ | (refine Dr.nil ?_; refine drawIf (by kernel_rfl) ?_) | refine Vc.region rfl ?_ | refine Vc.draw rfl (by kernel_rfl) ?_ | refine Vc.cond ?_ | refine Vc.block ?_ | refine Vc.ret ?_ | refine Vc.skip ?_ | refine Vc.exit ?_ | refine mkSl (by omega) (by omega) ?_); conv => whnf) | refine Vc.seq ?_)
      exact rI' (idx_none (p := fun (x : Form) => !decide (x.C.getD v 0 = 0)) default fun j hj => hi j (by omega) hj).symm
theorem rd_any (v : Nat) (hv : v < 3) (l : List Form) (hl : ∀ (x : Form), x ∈ l → x.sh) : Sem P 328 [(.pure, .one (sFs l)), (.pure, .one (.fn 348 [.fp [] [eI v] 0]))] [] (B (l.any fun (x : Form) => !decide (x.C.getD v 0 = 0))) := by
  refine fn_okR (E := E0) E0_tab E0_ord (fn := Go.Proofs.Tryz.f328) (by kernel_rfl) (by kernel_rfl) (fun hb => ?_)
  conv => whnf
  repeat' first | ((first | refine Sq.cons ?_ | refine Dr.cons ?_ | refine Sq.nil ?_ | (refine Dr.nil ?_; refine drawIf (by kernel_rfl) ?_) | refine Vc.region rfl ?_ | refine Vc.draw rfl (by kernel_rfl) ?_ | refine Vc.cond ?_ | refine Vc.block ?_ | refine Vc.ret ?_ | refine Vc.skip ?_ | refine Vc.exit ?_ | refine mkSl (by omega) (by omega) ?_); conv => whnf) | refine Vc.seq ?_ | (refine ifB_i (fun _ => ?_) (fun _ => ?_) <;> conv => whnf) | (refine ⟨_, rd_any_ix v hv l hl, ?_⟩; conv => whnf)
  exact rB (idx_any _ _)
theorem take_flat {l : List (List Form)} {i : Nat} (h : i < l.length) : (l.take (i + 1)).flatten = (l.take i).flatten ++ l.getD i [] := by
  rw [show l.take (i + 1) = l.take i ++ [l.getD i []] from take_succ_getD h, List.flatten_append]; simp
theorem flat_len : ∀ (l : List (List Form)), (∀ x ∈ l, x.length ≤ 100) → l.flatten.length ≤ l.length * 100
  | [], _ => by simp
  | a :: r, h => by
    have := flat_len r fun x hx => h x (List.mem_cons_of_mem _ hx)
    have := h a (by simp)
    simp only [List.flatten_cons, List.length_append, List.length_cons]; omega
theorem frz_forms (l : List Form) : frzOk (l.map eF) := by
  intro row h a ha
  obtain ⟨f, _, rfl⟩ := List.mem_map.1 h
  simp only [List.mem_cons, List.not_mem_nil, or_false] at ha
  rcases ha with rfl | rfl | rfl
  · exact .inr (.inr ⟨_, _, rfl⟩)
  · exact .inr (.inr ⟨_, _, rfl⟩)
  · exact .inl ⟨_, rfl⟩
theorem frz_eF (l : List Form) : (l.map eF).map (List.map frz) = l.map eF := by rw [List.map_map]; rfl
theorem apF {p k : Prop} {r : List (List AV)} (h : frzOk r) (hk : k) : p ∨ (([] : List Nat) = [] ∧ frzOk r ∧ k) := .inr ⟨rfl, h, hk⟩
theorem concat_forms (l : List (List Form)) (h1 : l.length ≤ 10) (h2 : ∀ x ∈ l, x.length ≤ 100) : Sem P 347 [(.pure, .one (.sl 287 (l.map fun x => [fFs x])))] [] (.one (sFs l.flatten)) := by
  refine fn_okR (E := { E0 with keep := [10001, 14002] }) E0_tab E0_ord (fn := Go.Proofs.Tryz.f347) (by kernel_rfl) (by kernel_rfl) (fun hb => ?_)
  have la : (l.map fun x => [fFs x]).length = l.length := List.length_map ..
  have fl := fun i => flat_len (l.take i) fun x hx => h2 x (List.mem_of_mem_take hx)
  have tl := fun i => List.length_take (i := i) (l := l)
  conv => whnf
  (repeat' first | ((first | refine Sq.cons ?_ | refine Dr.cons ?_ | refine Sq.nil ?_ | (refine Dr.nil ?_; refine drawIf (by kernel_rfl) ?_) | refine Vc.region rfl ?_ | refine Vc.draw rfl (by kernel_rfl) ?_ | refine Vc.cond ?_ | refine Vc.block ?_ | refine Vc.ret ?_ | refine Vc.skip ?_ | refine Vc.exit ?_ | refine mkSl (by omega) (by omega) ?_); conv => whnf) | refine Vc.seq ?_)
  refine Vc.loop1 (fun (i : Nat) => i ≤ l.length) (fun i => updL [0, 2, 6, 8, 9, 10, 23, 24, 25, 26, 27, 28, 29, 30, 31, 32, 33, 34, 35] [(11, I i), (3, I (l.take i).flatten.length)] []) (fun i => l.length - i) 0 (Nat.zero_le _) ?_ (fun i hi => ?_)
  · repeat' (first | exact True.intro | ((conv => whnf); first | exact True.intro | refine ⟨by rfl, ?_⟩ | refine ⟨by first | omega | (show (_ : Int) = _; first | omega | (dsimp only; omega)), ?_⟩ | refine ⟨?_, ?_⟩))
  · have fi := fl i
    have ti := tl i
    conv => whnf
    (repeat' first | ((first | refine Sq.cons ?_ | refine Dr.cons ?_ | refine Sq.nil ?_ | (refine Dr.nil ?_; refine drawIf (by kernel_rfl) ?_) | refine Vc.region rfl ?_ | refine Vc.draw rfl (by kernel_rfl) ?_ | refine Vc.cond ?_ | refine Vc.block ?_ | refine Vc.ret ?_ | refine Vc.skip ?_ | refine Vc.exit ?_ | refine mkSl (by omega) (by omega) ?_); conv => whnf) | refine Vc.seq ?_)
    refine ifB_d (fun g => ?_) (fun g => ?_)
    all_goals conv => whnf
    · have hil : i < l.length := by omega
      have tf := congrArg List.length (take_flat hil)
      rw [List.length_append] at tf
      have hx : (l.getD i []).length ≤ 100 := h2 _ (gd_mem hil)
      have lf : (List.map eF (l.getD i [])).length = (l.getD i []).length := List.length_map ..
      repeat' first | ((first | refine Sq.cons ?_ | refine Dr.cons ?_ | refine Sq.nil ?_ | (refine Dr.nil ?_; refine drawIf (by kernel_rfl) ?_) | refine Vc.region rfl ?_ | refine Vc.draw rfl (by kernel_rfl) ?_ | refine Vc.cond ?_ | refine Vc.block ?_ | refine Vc.ret ?_ | refine Vc.skip ?_ | refine Vc.exit ?_ | refine mkSl (by omega) (by omega) ?_); conv => whnf) | refine Vc.seq ?_ | (refine ifB_i (fun _ => ?_) (fun _ => ?_) <;> conv => whnf) | (refine ixN (enc := fun x => [fFs x]) [] (by omega) ?_; conv => whnf) | (refine w64 (by omega) (by omega) ?_; conv => whnf)
      refine ⟨i + 1, by omega, by simp only; omega, ?_⟩
      repeat' (first | exact True.intro | ((conv => whnf); first | exact True.intro | refine ⟨by rfl, ?_⟩ | refine ⟨by first | omega | (show (_ : Int) = _; first | omega | (dsimp only; omega)), ?_⟩ | refine ⟨?_, ?_⟩))
    · have hend : l.take i = l := List.take_of_length_le (by omega)
      repeat' first | ((first | refine Sq.cons ?_ | refine Dr.cons ?_ | refine Sq.nil ?_ | (refine Dr.nil ?_; refine drawIf (by kernel_rfl) ?_) | refine Vc.region rfl ?_ | refine Vc.draw rfl (by kernel_rfl) ?_ | refine Vc.cond ?_ | refine Vc.block ?_ | refine Vc.ret ?_ | refine Vc.skip ?_ | refine Vc.exit ?_ | refine mkSl (by omega) (by omega) ?_); conv => whnf) | refine Vc.seq ?_ | (refine ifB_i (fun _ => ?_) (fun _ => ?_) <;> conv => whnf) | (refine ⟨_, forms_grow (l.take i).flatten.length (by omega), ?_⟩; conv => whnf)
      refine Vc.loop1 (fun (i : Nat) => i ≤ l.length) (fun i => updL [2, 25, 26, 35] [(27, I i), (6, .one (.ref 640064))] [(640064, .arr 129 ((l.take i).flatten.map eF) false)]) (fun i => l.length - i) 0 (Nat.zero_le _) ?_ (fun i hi => ?_)
      · repeat' (first | exact True.intro | ((conv => whnf); first | exact True.intro | refine ⟨by rfl, ?_⟩ | refine ⟨by first | omega | (show (_ : Int) = _; first | omega | (dsimp only; omega)), ?_⟩ | refine ⟨?_, ?_⟩))
      · have fi := fl i
        have ti := tl i
        conv => whnf
        (repeat' first | ((first | refine Sq.cons ?_ | refine Dr.cons ?_ | refine Sq.nil ?_ | (refine Dr.nil ?_; refine drawIf (by kernel_rfl) ?_) | refine Vc.region rfl ?_ | refine Vc.draw rfl (by kernel_rfl) ?_ | refine Vc.cond ?_ | refine Vc.block ?_ | refine Vc.ret ?_ | refine Vc.skip ?_ | refine Vc.exit ?_ | refine mkSl (by omega) (by omega) ?_); conv => whnf) | refine Vc.seq ?_)
        refine ifB_d (fun g => ?_) (fun g => ?_)
        all_goals conv => whnf
        · have hil : i < l.length := by omega
          have hx : (l.getD i []).length ≤ 100 := h2 _ (gd_mem hil)
          repeat' first | ((first | refine Sq.cons ?_ | refine Dr.cons ?_ | refine Sq.nil ?_ | (refine Dr.nil ?_; refine drawIf (by kernel_rfl) ?_) | refine Vc.region rfl ?_ | refine Vc.draw rfl (by kernel_rfl) ?_ | refine Vc.cond ?_ | refine Vc.block ?_ | refine Vc.ret ?_ | refine Vc.skip ?_ | refine Vc.exit ?_ | refine mkSl (by omega) (by omega) ?_); conv => whnf) | refine Vc.seq ?_ | (refine ifB_i (fun _ => ?_) (fun _ => ?_) <;> conv => whnf) | (refine ixN (enc := fun x => [fFs x]) [] (by omega) ?_; conv => whnf) | (refine w64 (by omega) (by omega) ?_; conv => whnf) | (refine apN (by simp only [List.length_map]; omega) ?_; conv => whnf) | (refine apF (frz_forms _) ?_; conv => whnf)
          refine ⟨i + 1, by omega, by simp only; omega, ?_⟩
          repeat' (first | exact True.intro | ((conv => whnf); first | exact True.intro | refine ⟨by rfl, ?_⟩ | refine ⟨by first | omega | (show (_ : Int) = _; first | omega | (dsimp only; omega)) | exact (by rw [take_flat hil, List.map_append, frz_eF]), ?_⟩ | refine ⟨?_, ?_⟩))
        · have hend : l.take i = l := List.take_of_length_le (by omega)
          (repeat' first | ((first | refine Sq.cons ?_ | refine Dr.cons ?_ | refine Sq.nil ?_ | (refine Dr.nil ?_; refine drawIf (by kernel_rfl) ?_) | refine Vc.region rfl ?_ | refine Vc.draw rfl (by kernel_rfl) ?_ | refine Vc.cond ?_ | refine Vc.block ?_ | refine Vc.ret ?_ | refine Vc.skip ?_ | refine Vc.exit ?_ | refine mkSl (by omega) (by omega) ?_); conv => whnf) | refine Vc.seq ?_)
          exact ⟨by rw [hend], rfl⟩
theorem impl_reads (r : Row) (v : Nat) (hv : v < 3) (h1 : shs r.Adds) (h2 : shs r.Tells) : Sem P 294 [(.pure, .agg (aW r)), (.pure, I v)] [] (B (reads (r.Adds ++ r.Tells) v)) := by
  refine fn_okR (E := E0) E0_tab E0_ord (fn := Go.Proofs.Tryz.f294) (by kernel_rfl) (by kernel_rfl) (fun hb => ?_)
  conv => whnf
  repeat' first | ((first | refine Sq.cons ?_ | refine Dr.cons ?_ | refine Sq.nil ?_ | (refine Dr.nil ?_; refine drawIf (by kernel_rfl) ?_) | refine Vc.region rfl ?_ | refine Vc.draw rfl (by kernel_rfl) ?_ | refine Vc.cond ?_ | refine Vc.block ?_ | refine Vc.ret ?_ | refine Vc.skip ?_ | refine Vc.exit ?_ | refine mkSl (by omega) (by omega) ?_); conv => whnf) | refine Vc.seq ?_ | (refine ifB_i (fun _ => ?_) (fun _ => ?_) <;> conv => whnf) | (refine ⟨_, concat_forms [r.Adds, r.Tells] (by simp) (by simp only [List.mem_cons, List.not_mem_nil, or_false]; rintro x (rfl | rfl); exact h1.1; exact h2.1), ?_⟩; conv => whnf) | (refine ⟨_, rd_any v hv [r.Adds, r.Tells].flatten (fun f hf => by simp only [List.flatten_cons, List.flatten_nil, List.append_nil] at hf; rcases List.mem_append.1 hf with hf | hf; exact h1.2 f hf; exact h2.2 f hf), ?_⟩; conv => whnf)
  exact rB (by simp [reads])
end Cc
end
section
namespace Cc
open Go Go.AM
set_option maxRecDepth 100000
set_option maxHeartbeats 4000000
theorem catOk_four {acts : List (List Line)} (h : catOk acts = true) : acts.length ≤ 4 := by
  unfold catOk at h
  rw [Bool.and_eq_true] at h
  have := inB_iff.1 h.1; omega
theorem addPart_eq' {out : List (List Int)} {g : Form} (h : g.sh) : addPart out g = if (!zeros (part g.C) && decide (idxOf (fun q => decide (q = part g.C)) out < 0)) = true then out ++ [part g.C] else out := by
  unfold addPart
  simp only [has_idx]
theorem impl_pots (acts : List (List Line)) (h4 : acts.length ≤ 4) : Sem P 293 [(.pure, .one (sAs acts)), (.pure, .one (.fn 294 []))] [] (.one (sBs (pinsOf acts))) := by
  refine fn_okR (E := E0) E0_tab E0_ord (fn := Go.Proofs.Tryz.f293) (by kernel_rfl) (by kernel_rfl) (fun hb => ?_)
  have la : (acts.map eA).length = acts.length := List.length_map ..
  conv => whnf
  (repeat' first | ((first | refine Sq.cons ?_ | refine Dr.cons ?_ | refine Sq.nil ?_ | (refine Dr.nil ?_; refine drawIf (by kernel_rfl) ?_) | refine Vc.region rfl ?_ | refine Vc.draw rfl (by kernel_rfl) ?_ | refine Vc.cond ?_ | refine Vc.block ?_ | refine Vc.ret ?_ | refine Vc.skip ?_ | refine Vc.exit ?_ | refine mkSl (by omega) (by omega) ?_); conv => whnf) | refine Vc.seq ?_)
  refine Vc.loop1 (fun (i : Nat) => i ≤ acts.length) (fun i => updL [1, 4, 5, 12, 13, 46] [(14, I i)] [(128000, .arr 4 [[eB (reads (fAt acts i 0) 0)], [eB (reads (fAt acts i 0) 1)], [eB (reads (fAt acts i 0) 2)]] false)]) (fun i => acts.length - i) 0 (by omega) ?_ (fun i hi => ?_)
  · repeat' (first | exact True.intro | ((conv => whnf); first | exact True.intro | refine ⟨by rfl, ?_⟩ | refine ⟨by first | omega | (show (_ : Int) = _; first | omega | (dsimp only; omega)), ?_⟩ | refine ⟨?_, ?_⟩))
  · conv => whnf
    (repeat' first | ((first | refine Sq.cons ?_ | refine Dr.cons ?_ | refine Sq.nil ?_ | (refine Dr.nil ?_; refine drawIf (by kernel_rfl) ?_) | refine Vc.region rfl ?_ | refine Vc.draw rfl (by kernel_rfl) ?_ | refine Vc.cond ?_ | refine Vc.block ?_ | refine Vc.ret ?_ | refine Vc.skip ?_ | refine Vc.exit ?_ | refine mkSl (by omega) (by omega) ?_); conv => whnf) | refine Vc.seq ?_)
    refine ifB_d (fun g => ?_) (fun g => ?_)
    all_goals conv => whnf
    · have hil : i < acts.length := by omega
      have hb1 : (List.map eW (rowsOf (acts.getD i []))).length = (rowsOf (acts.getD i [])).length := List.length_map ..
      have rl := rows_len (acts.getD i [])
      repeat' first | ((first | refine Sq.cons ?_ | refine Dr.cons ?_ | refine Sq.nil ?_ | (refine Dr.nil ?_; refine drawIf (by kernel_rfl) ?_) | refine Vc.region rfl ?_ | refine Vc.draw rfl (by kernel_rfl) ?_ | refine Vc.cond ?_ | refine Vc.block ?_ | refine Vc.ret ?_ | refine Vc.skip ?_ | refine Vc.exit ?_ | refine mkSl (by omega) (by omega) ?_); conv => whnf) | refine Vc.seq ?_ | (refine ifB_i (fun _ => ?_) (fun _ => ?_) <;> conv => whnf) | (refine ixN (enc := eA) [] hil ?_; conv => whnf) | (refine ⟨_, impl_rowsOf (acts.getD i []), ?_⟩; conv => whnf)
      refine Vc.loop1 (fun (k : Nat) => k ≤ (rowsOf (acts.getD i [])).length) (fun k => updL [1, 4, 5, 7, 12, 13, 14, 15, 16, 17, 18, 19, 20, 45, 46] [(21, I k)] [(128000, .arr 4 [[eB (reads (fAt acts i k) 0)], [eB (reads (fAt acts i k) 1)], [eB (reads (fAt acts i k) 2)]] false)]) (fun k => (rowsOf (acts.getD i [])).length - k) 0 (by omega) ?_ (fun k hk => ?_)
      · repeat' (first | exact True.intro | ((conv => whnf); first | exact True.intro | refine ⟨by rfl, ?_⟩ | refine ⟨by first | omega | (show (_ : Int) = _; first | omega | (dsimp only; omega)), ?_⟩ | refine ⟨?_, ?_⟩))
      · conv => whnf
        (repeat' first | ((first | refine Sq.cons ?_ | refine Dr.cons ?_ | refine Sq.nil ?_ | (refine Dr.nil ?_; refine drawIf (by kernel_rfl) ?_) | refine Vc.region rfl ?_ | refine Vc.draw rfl (by kernel_rfl) ?_ | refine Vc.cond ?_ | refine Vc.block ?_ | refine Vc.ret ?_ | refine Vc.skip ?_ | refine Vc.exit ?_ | refine mkSl (by omega) (by omega) ?_); conv => whnf) | refine Vc.seq ?_)
        refine ifB_d (fun g => ?_) (fun g => ?_)
        all_goals conv => whnf
        · have hkl : k < (rowsOf (acts.getD i [])).length := by omega
          have hmem : (rowsOf (acts.getD i [])).getD k default ∈ rowsOf (acts.getD i []) := gd_mem hkl
          obtain ⟨sg, sa, st⟩ := rows_shs hmem
          have er := fAt_row hkl
          repeat' first | ((first | refine Sq.cons ?_ | refine Dr.cons ?_ | refine Sq.nil ?_ | (refine Dr.nil ?_; refine drawIf (by kernel_rfl) ?_) | refine Vc.region rfl ?_ | refine Vc.draw rfl (by kernel_rfl) ?_ | refine Vc.cond ?_ | refine Vc.block ?_ | refine Vc.ret ?_ | refine Vc.skip ?_ | refine Vc.exit ?_ | refine mkSl (by omega) (by omega) ?_); conv => whnf) | refine Vc.seq ?_ | (refine ifB_i (fun _ => ?_) (fun _ => ?_) <;> conv => whnf) | (refine ixN (enc := eW) default hkl ?_; conv => whnf)
          refine Vc.loop1 (fun (v : Nat) => v ≤ 3) (fun v => updL [1, 4, 5, 7, 9, 12, 13, 14, 15, 16, 17, 18, 19, 20, 21, 22, 23, 24, 25, 26, 44, 45, 46] [(27, I v)] [(128000, .arr 4 [[eB (reads (fAt acts i k) 0 || (decide (0 < v) && reads (((rowsOf (acts.getD i [])).getD k default).Adds ++ ((rowsOf (acts.getD i [])).getD k default).Tells) 0))], [eB (reads (fAt acts i k) 1 || (decide (1 < v) && reads (((rowsOf (acts.getD i [])).getD k default).Adds ++ ((rowsOf (acts.getD i [])).getD k default).Tells) 1))], [eB (reads (fAt acts i k) 2 || (decide (2 < v) && reads (((rowsOf (acts.getD i [])).getD k default).Adds ++ ((rowsOf (acts.getD i [])).getD k default).Tells) 2))]] false)]) (fun v => 3 - v) 0 (by omega) ?_ (fun v hv => ?_)
          · repeat' (first | exact True.intro | ((conv => whnf); first | exact True.intro | refine ⟨by rfl, ?_⟩ | refine ⟨by first | omega | (show (_ : Int) = _; first | omega | (dsimp only; omega)) | exact by simp, ?_⟩ | refine ⟨?_, ?_⟩))
          · match v, hv with
            | 0, _ =>
              conv => whnf
              repeat' first | ((first | refine Sq.cons ?_ | refine Dr.cons ?_ | refine Sq.nil ?_ | (refine Dr.nil ?_; refine drawIf (by kernel_rfl) ?_) | refine Vc.region rfl ?_ | refine Vc.draw rfl (by kernel_rfl) ?_ | refine Vc.cond ?_ | refine Vc.block ?_ | refine Vc.ret ?_ | refine Vc.skip ?_ | refine Vc.exit ?_ | refine mkSl (by omega) (by omega) ?_); conv => whnf) | refine Vc.seq ?_ | (refine ifB_i (fun _ => ?_) (fun _ => ?_) <;> conv => whnf) | (refine ioN (by decide) (by simp) ?_; conv => whnf) | (refine rwC rfl ?_; conv => whnf) | (refine ⟨_, impl_reads ((rowsOf (acts.getD i [])).getD k default) 0 (by decide) sa st, ?_⟩; conv => whnf) | (refine w64 (by omega) (by omega) ?_; conv => whnf)
              all_goals (refine ⟨1, by omega, by simp only; omega, ?_⟩)
              all_goals (repeat' (first | exact True.intro | ((conv => whnf); first | exact True.intro | refine ⟨by rfl, ?_⟩ | refine ⟨by first | omega | (show (_ : Int) = _; first | omega | (dsimp only; omega)) | exact by simp_all, ?_⟩ | refine ⟨?_, ?_⟩)))
            | 1, _ =>
              conv => whnf
              repeat' first | ((first | refine Sq.cons ?_ | refine Dr.cons ?_ | refine Sq.nil ?_ | (refine Dr.nil ?_; refine drawIf (by kernel_rfl) ?_) | refine Vc.region rfl ?_ | refine Vc.draw rfl (by kernel_rfl) ?_ | refine Vc.cond ?_ | refine Vc.block ?_ | refine Vc.ret ?_ | refine Vc.skip ?_ | refine Vc.exit ?_ | refine mkSl (by omega) (by omega) ?_); conv => whnf) | refine Vc.seq ?_ | (refine ifB_i (fun _ => ?_) (fun _ => ?_) <;> conv => whnf) | (refine ioN (by decide) (by simp) ?_; conv => whnf) | (refine rwC rfl ?_; conv => whnf) | (refine ⟨_, impl_reads ((rowsOf (acts.getD i [])).getD k default) 1 (by decide) sa st, ?_⟩; conv => whnf) | (refine w64 (by omega) (by omega) ?_; conv => whnf)
              all_goals (refine ⟨2, by omega, by simp only; omega, ?_⟩)
              all_goals (repeat' (first | exact True.intro | ((conv => whnf); first | exact True.intro | refine ⟨by rfl, ?_⟩ | refine ⟨by first | omega | (show (_ : Int) = _; first | omega | (dsimp only; omega)) | exact by simp_all, ?_⟩ | refine ⟨?_, ?_⟩)))
            | 2, _ =>
              conv => whnf
              repeat' first | ((first | refine Sq.cons ?_ | refine Dr.cons ?_ | refine Sq.nil ?_ | (refine Dr.nil ?_; refine drawIf (by kernel_rfl) ?_) | refine Vc.region rfl ?_ | refine Vc.draw rfl (by kernel_rfl) ?_ | refine Vc.cond ?_ | refine Vc.block ?_ | refine Vc.ret ?_ | refine Vc.skip ?_ | refine Vc.exit ?_ | refine mkSl (by omega) (by omega) ?_); conv => whnf) | refine Vc.seq ?_ | (refine ifB_i (fun _ => ?_) (fun _ => ?_) <;> conv => whnf) | (refine ioN (by decide) (by simp) ?_; conv => whnf) | (refine rwC rfl ?_; conv => whnf) | (refine ⟨_, impl_reads ((rowsOf (acts.getD i [])).getD k default) 2 (by decide) sa st, ?_⟩; conv => whnf) | (refine w64 (by omega) (by omega) ?_; conv => whnf)
              all_goals (refine ⟨3, by omega, by simp only; omega, ?_⟩)
              all_goals (repeat' (first | exact True.intro | ((conv => whnf); first | exact True.intro | refine ⟨by rfl, ?_⟩ | refine ⟨by first | omega | (show (_ : Int) = _; first | omega | (dsimp only; omega)) | exact by simp_all, ?_⟩ | refine ⟨?_, ?_⟩)))
            | 3, _ =>
              conv => whnf
              repeat' first | ((first | refine Sq.cons ?_ | refine Dr.cons ?_ | refine Sq.nil ?_ | (refine Dr.nil ?_; refine drawIf (by kernel_rfl) ?_) | refine Vc.region rfl ?_ | refine Vc.draw rfl (by kernel_rfl) ?_ | refine Vc.cond ?_ | refine Vc.block ?_ | refine Vc.ret ?_ | refine Vc.skip ?_ | refine Vc.exit ?_ | refine mkSl (by omega) (by omega) ?_); conv => whnf) | refine Vc.seq ?_ | (refine ifB_i (fun _ => ?_) (fun _ => ?_) <;> conv => whnf) | (refine w64 (by omega) (by omega) ?_; conv => whnf)
              refine ⟨k + 1, by omega, by simp only; omega, ?_⟩
              repeat' (first | exact True.intro | ((conv => whnf); first | exact True.intro | refine ⟨by rfl, ?_⟩ | refine ⟨by first | omega | (show (_ : Int) = _; first | omega | (dsimp only; omega)) | exact by simp [er, reads_app, Bool.or_assoc], ?_⟩ | refine ⟨?_, ?_⟩))
        · repeat' first | ((first | refine Sq.cons ?_ | refine Dr.cons ?_ | refine Sq.nil ?_ | (refine Dr.nil ?_; refine drawIf (by kernel_rfl) ?_) | refine Vc.region rfl ?_ | refine Vc.draw rfl (by kernel_rfl) ?_ | refine Vc.cond ?_ | refine Vc.block ?_ | refine Vc.ret ?_ | refine Vc.skip ?_ | refine Vc.exit ?_ | refine mkSl (by omega) (by omega) ?_); conv => whnf) | refine Vc.seq ?_ | (refine ifB_i (fun _ => ?_) (fun _ => ?_) <;> conv => whnf) | (refine w64 (by omega) (by omega) ?_; conv => whnf)
          refine ⟨i + 1, by omega, by simp only; omega, ?_⟩
          repeat' (first | exact True.intro | ((conv => whnf); first | exact True.intro | refine ⟨by rfl, ?_⟩ | refine ⟨by first | omega | (show (_ : Int) = _; first | omega | (dsimp only; omega)) | exact (by rw [fAt_act hil (by omega)]), ?_⟩ | refine ⟨?_, ?_⟩))
    · (repeat' first | ((first | refine Sq.cons ?_ | refine Dr.cons ?_ | refine Sq.nil ?_ | (refine Dr.nil ?_; refine drawIf (by kernel_rfl) ?_) | refine Vc.region rfl ?_ | refine Vc.draw rfl (by kernel_rfl) ?_ | refine Vc.cond ?_ | refine Vc.block ?_ | refine Vc.ret ?_ | refine Vc.skip ?_ | refine Vc.exit ?_ | refine mkSl (by omega) (by omega) ?_); conv => whnf) | refine Vc.seq ?_)
      exact ⟨by rw [fAt_end (by omega)]; rfl, rfl⟩
theorem impl_catForms (acts : List (List Line)) (hc : catOk acts = true) : Sem P 195 [(.pure, .one (sAs acts))] [] (.one (sPs (partsOf acts))) := by
  have h4 : acts.length ≤ 4 := catOk_four hc
  refine fn_okR (E := E0) E0_tab E0_ord (fn := Go.Proofs.Tryz.f195) (by kernel_rfl) (by kernel_rfl) (fun hb => ?_)
  have la : (acts.map eA).length = acts.length := List.length_map ..
  conv => whnf
  repeat' first | ((first | refine Sq.cons ?_ | refine Dr.cons ?_ | refine Sq.nil ?_ | (refine Dr.nil ?_; refine drawIf (by kernel_rfl) ?_) | refine Vc.region rfl ?_ | refine Vc.draw rfl (by kernel_rfl) ?_ | refine Vc.cond ?_ | refine Vc.block ?_ | refine Vc.ret ?_ | refine Vc.skip ?_ | refine Vc.exit ?_ | refine mkSl (by omega) (by omega) ?_); conv => whnf) | refine Vc.seq ?_ | (refine ifB_i (fun _ => ?_) (fun _ => ?_) <;> conv => whnf) | (refine ⟨_, impl_catOk acts, ?_⟩; conv => whnf)
  · exfalso; rename_i h; rw [hc] at h; cases h
  refine Vc.loop1 (fun (v : Nat) => v ≤ 3) (fun v => updL [0, 2, 6, 8, 10, 11, 25, 26, 27, 28, 29, 30, 31, 32, 33, 34, 35, 36, 37, 38, 39, 40, 41, 42, 43, 44, 45, 46, 47, 48, 49, 50, 51, 52, 53, 54, 55, 56, 57, 58, 59, 60, 61, 62, 63] [(15, I v), (3, .one (.ref 256000))] [(256000, .arr 24 (([[1, 0, 0], [0, 1, 0], [0, 0, 1]].take v).map eP) false)]) (fun v => 3 - v) 0 (by omega) ?_ (fun v hv => ?_)
  · repeat' (first | exact True.intro | ((conv => whnf); first | exact True.intro | refine ⟨by rfl, ?_⟩ | refine ⟨by first | omega | (show (_ : Int) = _; first | omega | (dsimp only; omega)), ?_⟩ | refine ⟨?_, ?_⟩))
  · match v, hv with
    | 0, _ =>
      conv => whnf
      repeat' first | ((first | refine Sq.cons ?_ | refine Dr.cons ?_ | refine Sq.nil ?_ | (refine Dr.nil ?_; refine drawIf (by kernel_rfl) ?_) | refine Vc.region rfl ?_ | refine Vc.draw rfl (by kernel_rfl) ?_ | refine Vc.cond ?_ | refine Vc.block ?_ | refine Vc.ret ?_ | refine Vc.skip ?_ | refine Vc.exit ?_ | refine mkSl (by omega) (by omega) ?_); conv => whnf) | refine Vc.seq ?_ | (refine ifB_i (fun _ => ?_) (fun _ => ?_) <;> conv => whnf) | (refine ⟨_, impl_pot 0 (by decide), ?_⟩; conv => whnf) | (refine apN (by simp) ?_; conv => whnf) | (refine w64 (by omega) (by omega) ?_; conv => whnf)
      refine ⟨1, by omega, by simp only; omega, ?_⟩
      repeat' (first | exact True.intro | ((conv => whnf); first | exact True.intro | refine ⟨by rfl, ?_⟩ | refine ⟨by first | omega | (show (_ : Int) = _; first | omega | (dsimp only; omega)), ?_⟩ | refine ⟨?_, ?_⟩))
    | 1, _ =>
      conv => whnf
      repeat' first | ((first | refine Sq.cons ?_ | refine Dr.cons ?_ | refine Sq.nil ?_ | (refine Dr.nil ?_; refine drawIf (by kernel_rfl) ?_) | refine Vc.region rfl ?_ | refine Vc.draw rfl (by kernel_rfl) ?_ | refine Vc.cond ?_ | refine Vc.block ?_ | refine Vc.ret ?_ | refine Vc.skip ?_ | refine Vc.exit ?_ | refine mkSl (by omega) (by omega) ?_); conv => whnf) | refine Vc.seq ?_ | (refine ifB_i (fun _ => ?_) (fun _ => ?_) <;> conv => whnf) | (refine ⟨_, impl_pot 1 (by decide), ?_⟩; conv => whnf) | (refine apN (by simp) ?_; conv => whnf) | (refine w64 (by omega) (by omega) ?_; conv => whnf)
      refine ⟨2, by omega, by simp only; omega, ?_⟩
      repeat' (first | exact True.intro | ((conv => whnf); first | exact True.intro | refine ⟨by rfl, ?_⟩ | refine ⟨by first | omega | (show (_ : Int) = _; first | omega | (dsimp only; omega)), ?_⟩ | refine ⟨?_, ?_⟩))
    | 2, _ =>
      conv => whnf
      repeat' first | ((first | refine Sq.cons ?_ | refine Dr.cons ?_ | refine Sq.nil ?_ | (refine Dr.nil ?_; refine drawIf (by kernel_rfl) ?_) | refine Vc.region rfl ?_ | refine Vc.draw rfl (by kernel_rfl) ?_ | refine Vc.cond ?_ | refine Vc.block ?_ | refine Vc.ret ?_ | refine Vc.skip ?_ | refine Vc.exit ?_ | refine mkSl (by omega) (by omega) ?_); conv => whnf) | refine Vc.seq ?_ | (refine ifB_i (fun _ => ?_) (fun _ => ?_) <;> conv => whnf) | (refine ⟨_, impl_pot 2 (by decide), ?_⟩; conv => whnf) | (refine apN (by simp) ?_; conv => whnf) | (refine w64 (by omega) (by omega) ?_; conv => whnf)
      refine ⟨3, by omega, by simp only; omega, ?_⟩
      repeat' (first | exact True.intro | ((conv => whnf); first | exact True.intro | refine ⟨by rfl, ?_⟩ | refine ⟨by first | omega | (show (_ : Int) = _; first | omega | (dsimp only; omega)), ?_⟩ | refine ⟨?_, ?_⟩))
    | 3, _ =>
      conv => whnf
      (repeat' first | ((first | refine Sq.cons ?_ | refine Dr.cons ?_ | refine Sq.nil ?_ | (refine Dr.nil ?_; refine drawIf (by kernel_rfl) ?_) | refine Vc.region rfl ?_ | refine Vc.draw rfl (by kernel_rfl) ?_ | refine Vc.cond ?_ | refine Vc.block ?_ | refine Vc.ret ?_ | refine Vc.skip ?_ | refine Vc.exit ?_ | refine mkSl (by omega) (by omega) ?_); conv => whnf) | refine Vc.seq ?_)
      refine Vc.loop1 (fun (i : Nat) => i ≤ acts.length) (fun i => updL [2, 25, 26, 63] [(27, I i), (3, .one (.ref 256000))] [(256000, .arr 24 ((pAt (gAt acts i 0)).map eP) false)]) (fun i => acts.length - i) 0 (by omega) ?_ (fun i hi => ?_)
      · repeat' (first | exact True.intro | ((conv => whnf); first | exact True.intro | refine ⟨by rfl, ?_⟩ | refine ⟨by first | omega | (show (_ : Int) = _; first | omega | (dsimp only; omega)), ?_⟩ | refine ⟨?_, ?_⟩))
      · conv => whnf
        (repeat' first | ((first | refine Sq.cons ?_ | refine Dr.cons ?_ | refine Sq.nil ?_ | (refine Dr.nil ?_; refine drawIf (by kernel_rfl) ?_) | refine Vc.region rfl ?_ | refine Vc.draw rfl (by kernel_rfl) ?_ | refine Vc.cond ?_ | refine Vc.block ?_ | refine Vc.ret ?_ | refine Vc.skip ?_ | refine Vc.exit ?_ | refine mkSl (by omega) (by omega) ?_); conv => whnf) | refine Vc.seq ?_)
        refine ifB_d (fun g => ?_) (fun g => ?_)
        all_goals conv => whnf
        · have hil : i < acts.length := by omega
          have hb1 : (List.map eW (rowsOf (acts.getD i []))).length = (rowsOf (acts.getD i [])).length := List.length_map ..
          have rl := rows_len (acts.getD i [])
          repeat' first | ((first | refine Sq.cons ?_ | refine Dr.cons ?_ | refine Sq.nil ?_ | (refine Dr.nil ?_; refine drawIf (by kernel_rfl) ?_) | refine Vc.region rfl ?_ | refine Vc.draw rfl (by kernel_rfl) ?_ | refine Vc.cond ?_ | refine Vc.block ?_ | refine Vc.ret ?_ | refine Vc.skip ?_ | refine Vc.exit ?_ | refine mkSl (by omega) (by omega) ?_); conv => whnf) | refine Vc.seq ?_ | (refine ifB_i (fun _ => ?_) (fun _ => ?_) <;> conv => whnf) | (refine ixN (enc := eA) [] hil ?_; conv => whnf) | (refine ⟨_, impl_rowsOf (acts.getD i []), ?_⟩; conv => whnf)
          refine Vc.loop1 (fun (k : Nat) => k ≤ (rowsOf (acts.getD i [])).length) (fun k => updL [2, 6, 25, 26, 27, 28, 29, 30, 31, 32, 33, 62, 63] [(34, I k), (3, .one (.ref 256000))] [(256000, .arr 24 ((pAt (gAt acts i k)).map eP) false)]) (fun k => (rowsOf (acts.getD i [])).length - k) 0 (by omega) ?_ (fun k hk => ?_)
          · repeat' (first | exact True.intro | ((conv => whnf); first | exact True.intro | refine ⟨by rfl, ?_⟩ | refine ⟨by first | omega | (show (_ : Int) = _; first | omega | (dsimp only; omega)), ?_⟩ | refine ⟨?_, ?_⟩))
          · conv => whnf
            (repeat' first | ((first | refine Sq.cons ?_ | refine Dr.cons ?_ | refine Sq.nil ?_ | (refine Dr.nil ?_; refine drawIf (by kernel_rfl) ?_) | refine Vc.region rfl ?_ | refine Vc.draw rfl (by kernel_rfl) ?_ | refine Vc.cond ?_ | refine Vc.block ?_ | refine Vc.ret ?_ | refine Vc.skip ?_ | refine Vc.exit ?_ | refine mkSl (by omega) (by omega) ?_); conv => whnf) | refine Vc.seq ?_)
            refine ifB_d (fun g => ?_) (fun g => ?_)
            all_goals conv => whnf
            · have hkl : k < (rowsOf (acts.getD i [])).length := by omega
              have hmem : (rowsOf (acts.getD i [])).getD k default ∈ rowsOf (acts.getD i []) := gd_mem hkl
              obtain ⟨sg, sa, st⟩ := rows_shs hmem
              repeat' first | ((first | refine Sq.cons ?_ | refine Dr.cons ?_ | refine Sq.nil ?_ | (refine Dr.nil ?_; refine drawIf (by kernel_rfl) ?_) | refine Vc.region rfl ?_ | refine Vc.draw rfl (by kernel_rfl) ?_ | refine Vc.cond ?_ | refine Vc.block ?_ | refine Vc.ret ?_ | refine Vc.skip ?_ | refine Vc.exit ?_ | refine mkSl (by omega) (by omega) ?_); conv => whnf) | refine Vc.seq ?_ | (refine ifB_i (fun _ => ?_) (fun _ => ?_) <;> conv => whnf) | (refine ixN (enc := eW) default hkl ?_; conv => whnf)
              refine Vc.loop1 (fun (j : Nat) => j ≤ ((rowsOf (acts.getD i [])).getD k default).Guards.length) (fun j => updL [2, 6, 8, 25, 26, 27, 28, 29, 30, 31, 32, 33, 34, 35, 36, 37, 38, 39, 40, 61, 62, 63] [(41, I j), (3, .one (.ref 256000))] [(256000, .arr 24 ((pAt (gAt acts i k ++ ((rowsOf (acts.getD i [])).getD k default).Guards.take j)).map eP) false)]) (fun j => ((rowsOf (acts.getD i [])).getD k default).Guards.length - j) 0 (by omega) ?_ (fun j hj => ?_)
              · repeat' (first | exact True.intro | ((conv => whnf); first | exact True.intro | refine ⟨by rfl, ?_⟩ | refine ⟨by first | omega | (show (_ : Int) = _; first | omega | (dsimp only; omega)) | exact by simp, ?_⟩ | refine ⟨?_, ?_⟩))
              · have hg1 : (List.map eF ((rowsOf (acts.getD i [])).getD k default).Guards).length = ((rowsOf (acts.getD i [])).getD k default).Guards.length := List.length_map ..
                conv => whnf
                (repeat' first | ((first | refine Sq.cons ?_ | refine Dr.cons ?_ | refine Sq.nil ?_ | (refine Dr.nil ?_; refine drawIf (by kernel_rfl) ?_) | refine Vc.region rfl ?_ | refine Vc.draw rfl (by kernel_rfl) ?_ | refine Vc.cond ?_ | refine Vc.block ?_ | refine Vc.ret ?_ | refine Vc.skip ?_ | refine Vc.exit ?_ | refine mkSl (by omega) (by omega) ?_); conv => whnf) | refine Vc.seq ?_)
                refine ifB_d (fun g => ?_) (fun g => ?_)
                all_goals conv => whnf
                · have hjl : j < ((rowsOf (acts.getD i [])).getD k default).Guards.length := by omega
                  have hjm : ((rowsOf (acts.getD i [])).getD k default).Guards.getD j default ∈ ((rowsOf (acts.getD i [])).getD k default).Guards := gd_mem hjl
                  have hjb := bd_mono ((rowsOf_bd hmem).1 _ hjm) (m' := 1000000000000) (by decide)
                  have pl := pAt_len (gAt acts i k ++ ((rowsOf (acts.getD i [])).getD k default).Guards.take j)
                  have gl := rows_take_len acts i k
                  have tl := List.length_take (i := i) (l := acts)
                  have gl2 := List.length_take (i := j) (l := ((rowsOf (acts.getD i [])).getD k default).Guards)
                  have g6 := sg.1
                  rw [List.length_append] at pl
                  have e1 : pAt (gAt acts i k ++ ((rowsOf (acts.getD i [])).getD k default).Guards.take (j + 1)) = addPart (pAt (gAt acts i k ++ ((rowsOf (acts.getD i [])).getD k default).Guards.take j)) (((rowsOf (acts.getD i [])).getD k default).Guards.getD j default) := by rw [take_succ_getD hjl, ← List.append_assoc, pAt_app]
                  rw [addPart_eq' hjb.1] at e1
                  repeat' first | ((first | refine Sq.cons ?_ | refine Dr.cons ?_ | refine Sq.nil ?_ | (refine Dr.nil ?_; refine drawIf (by kernel_rfl) ?_) | refine Vc.region rfl ?_ | refine Vc.draw rfl (by kernel_rfl) ?_ | refine Vc.cond ?_ | refine Vc.block ?_ | refine Vc.ret ?_ | refine Vc.skip ?_ | refine Vc.exit ?_ | refine mkSl (by omega) (by omega) ?_); conv => whnf) | refine Vc.seq ?_ | (refine ifB_i (fun _ => ?_) (fun _ => ?_) <;> conv => whnf) | (refine ixN (enc := eF) default hjl ?_; conv => whnf) | (refine ⟨_, impl_part (((rowsOf (acts.getD i [])).getD k default).Guards.getD j default).C (((rowsOf (acts.getD i [])).getD k default).Guards.getD j default).D (((rowsOf (acts.getD i [])).getD k default).Guards.getD j default).K (by rw [hjb.1.1]; decide) hjb.2.1, ?_⟩; conv => whnf) | (refine ⟨_, impl_zeros _, ?_⟩; conv => whnf) | (refine ⟨_, impl_has _ _, ?_⟩; conv => whnf) | (refine apN (by rw [List.length_map]; show _ + 1 ≤ _; omega) ?_; conv => whnf) | (refine w64 (by omega) (by omega) ?_; conv => whnf)
                  all_goals (refine ⟨j + 1, by omega, by simp only; omega, ?_⟩)
                  all_goals (repeat' (first | exact True.intro | ((conv => whnf); first | exact True.intro | refine ⟨by rfl, ?_⟩ | refine ⟨by first | omega | (show (_ : Int) = _; first | omega | (dsimp only; omega)) | exact (by rw [e1, if_pos (by clear e1; simp_all; done), List.map_append]; rfl) | exact (by rw [e1, if_neg (by clear e1; first | (simp_all; done) | (simp_all; omega))]), ?_⟩ | refine ⟨?_, ?_⟩)))
                · repeat' first | ((first | refine Sq.cons ?_ | refine Dr.cons ?_ | refine Sq.nil ?_ | (refine Dr.nil ?_; refine drawIf (by kernel_rfl) ?_) | refine Vc.region rfl ?_ | refine Vc.draw rfl (by kernel_rfl) ?_ | refine Vc.cond ?_ | refine Vc.block ?_ | refine Vc.ret ?_ | refine Vc.skip ?_ | refine Vc.exit ?_ | refine mkSl (by omega) (by omega) ?_); conv => whnf) | refine Vc.seq ?_ | (refine ifB_i (fun _ => ?_) (fun _ => ?_) <;> conv => whnf) | (refine w64 (by omega) (by omega) ?_; conv => whnf)
                  refine ⟨k + 1, by omega, by simp only; omega, ?_⟩
                  repeat' (first | exact True.intro | ((conv => whnf); first | exact True.intro | refine ⟨by rfl, ?_⟩ | refine ⟨by first | omega | (show (_ : Int) = _; first | omega | (dsimp only; omega)) | exact (by rw [gAt_row hkl, List.take_of_length_le (by omega)]), ?_⟩ | refine ⟨?_, ?_⟩))
            · repeat' first | ((first | refine Sq.cons ?_ | refine Dr.cons ?_ | refine Sq.nil ?_ | (refine Dr.nil ?_; refine drawIf (by kernel_rfl) ?_) | refine Vc.region rfl ?_ | refine Vc.draw rfl (by kernel_rfl) ?_ | refine Vc.cond ?_ | refine Vc.block ?_ | refine Vc.ret ?_ | refine Vc.skip ?_ | refine Vc.exit ?_ | refine mkSl (by omega) (by omega) ?_); conv => whnf) | refine Vc.seq ?_ | (refine ifB_i (fun _ => ?_) (fun _ => ?_) <;> conv => whnf) | (refine w64 (by omega) (by omega) ?_; conv => whnf)
              refine ⟨i + 1, by omega, by simp only; omega, ?_⟩
              repeat' (first | exact True.intro | ((conv => whnf); first | exact True.intro | refine ⟨by rfl, ?_⟩ | refine ⟨by first | omega | (show (_ : Int) = _; first | omega | (dsimp only; omega)) | exact (by rw [gAt_act hil (by omega)]), ?_⟩ | refine ⟨?_, ?_⟩))
        · (repeat' first | ((first | refine Sq.cons ?_ | refine Dr.cons ?_ | refine Sq.nil ?_ | (refine Dr.nil ?_; refine drawIf (by kernel_rfl) ?_) | refine Vc.region rfl ?_ | refine Vc.draw rfl (by kernel_rfl) ?_ | refine Vc.cond ?_ | refine Vc.block ?_ | refine Vc.ret ?_ | refine Vc.skip ?_ | refine Vc.exit ?_ | refine mkSl (by omega) (by omega) ?_); conv => whnf) | refine Vc.seq ?_)
          refine ⟨?_, rfl⟩
          rw [gAt_end (by omega)]
          rfl
theorem impl_catPins (acts : List (List Line)) (hc : catOk acts = true) : Sem P 196 [(.pure, .one (sAs acts))] [] (.one (sBs (pinsOf acts))) := by
  refine fn_okR (E := { E0 with keep := [4001] }) E0_tab E0_ord (fn := Go.Proofs.Tryz.f196) (by kernel_rfl) (by kernel_rfl) (fun hb => ?_)
  conv => whnf
  repeat' first | ((first | refine Sq.cons ?_ | refine Dr.cons ?_ | refine Sq.nil ?_ | (refine Dr.nil ?_; refine drawIf (by kernel_rfl) ?_) | refine Vc.region rfl ?_ | refine Vc.draw rfl (by kernel_rfl) ?_ | refine Vc.cond ?_ | refine Vc.block ?_ | refine Vc.ret ?_ | refine Vc.skip ?_ | refine Vc.exit ?_ | refine mkSl (by omega) (by omega) ?_); conv => whnf) | refine Vc.seq ?_ | (refine ifB_i (fun _ => ?_) (fun _ => ?_) <;> conv => whnf) | (refine ⟨_, impl_catOk acts, ?_⟩; conv => whnf) | (refine ⟨_, impl_pots acts (catOk_four hc), ?_⟩; conv => whnf)
  · exfalso; rename_i h; rw [hc] at h; cases h
  · exact ⟨rfl, rfl⟩
theorem impl_rules (acts : List (List Line)) (hc : catOk acts = true) : Sem P 100 [(.pure, .one (sAs acts))] [] (.agg [fAs acts, fPs (partsOf acts), fBs (pinsOf acts)]) := by
  refine fn_okR (E := E0) E0_tab E0_ord (fn := Go.Proofs.Tryz.f100) (by kernel_rfl) (by kernel_rfl) (fun hb => ?_)
  conv => whnf
  repeat' first | ((first | refine Sq.cons ?_ | refine Dr.cons ?_ | refine Sq.nil ?_ | (refine Dr.nil ?_; refine drawIf (by kernel_rfl) ?_) | refine Vc.region rfl ?_ | refine Vc.draw rfl (by kernel_rfl) ?_ | refine Vc.cond ?_ | refine Vc.block ?_ | refine Vc.ret ?_ | refine Vc.skip ?_ | refine Vc.exit ?_ | refine mkSl (by omega) (by omega) ?_); conv => whnf) | refine Vc.seq ?_ | (refine ifB_i (fun _ => ?_) (fun _ => ?_) <;> conv => whnf) | (refine ⟨_, impl_catForms acts hc, ?_⟩; conv => whnf) | (refine ⟨_, impl_catPins acts hc, ?_⟩; conv => whnf)
  exact ⟨rfl, rfl⟩
end Cc
end
section
namespace Cc
open Go Go.AM
set_option maxRecDepth 100000
set_option maxHeartbeats 4000000
end Cc
end
section
namespace Cc
open Go Go.AM
set_option maxRecDepth 100000
set_option maxHeartbeats 4000000
theorem akP {r : List (List AV)} {k : Prop} (h : allPrim r) (hk : k) : allPrim r ∧ k := ⟨h, hk⟩
abbrev intoS (a b c : Int) (D : List Int) (K : Int) (p q r : Form) : Nat → Form
  | 0 => ⟨[0, 0, 0], D, K⟩
  | 1 => lin ⟨[0, 0, 0], D, K⟩ p a
  | 2 => lin (lin ⟨[0, 0, 0], D, K⟩ p a) q b
  | _ => lin (lin (lin ⟨[0, 0, 0], D, K⟩ p a) q b) r c
def bds (l : List Form) : Prop := l.length ≤ 50 ∧ ∀ f ∈ l, f.bd 10000000
end Cc
end
section
namespace Cc
open Go Go.AM
set_option maxRecDepth 100000
set_option maxHeartbeats 4000000
end Cc
end
section
namespace Cc
open Go Go.AM
set_option maxRecDepth 100000
set_option maxHeartbeats 4000000
end Cc
end
section
namespace Cc
open Go Go.AM
set_option maxRecDepth 100000
set_option maxHeartbeats 4000000
end Cc
end
section
namespace Cc
open Go Go.AM
set_option maxRecDepth 100000
set_option maxHeartbeats 4000000
theorem parts_1 (p : List Int) : Sem P 397 [(.pure, AI p)] [] (B (!within p 3 10000000)) := by
  refine fn_okR (E := E0) E0_tab E0_ord (fn := Go.Proofs.Tryz.f397) (by kernel_rfl) (by kernel_rfl) (fun hb => ?_)
  conv => whnf
  repeat' first | ((first | refine Sq.cons ?_ | refine Dr.cons ?_ | refine Sq.nil ?_ | (refine Dr.nil ?_; refine drawIf (by kernel_rfl) ?_) | refine Vc.region rfl ?_ | refine Vc.draw rfl (by kernel_rfl) ?_ | refine Vc.cond ?_ | refine Vc.block ?_ | refine Vc.ret ?_ | refine Vc.skip ?_ | refine Vc.exit ?_ | refine mkSl (by omega) (by omega) ?_); conv => whnf) | refine Vc.seq ?_ | (refine ifB_i (fun _ => ?_) (fun _ => ?_) <;> conv => whnf) | (refine ⟨_, impl_within _ 3 _ (by omega), ?_⟩; conv => whnf)
  exact ⟨rfl, rfl⟩
theorem parts_any_ix  (l : List (List Int)) : Sem P 345 [(.pure, .one (sPs l)), (.pure, .one (.fn 397 []))] [] (I (idxOf (fun (x : (List Int)) => !within x 3 10000000) l)) := by
  refine fn_okR (E := E0) E0_tab E0_ord (fn := Go.Proofs.Tryz.f345) (by kernel_rfl) (by kernel_rfl) (fun hb => ?_)
  have la : (l.map eP).length = l.length := List.length_map ..
  have hb1 : (l.map eP).length ≤ 1125899906842624 := hb.1.1
  conv => whnf
  (repeat' first | ((first | refine Sq.cons ?_ | refine Dr.cons ?_ | refine Sq.nil ?_ | (refine Dr.nil ?_; refine drawIf (by kernel_rfl) ?_) | refine Vc.region rfl ?_ | refine Vc.draw rfl (by kernel_rfl) ?_ | refine Vc.cond ?_ | refine Vc.block ?_ | refine Vc.ret ?_ | refine Vc.skip ?_ | refine Vc.exit ?_ | refine mkSl (by omega) (by omega) ?_); conv => whnf) | refine Vc.seq ?_)
  refine Vc.loop { i : Nat // ∀ j, j < i → j < l.length → (fun (x : (List Int)) => !within x 3 10000000) (l.getD j default) = false } (fun i => updL [0, 1, 7] [(8, I i.1)] []) (fun i => l.length - i.1) ⟨0, by simp⟩ ?_ (fun i => ?_)
  · repeat' (first | exact True.intro | ((conv => whnf); first | exact True.intro | refine ⟨by rfl, ?_⟩ | refine ⟨?_, ?_⟩))
  · have hi := i.2
    conv => whnf
    (repeat' first | ((first | refine Sq.cons ?_ | refine Dr.cons ?_ | refine Sq.nil ?_ | (refine Dr.nil ?_; refine drawIf (by kernel_rfl) ?_) | refine Vc.region rfl ?_ | refine Vc.draw rfl (by kernel_rfl) ?_ | refine Vc.cond ?_ | refine Vc.block ?_ | refine Vc.ret ?_ | refine Vc.skip ?_ | refine Vc.exit ?_ | refine mkSl (by omega) (by omega) ?_); conv => whnf) | refine Vc.seq ?_)
    refine ifB_d (fun g => ?_) (fun g => ?_)
    all_goals conv => whnf
    · repeat' first | ((first | refine Sq.cons ?_ | refine Dr.cons ?_ | refine Sq.nil ?_ | (refine Dr.nil ?_; refine drawIf (by kernel_rfl) ?_) | refine Vc.region rfl ?_ | refine Vc.draw rfl (by kernel_rfl) ?_ | refine Vc.cond ?_ | refine Vc.block ?_ | refine Vc.ret ?_ | refine Vc.skip ?_ | refine Vc.exit ?_ | refine mkSl (by omega) (by omega) ?_); conv => whnf) | refine Vc.seq ?_ | (refine ifB_i (fun _ => ?_) (fun _ => ?_) <;> conv => whnf) | (refine ixN (enc := eP) default (by omega) ?_; conv => whnf) | (refine ⟨_, parts_1 _, ?_⟩; conv => whnf) | (refine w64 (by omega) (by omega) ?_; conv => whnf)
      · rename_i h
        exact rI' (idx_hit (p := fun (x : (List Int)) => !within x 3 10000000) default (by omega) h fun j hj => hi j hj (by omega)).symm
      · rename_i h
        refine ⟨⟨i.1 + 1, fun j hj hl => ?_⟩, ?_, ?_⟩
        · by_cases hji : j < i.1
          · exact hi j hji hl
          · obtain rfl : j = i.1 := by omega
            exact h
        · simp only; omega
        · repeat' (first | exact True.intro | ((conv => whnf); first | exact True.intro | refine ⟨by rfl, ?_⟩ | refine ⟨?_, ?_⟩))
    · (repeat' first | ((first | refine Sq.cons ?_ | refine Dr.cons ?_ | refine Sq.nil ?_ | (refine Dr.nil ?_; refine drawIf (by kernel_rfl) ?_) | refine Vc.region rfl ?_ | refine Vc.draw rfl (by kernel_rfl) ?_ | refine Vc.cond ?_ | refine Vc.block ?_ | refine Vc.ret ?_ | refine Vc.skip ?_ | refine Vc.exit ?_ | refine mkSl (by omega) (by omega) ?_); conv => whnf) | refine Vc.seq ?_)
      exact rI' (idx_none (p := fun (x : (List Int)) => !within x 3 10000000) default fun j hj => hi j (by omega) hj).symm
theorem parts_any  (l : List (List Int)) : Sem P 350 [(.pure, .one (sPs l)), (.pure, .one (.fn 397 []))] [] (B (l.any fun (x : (List Int)) => !within x 3 10000000)) := by
  refine fn_okR (E := E0) E0_tab E0_ord (fn := Go.Proofs.Tryz.f350) (by kernel_rfl) (by kernel_rfl) (fun hb => ?_)
  conv => whnf
  repeat' first | ((first | refine Sq.cons ?_ | refine Dr.cons ?_ | refine Sq.nil ?_ | (refine Dr.nil ?_; refine drawIf (by kernel_rfl) ?_) | refine Vc.region rfl ?_ | refine Vc.draw rfl (by kernel_rfl) ?_ | refine Vc.cond ?_ | refine Vc.block ?_ | refine Vc.ret ?_ | refine Vc.skip ?_ | refine Vc.exit ?_ | refine mkSl (by omega) (by omega) ?_); conv => whnf) | refine Vc.seq ?_ | (refine ifB_i (fun _ => ?_) (fun _ => ?_) <;> conv => whnf) | (refine ⟨_, parts_any_ix  l, ?_⟩; conv => whnf)
  exact rB (idx_any _ _)
theorem impl_partsOk (l : List (List Int)) : Sem P 378 [(.pure, .one (sPs l))] [] (B (partsOk l)) := by
  refine fn_okR (E := E0) E0_tab E0_ord (fn := Go.Proofs.Tryz.f378) (by kernel_rfl) (by kernel_rfl) (fun hb => ?_)
  conv => whnf
  repeat' first | ((first | refine Sq.cons ?_ | refine Dr.cons ?_ | refine Sq.nil ?_ | (refine Dr.nil ?_; refine drawIf (by kernel_rfl) ?_) | refine Vc.region rfl ?_ | refine Vc.draw rfl (by kernel_rfl) ?_ | refine Vc.cond ?_ | refine Vc.block ?_ | refine Vc.ret ?_ | refine Vc.skip ?_ | refine Vc.exit ?_ | refine mkSl (by omega) (by omega) ?_); conv => whnf) | refine Vc.seq ?_ | (refine ifB_i (fun _ => ?_) (fun _ => ?_) <;> conv => whnf) | (refine ⟨_, parts_any l, ?_⟩; conv => whnf)
  exact rB (any_all _ _)
theorem impl_addedOk (l : List Int) : Sem P 205 [(.pure, AI l)] [] (B (addedOk l)) := by
  refine fn_okR (E := E0) E0_tab E0_ord (fn := Go.Proofs.Tryz.f205) (by kernel_rfl) (by kernel_rfl) (fun hb => ?_)
  conv => whnf
  repeat' first | ((first | refine Sq.cons ?_ | refine Dr.cons ?_ | refine Sq.nil ?_ | (refine Dr.nil ?_; refine drawIf (by kernel_rfl) ?_) | refine Vc.region rfl ?_ | refine Vc.draw rfl (by kernel_rfl) ?_ | refine Vc.cond ?_ | refine Vc.block ?_ | refine Vc.ret ?_ | refine Vc.skip ?_ | refine Vc.exit ?_ | refine mkSl (by omega) (by omega) ?_); conv => whnf) | refine Vc.seq ?_ | (refine ifB_i (fun _ => ?_) (fun _ => ?_) <;> conv => whnf) | (refine ⟨_, impl_within _ 3 _ (by omega), ?_⟩; conv => whnf)
  exact ⟨rfl, rfl⟩
theorem impl_trtOkAll (t : Treaty) (parts : List (List Int)) (s : Int) (a : List Int) : Sem P 349 [(.pure, .agg (aT t)), (.pure, .one (sPs parts)), (.pure, I s), (.pure, AI a)] []
    (B (trtOk t && partsOk parts && inB s 0 (t.Gives.length - 1) && addedOk a)) := by
  refine fn_okR (E := E0) E0_tab E0_ord (fn := Go.Proofs.Tryz.f349) (by kernel_rfl) (by kernel_rfl) (fun hb => ?_)
  have la := ints_len t.Gives
  have hb1 : (ints t.Gives).length ≤ 1125899906842624 := (hb.1 (sI t.Gives) (by simp)).1
  conv => whnf
  repeat' first | ((first | refine Sq.cons ?_ | refine Dr.cons ?_ | refine Sq.nil ?_ | (refine Dr.nil ?_; refine drawIf (by kernel_rfl) ?_) | refine Vc.region rfl ?_ | refine Vc.draw rfl (by kernel_rfl) ?_ | refine Vc.cond ?_ | refine Vc.block ?_ | refine Vc.ret ?_ | refine Vc.skip ?_ | refine Vc.exit ?_ | refine mkSl (by omega) (by omega) ?_); conv => whnf) | refine Vc.seq ?_ | (refine ifB_i (fun _ => ?_) (fun _ => ?_) <;> conv => whnf) | (refine ⟨_, impl_trtOk t, ?_⟩; conv => whnf) | (refine ⟨_, impl_partsOk parts, ?_⟩; conv => whnf) | (refine ⟨_, impl_in _ _ _, ?_⟩; conv => whnf) | (refine ⟨_, impl_addedOk a, ?_⟩; conv => whnf) | (refine w64 (by omega) (by omega) ?_; conv => whnf)
  all_goals exact rB (by simp_all)
theorem added_three {a : List Int} (h : addedOk a = true) : a.length = 3 ∧ ∀ x ∈ a, -20000 ≤ x ∧ x ≤ 20000 := within_iff.1 h
theorem keeps_1 (p a : List Int) (g : Int) (ha : addedOk a = true) (hg : -1000 ≤ g ∧ g ≤ 1000) (hp : within p 3 10000000 = true) : Sem P 351 [(.pure, AI p), (.pure, .one (.fp [] [sI a] 0)), (.pure, .one (.fp [] [eI g] 0))] [] (B (!inB (dot p a) (-g) g)) := by
  obtain ⟨h1, h2⟩ := added_three ha
  obtain ⟨h3, h4⟩ := within_iff.1 hp
  refine fn_okR (E := E0) E0_tab E0_ord (fn := Go.Proofs.Tryz.f351) (by kernel_rfl) (by kernel_rfl) (fun hb => ?_)
  conv => whnf
  repeat' first | ((first | refine Sq.cons ?_ | refine Dr.cons ?_ | refine Sq.nil ?_ | (refine Dr.nil ?_; refine drawIf (by kernel_rfl) ?_) | refine Vc.region rfl ?_ | refine Vc.draw rfl (by kernel_rfl) ?_ | refine Vc.cond ?_ | refine Vc.block ?_ | refine Vc.ret ?_ | refine Vc.skip ?_ | refine Vc.exit ?_ | refine mkSl (by omega) (by omega) ?_); conv => whnf) | refine Vc.seq ?_ | (refine ifB_i (fun _ => ?_) (fun _ => ?_) <;> conv => whnf) | (refine ⟨_, impl_dot p a (by omega) (by omega) h4 (fun x hx => by have := h2 x hx; omega), ?_⟩; conv => whnf) | (refine ⟨_, impl_in _ _ _, ?_⟩; conv => whnf) | (refine w64 (by omega) (by omega) ?_; conv => whnf)
  exact rB (by rw [Int.zero_sub])
theorem keeps_any_ix (a : List Int) (gv : Int) (ha : addedOk a = true) (hg : -1000 ≤ gv ∧ gv ≤ 1000) (l : List (List Int)) (hl : ∀ (x : (List Int)), x ∈ l → within x 3 10000000 = true) : Sem P 345 [(.pure, .one (sPs l)), (.pure, .one (.fn 351 [.fp [] [sI a] 0, .fp [] [eI gv] 0]))] [] (I (idxOf (fun (x : (List Int)) => !inB (dot x a) (-gv) gv) l)) := by
  refine fn_okR (E := E0) E0_tab E0_ord (fn := Go.Proofs.Tryz.f345) (by kernel_rfl) (by kernel_rfl) (fun hb => ?_)
  have la : (l.map eP).length = l.length := List.length_map ..
  have hb1 : (l.map eP).length ≤ 1125899906842624 := hb.1.1
  conv => whnf
  (repeat' first | ((first | refine Sq.cons ?_ | refine Dr.cons ?_ | refine Sq.nil ?_ | (refine Dr.nil ?_; refine drawIf (by kernel_rfl) ?_) | refine Vc.region rfl ?_ | refine Vc.draw rfl (by kernel_rfl) ?_ | refine Vc.cond ?_ | refine Vc.block ?_ | refine Vc.ret ?_ | refine Vc.skip ?_ | refine Vc.exit ?_ | refine mkSl (by omega) (by omega) ?_); conv => whnf) | refine Vc.seq ?_)
  refine Vc.loop { i : Nat // ∀ j, j < i → j < l.length → (fun (x : (List Int)) => !inB (dot x a) (-gv) gv) (l.getD j default) = false } (fun i => updL [0, 1, 7] [(8, I i.1)] []) (fun i => l.length - i.1) ⟨0, by simp⟩ ?_ (fun i => ?_)
  · repeat' (first | exact True.intro | ((conv => whnf); first | exact True.intro | refine ⟨by rfl, ?_⟩ | refine ⟨?_, ?_⟩))
  · have hi := i.2
    conv => whnf
    (repeat' first | ((first | refine Sq.cons ?_ | refine Dr.cons ?_ | refine Sq.nil ?_ | (refine Dr.nil ?_; refine drawIf (by kernel_rfl) ?_) | refine Vc.region rfl ?_ | refine Vc.draw rfl (by kernel_rfl) ?_ | refine Vc.cond ?_ | refine Vc.block ?_ | refine Vc.ret ?_ | refine Vc.skip ?_ | refine Vc.exit ?_ | refine mkSl (by omega) (by omega) ?_); conv => whnf) | refine Vc.seq ?_)
    refine ifB_d (fun g => ?_) (fun g => ?_)
    all_goals conv => whnf
    · repeat' first | ((first | refine Sq.cons ?_ | refine Dr.cons ?_ | refine Sq.nil ?_ | (refine Dr.nil ?_; refine drawIf (by kernel_rfl) ?_) | refine Vc.region rfl ?_ | refine Vc.draw rfl (by kernel_rfl) ?_ | refine Vc.cond ?_ | refine Vc.block ?_ | refine Vc.ret ?_ | refine Vc.skip ?_ | refine Vc.exit ?_ | refine mkSl (by omega) (by omega) ?_); conv => whnf) | refine Vc.seq ?_ | (refine ifB_i (fun _ => ?_) (fun _ => ?_) <;> conv => whnf) | (refine ixN (enc := eP) default (by omega) ?_; conv => whnf) | (refine ⟨_, keeps_1 _ a gv ha hg (hl _ (gd_mem (by omega))), ?_⟩; conv => whnf) | (refine w64 (by omega) (by omega) ?_; conv => whnf)
      · rename_i h
        exact rI' (idx_hit (p := fun (x : (List Int)) => !inB (dot x a) (-gv) gv) default (by omega) h fun j hj => hi j hj (by omega)).symm
      · rename_i h
        refine ⟨⟨i.1 + 1, fun j hj hl => ?_⟩, ?_, ?_⟩
        · by_cases hji : j < i.1
          · exact hi j hji hl
          · obtain rfl : j = i.1 := by omega
            exact h
        · simp only; omega
        · repeat' (first | exact True.intro | ((conv => whnf); first | exact True.intro | refine ⟨by rfl, ?_⟩ | refine ⟨?_, ?_⟩))
    · (repeat' first | ((first | refine Sq.cons ?_ | refine Dr.cons ?_ | refine Sq.nil ?_ | (refine Dr.nil ?_; refine drawIf (by kernel_rfl) ?_) | refine Vc.region rfl ?_ | refine Vc.draw rfl (by kernel_rfl) ?_ | refine Vc.cond ?_ | refine Vc.block ?_ | refine Vc.ret ?_ | refine Vc.skip ?_ | refine Vc.exit ?_ | refine mkSl (by omega) (by omega) ?_); conv => whnf) | refine Vc.seq ?_)
      exact rI' (idx_none (p := fun (x : (List Int)) => !inB (dot x a) (-gv) gv) default fun j hj => hi j (by omega) hj).symm
theorem keeps_any (a : List Int) (gv : Int) (ha : addedOk a = true) (hg : -1000 ≤ gv ∧ gv ≤ 1000) (l : List (List Int)) (hl : ∀ (x : (List Int)), x ∈ l → within x 3 10000000 = true) : Sem P 350 [(.pure, .one (sPs l)), (.pure, .one (.fn 351 [.fp [] [sI a] 0, .fp [] [eI gv] 0]))] [] (B (l.any fun (x : (List Int)) => !inB (dot x a) (-gv) gv)) := by
  refine fn_okR (E := E0) E0_tab E0_ord (fn := Go.Proofs.Tryz.f350) (by kernel_rfl) (by kernel_rfl) (fun hb => ?_)
  conv => whnf
  repeat' first | ((first | refine Sq.cons ?_ | refine Dr.cons ?_ | refine Sq.nil ?_ | (refine Dr.nil ?_; refine drawIf (by kernel_rfl) ?_) | refine Vc.region rfl ?_ | refine Vc.draw rfl (by kernel_rfl) ?_ | refine Vc.cond ?_ | refine Vc.block ?_ | refine Vc.ret ?_ | refine Vc.skip ?_ | refine Vc.exit ?_ | refine mkSl (by omega) (by omega) ?_); conv => whnf) | refine Vc.seq ?_ | (refine ifB_i (fun _ => ?_) (fun _ => ?_) <;> conv => whnf) | (refine ⟨_, keeps_any_ix a gv ha hg l hl, ?_⟩; conv => whnf)
  exact rB (idx_any _ _)
theorem gives_get {t : Treaty} (h : trtOk t = true) {s : Int} (hs : inB s 0 (t.Gives.length - 1) = true) : 0 ≤ s ∧ s < t.Gives.length ∧ t.Gives.length ≤ 3 ∧ 0 ≤ t.Gives.getD s.toNat 0 ∧ t.Gives.getD s.toNat 0 ≤ 50 := by
  unfold trtOk givesOk at h
  simp only [Bool.and_eq_true, List.all_eq_true, inB_iff] at h
  have h1 := inB_iff.1 hs
  have hm : t.Gives.getD s.toNat 0 ∈ t.Gives := gd_mem (by omega)
  have := h.2.2 _ hm
  omega
theorem impl_keepsT (t : Treaty) (parts : List (List Int)) (s : Int) (a : List Int) : Sem P 295 [(.pure, .agg (aT t)), (.pure, .one (sPs parts)), (.pure, I s), (.pure, AI a)] [] (B (trtKeeps t parts s a)) := by
  have la := ints_len t.Gives
  by_cases hok : (trtOk t && partsOk parts && inB s 0 (t.Gives.length - 1) && addedOk a) = true
  · have h := hok
    simp only [Bool.and_eq_true] at h
    obtain ⟨⟨⟨h1, h2⟩, h3⟩, h4⟩ := h
    obtain ⟨g1, g2, g3, g4, g5⟩ := gives_get h1 h3
    refine fn_okR (E := E0) E0_tab E0_ord (fn := Go.Proofs.Tryz.f295) (by kernel_rfl) (by kernel_rfl) (fun hb => ?_)
    conv => whnf
    repeat' first | ((first | refine Sq.cons ?_ | refine Dr.cons ?_ | refine Sq.nil ?_ | (refine Dr.nil ?_; refine drawIf (by kernel_rfl) ?_) | refine Vc.region rfl ?_ | refine Vc.draw rfl (by kernel_rfl) ?_ | refine Vc.cond ?_ | refine Vc.block ?_ | refine Vc.ret ?_ | refine Vc.skip ?_ | refine Vc.exit ?_ | refine mkSl (by omega) (by omega) ?_); conv => whnf) | refine Vc.seq ?_ | (refine ifB_i (fun _ => ?_) (fun _ => ?_) <;> conv => whnf) | (refine ⟨_, impl_trtOkAll t parts s a, ?_⟩; conv => whnf) | (refine ixI (enc := rI) 0 (by omega) (by omega) ?_; conv => whnf) | (refine ⟨_, keeps_any a (t.Gives.getD s.toNat 0) h4 (by omega) parts (List.all_eq_true.1 h2), ?_⟩; conv => whnf)
    · exfalso; simp_all
    · exact rB (by rw [any_all]; unfold trtKeeps; rw [hok, Bool.true_and]; rfl)
  · refine fn_okR (E := E0) E0_tab E0_ord (fn := Go.Proofs.Tryz.f295) (by kernel_rfl) (by kernel_rfl) (fun hb => ?_)
    conv => whnf
    repeat' first | ((first | refine Sq.cons ?_ | refine Dr.cons ?_ | refine Sq.nil ?_ | (refine Dr.nil ?_; refine drawIf (by kernel_rfl) ?_) | refine Vc.region rfl ?_ | refine Vc.draw rfl (by kernel_rfl) ?_ | refine Vc.cond ?_ | refine Vc.block ?_ | refine Vc.ret ?_ | refine Vc.skip ?_ | refine Vc.exit ?_ | refine mkSl (by omega) (by omega) ?_); conv => whnf) | refine Vc.seq ?_ | (refine ifB_i (fun _ => ?_) (fun _ => ?_) <;> conv => whnf) | (refine ⟨_, impl_trtOkAll t parts s a, ?_⟩; conv => whnf)
    · exact rB (by unfold trtKeeps; simp_all)
    · exfalso; simp_all
theorem impl_unpinned (acts : List (List Line)) (parts : List (List Int)) (p q r : Bool) (x y z : Int) : Sem P 296 [(.pure, .agg [sAs acts, sPs parts, sBs [p, q, r]]), (.pure, AI [x, y, z])] [] (B (unpinned [p, q, r] [x, y, z])) := by
  refine fn_okR (E := E0) E0_tab E0_ord (fn := Go.Proofs.Tryz.f296) (by kernel_rfl) (by kernel_rfl) (fun hb => ?_)
  conv => whnf
  (repeat' first | ((first | refine Sq.cons ?_ | refine Dr.cons ?_ | refine Sq.nil ?_ | (refine Dr.nil ?_; refine drawIf (by kernel_rfl) ?_) | refine Vc.region rfl ?_ | refine Vc.draw rfl (by kernel_rfl) ?_ | refine Vc.cond ?_ | refine Vc.block ?_ | refine Vc.ret ?_ | refine Vc.skip ?_ | refine Vc.exit ?_ | refine mkSl (by omega) (by omega) ?_); conv => whnf) | refine Vc.seq ?_)
  refine Vc.loop1 (fun (v : Nat) => v ≤ 3 ∧ (0 < v → (!p || decide (x = 0)) = true) ∧ (1 < v → (!q || decide (y = 0)) = true) ∧ (2 < v → (!r || decide (z = 0)) = true)) (fun v => updL [2, 7, 8] [(9, I v)] []) (fun v => 3 - v) 0 (by simp) ?_ (fun v hv => ?_)
  · repeat' (first | exact True.intro | ((conv => whnf); first | exact True.intro | refine ⟨by rfl, ?_⟩ | refine ⟨by first | omega | (show (_ : Int) = _; first | omega | (dsimp only; omega)), ?_⟩ | refine ⟨?_, ?_⟩))
  · match v, hv with
    | 0, hv =>
      conv => whnf
      repeat' first | ((first | refine Sq.cons ?_ | refine Dr.cons ?_ | refine Sq.nil ?_ | (refine Dr.nil ?_; refine drawIf (by kernel_rfl) ?_) | refine Vc.region rfl ?_ | refine Vc.draw rfl (by kernel_rfl) ?_ | refine Vc.cond ?_ | refine Vc.block ?_ | refine Vc.ret ?_ | refine Vc.skip ?_ | refine Vc.exit ?_ | refine mkSl (by omega) (by omega) ?_); conv => whnf) | refine Vc.seq ?_ | (refine ifB_i (fun _ => ?_) (fun _ => ?_) <;> conv => whnf) | (refine ixK rfl ?_; conv => whnf) | (refine w64 (by omega) (by omega) ?_; conv => whnf)
      all_goals first
        | exact rB (by simp_all [unpinned])
        | (refine ⟨1, by simp_all, by simp only; omega, ?_⟩; repeat' (first | exact True.intro | ((conv => whnf); first | exact True.intro | refine ⟨by rfl, ?_⟩ | refine ⟨by first | omega | (show (_ : Int) = _; first | omega | (dsimp only; omega)), ?_⟩ | refine ⟨?_, ?_⟩)))
    | 1, hv =>
      conv => whnf
      repeat' first | ((first | refine Sq.cons ?_ | refine Dr.cons ?_ | refine Sq.nil ?_ | (refine Dr.nil ?_; refine drawIf (by kernel_rfl) ?_) | refine Vc.region rfl ?_ | refine Vc.draw rfl (by kernel_rfl) ?_ | refine Vc.cond ?_ | refine Vc.block ?_ | refine Vc.ret ?_ | refine Vc.skip ?_ | refine Vc.exit ?_ | refine mkSl (by omega) (by omega) ?_); conv => whnf) | refine Vc.seq ?_ | (refine ifB_i (fun _ => ?_) (fun _ => ?_) <;> conv => whnf) | (refine ixK rfl ?_; conv => whnf) | (refine w64 (by omega) (by omega) ?_; conv => whnf)
      all_goals first
        | exact rB (by simp_all [unpinned])
        | (refine ⟨2, by simp_all, by simp only; omega, ?_⟩; repeat' (first | exact True.intro | ((conv => whnf); first | exact True.intro | refine ⟨by rfl, ?_⟩ | refine ⟨by first | omega | (show (_ : Int) = _; first | omega | (dsimp only; omega)), ?_⟩ | refine ⟨?_, ?_⟩)))
    | 2, hv =>
      conv => whnf
      repeat' first | ((first | refine Sq.cons ?_ | refine Dr.cons ?_ | refine Sq.nil ?_ | (refine Dr.nil ?_; refine drawIf (by kernel_rfl) ?_) | refine Vc.region rfl ?_ | refine Vc.draw rfl (by kernel_rfl) ?_ | refine Vc.cond ?_ | refine Vc.block ?_ | refine Vc.ret ?_ | refine Vc.skip ?_ | refine Vc.exit ?_ | refine mkSl (by omega) (by omega) ?_); conv => whnf) | refine Vc.seq ?_ | (refine ifB_i (fun _ => ?_) (fun _ => ?_) <;> conv => whnf) | (refine ixK rfl ?_; conv => whnf) | (refine w64 (by omega) (by omega) ?_; conv => whnf)
      all_goals first
        | exact rB (by simp_all [unpinned])
        | (refine ⟨3, by simp_all, by simp only; omega, ?_⟩; repeat' (first | exact True.intro | ((conv => whnf); first | exact True.intro | refine ⟨by rfl, ?_⟩ | refine ⟨by first | omega | (show (_ : Int) = _; first | omega | (dsimp only; omega)), ?_⟩ | refine ⟨?_, ?_⟩)))
    | 3, hv =>
      conv => whnf
      (repeat' first | ((first | refine Sq.cons ?_ | refine Dr.cons ?_ | refine Sq.nil ?_ | (refine Dr.nil ?_; refine drawIf (by kernel_rfl) ?_) | refine Vc.region rfl ?_ | refine Vc.draw rfl (by kernel_rfl) ?_ | refine Vc.cond ?_ | refine Vc.block ?_ | refine Vc.ret ?_ | refine Vc.skip ?_ | refine Vc.exit ?_ | refine mkSl (by omega) (by omega) ?_); conv => whnf) | refine Vc.seq ?_)
      exact rB (by simp_all [unpinned])
theorem impl_keeps (acts : List (List Line)) (parts : List (List Int)) (p q r : Bool) (t : Treaty) (s : Int) (a : List Int) : Sem P 198 [(.pure, .agg [sAs acts, sPs parts, sBs [p, q, r]]), (.pure, .agg (aT t)), (.pure, I s), (.pure, AI a)] [] (B (trtKeeps t parts s a && unpinned [p, q, r] a)) := by
  by_cases hk : trtKeeps t parts s a = true
  · have ha : addedOk a = true := by unfold trtKeeps at hk; simp only [Bool.and_eq_true] at hk; exact hk.1.2
    obtain ⟨x, y, z, rfl⟩ := len3 (added_three ha).1
    refine fn_okR (E := E0) E0_tab E0_ord (fn := Go.Proofs.Tryz.f198) (by kernel_rfl) (by kernel_rfl) (fun hb => ?_)
    conv => whnf
    repeat' first | ((first | refine Sq.cons ?_ | refine Dr.cons ?_ | refine Sq.nil ?_ | (refine Dr.nil ?_; refine drawIf (by kernel_rfl) ?_) | refine Vc.region rfl ?_ | refine Vc.draw rfl (by kernel_rfl) ?_ | refine Vc.cond ?_ | refine Vc.block ?_ | refine Vc.ret ?_ | refine Vc.skip ?_ | refine Vc.exit ?_ | refine mkSl (by omega) (by omega) ?_); conv => whnf) | refine Vc.seq ?_ | (refine ifB_i (fun _ => ?_) (fun _ => ?_) <;> conv => whnf) | (refine ⟨_, impl_keepsT t parts s [x, y, z], ?_⟩; conv => whnf) | (refine ⟨_, impl_unpinned acts parts p q r x y z, ?_⟩; conv => whnf)
    all_goals exact rB (by simp_all)
  · refine fn_okR (E := E0) E0_tab E0_ord (fn := Go.Proofs.Tryz.f198) (by kernel_rfl) (by kernel_rfl) (fun hb => ?_)
    conv => whnf
    repeat' first | ((first | refine Sq.cons ?_ | refine Dr.cons ?_ | refine Sq.nil ?_ | (refine Dr.nil ?_; refine drawIf (by kernel_rfl) ?_) | refine Vc.region rfl ?_ | refine Vc.draw rfl (by kernel_rfl) ?_ | refine Vc.cond ?_ | refine Vc.block ?_ | refine Vc.ret ?_ | refine Vc.skip ?_ | refine Vc.exit ?_ | refine mkSl (by omega) (by omega) ?_); conv => whnf) | refine Vc.seq ?_ | (refine ifB_i (fun _ => ?_) (fun _ => ?_) <;> conv => whnf) | (refine ⟨_, impl_keepsT t parts s a, ?_⟩; conv => whnf)
    · exfalso; simp_all
    · exact rB (by simp_all)
end Cc
end
section
namespace Cc
open Go Go.AM
set_option maxRecDepth 100000
set_option maxHeartbeats 8000000
abbrev aRu (acts : List (List Line)) : List AV := [sAs acts, sPs (partsOf acts), sBs (pinsOf acts)]
theorem ints_z {α : Type} (l : List α) : ((l.length : Int) == 0) = l.isEmpty := by
  cases l with
  | nil => rfl
  | cons a r => simp only [List.length_cons, List.isEmpty_cons, beq_eq_false_iff_ne, ne_eq]; omega
theorem impl_isSite (p : Plan) (n : Int) : Sem P 197 [(.pure, .agg (aPl p)), (.pure, I n)] [] (B (isSite p n)) := by
  refine fn_okR (E := E0) E0_tab E0_ord (fn := Go.Proofs.Tryz.f197) (by kernel_rfl) (by kernel_rfl) (fun hb => ?_)
  have la := ints_len p.Gives
  have hb1 : (ints p.Gives).length ≤ 1125899906842624 := (hb.1 (sI p.Gives) (by simp)).1
  conv => whnf
  repeat' first | ((first | refine Sq.cons ?_ | refine Dr.cons ?_ | refine Sq.nil ?_ | (refine Dr.nil ?_; refine drawIf (by kernel_rfl) ?_) | refine Vc.region rfl ?_ | refine Vc.draw rfl (by kernel_rfl) ?_ | refine Vc.cond ?_ | refine Vc.block ?_ | refine Vc.ret ?_ | refine Vc.skip ?_ | refine Vc.exit ?_ | refine mkSl (by omega) (by omega) ?_); conv => whnf) | refine Vc.seq ?_ | (refine ifB_i (fun _ => ?_) (fun _ => ?_) <;> conv => whnf) | (refine ⟨_, impl_in _ _ _, ?_⟩; conv => whnf) | (refine w64 (by omega) (by omega) ?_; conv => whnf)
  exact rB (by rw [la]; rfl)
theorem impl_resNone (r : Rslt) : Sem P 299 [(.pure, .agg (aR r))] [] (B r.none) := by
  refine fn_okR (E := E0) E0_tab E0_ord (fn := Go.Proofs.Tryz.f299) (by kernel_rfl) (by kernel_rfl) (fun hb => ?_)
  conv => whnf
  repeat' first | ((first | refine Sq.cons ?_ | refine Dr.cons ?_ | refine Sq.nil ?_ | (refine Dr.nil ?_; refine drawIf (by kernel_rfl) ?_) | refine Vc.region rfl ?_ | refine Vc.draw rfl (by kernel_rfl) ?_ | refine Vc.cond ?_ | refine Vc.block ?_ | refine Vc.ret ?_ | refine Vc.skip ?_ | refine Vc.exit ?_ | refine mkSl (by omega) (by omega) ?_); conv => whnf) | refine Vc.seq ?_ | (refine ifB_i (fun _ => ?_) (fun _ => ?_) <;> conv => whnf)
  all_goals exact rB (by simp_all [Rslt.none, ints_z])
theorem impl_callNone (c : Call) : Sem P 201 [(.pure, .agg (aC c))] [] (B c.none) := by
  refine fn_okR (E := E0) E0_tab E0_ord (fn := Go.Proofs.Tryz.f201) (by kernel_rfl) (by kernel_rfl) (fun hb => ?_)
  conv => whnf
  repeat' first | ((first | refine Sq.cons ?_ | refine Dr.cons ?_ | refine Sq.nil ?_ | (refine Dr.nil ?_; refine drawIf (by kernel_rfl) ?_) | refine Vc.region rfl ?_ | refine Vc.draw rfl (by kernel_rfl) ?_ | refine Vc.cond ?_ | refine Vc.block ?_ | refine Vc.ret ?_ | refine Vc.skip ?_ | refine Vc.exit ?_ | refine mkSl (by omega) (by omega) ?_); conv => whnf) | refine Vc.seq ?_ | (refine ifB_i (fun _ => ?_) (fun _ => ?_) <;> conv => whnf)
  all_goals exact rB (by simp_all [Call.none, ints_z])
theorem impl_doneOne (d : Done) : Sem P 200 [(.pure, .agg (aD d))] [] (B d.ok) := by
  refine fn_okR (E := E0) E0_tab E0_ord (fn := Go.Proofs.Tryz.f200) (by kernel_rfl) (by kernel_rfl) (fun hb => ?_)
  conv => whnf
  repeat' first | ((first | refine Sq.cons ?_ | refine Dr.cons ?_ | refine Sq.nil ?_ | (refine Dr.nil ?_; refine drawIf (by kernel_rfl) ?_) | refine Vc.region rfl ?_ | refine Vc.draw rfl (by kernel_rfl) ?_ | refine Vc.cond ?_ | refine Vc.block ?_ | refine Vc.ret ?_ | refine Vc.skip ?_ | refine Vc.exit ?_ | refine mkSl (by omega) (by omega) ?_); conv => whnf) | refine Vc.seq ?_ | (refine ifB_i (fun _ => ?_) (fun _ => ?_) <;> conv => whnf) | (refine ⟨_, impl_resNone d.Res, ?_⟩; conv => whnf) | (refine ⟨_, impl_in _ _ _, ?_⟩; conv => whnf) | (refine ⟨_, impl_resOk d.Res, ?_⟩; conv => whnf)
  all_goals exact rB (by simp_all [Done.ok])
theorem done_1 (d : Done) : Sem P 298 [(.pure, .agg (aD d))] [] (B (!d.ok)) := by
  refine fn_okR (E := E0) E0_tab E0_ord (fn := Go.Proofs.Tryz.f298) (by kernel_rfl) (by kernel_rfl) (fun hb => ?_)
  conv => whnf
  repeat' first | ((first | refine Sq.cons ?_ | refine Dr.cons ?_ | refine Sq.nil ?_ | (refine Dr.nil ?_; refine drawIf (by kernel_rfl) ?_) | refine Vc.region rfl ?_ | refine Vc.draw rfl (by kernel_rfl) ?_ | refine Vc.cond ?_ | refine Vc.block ?_ | refine Vc.ret ?_ | refine Vc.skip ?_ | refine Vc.exit ?_ | refine mkSl (by omega) (by omega) ?_); conv => whnf) | refine Vc.seq ?_ | (refine ifB_i (fun _ => ?_) (fun _ => ?_) <;> conv => whnf) | (refine ⟨_, impl_doneOne d, ?_⟩; conv => whnf)
  exact ⟨rfl, rfl⟩
theorem dones_any_ix  (l : List Done) : Sem P 352 [(.pure, .one (sDs l)), (.pure, .one (.fn 298 []))] [] (I (idxOf (fun (x : Done) => !x.ok) l)) := by
  refine fn_okR (E := E0) E0_tab E0_ord (fn := Go.Proofs.Tryz.f352) (by kernel_rfl) (by kernel_rfl) (fun hb => ?_)
  have la : (l.map eD).length = l.length := List.length_map ..
  have hb1 : (l.map eD).length ≤ 1125899906842624 := hb.1.1
  conv => whnf
  (repeat' first | ((first | refine Sq.cons ?_ | refine Dr.cons ?_ | refine Sq.nil ?_ | (refine Dr.nil ?_; refine drawIf (by kernel_rfl) ?_) | refine Vc.region rfl ?_ | refine Vc.draw rfl (by kernel_rfl) ?_ | refine Vc.cond ?_ | refine Vc.block ?_ | refine Vc.ret ?_ | refine Vc.skip ?_ | refine Vc.exit ?_ | refine mkSl (by omega) (by omega) ?_); conv => whnf) | refine Vc.seq ?_)
  refine Vc.loop { i : Nat // ∀ j, j < i → j < l.length → (fun (x : Done) => !x.ok) (l.getD j default) = false } (fun i => updL [0, 1, 7] [(8, I i.1)] []) (fun i => l.length - i.1) ⟨0, by simp⟩ ?_ (fun i => ?_)
  · repeat' (first | exact True.intro | ((conv => whnf); first | exact True.intro | refine ⟨by rfl, ?_⟩ | refine ⟨?_, ?_⟩))
  · have hi := i.2
    conv => whnf
    (repeat' first | ((first | refine Sq.cons ?_ | refine Dr.cons ?_ | refine Sq.nil ?_ | (refine Dr.nil ?_; refine drawIf (by kernel_rfl) ?_) | refine Vc.region rfl ?_ | refine Vc.draw rfl (by kernel_rfl) ?_ | refine Vc.cond ?_ | refine Vc.block ?_ | refine Vc.ret ?_ | refine Vc.skip ?_ | refine Vc.exit ?_ | refine mkSl (by omega) (by omega) ?_); conv => whnf) | refine Vc.seq ?_)
    refine ifB_d (fun g => ?_) (fun g => ?_)
    all_goals conv => whnf
    · repeat' first | ((first | refine Sq.cons ?_ | refine Dr.cons ?_ | refine Sq.nil ?_ | (refine Dr.nil ?_; refine drawIf (by kernel_rfl) ?_) | refine Vc.region rfl ?_ | refine Vc.draw rfl (by kernel_rfl) ?_ | refine Vc.cond ?_ | refine Vc.block ?_ | refine Vc.ret ?_ | refine Vc.skip ?_ | refine Vc.exit ?_ | refine mkSl (by omega) (by omega) ?_); conv => whnf) | refine Vc.seq ?_ | (refine ifB_i (fun _ => ?_) (fun _ => ?_) <;> conv => whnf) | (refine ixN (enc := eD) default (by omega) ?_; conv => whnf) | (refine ⟨_, done_1 _, ?_⟩; conv => whnf) | (refine w64 (by omega) (by omega) ?_; conv => whnf)
      · rename_i h
        exact rI' (idx_hit (p := fun (x : Done) => !x.ok) default (by omega) h fun j hj => hi j hj (by omega)).symm
      · rename_i h
        refine ⟨⟨i.1 + 1, fun j hj hl => ?_⟩, ?_, ?_⟩
        · by_cases hji : j < i.1
          · exact hi j hji hl
          · obtain rfl : j = i.1 := by omega
            exact h
        · simp only; omega
        · repeat' (first | exact True.intro | ((conv => whnf); first | exact True.intro | refine ⟨by rfl, ?_⟩ | refine ⟨?_, ?_⟩))
    · (repeat' first | ((first | refine Sq.cons ?_ | refine Dr.cons ?_ | refine Sq.nil ?_ | (refine Dr.nil ?_; refine drawIf (by kernel_rfl) ?_) | refine Vc.region rfl ?_ | refine Vc.draw rfl (by kernel_rfl) ?_ | refine Vc.cond ?_ | refine Vc.block ?_ | refine Vc.ret ?_ | refine Vc.skip ?_ | refine Vc.exit ?_ | refine mkSl (by omega) (by omega) ?_); conv => whnf) | refine Vc.seq ?_)
      exact rI' (idx_none (p := fun (x : Done) => !x.ok) default fun j hj => hi j (by omega) hj).symm
theorem dones_any  (l : List Done) : Sem P 297 [(.pure, .one (sDs l)), (.pure, .one (.fn 298 []))] [] (B (l.any fun (x : Done) => !x.ok)) := by
  refine fn_okR (E := E0) E0_tab E0_ord (fn := Go.Proofs.Tryz.f297) (by kernel_rfl) (by kernel_rfl) (fun hb => ?_)
  conv => whnf
  repeat' first | ((first | refine Sq.cons ?_ | refine Dr.cons ?_ | refine Sq.nil ?_ | (refine Dr.nil ?_; refine drawIf (by kernel_rfl) ?_) | refine Vc.region rfl ?_ | refine Vc.draw rfl (by kernel_rfl) ?_ | refine Vc.cond ?_ | refine Vc.block ?_ | refine Vc.ret ?_ | refine Vc.skip ?_ | refine Vc.exit ?_ | refine mkSl (by omega) (by omega) ?_); conv => whnf) | refine Vc.seq ?_ | (refine ifB_i (fun _ => ?_) (fun _ => ?_) <;> conv => whnf) | (refine ⟨_, dones_any_ix  l, ?_⟩; conv => whnf)
  exact rB (idx_any _ _)
theorem impl_doneOk (p : Plan) (l : List Done) : Sem P 199 [(.pure, .agg (aPl p)), (.pure, .one (sDs l))] [] (B (doneOk p l)) := by
  refine fn_okR (E := E0) E0_tab E0_ord (fn := Go.Proofs.Tryz.f199) (by kernel_rfl) (by kernel_rfl) (fun hb => ?_)
  have la : (l.map eD).length = l.length := List.length_map ..
  conv => whnf
  repeat' first | ((first | refine Sq.cons ?_ | refine Dr.cons ?_ | refine Sq.nil ?_ | (refine Dr.nil ?_; refine drawIf (by kernel_rfl) ?_) | refine Vc.region rfl ?_ | refine Vc.draw rfl (by kernel_rfl) ?_ | refine Vc.cond ?_ | refine Vc.block ?_ | refine Vc.ret ?_ | refine Vc.skip ?_ | refine Vc.exit ?_ | refine mkSl (by omega) (by omega) ?_); conv => whnf) | refine Vc.seq ?_ | (refine ifB_i (fun _ => ?_) (fun _ => ?_) <;> conv => whnf) | (refine ⟨_, dones_any l, ?_⟩; conv => whnf)
  all_goals exact rB (by simp_all [doneOk, any_all])
theorem seqs_1 (n : Int) : Sem P 300 [(.pure, I n)] [] (B (!inB n 0 300)) := by
  refine fn_okR (E := E0) E0_tab E0_ord (fn := Go.Proofs.Tryz.f300) (by kernel_rfl) (by kernel_rfl) (fun hb => ?_)
  conv => whnf
  repeat' first | ((first | refine Sq.cons ?_ | refine Dr.cons ?_ | refine Sq.nil ?_ | (refine Dr.nil ?_; refine drawIf (by kernel_rfl) ?_) | refine Vc.region rfl ?_ | refine Vc.draw rfl (by kernel_rfl) ?_ | refine Vc.cond ?_ | refine Vc.block ?_ | refine Vc.ret ?_ | refine Vc.skip ?_ | refine Vc.exit ?_ | refine mkSl (by omega) (by omega) ?_); conv => whnf) | refine Vc.seq ?_ | (refine ifB_i (fun _ => ?_) (fun _ => ?_) <;> conv => whnf) | (refine ⟨_, impl_in _ _ _, ?_⟩; conv => whnf)
  exact ⟨rfl, rfl⟩
theorem seqs_any_ix  (l : List Int) : Sem P 286 [(.pure, .one (sI l)), (.pure, .one (.fn 300 []))] [] (I (idxOf (fun (x : Int) => !inB x 0 300) l)) := by
  refine fn_okR (E := E0) E0_tab E0_ord (fn := Go.Proofs.Tryz.f286) (by kernel_rfl) (by kernel_rfl) (fun hb => ?_)
  have la : (ints l).length = l.length := List.length_map ..
  have hb1 : (ints l).length ≤ 1125899906842624 := hb.1.1
  conv => whnf
  (repeat' first | ((first | refine Sq.cons ?_ | refine Dr.cons ?_ | refine Sq.nil ?_ | (refine Dr.nil ?_; refine drawIf (by kernel_rfl) ?_) | refine Vc.region rfl ?_ | refine Vc.draw rfl (by kernel_rfl) ?_ | refine Vc.cond ?_ | refine Vc.block ?_ | refine Vc.ret ?_ | refine Vc.skip ?_ | refine Vc.exit ?_ | refine mkSl (by omega) (by omega) ?_); conv => whnf) | refine Vc.seq ?_)
  refine Vc.loop { i : Nat // ∀ j, j < i → j < l.length → (fun (x : Int) => !inB x 0 300) (l.getD j default) = false } (fun i => updL [0, 1, 7] [(8, I i.1)] []) (fun i => l.length - i.1) ⟨0, by simp⟩ ?_ (fun i => ?_)
  · repeat' (first | exact True.intro | ((conv => whnf); first | exact True.intro | refine ⟨by rfl, ?_⟩ | refine ⟨?_, ?_⟩))
  · have hi := i.2
    conv => whnf
    (repeat' first | ((first | refine Sq.cons ?_ | refine Dr.cons ?_ | refine Sq.nil ?_ | (refine Dr.nil ?_; refine drawIf (by kernel_rfl) ?_) | refine Vc.region rfl ?_ | refine Vc.draw rfl (by kernel_rfl) ?_ | refine Vc.cond ?_ | refine Vc.block ?_ | refine Vc.ret ?_ | refine Vc.skip ?_ | refine Vc.exit ?_ | refine mkSl (by omega) (by omega) ?_); conv => whnf) | refine Vc.seq ?_)
    refine ifB_d (fun g => ?_) (fun g => ?_)
    all_goals conv => whnf
    · repeat' first | ((first | refine Sq.cons ?_ | refine Dr.cons ?_ | refine Sq.nil ?_ | (refine Dr.nil ?_; refine drawIf (by kernel_rfl) ?_) | refine Vc.region rfl ?_ | refine Vc.draw rfl (by kernel_rfl) ?_ | refine Vc.cond ?_ | refine Vc.block ?_ | refine Vc.ret ?_ | refine Vc.skip ?_ | refine Vc.exit ?_ | refine mkSl (by omega) (by omega) ?_); conv => whnf) | refine Vc.seq ?_ | (refine ifB_i (fun _ => ?_) (fun _ => ?_) <;> conv => whnf) | (refine ixN (enc := rI) default (by omega) ?_; conv => whnf) | (refine ⟨_, seqs_1 _, ?_⟩; conv => whnf) | (refine w64 (by omega) (by omega) ?_; conv => whnf)
      · rename_i h
        exact rI' (idx_hit (p := fun (x : Int) => !inB x 0 300) default (by omega) h fun j hj => hi j hj (by omega)).symm
      · rename_i h
        refine ⟨⟨i.1 + 1, fun j hj hl => ?_⟩, ?_, ?_⟩
        · by_cases hji : j < i.1
          · exact hi j hji hl
          · obtain rfl : j = i.1 := by omega
            exact h
        · simp only; omega
        · repeat' (first | exact True.intro | ((conv => whnf); first | exact True.intro | refine ⟨by rfl, ?_⟩ | refine ⟨?_, ?_⟩))
    · (repeat' first | ((first | refine Sq.cons ?_ | refine Dr.cons ?_ | refine Sq.nil ?_ | (refine Dr.nil ?_; refine drawIf (by kernel_rfl) ?_) | refine Vc.region rfl ?_ | refine Vc.draw rfl (by kernel_rfl) ?_ | refine Vc.cond ?_ | refine Vc.block ?_ | refine Vc.ret ?_ | refine Vc.skip ?_ | refine Vc.exit ?_ | refine mkSl (by omega) (by omega) ?_); conv => whnf) | refine Vc.seq ?_)
      exact rI' (idx_none (p := fun (x : Int) => !inB x 0 300) default fun j hj => hi j (by omega) hj).symm
theorem seqs_any  (l : List Int) : Sem P 188 [(.pure, .one (sI l)), (.pure, .one (.fn 300 []))] [] (B (l.any fun (x : Int) => !inB x 0 300)) := by
  refine fn_okR (E := E0) E0_tab E0_ord (fn := Go.Proofs.Tryz.f188) (by kernel_rfl) (by kernel_rfl) (fun hb => ?_)
  conv => whnf
  repeat' first | ((first | refine Sq.cons ?_ | refine Dr.cons ?_ | refine Sq.nil ?_ | (refine Dr.nil ?_; refine drawIf (by kernel_rfl) ?_) | refine Vc.region rfl ?_ | refine Vc.draw rfl (by kernel_rfl) ?_ | refine Vc.cond ?_ | refine Vc.block ?_ | refine Vc.ret ?_ | refine Vc.skip ?_ | refine Vc.exit ?_ | refine mkSl (by omega) (by omega) ?_); conv => whnf) | refine Vc.seq ?_ | (refine ifB_i (fun _ => ?_) (fun _ => ?_) <;> conv => whnf) | (refine ⟨_, seqs_any_ix  l, ?_⟩; conv => whnf)
  exact rB (idx_any _ _)
theorem impl_seqsOk (p : Plan) (l : List Int) : Sem P 202 [(.pure, .agg (aPl p)), (.pure, AI l)] [] (B (seqsOk p l)) := by
  refine fn_okR (E := E0) E0_tab E0_ord (fn := Go.Proofs.Tryz.f202) (by kernel_rfl) (by kernel_rfl) (fun hb => ?_)
  have la := ints_len l
  conv => whnf
  repeat' first | ((first | refine Sq.cons ?_ | refine Dr.cons ?_ | refine Sq.nil ?_ | (refine Dr.nil ?_; refine drawIf (by kernel_rfl) ?_) | refine Vc.region rfl ?_ | refine Vc.draw rfl (by kernel_rfl) ?_ | refine Vc.cond ?_ | refine Vc.block ?_ | refine Vc.ret ?_ | refine Vc.skip ?_ | refine Vc.exit ?_ | refine mkSl (by omega) (by omega) ?_); conv => whnf) | refine Vc.seq ?_ | (refine ifB_i (fun _ => ?_) (fun _ => ?_) <;> conv => whnf) | (refine ⟨_, seqs_any l, ?_⟩; conv => whnf)
  all_goals exact rB (by simp_all [seqsOk, any_all])
theorem impl_gotNone (g : Got) : Sem P 203 [(.pure, .agg (aG g))] [] (B g.none) := by
  refine fn_okR (E := E0) E0_tab E0_ord (fn := Go.Proofs.Tryz.f203) (by kernel_rfl) (by kernel_rfl) (fun hb => ?_)
  conv => whnf
  repeat' first | ((first | refine Sq.cons ?_ | refine Dr.cons ?_ | refine Sq.nil ?_ | (refine Dr.nil ?_; refine drawIf (by kernel_rfl) ?_) | refine Vc.region rfl ?_ | refine Vc.draw rfl (by kernel_rfl) ?_ | refine Vc.cond ?_ | refine Vc.block ?_ | refine Vc.ret ?_ | refine Vc.skip ?_ | refine Vc.exit ?_ | refine mkSl (by omega) (by omega) ?_); conv => whnf) | refine Vc.seq ?_ | (refine ifB_i (fun _ => ?_) (fun _ => ?_) <;> conv => whnf)
  all_goals exact rB (by simp_all [Got.none, ints_z])
theorem impl_siteOkR (p : Plan) (s : Site) (n : Int) : Sem P 101 [(.pure, .agg (aPl p)), (.pure, .agg (aRu p.Acts)), (.pure, .agg (aS s)), (.pure, I n)] [] (B (isSite p n && siteB p s n)) := by
  refine fn_okR (E := E0) E0_tab E0_ord (fn := Go.Proofs.Tryz.f101) (by kernel_rfl) (by kernel_rfl) (fun hb => ?_)
  conv => whnf
  repeat' first | ((first | refine Sq.cons ?_ | refine Dr.cons ?_ | refine Sq.nil ?_ | (refine Dr.nil ?_; refine drawIf (by kernel_rfl) ?_) | refine Vc.region rfl ?_ | refine Vc.draw rfl (by kernel_rfl) ?_ | refine Vc.cond ?_ | refine Vc.block ?_ | refine Vc.ret ?_ | refine Vc.skip ?_ | refine Vc.exit ?_ | refine mkSl (by omega) (by omega) ?_); conv => whnf) | refine Vc.seq ?_ | (refine ifB_i (fun _ => ?_) (fun _ => ?_) <;> conv => whnf) | (refine ⟨_, impl_isSite p n, ?_⟩; conv => whnf) | (refine ⟨_, impl_in _ _ _, ?_⟩; conv => whnf) | (refine ⟨_, impl_valOk _, ?_⟩; conv => whnf) | (refine ⟨_, impl_treaty p s.Base, ?_⟩; conv => whnf) | (refine ⟨_, impl_keeps p.Acts (partsOf p.Acts) _ _ _ ⟨s.Base, p.Gives⟩ n s.Added, ?_⟩; conv => whnf) | (refine ⟨_, impl_doneOk p s.Done, ?_⟩; conv => whnf)
  all_goals exact rB (by simp_all [siteB, keeps, Plan.treaty, pinsOf])
end Cc
end
section
namespace Cc
theorem sign_cases : ∀ c : List Int, (sign c = 0 ∧ zeros c = true) ∨ (sign c = 1 ∧ zeros c = false) ∨ (sign c = -1 ∧ zeros c = false)
  | [] => .inl ⟨rfl, rfl⟩
  | a :: c => by
    unfold sign
    by_cases h : a > 0
    · right; left; refine ⟨by simp [h], ?_⟩
      simp [zeros]; intro h0; omega
    · by_cases h' : a < 0
      · right; right; refine ⟨by simp [h, h'], ?_⟩
        simp [zeros]; intro h0; omega
      · have h0 : a = 0 := by omega
        rw [if_neg h, if_neg h']
        rcases sign_cases c with ⟨h1, h2⟩ | ⟨h1, h2⟩ | ⟨h1, h2⟩
        · left; refine ⟨h1, ?_⟩; simp [zeros] at h2 ⊢; exact ⟨h0, h2⟩
        · right; left; refine ⟨h1, ?_⟩
          simp only [zeros, List.all_cons, h0, decide_true, Bool.true_and] at h2 ⊢; exact h2
        · right; right; refine ⟨h1, ?_⟩
          simp only [zeros, List.all_cons, h0, decide_true, Bool.true_and] at h2 ⊢; exact h2
structure Others (parts : List (List Int)) (pins : List Bool) (O : Int) (o : List Int) : Prop where
  len : o.length = 3
  bd : ∀ p ∈ parts, -O ≤ dot p o ∧ dot p o ≤ O
  pin : unpinned pins o = true
theorem getD_mem {α : Type} {l : List α} {i : Nat} {d : α} (h : i < l.length) : l.getD i d ∈ l := by
  rw [List.getD_eq_getElem?_getD, List.getElem?_eq_getElem h]; exact List.getElem_mem h
theorem unpinned3 {acts : List (List Line)} {x y z : Int} : unpinned (pinsOf acts) [x, y, z] = true ↔ (reads (formsOf acts) 0 = true → x = 0) ∧ (reads (formsOf acts) 1 = true → y = 0) ∧ (reads (formsOf acts) 2 = true → z = 0) := by
  simp only [unpinned, pinsOf, List.map_cons, List.map_nil, List.zip_cons_cons, List.zip_nil_right, List.all_cons, List.all_nil, Bool.and_true, Bool.and_eq_true, Bool.or_eq_true, Bool.not_eq_true', decide_eq_true_eq]
  cases reads (formsOf acts) 0 <;> cases reads (formsOf acts) 1 <;> cases reads (formsOf acts) 2 <;> simp
theorem keeps_iff {acts : List (List Line)} {t : Treaty} {site : Int} {a : List Int} : keeps acts t site a = true ↔
    trtOk t = true ∧ partsOk (partsOf acts) = true ∧ (0 ≤ site ∧ site ≤ t.Gives.length - 1) ∧ addedOk a = true ∧ keepsP (partsOf acts) (t.Gives.getD site.toNat 0) a = true ∧ unpinned (pinsOf acts) a = true := by
  simp only [keeps, trtKeeps, Bool.and_eq_true, inB_iff]
  constructor
  · rintro ⟨⟨⟨⟨⟨h1, h2⟩, h3⟩, h4⟩, h5⟩, h6⟩; exact ⟨h1, h2, h3, h4, h5, h6⟩
  · rintro ⟨h1, h2, h3, h4, h5, h6⟩; exact ⟨⟨⟨⟨⟨h1, h2⟩, h3⟩, h4⟩, h5⟩, h6⟩
end Cc
end
section
namespace Cc
end Cc
namespace Cc
theorem allI_iff {α : Type} {f : Int → α → Bool} : ∀ {i : Nat} {l : List α}, allI f i l = true ↔ ∀ (k : Nat) (x : α), l[k]? = some x → f (i + k : Nat) x = true
  | i, [] => by simp [allI]
  | i, a :: r => by
    simp only [allI, Bool.and_eq_true, allI_iff (i := i + 1) (l := r)]
    constructor
    · rintro ⟨h1, h2⟩ k x hk
      cases k with
      | zero => simp at hk; subst hk; exact h1
      | succ k => have := h2 k x (by simpa using hk); rw [show i + 1 + k = i + (k + 1) by omega] at this; exact this
    · intro h
      refine ⟨h 0 a rfl, fun k x hk => ?_⟩
      have := h (k + 1) x (by simpa using hk)
      rw [show i + 1 + k = i + (k + 1) by omega]; exact this
theorem getD_some {α : Type} {l : List α} {i : Nat} {d x : α} (h : l[i]? = some x) : l.getD i d = x := by
  rw [List.getD_eq_getElem?_getD, h]; rfl
structure PlanF (p : Plan) : Prop where
  ok : planOk p = true
  cl : 1 ≤ p.Clients ∧ p.Clients ≤ 4
  cat : catOk p.Acts = true
  g1 : 1 ≤ p.Gives.length ∧ p.Gives.length ≤ 3
  gv : givesOk p.Gives = true
  st : valOk p.Start = true
theorem planF {p : Plan} (h : planOk p = true) : PlanF p := by
  have h0 := h
  simp only [planOk, Bool.and_eq_true, inB_iff, trtOk] at h
  obtain ⟨⟨⟨h1, h2⟩, h3⟩, h4, h5⟩ := h
  refine ⟨h0, h1, h2, ?_, h5, h4⟩
  simp only [givesOk, Bool.and_eq_true, inB_iff] at h5
  have : (p.treaty p.Start).Gives.length = p.Gives.length := rfl
  omega
theorem PlanF.trt {p : Plan} (h : PlanF p) {b : List Int} (hb : valOk b = true) : trtOk (p.treaty b) = true := by
  simp only [trtOk, Bool.and_eq_true]; exact ⟨hb, h.gv⟩
theorem part_bd {c : List Int} {m : Int} (h : ∀ x ∈ c, -m ≤ x ∧ x ≤ m) : ∀ x ∈ part c, -m ≤ x ∧ x ≤ m := by
  intro x hx
  obtain ⟨y, hy, rfl⟩ := List.mem_map.1 hx
  have := h y hy
  rcases sign_cases c with ⟨h1, _⟩ | ⟨h1, _⟩ | ⟨h1, _⟩ <;> rw [h1] <;> omega
theorem partsOk_all (acts : List (List Line)) : partsOk (partsOf acts) = true := by
  have key : ∀ (gs : List Form) (out : List (List Int)), partsOk out = true → (∀ g ∈ gs, g.bd 588246) → partsOk (gs.foldl addPart out) = true := by
    intro gs
    induction gs with
    | nil => intro out h _; exact h
    | cons g gs ih =>
      intro out h hg
      refine ih _ ?_ fun x hx => hg x (by simp [hx])
      unfold addPart
      simp only
      split
      · simp only [partsOk, List.all_append, List.all_cons, List.all_nil, Bool.and_true, Bool.and_eq_true]
        refine ⟨h, within_iff.2 ⟨?_, ?_⟩⟩
        · unfold part; rw [List.length_map]; exact (hg g (by simp)).1.1
        · intro x hx
          have := part_bd (hg g (by simp)).2.1 x hx
          omega
      · exact h
  refine key _ _ (by decide) ?_
  intro g hg
  simp only [guardsOf, List.mem_flatMap] at hg
  obtain ⟨act, _, r, hr, hg⟩ := hg
  exact (rowsOf_bd hr).1 g hg
theorem dot_zero3 : ∀ c : List Int, dot c [0, 0, 0] = 0
  | [] => rfl
  | [a] => by simp [dot]
  | [a, b] => by simp [dot]
  | a :: b :: c :: r => by simp [dot]
theorem PlanF.keeps0 {p : Plan} (h : PlanF p) {b : List Int} (hb : valOk b = true) {i : Nat} (hi : i < p.Gives.length) : keeps p.Acts (p.treaty b) i [0, 0, 0] = true := by
  refine keeps_iff.2 ⟨h.trt hb, partsOk_all _, ⟨by omega, ?_⟩, by decide, ?_, unpinned3.2 ⟨fun _ => rfl, fun _ => rfl, fun _ => rfl⟩⟩
  · show (i : Int) ≤ (p.Gives.length : Int) - 1; omega
  · simp only [keepsP, List.all_eq_true, dot_zero3, inB_iff]
    intro _ _
    have hg := h.gv
    simp only [givesOk, Bool.and_eq_true, List.all_eq_true, inB_iff] at hg
    have := hg.2 _ (getD_mem (l := p.Gives) (i := i) (d := 0) hi)
    show -(p.Gives.getD (i : Int).toNat 0) ≤ 0 ∧ 0 ≤ p.Gives.getD (i : Int).toNat 0
    rw [Int.toNat_natCast]; omega
theorem siteB_iff {p : Plan} {s : Site} {i : Int} : siteB p s i = true ↔ (0 ≤ s.Round ∧ s.Round ≤ 200) ∧ valOk s.Base = true ∧ keeps p.Acts (p.treaty s.Base) i s.Added = true ∧ doneOk p s.Done = true := by
  simp only [siteB, Bool.and_eq_true, inB_iff]
  constructor
  · rintro ⟨⟨⟨h1, h2⟩, h3⟩, h4⟩; exact ⟨h1, h2, h3, h4⟩
  · rintro ⟨h1, h2, h3, h4⟩; exact ⟨⟨⟨h1, h2⟩, h3⟩, h4⟩
inductive TryW (p : Plan) (s : Site) (i : Int) (c : Call) : Site × Rslt × List Msg → Prop
  | no (h : s.Up = false ∨ c.Client % p.Gives.length ≠ i ∨ c.Seq < (s.Done.getD c.Client.toNat Done.nil).Seq ∨ c.Seq > (s.Done.getD c.Client.toNat Done.nil).Seq + 1) : TryW p s i c (s, Rslt.nil, [])
  | was (hu : s.Up = true) (hh : c.Client % p.Gives.length = i) (h : c.Seq = (s.Done.getD c.Client.toNat Done.nil).Seq) : TryW p s i c (s, (s.Done.getD c.Client.toNat Done.nil).Res, [])
  | does {r : Rslt} {now : List Int} (hu : s.Up = true) (hh : c.Client % p.Gives.length = i) (h : c.Seq = (s.Done.getD c.Client.toNat Done.nil).Seq + 1) (hf : s.Frozen = false) (ha : alone p.Acts (p.treaty s.Base) i s.Added c.Act c.Args = (r, now, true)) :
      TryW p s i c ({ s with Added := now, Done := s.Done.set c.Client.toNat ⟨c.Seq, r⟩ }, r, [])
  | asks (hu : s.Up = true) (hh : c.Client % p.Gives.length = i) (h : c.Seq = (s.Done.getD c.Client.toNat Done.nil).Seq + 1) (hf : s.Frozen = true ∨ (alone p.Acts (p.treaty s.Base) i s.Added c.Act c.Args).2.2 = false) : TryW p s i c (s, Rslt.nil, [wantMsg c])
end Cc
end
section
namespace Cc
theorem rising_iff : ∀ {l : List Call}, rising l = true ↔ l.Pairwise fun a b => a.Client < b.Client
  | [] => by simp [rising]
  | [a] => by simp [rising]
  | a :: b :: r => by
    simp only [rising, Bool.and_eq_true, decide_eq_true_eq]
    rw [rising_iff (l := b :: r), List.pairwise_cons (a := a)]
    constructor
    · rintro ⟨h1, h2⟩
      refine ⟨fun x hx => ?_, h2⟩
      rcases List.mem_cons.1 hx with rfl | hx
      · exact h1
      · have := (List.pairwise_cons.1 h2).1 x hx; omega
    · rintro ⟨h1, h2⟩; exact ⟨h1 b (by simp), h2⟩
structure ClerkF (p : Plan) (c : Clerk) : Prop where
  r : 0 ≤ c.Round ∧ c.Round ≤ 200
  b : valOk c.Base = true
  d : doneOk p c.Done = true
  gl : c.Got.length = p.Gives.length
  g : allI (gotB p c.Base) 0 c.Got = true
  w : ∀ x ∈ c.Wants, callB p x = true
  ri : c.Wants.Pairwise fun a b => a.Client < b.Client
  up : c.Up = true ∨ (c.Wants = [] ∧ ∀ g ∈ c.Got, g.Has = false)
theorem clerkF {p : Plan} {c : Clerk} : clerkB p c = true ↔ ClerkF p c := by
  simp only [clerkB, Bool.and_eq_true, inB_iff, decide_eq_true_eq, Bool.or_eq_true, List.all_eq_true, rising_iff, List.isEmpty_iff, Bool.not_eq_true']
  constructor
  · rintro ⟨⟨⟨⟨⟨⟨⟨h1, h2⟩, h3⟩, h4⟩, h5⟩, h6⟩, h7⟩, h8⟩; exact ⟨h1, h2, h3, h4, h5, h6, h7, h8⟩
  · rintro ⟨h1, h2, h3, h4, h5, h6, h7, h8⟩; exact ⟨⟨⟨⟨⟨⟨⟨h1, h2⟩, h3⟩, h4⟩, h5⟩, h6⟩, h7⟩, h8⟩
theorem none_all {p : Plan} {base : List Int} (n : Nat) : allI (gotB p base) 0 (List.replicate n Got.nil) = true := by
  refine allI_iff.2 fun k x hk => ?_
  have := (List.mem_replicate.1 (List.mem_of_getElem? hk)).2
  subst this
  simp [gotB, Got.none, Got.nil]
inductive FoldW (p : Plan) (c : Clerk) : Clerk × List (Call × Rslt) → Prop
  | no (h : readyB c = false ∨ c.Round = 200 ∨ valOk (given c) = false) : FoldW p c (c, [])
  | yes (h1 : readyB c = true) (h2 : c.Round ≠ 200) (h3 : valOk (given c) = true) : FoldW p c
    ({ Up := c.Up, Round := c.Round + 1, Base := (foldWants p c.Got c.Wants (given c) c.Done).1, Done := (foldWants p c.Got c.Wants (given c) c.Done).2.1, Wants := [], Got := List.replicate c.Got.length Got.nil }, (foldWants p c.Got c.Wants (given c) c.Done).2.2)
inductive HearW (p : Plan) (c : Clerk) (m : Msg) : Clerk × List Msg × List (Call × Rslt) → Prop
  | no (h : c.Up = false ∨ m.To ≠ -1) : HearW p c m (c, [], [])
  | want (hu : c.Up = true) (ht : m.To = -1) (h : m.Kind = 1) : HearW p c m ({ c with Wants := wantIn c.Wants m.Call }, [], [])
  | late (hu : c.Up = true) (ht : m.To = -1) (h : m.Kind ≠ 1) (h' : m.Round ≠ c.Round ∨ keeps p.Acts (p.treaty c.Base) m.From m.Vals = false) : HearW p c m (c, [], [])
  | give (hu : c.Up = true) (ht : m.To = -1) (h : m.Kind ≠ 1) (hr : m.Round = c.Round) (hk : keeps p.Acts (p.treaty c.Base) m.From m.Vals = true) : HearW p c m
    ((clerkFold p { c with Got := c.Got.set m.From.toNat ⟨true, m.Vals, m.Seqs⟩ }).1, if (clerkFold p { c with Got := c.Got.set m.From.toNat ⟨true, m.Vals, m.Seqs⟩ }).1.Round = c.Round then [] else pacts (clerkFold p { c with Got := c.Got.set m.From.toNat ⟨true, m.Vals, m.Seqs⟩ }).1,
      (clerkFold p { c with Got := c.Got.set m.From.toNat ⟨true, m.Vals, m.Seqs⟩ }).2)
structure WorldF (w : World) : Prop where
  p : PlanF w.Plan
  sl : w.Sites.length = w.Plan.Gives.length
  cl : (w.Clients.length : Int) = w.Plan.Clients
  nl : w.Net.length ≤ 30
  ll : w.Log.length ≤ 100
  l : ∀ x ∈ w.Log, callB w.Plan x.Call = true ∧ resOk x.Res = true
  s : allI (fun i s => siteB w.Plan s i) 0 w.Sites = true
  c : allI (clientB w.Plan) 0 w.Clients = true
  n : ∀ m ∈ w.Net, msgB w.Plan m = true
  k : ClerkF w.Plan w.Clerk
theorem worldF {w : World} : wldOk w = true ↔ WorldF w := by
  simp only [wldOk, Bool.and_eq_true, decide_eq_true_eq, List.all_eq_true, logB, clerkF]
  constructor
  · rintro ⟨⟨⟨⟨⟨⟨⟨⟨h1, h2⟩, h3⟩, h4⟩, h5, h6⟩, h7⟩, h8⟩, h9⟩, h10⟩; exact ⟨planF h1, h2, h3, h4, h5, h6, h7, h8, h9, h10⟩
  · rintro ⟨h1, h2, h3, h4, h5, h6, h7, h8, h9, h10⟩; exact ⟨⟨⟨⟨⟨⟨⟨⟨h1.ok, h2⟩, h3⟩, h4⟩, h5, h6⟩, h7⟩, h8⟩, h9⟩, h10⟩
theorem siteNew_ok {p : Plan} (hp : PlanF p) {i : Nat} (hi : i < p.Gives.length) : siteB p (siteNew p) i = true := by
  refine siteB_iff.2 ⟨by simp [siteNew], hp.st, hp.keeps0 hp.st hi, ?_⟩
  have := hp.cl
  simp only [siteNew, doneOk, Bool.and_eq_true, decide_eq_true_eq, List.all_eq_true, List.length_replicate]
  exact ⟨by omega, fun x hx => by rw [(List.mem_replicate.1 hx).2]; decide⟩
theorem worldNew_ok {p : Plan} (hp : PlanF p) : WorldF (worldNew p) := by
  have hc := hp.cl
  have hd : doneOk p (List.replicate p.Clients.toNat Done.nil) = true := by
    simp only [doneOk, Bool.and_eq_true, decide_eq_true_eq, List.all_eq_true, List.length_replicate]
    exact ⟨by omega, fun x hx => by rw [(List.mem_replicate.1 hx).2]; decide⟩
  refine ⟨hp, by simp [worldNew], by simp only [worldNew, List.length_replicate]; omega, by simp [worldNew], by simp [worldNew], by simp [worldNew], ?_, ?_, by simp [worldNew], ?_⟩
  · refine allI_iff.2 fun k x hk => ?_
    have h1 := (List.mem_replicate.1 (List.mem_of_getElem? hk)).2
    have h2 : k < p.Gives.length := by have := (List.getElem?_eq_some_iff.1 hk).1; simpa [worldNew] using this
    subst h1
    rw [Nat.zero_add]; exact siteNew_ok hp h2
  · refine allI_iff.2 fun k x hk => ?_
    have h1 := (List.mem_replicate.1 (List.mem_of_getElem? hk)).2
    subst h1; rfl
  · exact ⟨by simp [worldNew, clerkNew], hp.st, hd, by simp [worldNew, clerkNew], none_all _, by simp [worldNew, clerkNew], by simp [worldNew, clerkNew], .inl rfl⟩
end Cc
end
section
namespace Cc
open Go Go.AM
set_option maxRecDepth 100000
set_option maxHeartbeats 8000000
theorem rising_get : ∀ {l : List Call}, rising l = true ↔ ∀ j, j + 1 < l.length → (l.getD j default).Client < (l.getD (j + 1) default).Client
  | [] => by simp [rising]
  | [a] => by simp [rising]
  | a :: b :: r => by
    have ih := rising_get (l := b :: r)
    simp only [rising, Bool.and_eq_true, decide_eq_true_eq, ih]
    constructor
    · rintro ⟨h1, h2⟩ j hj
      cases j with
      | zero => exact h1
      | succ j => exact h2 j (by simpa using hj)
    · intro h
      exact ⟨h 0 (by simp), fun j hj => h (j + 1) (by simpa using hj)⟩
theorem allI_get {α : Type} [Inhabited α] {f : Int → α → Bool} {l : List α} : allI f 0 l = true ↔ ∀ (j : Nat), j < l.length → f j (l.getD j default) = true := by
  rw [allI_iff]
  constructor
  · intro h j hj
    have := h j (l.getD j default) (by rw [List.getD_eq_getElem?_getD, List.getElem?_eq_getElem hj]; rfl)
    rw [Nat.zero_add] at this; exact this
  · intro h k x hk
    obtain ⟨hj, e⟩ := List.getElem?_eq_some_iff.1 hk
    have := h k hj
    rw [List.getD_eq_getElem?_getD, hk] at this
    rw [Nat.zero_add]; exact this
theorem all_getD {α : Type} [Inhabited α] {p : α → Bool} {l : List α} : l.all p = true ↔ ∀ j, j < l.length → p (l.getD j default) = true := by
  constructor
  · intro h j hj; exact List.all_eq_true.1 h _ (gd_mem hj)
  · intro h; exact all_get default h
theorem clerkB_iff {p : Plan} {c : Clerk} : clerkB p c = true ↔ ((inB c.Round 0 200 && valOk c.Base && doneOk p c.Done && decide (c.Got.length = p.Gives.length)) = true) ∧
    (∀ j, j < c.Wants.length → callB p (c.Wants.getD j default) = true ∧ (0 < j → (c.Wants.getD (j - 1) default).Client < (c.Wants.getD j default).Client) ∧ c.Up = true) ∧
    (∀ j, j < c.Got.length → ((c.Up && (c.Got.getD j default).Has && keeps p.Acts (p.treaty c.Base) j (c.Got.getD j default).Added && seqsOk p (c.Got.getD j default).Seqs) || (c.Got.getD j default).none) = true) := by
  unfold clerkB
  simp only [Bool.and_eq_true, Bool.or_eq_true, allI_get, rising_get, all_getD, decide_eq_true_eq]
  constructor
  · rintro ⟨⟨⟨⟨⟨⟨⟨h1, h2⟩, h3⟩, h4⟩, h5⟩, h6⟩, h7⟩, h8⟩
    refine ⟨⟨⟨⟨h1, h2⟩, h3⟩, h4⟩, fun j hj => ⟨h6 j hj, fun h0 => ?_, ?_⟩, fun j hj => ?_⟩
    · have := h7 (j - 1) (by omega)
      rw [show j - 1 + 1 = j from by omega] at this; exact this
    · rcases h8 with h8 | ⟨h8, _⟩
      · exact h8
      · cases hw : c.Wants with
        | nil => rw [hw] at hj; simp at hj
        | cons a r => rw [hw] at h8; cases h8
    · have h5 := h5 j hj
      unfold gotB at h5
      simp only [Bool.or_eq_true, Bool.and_eq_true] at h5
      rcases h5 with h5 | ⟨⟨h5, h5'⟩, h5''⟩
      · exact .inr h5
      · rcases h8 with h8 | ⟨_, h8⟩
        · exact .inl ⟨⟨⟨h8, h5⟩, h5'⟩, h5''⟩
        · have := h8 j hj; rw [h5] at this; cases this
  · rintro ⟨⟨⟨⟨h1, h2⟩, h3⟩, h4⟩, h5, h6⟩
    refine ⟨⟨⟨⟨⟨⟨⟨h1, h2⟩, h3⟩, h4⟩, fun j hj => ?_⟩, fun j hj => (h5 j hj).1⟩, fun j hj => ?_⟩, ?_⟩
    · have := h6 j hj
      unfold gotB
      simp only [Bool.or_eq_true, Bool.and_eq_true]
      rcases this with ⟨⟨⟨_, a⟩, b⟩, d⟩ | h
      · exact .inr ⟨⟨a, b⟩, d⟩
      · exact .inl h
    · have := (h5 (j + 1) hj).2.1 (by omega)
      simpa using this
    · cases hu : c.Up with
      | true => exact .inl rfl
      | false =>
        refine .inr ⟨?_, fun j hj => ?_⟩
        · cases hw : c.Wants with
          | nil => rfl
          | cons a r => have := (h5 0 (by rw [hw]; simp)).2.2; rw [hu] at this; cases this
        · have := h6 j hj
          rw [hu] at this
          simp only [Bool.false_eq_true, false_and, false_or] at this
          unfold Got.none at this
          simp only [Bool.and_eq_true] at this
          exact this.1.1
end Cc
end
section
namespace Cc
open Go Go.AM
set_option maxRecDepth 100000
set_option maxHeartbeats 8000000
theorem impl_clientOk (p : Plan) (x : Client) (n : Int) (hc : inB p.Clients 0 4 = true) : Sem P 102 [(.pure, .agg (aX x)), (.pure, .agg (aPl p)), (.pure, I n)] [] (B (clientB p n x)) := by
  by_cases h : Done.ok ⟨x.Seq, x.Res⟩ = true
  · have hs : 0 ≤ x.Seq ∧ x.Seq ≤ 300 := by
      unfold Done.ok at h
      split at h
      · rename_i e; simp only at e; omega
      · rw [Bool.and_eq_true] at h; have := inB_iff.1 h.1; simp only at this; omega
    refine fn_okR (E := E0) E0_tab E0_ord (fn := Go.Proofs.Tryz.f102) (by kernel_rfl) (by kernel_rfl) (fun hb => ?_)
    conv => whnf
    repeat' first | ((first | refine Sq.cons ?_ | refine Dr.cons ?_ | refine Sq.nil ?_ | (refine Dr.nil ?_; refine drawIf (by kernel_rfl) ?_) | refine Vc.region rfl ?_ | refine Vc.draw rfl (by kernel_rfl) ?_ | refine Vc.cond ?_ | refine Vc.block ?_ | refine Vc.ret ?_ | refine Vc.skip ?_ | refine Vc.exit ?_ | refine mkSl (by omega) (by omega) ?_); conv => whnf) | refine Vc.seq ?_ | (refine ifB_i (fun _ => ?_) (fun _ => ?_) <;> conv => whnf) | (refine ⟨_, impl_doneOne ⟨x.Seq, x.Res⟩, ?_⟩; conv => whnf) | (refine ⟨_, impl_callNone x.Call, ?_⟩; conv => whnf) | (refine ⟨_, impl_callOk p x.Call hc, ?_⟩; conv => whnf) | (refine w64 (by omega) (by omega) ?_; conv => whnf)
    all_goals exact rB (by first | (simp_all [clientB]; done) | (simp_all [clientB]; rfl))
  · refine fn_okR (E := E0) E0_tab E0_ord (fn := Go.Proofs.Tryz.f102) (by kernel_rfl) (by kernel_rfl) (fun hb => ?_)
    conv => whnf
    repeat' first | ((first | refine Sq.cons ?_ | refine Dr.cons ?_ | refine Sq.nil ?_ | (refine Dr.nil ?_; refine drawIf (by kernel_rfl) ?_) | refine Vc.region rfl ?_ | refine Vc.draw rfl (by kernel_rfl) ?_ | refine Vc.cond ?_ | refine Vc.block ?_ | refine Vc.ret ?_ | refine Vc.skip ?_ | refine Vc.exit ?_ | refine mkSl (by omega) (by omega) ?_); conv => whnf) | refine Vc.seq ?_ | (refine ifB_i (fun _ => ?_) (fun _ => ?_) <;> conv => whnf) | (refine ⟨_, impl_doneOne ⟨x.Seq, x.Res⟩, ?_⟩; conv => whnf)
    all_goals first
      | exact rB (by simp_all [clientB])
      | (exfalso; simp_all; done)
theorem impl_msgOk (p : Plan) (x : Msg) (hc : inB p.Clients 0 4 = true) : Sem P 106 [(.pure, .agg (aPl p)), (.pure, .agg (aM x))] [] (B (msgB p x)) := by
  obtain ⟨k, to, from_, round, call, vals, seqs, done⟩ := x
  have hk : k = 1 ∨ k = 2 ∨ k = 3 ∨ k = 4 ∨ (k ≠ 1 ∧ k ≠ 2 ∧ k ≠ 3 ∧ k ≠ 4) := by omega
  rcases hk with rfl | rfl | rfl | rfl | hk
  all_goals refine fn_okR (E := E0) E0_tab E0_ord (fn := Go.Proofs.Tryz.f106) (by kernel_rfl) (by kernel_rfl) (fun hb => ?_)
  all_goals conv => whnf
  all_goals repeat' first | ((first | refine Sq.cons ?_ | refine Dr.cons ?_ | refine Sq.nil ?_ | (refine Dr.nil ?_; refine drawIf (by kernel_rfl) ?_) | refine Vc.region rfl ?_ | refine Vc.draw rfl (by kernel_rfl) ?_ | refine Vc.cond ?_ | refine Vc.block ?_ | refine Vc.ret ?_ | refine Vc.skip ?_ | refine Vc.exit ?_ | refine mkSl (by omega) (by omega) ?_); conv => whnf) | refine Vc.seq ?_ | (refine ifB_i (fun _ => ?_) (fun _ => ?_) <;> conv => whnf) | (refine ⟨_, impl_callNone call, ?_⟩; conv => whnf) | (refine ⟨_, impl_in _ _ _, ?_⟩; conv => whnf) | (refine ⟨_, impl_callOk p call hc, ?_⟩; conv => whnf) | (refine ⟨_, impl_isSite p _, ?_⟩; conv => whnf) | (refine ⟨_, impl_addedOk _, ?_⟩; conv => whnf) | (refine ⟨_, impl_valOk _, ?_⟩; conv => whnf) | (refine ⟨_, impl_seqsOk p seqs, ?_⟩; conv => whnf) | (refine ⟨_, impl_doneOk p done, ?_⟩; conv => whnf)
  all_goals first
    | (refine rB ?_; simp_all [msgB, ints_z]; done)
    | (refine rB ?_; simp_all [msgB, ints_z, inB]; done)
    | (exfalso; simp_all; done)
end Cc
end
section
namespace Cc
open Go Go.AM
set_option maxRecDepth 100000
set_option maxHeartbeats 8000000
theorem clerk_no {p : Plan} {c : Clerk} (h : clerkB p c = true → False) : clerkB p c = false := by
  cases e : clerkB p c with
  | false => rfl
  | true => exact (h e).elim
theorem impl_clerkOkR (p : Plan) (c : Clerk) (hc : inB p.Clients 0 4 = true) : Sem P 103 [(.pure, .agg (aPl p)), (.pure, .agg (aRu p.Acts)), (.pure, .agg (aK c))] [] (B (clerkB p c)) := by
  have iff := @clerkB_iff p c
  have lw : (c.Wants.map eC).length = c.Wants.length := List.length_map ..
  have lg : (c.Got.map eG).length = c.Got.length := List.length_map ..
  have lp := ints_len p.Gives
  by_cases h0 : (inB c.Round 0 200 && valOk c.Base && doneOk p c.Done && decide (c.Got.length = p.Gives.length)) = true
  · refine fn_okR (E := E0) E0_tab E0_ord (fn := Go.Proofs.Tryz.f103) (by kernel_rfl) (by kernel_rfl) (fun hb => ?_)
    have hb1 : (c.Wants.map eC).length ≤ 1125899906842624 := (hb.2.2.1 (sCs c.Wants) (by simp)).1
    have hb2 : (c.Got.map eG).length ≤ 1125899906842624 := (hb.2.2.1 (sGs c.Got) (by simp)).1
    conv => whnf
    repeat' first | ((first | refine Sq.cons ?_ | refine Dr.cons ?_ | refine Sq.nil ?_ | (refine Dr.nil ?_; refine drawIf (by kernel_rfl) ?_) | refine Vc.region rfl ?_ | refine Vc.draw rfl (by kernel_rfl) ?_ | refine Vc.cond ?_ | refine Vc.block ?_ | refine Vc.ret ?_ | refine Vc.skip ?_ | refine Vc.exit ?_ | refine mkSl (by omega) (by omega) ?_); conv => whnf) | refine Vc.seq ?_ | (refine ifB_i (fun _ => ?_) (fun _ => ?_) <;> conv => whnf) | (refine ⟨_, impl_in _ _ _, ?_⟩; conv => whnf) | (refine ⟨_, impl_valOk _, ?_⟩; conv => whnf) | (refine ⟨_, impl_doneOk p c.Done, ?_⟩; conv => whnf)
    all_goals first
      | (clear iff; exfalso; simp_all; done)
      | skip
    refine Vc.loop1 (fun (i : Nat) => i ≤ c.Wants.length ∧ ∀ j, j < i → callB p (c.Wants.getD j default) = true ∧ (0 < j → (c.Wants.getD (j - 1) default).Client < (c.Wants.getD j default).Client) ∧ c.Up = true) (fun i => updL [3, 4, 5, 9, 10, 11, 39, 40, 72, 73, 74, 75, 76, 77, 78, 79, 80, 81, 82, 83, 84, 85, 86, 87, 88, 89, 90, 91, 92, 93, 94, 95, 96, 97, 98, 99, 100, 101, 102, 103, 104, 105, 106, 107, 108, 109, 110] [(41, I i)] []) (fun i => c.Wants.length - i) 0 ⟨Nat.zero_le _, fun j hj => absurd hj (Nat.not_lt_zero j)⟩ ?_ (fun i hi => ?_)
    · repeat' (first | exact True.intro | ((conv => whnf); first | exact True.intro | refine ⟨by rfl, ?_⟩ | refine ⟨by first | omega | (show (_ : Int) = _; first | omega | (dsimp only; omega)), ?_⟩ | refine ⟨?_, ?_⟩))
    · obtain ⟨hi, hall⟩ := hi
      conv => whnf
      (repeat' first | ((first | refine Sq.cons ?_ | refine Dr.cons ?_ | refine Sq.nil ?_ | (refine Dr.nil ?_; refine drawIf (by kernel_rfl) ?_) | refine Vc.region rfl ?_ | refine Vc.draw rfl (by kernel_rfl) ?_ | refine Vc.cond ?_ | refine Vc.block ?_ | refine Vc.ret ?_ | refine Vc.skip ?_ | refine Vc.exit ?_ | refine mkSl (by omega) (by omega) ?_); conv => whnf) | refine Vc.seq ?_)
      refine ifB_d (fun g => ?_) (fun g => ?_)
      all_goals conv => whnf
      · have hil : i < c.Wants.length := by omega
        have no : ∀ {q : Prop}, (callB p (c.Wants.getD i default) = true ∧ (0 < i → (c.Wants.getD (i - 1) default).Client < (c.Wants.getD i default).Client) ∧ c.Up = true → q) → (q → False) → clerkB p c = false := fun h1 h2 => clerk_no fun hB => h2 (h1 ((iff.1 hB).2.1 i hil))
        by_cases hz : i = 0
        · subst hz
          repeat' first | ((first | refine Sq.cons ?_ | refine Dr.cons ?_ | refine Sq.nil ?_ | (refine Dr.nil ?_; refine drawIf (by kernel_rfl) ?_) | refine Vc.region rfl ?_ | refine Vc.draw rfl (by kernel_rfl) ?_ | refine Vc.cond ?_ | refine Vc.block ?_ | refine Vc.ret ?_ | refine Vc.skip ?_ | refine Vc.exit ?_ | refine mkSl (by omega) (by omega) ?_); conv => whnf) | refine Vc.seq ?_ | (refine ifB_i (fun _ => ?_) (fun _ => ?_) <;> conv => whnf) | (refine ixN (enc := eC) default hil ?_; conv => whnf) | (refine ⟨_, impl_callOk p (c.Wants.getD 0 default) hc, ?_⟩; conv => whnf) | (refine w64 (by omega) (by omega) ?_; conv => whnf)
          all_goals first
            | (refine rB ?_; rw [no id]; rintro ⟨a1, a2, a3⟩; clear no iff hall; simp_all; done)
            | (refine ⟨1, ⟨by omega, fun j hj => ?_⟩, by simp only; omega, ?_⟩
               · obtain rfl : j = 0 := by omega
                 clear no iff hall
                 exact ⟨by simp_all, fun h => absurd h (Nat.lt_irrefl 0), by simp_all⟩
               · repeat' (first | exact True.intro | ((conv => whnf); first | exact True.intro | refine ⟨by rfl, ?_⟩ | refine ⟨by first | omega | (show (_ : Int) = _; first | omega | (dsimp only; omega)), ?_⟩ | refine ⟨?_, ?_⟩)))
        · have hz1 : ((i : Int) - 1).toNat = i - 1 := by omega
          repeat' first | ((first | refine Sq.cons ?_ | refine Dr.cons ?_ | refine Sq.nil ?_ | (refine Dr.nil ?_; refine drawIf (by kernel_rfl) ?_) | refine Vc.region rfl ?_ | refine Vc.draw rfl (by kernel_rfl) ?_ | refine Vc.cond ?_ | refine Vc.block ?_ | refine Vc.ret ?_ | refine Vc.skip ?_ | refine Vc.exit ?_ | refine mkSl (by omega) (by omega) ?_); conv => whnf) | refine Vc.seq ?_ | (refine ifB_i (fun _ => ?_) (fun _ => ?_) <;> conv => whnf) | (refine ixN (enc := eC) default hil ?_; conv => whnf) | (refine ⟨_, impl_callOk p (c.Wants.getD i default) hc, ?_⟩; conv => whnf) | (refine ixI (enc := eC) default (by omega) (by omega) ?_; conv => whnf) | (refine w64 (by omega) (by omega) ?_; conv => whnf)
          all_goals first
            | (refine rB ?_; rw [no id]; rintro ⟨a1, a2, a3⟩; have a2 := a2 (by omega); clear no iff hall; simp_all; done)
            | (refine rB ?_; rw [no id]; rintro ⟨a1, a2, a3⟩; have a2 := a2 (by omega); clear no iff hall; simp_all; omega)
            | (refine ⟨i + 1, ⟨by omega, fun j hj => ?_⟩, by simp only; omega, ?_⟩
               · by_cases hji : j < i
                 · exact hall j hji
                 · obtain rfl : j = i := by omega
                   clear no iff hall
                   refine ⟨by simp_all, fun h => ?_, by simp_all⟩
                   first
                     | (simp_all; done)
                     | (exfalso; simp_all; omega)
               · repeat' (first | exact True.intro | ((conv => whnf); first | exact True.intro | refine ⟨by rfl, ?_⟩ | refine ⟨by first | omega | (show (_ : Int) = _; first | omega | (dsimp only; omega)), ?_⟩ | refine ⟨?_, ?_⟩)))
      · have hW : ∀ j, j < c.Wants.length → callB p (c.Wants.getD j default) = true ∧ (0 < j → (c.Wants.getD (j - 1) default).Client < (c.Wants.getD j default).Client) ∧ c.Up = true := fun j hj => hall j (by omega)
        (repeat' first | ((first | refine Sq.cons ?_ | refine Dr.cons ?_ | refine Sq.nil ?_ | (refine Dr.nil ?_; refine drawIf (by kernel_rfl) ?_) | refine Vc.region rfl ?_ | refine Vc.draw rfl (by kernel_rfl) ?_ | refine Vc.cond ?_ | refine Vc.block ?_ | refine Vc.ret ?_ | refine Vc.skip ?_ | refine Vc.exit ?_ | refine mkSl (by omega) (by omega) ?_); conv => whnf) | refine Vc.seq ?_)
        refine Vc.loop1 (fun (k : Nat) => k ≤ c.Got.length ∧ ∀ j, j < k → ((c.Up && (c.Got.getD j default).Has && keeps p.Acts (p.treaty c.Base) j (c.Got.getD j default).Added && seqsOk p (c.Got.getD j default).Seqs) || (c.Got.getD j default).none) = true) (fun k => updL [3, 4, 5, 73, 74] [(75, I k)] []) (fun k => c.Got.length - k) 0 ⟨Nat.zero_le _, fun j hj => absurd hj (Nat.not_lt_zero j)⟩ ?_ (fun k hk => ?_)
        · repeat' (first | exact True.intro | ((conv => whnf); first | exact True.intro | refine ⟨by rfl, ?_⟩ | refine ⟨by first | omega | (show (_ : Int) = _; first | omega | (dsimp only; omega)), ?_⟩ | refine ⟨?_, ?_⟩))
        · obtain ⟨hk, hal2⟩ := hk
          conv => whnf
          (repeat' first | ((first | refine Sq.cons ?_ | refine Dr.cons ?_ | refine Sq.nil ?_ | (refine Dr.nil ?_; refine drawIf (by kernel_rfl) ?_) | refine Vc.region rfl ?_ | refine Vc.draw rfl (by kernel_rfl) ?_ | refine Vc.cond ?_ | refine Vc.block ?_ | refine Vc.ret ?_ | refine Vc.skip ?_ | refine Vc.exit ?_ | refine mkSl (by omega) (by omega) ?_); conv => whnf) | refine Vc.seq ?_)
          refine ifB_d (fun g => ?_) (fun g => ?_)
          all_goals conv => whnf
          · have hkl : k < c.Got.length := by omega
            have no : ¬ ((c.Up && (c.Got.getD k default).Has && keeps p.Acts (p.treaty c.Base) k (c.Got.getD k default).Added && seqsOk p (c.Got.getD k default).Seqs) || (c.Got.getD k default).none) = true → clerkB p c = false := fun h2 => clerk_no fun hB => h2 ((iff.1 hB).2.2 k hkl)
            have hke : keeps p.Acts (p.treaty c.Base) k (c.Got.getD k default).Added = (trtKeeps ⟨c.Base, p.Gives⟩ (partsOf p.Acts) k (c.Got.getD k default).Added && unpinned (pinsOf p.Acts) (c.Got.getD k default).Added) := rfl
            have hkp : Sem P 198 [(.pure, .agg (aRu p.Acts)), (.pure, .agg (aT ⟨c.Base, p.Gives⟩)), (.pure, I k), (.pure, AI (c.Got.getD k default).Added)] [] (B (keeps p.Acts (p.treaty c.Base) k (c.Got.getD k default).Added)) := impl_keeps p.Acts (partsOf p.Acts) _ _ _ ⟨c.Base, p.Gives⟩ k (c.Got.getD k default).Added
            clear hke
            generalize hkb : keeps p.Acts (p.treaty c.Base) k (c.Got.getD k default).Added = kb at hkp no
            repeat' first | ((first | refine Sq.cons ?_ | refine Dr.cons ?_ | refine Sq.nil ?_ | (refine Dr.nil ?_; refine drawIf (by kernel_rfl) ?_) | refine Vc.region rfl ?_ | refine Vc.draw rfl (by kernel_rfl) ?_ | refine Vc.cond ?_ | refine Vc.block ?_ | refine Vc.ret ?_ | refine Vc.skip ?_ | refine Vc.exit ?_ | refine mkSl (by omega) (by omega) ?_); conv => whnf) | refine Vc.seq ?_ | (refine ifB_i (fun _ => ?_) (fun _ => ?_) <;> conv => whnf) | (refine ixN (enc := eG) default hkl ?_; conv => whnf) | (refine ⟨_, impl_treaty p c.Base, ?_⟩; conv => whnf) | (refine ⟨_, hkp, ?_⟩; conv => whnf) | (refine ⟨_, impl_seqsOk p (c.Got.getD k default).Seqs, ?_⟩; conv => whnf) | (refine ⟨_, impl_gotNone (c.Got.getD k default), ?_⟩; conv => whnf) | (refine w64 (by omega) (by omega) ?_; conv => whnf)
            all_goals first
              | (refine rB ?_; symm; refine no ?_; clear no iff hall hal2 hW hkb hkp hb; simp_all; done)
              | (refine ⟨k + 1, ⟨by omega, fun j hj => ?_⟩, by simp only; omega, ?_⟩
                 · by_cases hjk : j < k
                   · exact hal2 j hjk
                   · obtain rfl : j = k := by omega
                     rw [hkb]
                     clear no iff hall hal2 hW hkb hkp hb
                     simp_all
                 · repeat' (first | exact True.intro | ((conv => whnf); first | exact True.intro | refine ⟨by rfl, ?_⟩ | refine ⟨by first | omega | (show (_ : Int) = _; first | omega | (dsimp only; omega)), ?_⟩ | refine ⟨?_, ?_⟩)))
          · (repeat' first | ((first | refine Sq.cons ?_ | refine Dr.cons ?_ | refine Sq.nil ?_ | (refine Dr.nil ?_; refine drawIf (by kernel_rfl) ?_) | refine Vc.region rfl ?_ | refine Vc.draw rfl (by kernel_rfl) ?_ | refine Vc.cond ?_ | refine Vc.block ?_ | refine Vc.ret ?_ | refine Vc.skip ?_ | refine Vc.exit ?_ | refine mkSl (by omega) (by omega) ?_); conv => whnf) | refine Vc.seq ?_)
            refine rB ?_
            symm
            exact iff.2 ⟨h0, hW, fun j hj => hal2 j (by omega)⟩
  · refine fn_okR (E := E0) E0_tab E0_ord (fn := Go.Proofs.Tryz.f103) (by kernel_rfl) (by kernel_rfl) (fun hb => ?_)
    conv => whnf
    repeat' first | ((first | refine Sq.cons ?_ | refine Dr.cons ?_ | refine Sq.nil ?_ | (refine Dr.nil ?_; refine drawIf (by kernel_rfl) ?_) | refine Vc.region rfl ?_ | refine Vc.draw rfl (by kernel_rfl) ?_ | refine Vc.cond ?_ | refine Vc.block ?_ | refine Vc.ret ?_ | refine Vc.skip ?_ | refine Vc.exit ?_ | refine mkSl (by omega) (by omega) ?_); conv => whnf) | refine Vc.seq ?_ | (refine ifB_i (fun _ => ?_) (fun _ => ?_) <;> conv => whnf) | (refine ⟨_, impl_in _ _ _, ?_⟩; conv => whnf) | (refine ⟨_, impl_valOk _, ?_⟩; conv => whnf) | (refine ⟨_, impl_doneOk p c.Done, ?_⟩; conv => whnf)
    all_goals first
      | (refine rB ?_; rw [clerk_no (fun hB => h0 (iff.1 hB).1)]; done)
      | (exfalso; refine h0 ?_; clear h0 iff; simp only [Bool.and_eq_true, decide_eq_true_eq]; simp_all; omega)
end Cc
end
section
namespace Cc
open Go Go.AM
set_option maxRecDepth 100000
set_option maxHeartbeats 8000000
theorem wld_1 (p : Plan) (m : Msg) (hc : inB p.Clients 0 4 = true) : Sem P 105 [(.pure, .agg (aM m)), (.pure, .one (.fp [] (aPl p) 0))] [] (B (!msgB p m)) := by
  refine fn_okR (E := E0) E0_tab E0_ord (fn := Go.Proofs.Tryz.f105) (by kernel_rfl) (by kernel_rfl) (fun hb => ?_)
  conv => whnf
  repeat' first | ((first | refine Sq.cons ?_ | refine Dr.cons ?_ | refine Sq.nil ?_ | (refine Dr.nil ?_; refine drawIf (by kernel_rfl) ?_) | refine Vc.region rfl ?_ | refine Vc.draw rfl (by kernel_rfl) ?_ | refine Vc.cond ?_ | refine Vc.block ?_ | refine Vc.ret ?_ | refine Vc.skip ?_ | refine Vc.exit ?_ | refine mkSl (by omega) (by omega) ?_); conv => whnf) | refine Vc.seq ?_ | (refine ifB_i (fun _ => ?_) (fun _ => ?_) <;> conv => whnf) | (refine ⟨_, impl_msgOk p m hc, ?_⟩; conv => whnf)
  exact ⟨rfl, rfl⟩
theorem msgs_any_ix (p : Plan) (hc : inB p.Clients 0 4 = true) (l : List Msg) : Sem P 204 [(.pure, .one (sMs l)), (.pure, .one (.fn 105 [.fp [] (aPl p) 0]))] [] (I (idxOf (fun (x : Msg) => !msgB p x) l)) := by
  refine fn_okR (E := E0) E0_tab E0_ord (fn := Go.Proofs.Tryz.f204) (by kernel_rfl) (by kernel_rfl) (fun hb => ?_)
  have la : (l.map eM).length = l.length := List.length_map ..
  have hb1 : (l.map eM).length ≤ 1125899906842624 := hb.1.1
  conv => whnf
  (repeat' first | ((first | refine Sq.cons ?_ | refine Dr.cons ?_ | refine Sq.nil ?_ | (refine Dr.nil ?_; refine drawIf (by kernel_rfl) ?_) | refine Vc.region rfl ?_ | refine Vc.draw rfl (by kernel_rfl) ?_ | refine Vc.cond ?_ | refine Vc.block ?_ | refine Vc.ret ?_ | refine Vc.skip ?_ | refine Vc.exit ?_ | refine mkSl (by omega) (by omega) ?_); conv => whnf) | refine Vc.seq ?_)
  refine Vc.loop { i : Nat // ∀ j, j < i → j < l.length → (fun (x : Msg) => !msgB p x) (l.getD j default) = false } (fun i => updL [0, 1, 7] [(8, I i.1)] []) (fun i => l.length - i.1) ⟨0, by simp⟩ ?_ (fun i => ?_)
  · repeat' (first | exact True.intro | ((conv => whnf); first | exact True.intro | refine ⟨by rfl, ?_⟩ | refine ⟨?_, ?_⟩))
  · have hi := i.2
    conv => whnf
    (repeat' first | ((first | refine Sq.cons ?_ | refine Dr.cons ?_ | refine Sq.nil ?_ | (refine Dr.nil ?_; refine drawIf (by kernel_rfl) ?_) | refine Vc.region rfl ?_ | refine Vc.draw rfl (by kernel_rfl) ?_ | refine Vc.cond ?_ | refine Vc.block ?_ | refine Vc.ret ?_ | refine Vc.skip ?_ | refine Vc.exit ?_ | refine mkSl (by omega) (by omega) ?_); conv => whnf) | refine Vc.seq ?_)
    refine ifB_d (fun g => ?_) (fun g => ?_)
    all_goals conv => whnf
    · repeat' first | ((first | refine Sq.cons ?_ | refine Dr.cons ?_ | refine Sq.nil ?_ | (refine Dr.nil ?_; refine drawIf (by kernel_rfl) ?_) | refine Vc.region rfl ?_ | refine Vc.draw rfl (by kernel_rfl) ?_ | refine Vc.cond ?_ | refine Vc.block ?_ | refine Vc.ret ?_ | refine Vc.skip ?_ | refine Vc.exit ?_ | refine mkSl (by omega) (by omega) ?_); conv => whnf) | refine Vc.seq ?_ | (refine ifB_i (fun _ => ?_) (fun _ => ?_) <;> conv => whnf) | (refine ixN (enc := eM) default (by omega) ?_; conv => whnf) | (refine ⟨_, wld_1 p _ hc, ?_⟩; conv => whnf) | (refine w64 (by omega) (by omega) ?_; conv => whnf)
      · rename_i h
        exact rI' (idx_hit (p := fun (x : Msg) => !msgB p x) default (by omega) h fun j hj => hi j hj (by omega)).symm
      · rename_i h
        refine ⟨⟨i.1 + 1, fun j hj hl => ?_⟩, ?_, ?_⟩
        · by_cases hji : j < i.1
          · exact hi j hji hl
          · obtain rfl : j = i.1 := by omega
            exact h
        · simp only; omega
        · repeat' (first | exact True.intro | ((conv => whnf); first | exact True.intro | refine ⟨by rfl, ?_⟩ | refine ⟨?_, ?_⟩))
    · (repeat' first | ((first | refine Sq.cons ?_ | refine Dr.cons ?_ | refine Sq.nil ?_ | (refine Dr.nil ?_; refine drawIf (by kernel_rfl) ?_) | refine Vc.region rfl ?_ | refine Vc.draw rfl (by kernel_rfl) ?_ | refine Vc.cond ?_ | refine Vc.block ?_ | refine Vc.ret ?_ | refine Vc.skip ?_ | refine Vc.exit ?_ | refine mkSl (by omega) (by omega) ?_); conv => whnf) | refine Vc.seq ?_)
      exact rI' (idx_none (p := fun (x : Msg) => !msgB p x) default fun j hj => hi j (by omega) hj).symm
theorem msgs_any (p : Plan) (hc : inB p.Clients 0 4 = true) (l : List Msg) : Sem P 104 [(.pure, .one (sMs l)), (.pure, .one (.fn 105 [.fp [] (aPl p) 0]))] [] (B (l.any fun (x : Msg) => !msgB p x)) := by
  refine fn_okR (E := E0) E0_tab E0_ord (fn := Go.Proofs.Tryz.f104) (by kernel_rfl) (by kernel_rfl) (fun hb => ?_)
  conv => whnf
  repeat' first | ((first | refine Sq.cons ?_ | refine Dr.cons ?_ | refine Sq.nil ?_ | (refine Dr.nil ?_; refine drawIf (by kernel_rfl) ?_) | refine Vc.region rfl ?_ | refine Vc.draw rfl (by kernel_rfl) ?_ | refine Vc.cond ?_ | refine Vc.block ?_ | refine Vc.ret ?_ | refine Vc.skip ?_ | refine Vc.exit ?_ | refine mkSl (by omega) (by omega) ?_); conv => whnf) | refine Vc.seq ?_ | (refine ifB_i (fun _ => ?_) (fun _ => ?_) <;> conv => whnf) | (refine ⟨_, msgs_any_ix p hc l, ?_⟩; conv => whnf)
  exact rB (idx_any _ _)
theorem plan_cat {p : Plan} (h : planOk p = true) : catOk p.Acts = true := by
  unfold planOk at h; simp only [Bool.and_eq_true] at h; exact h.1.1.2
theorem wldOk_iff {w : World} : wldOk w = true ↔ ((planOk w.Plan && decide (w.Sites.length = w.Plan.Gives.length) && decide ((w.Clients.length : Int) = w.Plan.Clients) && decide (w.Net.length ≤ 30) && logB w.Plan w.Log) = true) ∧
    (∀ j, j < w.Sites.length → siteB w.Plan (w.Sites.getD j default) j = true) ∧ (∀ j, j < w.Clients.length → clientB w.Plan j (w.Clients.getD j default) = true) ∧ (clerkB w.Plan w.Clerk && w.Net.all (msgB w.Plan)) = true := by
  unfold wldOk
  simp only [Bool.and_eq_true, allI_get]
  constructor
  · rintro ⟨⟨⟨⟨h1, h2⟩, h3⟩, h4⟩, h5⟩; exact ⟨h1, h2, h3, h5, h4⟩
  · rintro ⟨h1, h2, h3, h5, h4⟩; exact ⟨⟨⟨⟨h1, h2⟩, h3⟩, h4⟩, h5⟩
theorem wld_no {w : World} (h : wldOk w = true → False) : wldOk w = false := by
  cases e : wldOk w with
  | false => rfl
  | true => exact (h e).elim
theorem impl_wldOk (w : World) : Sem P 25 [(.pure, .agg (aWd w))] [] (B (wldOk w)) := by
  have iff := @wldOk_iff w
  have ls : (w.Sites.map eS).length = w.Sites.length := List.length_map ..
  have lx : (w.Clients.map eX).length = w.Clients.length := List.length_map ..
  have lm : (w.Net.map eM).length = w.Net.length := List.length_map ..
  have lp := ints_len w.Plan.Gives
  by_cases h0 : (planOk w.Plan && decide (w.Sites.length = w.Plan.Gives.length) && decide ((w.Clients.length : Int) = w.Plan.Clients) && decide (w.Net.length ≤ 30) && logB w.Plan w.Log) = true
  · have h := h0
    simp only [Bool.and_eq_true, decide_eq_true_eq] at h
    obtain ⟨⟨⟨⟨h1, h2⟩, h3⟩, h4⟩, h5⟩ := h
    have hc := plan_clients h1
    have hcb := inB_iff.1 hc
    refine fn_okR (E := E0) E0_tab E0_ord (fn := Go.Proofs.Tryz.f25) (by kernel_rfl) (by kernel_rfl) (fun hb => ?_)
    have hb1 : (w.Sites.map eS).length ≤ 1125899906842624 := (hb.1 (sSs w.Sites) (by simp)).1
    have hb2 : (w.Clients.map eX).length ≤ 1125899906842624 := (hb.1 (sXs w.Clients) (by simp)).1
    conv => whnf
    repeat' first | ((first | refine Sq.cons ?_ | refine Dr.cons ?_ | refine Sq.nil ?_ | (refine Dr.nil ?_; refine drawIf (by kernel_rfl) ?_) | refine Vc.region rfl ?_ | refine Vc.draw rfl (by kernel_rfl) ?_ | refine Vc.cond ?_ | refine Vc.block ?_ | refine Vc.ret ?_ | refine Vc.skip ?_ | refine Vc.exit ?_ | refine mkSl (by omega) (by omega) ?_); conv => whnf) | refine Vc.seq ?_ | (refine ifB_i (fun _ => ?_) (fun _ => ?_) <;> conv => whnf) | (refine ⟨_, impl_planOk w.Plan, ?_⟩; conv => whnf) | (refine ⟨_, impl_logOk w.Plan hc w.Log, ?_⟩; conv => whnf) | (refine ⟨_, impl_rules w.Plan.Acts (plan_cat h1), ?_⟩; conv => whnf)
    all_goals first
      | (clear iff; exfalso; simp_all; done)
      | (clear iff; exfalso; simp_all; omega)
      | skip
    refine Vc.loop1 (fun (i : Nat) => i ≤ w.Sites.length ∧ ∀ j, j < i → siteB w.Plan (w.Sites.getD j default) j = true) (fun i => updL [1, 3, 4, 7, 8, 48, 49, 62, 63, 64, 65, 66, 67, 68, 69, 70, 71, 72, 73, 74, 75, 76, 77, 78, 79, 80, 81, 82, 83, 84, 85, 86, 87] [(50, I i)] []) (fun i => w.Sites.length - i) 0 ⟨Nat.zero_le _, fun j hj => absurd hj (Nat.not_lt_zero j)⟩ ?_ (fun i hi => ?_)
    · repeat' (first | exact True.intro | ((conv => whnf); first | exact True.intro | refine ⟨by rfl, ?_⟩ | refine ⟨by first | omega | (show (_ : Int) = _; first | omega | (dsimp only; omega)), ?_⟩ | refine ⟨?_, ?_⟩))
    · obtain ⟨hi, hall⟩ := hi
      conv => whnf
      (repeat' first | ((first | refine Sq.cons ?_ | refine Dr.cons ?_ | refine Sq.nil ?_ | (refine Dr.nil ?_; refine drawIf (by kernel_rfl) ?_) | refine Vc.region rfl ?_ | refine Vc.draw rfl (by kernel_rfl) ?_ | refine Vc.cond ?_ | refine Vc.block ?_ | refine Vc.ret ?_ | refine Vc.skip ?_ | refine Vc.exit ?_ | refine mkSl (by omega) (by omega) ?_); conv => whnf) | refine Vc.seq ?_)
      refine ifB_d (fun g => ?_) (fun g => ?_)
      all_goals conv => whnf
      · have hil : i < w.Sites.length := by omega
        have his : isSite w.Plan i = true := inB_iff.2 (by omega)
        repeat' first | ((first | refine Sq.cons ?_ | refine Dr.cons ?_ | refine Sq.nil ?_ | (refine Dr.nil ?_; refine drawIf (by kernel_rfl) ?_) | refine Vc.region rfl ?_ | refine Vc.draw rfl (by kernel_rfl) ?_ | refine Vc.cond ?_ | refine Vc.block ?_ | refine Vc.ret ?_ | refine Vc.skip ?_ | refine Vc.exit ?_ | refine mkSl (by omega) (by omega) ?_); conv => whnf) | refine Vc.seq ?_ | (refine ifB_i (fun _ => ?_) (fun _ => ?_) <;> conv => whnf) | (refine ixN (enc := eS) default hil ?_; conv => whnf) | (refine ⟨_, impl_siteOkR w.Plan (w.Sites.getD i default) i, ?_⟩; conv => whnf) | (refine w64 (by omega) (by omega) ?_; conv => whnf)
        all_goals first
          | (refine rB ?_; symm; refine wld_no fun hB => ?_; have := (iff.1 hB).2.1 i hil; clear iff hall; simp_all; done)
          | (refine ⟨i + 1, ⟨by omega, fun j hj => ?_⟩, by simp only; omega, ?_⟩
             · by_cases hji : j < i
               · exact hall j hji
               · obtain rfl : j = i := by omega
                 clear iff hall
                 simp_all
             · repeat' (first | exact True.intro | ((conv => whnf); first | exact True.intro | refine ⟨by rfl, ?_⟩ | refine ⟨by first | omega | (show (_ : Int) = _; first | omega | (dsimp only; omega)), ?_⟩ | refine ⟨?_, ?_⟩)))
      · have hS : ∀ j, j < w.Sites.length → siteB w.Plan (w.Sites.getD j default) j = true := fun j hj => hall j (by omega)
        (repeat' first | ((first | refine Sq.cons ?_ | refine Dr.cons ?_ | refine Sq.nil ?_ | (refine Dr.nil ?_; refine drawIf (by kernel_rfl) ?_) | refine Vc.region rfl ?_ | refine Vc.draw rfl (by kernel_rfl) ?_ | refine Vc.cond ?_ | refine Vc.block ?_ | refine Vc.ret ?_ | refine Vc.skip ?_ | refine Vc.exit ?_ | refine mkSl (by omega) (by omega) ?_); conv => whnf) | refine Vc.seq ?_)
        refine Vc.loop1 (fun (i : Nat) => i ≤ w.Clients.length ∧ ∀ j, j < i → clientB w.Plan j (w.Clients.getD j default) = true) (fun i => updL [1, 3, 4, 63, 64, 76, 77, 78, 79, 80, 81, 82, 83, 84, 85, 86, 87] [(65, I i)] []) (fun i => w.Clients.length - i) 0 ⟨Nat.zero_le _, fun j hj => absurd hj (Nat.not_lt_zero j)⟩ ?_ (fun k hk => ?_)
        · repeat' (first | exact True.intro | ((conv => whnf); first | exact True.intro | refine ⟨by rfl, ?_⟩ | refine ⟨by first | omega | (show (_ : Int) = _; first | omega | (dsimp only; omega)), ?_⟩ | refine ⟨?_, ?_⟩))
        · obtain ⟨hk, hal2⟩ := hk
          conv => whnf
          (repeat' first | ((first | refine Sq.cons ?_ | refine Dr.cons ?_ | refine Sq.nil ?_ | (refine Dr.nil ?_; refine drawIf (by kernel_rfl) ?_) | refine Vc.region rfl ?_ | refine Vc.draw rfl (by kernel_rfl) ?_ | refine Vc.cond ?_ | refine Vc.block ?_ | refine Vc.ret ?_ | refine Vc.skip ?_ | refine Vc.exit ?_ | refine mkSl (by omega) (by omega) ?_); conv => whnf) | refine Vc.seq ?_)
          refine ifB_d (fun g => ?_) (fun g => ?_)
          all_goals conv => whnf
          · have hkl : k < w.Clients.length := by omega
            repeat' first | ((first | refine Sq.cons ?_ | refine Dr.cons ?_ | refine Sq.nil ?_ | (refine Dr.nil ?_; refine drawIf (by kernel_rfl) ?_) | refine Vc.region rfl ?_ | refine Vc.draw rfl (by kernel_rfl) ?_ | refine Vc.cond ?_ | refine Vc.block ?_ | refine Vc.ret ?_ | refine Vc.skip ?_ | refine Vc.exit ?_ | refine mkSl (by omega) (by omega) ?_); conv => whnf) | refine Vc.seq ?_ | (refine ifB_i (fun _ => ?_) (fun _ => ?_) <;> conv => whnf) | (refine ixN (enc := eX) default hkl ?_; conv => whnf) | (refine ⟨_, impl_clientOk w.Plan (w.Clients.getD k default) k hc, ?_⟩; conv => whnf) | (refine w64 (by omega) (by omega) ?_; conv => whnf)
            all_goals first
              | (refine rB ?_; symm; refine wld_no fun hB => ?_; have := (iff.1 hB).2.2.1 k hkl; clear iff hall hal2 hS; simp_all; done)
              | (refine ⟨k + 1, ⟨by omega, fun j hj => ?_⟩, by simp only; omega, ?_⟩
                 · by_cases hji : j < k
                   · exact hal2 j hji
                   · obtain rfl : j = k := by omega
                     clear iff hall hal2 hS
                     simp_all
                 · repeat' (first | exact True.intro | ((conv => whnf); first | exact True.intro | refine ⟨by rfl, ?_⟩ | refine ⟨by first | omega | (show (_ : Int) = _; first | omega | (dsimp only; omega)), ?_⟩ | refine ⟨?_, ?_⟩)))
          · have hX : ∀ j, j < w.Clients.length → clientB w.Plan j (w.Clients.getD j default) = true := fun j hj => hal2 j (by omega)
            have fin : wldOk w = (clerkB w.Plan w.Clerk && w.Net.all (msgB w.Plan)) := by
              cases e : (clerkB w.Plan w.Clerk && w.Net.all (msgB w.Plan)) with
              | true => exact iff.2 ⟨h0, hS, hX, e⟩
              | false => exact wld_no fun hB => by rw [(iff.1 hB).2.2.2] at e; cases e
            clear iff hall hal2 hS hX
            repeat' first | ((first | refine Sq.cons ?_ | refine Dr.cons ?_ | refine Sq.nil ?_ | (refine Dr.nil ?_; refine drawIf (by kernel_rfl) ?_) | refine Vc.region rfl ?_ | refine Vc.draw rfl (by kernel_rfl) ?_ | refine Vc.cond ?_ | refine Vc.block ?_ | refine Vc.ret ?_ | refine Vc.skip ?_ | refine Vc.exit ?_ | refine mkSl (by omega) (by omega) ?_); conv => whnf) | refine Vc.seq ?_ | (refine ifB_i (fun _ => ?_) (fun _ => ?_) <;> conv => whnf) | (refine ⟨_, impl_clerkOkR w.Plan w.Clerk hc, ?_⟩; conv => whnf) | (refine ⟨_, msgs_any w.Plan hc w.Net, ?_⟩; conv => whnf)
            all_goals (refine rB ?_; rw [fin]; simp_all [any_all]; done)
  · have hno : wldOk w = false := wld_no fun hB => h0 (iff.1 hB).1
    clear iff
    by_cases hp : planOk w.Plan = true
    · have hc := plan_clients hp
      refine fn_okR (E := E0) E0_tab E0_ord (fn := Go.Proofs.Tryz.f25) (by kernel_rfl) (by kernel_rfl) (fun hb => ?_)
      conv => whnf
      repeat' first | ((first | refine Sq.cons ?_ | refine Dr.cons ?_ | refine Sq.nil ?_ | (refine Dr.nil ?_; refine drawIf (by kernel_rfl) ?_) | refine Vc.region rfl ?_ | refine Vc.draw rfl (by kernel_rfl) ?_ | refine Vc.cond ?_ | refine Vc.block ?_ | refine Vc.ret ?_ | refine Vc.skip ?_ | refine Vc.exit ?_ | refine mkSl (by omega) (by omega) ?_); conv => whnf) | refine Vc.seq ?_ | (refine ifB_i (fun _ => ?_) (fun _ => ?_) <;> conv => whnf) | (refine ⟨_, impl_planOk w.Plan, ?_⟩; conv => whnf) | (refine ⟨_, impl_logOk w.Plan hc w.Log, ?_⟩; conv => whnf)
      all_goals first
        | (refine rB ?_; rw [hno]; done)
        | (exfalso; refine h0 ?_; clear h0 hno; simp only [Bool.and_eq_true, decide_eq_true_eq]; simp_all; omega)
    · refine fn_okR (E := E0) E0_tab E0_ord (fn := Go.Proofs.Tryz.f25) (by kernel_rfl) (by kernel_rfl) (fun hb => ?_)
      conv => whnf
      repeat' first | ((first | refine Sq.cons ?_ | refine Dr.cons ?_ | refine Sq.nil ?_ | (refine Dr.nil ?_; refine drawIf (by kernel_rfl) ?_) | refine Vc.region rfl ?_ | refine Vc.draw rfl (by kernel_rfl) ?_ | refine Vc.cond ?_ | refine Vc.block ?_ | refine Vc.ret ?_ | refine Vc.skip ?_ | refine Vc.exit ?_ | refine mkSl (by omega) (by omega) ?_); conv => whnf) | refine Vc.seq ?_ | (refine ifB_i (fun _ => ?_) (fun _ => ?_) <;> conv => whnf) | (refine ⟨_, impl_planOk w.Plan, ?_⟩; conv => whnf)
      all_goals first
        | (refine rB ?_; rw [hno]; done)
        | (exfalso; simp_all; done)
end Cc
end
section
namespace Cc
open Go Go.AM
set_option maxRecDepth 100000
set_option maxHeartbeats 8000000
def mid (l : List Int) : Prop := ∀ x ∈ l, -1000000000000000 ≤ x ∧ x ≤ 1000000000000000
theorem plus_add {a b : List Int} (h : a.length = b.length) : plus a b = addL a b 1 := by
  rw [addL_zip 1 a b h]; unfold plus; congr 1; funext x y; omega
theorem impl_plus (a b : List Int) (h : a.length = b.length) (h1 : a.length ≤ 100) (ha : mid a) (hb' : mid b) : Sem P 206 [(.pure, AI a), (.pure, AI b)] [] (AI (plus a b)) := by
  have lb := ints_len b
  refine fn_okR (E := { E0 with keep := [2001] }) E0_tab E0_ord (fn := Go.Proofs.Tryz.f206) (by kernel_rfl) (by kernel_rfl) (fun hb => ?_)
  conv => whnf
  repeat' first | ((first | refine Sq.cons ?_ | refine Dr.cons ?_ | refine Sq.nil ?_ | (refine Dr.nil ?_; refine drawIf (by kernel_rfl) ?_) | refine Vc.region rfl ?_ | refine Vc.draw rfl (by kernel_rfl) ?_ | refine Vc.cond ?_ | refine Vc.block ?_ | refine Vc.ret ?_ | refine Vc.skip ?_ | refine Vc.exit ?_ | refine mkSl (by omega) (by omega) ?_); conv => whnf) | refine Vc.seq ?_ | (refine ifB_i (fun _ => ?_) (fun _ => ?_) <;> conv => whnf) | (refine ⟨_, ints_clone a (by omega), ?_⟩; conv => whnf)
  refine Vc.loop1 (fun (i : Nat) => i ≤ b.length) (fun i => updL [4, 5, 10, 11, 25] [(12, I i)] [(128064, .arr 3 (ints (addL a (b.take i) 1)) false)]) (fun i => b.length - i) 0 (Nat.zero_le _) ?_ (fun i hi => ?_)
  · repeat' (first | exact True.intro | ((conv => whnf); first | exact True.intro | refine ⟨by rfl, ?_⟩ | refine ⟨by first | omega | (show (_ : Int) = _; first | omega | (dsimp only; omega)) | exact congrArg ints (addL_nil _ _).symm, ?_⟩ | refine ⟨?_, ?_⟩))
  · have hlo : (ints (addL a (b.take i) 1)).length = a.length := by rw [ints_len, addL_len]
    have hlo' := addL_len a (b.take i) 1
    conv => whnf
    (repeat' first | ((first | refine Sq.cons ?_ | refine Dr.cons ?_ | refine Sq.nil ?_ | (refine Dr.nil ?_; refine drawIf (by kernel_rfl) ?_) | refine Vc.region rfl ?_ | refine Vc.draw rfl (by kernel_rfl) ?_ | refine Vc.cond ?_ | refine Vc.block ?_ | refine Vc.ret ?_ | refine Vc.skip ?_ | refine Vc.exit ?_ | refine mkSl (by omega) (by omega) ?_); conv => whnf) | refine Vc.seq ?_)
    refine ifB_d (fun g => ?_) (fun g => ?_)
    all_goals conv => whnf
    · have hil : i < b.length := by omega
      have b1 := ha (a.getD i 0) (gd_mem (by omega))
      have b2 := hb' (b.getD i 0) (gd_mem hil)
      have e1 := addL_get 1 a b i
      have e2 := addL_step 1 a b i hil (by omega)
      rw [Int.one_mul] at e2
      repeat' first | ((first | refine Sq.cons ?_ | refine Dr.cons ?_ | refine Sq.nil ?_ | (refine Dr.nil ?_; refine drawIf (by kernel_rfl) ?_) | refine Vc.region rfl ?_ | refine Vc.draw rfl (by kernel_rfl) ?_ | refine Vc.cond ?_ | refine Vc.block ?_ | refine Vc.ret ?_ | refine Vc.skip ?_ | refine Vc.exit ?_ | refine mkSl (by omega) (by omega) ?_); conv => whnf) | refine Vc.seq ?_ | (refine ifB_i (fun _ => ?_) (fun _ => ?_) <;> conv => whnf) | (refine ixN (enc := rI) 0 (by omega) ?_; conv => whnf) | (refine ioN (by omega) (by omega) ?_; conv => whnf) | (refine rwN (enc := rI) 0 (by simp only [Int.toNat_natCast]; omega) ?_; conv => whnf) | (refine w64 (by first | omega | (simp only [Int.toNat_natCast]; omega)) (by first | omega | (simp only [Int.toNat_natCast]; omega)) ?_; conv => whnf)
      refine ⟨i + 1, by omega, by simp only; omega, ?_⟩
      repeat' (first | exact True.intro | ((conv => whnf); first | exact True.intro | refine ⟨by rfl, ?_⟩ | refine ⟨by first | omega | (show (_ : Int) = _; first | omega | (dsimp only; omega)) | exact (by simp only [Int.toNat_natCast]; rw [set_ints, e1, e2]), ?_⟩ | refine ⟨?_, ?_⟩))
    · (repeat' first | ((first | refine Sq.cons ?_ | refine Dr.cons ?_ | refine Sq.nil ?_ | (refine Dr.nil ?_; refine drawIf (by kernel_rfl) ?_) | refine Vc.region rfl ?_ | refine Vc.draw rfl (by kernel_rfl) ?_ | refine Vc.cond ?_ | refine Vc.block ?_ | refine Vc.ret ?_ | refine Vc.skip ?_ | refine Vc.exit ?_ | refine mkSl (by omega) (by omega) ?_); conv => whnf) | refine Vc.seq ?_)
      have hend : b.take i = b := List.take_of_length_le (by omega)
      exact ⟨by rw [hend, plus_add h], rfl⟩
end Cc
end
section
namespace Cc
open Go Go.AM
set_option maxRecDepth 100000
set_option maxHeartbeats 8000000
def vAt (w : World) (i : Nat) : List Int := (w.Sites.take i).foldl (fun v s => if s.Round = w.Clerk.Round then plus v s.Added else v) w.Clerk.Base
theorem vAt_succ {w : World} {i : Nat} (h : i < w.Sites.length) : vAt w (i + 1) = if (w.Sites.getD i default).Round = w.Clerk.Round then plus (vAt w i) (w.Sites.getD i default).Added else vAt w i := by
  unfold vAt; rw [take_succ_getD h, List.foldl_append]; rfl
theorem vAt_end {w : World} {i : Nat} (h : w.Sites.length ≤ i) : vAt w i = valsOf w := by unfold vAt valsOf; rw [List.take_of_length_le h]
theorem plus_bd {a b : List Int} {m n : Int} (h : a.length = 3) (h' : b.length = 3) (ha : ∀ x ∈ a, -m ≤ x ∧ x ≤ m) (hb : ∀ x ∈ b, -n ≤ x ∧ x ≤ n) : (plus a b).length = 3 ∧ ∀ x ∈ plus a b, -(m + n) ≤ x ∧ x ≤ m + n := by
  obtain ⟨a1, a2, a3, rfl⟩ := len3 h
  obtain ⟨b1, b2, b3, rfl⟩ := len3 h'
  refine ⟨rfl, ?_⟩
  have p1 := ha a1 (by simp); have p2 := ha a2 (by simp); have p3 := ha a3 (by simp)
  have q1 := hb b1 (by simp); have q2 := hb b2 (by simp); have q3 := hb b3 (by simp)
  intro x hx
  simp only [plus, List.zipWith_cons_cons, List.zipWith_nil_left, List.mem_cons, List.not_mem_nil, or_false] at hx
  rcases hx with rfl | rfl | rfl <;> omega
theorem wld_site {w : World} (hw : wldOk w = true) {i : Nat} (h : i < w.Sites.length) : addedOk (w.Sites.getD i default).Added = true := by
  have := (wldOk_iff.1 hw).2.1 i h
  unfold siteB keeps trtKeeps at this
  simp only [Bool.and_eq_true] at this
  exact this.1.2.1.1.2
theorem wld_sites {w : World} (hw : wldOk w = true) : w.Sites.length ≤ 3 := by
  have h := (wldOk_iff.1 hw).1
  simp only [Bool.and_eq_true, decide_eq_true_eq] at h
  have hp := h.1.1.1.1
  unfold planOk trtOk givesOk at hp
  simp only [Bool.and_eq_true, inB_iff] at hp
  have := hp.2.2.1
  have e := h.1.1.1.2
  simp only [Plan.treaty] at this
  omega
theorem vAt_bd {w : World} (hw : wldOk w = true) : ∀ i, i ≤ w.Sites.length → (vAt w i).length = 3 ∧ ∀ x ∈ vAt w i, -(10000 + i * 20000 : Int) ≤ x ∧ x ≤ 10000 + i * 20000 := by
  intro i
  induction i with
  | zero =>
    intro _
    have h := (wldOk_iff.1 hw).2.2.2
    rw [Bool.and_eq_true] at h
    have h := (clerkB_iff.1 h.1).1
    simp only [Bool.and_eq_true] at h
    have := within_iff.1 h.1.1.2
    simpa [vAt] using this
  | succ i ih =>
    intro hi
    obtain ⟨l, b⟩ := ih (by omega)
    rw [vAt_succ (by omega)]
    split
    · have ha := added_three (wld_site hw (i := i) (by omega))
      have := plus_bd l ha.1 b ha.2
      refine ⟨this.1, fun x hx => ?_⟩
      have := this.2 x hx
      omega
    · exact ⟨l, fun x hx => by have := b x hx; omega⟩
end Cc
end
section
namespace Cc
open Go Go.AM
set_option maxRecDepth 100000
set_option maxHeartbeats 8000000
theorem impl_valsOf (w : World) (hw : wldOk w = true) : Sem P 107 [(.pure, .agg (aWd w))] [] (AI (valsOf w)) := by
  have ls : (w.Sites.map eS).length = w.Sites.length := List.length_map ..
  have l3 := wld_sites hw
  have v0 := vAt_bd hw 0 (Nat.zero_le _)
  refine fn_okR (E := { E0 with keep := [2003, 7003] }) E0_tab E0_ord (fn := Go.Proofs.Tryz.f107) (by kernel_rfl) (by kernel_rfl) (fun hb => ?_)
  conv => whnf
  repeat' first | ((first | refine Sq.cons ?_ | refine Dr.cons ?_ | refine Sq.nil ?_ | (refine Dr.nil ?_; refine drawIf (by kernel_rfl) ?_) | refine Vc.region rfl ?_ | refine Vc.draw rfl (by kernel_rfl) ?_ | refine Vc.cond ?_ | refine Vc.block ?_ | refine Vc.ret ?_ | refine Vc.skip ?_ | refine Vc.exit ?_ | refine mkSl (by omega) (by omega) ?_); conv => whnf) | refine Vc.seq ?_ | (refine ifB_i (fun _ => ?_) (fun _ => ?_) <;> conv => whnf) | (refine ⟨_, ints_clone w.Clerk.Base (by have := v0.1; simp only [vAt, List.take_zero, List.foldl_nil] at this; omega), ?_⟩; conv => whnf)
  refine Vc.loop1 (fun (i : Nat) => i ≤ w.Sites.length) (fun i => updL [1, 2, 11, 12, 28] [(13, I i), (3, .one (.ref 128192))] [(128192, .arr 3 (ints (vAt w i)) false)]) (fun i => w.Sites.length - i) 0 (Nat.zero_le _) ?_ (fun i hi => ?_)
  · repeat' (first | exact True.intro | ((conv => whnf); first | exact True.intro | refine ⟨by rfl, ?_⟩ | refine ⟨by first | omega | (show (_ : Int) = _; first | omega | (dsimp only; omega)), ?_⟩ | refine ⟨?_, ?_⟩))
  · have vi := vAt_bd hw i hi
    conv => whnf
    (repeat' first | ((first | refine Sq.cons ?_ | refine Dr.cons ?_ | refine Sq.nil ?_ | (refine Dr.nil ?_; refine drawIf (by kernel_rfl) ?_) | refine Vc.region rfl ?_ | refine Vc.draw rfl (by kernel_rfl) ?_ | refine Vc.cond ?_ | refine Vc.block ?_ | refine Vc.ret ?_ | refine Vc.skip ?_ | refine Vc.exit ?_ | refine mkSl (by omega) (by omega) ?_); conv => whnf) | refine Vc.seq ?_)
    refine ifB_d (fun g => ?_) (fun g => ?_)
    all_goals conv => whnf
    · have hil : i < w.Sites.length := by omega
      have ha := added_three (wld_site hw hil)
      have es := vAt_succ hil
      repeat' first | ((first | refine Sq.cons ?_ | refine Dr.cons ?_ | refine Sq.nil ?_ | (refine Dr.nil ?_; refine drawIf (by kernel_rfl) ?_) | refine Vc.region rfl ?_ | refine Vc.draw rfl (by kernel_rfl) ?_ | refine Vc.cond ?_ | refine Vc.block ?_ | refine Vc.ret ?_ | refine Vc.skip ?_ | refine Vc.exit ?_ | refine mkSl (by omega) (by omega) ?_); conv => whnf) | refine Vc.seq ?_ | (refine ifB_i (fun _ => ?_) (fun _ => ?_) <;> conv => whnf) | (refine ixN (enc := eS) default hil ?_; conv => whnf) | (refine ⟨_, impl_plus (vAt w i) (w.Sites.getD i default).Added (by omega) (by omega) (fun x hx => by have := vi.2 x hx; omega) (fun x hx => by have := ha.2 x hx; omega), ?_⟩; conv => whnf) | (refine w64 (by omega) (by omega) ?_; conv => whnf) | (refine akP (prim_ints _) ?_; conv => whnf)
      · rename_i h
        rw [if_pos (by simpa using h)] at es
        refine ⟨i + 1, by omega, by simp only; omega, ?_⟩
        repeat' (first | exact True.intro | ((conv => whnf); first | exact True.intro | refine ⟨by rfl, ?_⟩ | refine ⟨by first | omega | (show (_ : Int) = _; first | omega | (dsimp only; omega)) | exact congrArg ints es.symm, ?_⟩ | refine ⟨?_, ?_⟩))
      · rename_i h
        rw [if_neg (by simpa using h)] at es
        refine ⟨i + 1, by omega, by simp only; omega, ?_⟩
        repeat' (first | exact True.intro | ((conv => whnf); first | exact True.intro | refine ⟨by rfl, ?_⟩ | refine ⟨by first | omega | (show (_ : Int) = _; first | omega | (dsimp only; omega)) | exact congrArg ints es.symm, ?_⟩ | refine ⟨?_, ?_⟩))
    · (repeat' first | ((first | refine Sq.cons ?_ | refine Dr.cons ?_ | refine Sq.nil ?_ | (refine Dr.nil ?_; refine drawIf (by kernel_rfl) ?_) | refine Vc.region rfl ?_ | refine Vc.draw rfl (by kernel_rfl) ?_ | refine Vc.cond ?_ | refine Vc.block ?_ | refine Vc.ret ?_ | refine Vc.skip ?_ | refine Vc.exit ?_ | refine mkSl (by omega) (by omega) ?_); conv => whnf) | refine Vc.seq ?_)
      exact ⟨by rw [vAt_end (by omega)], rfl⟩
theorem impl_wldVals (w : World) : Sem P 26 [(.pure, .agg (aWd w))] [] (AI (wldVals w)) := by
  by_cases hw : wldOk w = true
  · refine fn_okR (E := { E0 with keep := [4001] }) E0_tab E0_ord (fn := Go.Proofs.Tryz.f26) (by kernel_rfl) (by kernel_rfl) (fun hb => ?_)
    conv => whnf
    repeat' first | ((first | refine Sq.cons ?_ | refine Dr.cons ?_ | refine Sq.nil ?_ | (refine Dr.nil ?_; refine drawIf (by kernel_rfl) ?_) | refine Vc.region rfl ?_ | refine Vc.draw rfl (by kernel_rfl) ?_ | refine Vc.cond ?_ | refine Vc.block ?_ | refine Vc.ret ?_ | refine Vc.skip ?_ | refine Vc.exit ?_ | refine mkSl (by omega) (by omega) ?_); conv => whnf) | refine Vc.seq ?_ | (refine ifB_i (fun _ => ?_) (fun _ => ?_) <;> conv => whnf) | (refine ⟨_, impl_wldOk w, ?_⟩; conv => whnf) | (refine ⟨_, impl_valsOf w hw, ?_⟩; conv => whnf)
    · exfalso; simp_all
    · exact ⟨by rw [wldVals, if_pos hw], rfl⟩
  · refine fn_okR (E := { E0 with keep := [4001] }) E0_tab E0_ord (fn := Go.Proofs.Tryz.f26) (by kernel_rfl) (by kernel_rfl) (fun hb => ?_)
    conv => whnf
    repeat' first | ((first | refine Sq.cons ?_ | refine Dr.cons ?_ | refine Sq.nil ?_ | (refine Dr.nil ?_; refine drawIf (by kernel_rfl) ?_) | refine Vc.region rfl ?_ | refine Vc.draw rfl (by kernel_rfl) ?_ | refine Vc.cond ?_ | refine Vc.block ?_ | refine Vc.ret ?_ | refine Vc.skip ?_ | refine Vc.exit ?_ | refine mkSl (by omega) (by omega) ?_); conv => whnf) | refine Vc.seq ?_ | (refine ifB_i (fun _ => ?_) (fun _ => ?_) <;> conv => whnf) | (refine ⟨_, impl_wldOk w, ?_⟩; conv => whnf)
    · exact ⟨by rw [wldVals, if_neg hw]; rfl, rfl⟩
    · exfalso; simp_all
end Cc
end
section
namespace Cc
open Go Go.AM
set_option maxRecDepth 100000
set_option maxHeartbeats 8000000
theorem rest_1 (w : World) (s : Site) : Sem P 108 [(.pure, .agg (aS s)), (.pure, .one (.fp [] (aWd w) 0))] [] (B (!(s.Up && decide (s.Round = w.Clerk.Round)))) := by
  refine fn_okR (E := E0) E0_tab E0_ord (fn := Go.Proofs.Tryz.f108) (by kernel_rfl) (by kernel_rfl) (fun hb => ?_)
  conv => whnf
  repeat' first | ((first | refine Sq.cons ?_ | refine Dr.cons ?_ | refine Sq.nil ?_ | (refine Dr.nil ?_; refine drawIf (by kernel_rfl) ?_) | refine Vc.region rfl ?_ | refine Vc.draw rfl (by kernel_rfl) ?_ | refine Vc.cond ?_ | refine Vc.block ?_ | refine Vc.ret ?_ | refine Vc.skip ?_ | refine Vc.exit ?_ | refine mkSl (by omega) (by omega) ?_); conv => whnf) | refine Vc.seq ?_ | (refine ifB_i (fun _ => ?_) (fun _ => ?_) <;> conv => whnf)
  all_goals refine rB ?_
  all_goals first
    | (simp_all; done)
    | (simp_all; rfl)
theorem rests_any_ix (w : World) (l : List Site) : Sem P 207 [(.pure, .one (sSs l)), (.pure, .one (.fn 108 [.fp [] (aWd w) 0]))] [] (I (idxOf (fun (x : Site) => !(x.Up && decide (x.Round = w.Clerk.Round))) l)) := by
  refine fn_okR (E := E0) E0_tab E0_ord (fn := Go.Proofs.Tryz.f207) (by kernel_rfl) (by kernel_rfl) (fun hb => ?_)
  have la : (l.map eS).length = l.length := List.length_map ..
  have hb1 : (l.map eS).length ≤ 1125899906842624 := hb.1.1
  conv => whnf
  (repeat' first | ((first | refine Sq.cons ?_ | refine Dr.cons ?_ | refine Sq.nil ?_ | (refine Dr.nil ?_; refine drawIf (by kernel_rfl) ?_) | refine Vc.region rfl ?_ | refine Vc.draw rfl (by kernel_rfl) ?_ | refine Vc.cond ?_ | refine Vc.block ?_ | refine Vc.ret ?_ | refine Vc.skip ?_ | refine Vc.exit ?_ | refine mkSl (by omega) (by omega) ?_); conv => whnf) | refine Vc.seq ?_)
  refine Vc.loop { i : Nat // ∀ j, j < i → j < l.length → (fun (x : Site) => !(x.Up && decide (x.Round = w.Clerk.Round))) (l.getD j default) = false } (fun i => updL [0, 1, 7] [(8, I i.1)] []) (fun i => l.length - i.1) ⟨0, by simp⟩ ?_ (fun i => ?_)
  · repeat' (first | exact True.intro | ((conv => whnf); first | exact True.intro | refine ⟨by rfl, ?_⟩ | refine ⟨?_, ?_⟩))
  · have hi := i.2
    conv => whnf
    (repeat' first | ((first | refine Sq.cons ?_ | refine Dr.cons ?_ | refine Sq.nil ?_ | (refine Dr.nil ?_; refine drawIf (by kernel_rfl) ?_) | refine Vc.region rfl ?_ | refine Vc.draw rfl (by kernel_rfl) ?_ | refine Vc.cond ?_ | refine Vc.block ?_ | refine Vc.ret ?_ | refine Vc.skip ?_ | refine Vc.exit ?_ | refine mkSl (by omega) (by omega) ?_); conv => whnf) | refine Vc.seq ?_)
    refine ifB_d (fun g => ?_) (fun g => ?_)
    all_goals conv => whnf
    · repeat' first | ((first | refine Sq.cons ?_ | refine Dr.cons ?_ | refine Sq.nil ?_ | (refine Dr.nil ?_; refine drawIf (by kernel_rfl) ?_) | refine Vc.region rfl ?_ | refine Vc.draw rfl (by kernel_rfl) ?_ | refine Vc.cond ?_ | refine Vc.block ?_ | refine Vc.ret ?_ | refine Vc.skip ?_ | refine Vc.exit ?_ | refine mkSl (by omega) (by omega) ?_); conv => whnf) | refine Vc.seq ?_ | (refine ifB_i (fun _ => ?_) (fun _ => ?_) <;> conv => whnf) | (refine ixN (enc := eS) default (by omega) ?_; conv => whnf) | (refine ⟨_, rest_1 w _, ?_⟩; conv => whnf) | (refine w64 (by omega) (by omega) ?_; conv => whnf)
      · rename_i h
        exact rI' (idx_hit (p := fun (x : Site) => !(x.Up && decide (x.Round = w.Clerk.Round))) default (by omega) h fun j hj => hi j hj (by omega)).symm
      · rename_i h
        refine ⟨⟨i.1 + 1, fun j hj hl => ?_⟩, ?_, ?_⟩
        · by_cases hji : j < i.1
          · exact hi j hji hl
          · obtain rfl : j = i.1 := by omega
            exact h
        · simp only; omega
        · repeat' (first | exact True.intro | ((conv => whnf); first | exact True.intro | refine ⟨by rfl, ?_⟩ | refine ⟨?_, ?_⟩))
    · (repeat' first | ((first | refine Sq.cons ?_ | refine Dr.cons ?_ | refine Sq.nil ?_ | (refine Dr.nil ?_; refine drawIf (by kernel_rfl) ?_) | refine Vc.region rfl ?_ | refine Vc.draw rfl (by kernel_rfl) ?_ | refine Vc.cond ?_ | refine Vc.block ?_ | refine Vc.ret ?_ | refine Vc.skip ?_ | refine Vc.exit ?_ | refine mkSl (by omega) (by omega) ?_); conv => whnf) | refine Vc.seq ?_)
      exact rI' (idx_none (p := fun (x : Site) => !(x.Up && decide (x.Round = w.Clerk.Round))) default fun j hj => hi j (by omega) hj).symm
theorem rests_any (w : World) (l : List Site) : Sem P 109 [(.pure, .one (sSs l)), (.pure, .one (.fn 108 [.fp [] (aWd w) 0]))] [] (B (l.any fun (x : Site) => !(x.Up && decide (x.Round = w.Clerk.Round)))) := by
  refine fn_okR (E := E0) E0_tab E0_ord (fn := Go.Proofs.Tryz.f109) (by kernel_rfl) (by kernel_rfl) (fun hb => ?_)
  conv => whnf
  repeat' first | ((first | refine Sq.cons ?_ | refine Dr.cons ?_ | refine Sq.nil ?_ | (refine Dr.nil ?_; refine drawIf (by kernel_rfl) ?_) | refine Vc.region rfl ?_ | refine Vc.draw rfl (by kernel_rfl) ?_ | refine Vc.cond ?_ | refine Vc.block ?_ | refine Vc.ret ?_ | refine Vc.skip ?_ | refine Vc.exit ?_ | refine mkSl (by omega) (by omega) ?_); conv => whnf) | refine Vc.seq ?_ | (refine ifB_i (fun _ => ?_) (fun _ => ?_) <;> conv => whnf) | (refine ⟨_, rests_any_ix w l, ?_⟩; conv => whnf)
  exact rB (idx_any _ _)
theorem rest_2 (x : Client) : Sem P 111 [(.pure, .agg (aX x))] [] (B x.Busy) := by
  refine fn_okR (E := E0) E0_tab E0_ord (fn := Go.Proofs.Tryz.f111) (by kernel_rfl) (by kernel_rfl) (fun hb => ?_)
  conv => whnf
  repeat' first | ((first | refine Sq.cons ?_ | refine Dr.cons ?_ | refine Sq.nil ?_ | (refine Dr.nil ?_; refine drawIf (by kernel_rfl) ?_) | refine Vc.region rfl ?_ | refine Vc.draw rfl (by kernel_rfl) ?_ | refine Vc.cond ?_ | refine Vc.block ?_ | refine Vc.ret ?_ | refine Vc.skip ?_ | refine Vc.exit ?_ | refine mkSl (by omega) (by omega) ?_); conv => whnf) | refine Vc.seq ?_ | (refine ifB_i (fun _ => ?_) (fun _ => ?_) <;> conv => whnf)
  exact ⟨rfl, rfl⟩
theorem busy_any_ix  (l : List Client) : Sem P 208 [(.pure, .one (sXs l)), (.pure, .one (.fn 111 []))] [] (I (idxOf (fun (x : Client) => x.Busy) l)) := by
  refine fn_okR (E := E0) E0_tab E0_ord (fn := Go.Proofs.Tryz.f208) (by kernel_rfl) (by kernel_rfl) (fun hb => ?_)
  have la : (l.map eX).length = l.length := List.length_map ..
  have hb1 : (l.map eX).length ≤ 1125899906842624 := hb.1.1
  conv => whnf
  (repeat' first | ((first | refine Sq.cons ?_ | refine Dr.cons ?_ | refine Sq.nil ?_ | (refine Dr.nil ?_; refine drawIf (by kernel_rfl) ?_) | refine Vc.region rfl ?_ | refine Vc.draw rfl (by kernel_rfl) ?_ | refine Vc.cond ?_ | refine Vc.block ?_ | refine Vc.ret ?_ | refine Vc.skip ?_ | refine Vc.exit ?_ | refine mkSl (by omega) (by omega) ?_); conv => whnf) | refine Vc.seq ?_)
  refine Vc.loop { i : Nat // ∀ j, j < i → j < l.length → (fun (x : Client) => x.Busy) (l.getD j default) = false } (fun i => updL [0, 1, 7] [(8, I i.1)] []) (fun i => l.length - i.1) ⟨0, by simp⟩ ?_ (fun i => ?_)
  · repeat' (first | exact True.intro | ((conv => whnf); first | exact True.intro | refine ⟨by rfl, ?_⟩ | refine ⟨?_, ?_⟩))
  · have hi := i.2
    conv => whnf
    (repeat' first | ((first | refine Sq.cons ?_ | refine Dr.cons ?_ | refine Sq.nil ?_ | (refine Dr.nil ?_; refine drawIf (by kernel_rfl) ?_) | refine Vc.region rfl ?_ | refine Vc.draw rfl (by kernel_rfl) ?_ | refine Vc.cond ?_ | refine Vc.block ?_ | refine Vc.ret ?_ | refine Vc.skip ?_ | refine Vc.exit ?_ | refine mkSl (by omega) (by omega) ?_); conv => whnf) | refine Vc.seq ?_)
    refine ifB_d (fun g => ?_) (fun g => ?_)
    all_goals conv => whnf
    · repeat' first | ((first | refine Sq.cons ?_ | refine Dr.cons ?_ | refine Sq.nil ?_ | (refine Dr.nil ?_; refine drawIf (by kernel_rfl) ?_) | refine Vc.region rfl ?_ | refine Vc.draw rfl (by kernel_rfl) ?_ | refine Vc.cond ?_ | refine Vc.block ?_ | refine Vc.ret ?_ | refine Vc.skip ?_ | refine Vc.exit ?_ | refine mkSl (by omega) (by omega) ?_); conv => whnf) | refine Vc.seq ?_ | (refine ifB_i (fun _ => ?_) (fun _ => ?_) <;> conv => whnf) | (refine ixN (enc := eX) default (by omega) ?_; conv => whnf) | (refine ⟨_, rest_2 _, ?_⟩; conv => whnf) | (refine w64 (by omega) (by omega) ?_; conv => whnf)
      · rename_i h
        exact rI' (idx_hit (p := fun (x : Client) => x.Busy) default (by omega) h fun j hj => hi j hj (by omega)).symm
      · rename_i h
        refine ⟨⟨i.1 + 1, fun j hj hl => ?_⟩, ?_, ?_⟩
        · by_cases hji : j < i.1
          · exact hi j hji hl
          · obtain rfl : j = i.1 := by omega
            exact h
        · simp only; omega
        · repeat' (first | exact True.intro | ((conv => whnf); first | exact True.intro | refine ⟨by rfl, ?_⟩ | refine ⟨?_, ?_⟩))
    · (repeat' first | ((first | refine Sq.cons ?_ | refine Dr.cons ?_ | refine Sq.nil ?_ | (refine Dr.nil ?_; refine drawIf (by kernel_rfl) ?_) | refine Vc.region rfl ?_ | refine Vc.draw rfl (by kernel_rfl) ?_ | refine Vc.cond ?_ | refine Vc.block ?_ | refine Vc.ret ?_ | refine Vc.skip ?_ | refine Vc.exit ?_ | refine mkSl (by omega) (by omega) ?_); conv => whnf) | refine Vc.seq ?_)
      exact rI' (idx_none (p := fun (x : Client) => x.Busy) default fun j hj => hi j (by omega) hj).symm
theorem busy_any  (l : List Client) : Sem P 110 [(.pure, .one (sXs l)), (.pure, .one (.fn 111 []))] [] (B (l.any fun (x : Client) => x.Busy)) := by
  refine fn_okR (E := E0) E0_tab E0_ord (fn := Go.Proofs.Tryz.f110) (by kernel_rfl) (by kernel_rfl) (fun hb => ?_)
  conv => whnf
  repeat' first | ((first | refine Sq.cons ?_ | refine Dr.cons ?_ | refine Sq.nil ?_ | (refine Dr.nil ?_; refine drawIf (by kernel_rfl) ?_) | refine Vc.region rfl ?_ | refine Vc.draw rfl (by kernel_rfl) ?_ | refine Vc.cond ?_ | refine Vc.block ?_ | refine Vc.ret ?_ | refine Vc.skip ?_ | refine Vc.exit ?_ | refine mkSl (by omega) (by omega) ?_); conv => whnf) | refine Vc.seq ?_ | (refine ifB_i (fun _ => ?_) (fun _ => ?_) <;> conv => whnf) | (refine ⟨_, busy_any_ix  l, ?_⟩; conv => whnf)
  exact rB (idx_any _ _)
theorem impl_wldRest (w : World) : Sem P 27 [(.pure, .agg (aWd w))] [] (B (wldRest w)) := by
  have lc : (w.Clerk.Wants.map eC).length = w.Clerk.Wants.length := List.length_map ..
  have lm : (w.Net.map eM).length = w.Net.length := List.length_map ..
  have em : (w.Clerk.Wants.isEmpty && w.Net.isEmpty) = !decide (((w.Clerk.Wants.map eC).length : Int) + ((w.Net.map eM).length : Int) > 0) := by
    rw [lc, lm]
    cases h1 : w.Clerk.Wants with
    | nil => cases h2 : w.Net with
      | nil => rfl
      | cons a r => simp only [List.isEmpty_nil, List.isEmpty_cons, List.length_nil, List.length_cons, Bool.true_and]; symm; simp only [Bool.not_eq_eq_eq_not, Bool.not_false, decide_eq_true_eq]; omega
    | cons a r => simp only [List.isEmpty_cons, List.length_cons, Bool.false_and]; symm; simp only [Bool.not_eq_eq_eq_not, Bool.not_false, decide_eq_true_eq]; omega
  have key : wldRest w = (wldOk w && w.Clerk.Up && !decide (((w.Clerk.Wants.map eC).length : Int) + ((w.Net.map eM).length : Int) > 0) && (!w.Sites.any fun x => !(x.Up && decide (x.Round = w.Clerk.Round))) && !w.Clients.any fun x => x.Busy) := by
    rw [← em, any_all, ← Bool.and_assoc]
    unfold wldRest
    rw [List.not_any_eq_all_not]
  clear em
  refine fn_okR (E := E0) E0_tab E0_ord (fn := Go.Proofs.Tryz.f27) (by kernel_rfl) (by kernel_rfl) (fun hb => ?_)
  have hb1 : (w.Clerk.Wants.map eC).length ≤ 1125899906842624 := (hb.1 (sCs w.Clerk.Wants) (by simp)).1
  have hb2 : (w.Net.map eM).length ≤ 1125899906842624 := (hb.1 (sMs w.Net) (by simp)).1
  conv => whnf
  repeat' first | ((first | refine Sq.cons ?_ | refine Dr.cons ?_ | refine Sq.nil ?_ | (refine Dr.nil ?_; refine drawIf (by kernel_rfl) ?_) | refine Vc.region rfl ?_ | refine Vc.draw rfl (by kernel_rfl) ?_ | refine Vc.cond ?_ | refine Vc.block ?_ | refine Vc.ret ?_ | refine Vc.skip ?_ | refine Vc.exit ?_ | refine mkSl (by omega) (by omega) ?_); conv => whnf) | refine Vc.seq ?_ | (refine ifB_i (fun _ => ?_) (fun _ => ?_) <;> conv => whnf) | (refine ⟨_, impl_wldOk w, ?_⟩; conv => whnf) | (refine ⟨_, rests_any w w.Sites, ?_⟩; conv => whnf) | (refine ⟨_, busy_any w.Clients, ?_⟩; conv => whnf) | (refine w64 (by omega) (by omega) ?_; conv => whnf)
  all_goals (refine rB ?_; rw [key]; clear key lc lm hb1 hb2 hb)
  all_goals first
    | (rename_i h1 h2 h3 h4; simp only [h4, Bool.and_false, Bool.false_and]; done)
    | (simp_all; done)
    | (rename_i h1 h2 h3 h4; simp only [h4, Bool.and_false, Bool.false_and]; done)
theorem impl_resSame (a b : Rslt) : Sem P 112 [(.pure, .agg (aR a)), (.pure, .agg (aR b))] [] (B (decide (a = b))) := by
  obtain ⟨k, l⟩ := a
  obtain ⟨k', l'⟩ := b
  refine fn_okR (E := E0) E0_tab E0_ord (fn := Go.Proofs.Tryz.f112) (by kernel_rfl) (by kernel_rfl) (fun hb => ?_)
  conv => whnf
  repeat' first | ((first | refine Sq.cons ?_ | refine Dr.cons ?_ | refine Sq.nil ?_ | (refine Dr.nil ?_; refine drawIf (by kernel_rfl) ?_) | refine Vc.region rfl ?_ | refine Vc.draw rfl (by kernel_rfl) ?_ | refine Vc.cond ?_ | refine Vc.block ?_ | refine Vc.ret ?_ | refine Vc.skip ?_ | refine Vc.exit ?_ | refine mkSl (by omega) (by omega) ?_); conv => whnf) | refine Vc.seq ?_ | (refine ifB_i (fun _ => ?_) (fun _ => ?_) <;> conv => whnf) | (refine ⟨_, ints_eq l l', ?_⟩; conv => whnf)
  all_goals (refine rB ?_; simp_all; done)
end Cc
end
section
namespace Cc
open Go Go.AM
set_option maxRecDepth 100000
set_option maxHeartbeats 8000000
theorem behind_succ (w : World) {i : Nat} : ((List.range (i + 1)).filter fun i => decide ((w.Sites.getD i Site.nil).Round ≠ w.Clerk.Round)).map (fun (i : Nat) => (i : Int)) =
    ((List.range i).filter fun i => decide ((w.Sites.getD i Site.nil).Round ≠ w.Clerk.Round)).map (fun (i : Nat) => (i : Int)) ++ (if (w.Sites.getD i Site.nil).Round ≠ w.Clerk.Round then [(i : Int)] else []) := by
  rw [List.range_succ, List.filter_append, List.map_append]
  congr 1
  rw [List.filter_cons, List.filter_nil]
  by_cases h : (w.Sites.getD i Site.nil).Round ≠ w.Clerk.Round
  · rw [if_pos h, if_pos (decide_eq_true h)]; rfl
  · rw [if_neg h, if_neg (by rw [decide_eq_false h]; decide)]; rfl
def bAt (w : World) (i : Nat) : List Int := ((List.range i).filter fun i => decide ((w.Sites.getD i Site.nil).Round ≠ w.Clerk.Round)).map (fun (i : Nat) => (i : Int))
theorem bAt_succ (w : World) (i : Nat) : bAt w (i + 1) = bAt w i ++ (if (w.Sites.getD i Site.nil).Round ≠ w.Clerk.Round then [(i : Int)] else []) := behind_succ w
theorem bAt_len (w : World) (i : Nat) : (bAt w i).length ≤ i := by
  unfold bAt; rw [List.length_map]; exact Nat.le_trans (List.length_filter_le _ _) (by simp)
theorem impl_wldBehind (w : World) : Sem P 29 [(.pure, .agg (aWd w))] [] (AI (wldBehind w)) := by
  have ls : (w.Sites.map eS).length = w.Sites.length := List.length_map ..
  by_cases hw : wldOk w = true
  · have l3 := wld_sites hw
    refine fn_okR (E := E0) E0_tab E0_ord (fn := Go.Proofs.Tryz.f29) (by kernel_rfl) (by kernel_rfl) (fun hb => ?_)
    conv => whnf
    repeat' first | ((first | refine Sq.cons ?_ | refine Dr.cons ?_ | refine Sq.nil ?_ | (refine Dr.nil ?_; refine drawIf (by kernel_rfl) ?_) | refine Vc.region rfl ?_ | refine Vc.draw rfl (by kernel_rfl) ?_ | refine Vc.cond ?_ | refine Vc.block ?_ | refine Vc.ret ?_ | refine Vc.skip ?_ | refine Vc.exit ?_ | refine mkSl (by omega) (by omega) ?_); conv => whnf) | refine Vc.seq ?_ | (refine ifB_i (fun _ => ?_) (fun _ => ?_) <;> conv => whnf) | (refine ⟨_, impl_wldOk w, ?_⟩; conv => whnf)
    · exfalso; simp_all
    · refine Vc.loop1 (fun (i : Nat) => i ≤ w.Sites.length) (fun i => updL [1, 2, 10, 11, 28] [(12, I i), (3, .one (.ref 256000))] [(256000, .arr 3 (ints (bAt w i)) false)]) (fun i => w.Sites.length - i) 0 (Nat.zero_le _) ?_ (fun i hi => ?_)
      · repeat' (first | exact True.intro | ((conv => whnf); first | exact True.intro | refine ⟨by rfl, ?_⟩ | refine ⟨by first | omega | (show (_ : Int) = _; first | omega | (dsimp only; omega)), ?_⟩ | refine ⟨?_, ?_⟩))
      · have bl := bAt_len w i
        have li := ints_len (bAt w i)
        conv => whnf
        (repeat' first | ((first | refine Sq.cons ?_ | refine Dr.cons ?_ | refine Sq.nil ?_ | (refine Dr.nil ?_; refine drawIf (by kernel_rfl) ?_) | refine Vc.region rfl ?_ | refine Vc.draw rfl (by kernel_rfl) ?_ | refine Vc.cond ?_ | refine Vc.block ?_ | refine Vc.ret ?_ | refine Vc.skip ?_ | refine Vc.exit ?_ | refine mkSl (by omega) (by omega) ?_); conv => whnf) | refine Vc.seq ?_)
        refine ifB_d (fun g => ?_) (fun g => ?_)
        all_goals conv => whnf
        · have hil : i < w.Sites.length := by omega
          have es := bAt_succ w i
          repeat' first | ((first | refine Sq.cons ?_ | refine Dr.cons ?_ | refine Sq.nil ?_ | (refine Dr.nil ?_; refine drawIf (by kernel_rfl) ?_) | refine Vc.region rfl ?_ | refine Vc.draw rfl (by kernel_rfl) ?_ | refine Vc.cond ?_ | refine Vc.block ?_ | refine Vc.ret ?_ | refine Vc.skip ?_ | refine Vc.exit ?_ | refine mkSl (by omega) (by omega) ?_); conv => whnf) | refine Vc.seq ?_ | (refine ifB_i (fun _ => ?_) (fun _ => ?_) <;> conv => whnf) | (refine ixN (enc := eS) Site.nil hil ?_; conv => whnf) | (refine apN (by rw [li]; show _ + 1 ≤ _; omega) ?_; conv => whnf) | (refine w64 (by omega) (by omega) ?_; conv => whnf)
          · rename_i h
            rw [if_pos (by simpa using h)] at es
            refine ⟨i + 1, by omega, by simp only; omega, ?_⟩
            repeat' (first | exact True.intro | ((conv => whnf); first | exact True.intro | refine ⟨by rfl, ?_⟩ | refine ⟨by first | omega | (show (_ : Int) = _; first | omega | (dsimp only; omega)) | exact (by rw [es, ← app_ints]), ?_⟩ | refine ⟨?_, ?_⟩))
          · rename_i h
            rw [if_neg (by simpa using h), List.append_nil] at es
            refine ⟨i + 1, by omega, by simp only; omega, ?_⟩
            repeat' (first | exact True.intro | ((conv => whnf); first | exact True.intro | refine ⟨by rfl, ?_⟩ | refine ⟨by first | omega | (show (_ : Int) = _; first | omega | (dsimp only; omega)) | exact congrArg ints es.symm, ?_⟩ | refine ⟨?_, ?_⟩))
        · (repeat' first | ((first | refine Sq.cons ?_ | refine Dr.cons ?_ | refine Sq.nil ?_ | (refine Dr.nil ?_; refine drawIf (by kernel_rfl) ?_) | refine Vc.region rfl ?_ | refine Vc.draw rfl (by kernel_rfl) ?_ | refine Vc.cond ?_ | refine Vc.block ?_ | refine Vc.ret ?_ | refine Vc.skip ?_ | refine Vc.exit ?_ | refine mkSl (by omega) (by omega) ?_); conv => whnf) | refine Vc.seq ?_)
          have hend : i = w.Sites.length := by omega
          subst hend
          exact ⟨by rw [wldBehind, if_pos hw]; rfl, rfl⟩
  · refine fn_okR (E := E0) E0_tab E0_ord (fn := Go.Proofs.Tryz.f29) (by kernel_rfl) (by kernel_rfl) (fun hb => ?_)
    conv => whnf
    repeat' first | ((first | refine Sq.cons ?_ | refine Dr.cons ?_ | refine Sq.nil ?_ | (refine Dr.nil ?_; refine drawIf (by kernel_rfl) ?_) | refine Vc.region rfl ?_ | refine Vc.draw rfl (by kernel_rfl) ?_ | refine Vc.cond ?_ | refine Vc.block ?_ | refine Vc.ret ?_ | refine Vc.skip ?_ | refine Vc.exit ?_ | refine mkSl (by omega) (by omega) ?_); conv => whnf) | refine Vc.seq ?_ | (refine ifB_i (fun _ => ?_) (fun _ => ?_) <;> conv => whnf) | (refine ⟨_, impl_wldOk w, ?_⟩; conv => whnf)
    · exact ⟨by rw [wldBehind, if_neg hw]; rfl, rfl⟩
    · exfalso; simp_all
end Cc
end
section
namespace Cc
open Go Go.AM
set_option maxRecDepth 100000
set_option maxHeartbeats 8000000
theorem ser_len (p : Plan) : ∀ (l : List LogD) (v : List Int), (serGo p l v).1.length = l.length
  | [], v => rfl
  | x :: r, v => by simp only [serGo, List.length_cons, ser_len p r]
theorem wld_log {w : World} (hw : wldOk w = true) : (planOk w.Plan && logB w.Plan w.Log) = true := by
  have h := (wldOk_iff.1 hw).1
  simp only [Bool.and_eq_true, decide_eq_true_eq] at h ⊢
  exact ⟨h.1.1.1.1, h.2⟩
theorem serSame_iff {w : World} (hw : wldOk w = true) : serSame w = true ↔ (∀ j, j < w.Log.length → (serRun w.Plan w.Log).1.getD j default = (w.Log.getD j default).Res) ∧ (serRun w.Plan w.Log).2 = valsOf w := by
  have hl : (serRun w.Plan w.Log).1.length = w.Log.length := by unfold serRun; rw [if_pos (wld_log hw)]; exact ser_len _ _ _
  unfold serSame
  rw [hw, Bool.true_and, decide_eq_true_eq, Prod.ext_iff]
  constructor
  · rintro ⟨h1, h2⟩
    refine ⟨fun j hj => ?_, h2⟩
    simp only at h1
    rw [h1, List.getD_eq_getElem?_getD, List.getD_eq_getElem?_getD, List.getElem?_map, List.getElem?_eq_getElem hj]
    rfl
  · rintro ⟨h1, h2⟩
    refine ⟨?_, h2⟩
    simp only
    apply ext_get default (by rw [hl, List.length_map])
    intro j hj
    rw [h1 j (by omega), List.getD_eq_getElem?_getD, List.getD_eq_getElem?_getD, List.getElem?_map, List.getElem?_eq_getElem (by omega)]
    rfl
theorem impl_serSame (w : World) : Sem P 28 [(.pure, .agg (aWd w))] [] (B (serSame w)) := by
  have ll : (w.Log.map eO).length = w.Log.length := List.length_map ..
  by_cases hw : wldOk w = true
  · have hl := wld_log hw
    have iff := serSame_iff hw
    have hn : (serRun w.Plan w.Log).1.length = w.Log.length := by unfold serRun; rw [if_pos hl]; exact ser_len _ _ _
    have l100 : w.Log.length ≤ 100 := by rw [Bool.and_eq_true] at hl; exact (logB_iff.1 hl.2).1
    have no : (serSame w = true → False) → serSame w = false := fun h => by cases e : serSame w with | false => rfl | true => exact (h e).elim
    refine fn_okR (E := E0) E0_tab E0_ord (fn := Go.Proofs.Tryz.f28) (by kernel_rfl) (by kernel_rfl) (fun hb => ?_)
    conv => whnf
    repeat' first | ((first | refine Sq.cons ?_ | refine Dr.cons ?_ | refine Sq.nil ?_ | (refine Dr.nil ?_; refine drawIf (by kernel_rfl) ?_) | refine Vc.region rfl ?_ | refine Vc.draw rfl (by kernel_rfl) ?_ | refine Vc.cond ?_ | refine Vc.block ?_ | refine Vc.ret ?_ | refine Vc.skip ?_ | refine Vc.exit ?_ | refine mkSl (by omega) (by omega) ?_); conv => whnf) | refine Vc.seq ?_ | (refine ifB_i (fun _ => ?_) (fun _ => ?_) <;> conv => whnf) | (refine ⟨_, impl_wldOk w, ?_⟩; conv => whnf) | (refine ⟨_, impl_serRun w.Plan w.Log hl, ?_⟩; conv => whnf)
    · exfalso; clear iff no; simp_all
    · refine Vc.loop1 (fun (i : Nat) => i ≤ w.Log.length ∧ ∀ j, j < i → (serRun w.Plan w.Log).1.getD j default = (w.Log.getD j default).Res) (fun i => updL [1, 3, 4, 19, 20, 35, 36, 37, 38] [(21, I i)] []) (fun i => w.Log.length - i) 0 ⟨Nat.zero_le _, fun j hj => absurd hj (Nat.not_lt_zero j)⟩ ?_ (fun i hi => ?_)
      · repeat' (first | exact True.intro | ((conv => whnf); first | exact True.intro | refine ⟨by rfl, ?_⟩ | refine ⟨by first | omega | (show (_ : Int) = _; first | omega | (dsimp only; omega)), ?_⟩ | refine ⟨?_, ?_⟩))
      · obtain ⟨hi, hall⟩ := hi
        conv => whnf
        (repeat' first | ((first | refine Sq.cons ?_ | refine Dr.cons ?_ | refine Sq.nil ?_ | (refine Dr.nil ?_; refine drawIf (by kernel_rfl) ?_) | refine Vc.region rfl ?_ | refine Vc.draw rfl (by kernel_rfl) ?_ | refine Vc.cond ?_ | refine Vc.block ?_ | refine Vc.ret ?_ | refine Vc.skip ?_ | refine Vc.exit ?_ | refine mkSl (by omega) (by omega) ?_); conv => whnf) | refine Vc.seq ?_)
        refine ifB_d (fun g => ?_) (fun g => ?_)
        all_goals conv => whnf
        · have hil : i < w.Log.length := by omega
          repeat' first | ((first | refine Sq.cons ?_ | refine Dr.cons ?_ | refine Sq.nil ?_ | (refine Dr.nil ?_; refine drawIf (by kernel_rfl) ?_) | refine Vc.region rfl ?_ | refine Vc.draw rfl (by kernel_rfl) ?_ | refine Vc.cond ?_ | refine Vc.block ?_ | refine Vc.ret ?_ | refine Vc.skip ?_ | refine Vc.exit ?_ | refine mkSl (by omega) (by omega) ?_); conv => whnf) | refine Vc.seq ?_ | (refine ifB_i (fun _ => ?_) (fun _ => ?_) <;> conv => whnf) | (refine ixN (enc := eO) default hil ?_; conv => whnf) | (refine ixN (enc := eR) default (by omega) ?_; conv => whnf) | (refine ⟨_, impl_resSame ((serRun w.Plan w.Log).1.getD i default) (w.Log.getD i default).Res, ?_⟩; conv => whnf) | (refine w64 (by omega) (by omega) ?_; conv => whnf)
          · rename_i h
            refine rB ?_
            symm
            refine no fun hB => ?_
            have := (iff.1 hB).1 i hil
            rw [this] at h
            simp at h
          · rename_i h
            refine ⟨i + 1, ⟨by omega, fun j hj => ?_⟩, by simp only; omega, ?_⟩
            · by_cases hji : j < i
              · exact hall j hji
              · obtain rfl : j = i := by omega
                simpa using h
            · repeat' (first | exact True.intro | ((conv => whnf); first | exact True.intro | refine ⟨by rfl, ?_⟩ | refine ⟨by first | omega | (show (_ : Int) = _; first | omega | (dsimp only; omega)), ?_⟩ | refine ⟨?_, ?_⟩))
        · repeat' first | ((first | refine Sq.cons ?_ | refine Dr.cons ?_ | refine Sq.nil ?_ | (refine Dr.nil ?_; refine drawIf (by kernel_rfl) ?_) | refine Vc.region rfl ?_ | refine Vc.draw rfl (by kernel_rfl) ?_ | refine Vc.cond ?_ | refine Vc.block ?_ | refine Vc.ret ?_ | refine Vc.skip ?_ | refine Vc.exit ?_ | refine mkSl (by omega) (by omega) ?_); conv => whnf) | refine Vc.seq ?_ | (refine ifB_i (fun _ => ?_) (fun _ => ?_) <;> conv => whnf) | (refine ⟨_, impl_valsOf w hw, ?_⟩; conv => whnf) | (refine ⟨_, ints_eq (serRun w.Plan w.Log).2 (valsOf w), ?_⟩; conv => whnf)
          refine rB ?_
          cases e : decide ((serRun w.Plan w.Log).2 = valsOf w) with
          | true => exact (iff.2 ⟨fun j hj => hall j (by omega), of_decide_eq_true e⟩).symm
          | false => exact (no fun hB => of_decide_eq_false e (iff.1 hB).2).symm
  · refine fn_okR (E := E0) E0_tab E0_ord (fn := Go.Proofs.Tryz.f28) (by kernel_rfl) (by kernel_rfl) (fun hb => ?_)
    conv => whnf
    repeat' first | ((first | refine Sq.cons ?_ | refine Dr.cons ?_ | refine Sq.nil ?_ | (refine Dr.nil ?_; refine drawIf (by kernel_rfl) ?_) | refine Vc.region rfl ?_ | refine Vc.draw rfl (by kernel_rfl) ?_ | refine Vc.cond ?_ | refine Vc.block ?_ | refine Vc.ret ?_ | refine Vc.skip ?_ | refine Vc.exit ?_ | refine mkSl (by omega) (by omega) ?_); conv => whnf) | refine Vc.seq ?_ | (refine ifB_i (fun _ => ?_) (fun _ => ?_) <;> conv => whnf) | (refine ⟨_, impl_wldOk w, ?_⟩; conv => whnf)
    · refine rB ?_; unfold serSame; simp_all
    · exfalso; simp_all
end Cc
end
section
namespace Cc
open Go Go.AM
set_option maxRecDepth 100000
set_option maxHeartbeats 8000000
def cpA (acts : List (List Line)) : Prop := acts.length ≤ 100 ∧ ∀ a ∈ acts, a.length ≤ 100 ∧ ∀ l ∈ a, l.Form.C.length ≤ 100000 ∧ l.Form.D.length ≤ 100000
theorem line_lens {l : Line} (h : l.ok = true) : l.Form.C.length ≤ 100000 ∧ l.Form.D.length ≤ 100000 := by
  by_cases h4 : l.Kind = 4
  · unfold Line.ok at h
    rw [if_neg (by omega), if_neg (by omega), if_neg (by omega), if_pos h4] at h
    simp only [Bool.and_eq_true, decide_eq_true_eq] at h
    rw [h.2]; simp [Form.nil]
  · have := (small_form (line_small h h4)).1.1
    rw [this.1, this.2]; decide
theorem cat_cpA {acts : List (List Line)} (h : catOk acts = true) : cpA acts := by
  refine ⟨by have := catOk_four h; omega, fun a ha => ?_⟩
  unfold catOk at h
  rw [Bool.and_eq_true, List.all_eq_true] at h
  obtain ⟨h1, h2, _⟩ := actOk_iff.1 (h.2 a ha)
  exact ⟨by omega, fun l hl => line_lens (h1 l hl)⟩
theorem impl_planCopied (p : Plan) (h : cpA p.Acts) (hg : p.Gives.length ≤ 100) (hs : p.Start.length ≤ 100) : Sem P 86 [(.pure, .agg (aPl p))] [] (.agg (aPl p)) := by
  refine fn_okR (E := { E0 with keep := [15003, 15006], fz := [(12, [384000])] }) E0_tab E0_ord (fn := Go.Proofs.Tryz.f86) (by kernel_rfl) (by kernel_rfl) (fun hb => ?_)
  conv => whnf
  (repeat' first | ((first | refine Sq.cons ?_ | refine Dr.cons ?_ | refine Sq.nil ?_ | (refine Dr.nil ?_; refine drawIf (by kernel_rfl) ?_) | refine Vc.region rfl ?_ | refine Vc.draw rfl (by kernel_rfl) ?_ | refine Vc.cond ?_ | refine Vc.block ?_ | refine Vc.ret ?_ | refine Vc.skip ?_ | refine Vc.exit ?_ | refine mkSl (by omega) (by omega) ?_); conv => whnf) | refine Vc.seq ?_)
  refine Vc.loop1 (fun (k : Nat) => k ≤ p.Acts.length) (fun k => updL [1, 2, 10, 11, 36, 37, 38, 39, 40, 41, 42, 43, 44, 45, 46] [(12, I k), (3, .one (.ref 128000))] [(128000, .arr 40 ((p.Acts.take k).map eA) false)]) (fun k => p.Acts.length - k) 0 (Nat.zero_le _) ?_ (fun k hk => ?_)
  · repeat' (first | exact True.intro | ((conv => whnf); first | exact True.intro | refine ⟨by rfl, ?_⟩ | refine ⟨by first | omega | (show (_ : Int) = _; first | omega | (dsimp only; omega)), ?_⟩ | refine ⟨?_, ?_⟩))
  · have hla : (p.Acts.map eA).length = p.Acts.length := List.length_map ..
    have hlk : ((p.Acts.take k).map eA).length = k := by rw [List.length_map, List.length_take]; omega
    have h100 := h.1
    conv => whnf
    (repeat' first | ((first | refine Sq.cons ?_ | refine Dr.cons ?_ | refine Sq.nil ?_ | (refine Dr.nil ?_; refine drawIf (by kernel_rfl) ?_) | refine Vc.region rfl ?_ | refine Vc.draw rfl (by kernel_rfl) ?_ | refine Vc.cond ?_ | refine Vc.block ?_ | refine Vc.ret ?_ | refine Vc.skip ?_ | refine Vc.exit ?_ | refine mkSl (by omega) (by omega) ?_); conv => whnf) | refine Vc.seq ?_)
    refine ifB_d (fun g => ?_) (fun g => ?_)
    all_goals conv => whnf
    · have hkl : k < p.Acts.length := by omega
      have ha : (p.Acts.getD k []).length ≤ 100 ∧ _ := h.2 _ (gd_mem hkl)
      have ha1 := ha.1
      repeat' first | ((first | refine Sq.cons ?_ | refine Dr.cons ?_ | refine Sq.nil ?_ | (refine Dr.nil ?_; refine drawIf (by kernel_rfl) ?_) | refine Vc.region rfl ?_ | refine Vc.draw rfl (by kernel_rfl) ?_ | refine Vc.cond ?_ | refine Vc.block ?_ | refine Vc.ret ?_ | refine Vc.skip ?_ | refine Vc.exit ?_ | refine mkSl (by omega) (by omega) ?_); conv => whnf) | refine Vc.seq ?_ | (refine ifB_i (fun _ => ?_) (fun _ => ?_) <;> conv => whnf) | (refine ixN (enc := eA) [] hkl ?_; conv => whnf)
      refine Vc.loop1 (fun (i : Nat) => i ≤ (p.Acts.getD k []).length) (fun i => updL [1, 2, 3, 5, 10, 11, 12, 13, 14, 15, 16, 17, 31, 32, 33, 34, 35, 36, 37, 38, 39, 40, 41, 42, 43, 44, 45, 46] [(18, I i), (6, .one (.ref 384000))] [(384000, .arr 133 (((p.Acts.getD k []).take i).map eL) false)]) (fun i => (p.Acts.getD k []).length - i) 0 (Nat.zero_le _) ?_ (fun i hi => ?_)
      · repeat' (first | exact True.intro | ((conv => whnf); first | exact True.intro | refine ⟨by rfl, ?_⟩ | refine ⟨by first | omega | (show (_ : Int) = _; first | omega | (dsimp only; omega)), ?_⟩ | refine ⟨?_, ?_⟩))
      · have hlm : ((p.Acts.getD k []).map eL).length = (p.Acts.getD k []).length := List.length_map ..
        have hlo : (((p.Acts.getD k []).take i).map eL).length = i := by rw [List.length_map, List.length_take]; omega
        conv => whnf
        (repeat' first | ((first | refine Sq.cons ?_ | refine Dr.cons ?_ | refine Sq.nil ?_ | (refine Dr.nil ?_; refine drawIf (by kernel_rfl) ?_) | refine Vc.region rfl ?_ | refine Vc.draw rfl (by kernel_rfl) ?_ | refine Vc.cond ?_ | refine Vc.block ?_ | refine Vc.ret ?_ | refine Vc.skip ?_ | refine Vc.exit ?_ | refine mkSl (by omega) (by omega) ?_); conv => whnf) | refine Vc.seq ?_)
        refine ifB_d (fun g => ?_) (fun g => ?_)
        all_goals conv => whnf
        · repeat' first | ((first | refine Sq.cons ?_ | refine Dr.cons ?_ | refine Sq.nil ?_ | (refine Dr.nil ?_; refine drawIf (by kernel_rfl) ?_) | refine Vc.region rfl ?_ | refine Vc.draw rfl (by kernel_rfl) ?_ | refine Vc.cond ?_ | refine Vc.block ?_ | refine Vc.ret ?_ | refine Vc.skip ?_ | refine Vc.exit ?_ | refine mkSl (by omega) (by omega) ?_); conv => whnf) | refine Vc.seq ?_ | (refine ifB_i (fun _ => ?_) (fun _ => ?_) <;> conv => whnf) | (refine ixN (enc := eL) default (by omega) ?_; conv => whnf) | (refine ⟨_, form_copied ((p.Acts.getD k []).getD i default).Form (ha.2 _ (gd_mem (by omega))), ?_⟩; conv => whnf) | (refine apN (by first | omega | (simp; omega)) ?_; conv => whnf) | (refine w64 (by first | omega | (dsimp only; omega)) (by first | omega | (dsimp only; omega)) ?_; conv => whnf)
          refine ⟨i + 1, by omega, by simp only; omega, ?_⟩
          repeat' (first | exact True.intro | ((conv => whnf); first | exact True.intro | refine ⟨by rfl, ?_⟩ | refine ⟨by first | omega | (show (_ : Int) = _; first | omega | (dsimp only; omega)) | exact app_take (by omega), ?_⟩ | refine ⟨?_, ?_⟩))
        · have hend : (p.Acts.getD k []).take i = (p.Acts.getD k []) := List.take_of_length_le (by omega)
          (repeat' first | ((first | refine Sq.cons ?_ | refine Dr.cons ?_ | refine Sq.nil ?_ | (refine Dr.nil ?_; refine drawIf (by kernel_rfl) ?_) | refine Vc.region rfl ?_ | refine Vc.draw rfl (by kernel_rfl) ?_ | refine Vc.cond ?_ | refine Vc.block ?_ | refine Vc.ret ?_ | refine Vc.skip ?_ | refine Vc.exit ?_ | refine mkSl (by omega) (by omega) ?_); conv => whnf) | refine Vc.seq ?_)
          repeat' first | ((first | refine Sq.cons ?_ | refine Dr.cons ?_ | refine Sq.nil ?_ | (refine Dr.nil ?_; refine drawIf (by kernel_rfl) ?_) | refine Vc.region rfl ?_ | refine Vc.draw rfl (by kernel_rfl) ?_ | refine Vc.cond ?_ | refine Vc.block ?_ | refine Vc.ret ?_ | refine Vc.skip ?_ | refine Vc.exit ?_ | refine mkSl (by omega) (by omega) ?_); conv => whnf) | refine Vc.seq ?_ | (refine ifB_i (fun _ => ?_) (fun _ => ?_) <;> conv => whnf) | (refine apN (by rw [hlk]; show k + 1 ≤ _; omega) ?_; conv => whnf) | (refine w64 (by omega) (by omega) ?_; conv => whnf)
          refine ⟨k + 1, by omega, by simp only; omega, ?_⟩
          repeat' (first | exact True.intro | ((conv => whnf); first | exact True.intro | refine ⟨by rfl, ?_⟩ | refine ⟨by first | omega | (show (_ : Int) = _; first | omega | (dsimp only; omega)) | exact (by rw [take_succ_getD hkl, List.map_append, hend]; rfl), ?_⟩ | refine ⟨?_, ?_⟩))
    · repeat' first | ((first | refine Sq.cons ?_ | refine Dr.cons ?_ | refine Sq.nil ?_ | (refine Dr.nil ?_; refine drawIf (by kernel_rfl) ?_) | refine Vc.region rfl ?_ | refine Vc.draw rfl (by kernel_rfl) ?_ | refine Vc.cond ?_ | refine Vc.block ?_ | refine Vc.ret ?_ | refine Vc.skip ?_ | refine Vc.exit ?_ | refine mkSl (by omega) (by omega) ?_); conv => whnf) | refine Vc.seq ?_ | (refine ifB_i (fun _ => ?_) (fun _ => ?_) <;> conv => whnf) | (refine ⟨_, ints_clone p.Gives (by omega), ?_⟩; conv => whnf) | (refine ⟨_, ints_clone p.Start (by omega), ?_⟩; conv => whnf)
      have hend : p.Acts.take k = p.Acts := List.take_of_length_le (by omega)
      exact ⟨by rw [hend], rfl⟩
end Cc
end
section
namespace Cc
open Go Go.AM
set_option maxRecDepth 100000
set_option maxHeartbeats 8000000
theorem impl_siteNew (p : Plan) (hc : inB p.Clients 0 4 = true) (hs : p.Start.length ≤ 100) : Sem P 88 [(.pure, .agg (aPl p))] [] (.agg (aS (siteNew p))) := by
  have h := inB_iff.1 hc
  refine fn_okR (E := { E0 with keep := [2002] }) E0_tab E0_ord (fn := Go.Proofs.Tryz.f88) (by kernel_rfl) (by kernel_rfl) (fun hb => ?_)
  conv => whnf
  repeat' first | ((first | refine Sq.cons ?_ | refine Dr.cons ?_ | refine Sq.nil ?_ | (refine Dr.nil ?_; refine drawIf (by kernel_rfl) ?_) | refine Vc.region rfl ?_ | refine Vc.draw rfl (by kernel_rfl) ?_ | refine Vc.cond ?_ | refine Vc.block ?_ | refine Vc.ret ?_ | refine Vc.skip ?_ | refine Vc.exit ?_ | refine mkSl (by omega) (by omega) ?_); conv => whnf) | refine Vc.seq ?_ | (refine ifB_i (fun _ => ?_) (fun _ => ?_) <;> conv => whnf) | (refine ⟨_, ints_clone p.Start (by omega), ?_⟩; conv => whnf)
  refine ⟨?_, rfl⟩
  simp only [aS, sDs, siteNew, List.map_replicate]
  rfl
theorem impl_clerkNew (p : Plan) (hc : inB p.Clients 0 4 = true) (hs : p.Start.length ≤ 100) (hg : p.Gives.length ≤ 100) : Sem P 87 [(.pure, .agg (aPl p))] [] (.agg (aK (clerkNew p))) := by
  have h := inB_iff.1 hc
  have lg := ints_len p.Gives
  refine fn_okR (E := { E0 with keep := [2002] }) E0_tab E0_ord (fn := Go.Proofs.Tryz.f87) (by kernel_rfl) (by kernel_rfl) (fun hb => ?_)
  conv => whnf
  repeat' first | ((first | refine Sq.cons ?_ | refine Dr.cons ?_ | refine Sq.nil ?_ | (refine Dr.nil ?_; refine drawIf (by kernel_rfl) ?_) | refine Vc.region rfl ?_ | refine Vc.draw rfl (by kernel_rfl) ?_ | refine Vc.cond ?_ | refine Vc.block ?_ | refine Vc.ret ?_ | refine Vc.skip ?_ | refine Vc.exit ?_ | refine mkSl (by omega) (by omega) ?_); conv => whnf) | refine Vc.seq ?_ | (refine ifB_i (fun _ => ?_) (fun _ => ?_) <;> conv => whnf) | (refine ⟨_, ints_clone p.Start (by omega), ?_⟩; conv => whnf)
  refine ⟨?_, rfl⟩
  simp only [aK, sDs, sGs, sCs, clerkNew, List.map_replicate, lg, Int.toNat_natCast, List.map_nil]
  rfl
theorem rep_succ {α : Type} (e : α → List AV) (x : α) (i : Nat) : (List.replicate i x).map e ++ [e x] = (List.replicate (i + 1) x).map e := by
  rw [List.replicate_succ', List.map_append]; rfl
theorem plan_gives {p : Plan} (hp : planOk p = true) : p.Gives.length ≤ 3 := by
  unfold planOk trtOk givesOk at hp
  simp only [Bool.and_eq_true, inB_iff] at hp
  have := hp.2.2.1
  simp only [Plan.treaty] at this
  omega
theorem impl_wldNew0 (p : Plan) (hp : planOk p = false) : Sem P 21 [(.pure, .agg (aPl p))] [] (.agg (aWd World.nil)) := by
  refine fn_okR (E := E0) E0_tab E0_ord (fn := Go.Proofs.Tryz.f21) (by kernel_rfl) (by kernel_rfl) (fun hb => ?_)
  conv => whnf
  repeat' first | ((first | refine Sq.cons ?_ | refine Dr.cons ?_ | refine Sq.nil ?_ | (refine Dr.nil ?_; refine drawIf (by kernel_rfl) ?_) | refine Vc.region rfl ?_ | refine Vc.draw rfl (by kernel_rfl) ?_ | refine Vc.cond ?_ | refine Vc.block ?_ | refine Vc.ret ?_ | refine Vc.skip ?_ | refine Vc.exit ?_ | refine mkSl (by omega) (by omega) ?_); conv => whnf) | refine Vc.seq ?_ | (refine ifB_i (fun _ => ?_) (fun _ => ?_) <;> conv => whnf) | (refine ⟨_, impl_planOk p, ?_⟩; conv => whnf) | (rw [hp]; conv => whnf)
  all_goals first
    | exact ⟨rfl, rfl⟩
    | (exfalso; simp_all; done)
    | trace_state
theorem impl_wldNew (p : Plan) (hp : planOk p = true) : Sem P 21 [(.pure, .agg (aPl p))] [] (.agg (aWd (worldNew p))) := by
  have hc := plan_clients hp
  have h := inB_iff.1 hc
  have hs : p.Start.length ≤ 100 := by rw [plan_start hp]; decide
  have hg := plan_gives hp
  have lg := ints_len p.Gives
  refine fn_okR (E := { E0 with keep := [4001, 4003] }) E0_tab E0_ord (fn := Go.Proofs.Tryz.f21) (by kernel_rfl) (by kernel_rfl) (fun hb => ?_)
  conv => whnf
  repeat' first | ((first | refine Sq.cons ?_ | refine Dr.cons ?_ | refine Sq.nil ?_ | (refine Dr.nil ?_; refine drawIf (by kernel_rfl) ?_) | refine Vc.region rfl ?_ | refine Vc.draw rfl (by kernel_rfl) ?_ | refine Vc.cond ?_ | refine Vc.block ?_ | refine Vc.ret ?_ | refine Vc.skip ?_ | refine Vc.exit ?_ | refine mkSl (by omega) (by omega) ?_); conv => whnf) | refine Vc.seq ?_ | (refine ifB_i (fun _ => ?_) (fun _ => ?_) <;> conv => whnf) | (refine ⟨_, impl_planOk p, ?_⟩; conv => whnf) | (refine ⟨_, impl_planCopied p (cat_cpA (plan_cat hp)) (by omega) hs, ?_⟩; conv => whnf) | (refine ⟨_, impl_clerkNew p hc hs (by omega), ?_⟩; conv => whnf)
  · exfalso; simp_all
  · refine Vc.loop1 (fun (i : Nat) => i ≤ p.Gives.length) (fun i => updL [1, 2, 3, 18, 29] [(19, I i)] [(256581, .arr 95 ((List.replicate i (siteNew p)).map eS) false)]) (fun i => p.Gives.length - i) 0 (Nat.zero_le _) ?_ (fun i hi => ?_)
    · repeat' (first | exact True.intro | ((conv => whnf); first | exact True.intro | refine ⟨by rfl, ?_⟩ | refine ⟨by first | omega | (show (_ : Int) = _; first | omega | (dsimp only; omega)), ?_⟩ | refine ⟨?_, ?_⟩))
    · have lr : ((List.replicate i (siteNew p)).map eS).length = i := by simp
      conv => whnf
      (repeat' first | ((first | refine Sq.cons ?_ | refine Dr.cons ?_ | refine Sq.nil ?_ | (refine Dr.nil ?_; refine drawIf (by kernel_rfl) ?_) | refine Vc.region rfl ?_ | refine Vc.draw rfl (by kernel_rfl) ?_ | refine Vc.cond ?_ | refine Vc.block ?_ | refine Vc.ret ?_ | refine Vc.skip ?_ | refine Vc.exit ?_ | refine mkSl (by omega) (by omega) ?_); conv => whnf) | refine Vc.seq ?_)
      refine ifB_d (fun g => ?_) (fun g => ?_)
      all_goals conv => whnf
      · repeat' first | ((first | refine Sq.cons ?_ | refine Dr.cons ?_ | refine Sq.nil ?_ | (refine Dr.nil ?_; refine drawIf (by kernel_rfl) ?_) | refine Vc.region rfl ?_ | refine Vc.draw rfl (by kernel_rfl) ?_ | refine Vc.cond ?_ | refine Vc.block ?_ | refine Vc.ret ?_ | refine Vc.skip ?_ | refine Vc.exit ?_ | refine mkSl (by omega) (by omega) ?_); conv => whnf) | refine Vc.seq ?_ | (refine ifB_i (fun _ => ?_) (fun _ => ?_) <;> conv => whnf) | (refine ⟨_, impl_siteNew p hc hs, ?_⟩; conv => whnf) | (refine apN (by rw [lr]; show i + 1 ≤ _; omega) ?_; conv => whnf) | (refine w64 (by omega) (by omega) ?_; conv => whnf)
        refine ⟨i + 1, by omega, by simp only; omega, ?_⟩
        repeat' (first | exact True.intro | ((conv => whnf); first | exact True.intro | refine ⟨by rfl, ?_⟩ | refine ⟨by first | omega | (show (_ : Int) = _; first | omega | (dsimp only; omega)) | exact rep_succ eS (siteNew p) i, ?_⟩ | refine ⟨?_, ?_⟩))
      · (repeat' first | ((first | refine Sq.cons ?_ | refine Dr.cons ?_ | refine Sq.nil ?_ | (refine Dr.nil ?_; refine drawIf (by kernel_rfl) ?_) | refine Vc.region rfl ?_ | refine Vc.draw rfl (by kernel_rfl) ?_ | refine Vc.cond ?_ | refine Vc.block ?_ | refine Vc.ret ?_ | refine Vc.skip ?_ | refine Vc.exit ?_ | refine mkSl (by omega) (by omega) ?_); conv => whnf) | refine Vc.seq ?_)
        have e : i = p.Gives.length := by omega
        subst e
        refine ⟨?_, rfl⟩
        simp only [aWd, sSs, sXs, worldNew, List.map_replicate]
        rfl
end Cc
end
section
namespace Cc
open Go Go.AM
set_option maxRecDepth 100000
set_option maxHeartbeats 8000000
theorem apI {l : List Int} {k q : Prop} (hk : k) : (allPrim (ints l) ∧ k) ∨ q := .inl ⟨prim_ints l, hk⟩
theorem spec_copyActs (acts : List (List Line)) (h : cpA acts) : Sem P 192 [(.pure, .one (sAs acts))] [] (.one (sAs acts)) := by
  refine fn_okR (E := { E0 with fz := [(11, [704256, 704576]), (12, [384000])] }) E0_tab E0_ord (fn := Go.Proofs.Tryz.f192) (by kernel_rfl) (by kernel_rfl) (fun hb => ?_)
  have hla : (acts.map eA).length = acts.length := List.length_map ..
  have h100 := h.1
  conv => whnf
  (repeat' first | ((first | refine Sq.cons ?_ | refine Dr.cons ?_ | refine Sq.nil ?_ | (refine Dr.nil ?_; refine drawIf (by kernel_rfl) ?_) | refine Vc.region rfl ?_ | refine Vc.draw rfl (by kernel_rfl) ?_ | refine Vc.cond ?_ | refine Vc.block ?_ | refine Vc.ret ?_ | refine Vc.skip ?_ | refine Vc.exit ?_ | refine mkSl (by omega) (by omega) ?_); conv => whnf) | refine Vc.seq ?_)
  refine Vc.loop1 (fun (k : Nat) => k ≤ acts.length) (fun k => updL [0, 2, 55] [(4, I k), (3, .one (.ref 128000))] [(128000, .arr 40 ((acts.take k).map eA) false)]) (fun k => acts.length - k) 0 (Nat.zero_le _) ?_ (fun k hk => ?_)
  · repeat' (first | exact True.intro | ((conv => whnf); first | exact True.intro | refine ⟨by rfl, ?_⟩ | refine ⟨by first | omega | (show (_ : Int) = _; first | omega | (dsimp only; omega)), ?_⟩ | refine ⟨?_, ?_⟩))
  · have hlk : ((acts.take k).map eA).length = k := by rw [List.length_map, List.length_take]; omega
    conv => whnf
    (repeat' first | ((first | refine Sq.cons ?_ | refine Dr.cons ?_ | refine Sq.nil ?_ | (refine Dr.nil ?_; refine drawIf (by kernel_rfl) ?_) | refine Vc.region rfl ?_ | refine Vc.draw rfl (by kernel_rfl) ?_ | refine Vc.cond ?_ | refine Vc.block ?_ | refine Vc.ret ?_ | refine Vc.skip ?_ | refine Vc.exit ?_ | refine mkSl (by omega) (by omega) ?_); conv => whnf) | refine Vc.seq ?_)
    refine ifB_d (fun g => ?_) (fun g => ?_)
    all_goals conv => whnf
    · have hkl : k < acts.length := by omega
      have ha : (acts.getD k []).length ≤ 100 ∧ _ := h.2 _ (gd_mem hkl)
      have ha1 := ha.1
      repeat' first | ((first | refine Sq.cons ?_ | refine Dr.cons ?_ | refine Sq.nil ?_ | (refine Dr.nil ?_; refine drawIf (by kernel_rfl) ?_) | refine Vc.region rfl ?_ | refine Vc.draw rfl (by kernel_rfl) ?_ | refine Vc.cond ?_ | refine Vc.block ?_ | refine Vc.ret ?_ | refine Vc.skip ?_ | refine Vc.exit ?_ | refine mkSl (by omega) (by omega) ?_); conv => whnf) | refine Vc.seq ?_ | (refine ifB_i (fun _ => ?_) (fun _ => ?_) <;> conv => whnf) | (refine ixN (enc := eA) [] hkl ?_; conv => whnf)
      refine Vc.loop1 (fun (i : Nat) => i ≤ (acts.getD k []).length) (fun i => updL [0, 2, 3, 4] [(6, I i), (5, .one (.ref 384000))] [(384000, .arr 133 (((acts.getD k []).take i).map eL) false)]) (fun i => (acts.getD k []).length - i) 0 (Nat.zero_le _) ?_ (fun i hi => ?_)
      · repeat' (first | exact True.intro | ((conv => whnf); first | exact True.intro | refine ⟨by rfl, ?_⟩ | refine ⟨by first | omega | (show (_ : Int) = _; first | omega | (dsimp only; omega)), ?_⟩ | refine ⟨?_, ?_⟩))
      · have hlm : ((acts.getD k []).map eL).length = (acts.getD k []).length := List.length_map ..
        have hlo : (((acts.getD k []).take i).map eL).length = i := by rw [List.length_map, List.length_take]; omega
        conv => whnf
        (repeat' first | ((first | refine Sq.cons ?_ | refine Dr.cons ?_ | refine Sq.nil ?_ | (refine Dr.nil ?_; refine drawIf (by kernel_rfl) ?_) | refine Vc.region rfl ?_ | refine Vc.draw rfl (by kernel_rfl) ?_ | refine Vc.cond ?_ | refine Vc.block ?_ | refine Vc.ret ?_ | refine Vc.skip ?_ | refine Vc.exit ?_ | refine mkSl (by omega) (by omega) ?_); conv => whnf) | refine Vc.seq ?_)
        refine ixN (enc := eA) [] hkl ?_
        conv => whnf
        (repeat' first | ((first | refine Sq.cons ?_ | refine Dr.cons ?_ | refine Sq.nil ?_ | (refine Dr.nil ?_; refine drawIf (by kernel_rfl) ?_) | refine Vc.region rfl ?_ | refine Vc.draw rfl (by kernel_rfl) ?_ | refine Vc.cond ?_ | refine Vc.block ?_ | refine Vc.ret ?_ | refine Vc.skip ?_ | refine Vc.exit ?_ | refine mkSl (by omega) (by omega) ?_); conv => whnf) | refine Vc.seq ?_)
        refine ifB_d (fun g => ?_) (fun g => ?_)
        all_goals conv => whnf
        · have hf := ha.2 ((acts.getD k []).getD i default) (gd_mem (by omega))
          have lc := ints_len ((acts.getD k []).getD i default).Form.C
          have ld := ints_len ((acts.getD k []).getD i default).Form.D
          repeat' first | ((first | refine Sq.cons ?_ | refine Dr.cons ?_ | refine Sq.nil ?_ | (refine Dr.nil ?_; refine drawIf (by kernel_rfl) ?_) | refine Vc.region rfl ?_ | refine Vc.draw rfl (by kernel_rfl) ?_ | refine Vc.cond ?_ | refine Vc.block ?_ | refine Vc.ret ?_ | refine Vc.skip ?_ | refine Vc.exit ?_ | refine mkSl (by omega) (by omega) ?_); conv => whnf) | refine Vc.seq ?_ | (refine ifB_i (fun _ => ?_) (fun _ => ?_) <;> conv => whnf) | (refine ixN (enc := eA) [] hkl ?_; conv => whnf) | (refine ixN (enc := eL) default (by omega) ?_; conv => whnf) | (refine apI ?_; conv => whnf) | (refine apN (by simp only [List.length_nil]; omega) ?_; conv => whnf) | (refine apN (by rw [hlo]; show i + 1 ≤ _; omega) ?_; conv => whnf) | (refine w64 (by omega) (by omega) ?_; conv => whnf)
          refine ⟨i + 1, by omega, by simp only; omega, ?_⟩
          repeat' (first | exact True.intro | ((conv => whnf); first | exact True.intro | refine ⟨by rfl, ?_⟩ | refine ⟨by first | omega | (show (_ : Int) = _; first | omega | (dsimp only; omega)) | exact app_take (by omega), ?_⟩ | refine ⟨?_, ?_⟩))
        · have hend : (acts.getD k []).take i = (acts.getD k []) := List.take_of_length_le (by omega)
          repeat' first | ((first | refine Sq.cons ?_ | refine Dr.cons ?_ | refine Sq.nil ?_ | (refine Dr.nil ?_; refine drawIf (by kernel_rfl) ?_) | refine Vc.region rfl ?_ | refine Vc.draw rfl (by kernel_rfl) ?_ | refine Vc.cond ?_ | refine Vc.block ?_ | refine Vc.ret ?_ | refine Vc.skip ?_ | refine Vc.exit ?_ | refine mkSl (by omega) (by omega) ?_); conv => whnf) | refine Vc.seq ?_ | (refine ifB_i (fun _ => ?_) (fun _ => ?_) <;> conv => whnf) | (refine apN (by rw [hlk]; show k + 1 ≤ _; omega) ?_; conv => whnf) | (refine w64 (by omega) (by omega) ?_; conv => whnf)
          refine ⟨k + 1, by omega, by simp only; omega, ?_⟩
          repeat' (first | exact True.intro | ((conv => whnf); first | exact True.intro | refine ⟨by rfl, ?_⟩ | refine ⟨by first | omega | (show (_ : Int) = _; first | omega | (dsimp only; omega)) | exact (by rw [take_succ_getD hkl, List.map_append, hend]; rfl), ?_⟩ | refine ⟨?_, ?_⟩))
    · (repeat' first | ((first | refine Sq.cons ?_ | refine Dr.cons ?_ | refine Sq.nil ?_ | (refine Dr.nil ?_; refine drawIf (by kernel_rfl) ?_) | refine Vc.region rfl ?_ | refine Vc.draw rfl (by kernel_rfl) ?_ | refine Vc.cond ?_ | refine Vc.block ?_ | refine Vc.ret ?_ | refine Vc.skip ?_ | refine Vc.exit ?_ | refine mkSl (by omega) (by omega) ?_); conv => whnf) | refine Vc.seq ?_)
      have hend : acts.take k = acts := List.take_of_length_le (by omega)
      exact ⟨by rw [hend], rfl⟩
theorem spec_planCopy (p : Plan) (h : cpA p.Acts) (hg : p.Gives.length ≤ 100) (hs : p.Start.length ≤ 100) : Sem P 93 [(.pure, .agg (aPl p))] [] (.agg (aPl p)) := by
  have lg := ints_len p.Gives
  have ls := ints_len p.Start
  refine fn_okR (E := { E0 with keep := [2004] }) E0_tab E0_ord (fn := Go.Proofs.Tryz.f93) (by kernel_rfl) (by kernel_rfl) (fun hb => ?_)
  conv => whnf
  repeat' first | ((first | refine Sq.cons ?_ | refine Dr.cons ?_ | refine Sq.nil ?_ | (refine Dr.nil ?_; refine drawIf (by kernel_rfl) ?_) | refine Vc.region rfl ?_ | refine Vc.draw rfl (by kernel_rfl) ?_ | refine Vc.cond ?_ | refine Vc.block ?_ | refine Vc.ret ?_ | refine Vc.skip ?_ | refine Vc.exit ?_ | refine mkSl (by omega) (by omega) ?_); conv => whnf) | refine Vc.seq ?_ | (refine ifB_i (fun _ => ?_) (fun _ => ?_) <;> conv => whnf) | (refine ⟨_, spec_copyActs p.Acts h, ?_⟩; conv => whnf) | (refine apI ?_; conv => whnf) | (refine apN (by simp; omega) ?_; conv => whnf)
  exact ⟨rfl, rfl⟩
theorem spec_new (p : Plan) (hc : inB p.Clients 0 4 = true) : Sem P 193 [(.pure, .agg (aPl p))] [] (.one (sDs (List.replicate p.Clients.toNat Done.nil))) := by
  have h := inB_iff.1 hc
  refine fn_okR (E := E0) E0_tab E0_ord (fn := Go.Proofs.Tryz.f193) (by kernel_rfl) (by kernel_rfl) (fun hb => ?_)
  conv => whnf
  (repeat' first | ((first | refine Sq.cons ?_ | refine Dr.cons ?_ | refine Sq.nil ?_ | (refine Dr.nil ?_; refine drawIf (by kernel_rfl) ?_) | refine Vc.region rfl ?_ | refine Vc.draw rfl (by kernel_rfl) ?_ | refine Vc.cond ?_ | refine Vc.block ?_ | refine Vc.ret ?_ | refine Vc.skip ?_ | refine Vc.exit ?_ | refine mkSl (by omega) (by omega) ?_); conv => whnf) | refine Vc.seq ?_)
  refine Vc.loop1 (fun (i : Nat) => (i : Int) ≤ p.Clients) (fun i => updL [1, 2, 16] [(4, I i), (3, .one (.ref 128000))] [(128000, .arr 113 ((List.replicate i Done.nil).map eD) false)]) (fun i => p.Clients.toNat - i) 0 h.1 ?_ (fun i hi => ?_)
  · repeat' (first | exact True.intro | ((conv => whnf); first | exact True.intro | refine ⟨by rfl, ?_⟩ | refine ⟨by first | omega | (show (_ : Int) = _; first | omega | (dsimp only; omega)), ?_⟩ | refine ⟨?_, ?_⟩))
  · have lr : ((List.replicate i Done.nil).map eD).length = i := by simp
    conv => whnf
    (repeat' first | ((first | refine Sq.cons ?_ | refine Dr.cons ?_ | refine Sq.nil ?_ | (refine Dr.nil ?_; refine drawIf (by kernel_rfl) ?_) | refine Vc.region rfl ?_ | refine Vc.draw rfl (by kernel_rfl) ?_ | refine Vc.cond ?_ | refine Vc.block ?_ | refine Vc.ret ?_ | refine Vc.skip ?_ | refine Vc.exit ?_ | refine mkSl (by omega) (by omega) ?_); conv => whnf) | refine Vc.seq ?_)
    refine ifB_d (fun g => ?_) (fun g => ?_)
    all_goals conv => whnf
    · repeat' first | ((first | refine Sq.cons ?_ | refine Dr.cons ?_ | refine Sq.nil ?_ | (refine Dr.nil ?_; refine drawIf (by kernel_rfl) ?_) | refine Vc.region rfl ?_ | refine Vc.draw rfl (by kernel_rfl) ?_ | refine Vc.cond ?_ | refine Vc.block ?_ | refine Vc.ret ?_ | refine Vc.skip ?_ | refine Vc.exit ?_ | refine mkSl (by omega) (by omega) ?_); conv => whnf) | refine Vc.seq ?_ | (refine ifB_i (fun _ => ?_) (fun _ => ?_) <;> conv => whnf) | (refine apN (by rw [lr]; show i + 1 ≤ _; omega) ?_; conv => whnf) | (refine w64 (by omega) (by omega) ?_; conv => whnf)
      refine ⟨i + 1, by omega, by simp only; omega, ?_⟩
      repeat' (first | exact True.intro | ((conv => whnf); first | exact True.intro | refine ⟨by rfl, ?_⟩ | refine ⟨by first | omega | (show (_ : Int) = _; first | omega | (dsimp only; omega)) | exact rep_succ eD Done.nil i, ?_⟩ | refine ⟨?_, ?_⟩))
    · (repeat' first | ((first | refine Sq.cons ?_ | refine Dr.cons ?_ | refine Sq.nil ?_ | (refine Dr.nil ?_; refine drawIf (by kernel_rfl) ?_) | refine Vc.region rfl ?_ | refine Vc.draw rfl (by kernel_rfl) ?_ | refine Vc.cond ?_ | refine Vc.block ?_ | refine Vc.ret ?_ | refine Vc.skip ?_ | refine Vc.exit ?_ | refine mkSl (by omega) (by omega) ?_); conv => whnf) | refine Vc.seq ?_)
      exact ⟨by rw [show i = p.Clients.toNat by omega], rfl⟩
theorem spec_none (p : Plan) (hg : p.Gives.length ≤ 100) : Sem P 194 [(.pure, .agg (aPl p))] [] (.one (sGs (List.replicate p.Gives.length Got.nil))) := by
  have lg := ints_len p.Gives
  refine fn_okR (E := E0) E0_tab E0_ord (fn := Go.Proofs.Tryz.f194) (by kernel_rfl) (by kernel_rfl) (fun hb => ?_)
  conv => whnf
  (repeat' first | ((first | refine Sq.cons ?_ | refine Dr.cons ?_ | refine Sq.nil ?_ | (refine Dr.nil ?_; refine drawIf (by kernel_rfl) ?_) | refine Vc.region rfl ?_ | refine Vc.draw rfl (by kernel_rfl) ?_ | refine Vc.cond ?_ | refine Vc.block ?_ | refine Vc.ret ?_ | refine Vc.skip ?_ | refine Vc.exit ?_ | refine mkSl (by omega) (by omega) ?_); conv => whnf) | refine Vc.seq ?_)
  refine Vc.loop1 (fun (i : Nat) => i ≤ p.Gives.length) (fun i => updL [1, 2, 17] [(4, I i), (3, .one (.ref 128000))] [(128000, .arr 188 ((List.replicate i Got.nil).map eG) false)]) (fun i => p.Gives.length - i) 0 (Nat.zero_le _) ?_ (fun i hi => ?_)
  · repeat' (first | exact True.intro | ((conv => whnf); first | exact True.intro | refine ⟨by rfl, ?_⟩ | refine ⟨by first | omega | (show (_ : Int) = _; first | omega | (dsimp only; omega)), ?_⟩ | refine ⟨?_, ?_⟩))
  · have lr : ((List.replicate i Got.nil).map eG).length = i := by simp
    conv => whnf
    (repeat' first | ((first | refine Sq.cons ?_ | refine Dr.cons ?_ | refine Sq.nil ?_ | (refine Dr.nil ?_; refine drawIf (by kernel_rfl) ?_) | refine Vc.region rfl ?_ | refine Vc.draw rfl (by kernel_rfl) ?_ | refine Vc.cond ?_ | refine Vc.block ?_ | refine Vc.ret ?_ | refine Vc.skip ?_ | refine Vc.exit ?_ | refine mkSl (by omega) (by omega) ?_); conv => whnf) | refine Vc.seq ?_)
    refine ifB_d (fun g => ?_) (fun g => ?_)
    all_goals conv => whnf
    · repeat' first | ((first | refine Sq.cons ?_ | refine Dr.cons ?_ | refine Sq.nil ?_ | (refine Dr.nil ?_; refine drawIf (by kernel_rfl) ?_) | refine Vc.region rfl ?_ | refine Vc.draw rfl (by kernel_rfl) ?_ | refine Vc.cond ?_ | refine Vc.block ?_ | refine Vc.ret ?_ | refine Vc.skip ?_ | refine Vc.exit ?_ | refine mkSl (by omega) (by omega) ?_); conv => whnf) | refine Vc.seq ?_ | (refine ifB_i (fun _ => ?_) (fun _ => ?_) <;> conv => whnf) | (refine apN (by rw [lr]; show i + 1 ≤ _; omega) ?_; conv => whnf) | (refine w64 (by omega) (by omega) ?_; conv => whnf)
      refine ⟨i + 1, by omega, by simp only; omega, ?_⟩
      repeat' (first | exact True.intro | ((conv => whnf); first | exact True.intro | refine ⟨by rfl, ?_⟩ | refine ⟨by first | omega | (show (_ : Int) = _; first | omega | (dsimp only; omega)) | exact rep_succ eG Got.nil i, ?_⟩ | refine ⟨?_, ?_⟩))
    · (repeat' first | ((first | refine Sq.cons ?_ | refine Dr.cons ?_ | refine Sq.nil ?_ | (refine Dr.nil ?_; refine drawIf (by kernel_rfl) ?_) | refine Vc.region rfl ?_ | refine Vc.draw rfl (by kernel_rfl) ?_ | refine Vc.cond ?_ | refine Vc.block ?_ | refine Vc.ret ?_ | refine Vc.skip ?_ | refine Vc.exit ?_ | refine mkSl (by omega) (by omega) ?_); conv => whnf) | refine Vc.seq ?_)
      exact ⟨by rw [show i = p.Gives.length by omega], rfl⟩
theorem spec_clkNew (p : Plan) (hp : planOk p = true) : Sem P 94 [(.pure, .agg (aPl p))] [] (.agg (aK (clerkNew p))) := by
  have hs : p.Start.length ≤ 100 := by rw [plan_start hp]; decide
  have hg := plan_gives hp
  have ls := ints_len p.Start
  refine fn_okR (E := { E0 with keep := [4005, 4007] }) E0_tab E0_ord (fn := Go.Proofs.Tryz.f94) (by kernel_rfl) (by kernel_rfl) (fun hb => ?_)
  conv => whnf
  repeat' first | ((first | refine Sq.cons ?_ | refine Dr.cons ?_ | refine Sq.nil ?_ | (refine Dr.nil ?_; refine drawIf (by kernel_rfl) ?_) | refine Vc.region rfl ?_ | refine Vc.draw rfl (by kernel_rfl) ?_ | refine Vc.cond ?_ | refine Vc.block ?_ | refine Vc.ret ?_ | refine Vc.skip ?_ | refine Vc.exit ?_ | refine mkSl (by omega) (by omega) ?_); conv => whnf) | refine Vc.seq ?_ | (refine ifB_i (fun _ => ?_) (fun _ => ?_) <;> conv => whnf) | (refine ⟨_, spec_planOk p, ?_⟩; conv => whnf) | (refine apI ?_; conv => whnf) | (refine apN (by simp; omega) ?_; conv => whnf) | (refine ⟨_, spec_new p (plan_clients hp), ?_⟩; conv => whnf) | (refine ⟨_, spec_none p (by omega), ?_⟩; conv => whnf)
  · exfalso; simp_all
  · exact ⟨rfl, rfl⟩
theorem spec_sitNew (p : Plan) (hp : planOk p = true) : Sem P 95 [(.pure, .agg (aPl p))] [] (.agg (aS (siteNew p))) := by
  have hs : p.Start.length ≤ 100 := by rw [plan_start hp]; decide
  have ls := ints_len p.Start
  refine fn_okR (E := { E0 with keep := [4006] }) E0_tab E0_ord (fn := Go.Proofs.Tryz.f95) (by kernel_rfl) (by kernel_rfl) (fun hb => ?_)
  conv => whnf
  repeat' first | ((first | refine Sq.cons ?_ | refine Dr.cons ?_ | refine Sq.nil ?_ | (refine Dr.nil ?_; refine drawIf (by kernel_rfl) ?_) | refine Vc.region rfl ?_ | refine Vc.draw rfl (by kernel_rfl) ?_ | refine Vc.cond ?_ | refine Vc.block ?_ | refine Vc.ret ?_ | refine Vc.skip ?_ | refine Vc.exit ?_ | refine mkSl (by omega) (by omega) ?_); conv => whnf) | refine Vc.seq ?_ | (refine ifB_i (fun _ => ?_) (fun _ => ?_) <;> conv => whnf) | (refine ⟨_, spec_planOk p, ?_⟩; conv => whnf) | (refine apI ?_; conv => whnf) | (refine apN (by simp; omega) ?_; conv => whnf) | (refine ⟨_, spec_new p (plan_clients hp), ?_⟩; conv => whnf)
  · exfalso; simp_all
  · exact ⟨rfl, rfl⟩
theorem spec_wldNew0 (p : Plan) (hp : planOk p = false) : Sem P 23 [(.pure, .agg (aPl p))] [] (.agg (aWd World.nil)) := by
  refine fn_okR (E := E0) E0_tab E0_ord (fn := Go.Proofs.Tryz.f23) (by kernel_rfl) (by kernel_rfl) (fun hb => ?_)
  conv => whnf
  repeat' first | ((first | refine Sq.cons ?_ | refine Dr.cons ?_ | refine Sq.nil ?_ | (refine Dr.nil ?_; refine drawIf (by kernel_rfl) ?_) | refine Vc.region rfl ?_ | refine Vc.draw rfl (by kernel_rfl) ?_ | refine Vc.cond ?_ | refine Vc.block ?_ | refine Vc.ret ?_ | refine Vc.skip ?_ | refine Vc.exit ?_ | refine mkSl (by omega) (by omega) ?_); conv => whnf) | refine Vc.seq ?_ | (refine ifB_i (fun _ => ?_) (fun _ => ?_) <;> conv => whnf) | (refine ⟨_, spec_planOk p, ?_⟩; conv => whnf)
  all_goals first
    | exact ⟨rfl, rfl⟩
    | (exfalso; simp_all; done)
    | trace_state
theorem spec_wldNew (p : Plan) (hp : planOk p = true) : Sem P 23 [(.pure, .agg (aPl p))] [] (.agg (aWd (worldNew p))) := by
  have hc := plan_clients hp
  have h := inB_iff.1 hc
  have hs : p.Start.length ≤ 100 := by rw [plan_start hp]; decide
  have hg := plan_gives hp
  have lg := ints_len p.Gives
  refine fn_okR (E := { E0 with keep := [4001, 4003] }) E0_tab E0_ord (fn := Go.Proofs.Tryz.f23) (by kernel_rfl) (by kernel_rfl) (fun hb => ?_)
  conv => whnf
  repeat' first | ((first | refine Sq.cons ?_ | refine Dr.cons ?_ | refine Sq.nil ?_ | (refine Dr.nil ?_; refine drawIf (by kernel_rfl) ?_) | refine Vc.region rfl ?_ | refine Vc.draw rfl (by kernel_rfl) ?_ | refine Vc.cond ?_ | refine Vc.block ?_ | refine Vc.ret ?_ | refine Vc.skip ?_ | refine Vc.exit ?_ | refine mkSl (by omega) (by omega) ?_); conv => whnf) | refine Vc.seq ?_ | (refine ifB_i (fun _ => ?_) (fun _ => ?_) <;> conv => whnf) | (refine ⟨_, spec_planOk p, ?_⟩; conv => whnf) | (refine ⟨_, spec_planCopy p (cat_cpA (plan_cat hp)) (by omega) hs, ?_⟩; conv => whnf) | (refine ⟨_, spec_clkNew p hp, ?_⟩; conv => whnf)
  · exfalso; simp_all
  · refine Vc.loop1 (fun (i : Nat) => i ≤ p.Gives.length) (fun i => updL [1, 2, 3, 5, 29, 30, 31, 32, 33, 34, 35, 36, 37, 38, 39, 40, 41] [(4, I i)] [(256389, .arr 95 ((List.replicate i (siteNew p)).map eS) false)]) (fun i => p.Gives.length - i) 0 (Nat.zero_le _) ?_ (fun i hi => ?_)
    · repeat' (first | exact True.intro | ((conv => whnf); first | exact True.intro | refine ⟨by rfl, ?_⟩ | refine ⟨by first | omega | (show (_ : Int) = _; first | omega | (dsimp only; omega)), ?_⟩ | refine ⟨?_, ?_⟩))
    · have lr : ((List.replicate i (siteNew p)).map eS).length = i := by simp
      conv => whnf
      (repeat' first | ((first | refine Sq.cons ?_ | refine Dr.cons ?_ | refine Sq.nil ?_ | (refine Dr.nil ?_; refine drawIf (by kernel_rfl) ?_) | refine Vc.region rfl ?_ | refine Vc.draw rfl (by kernel_rfl) ?_ | refine Vc.cond ?_ | refine Vc.block ?_ | refine Vc.ret ?_ | refine Vc.skip ?_ | refine Vc.exit ?_ | refine mkSl (by omega) (by omega) ?_); conv => whnf) | refine Vc.seq ?_)
      refine ifB_d (fun g => ?_) (fun g => ?_)
      all_goals conv => whnf
      · repeat' first | ((first | refine Sq.cons ?_ | refine Dr.cons ?_ | refine Sq.nil ?_ | (refine Dr.nil ?_; refine drawIf (by kernel_rfl) ?_) | refine Vc.region rfl ?_ | refine Vc.draw rfl (by kernel_rfl) ?_ | refine Vc.cond ?_ | refine Vc.block ?_ | refine Vc.ret ?_ | refine Vc.skip ?_ | refine Vc.exit ?_ | refine mkSl (by omega) (by omega) ?_); conv => whnf) | refine Vc.seq ?_ | (refine ifB_i (fun _ => ?_) (fun _ => ?_) <;> conv => whnf) | (refine ⟨_, spec_sitNew p hp, ?_⟩; conv => whnf) | (refine apN (by rw [lr]; show i + 1 ≤ _; omega) ?_; conv => whnf) | (refine w64 (by omega) (by omega) ?_; conv => whnf)
        refine ⟨i + 1, by omega, by simp only; omega, ?_⟩
        repeat' (first | exact True.intro | ((conv => whnf); first | exact True.intro | refine ⟨by rfl, ?_⟩ | refine ⟨by first | omega | (show (_ : Int) = _; first | omega | (dsimp only; omega)) | exact rep_succ eS (siteNew p) i, ?_⟩ | refine ⟨?_, ?_⟩))
      · have e : i = p.Gives.length := by omega
        subst e
        clear g hi
        (repeat' first | ((first | refine Sq.cons ?_ | refine Dr.cons ?_ | refine Sq.nil ?_ | (refine Dr.nil ?_; refine drawIf (by kernel_rfl) ?_) | refine Vc.region rfl ?_ | refine Vc.draw rfl (by kernel_rfl) ?_ | refine Vc.cond ?_ | refine Vc.block ?_ | refine Vc.ret ?_ | refine Vc.skip ?_ | refine Vc.exit ?_ | refine mkSl (by omega) (by omega) ?_); conv => whnf) | refine Vc.seq ?_)
        refine Vc.loop1 (fun (k : Nat) => (k : Int) ≤ p.Clients) (fun k => updL [1, 2, 3, 41] [(5, I k)] [(256396, .arr 147 ((List.replicate k Client.nil).map eX) false)]) (fun k => p.Clients.toNat - k) 0 h.1 ?_ (fun k hk => ?_)
        · repeat' (first | exact True.intro | ((conv => whnf); first | exact True.intro | refine ⟨by rfl, ?_⟩ | refine ⟨by first | omega | (show (_ : Int) = _; first | omega | (dsimp only; omega)), ?_⟩ | refine ⟨?_, ?_⟩))
        · have lr : ((List.replicate k Client.nil).map eX).length = k := by simp
          conv => whnf
          (repeat' first | ((first | refine Sq.cons ?_ | refine Dr.cons ?_ | refine Sq.nil ?_ | (refine Dr.nil ?_; refine drawIf (by kernel_rfl) ?_) | refine Vc.region rfl ?_ | refine Vc.draw rfl (by kernel_rfl) ?_ | refine Vc.cond ?_ | refine Vc.block ?_ | refine Vc.ret ?_ | refine Vc.skip ?_ | refine Vc.exit ?_ | refine mkSl (by omega) (by omega) ?_); conv => whnf) | refine Vc.seq ?_)
          refine ifB_d (fun g => ?_) (fun g => ?_)
          all_goals conv => whnf
          · repeat' first | ((first | refine Sq.cons ?_ | refine Dr.cons ?_ | refine Sq.nil ?_ | (refine Dr.nil ?_; refine drawIf (by kernel_rfl) ?_) | refine Vc.region rfl ?_ | refine Vc.draw rfl (by kernel_rfl) ?_ | refine Vc.cond ?_ | refine Vc.block ?_ | refine Vc.ret ?_ | refine Vc.skip ?_ | refine Vc.exit ?_ | refine mkSl (by omega) (by omega) ?_); conv => whnf) | refine Vc.seq ?_ | (refine ifB_i (fun _ => ?_) (fun _ => ?_) <;> conv => whnf) | (refine apN (by rw [lr]; show k + 1 ≤ _; omega) ?_; conv => whnf) | (refine w64 (by omega) (by omega) ?_; conv => whnf)
            refine ⟨k + 1, by omega, by simp only; omega, ?_⟩
            repeat' (first | exact True.intro | ((conv => whnf); first | exact True.intro | refine ⟨by rfl, ?_⟩ | refine ⟨by first | omega | (show (_ : Int) = _; first | omega | (dsimp only; omega)) | exact rep_succ eX Client.nil k, ?_⟩ | refine ⟨?_, ?_⟩))
          · (repeat' first | ((first | refine Sq.cons ?_ | refine Dr.cons ?_ | refine Sq.nil ?_ | (refine Dr.nil ?_; refine drawIf (by kernel_rfl) ?_) | refine Vc.region rfl ?_ | refine Vc.draw rfl (by kernel_rfl) ?_ | refine Vc.cond ?_ | refine Vc.block ?_ | refine Vc.ret ?_ | refine Vc.skip ?_ | refine Vc.exit ?_ | refine mkSl (by omega) (by omega) ?_); conv => whnf) | refine Vc.seq ?_)
            have e : k = p.Clients.toNat := by omega
            subst e
            exact ⟨rfl, rfl⟩
end Cc
end
section
namespace Cc
open Go Go.AM
set_option maxRecDepth 100000
theorem new_ok {p : Plan} (hp : planOk p = true) : wldOk (worldNew p) = true := worldF.2 (worldNew_ok (planF hp))
theorem plus_zero {v : List Int} (h : v.length = 3) : plus v [0, 0, 0] = v := by
  obtain ⟨a, b, c, rfl⟩ := len3 h
  simp [plus]
theorem fold_new (p : Plan) {v : List Int} (h : v.length = 3) : ∀ n : Nat, (List.replicate n (siteNew p)).foldl (fun v s => if s.Round = 0 then plus v s.Added else v) v = v
  | 0 => rfl
  | n + 1 => by
    have e : (if (siteNew p).Round = 0 then plus v (siteNew p).Added else v) = v := by
      rw [if_pos (show (siteNew p).Round = 0 from rfl)]; exact plus_zero h
    rw [List.replicate_succ, List.foldl_cons, e]; exact fold_new p h n
theorem new_vals' {p : Plan} (hp : planOk p = true) : valsOf (worldNew p) = p.Start := fold_new p (plan_start hp) _
theorem new_vals {p : Plan} (hp : planOk p = true) : wldVals (worldNew p) = p.Start := by unfold wldVals; rw [if_pos (new_ok hp)]; exact new_vals' hp
theorem new_rest {p : Plan} (hp : planOk p = true) : wldRest (worldNew p) = true := by
  unfold wldRest
  rw [new_ok hp]
  simp [worldNew, clerkNew, siteNew, Client.nil]
theorem new_same {p : Plan} (hp : planOk p = true) : serSame (worldNew p) = true := by
  unfold serSame
  rw [new_ok hp, new_vals' hp]
  have h : serRun p [] = ([], p.Start) := by unfold serRun; rw [hp]; rfl
  show (true && decide (serRun p [] = ([], p.Start))) = true
  rw [h]; simp
theorem new_behind {p : Plan} (hp : planOk p = true) : wldBehind (worldNew p) = [] := by
  unfold wldBehind
  rw [if_pos (new_ok hp)]
  have e : ((List.range (worldNew p).Sites.length).filter fun i => decide (((worldNew p).Sites.getD i Site.nil).Round ≠ (worldNew p).Clerk.Round)) = [] := by
    rw [List.filter_eq_nil_iff]
    intro i hi
    have hi := List.mem_range.1 hi
    have : (worldNew p).Sites.getD i Site.nil = siteNew p := (List.mem_replicate.1 (by rw [List.getD_eq_getElem?_getD, List.getElem?_eq_getElem hi]; exact List.getElem_mem hi)).2
    rw [this]; simp [siteNew, worldNew, clerkNew]
  rw [e]; rfl
theorem nil_not : wldOk World.nil = false := by decide
end Cc
end
section
namespace Cc
open Go Go.AM
set_option maxRecDepth 100000
set_option maxHeartbeats 8000000
theorem draw_wldNew (bs : List UInt8) : ∃ res, (∃ (p : Plan), planS p ∧ res = .agg (ePl p)) ∧ Sem P 20 [(.pure, .one (sBy bs))] [] res := by
  have key : ∃ res outs, (outs = [] ∧ ∃ (p : Plan), planS p ∧ res = .agg (ePl p)) ∧ Sem P 20 [(.pure, .one (sBy bs))] outs res := by
    refine fn_someR (E := E0) E0_tab E0_ord (fn := Go.Proofs.Tryz.f20) (by kernel_rfl) (by kernel_rfl) ?_
    conv => whnf
    repeat' first | ((first | refine Sq.cons ?_ | refine Dr.cons ?_ | refine Sq.nil ?_ | (refine Dr.nil ?_; refine drawIf (by kernel_rfl) ?_) | refine Vc.region rfl ?_ | refine Vc.draw rfl (by kernel_rfl) ?_ | refine Vc.cond ?_ | refine Vc.block ?_ | refine Vc.ret ?_ | refine Vc.skip ?_ | refine Vc.exit ?_ | refine mkSl (by omega) (by omega) ?_); conv => whnf) | refine Vc.seq ?_ | (refine ifB_i (fun _ => ?_) (fun _ => ?_) <;> conv => whnf) | (refine callS (draw_open bs) ?_; rintro _ ⟨cs, hcs, rfl⟩; conv => whnf) | (refine callIo (draw_anyPlan cs _ _ (by omega) (by omega) hcs) ?_; rintro _ _ ⟨p, b, hb, hp, rfl, rfl⟩; conv => whnf)
    exact ⟨rfl, p, hp, rfl⟩
  obtain ⟨r, o, ⟨rfl, h⟩, h4⟩ := key
  exact ⟨r, h, h4⟩
theorem law_wldNew (bs : List UInt8) : Sem P 4 [(.pure, .one (sBy bs))] [] (B true) := by
  refine fn_okR (E := E0) E0_tab E0_ord (fn := Go.Proofs.Tryz.f4) (by kernel_rfl) (by kernel_rfl) (fun hb => ?_)
  have lb : (bytesRows bs).length = bs.length := List.length_map ..
  conv => whnf
  repeat' first | ((first | refine Sq.cons ?_ | refine Dr.cons ?_ | refine Sq.nil ?_ | (refine Dr.nil ?_; refine drawIf (by kernel_rfl) ?_) | refine Vc.region rfl ?_ | refine Vc.draw rfl (by kernel_rfl) ?_ | refine Vc.cond ?_ | refine Vc.block ?_ | refine Vc.ret ?_ | refine Vc.skip ?_ | refine Vc.exit ?_ | refine mkSl (by omega) (by omega) ?_); conv => whnf) | refine Vc.seq ?_ | (refine ifB_i (fun _ => ?_) (fun _ => ?_) <;> conv => whnf) | (refine callS (draw_wldNew bs) ?_; rintro _ ⟨p, hp, rfl⟩; conv => whnf)
  · exact ⟨rfl, rfl⟩
  · cases hok : planOk p with
    | false =>
      repeat' first | ((first | refine Sq.cons ?_ | refine Dr.cons ?_ | refine Sq.nil ?_ | (refine Dr.nil ?_; refine drawIf (by kernel_rfl) ?_) | refine Vc.region rfl ?_ | refine Vc.draw rfl (by kernel_rfl) ?_ | refine Vc.cond ?_ | refine Vc.block ?_ | refine Vc.ret ?_ | refine Vc.skip ?_ | refine Vc.exit ?_ | refine mkSl (by omega) (by omega) ?_); conv => whnf) | refine Vc.seq ?_ | (refine ifB_i (fun _ => ?_) (fun _ => ?_) <;> conv => whnf) | (refine ⟨_, impl_wldNew0 p hok, ?_⟩; conv => whnf) | (refine ⟨_, spec_wldNew0 p hok, ?_⟩; conv => whnf) | (refine ⟨_, co_world World.nil World.nil, ?_⟩; conv => whnf) | (refine ⟨_, spec_planOk p, ?_⟩; conv => whnf) | (refine ⟨_, impl_wldOk World.nil, ?_⟩; conv => whnf) | (refine ⟨_, co_holds, ?_⟩; conv => whnf)
      all_goals first | exact ⟨rfl, rfl⟩ | (exfalso; simp_all [nil_not]; done) | trace_state
    | true =>
      repeat' first | ((first | refine Sq.cons ?_ | refine Dr.cons ?_ | refine Sq.nil ?_ | (refine Dr.nil ?_; refine drawIf (by kernel_rfl) ?_) | refine Vc.region rfl ?_ | refine Vc.draw rfl (by kernel_rfl) ?_ | refine Vc.cond ?_ | refine Vc.block ?_ | refine Vc.ret ?_ | refine Vc.skip ?_ | refine Vc.exit ?_ | refine mkSl (by omega) (by omega) ?_); conv => whnf) | refine Vc.seq ?_ | (refine ifB_i (fun _ => ?_) (fun _ => ?_) <;> conv => whnf) | (refine ⟨_, impl_wldNew p hok, ?_⟩; conv => whnf) | (refine ⟨_, spec_wldNew p hok, ?_⟩; conv => whnf) | (refine ⟨_, co_world (worldNew p) (worldNew p), ?_⟩; conv => whnf) | (refine ⟨_, spec_planOk p, ?_⟩; conv => whnf) | (refine ⟨_, impl_wldOk (worldNew p), ?_⟩; conv => whnf) | (refine ⟨_, impl_wldVals (worldNew p), ?_⟩; conv => whnf) | (refine ⟨_, co_ints _ _, ?_⟩; conv => whnf) | (refine ⟨_, impl_wldRest (worldNew p), ?_⟩; conv => whnf) | (refine ⟨_, impl_serSame (worldNew p), ?_⟩; conv => whnf) | (refine ⟨_, impl_wldBehind (worldNew p), ?_⟩; conv => whnf) | (refine w64 (by simp [worldNew]) (by simp [worldNew]) ?_; conv => whnf)
      all_goals first
        | exact ⟨rfl, rfl⟩
        | (exfalso; simp_all [new_ok, new_vals, new_rest, new_same, new_behind]; done) | (exfalso; simp_all [worldNew, new_behind]; done)
        | exact rB (by rw [new_behind hok]; rfl)
        | trace_state
end Cc
end
